import PyProof.Rows.All
import Wide.All
import OpenK.AllK
import Wide.FinOn
import PySem.Challenge.RW_np0081_01
set_option Elab.async false
set_option maxRecDepth 1000000
set_option maxHeartbeats 8000000
set_option linter.unusedVariables false
set_option linter.unusedSimpArgs false
namespace Mine
open PySem PySem.W PyProof.Rows
open PySem.Calls PySem.Spec
local macro_rules | `(tactic| omega) => `(tactic| lia)

section
open PyProof.Rows.LCg
set_option Elab.async false
noncomputable def fldNames : List Str := ["total", "plist", "left", "right", "parent", "root", "tree"]
noncomputable def clsOk (K : Frag) (C : Addr) : Bool :=
  hasDictIn K C && findIn K (.ref C) "__setattr__" == some (some (.builtin "object.__setattr__")) && plainOver K C && fldNames.all fun x => plainGet K C x && findIn K (.ref C) x == some none
noncomputable def bltNames : List Str := ["len", "list", "abs", "dict", "max", "min"]
noncomputable def rangeOf : Expr → Option Expr
  | .Call (.Name f _) [x] [] _ => if f = "range" then some x else none
  | _ => none
noncomputable abbrev KO := Str → Option NameKind
noncomputable def plainArg : Expr → Bool
  | .Starred .. => false
  | _ => true
noncomputable def notSlice : Expr → Bool
  | .Slice .. => false
  | _ => true
noncomputable def baseOk : Expr → Bool
  | .Call (.Name ..) [] [] _ => false
  | _ => true
noncomputable def isName : Expr → Bool
  | .Name .. => true
  | _ => false
noncomputable def notDisp : Expr → Bool
  | .Set .. => false
  | _ => true
noncomputable def tgtOk (ok : Str → Bool) : Nat → Expr → Bool
  | _ + 1, .Name x _ => ok x
  | n + 1, .Tuple ts _ _ => ts.all (tgtOk ok n)
  | _, _ => false
noncomputable def relK (sc : Scope) (ko : KO) : List (Str × NameKind) := sc.names.map fun (n, k) => if (k == .free && ko n == some .cell) then (n, .cell) else (n, k)
noncomputable def scOk (sc : Scope) (ko : KO) : Bool :=
  (sc.kind == .function) && sc.names.all (fun y => y.2 != .cell) && sc.names.all (fun y => y.2 != .local || sc.names.lookup y.1 == some .local) &&
  sc.names.all (fun y => y.2 != .free || ko y.1 == some .cell) && !(sc.isGenerator || sc.isCoroutine) && decide ((sc.names.map (·.1)).Nodup)
noncomputable def optAll (f : Expr → Bool) : Option Expr → Bool
  | none => true
  | some e => f e
noncomputable def dbg (x : Str) : Bool := x == "__debug__" || x == "__classdict__"
noncomputable def fnNames : List Str := (["Interval", "IntervalTree", "total_of", "own_length", "text_length", "put_in_stead", "set_left", "set_right", "rotate_right", "rotate_left", "right_turn_helps", "left_turn_helps", "settle", "settle_up", "add_above", "find_interval", "leftmost", "rightmost", "following", "preceding", "put_behind", "put_ahead", "split_at", "drop_interval", "insert_interval", "delete_range", "interval_rows", "tree_error", "eq", "plist_find", "plist_with", "holds_pair", "same_plist", "plist_added", "plist_removed", "TextProps", "props_of_rows", "properties_at", "range_nodes", "join_at", "join_range", "put_property", "add_properties", "set_properties", "remove_properties", "rows_between", "text_inserted", "text_deleted", "copied_props", "graft", "_law_draw", "_law_value", "_law_plist", "_law_seen", "_law_range", "_law_turned", "_law_range_done", "_law_done", "_law_is_right", "law"] : List String).map Str.ofString
noncomputable def isRefK (K : Frag) : Option (Option Value) → Bool
  | some (some (.ref a)) => keepIn K (.ref a)
  | _ => false
noncomputable def fnsOk (K : Frag) : Bool := fnNames.all fun f => isRefK K (nsIn K mainGlobals f)
noncomputable def chkI (rec : KO → Expr → Bool) (ko : KO) (e : Expr) : Bool :=
  match rangeOf e with
  | some x => (ko "range" == some .globalImplicit) && !dbg "range" && rec ko x && plainArg x
  | none => rec ko e
noncomputable def chkS (rec : KO → Expr → Bool) (ko : KO) (e : Expr) : Bool :=
  match e with
  | .Name x _ => !dbg x
  | .Constant .. => true
  | .BinOp l _ r _ => rec ko l && rec ko r
  | .UnaryOp _ x _ => rec ko x
  | .BoolOp _ vs _ => vs.all (rec ko)
  | .Compare l ops rs _ => rec ko l && rs.all (rec ko) && rs.all notDisp && (ops.length == rs.length)
  | .IfExp t b o _ => rec ko t && rec ko b && rec ko o
  | .Attribute v _ _ => rec ko v && baseOk v
  | .Subscript v (.Slice lo hi none _) _ => isName v && rec ko v && optAll (rec ko) lo && optAll (rec ko) hi
  | .Subscript v i _ => rec ko v && rec ko i && notSlice i
  | .List es _ => es.all (rec ko) && es.all plainArg && decide (es.length ≤ 100)
  | .Tuple es _ _ => es.all (rec ko) && es.all plainArg && decide (es.length ≤ 100)
  | .Dict [] [] _ => true
  | .Call (.Name f _) args [] _ => (ko f == some .globalImplicit) && !dbg f && args.all plainArg &&
      (if f = "isinstance" then (match args with | [x, .Name b _] => (ko b == some .globalImplicit) && !dbg b && rec ko x | _ => false) else args.all (rec ko) && (f ∈ bltNames || f ∈ fnNames))
  | .Call (.Attribute o _ apos) args [] pos => rec ko o && baseOk o && args.all (rec ko) && args.all plainArg && (apos.endLine == pos.line) && decide (args.length < 10)
  | .ListComp elt [⟨t, it, ifs, 0⟩] sc _ => scOk sc ko && chkI rec ko it && notDisp it && tgtOk (fun x => sc.names.lookup x == some .local) 3 t &&
      ifs.all (rec fun x => (relK sc ko).lookup x) && rec (fun x => (relK sc ko).lookup x) elt
  | _ => false
noncomputable def chkE : Nat → KO → Expr → Bool
  | 0, _, _ => false
  | n + 1, ko, e => chkS (chkE n) ko e
noncomputable def bltFree (K : Frag) : Bool := bltNames.all (fun x => nsIn K mainGlobals x == some none) && nsIn K mainGlobals "isinstance" == some none && nsIn K mainGlobals "bool" == some none && nsIn K mainGlobals "range" == some none
noncomputable def starOne : Expr → Bool
  | .Starred .. => true
  | _ => false
noncomputable def lineOf (ts : List Expr) : Nat := (ts.head?.map (·.pos.line)).getD 0
noncomputable def swapNames (ko : KO) (ts : List Expr) : List Str := ts.filterMap fun
  | .Name id pos => if ko id == some .local && pos.line == lineOf ts then some id else none
  | _ => none
noncomputable def swapA (ts vs : List Expr) : Bool := !(ts.length == 2 || ts.length == 3) || vs.length != ts.length
noncomputable def swapC (ko : KO) (ts : List Expr) : Bool := (swapNames ko ts).length != ts.length || (swapNames ko ts).eraseDups.length != (swapNames ko ts).length
noncomputable def swapN (ko : KO) (ts vs : List Expr) : Option (List Str) :=
  if swapA ts vs then none else if vs.any starOne then none else if swapC ko ts then none else some (swapNames ko ts)
noncomputable def nameOf : Expr → Option Str
  | .Name id _ => some id
  | _ => none
noncomputable def swapOk (ko : KO) (ts vs : List Expr) : Bool := match swapN ko ts vs with
  | none => true
  | some names => !(vs.all (foldedForSure 8)) && !(vs.all (constantsAlone 8)) && (ts.map nameOf == names.map some) && decide names.Nodup
noncomputable def tOk (ko : KO) (x : Str) : Bool := ko x == some .local || ko x == some .cell
noncomputable def isComp : Expr → Bool
  | .ListComp .. => true
  | .SetComp .. => true
  | .DictComp .. => true
  | _ => false
noncomputable def swapB (ko : KO) (value target : Expr) : Bool := match value, target with
  | .ListComp _ _ scope cpos, .Name t pos => ko t == some .local && pos.line == cpos.line && !(scope.names.any fun (n, k) => n == t && (k == .local || k == .cell))
  | _, _ => false
noncomputable def listComp : Expr → Bool
  | .ListComp .. => true
  | _ => false
noncomputable def tgtSub (chk : KO → Expr → Bool) (ko : KO) (e t : Expr) : Bool := match t with
  | .Attribute o _ _ => chk ko o && !isComp e
  | .Subscript o i _ => chk ko o && chk ko i && notSlice i && !isComp e
  | .Name x _ => tOk ko x && (listComp e || !isComp e)
  | .Tuple ts _ _ => tgtOk (tOk ko) 3 t && !isComp e && (match e with | .Tuple vs _ _ => swapOk ko ts vs | _ => true)
  | _ => false
noncomputable def chkStS (chk : KO → Expr → Bool) (ko : KO) (rec : Stmt → Bool) : Stmt → Bool
  | .Assign [t] e _ => chk ko e && tgtSub chk ko e t
  | .Expr e _ => chk ko e && !isComp e
  | .If t b o _ => chk ko t && b.all rec && o.all rec
  | .Return (some e) _ => chk ko e
  | .Return none _ => true
  | .While t b [] _ => chk ko t && b.all rec
  | .For t it b [] _ => chkI chk ko it && notDisp it && tgtOk (tOk ko) 3 t && b.all rec
  | .Pass _ => true
  | _ => false
noncomputable def chkSt (ko : KO) : Nat → Stmt → Bool
  | 0, _ => false
  | n + 1, st => chkStS (chkE 20) ko (chkSt ko n) st
noncomputable def plainPs (p : Arguments) : Bool := p.posonlyargs.isEmpty && p.kwonlyargs.isEmpty && p.vararg.isNone && p.kwarg.isNone && decide ((p.args.map (·.arg)).Nodup)
noncomputable def chkFn (params : Arguments) (scope : Scope) (body : List Stmt) : Bool :=
  plainPs params && scope.kind == .function && !scope.isCoroutine && !scope.isGenerator &&
  params.args.all (fun a => scope.names.lookup a.arg == some .local || scope.names.lookup a.arg == some .cell) &&
  decide ((cellsFrom 0 scope.names []).map (·.1)).Nodup && body.all (chkSt (fun x => scope.names.lookup x) 20)
noncomputable def isNone : Value → Bool
  | .none => true
  | _ => false
noncomputable def fnOfObj (K : Frag) : Option Obj → Option (Arguments × Scope × List Stmt)
  | some ⟨_, _, .func ⟨_, qual, ps, .stmts b, sc, gl, [], dV, _, _, _, _, cdv, _, bi⟩, _⟩ =>
    if isNone dV && gl == mainGlobals && bi == builtinsNs && codeIn K cdv qual then some (ps, sc, b) else none
  | _ => none
noncomputable def fnA (K : Frag) (a : Addr) : Option (Arguments × Scope × List Stmt) := fnOfObj K (K.lookup a)
noncomputable def addrOf (K : Frag) (f : Str) : Option Addr := match nsIn K mainGlobals f with
  | some (some (.ref a)) => some a
  | _ => none
noncomputable def fnD (K : Frag) (f : Str) : Option (Arguments × Scope × List Stmt) := (addrOf K f).bind (fnA K)
noncomputable abbrev PW : Program := PySem.Challenge.pw_np0081_01
noncomputable def clsInit (K : Frag) (C : Addr) : Option Addr := match findIn K (.ref C) "__init__" with
  | some (some (.ref f)) => if makesIn K C && isFn K (.ref f) && clsOk K C then some f else none
  | _ => none
noncomputable def defRow : Stmt → Option (Str × Arguments × Scope × List Stmt)
  | .FunctionDef n ps b _ _ _ sc _ _ _ => some (n, ps, sc, b)
  | _ => none
noncomputable def initRow : Stmt → Option (Str × Arguments × Scope × List Stmt)
  | .ClassDef n _ _ b _ _ _ _ _ _ _ => (b.filterMap defRow).head?.map fun r => (n, r.2)
  | _ => none
noncomputable def defTab : List (Str × Arguments × Scope × List Stmt) := PW.main.body.filterMap defRow
noncomputable def clsTab : List (Str × Addr × Arguments × Scope × List Stmt) := ((PW.main.body.filterMap initRow).zip [38, 59, 351]).map fun r => (r.1.1, r.2, r.1.2)

end

set_option Elab.async false
theorem said : OpenLaw.wellSaid PySem.Challenge.rw_np0081_01 = true := by
  rw [PySem.W.Fast.te9446332074065402090]
  kernel_rfl
noncomputable def theQ : Program := view PW [64]
noncomputable def loose : List Str := (defTab.map (·.1) ++ clsTab.map (·.1)).filter fun x => x != "law"
noncomputable def xt (s : Shared) : Bool := xlAt theQ [] s && recOk [] s
noncomputable def fragRow (p : Obj × Nat) : Option (Addr × Obj) := match p.1 with
  | ⟨_, _, .freed, _⟩ => none
  | o => some (p.2, o)
noncomputable def fragOf (h : Heap) : Frag := h.objs.toList.zipIdx.filterMap fragRow
noncomputable def obs (s : Shared) := (fnsOk (fragOf s.heap) && bltFree (fragOf s.heap), defTab.map (fun r => fnD (fragOf s.heap) r.1), clsTab.map (fun r => (addrOf (fragOf s.heap) r.1, (clsInit (fragOf s.heap) r.2.1).bind (fnA (fragOf s.heap)))))
noncomputable def obsG := (true, defTab.map (fun r => some r.2), clsTab.map (fun r => (some r.2.1, some r.2.2)))
theorem opened (w : World) : (fencedOpening treeTable PW w 6000).map (fun s => (s.heap, s.gens, s.drawn, s.toks)) = some (boot_heap w.params, Array.mk [], boot_drawn, boot_toks) := boot_open (by kernel_rfl) (by kernel_rfl) (fun s => by kernel_rfl) w
theorem ran (w : World) (os : OsState) : (topFrom treeTable PW w 6000 ⟨boot_heap w.params, Array.mk [], boot_drawn, boot_toks, os⟩).map (fun s => (openSeen theQ loose (importedModules PW.main.body) xt true s, obs s)) = some (openGood theQ loose, obsG) := by
  unfold topFrom
  rw [PySem.W.Fast.te14082659384304107361, PySem.W.Fast.te4187177175401517315, PySem.W.Fast.te14364793385576792824]
  kernel_rfl
theorem left : LeftO PW theQ loose xt obs (fun _ => obsG) 6000 := fun w => by
  obtain ⟨s, e, e'⟩ := Option.map_eq_some_iff.mp (opened w)
  obtain ⟨h, g, d, t, os⟩ := s
  simp only [Prod.mk.injEq] at e'
  obtain ⟨rfl, rfl, rfl, rfl⟩ := e'
  have e0 : openEnds treeTable PW w 6000 = topFrom treeTable PW w 6000 ⟨boot_heap w.params, Array.mk [], boot_drawn, boot_toks, os⟩ := by unfold openEnds; rw [e, Option.bind_some]
  rw [e0]
  exact ran w os

theorem ns {α : Type _} {x : α} {P : Prop} (h : (none : Option α) = some x) : P := nomatch h
theorem ft {P : Prop} (h : false = true) : P := nomatch h
theorem o0_2 {P0 : Prop} {P1 : Prop} {G : Prop} (f : P0 → P1 → G) (h : P0 ∧ P1) : G := f h.1 h.2
theorem o0_3 {P0 : Prop} {P1 : Prop} {P2 : Prop} {G : Prop} (f : P0 → P1 → P2 → G) (h : P0 ∧ P1 ∧ P2) : G := o0_2 (fun a => o0_2 (f a)) h
theorem o0_4 {P0 : Prop} {P1 : Prop} {P2 : Prop} {P3 : Prop} {G : Prop} (f : P0 → P1 → P2 → P3 → G) (h : P0 ∧ P1 ∧ P2 ∧ P3) : G := o0_2 (fun a => o0_3 (f a)) h
theorem o0_5 {P0 : Prop} {P1 : Prop} {P2 : Prop} {P3 : Prop} {P4 : Prop} {G : Prop} (f : P0 → P1 → P2 → P3 → P4 → G) (h : P0 ∧ P1 ∧ P2 ∧ P3 ∧ P4) : G := o0_2 (fun a => o0_4 (f a)) h
theorem o0_6 {P0 : Prop} {P1 : Prop} {P2 : Prop} {P3 : Prop} {P4 : Prop} {P5 : Prop} {G : Prop} (f : P0 → P1 → P2 → P3 → P4 → P5 → G) (h : P0 ∧ P1 ∧ P2 ∧ P3 ∧ P4 ∧ P5) : G := o0_2 (fun a => o0_5 (f a)) h
theorem o1_1.{u0} {X0 : Sort u0} {P0 : (a0 : X0) → Prop} {G : Prop} (f : ∀ a0 : X0, P0 a0 → G) (h : ∃ a0 : X0, P0 a0) : G := h.elim f
theorem o1_2.{u0} {X0 : Sort u0} {P0 : (a0 : X0) → Prop} {P1 : (a0 : X0) → Prop} {G : Prop} (f : ∀ a0 : X0, P0 a0 → P1 a0 → G) (h : ∃ a0 : X0, P0 a0 ∧ P1 a0) : G := h.elim fun a => o0_2 (f a)
theorem o1_3.{u0} {X0 : Sort u0} {P0 : (a0 : X0) → Prop} {P1 : (a0 : X0) → Prop} {P2 : (a0 : X0) → Prop} {G : Prop} (f : ∀ a0 : X0, P0 a0 → P1 a0 → P2 a0 → G) (h : ∃ a0 : X0, P0 a0 ∧ P1 a0 ∧ P2 a0) : G := h.elim fun a => o0_3 (f a)
theorem o1_4.{u0} {X0 : Sort u0} {P0 : (a0 : X0) → Prop} {P1 : (a0 : X0) → Prop} {P2 : (a0 : X0) → Prop} {P3 : (a0 : X0) → Prop} {G : Prop} (f : ∀ a0 : X0, P0 a0 → P1 a0 → P2 a0 → P3 a0 → G) (h : ∃ a0 : X0, P0 a0 ∧ P1 a0 ∧ P2 a0 ∧ P3 a0) : G := h.elim fun a => o0_4 (f a)
theorem o1_5.{u0} {X0 : Sort u0} {P0 : (a0 : X0) → Prop} {P1 : (a0 : X0) → Prop} {P2 : (a0 : X0) → Prop} {P3 : (a0 : X0) → Prop} {P4 : (a0 : X0) → Prop} {G : Prop} (f : ∀ a0 : X0, P0 a0 → P1 a0 → P2 a0 → P3 a0 → P4 a0 → G) (h : ∃ a0 : X0, P0 a0 ∧ P1 a0 ∧ P2 a0 ∧ P3 a0 ∧ P4 a0) : G := h.elim fun a => o0_5 (f a)
theorem o1_6.{u0} {X0 : Sort u0} {P0 : (a0 : X0) → Prop} {P1 : (a0 : X0) → Prop} {P2 : (a0 : X0) → Prop} {P3 : (a0 : X0) → Prop} {P4 : (a0 : X0) → Prop} {P5 : (a0 : X0) → Prop} {G : Prop} (f : ∀ a0 : X0, P0 a0 → P1 a0 → P2 a0 → P3 a0 → P4 a0 → P5 a0 → G) (h : ∃ a0 : X0, P0 a0 ∧ P1 a0 ∧ P2 a0 ∧ P3 a0 ∧ P4 a0 ∧ P5 a0) : G := h.elim fun a => o0_6 (f a)
theorem o2_1.{u0, u1} {X0 : Sort u0} {X1 : (a0 : X0) → Sort u1} {P0 : (a0 : X0) → (a1 : X1 a0) → Prop} {G : Prop} (f : ∀ a0 : X0, ∀ a1 : X1 a0, P0 a0 a1 → G) (h : ∃ a0 : X0, ∃ a1 : X1 a0, P0 a0 a1) : G := h.elim fun a => o1_1 (f a)
theorem o2_2.{u0, u1} {X0 : Sort u0} {X1 : (a0 : X0) → Sort u1} {P0 : (a0 : X0) → (a1 : X1 a0) → Prop} {P1 : (a0 : X0) → (a1 : X1 a0) → Prop} {G : Prop} (f : ∀ a0 : X0, ∀ a1 : X1 a0, P0 a0 a1 → P1 a0 a1 → G) (h : ∃ a0 : X0, ∃ a1 : X1 a0, P0 a0 a1 ∧ P1 a0 a1) : G := h.elim fun a => o1_2 (f a)
theorem o2_3.{u0, u1} {X0 : Sort u0} {X1 : (a0 : X0) → Sort u1} {P0 : (a0 : X0) → (a1 : X1 a0) → Prop} {P1 : (a0 : X0) → (a1 : X1 a0) → Prop} {P2 : (a0 : X0) → (a1 : X1 a0) → Prop} {G : Prop} (f : ∀ a0 : X0, ∀ a1 : X1 a0, P0 a0 a1 → P1 a0 a1 → P2 a0 a1 → G) (h : ∃ a0 : X0, ∃ a1 : X1 a0, P0 a0 a1 ∧ P1 a0 a1 ∧ P2 a0 a1) : G := h.elim fun a => o1_3 (f a)
theorem o2_4.{u0, u1} {X0 : Sort u0} {X1 : (a0 : X0) → Sort u1} {P0 : (a0 : X0) → (a1 : X1 a0) → Prop} {P1 : (a0 : X0) → (a1 : X1 a0) → Prop} {P2 : (a0 : X0) → (a1 : X1 a0) → Prop} {P3 : (a0 : X0) → (a1 : X1 a0) → Prop} {G : Prop} (f : ∀ a0 : X0, ∀ a1 : X1 a0, P0 a0 a1 → P1 a0 a1 → P2 a0 a1 → P3 a0 a1 → G) (h : ∃ a0 : X0, ∃ a1 : X1 a0, P0 a0 a1 ∧ P1 a0 a1 ∧ P2 a0 a1 ∧ P3 a0 a1) : G := h.elim fun a => o1_4 (f a)
theorem o2_5.{u0, u1} {X0 : Sort u0} {X1 : (a0 : X0) → Sort u1} {P0 : (a0 : X0) → (a1 : X1 a0) → Prop} {P1 : (a0 : X0) → (a1 : X1 a0) → Prop} {P2 : (a0 : X0) → (a1 : X1 a0) → Prop} {P3 : (a0 : X0) → (a1 : X1 a0) → Prop} {P4 : (a0 : X0) → (a1 : X1 a0) → Prop} {G : Prop} (f : ∀ a0 : X0, ∀ a1 : X1 a0, P0 a0 a1 → P1 a0 a1 → P2 a0 a1 → P3 a0 a1 → P4 a0 a1 → G) (h : ∃ a0 : X0, ∃ a1 : X1 a0, P0 a0 a1 ∧ P1 a0 a1 ∧ P2 a0 a1 ∧ P3 a0 a1 ∧ P4 a0 a1) : G := h.elim fun a => o1_5 (f a)
theorem o2_6.{u0, u1} {X0 : Sort u0} {X1 : (a0 : X0) → Sort u1} {P0 : (a0 : X0) → (a1 : X1 a0) → Prop} {P1 : (a0 : X0) → (a1 : X1 a0) → Prop} {P2 : (a0 : X0) → (a1 : X1 a0) → Prop} {P3 : (a0 : X0) → (a1 : X1 a0) → Prop} {P4 : (a0 : X0) → (a1 : X1 a0) → Prop} {P5 : (a0 : X0) → (a1 : X1 a0) → Prop} {G : Prop} (f : ∀ a0 : X0, ∀ a1 : X1 a0, P0 a0 a1 → P1 a0 a1 → P2 a0 a1 → P3 a0 a1 → P4 a0 a1 → P5 a0 a1 → G) (h : ∃ a0 : X0, ∃ a1 : X1 a0, P0 a0 a1 ∧ P1 a0 a1 ∧ P2 a0 a1 ∧ P3 a0 a1 ∧ P4 a0 a1 ∧ P5 a0 a1) : G := h.elim fun a => o1_6 (f a)
theorem o3_1.{u0, u1, u2} {X0 : Sort u0} {X1 : (a0 : X0) → Sort u1} {X2 : (a0 : X0) → (a1 : X1 a0) → Sort u2} {P0 : (a0 : X0) → (a1 : X1 a0) → (a2 : X2 a0 a1) → Prop} {G : Prop} (f : ∀ a0 : X0, ∀ a1 : X1 a0, ∀ a2 : X2 a0 a1, P0 a0 a1 a2 → G) (h : ∃ a0 : X0, ∃ a1 : X1 a0, ∃ a2 : X2 a0 a1, P0 a0 a1 a2) : G := h.elim fun a => o2_1 (f a)
theorem o3_2.{u0, u1, u2} {X0 : Sort u0} {X1 : (a0 : X0) → Sort u1} {X2 : (a0 : X0) → (a1 : X1 a0) → Sort u2} {P0 : (a0 : X0) → (a1 : X1 a0) → (a2 : X2 a0 a1) → Prop} {P1 : (a0 : X0) → (a1 : X1 a0) → (a2 : X2 a0 a1) → Prop} {G : Prop} (f : ∀ a0 : X0, ∀ a1 : X1 a0, ∀ a2 : X2 a0 a1, P0 a0 a1 a2 → P1 a0 a1 a2 → G) (h : ∃ a0 : X0, ∃ a1 : X1 a0, ∃ a2 : X2 a0 a1, P0 a0 a1 a2 ∧ P1 a0 a1 a2) : G := h.elim fun a => o2_2 (f a)
theorem o3_3.{u0, u1, u2} {X0 : Sort u0} {X1 : (a0 : X0) → Sort u1} {X2 : (a0 : X0) → (a1 : X1 a0) → Sort u2} {P0 : (a0 : X0) → (a1 : X1 a0) → (a2 : X2 a0 a1) → Prop} {P1 : (a0 : X0) → (a1 : X1 a0) → (a2 : X2 a0 a1) → Prop} {P2 : (a0 : X0) → (a1 : X1 a0) → (a2 : X2 a0 a1) → Prop} {G : Prop} (f : ∀ a0 : X0, ∀ a1 : X1 a0, ∀ a2 : X2 a0 a1, P0 a0 a1 a2 → P1 a0 a1 a2 → P2 a0 a1 a2 → G) (h : ∃ a0 : X0, ∃ a1 : X1 a0, ∃ a2 : X2 a0 a1, P0 a0 a1 a2 ∧ P1 a0 a1 a2 ∧ P2 a0 a1 a2) : G := h.elim fun a => o2_3 (f a)
theorem o3_4.{u0, u1, u2} {X0 : Sort u0} {X1 : (a0 : X0) → Sort u1} {X2 : (a0 : X0) → (a1 : X1 a0) → Sort u2} {P0 : (a0 : X0) → (a1 : X1 a0) → (a2 : X2 a0 a1) → Prop} {P1 : (a0 : X0) → (a1 : X1 a0) → (a2 : X2 a0 a1) → Prop} {P2 : (a0 : X0) → (a1 : X1 a0) → (a2 : X2 a0 a1) → Prop} {P3 : (a0 : X0) → (a1 : X1 a0) → (a2 : X2 a0 a1) → Prop} {G : Prop} (f : ∀ a0 : X0, ∀ a1 : X1 a0, ∀ a2 : X2 a0 a1, P0 a0 a1 a2 → P1 a0 a1 a2 → P2 a0 a1 a2 → P3 a0 a1 a2 → G) (h : ∃ a0 : X0, ∃ a1 : X1 a0, ∃ a2 : X2 a0 a1, P0 a0 a1 a2 ∧ P1 a0 a1 a2 ∧ P2 a0 a1 a2 ∧ P3 a0 a1 a2) : G := h.elim fun a => o2_4 (f a)
theorem o3_6.{u0, u1, u2} {X0 : Sort u0} {X1 : (a0 : X0) → Sort u1} {X2 : (a0 : X0) → (a1 : X1 a0) → Sort u2} {P0 : (a0 : X0) → (a1 : X1 a0) → (a2 : X2 a0 a1) → Prop} {P1 : (a0 : X0) → (a1 : X1 a0) → (a2 : X2 a0 a1) → Prop} {P2 : (a0 : X0) → (a1 : X1 a0) → (a2 : X2 a0 a1) → Prop} {P3 : (a0 : X0) → (a1 : X1 a0) → (a2 : X2 a0 a1) → Prop} {P4 : (a0 : X0) → (a1 : X1 a0) → (a2 : X2 a0 a1) → Prop} {P5 : (a0 : X0) → (a1 : X1 a0) → (a2 : X2 a0 a1) → Prop} {G : Prop} (f : ∀ a0 : X0, ∀ a1 : X1 a0, ∀ a2 : X2 a0 a1, P0 a0 a1 a2 → P1 a0 a1 a2 → P2 a0 a1 a2 → P3 a0 a1 a2 → P4 a0 a1 a2 → P5 a0 a1 a2 → G) (h : ∃ a0 : X0, ∃ a1 : X1 a0, ∃ a2 : X2 a0 a1, P0 a0 a1 a2 ∧ P1 a0 a1 a2 ∧ P2 a0 a1 a2 ∧ P3 a0 a1 a2 ∧ P4 a0 a1 a2 ∧ P5 a0 a1 a2) : G := h.elim fun a => o2_6 (f a)
theorem o4_1.{u0, u1, u2, u3} {X0 : Sort u0} {X1 : (a0 : X0) → Sort u1} {X2 : (a0 : X0) → (a1 : X1 a0) → Sort u2} {X3 : (a0 : X0) → (a1 : X1 a0) → (a2 : X2 a0 a1) → Sort u3} {P0 : (a0 : X0) → (a1 : X1 a0) → (a2 : X2 a0 a1) → (a3 : X3 a0 a1 a2) → Prop} {G : Prop} (f : ∀ a0 : X0, ∀ a1 : X1 a0, ∀ a2 : X2 a0 a1, ∀ a3 : X3 a0 a1 a2, P0 a0 a1 a2 a3 → G) (h : ∃ a0 : X0, ∃ a1 : X1 a0, ∃ a2 : X2 a0 a1, ∃ a3 : X3 a0 a1 a2, P0 a0 a1 a2 a3) : G := h.elim fun a => o3_1 (f a)
theorem o4_2.{u0, u1, u2, u3} {X0 : Sort u0} {X1 : (a0 : X0) → Sort u1} {X2 : (a0 : X0) → (a1 : X1 a0) → Sort u2} {X3 : (a0 : X0) → (a1 : X1 a0) → (a2 : X2 a0 a1) → Sort u3} {P0 : (a0 : X0) → (a1 : X1 a0) → (a2 : X2 a0 a1) → (a3 : X3 a0 a1 a2) → Prop} {P1 : (a0 : X0) → (a1 : X1 a0) → (a2 : X2 a0 a1) → (a3 : X3 a0 a1 a2) → Prop} {G : Prop} (f : ∀ a0 : X0, ∀ a1 : X1 a0, ∀ a2 : X2 a0 a1, ∀ a3 : X3 a0 a1 a2, P0 a0 a1 a2 a3 → P1 a0 a1 a2 a3 → G) (h : ∃ a0 : X0, ∃ a1 : X1 a0, ∃ a2 : X2 a0 a1, ∃ a3 : X3 a0 a1 a2, P0 a0 a1 a2 a3 ∧ P1 a0 a1 a2 a3) : G := h.elim fun a => o3_2 (f a)
theorem o4_4.{u0, u1, u2, u3} {X0 : Sort u0} {X1 : (a0 : X0) → Sort u1} {X2 : (a0 : X0) → (a1 : X1 a0) → Sort u2} {X3 : (a0 : X0) → (a1 : X1 a0) → (a2 : X2 a0 a1) → Sort u3} {P0 : (a0 : X0) → (a1 : X1 a0) → (a2 : X2 a0 a1) → (a3 : X3 a0 a1 a2) → Prop} {P1 : (a0 : X0) → (a1 : X1 a0) → (a2 : X2 a0 a1) → (a3 : X3 a0 a1 a2) → Prop} {P2 : (a0 : X0) → (a1 : X1 a0) → (a2 : X2 a0 a1) → (a3 : X3 a0 a1 a2) → Prop} {P3 : (a0 : X0) → (a1 : X1 a0) → (a2 : X2 a0 a1) → (a3 : X3 a0 a1 a2) → Prop} {G : Prop} (f : ∀ a0 : X0, ∀ a1 : X1 a0, ∀ a2 : X2 a0 a1, ∀ a3 : X3 a0 a1 a2, P0 a0 a1 a2 a3 → P1 a0 a1 a2 a3 → P2 a0 a1 a2 a3 → P3 a0 a1 a2 a3 → G) (h : ∃ a0 : X0, ∃ a1 : X1 a0, ∃ a2 : X2 a0 a1, ∃ a3 : X3 a0 a1 a2, P0 a0 a1 a2 a3 ∧ P1 a0 a1 a2 a3 ∧ P2 a0 a1 a2 a3 ∧ P3 a0 a1 a2 a3) : G := h.elim fun a => o3_4 (f a)
theorem o5_1.{u0, u1, u2, u3, u4} {X0 : Sort u0} {X1 : (a0 : X0) → Sort u1} {X2 : (a0 : X0) → (a1 : X1 a0) → Sort u2} {X3 : (a0 : X0) → (a1 : X1 a0) → (a2 : X2 a0 a1) → Sort u3} {X4 : (a0 : X0) → (a1 : X1 a0) → (a2 : X2 a0 a1) → (a3 : X3 a0 a1 a2) → Sort u4} {P0 : (a0 : X0) → (a1 : X1 a0) → (a2 : X2 a0 a1) → (a3 : X3 a0 a1 a2) → (a4 : X4 a0 a1 a2 a3) → Prop} {G : Prop} (f : ∀ a0 : X0, ∀ a1 : X1 a0, ∀ a2 : X2 a0 a1, ∀ a3 : X3 a0 a1 a2, ∀ a4 : X4 a0 a1 a2 a3, P0 a0 a1 a2 a3 a4 → G) (h : ∃ a0 : X0, ∃ a1 : X1 a0, ∃ a2 : X2 a0 a1, ∃ a3 : X3 a0 a1 a2, ∃ a4 : X4 a0 a1 a2 a3, P0 a0 a1 a2 a3 a4) : G := h.elim fun a => o4_1 (f a)
theorem o5_2.{u0, u1, u2, u3, u4} {X0 : Sort u0} {X1 : (a0 : X0) → Sort u1} {X2 : (a0 : X0) → (a1 : X1 a0) → Sort u2} {X3 : (a0 : X0) → (a1 : X1 a0) → (a2 : X2 a0 a1) → Sort u3} {X4 : (a0 : X0) → (a1 : X1 a0) → (a2 : X2 a0 a1) → (a3 : X3 a0 a1 a2) → Sort u4} {P0 : (a0 : X0) → (a1 : X1 a0) → (a2 : X2 a0 a1) → (a3 : X3 a0 a1 a2) → (a4 : X4 a0 a1 a2 a3) → Prop} {P1 : (a0 : X0) → (a1 : X1 a0) → (a2 : X2 a0 a1) → (a3 : X3 a0 a1 a2) → (a4 : X4 a0 a1 a2 a3) → Prop} {G : Prop} (f : ∀ a0 : X0, ∀ a1 : X1 a0, ∀ a2 : X2 a0 a1, ∀ a3 : X3 a0 a1 a2, ∀ a4 : X4 a0 a1 a2 a3, P0 a0 a1 a2 a3 a4 → P1 a0 a1 a2 a3 a4 → G) (h : ∃ a0 : X0, ∃ a1 : X1 a0, ∃ a2 : X2 a0 a1, ∃ a3 : X3 a0 a1 a2, ∃ a4 : X4 a0 a1 a2 a3, P0 a0 a1 a2 a3 a4 ∧ P1 a0 a1 a2 a3 a4) : G := h.elim fun a => o4_2 (f a)
inductive V where
  | none | bool (b : Bool) | int (i : Int) | str (s : Str) | ref (a : Addr)

noncomputable def V.at : V → Tok → Value
  | .none, _ => .none
  | .bool b, _ => .bool b
  | .int i, t => .int i t
  | .str s, t => .str s t
  | .ref a, _ => .ref a

noncomputable def VR (x : V) (v : Value) : Prop := ∃ t, v = x.at t

theorem VR.none_inv {v : Value} (h : VR .none v) : v = .none := h.elim fun _ e => e
theorem VR.bool_inv {v : Value} {b : Bool} (h : VR (.bool b) v) : v = .bool b := h.elim fun _ e => e
theorem VR.int_inv {v : Value} {i : Int} (h : VR (.int i) v) : ∃ t, v = .int i t := h
theorem VR.str_inv {v : Value} {x : Str} (h : VR (.str x) v) : ∃ t, v = .str x t := h
theorem VR.ref_inv {v : Value} {a : Addr} (h : VR (.ref a) v) : v = .ref a := h.elim fun _ e => e
theorem VR.none : VR .none .none := ⟨0, rfl⟩
theorem VR.bool (b : Bool) : VR (.bool b) (.bool b) := ⟨0, rfl⟩
theorem VR.int (i : Int) (t : Tok) : VR (.int i) (.int i t) := ⟨t, rfl⟩
theorem VR.str (x : Str) (t : Tok) : VR (.str x) (.str x t) := ⟨t, rfl⟩
theorem VR.ref (a : Addr) : VR (.ref a) (.ref a) := ⟨0, rfl⟩
theorem VR.handed {x : V} {v : Value} (h : VR x v) : handedIn v = true := by
  obtain ⟨t, rfl⟩ := h; cases x <;> rfl

inductive VRs : List V → List Value → Prop
  | nil : VRs [] []
  | cons {x v xs vs} : VR x v → VRs xs vs → VRs (x :: xs) (v :: vs)

theorem VRs.length {xs : List V} {vs : List Value} (h : VRs xs vs) : vs.length = xs.length := by
  induction h with
  | nil => rfl
  | cons _ _ ih => simp [ih]
theorem VRs.append {xs ys : List V} {vs ws : List Value} (h : VRs xs vs) (k : VRs ys ws) : VRs (xs ++ ys) (vs ++ ws) := by
  induction h with
  | nil => exact k
  | cons a _ ih => exact .cons a ih
theorem VRs.get {xs : List V} {vs : List Value} (h : VRs xs vs) : ∀ {i : Nat} {x : V}, xs[i]? = some x → ∃ v, vs[i]? = some v ∧ VR x v := by
  induction h with
  | nil => intro i x e; simp at e
  | cons a _ ih =>
    intro i x e
    cases i with
    | zero => simp at e; subst e; exact ⟨_, rfl, a⟩
    | succ i => simp at e; obtain ⟨v, hv, r⟩ := ih e; exact ⟨v, by simpa using hv, r⟩
theorem VRs.take {xs : List V} {vs : List Value} (h : VRs xs vs) : ∀ n, VRs (xs.take n) (vs.take n) := by
  induction h with
  | nil => intro n; simp; exact .nil
  | cons a _ ih => intro n; cases n with
    | zero => exact .nil
    | succ n => exact .cons a (ih n)
theorem VRs.drop {xs : List V} {vs : List Value} (h : VRs xs vs) : ∀ n, VRs (xs.drop n) (vs.drop n) := by
  induction h with
  | nil => intro n; simp; exact .nil
  | cons a r ih => intro n; cases n with
    | zero => exact .cons a r
    | succ n => exact ih n
theorem VRs.snoc_inv {xs : List V} {x : V} {vs : List Value} (h : VRs (xs ++ [x]) vs) : ∃ ws v, vs = ws ++ [v] ∧ VRs xs ws ∧ VR x v := by
  induction xs generalizing vs with
  | nil => cases h with | cons a r => cases r; exact ⟨[], _, rfl, .nil, a⟩
  | cons y ys ih => cases h with
    | cons a r => obtain ⟨ws, v, rfl, b, c⟩ := ih r; exact ⟨_ :: ws, v, rfl, .cons a b, c⟩
theorem VRs.cons_inv {xs : List V} {x : V} {vs : List Value} (h : VRs (x :: xs) vs) : ∃ v ws, vs = v :: ws ∧ VR x v ∧ VRs xs ws := by
  cases h with | cons a b => exact ⟨_, _, rfl, a, b⟩
theorem VRs.nil_inv {vs : List Value} (h : VRs [] vs) : vs = [] := by cases h; rfl

noncomputable abbrev Fields := List (Str × V)

inductive O where
  | inst (C : Addr) (fs : Fields)
  | list (xs : List V)
  | tup (xs : List V)
  | dict (kvs : List (Int × V)) (ep : Nat)

noncomputable abbrev Store := Addr → Option O

noncomputable def upd (σ : Store) (a : Addr) (o : O) : Store := fun x => if x = a then some o else σ x

theorem upd_self {σ : Store} {a : Addr} {o : O} : upd σ a o a = some o := if_pos rfl
theorem upd_ne {σ : Store} {a b : Addr} {o : O} (h : b ≠ a) : upd σ a o b = σ b := if_neg h

noncomputable def getF (x : Str) : Fields → Option V
  | [] => none
  | (y, v) :: r => if y = x then some v else getF x r
noncomputable def putF (x : Str) (v : V) : Fields → Fields
  | [] => [(x, v)]
  | (y, u) :: r => if y = x then (y, v) :: r else (y, u) :: putF x v r

/-- a record's entries bear its fields -/
inductive FsR : Fields → List DictEntry → Prop
  | nil : FsR [] []
  | cons {x t hs v v' fs es} : VR v v' → FsR fs es → FsR ((x, v) :: fs) (⟨hs, .str x t, v'⟩ :: es)

theorem FsR.length {fs : Fields} {es : List DictEntry} (h : FsR fs es) : es.length = fs.length := by
  induction h with
  | nil => rfl
  | cons _ _ ih => simp [ih]
theorem isStr_str (x y : Str) (t : Tok) : (Value.str x t).isStr y = (x == y) := rfl
theorem FsR.get {x : Str} {v : V} {fs : Fields} {es : List DictEntry} (h : FsR fs es) (e : getF x fs = some v) : ∃ v', getL x es = some (some v') ∧ VR v v' := by
  induction h with
  | nil => cases e
  | @cons y t hs u u' fs es hu r ih =>
    unfold getF at e
    unfold getL at ih ⊢
    rw [List.find?_cons, isStr_str]
    by_cases hy : y = x
    · rw [if_pos hy] at e; cases e; subst hy; simp; exact hu
    · rw [if_neg hy] at e
      have hb : (y == x) = false := by simpa using hy
      rw [hb]
      obtain ⟨v', hv, hr⟩ := ih e
      refine ⟨v', ?_, hr⟩
      dsimp only
      cases hf : List.find? (fun x_1 => x_1.key.isStr x) es with
      | some en => rw [hf] at hv; exact hv
      | none =>
        rw [hf] at hv
        dsimp only at hv
        split at hv <;> cases hv
theorem FsR.noRef {fs : Fields} {es : List DictEntry} (h : FsR fs es) : es.any (·.refKey) = false := by
  induction h with
  | nil => rfl
  | cons _ _ ih => rw [List.any_cons, ih]; rfl
theorem FsR.getSome {x : Str} {fs : Fields} {es : List DictEntry} (h : FsR fs es) : (getL x es).isSome = true := by
  unfold getL
  split
  · rfl
  · rw [h.noRef]; rfl
theorem FsR.put {x : Str} {hs : Int} {t : Tok} {v : V} {v' : Value} {fs : Fields} {es : List DictEntry} (h : FsR fs es) (hv : VR v v') : FsR (putF x v fs) (putL x hs (.str x t) v' es) := by
  induction h with
  | nil => exact .cons hv .nil
  | @cons y t hs u u' fs es hu r ih =>
    unfold putF putL
    rw [isStr_str]
    by_cases hy : y = x
    · rw [if_pos hy, if_pos (by simpa using hy)]; subst hy; exact .cons hv r
    · rw [if_neg hy, if_neg (by simpa using hy)]; exact .cons hu ih
theorem putF_length {x : Str} {v : V} (fs : Fields) : (putF x v fs).length ≤ fs.length + 1 := by
  induction fs with
  | nil => simp [putF]
  | cons p r ih =>
    obtain ⟨y, u⟩ := p
    unfold putF
    split
    · simp
    · simp; omega

noncomputable def bigN : Nat := 1000000
theorem big_line {n : Nat} (h : n ≤ bigN) : n ≤ sizeLine := by rw [sizeLine_eq]; unfold bigN at h; omega

noncomputable abbrev tupObj (vs : Array Value) (n : Nat) : Obj := { cls := .type "tuple", data := .seq vs n }


/-- pairs: the same keys, values borne -/
inductive PRs : List (Int × V) → List (Int × Value) → Prop
  | nil : PRs [] []
  | cons {k x v xs vs} : VR x v → PRs xs vs → PRs ((k, x) :: xs) ((k, v) :: vs)
noncomputable def DictObj (prog : Program) (w : World) (o : Obj) (kvs : List (Int × Value)) (ep : Nat) : Prop :=
  ∃ es, o.ExactDict ∧ o.data = .dict es ep ∧ KeysOf (intKind prog w) es ∧ Pairs (intKind prog w) es.toList kvs ∧ (kvs.map (·.1)).Nodup

/-- the ledger bears the object o at a; ow tells whose an address is -/
noncomputable def Rep (prog : Program) (w : World) (K : Frag) (ow : Addr → Addr) (news : List (Addr × Obj)) (a : Addr) : O → Prop
  | .inst C fs => ow a = a ∧ ∃ dx es n, ow dx = a ∧ dx ≠ a ∧ (a, instObj C dx) ∈ news ∧ (dx, dictOf es n) ∈ news ∧ FsR fs es ∧ fs.length ≤ 100 ∧ clsOk K C = true ∧ ∀ p ∈ fs, p.1 ∈ fldNames
  | .list xs => ow a = a ∧ ∃ vs n, (a, listOf vs n) ∈ news ∧ VRs xs vs.toList ∧ xs.length ≤ bigN
  | .tup xs => ow a = a ∧ ∃ vs n, (a, tupObj vs n) ∈ news ∧ VRs xs vs.toList ∧ xs.length ≤ bigN
  | .dict kvs ep => ow a = a ∧ ∃ o kws, (a, o) ∈ news ∧ DictObj prog w o kws ep ∧ PRs kvs kws ∧ kvs.length ≤ bigN ∧ (a == sysModules) = false

structure Led (prog : Program) (w : World) (K : Frag) (pk : List Addr) (σ : Store) (news : List (Addr × Obj)) : Prop where
  nd : (news.map (·.1)).Nodup
  off : ∀ p ∈ news, p.1 ∉ pk
  rep : ∃ ow : Addr → Addr, ∀ a o, σ a = some o → Rep prog w K ow news a o

section ledger
variable {prog : Program} {w : World} {K : Frag} {ow ow' : Addr → Addr} {news news' : List (Addr × Obj)} {b : Addr} {o : O}

theorem Rep.mono (H : ∀ p ∈ news, ow p.1 = b → p ∈ news' ∧ ow' p.1 = b) (h : Rep prog w K ow news b o) : Rep prog w K ow' news' b o := by
  cases o with
  | inst C fs =>
    obtain ⟨h1, dx, es, n, h2, h3, h4, h5, r⟩ := h
    exact ⟨(H _ h4 h1).2, dx, es, n, (H _ h5 h2).2, h3, (H _ h4 h1).1, (H _ h5 h2).1, r⟩
  | list xs => obtain ⟨h1, vs, n, h4, r⟩ := h; exact ⟨(H _ h4 h1).2, vs, n, (H _ h4 h1).1, r⟩
  | tup xs => obtain ⟨h1, vs, n, h4, r⟩ := h; exact ⟨(H _ h4 h1).2, vs, n, (H _ h4 h1).1, r⟩
  | dict kvs ep => obtain ⟨h1, oo, vs, h4, r⟩ := h; exact ⟨(H _ h4 h1).2, oo, vs, (H _ h4 h1).1, r⟩

theorem Rep.key (h : Rep prog w K ow news b o) : ∃ x, (b, x) ∈ news := by
  cases o with
  | inst C fs => obtain ⟨h1, dx, es, n, h2, h3, h4, r⟩ := h; exact ⟨_, h4⟩
  | list xs => obtain ⟨h1, vs, n, h4, r⟩ := h; exact ⟨_, h4⟩
  | tup xs => obtain ⟨h1, vs, n, h4, r⟩ := h; exact ⟨_, h4⟩
  | dict kvs ep => obtain ⟨h1, oo, vs, h4, r⟩ := h; exact ⟨_, h4⟩

/-- one entry of the ledger replaced -/
noncomputable def putL1 (d : Addr) (o : Obj) : List (Addr × Obj) → List (Addr × Obj)
  | [] => []
  | p :: r => if p.1 = d then (d, o) :: r else p :: putL1 d o r
theorem putL1_keys (d : Addr) (o : Obj) : ∀ l : List (Addr × Obj), (putL1 d o l).map (·.1) = l.map (·.1)
  | [] => rfl
  | p :: r => by
    unfold putL1
    split
    · rename_i h; simp [h]
    · simp [putL1_keys d o r]
theorem putL1_mem {d : Addr} {o x : Obj} : ∀ {l : List (Addr × Obj)}, (d, x) ∈ l → (d, o) ∈ putL1 d o l
  | p :: r, h => by
    unfold putL1
    split
    · exact .head _
    · rename_i hp
      rcases List.mem_cons.mp h with rfl | h
      · exact absurd rfl hp
      · exact .tail _ (putL1_mem h)
theorem putL1_other {d : Addr} {o : Obj} {p : Addr × Obj} (hd : p.1 ≠ d) : ∀ {l : List (Addr × Obj)}, p ∈ l → p ∈ putL1 d o l
  | q :: r, h => by
    unfold putL1
    split
    · rename_i hq
      rcases List.mem_cons.mp h with rfl | h
      · exact absurd hq hd
      · exact .tail _ h
    · rcases List.mem_cons.mp h with rfl | h
      · exact .head _
      · exact .tail _ (putL1_other hd h)
theorem putL1_upd {d : Addr} {o o' : Obj} : ∀ {l : List (Addr × Obj)}, (l.map (·.1)).Nodup → (d, o) ∈ l → Upd d o o' l (putL1 d o' l)
  | p :: r, nd, h => by
    have nd1 := (List.nodup_cons.mp nd)
    unfold putL1
    split
    · rename_i hp
      have he : p = (d, o) := by
        rcases List.mem_cons.mp h with h | h
        · exact h.symm
        · exact absurd (List.mem_map_of_mem (f := (·.1)) h) (by rw [← hp]; exact nd1.1)
      subst he
      refine .head fun q hq e => nd1.1 ?_
      exact e ▸ List.mem_map_of_mem (f := (·.1)) hq
    · rename_i hp
      rcases List.mem_cons.mp h with rfl | h
      · exact absurd rfl hp
      · exact .tail hp (putL1_upd nd1.2 h)
theorem upd_pre {d : Addr} {o o' : Obj} {l l' : List (Addr × Obj)} (U : Upd d o o' l l') : ∀ {pre : List (Addr × Obj)}, (∀ p ∈ pre, p.1 ≠ d) → Upd d o o' (pre ++ l) (pre ++ l')
  | [], _ => U
  | p :: r, h => .tail (h p (.head _)) (upd_pre U fun q hq => h q (.tail _ hq))
end ledger

noncomputable def St (prog : Program) (w : World) (K : Frag) (h₀ : Heap) (L : Addr) (m : Str → Option Value) (priv : List (Addr × Obj)) (σ : Store) (h : Heap) : Prop :=
  ∃ news, Fr h₀ L h m ∧ News h₀ L h (priv ++ news) ∧ Led prog w K (priv.map (·.1)) σ news

section
variable {prog : Program} {w : World} {K : Frag} {h₀ h h' : Heap} {L : Addr} {m : Str → Option Value} {priv : List (Addr × Obj)} {σ : Store}

/-- a fresh object: what the ledger gains -/
theorem St.new {l : Addr} {o : O} {news : List (Addr × Obj)} {more : List (Addr × Obj)} (F' : Fr h₀ L h' m) (N : News h₀ L h (priv ++ news)) (D : Led prog w K (priv.map (·.1)) σ news)
    (N' : News h₀ L h' (more ++ (priv ++ news))) (nd : (more.map (·.1)).Nodup) (hl : ∀ q ∈ more, ∀ p ∈ priv ++ news, p.1 < q.1)
    (hlm : ∃ x, (l, x) ∈ more) (hr : Rep prog w K (fun _ => l) more l o) : σ l = none ∧ St prog w K h₀ L m priv (upd σ l o) h' := by
  obtain ⟨x, hx⟩ := hlm
  obtain ⟨ow, hrep⟩ := D.rep
  have off : ∀ q ∈ more, ∀ p ∈ priv ++ news, p.1 ≠ q.1 := fun q hq p hp => Nat.ne_of_lt (hl q hq p hp)
  have fresh : σ l = none := by
    cases q : σ l with
    | none => rfl
    | some o' =>
      obtain ⟨y, hy⟩ := (hrep l o' q).key
      exact absurd rfl (off (l, x) hx (l, y) (List.mem_append_right _ hy))
  refine ⟨fresh, more ++ news, F', ?_, ?_⟩
  · intro p hp
    refine N' p ?_
    rcases List.mem_append.mp hp with h1 | h1
    · exact List.mem_append_right _ (List.mem_append_left _ h1)
    · rcases List.mem_append.mp h1 with h2 | h2
      · exact List.mem_append_left _ h2
      · exact List.mem_append_right _ (List.mem_append_right _ h2)
  · refine ⟨?_, ?_, fun k => if k ∈ more.map (·.1) then l else ow k, ?_⟩
    · rw [List.map_append, List.nodup_append]
      refine ⟨nd, D.nd, ?_⟩
      intro a ha b hb e
      refine o1_2 (fun q hq rf2_ => ?_) (List.mem_map.mp ha); subst rf2_
      refine o1_2 (fun p hp rf2_ => ?_) (List.mem_map.mp hb); subst rf2_
      exact off q hq p (List.mem_append_right _ hp) e.symm
    · intro p hp hk
      rcases List.mem_append.mp hp with h1 | h1
      · refine o1_2 (fun q hq e => ?_) (List.mem_map.mp hk)
        exact off p h1 q (List.mem_append_left _ hq) e
      · exact D.off p h1 hk
    · intro a o' ha
      by_cases hal : a = l
      · subst hal
        rw [upd_self] at ha; cases ha
        exact hr.mono fun p hp e => ⟨List.mem_append_left _ hp, if_pos (List.mem_map_of_mem hp)⟩
      · rw [upd_ne hal] at ha
        refine (hrep a o' ha).mono fun p hp e => ⟨List.mem_append_right _ hp, ?_⟩
        rw [if_neg ?_]; exact e
        intro hk
        refine o1_2 (fun q hq e' => ?_) (List.mem_map.mp hk)
        exact off q hq p (List.mem_append_right _ hp) e'.symm

theorem St.new1 {l : Addr} {ob : Obj} {o : O} {news : List (Addr × Obj)} (F' : Fr h₀ L h' m) (N : News h₀ L h (priv ++ news)) (D : Led prog w K (priv.map (·.1)) σ news)
    (N' : News h₀ L h' ((l, ob) :: (priv ++ news))) (hl : ∀ p ∈ priv ++ news, p.1 < l)
    (hr : Rep prog w K (fun _ => l) [(l, ob)] l o) : σ l = none ∧ St prog w K h₀ L m priv (upd σ l o) h' :=
  St.new F' N D (more := [(l, ob)]) N' (by simp) (fun q hq p hp => by cases List.mem_singleton.mp hq; exact hl p hp) ⟨ob, .head _⟩ hr

/-- an object changed at one entry -/
theorem St.change {a d : Addr} {od' od : Obj} {o' : O} {news : List (Addr × Obj)} {ow : Addr → Addr} (F' : Fr h₀ L h' m) (D : Led prog w K (priv.map (·.1)) σ news)
    (hrep : ∀ a o, σ a = some o → Rep prog w K ow news a o) (ha : ow d = a) (hd : (d, od) ∈ news)
    (N' : News h₀ L h' (priv ++ putL1 d od' news)) (hr : Rep prog w K ow (putL1 d od' news) a o') : St prog w K h₀ L m priv (upd σ a o') h' := by
  refine ⟨_, F', N', ?_, ?_, ow, ?_⟩
  · rw [putL1_keys]; exact D.nd
  · intro p hp
    have : p.1 ∈ (putL1 d od' news).map (·.1) := List.mem_map_of_mem hp
    rw [putL1_keys] at this
    refine o1_2 (fun q hq e => ?_) (List.mem_map.mp this)
    exact e ▸ D.off q hq
  · intro b ob hb
    by_cases hba : b = a
    · subst hba; rw [upd_self] at hb; cases hb; exact hr
    · rw [upd_ne hba] at hb
      refine (hrep b ob hb).mono fun p hp e => ⟨putL1_other (fun q => hba ?_) hp, e⟩
      rw [← e, q, ha]

theorem Led.upd {d : Addr} {o o' : Obj} {news : List (Addr × Obj)} (D : Led prog w K (priv.map (·.1)) σ news) (hd : (d, o) ∈ news) : Upd d o o' (priv ++ news) (priv ++ putL1 d o' news) :=
  upd_pre (putL1_upd D.nd hd) fun p hp e => D.off (d, o) hd (List.mem_map.mpr ⟨p, hp, e⟩)

theorem St.fr (S : St prog w K h₀ L m priv σ h) : Fr h₀ L h m := let ⟨_, F, _⟩ := S; F
end

noncomputable def Same (s s' : Shared) : Prop := ∃ h t, s' = { s with heap := h, toks := t }
theorem Same.refl (s : Shared) : Same s s := ⟨_, _, rfl⟩
theorem Same.trans {a b c : Shared} (h : Same a b) (k : Same b c) : Same a c := by
  revert h; refine o2_1 fun _ _ rf2_ => ?_; subst rf2_; revert k; refine o2_1 fun _ _ rf2_ => ?_; subst rf2_; exact ⟨_, _, rfl⟩

noncomputable def Res (prog : Program) (w : World) (K : Frag) (h₀ : Heap) (L : Addr) (m : Str → Option Value) (priv : List (Addr × Obj)) (Q : V → Store → Prop) (s : Shared) (v : Value) (s' : Shared) : Prop :=
  ∃ x σ', VR x v ∧ St prog w K h₀ L m priv σ' s'.heap ∧ Same s s' ∧ Q x σ'

section
variable {prog : Program} {w : World} {K : Frag} {A : Around} {E : Value → Shared → Prop} {s : Shared} {h₀ : Heap} {L : Addr} {m : Str → Option Value} {priv : List (Addr × Obj)} {σ : Store} {Q : V → Store → Prop}

theorem Res.mk {x : V} {σ' : Store} {v : Value} {h' : Heap} {t : Nat} (hv : VR x v) (S : St prog w K h₀ L m priv σ' h') (hq : Q x σ') : Res prog w K h₀ L m priv Q s v { s with heap := h', toks := t } := ⟨x, σ', hv, S, ⟨_, _, rfl⟩, hq⟩
theorem Res.here {x : V} {v : Value} {t : Nat} (hv : VR x v) (S : St prog w K h₀ L m priv σ s.heap) (hq : Q x σ) : Res prog w K h₀ L m priv Q s v { s with toks := t } := ⟨x, σ, hv, S, ⟨_, _, rfl⟩, hq⟩
theorem Res.here0 {x : V} {v : Value} (hv : VR x v) (S : St prog w K h₀ L m priv σ s.heap) (hq : Q x σ) : Res prog w K h₀ L m priv Q s v s := ⟨x, σ, hv, S, .refl _, hq⟩

theorem op_new {a : Addr} {obs : List V} {vs : List Value} {o : O} (S : St prog w K h₀ L m priv σ s.heap) (ho : o = .list obs ∨ o = .tup obs) (hv : VRs obs vs) (hb : obs.length ≤ bigN)
    (h : ∀ a, σ a = none → Q (.ref a) (upd σ a o)) :
    (o = .list obs → wpAny (model prog w) A (newList vs) (Res prog w K h₀ L m priv Q s) E s) ∧ (o = .tup obs → wpAny (model prog w) A (newTuple vs) (Res prog w K h₀ L m priv Q s) E s) := by
  revert S; refine o1_3 fun news F N D => ?_
  have hl : vs.length ≤ sizeLine := big_line (by rw [hv.length]; exact hb)
  constructor
  · rintro rfl
    refine newList_K F N (fun l h' F' N' hlt => ?_) hl
    obtain ⟨f, S'⟩ := St.new1 (o := .list obs) F' N D N' hlt ⟨rfl, vs.toArray, 0, .head _, hv, hb⟩
    exact .mk (.ref l) S' (h l f)
  · rintro rfl
    refine newTuple_N F N (fun h' F' N' => ?_) hl
    obtain ⟨f, S'⟩ := St.new1 (o := .tup obs) F' N D N' (fun p hp => Heap.lt_size (N p hp).1) ⟨rfl, vs.toArray, 0, .head _, hv, hb⟩
    exact .mk (.ref _) S' (h _ f)
theorem op_newList {obs : List V} {vs : List Value} (S : St prog w K h₀ L m priv σ s.heap) (hv : VRs obs vs) (hb : obs.length ≤ bigN)
    (h : ∀ a, σ a = none → Q (.ref a) (upd σ a (.list obs))) : wpAny (model prog w) A (newList vs) (Res prog w K h₀ L m priv Q s) E s := (op_new (a := 0) S (.inl rfl) hv hb h).1 rfl
theorem op_newTuple {obs : List V} {vs : List Value} (S : St prog w K h₀ L m priv σ s.heap) (hv : VRs obs vs) (hb : obs.length ≤ bigN)
    (h : ∀ a, σ a = none → Q (.ref a) (upd σ a (.tup obs))) : wpAny (model prog w) A (newTuple vs) (Res prog w K h₀ L m priv Q s) E s := (op_new (a := 0) S (.inr rfl) hv hb h).2 rfl

theorem clsOk_at {C : Addr} {x : Str} (h : clsOk K C = true) (hx : x ∈ fldNames) : plainGet K C x = true ∧ findIn K (.ref C) x = some none := by
  unfold clsOk at h
  have h1 := (Bool.and_eq_true_iff.mp h).2
  have h2 := List.all_eq_true.mp h1 x hx
  obtain ⟨a, b⟩ := Bool.and_eq_true_iff.mp h2
  exact ⟨a, beq_iff_eq.mp b⟩
theorem clsOk_parts {C : Addr} (h : clsOk K C = true) : hasDictIn K C = true ∧ findIn K (.ref C) "__setattr__" = some (some (.builtin "object.__setattr__")) ∧ plainOver K C = true := by
  unfold clsOk at h
  obtain ⟨h1, -⟩ := Bool.and_eq_true_iff.mp h
  obtain ⟨h2, h3⟩ := Bool.and_eq_true_iff.mp h1
  obtain ⟨h4, h5⟩ := Bool.and_eq_true_iff.mp h2
  exact ⟨h4, beq_iff_eq.mp h5, h3⟩

theorem getF_mem {x : Str} {v : V} : ∀ {fs : Fields}, getF x fs = some v → ∃ p ∈ fs, p.1 = x
  | (y, u) :: r, h => by
    unfold getF at h
    split at h
    · rename_i e; exact ⟨_, .head _, e⟩
    · refine o1_2 (fun p hp e => ?_) (getF_mem h); exact ⟨p, .tail _ hp, e⟩

theorem op_get {expr : Bool} {a C : Addr} {fs : Fields} {x : Str} {v : V} (X : K.In h₀) (S : St prog w K h₀ L m priv σ s.heap) (ha : σ a = some (.inst C fs)) (hx : getF x fs = some v)
    (h : Q v σ) : wpAny (model prog w) A (getAttr (.ref a) x expr) (Res prog w K h₀ L m priv Q s) E s := by
  have S' := S
  revert S; refine o1_3 fun news F N D => ?_
  obtain ⟨ow, hrep⟩ := D.rep
  obtain ⟨_, dx, es, n, _, _, m1, m2, hf, _, hc, hn⟩ := hrep a _ ha
  refine o1_2 (fun v' hg hv => ?_) (hf.get hx)
  refine o1_2 (fun p hp e => ?_) (getF_mem hx)
  obtain ⟨k1, k2⟩ := clsOk_at hc (e ▸ hn p hp)
  exact get_own F X (InstAt.of_news N (List.mem_append_right _ m1) (List.mem_append_right _ m2)) k1 (clsOk_parts hc).1 k2 rfl hg hv.handed (.here hv S' h)

theorem op_set {a C : Addr} {fs : Fields} {x : Str} {v : V} {v' : Value} {P : Unit → Shared → Prop} (X : K.In h₀) (S : St prog w K h₀ L m priv σ s.heap) (ha : σ a = some (.inst C fs)) (hx : x ∈ fldNames) (hv : VR v v')
    (hlen : (putF x v fs).length ≤ 100) (h : ∀ s', St prog w K h₀ L m priv (upd σ a (.inst C (putF x v fs))) s'.heap → Same s s' → P () s') : wpAny (model prog w) A (setAttr (.ref a) x v') P E s := by
  revert S; refine o1_3 fun news F N D => ?_
  obtain ⟨ow, hrep⟩ := D.rep
  have R := hrep a _ ha
  obtain ⟨ha1, dx, es, n, hd1, hd2, m1, m2, hf, hfl, hc, hn⟩ := R
  obtain ⟨k1, k2⟩ := clsOk_at hc hx
  refine o0_3 (fun c1 c2 c3 => ?_) (clsOk_parts hc)
  have hput : FsR (putF x v fs) (putL x (PyData.keyHash w.params x) (.str x (s.toks + 1)) v' es) := hf.put hv
  refine set_dict F X N (InstAt.of_news N (List.mem_append_right _ m1) (List.mem_append_right _ m2)) rfl c2 c3 (by unfold takerIn; rw [k2]; rfl) c1 hf.getSome rfl (D.upd m2)
    (by rw [hput.length]; omega) fun h' F' N' => h _ ?_ ⟨_, _, rfl⟩
  refine St.change F' D hrep hd1 m2 N' ⟨ha1, dx, _, _, hd1, hd2, putL1_other (fun e => hd2 e.symm) m1, putL1_mem m2, hput, hlen, hc, ?_⟩
  intro p hp
  have : ∀ fs : Fields, p ∈ putF x v fs → p.1 = x ∨ p ∈ fs := by
    intro fs
    induction fs with
    | nil => intro h; left; cases List.mem_singleton.mp h; rfl
    | cons q r ih =>
      obtain ⟨y, u⟩ := q
      unfold putF
      split
      · rename_i e; intro h
        rcases List.mem_cons.mp h with rfl | h
        · left; exact e
        · right; exact .tail _ h
      · intro h
        rcases List.mem_cons.mp h with rfl | h
        · right; exact .head _
        · rcases ih h with h | h
          · left; exact h
          · right; exact .tail _ h
  rcases this fs hp with e | h2
  · rw [e]; exact hx
  · exact hn p h2

theorem St.isList {a : Addr} {xs : List V} {h : Heap} (S : St prog w K h₀ L m priv σ h) (ha : σ a = some (.list xs)) : ∃ vs, h.IsList a vs ∧ VRs xs vs.toList ∧ xs.length ≤ bigN := by
  revert S; refine o1_3 fun news F N D => ?_
  obtain ⟨ow, hrep⟩ := D.rep
  obtain ⟨_, vs, n, m1, hv, hb⟩ := hrep a _ ha
  exact ⟨vs, ⟨_, (N _ (List.mem_append_right _ m1)).1, rfl, n, rfl⟩, hv, hb⟩
theorem St.isTup {a : Addr} {xs : List V} {h : Heap} (S : St prog w K h₀ L m priv σ h) (ha : σ a = some (.tup xs)) : ∃ vs, IsTup h a vs ∧ VRs xs vs.toList ∧ xs.length ≤ bigN := by
  revert S; refine o1_3 fun news F N D => ?_
  obtain ⟨ow, hrep⟩ := D.rep
  obtain ⟨_, vs, n, m1, hv, hb⟩ := hrep a _ ha
  exact ⟨vs, ⟨_, (N _ (List.mem_append_right _ m1)).1, rfl, n, rfl⟩, hv, hb⟩

theorem big63 {n : Nat} (h : n ≤ bigN) : (n : Int) < 2 ^ 63 := by unfold bigN at h; omega
theorem op_lenList {a : Addr} {xs : List V} (S : St prog w K h₀ L m priv σ s.heap) (ha : σ a = some (.list xs)) (h : Q (.int xs.length) σ) :
    wpAny (model prog w) A (call (.builtin "len") [.ref a]) (Res prog w K h₀ L m priv Q s) E s := by
  refine o1_3 (fun vs hl hv hb => ?_) (S.isList ha)
  have e : vs.size = xs.length := by rw [← hv.length, Array.length_toList]
  refine len_list hl (by rw [e]; exact big63 hb) ?_
  rw [e]
  exact .here (.int _ _) S h
theorem op_itemList {value slice : PySem.Expr} {a : Addr} {xs : List V} {k : Int} {u : Tok} {x : V} (S : St prog w K h₀ L m priv σ s.heap) (ha : σ a = some (.list xs)) (h0 : 0 ≤ k) (hx : xs[k.toNat]? = some x) (h : Q x σ)
    (hs : subscripted slice false (.ref a) (.int k u) = operate [.ref a, .int k u] (getItem (.ref a) (.int k u))) :
    wpAny (model prog w) A (subscriptTail value slice (.ref a) (.int k u)) (Res prog w K h₀ L m priv Q s) E s := by
  refine o1_3 (fun vs hl hv hb => ?_) (S.isList ha)
  refine o1_2 (fun v hvx hr => ?_) (hv.get hx)
  have hlt : k.toNat < xs.length := (List.getElem?_eq_some_iff.mp hx).1
  exact tail_any hl.typeIs slot_list_getitem.lookup (wpAny_getItem_list hl h0 (by unfold bigN at hb; omega) (by simpa using hvx) (.here0 hr S h)) hs
theorem op_itemTup {value slice : PySem.Expr} {a : Addr} {xs : List V} {k : Int} {u : Tok} {x : V} (S : St prog w K h₀ L m priv σ s.heap) (ha : σ a = some (.tup xs)) (h0 : 0 ≤ k) (hx : xs[k.toNat]? = some x) (h : Q x σ)
    (hs : subscripted slice false (.ref a) (.int k u) = operate [.ref a, .int k u] (getItem (.ref a) (.int k u))) :
    wpAny (model prog w) A (subscriptTail value slice (.ref a) (.int k u)) (Res prog w K h₀ L m priv Q s) E s := by
  refine o1_3 (fun vs hl hv hb => ?_) (S.isTup ha)
  refine o1_2 (fun v hvx hr => ?_) (hv.get hx)
  have hlt : k.toNat < xs.length := (List.getElem?_eq_some_iff.mp hx).1
  have hsz : vs.size = xs.length := by rw [← hv.length, Array.length_toList]
  refine tail_any hl.typeIs slot_tuple_getitem.lookup (getItem_tuple (j := k.toNat) hl (by omega) (by unfold bigN at hb; omega) ?_ (by simpa using hvx) (.here0 hr S h)) hs
  unfold seqIndex?
  simp only [if_neg (show ¬ k < 0 by omega), hsz]
  have hk : (0 ≤ k && k < (xs.length : Int)) = true := by
    rw [Bool.and_eq_true]; exact ⟨decide_eq_true h0, decide_eq_true (by omega)⟩
  rw [hk]; rfl

theorem op_append {a : Addr} {xs : List V} {x : V} {v : Value} (S : St prog w K h₀ L m priv σ s.heap) (ha : σ a = some (.list xs)) (hv : VR x v) (hb : xs.length + 1 ≤ bigN) (h : Q .none (upd σ a (.list (xs ++ [x])))) :
    wpAny (model prog w) A (call (.builtin "list.append") [.ref a, v]) (Res prog w K h₀ L m priv Q s) E s := by
  revert S; refine o1_3 fun news F N D => ?_
  obtain ⟨ow, hrep⟩ := D.rep
  obtain ⟨h1, vs, n, m1, hvs, _⟩ := hrep a _ ha
  have e : vs.size = xs.length := by rw [← hvs.length, Array.length_toList]
  refine append_K F N (D.upd m1) (fun h' F' N' => ?_) (big_line (by rw [e]; omega))
  refine .mk .none (St.change (o' := .list (xs ++ [x])) F' D hrep h1 m1 N' ⟨h1, _, _, putL1_mem m1, ?_, ?_⟩) h
  · rw [Array.toList_push]; exact hvs.append (.cons hv .nil)
  · simpa using hb
theorem op_pop {a : Addr} {xs : List V} {x : V} (S : St prog w K h₀ L m priv σ s.heap) (ha : σ a = some (.list (xs ++ [x]))) (h : Q x (upd σ a (.list xs))) :
    wpAny (model prog w) A (call (.builtin "list.pop") [.ref a]) (Res prog w K h₀ L m priv Q s) E s := by
  revert S; refine o1_3 fun news F N D => ?_
  obtain ⟨ow, hrep⟩ := D.rep
  obtain ⟨h1, vs, n, m1, hvs, hb⟩ := hrep a _ ha
  obtain ⟨ws, v, hws, hw, hx⟩ := hvs.snoc_inv
  refine kl_pop F N (p := ws) (y := v) (by rw [hws]; exact kpa_last v ws) (D.upd m1) (big_line (by rw [hvs.length]; exact hb)) fun h' F' N' => ?_
  refine .mk hx (St.change (o' := .list xs) F' D hrep h1 m1 N' ⟨h1, _, _, putL1_mem m1, hw, ?_⟩) h
  rw [List.length_append] at hb; exact Nat.le_trans (Nat.le_add_right _ _) hb
theorem op_extend {a b : Addr} {xs ys : List V} (S : St prog w K h₀ L m priv σ s.heap) (ha : σ a = some (.list xs)) (hb : σ b = some (.list ys)) (hab : a ≠ b) (hne : ys.length ≠ 0) (hz : xs.length + ys.length ≤ bigN)
    (h : Q .none (upd σ a (.list (xs ++ ys)))) :
    wpAny (model prog w) A (call (.builtin "list.extend") [.ref a, .ref b]) (Res prog w K h₀ L m priv Q s) E s := by
  revert S; refine o1_3 fun news F N D => ?_
  obtain ⟨ow, hrep⟩ := D.rep
  obtain ⟨h1, vs, n, m1, hvs, _⟩ := hrep a _ ha
  obtain ⟨_, ws, n2, m2, hws, _⟩ := hrep b _ hb
  have e : vs.size = xs.length := by rw [← hvs.length, Array.length_toList]
  have e2 : ws.size = ys.length := by rw [← hws.length, Array.length_toList]
  have hall : vs.size + ws.size ≤ sizeLine := big_line (by rw [e, e2]; exact hz)
  refine kl_extend F N (List.mem_append_right _ m2) rfl (by rw [hws.length]; exact hne) (D.upd m1) (extend_door hall) (by rw [Array.length_toList]; omega) (by omega) fun h' F' N' => ?_
  refine .mk .none (St.change (o' := .list (xs ++ ys)) F' D hrep h1 m1 N' ⟨h1, _, _, putL1_mem m1, ?_, ?_⟩) h
  · exact hvs.append hws
  · simpa using hz
theorem op_add {a b : Addr} {xs ys : List V} (S : St prog w K h₀ L m priv σ s.heap) (ha : σ a = some (.list xs)) (hb : σ b = some (.list ys)) (hz : xs.length + ys.length ≤ bigN)
    (h : ∀ c, σ c = none → Q (.ref c) (upd σ c (.list (xs ++ ys)))) :
    wpAny (model prog w) A (binaryOp .Add (.ref a) (.ref b)) (Res prog w K h₀ L m priv Q s) E s := by
  refine o1_3 (fun vs hl hv _ => ?_) (S.isList ha)
  refine o1_3 (fun ws hl2 hw _ => ?_) (S.isList hb)
  revert S; refine o1_3 fun news F N D => ?_
  have e : vs.size = xs.length := by rw [← hv.length, Array.length_toList]
  have e2 : ws.size = ys.length := by rw [← hw.length, Array.length_toList]
  refine add_arrays F N hl hl2 (fun h' F' N' => ?_) (big_line (by rw [e, e2]; exact hz))
  obtain ⟨f, S'⟩ := St.new1 (o := .list (xs ++ ys)) F' N D N' (fun p hp => Heap.lt_size (N p hp).1) ⟨rfl, _, 0, .head _, hv.append hw, by simpa using hz⟩
  exact .mk (.ref _) S' (h _ f)
theorem op_copyList {a : Addr} {xs : List V} (S : St prog w K h₀ L m priv σ s.heap) (ha : σ a = some (.list xs)) (h : ∀ c, σ c = none → Q (.ref c) (upd σ c (.list xs))) :
    wpAny (model prog w) A (call (.type "list") [.ref a]) (Res prog w K h₀ L m priv Q s) E s := by
  refine o1_3 (fun vs hl hv hb => ?_) (S.isList ha)
  revert S; refine o1_3 fun news F N D => ?_
  have e : vs.size = xs.length := by rw [← hv.length, Array.length_toList]
  refine list_copyK F N hl (fun l c h' F' N' hlt => ?_) (big_line (by rw [e]; exact hb))
  obtain ⟨f, S'⟩ := St.new1 (o := .list xs) F' N D N' hlt ⟨rfl, vs, c, .head _, hv, hb⟩
  exact .mk (.ref _) S' (h _ f)
end

noncomputable abbrev AEnv := Str → Option V
noncomputable def setE (x : Str) (v : V) (ρ : AEnv) : AEnv := fun y => if y = x then some v else ρ y
noncomputable abbrev PE := V → Store → Prop
inductive Fl where
  | next | brk | cont | ret (v : V)
noncomputable abbrev PS := Fl → AEnv → Store → Prop

/-- equality of data -/
inductive EqB : V → V → Bool → Prop
  | int (i j : Int) : EqB (.int i) (.int j) (i == j)
  | bool (i j : Bool) : EqB (.bool i) (.bool j) (i == j)
  | str (x y : Str) : EqB (.str x) (.str y) (x == y)
  | intStr (i : Int) (x : Str) : EqB (.int i) (.str x) false
  | strInt (x : Str) (i : Int) : EqB (.str x) (.int i) false
  | intBool (i : Int) (b : Bool) : EqB (.int i) (.bool b) (i == if b then 1 else 0)
  | boolInt (b : Bool) (i : Int) : EqB (.bool b) (.int i) ((if b then 1 else 0) == i)
  | strBool (x : Str) (b : Bool) : EqB (.str x) (.bool b) false
  | boolStr (b : Bool) (x : Str) : EqB (.bool b) (.str x) false
noncomputable def dictAt (k : Int) : List (Int × V) → Option V
  | [] => none
  | (j, v) :: r => if j = k then some v else dictAt k r
noncomputable abbrev EqRel := V → V → Bool → Prop
/-- the same object, or equal ones -/
noncomputable def EqI (E : EqRel) (x y : V) (r : Bool) : Prop := (∃ a, x = .ref a ∧ y = .ref a ∧ r = true) ∨ ((∀ a, ¬(x = .ref a ∧ y = .ref a)) ∧ E x y r)
noncomputable def itemsEq (E : EqRel) (xs ys : List V) (r : Bool) : Prop :=
  ∃ e : Nat → Bool, (∀ j x y, xs[j]? = some x → ys[j]? = some y → EqI E x y (e j)) ∧ r = (xs.length == ys.length && (List.range xs.length).all e)
noncomputable def dictEq (E : EqRel) (ka kb : List (Int × V)) (r : Bool) : Prop :=
  ∃ e : Int → Bool, (∀ p ∈ ka, ∀ y, dictAt p.1 kb = some y → EqI E p.2 y (e p.1)) ∧ r = (ka.length == kb.length && ka.all fun p => (dictAt p.1 kb).isSome && e p.1)
noncomputable def refEq (σ : Store) (E : EqRel) (a b : Addr) (r : Bool) : Prop :=
  (∃ xs ys, σ a = some (.list xs) ∧ σ b = some (.list ys) ∧ itemsEq E xs ys r) ∨ (∃ xs ys, σ a = some (.tup xs) ∧ σ b = some (.tup ys) ∧ itemsEq E xs ys r) ∨
  (∃ ka ea kb eb, σ a = some (.dict ka ea) ∧ σ b = some (.dict kb eb) ∧ dictEq E ka kb r)
/-- equality over the store, to a depth -/
noncomputable def EqN (σ : Store) : Nat → EqRel
  | 0, x, y, r => EqB x y r
  | n + 1, x, y, r => EqB x y r ∨ (∃ a kvs ep, x = .ref a ∧ y = .none ∧ σ a = some (.dict kvs ep) ∧ r = false) ∨ ∃ a b, x = .ref a ∧ y = .ref b ∧ refEq σ (EqN σ n) a b r
noncomputable abbrev EqD (σ : Store) : EqRel := EqN σ 4

noncomputable def noRef : V → Prop
  | .ref _ => False
  | _ => True
noncomputable def isB : V → Bool
  | .bool _ => true
  | _ => false
noncomputable def boolW : V → (Bool → Prop) → Prop
  | .bool b, k => k b
  | _, _ => False
noncomputable def intW : V → (Int → Prop) → Prop
  | .int i, k => k i
  | _, _ => False
noncomputable def refW : V → (Addr → Prop) → Prop
  | .ref a, k => k a
  | _, _ => False
noncomputable def optW {α : Type} : Option α → (α → Prop) → Prop
  | some x, k => k x
  | none, _ => False
noncomputable def int2W : V → V → (Int → Int → Prop) → Prop
  | .int i, .int j, k => k i j
  | _, _, _ => False
noncomputable def instAt (σ : Store) (a : Addr) : Prop := ∃ C fs, σ a = some (.inst C fs)
noncomputable def isW (σ : Store) : V → V → (Bool → Prop) → Prop
  | .ref a, .ref b, k => (instAt σ a ∧ instAt σ b) ∧ k (decide (a = b))
  | .none, .none, k => k true
  | .ref _, .none, k => k false
  | .none, .ref _, k => k false
  | _, _, _ => False
noncomputable def listW (σ : Store) (v : V) (k : Addr → List V → Prop) : Prop :=
  refW v fun a => match σ a with | some (.list xs) => k a xs | _ => False
noncomputable def intsOf : List V → Option (List Int)
  | [] => some []
  | .int i :: r => (intsOf r).map (i :: ·)
  | _ :: _ => none
noncomputable def cmpW (op : CmpOp) (a b : V) (σ : Store) (k : Bool → Prop) : Prop :=
  match op with
  | .Lt => int2W a b fun i j => k (decide (i < j))
  | .LtE => int2W a b fun i j => k (decide (i ≤ j))
  | .Gt => int2W a b fun i j => k (decide (i > j))
  | .GtE => int2W a b fun i j => k (decide (i ≥ j))
  | .Eq => ∃ r, EqD σ a b r ∧ k r
  | .NotEq => ∃ r, EqD σ a b r ∧ k (!r)
  | .Is => isW σ a b k
  | .IsNot => isW σ a b fun c => k (!c)
  | .NotIn => intW a fun i => listW σ b fun _ xs => optW (intsOf xs) fun is => k (!is.contains i)
  | _ => False

noncomputable def getW (σ : Store) (v : V) (x : Str) (Q : PE) : Prop :=
  refW v fun a => match σ a with | some (.inst _ fs) => optW (getF x fs) fun u => Q u σ | _ => False
noncomputable def setW (σ : Store) (v : V) (x : Str) (u : V) (k : Store → Prop) : Prop :=
  refW v fun a => match σ a with | some (.inst C fs) => (x ∈ fldNames ∧ (putF x u fs).length ≤ 100) ∧ k (upd σ a (.inst C (putF x u fs))) | _ => False
noncomputable def subW (σ : Store) (o i : V) (Q : PE) : Prop :=
  refW o fun a => intW i fun k => match σ a with
    | some (.list xs) => 0 ≤ k ∧ optW xs[k.toNat]? fun x => Q x σ
    | some (.tup xs) => 0 ≤ k ∧ optW xs[k.toNat]? fun x => Q x σ
    | some (.dict kvs _) => optW (dictAt k kvs) fun x => Q x σ
    | _ => False
noncomputable def setItemW (σ : Store) (o i v : V) (k : Store → Prop) : Prop :=
  listW σ o fun a xs => intW i fun j => (0 ≤ j ∧ j < xs.length) ∧ k (upd σ a (.list (xs.set j.toNat v)))
noncomputable def newD (σ : Store) (kvs : List (Int × V)) (Q : PE) : Prop := ∀ a ep, σ a = none → Q (.ref a) (upd σ a (.dict kvs ep))
noncomputable def newW (σ : Store) (o : O) (Q : PE) : Prop := ∀ a, σ a = none → Q (.ref a) (upd σ a o)
noncomputable def binW (op : Operator) (a b : V) (σ : Store) (Q : PE) : Prop :=
  match op with
  | .Add => match a with
    | .int i => intW b fun j => Q (.int (i + j)) σ
    | _ => listW σ a fun _ xs => listW σ b fun _ ys => xs.length + ys.length ≤ bigN ∧ newW σ (.list (xs ++ ys)) Q
  | .Sub => int2W a b fun i j => Q (.int (i - j)) σ
  | .Mult => int2W a b fun i j => (0 ≤ i ∧ i ≤ 1000000) ∧ Q (.int (i * j)) σ
  | .FloorDiv => int2W a b fun i j => (0 < j ∧ j ≤ 1000000) ∧ Q (.int (Int.fdiv i j)) σ
  | .Mod => int2W a b fun i j => 0 < j ∧ Q (.int (Int.fmod i j)) σ
  | _ => False
noncomputable def sliceL {α : Type} (lo hi : Option Int) (xs : List α) : List α :=
  (match hi with | some j => xs.take j.toNat | none => xs).drop (match lo with | some i => i.toNat | none => 0)
noncomputable def partOk : Option Int → Prop
  | some i => 0 ≤ i
  | none => True
noncomputable def sliceW (σ : Store) (o : V) (lo hi : Option Int) (Q : PE) : Prop :=
  listW σ o fun _ xs => (partOk lo ∧ partOk hi) ∧ newW σ (.list (sliceL lo hi xs)) Q

/-- the pairs of a list of pairs -/
noncomputable def pairsOf (σ : Store) : List V → Option (List (Int × V))
  | [] => some []
  | .ref a :: r => match σ a, pairsOf σ r with
    | some (.tup [.int k, v]), some l => some ((k, v) :: l)
    | _, _ => none
  | _ :: _ => none
noncomputable def dictPut (k : Int) (v : V) : List (Int × V) → List (Int × V)
  | [] => [(k, v)]
  | (j, u) :: r => if j = k then (j, v) :: r else (j, u) :: dictPut k v r
noncomputable def dictOfPairs (l : List (Int × V)) (d : List (Int × V)) : List (Int × V) := l.foldl (fun d p => dictPut p.1 p.2 d) d

noncomputable def bltW (f : Str) (vs : List V) (σ : Store) (Q : PE) : Prop :=
  match vs with
  | [v] =>
    if f = "len" then listW σ v fun _ xs => Q (.int xs.length) σ
    else if f = "list" then listW σ v fun _ xs => newW σ (.list xs) Q
    else if f = "abs" then intW v fun i => Q (.int i.natAbs) σ
    else if f = "dict" then refW v fun a => match σ a with
      | some (.list xs) => optW (pairsOf σ xs) fun l => newD σ (dictOfPairs l []) Q
      | some (.dict kvs _) => newD σ kvs Q
      | _ => False
    else False
  | [v, u] =>
    if f = "max" then int2W v u fun i j => Q (.int (max i j)) σ
    else if f = "min" then int2W v u fun i j => Q (.int (min i j)) σ
    else False
  | _ => False

noncomputable def methW (x : Str) (o : V) (vs : List V) (σ : Store) (Q : PE) : Prop :=
  match vs with
  | [] => if x = "pop" then listW σ o fun a xs => optW xs.getLast? fun y => Q y (upd σ a (.list xs.dropLast)) else False
  | [v] =>
    if x = "append" then listW σ o fun a xs => xs.length + 1 ≤ bigN ∧ Q .none (upd σ a (.list (xs ++ [v])))
    else if x = "extend" then listW σ o fun a xs => listW σ v fun b ys => (a ≠ b ∧ ys.length ≠ 0 ∧ xs.length + ys.length ≤ bigN) ∧ Q .none (upd σ a (.list (xs ++ ys)))
    else if x = "update" then refW o fun a => refW v fun b => match σ a, σ b with
      | some (.dict d _), some (.dict l _) => (a ≠ b ∧ d.length + l.length ≤ bigN) ∧ ∀ ep, Q .none (upd σ a (.dict (dictOfPairs l d) ep))
      | _, _ => False
    else False
  | _ => False

noncomputable def methOk (x : Str) (o : V) (σ : Store) : Prop :=
  refW o fun a => match σ a with
    | some (.list _) => x = "pop" ∨ x = "append" ∨ x = "extend"
    | some (.dict _ _) => x = "update"
    | _ => False

noncomputable abbrev RE := Expr → AEnv → Store → PE → Prop
noncomputable abbrev RT := Expr → AEnv → Store → (Bool → Store → Prop) → Prop

noncomputable def evL (rec : RE) : List Expr → AEnv → Store → (List V → Store → Prop) → Prop
  | [], _, σ, Q => Q [] σ
  | e :: es, ρ, σ, Q => rec e ρ σ fun v σ₁ => evL rec es ρ σ₁ fun vs σ₂ => Q (v :: vs) σ₂
noncomputable def bopW (rec : RE) (op : BoolOp) : List Expr → AEnv → Store → PE → Prop
  | [], _, _, _ => False
  | [e], ρ, σ, Q => rec e ρ σ Q
  | e :: es, ρ, σ, Q => rec e ρ σ fun v σ₁ => boolW v fun b => match op, b with
    | .And, true => bopW rec op es ρ σ₁ Q
    | .Or, false => bopW rec op es ρ σ₁ Q
    | _, _ => Q v σ₁
noncomputable def allW (recT : RT) (op : BoolOp) : List Expr → AEnv → Store → (Bool → Store → Prop) → Prop
  | [], _, σ, Q => Q (match op with | .And => true | .Or => false) σ
  | e :: es, ρ, σ, Q => recT e ρ σ fun b σ₁ => match op, b with
    | .And, true => allW recT op es ρ σ₁ Q
    | .Or, false => allW recT op es ρ σ₁ Q
    | _, _ => Q b σ₁
noncomputable def chainW (rec : RE) : V → List CmpOp → List Expr → AEnv → Store → (Bool → Store → Prop) → Prop
  | a, [op], [r], ρ, σ, Q => rec r ρ σ fun b σ₁ => cmpW op a b σ₁ fun c => Q c σ₁
  | a, op :: ops, r :: rs, ρ, σ, Q => rec r ρ σ fun b σ₁ => cmpW op a b σ₁ fun c => if c then chainW rec b ops rs ρ σ₁ Q else Q false σ₁
  | _, _, _, _, _, _ => False
noncomputable def partW (rec : RE) : Option Expr → AEnv → Store → (Option Int → Store → Prop) → Prop
  | none, _, σ, Q => Q none σ
  | some e, ρ, σ, Q => rec e ρ σ fun v σ₁ => intW v fun i => Q (some i) σ₁

/-- what a loop goes over: its items and the object that must stay -/
noncomputable def srcOf (σ : Store) (v : V) (k : List V → Option (Addr × O) → Prop) : Prop :=
  refW v fun a => match σ a with
    | some (.list xs) => k xs (some (a, .list xs))
    | some (.tup xs) => k xs (some (a, .tup xs))
    | some (.dict kvs ep) => k (kvs.map fun p => .int p.1) (some (a, .dict kvs ep))
    | _ => False
noncomputable def rangeL (n : Int) : List V := (List.range n.toNat).map fun (i : Nat) => V.int (i : Int)
theorem rangeOf_inv {e x : Expr} (h : rangeOf e = some x) : ∃ p q, e = .Call (.Name "range" p) [x] [] q := by
  cases e with
  | Call f a k q =>
    cases f with
    | Name f p =>
      rcases a with _ | ⟨a, _ | _⟩
      · cases h
      · cases k with
        | nil =>
          change (if f = "range" then some a else none) = some x at h
          by_cases hf : f = "range"
          · rw [if_pos hf] at h; cases h; subst hf; exact ⟨_, _, rfl⟩
          · rw [if_neg hf] at h; cases h
        | cons => cases h
      · cases h
    | _ => first | exact ns h | exact ft h | cases h
  | _ => first | exact ns h | exact ft h | cases h
noncomputable def srcW (rec : RE) (e : Expr) (ρ : AEnv) (σ : Store) (k : List V → Option (Addr × O) → Store → Prop) : Prop :=
  match rangeOf e with
  | some x => rec x ρ σ fun v σ₁ => intW v fun n => (0 ≤ n ∧ n ≤ bigN) ∧ k (rangeL n) none σ₁
  | none => rec e ρ σ fun v σ₁ => srcOf σ₁ v fun xs o => k xs o σ₁
noncomputable def stillW : Option (Addr × O) → Store → Prop
  | none, _ => True
  | some (a, o), σ => σ a = some o

/-- names and tuples of names bound -/
noncomputable def asgL (rec : Expr → V → AEnv → Store → (AEnv → Prop) → Prop) : List Expr → List V → AEnv → Store → (AEnv → Prop) → Prop
  | [], [], ρ, _, k => k ρ
  | t :: ts, v :: vs, ρ, σ, k => rec t v ρ σ fun ρ₁ => asgL rec ts vs ρ₁ σ k
  | _, _, _, _, _ => False
noncomputable def asgS (rec : Expr → V → AEnv → Store → (AEnv → Prop) → Prop) (t : Expr) (v : V) (ρ : AEnv) (σ : Store) (k : AEnv → Prop) : Prop :=
  match t with
  | .Name x _ => k (setE x v ρ)
  | .Tuple ts _ _ => refW v fun a => match σ a with | some (.tup vs) => ts.length = vs.length ∧ asgL rec ts vs ρ σ k | _ => False
  | _ => False
noncomputable def asgW : Nat → Expr → V → AEnv → Store → (AEnv → Prop) → Prop
  | 0, _, _, _, _, _ => False
  | n + 1, t, v, ρ, σ, k => asgS (asgW n) t v ρ σ k

noncomputable def testsW (recT : RT) : List Expr → AEnv → Store → (Bool → Store → Prop) → Prop
  | [], _, σ, Q => Q true σ
  | e :: es, ρ, σ, Q => recT e ρ σ fun b σ₁ => if b then testsW recT es ρ σ₁ Q else Q false σ₁
noncomputable def compL (rec : RE) (recT : RT) (elt t : Expr) (ifs : List Expr) (o : Option (Addr × O)) : List V → AEnv → Store → List V → PE → Prop
  | [], _, σ, acc, Q => newW σ (.list acc) Q
  | x :: xs, ρ, σ, acc, Q => asgW 3 t x ρ σ fun ρ₁ => testsW recT ifs ρ₁ σ fun b σ₁ =>
      if b then rec elt ρ₁ σ₁ fun v σ₂ => stillW o σ₂ ∧ compL rec recT elt t ifs o xs ρ₁ σ₂ (acc ++ [v]) Q
      else stillW o σ₁ ∧ compL rec recT elt t ifs o xs ρ₁ σ₁ acc Q
noncomputable def compEnvA (sc : Scope) (ρ : AEnv) : AEnv := fun x => if sc.names.lookup x = some .free then ρ x else none

noncomputable def constW (c : Const) (σ : Store) (Q : PE) : Prop :=
  match c with
  | .none => Q .none σ
  | .bool b => Q (.bool b) σ
  | .int i => Q (.int i) σ
  | .str x => Q (.str x) σ
  | _ => False

noncomputable abbrev CL := Str → List V → Store → PE → Prop

noncomputable def callW (cl : CL) (rec : RE) (f : Str) (args : List Expr) (ρ : AEnv) (σ : Store) (Q : PE) : Prop :=
  if f = "isinstance" then
    match args with
    | [x, .Name b _] => b = "bool" ∧ rec x ρ σ fun v σ₁ => noRef v ∧ Q (.bool (isB v)) σ₁
    | _ => False
  else if f ∈ bltNames then evL rec args ρ σ fun vs σ₁ => bltW f vs σ₁ Q
  else evL rec args ρ σ fun vs σ₁ => cl f vs σ₁ Q

noncomputable def stE (cl : CL) (rec : RE) (recT : RT) (e : Expr) (ρ : AEnv) (σ : Store) (Q : PE) : Prop :=
  match e with
  | .Name x _ => optW (ρ x) fun v => Q v σ
  | .Constant c _ _ => constW c σ Q
  | .BinOp l op r _ => rec l ρ σ fun a σ₁ => rec r ρ σ₁ fun b σ₂ => binW op a b σ₂ Q
  | .UnaryOp .Not x _ => rec x ρ σ fun a σ₁ => boolW a fun b => Q (.bool (!b)) σ₁
  | .UnaryOp .USub x _ => rec x ρ σ fun a σ₁ => intW a fun i => Q (.int (-i)) σ₁
  | .BoolOp op vs _ => bopW rec op vs ρ σ Q
  | .Compare l ops rs _ => rec l ρ σ fun a σ₁ => chainW rec a ops rs ρ σ₁ fun b σ₂ => Q (.bool b) σ₂
  | .IfExp t b o _ => recT t ρ σ fun c σ₁ => if c then rec b ρ σ₁ Q else rec o ρ σ₁ Q
  | .Attribute v x _ => rec v ρ σ fun a σ₁ => getW σ₁ a x Q
  | .Subscript v (.Slice lo hi none _) _ => rec v ρ σ fun o σ₁ => partW rec lo ρ σ₁ fun l σ₂ => partW rec hi ρ σ₂ fun h σ₃ => sliceW σ₃ o l h Q
  | .Subscript v i _ => rec v ρ σ fun o σ₁ => rec i ρ σ₁ fun k σ₂ => subW σ₂ o k Q
  | .List es _ => evL rec es ρ σ fun vs σ₁ => newW σ₁ (.list vs) Q
  | .Tuple es _ _ => evL rec es ρ σ fun vs σ₁ => newW σ₁ (.tup vs) Q
  | .Dict [] [] _ => newD σ [] Q
  | .Call (.Name f _) args [] _ => callW cl rec f args ρ σ Q
  | .Call (.Attribute o x _) args [] _ => rec o ρ σ fun ov σ₁ => methOk x ov σ₁ ∧ evL rec args ρ σ₁ fun vs σ₂ => methW x ov vs σ₂ Q
  | .ListComp elt [⟨t, it, ifs, 0⟩] sc _ => srcW rec it ρ σ fun xs o σ₁ => compL rec recT elt t ifs o xs (compEnvA sc ρ) σ₁ [] Q
  | _ => False
noncomputable def stT (rec : RE) (recT : RT) (e : Expr) (ρ : AEnv) (σ : Store) (Q : Bool → Store → Prop) : Prop :=
  match e with
  | .BoolOp op vs _ => allW recT op vs ρ σ Q
  | .UnaryOp .Not x _ => recT x ρ σ fun b σ₁ => Q (!b) σ₁
  | .Compare l ops rs _ => rec l ρ σ fun a σ₁ => chainW rec a ops rs ρ σ₁ Q
  | .Name .. => rec e ρ σ fun v σ₁ => boolW v fun b => Q b σ₁
  | .Constant .. => rec e ρ σ fun v σ₁ => boolW v fun b => Q b σ₁
  | .Call .. => rec e ρ σ fun v σ₁ => boolW v fun b => Q b σ₁
  | _ => False
mutual
noncomputable def awpE (cl : CL) : Nat → RE
  | 0, _, _, _, _ => False
  | n + 1, e, ρ, σ, Q => stE cl (awpE cl n) (awpT cl n) e ρ σ Q
noncomputable def awpT (cl : CL) : Nat → RT
  | 0, _, _, _, _ => False
  | n + 1, e, ρ, σ, Q => stT (awpE cl n) (awpT cl n) e ρ σ Q
end

noncomputable abbrev RS := Stmt → AEnv → Store → PS → Prop
noncomputable def blkW (rec : RS) : List Stmt → AEnv → Store → PS → Prop
  | [], ρ, σ, Q => Q .next ρ σ
  | s :: ss, ρ, σ, Q => rec s ρ σ fun fl ρ₁ σ₁ => match fl with | .next => blkW rec ss ρ₁ σ₁ Q | f => Q f ρ₁ σ₁
noncomputable def forW (body : AEnv → Store → PS → Prop) (t : Expr) (o : Option (Addr × O)) : List V → AEnv → Store → PS → Prop
  | [], ρ, σ, Q => Q .next ρ σ
  | x :: xs, ρ, σ, Q => asgW 3 t x ρ σ fun ρ₁ => body ρ₁ σ fun fl ρ₂ σ₂ => match fl with
    | .brk => Q .next ρ₂ σ₂
    | .ret v => Q (.ret v) ρ₂ σ₂
    | _ => stillW o σ₂ ∧ forW body t o xs ρ₂ σ₂ Q
noncomputable def whileStep (test : AEnv → Store → (Bool → Store → Prop) → Prop) (body : AEnv → Store → PS → Prop) (P : AEnv → Store → Prop) (ρ : AEnv) (σ : Store) (Q : PS) : Prop :=
  test ρ σ fun c σ₁ => if c then body ρ σ₁ fun fl ρ₂ σ₂ => (match fl with
    | .brk => Q .next ρ₂ σ₂
    | .ret v => Q (.ret v) ρ₂ σ₂
    | _ => P ρ₂ σ₂) else Q .next ρ σ₁
noncomputable def whileW (test : AEnv → Store → (Bool → Store → Prop) → Prop) (body : AEnv → Store → PS → Prop) (ρ : AEnv) (σ : Store) (Q : PS) : Prop :=
  ∀ P : AEnv → Store → Prop, (∀ ρ σ, whileStep test body P ρ σ Q → P ρ σ) → P ρ σ
noncomputable def assW (recE : RE) (t : Expr) (v : V) (ρ : AEnv) (σ : Store) (Q : PS) : Prop :=
  match t with
  | .Attribute o x _ => recE o ρ σ fun ov σ₁ => setW σ₁ ov x v fun σ₂ => Q .next ρ σ₂
  | .Subscript o i _ => recE o ρ σ fun ov σ₁ => recE i ρ σ₁ fun iv σ₂ => setItemW σ₂ ov iv v fun σ₃ => Q .next ρ σ₃
  | t => asgW 3 t v ρ σ fun ρ₁ => Q .next ρ₁ σ
noncomputable def stS (recE : RE) (recT : RT) (rec : RS) (s : Stmt) (ρ : AEnv) (σ : Store) (Q : PS) : Prop :=
  match s with
  | .Assign [t] e _ => recE e ρ σ fun v σ₁ => assW recE t v ρ σ₁ Q
  | .Expr e _ => recE e ρ σ fun v σ₁ => noRef v ∧ Q .next ρ σ₁
  | .If t b o _ => recT t ρ σ fun c σ₁ => if c then blkW rec b ρ σ₁ Q else blkW rec o ρ σ₁ Q
  | .Return (some e) _ => recE e ρ σ fun v σ₁ => Q (.ret v) ρ σ₁
  | .Return none _ => Q (.ret .none) ρ σ
  | .While t b [] _ => whileW (fun ρ σ k => recT t ρ σ k) (blkW rec b) ρ σ Q
  | .For t it b [] _ => srcW recE it ρ σ fun xs o σ₁ => forW (blkW rec b) t o xs ρ σ₁ Q
  | .Pass _ => Q .next ρ σ
  | _ => False
noncomputable def awpS (cl : CL) : Nat → RS
  | 0, _, _, _, _ => False
  | n + 1, s, ρ, σ, Q => stS (awpE cl 20) (awpT cl 20) (awpS cl n) s ρ σ Q
noncomputable def bindA : List Arg → List V → AEnv
  | a :: as, v :: vs => fun y => if y = a.arg then some v else bindA as vs y
  | _, _ => fun _ => none
noncomputable def retW (Q : PE) : PS := fun fl _ σ => match fl with | .ret v => Q v σ | .next => Q .none σ | _ => False
noncomputable def awpF (cl : CL) (params : Arguments) (body : List Stmt) (vs : List V) (σ : Store) (Q : PE) : Prop :=
  blkW (awpS cl 20) body (bindA params.args vs) σ (retW Q)

section
open PyProof.Rows.LCg

theorem dbg1 {x : Str} (h : dbg x = false) : (x == ("__debug__" : Str)) = false := (Bool.or_eq_false_iff.mp h).1
theorem dbg2 {x : Str} (h : dbg x = false) : (x == ("__classdict__" : Str)) = false := (Bool.or_eq_false_iff.mp h).2
theorem isRefK_inv {K : Frag} {v : Option (Option Value)} (h : isRefK K v = true) : ∃ a, v = some (some (.ref a)) ∧ keepIn K (.ref a) = true := by
  rcases v with _ | _ | v
  · cases h
  · cases h
  · cases v <;> first | exact ⟨_, rfl, h⟩ | cases h

theorem lastMarks_of {ops : List CmpOp} {rs : List Expr} (h : rs.all notDisp = true) : lastMarks ops rs = false := by
  induction rs generalizing ops with
  | nil => cases ops with
    | nil => rfl
    | cons o r => cases r <;> rfl
  | cons e es ih =>
    have h1 := (Bool.and_eq_true_iff.mp ((List.all_cons ..).symm.trans h)).1
    have h2 := (Bool.and_eq_true_iff.mp ((List.all_cons ..).symm.trans h)).2
    cases ops with
    | nil => cases es <;> rfl
    | cons o ops =>
      cases ops with
      | nil => cases es with
        | nil => cases e <;> first | rfl | exact ns h1 | exact ft h1 | cases h1
        | cons e' es' => exact ih h2
      | cons o' ops' => cases es with
        | nil => exact ih h2
        | cons e' es' => exact ih h2
theorem starEach_plain {e : Expr} {es : List Expr} {ev : Env} (h : plainArg e = true) : starEach (e :: es) ev = (false, eval e ev) :: starEach es ev := by
  cases e <;> first | rfl | exact ns h | exact ft h | cases h
theorem baseOk_of {o : Expr} {x : Str} {ev : Env} {t : Sem Value} (h : baseOk o = true) : attributeBase o x ev t = t := by
  cases o with
  | Call f a k q => cases f <;> first | rfl | (cases a <;> first | rfl | (cases k <;> first | rfl | cases h))
  | _ => rfl
theorem folded_of {e : Expr} {ev : Env} (h : notDisp e = true) (v : Value) : foldedSetIterable e ev v = pure v := by
  cases e <;> first | rfl | exact ns h | exact ft h | cases h

structure EvOk (ev : Env) : Prop where
  kd : ev.scope.kind = .function
  gl : ev.globals = mainGlobals
  bl : ev.builtins = builtinsNs
  cl : ∀ x, ev.kindOf x = some .cell → (ev.cells.lookup x).isSome = true

/-- how a name of the env is read -/
noncomputable def Rd (ev : Env) (L : Addr) (m : Str → Option Value) (priv : List (Addr × Obj)) (x : Str) (v : Value) : Prop :=
  (ev.kindOf x = some .local ∧ ev.locals = L ∧ m x = some v) ∨
  (ev.kindOf x = some .local ∧ ∃ o mc, (ev.locals, o) ∈ priv ∧ NsObj o mc ∧ mc x = some v) ∨
  ((ev.kindOf x = some .cell ∨ ev.kindOf x = some .free) ∧ ∃ c o, ev.cells.lookup x = some c ∧ (c, o) ∈ priv ∧ o.data = .cell (some v))
noncomputable def EnvR (ev : Env) (L : Addr) (m : Str → Option Value) (priv : List (Addr × Obj)) (ρ : AEnv) : Prop := ∀ x V, ρ x = some V → ∃ v, VR V v ∧ Rd ev L m priv x v

structure Fm (K : Frag) (p : Program) (loose : List Str) (mean : ExcName → Option Value) (mg mb : Str → Option Value) (h₀ : Heap) (L : Addr) (A : Around) (fe : Env) (lv : Nat) : Prop where
  below : ∃ A₀ base outer, Below A₀ base outer h₀ ∧ A.frames = some (fe :: outer)
  fr : fe.frame = some L
  kd : fe.scope.kind = .function
  X : K.In h₀
  T : Top p loose mean mg mb h₀
  hh : A.handled = none
  dp : A.depth + 4 * lv ≤ 500
  un : A.units + 30 * lv ≤ 5000

noncomputable abbrev NoE : Value → Shared → Prop := fun _ _ => False

noncomputable def CallAt (prog : Program) (w : World) (K : Frag) (p : Program) (loose : List Str) (mean : ExcName → Option Value) (mg mb : Str → Option Value) (lv : Nat) (f : Value) (vs : List V) (σ : Store) (Q : PE) : Prop :=
  ∀ h₀ L A fe m priv s vals, Fm K p loose mean mg mb h₀ L A fe lv → St prog w K h₀ L m priv σ s.heap → VRs vs vals →
    wpAny (model prog w) A (call f vals) (Res prog w K h₀ L m priv Q s) NoE s
noncomputable def CallOk (prog : Program) (w : World) (K : Frag) (p : Program) (loose : List Str) (mean : ExcName → Option Value) (mg mb : Str → Option Value) (lv : Nat) : CL := fun x vs σ Q =>
  ∃ a, nsIn K mainGlobals x = some (some (.ref a)) ∧ CallAt prog w K p loose mean mg mb lv (.ref a) vs σ Q

section
variable {prog : Program} {w : World} {K : Frag} {p : Program} {loose : List Str} {mean : ExcName → Option Value} {mg mb : Str → Option Value} {lv : Nat}
variable {h₀ : Heap} {L : Addr} {A : Around} {fe ev : Env} {m : Str → Option Value} {priv : List (Addr × Obj)} {ρ : AEnv} {σ : Store} {s s₁ : Shared} {Q : PE} {E : Value → Shared → Prop}

theorem Res.trans {v : Value} {s' : Shared} (h : Same s s₁) (r : Res prog w K h₀ L m priv Q s₁ v s') : Res prog w K h₀ L m priv Q s v s' := by
  revert r; refine o2_4 fun x σ' hv S hs hq => ?_; exact ⟨x, σ', hv, S, h.trans hs, hq⟩
theorem Res.to {Q' : PE} {v : Value} {s' : Shared} (r : Res prog w K h₀ L m priv Q s v s') (h : ∀ x σ, Q x σ → Q' x σ) : Res prog w K h₀ L m priv Q' s v s' := by
  revert r; refine o2_4 fun x σ' hv S hs hq => ?_; exact ⟨x, σ', hv, S, hs, h _ _ hq⟩

/-- one expression, then the rest -/
theorem thenE {α : Type} {t : Sem Value} {Q : PE} {P : Value → Shared → Prop} (h : wpAny (model prog w) A t (Res prog w K h₀ L m priv Q s) NoE s)
    (k : ∀ x σ' v s', VR x v → St prog w K h₀ L m priv σ' s'.heap → Same s s' → Q x σ' → P v s') : wpAny (model prog w) A t P NoE s :=
  wpAny_mono h (fun v s' ⟨x, σ', hv, S, hs, hq⟩ => k x σ' v s' hv S hs hq) fun _ _ e => e
theorem noE {α : Type} {t : Sem α} {P : α → Shared → Prop} (h : wpAny (model prog w) A t P NoE s) : wpAny (model prog w) A t P E s := wpAny_mono h (fun _ _ x => x) fun _ _ e => e.elim

theorem St.cell {c : Addr} {o : Obj} {h : Heap} (S : St prog w K h₀ L m priv σ h) (hm : (c, o) ∈ priv) : h.get? c = some o := by
  revert S; refine o1_3 fun news F N D => ?_
  exact (N _ (List.mem_append_left _ hm)).1

theorem readName {x : Str} {v : Value} {P : Value → Shared → Prop} (hk : ev.scope.kind = .function) (S : St prog w K h₀ L m priv σ s.heap) (hr : Rd ev L m priv x v) (hd : dbg x = false) (h : P v s) {pos : Pos} : wpAny (model prog w) A (eval (.Name x pos) ev) P E s := by
  refine wpAny_Name ?_ (dbg1 hd)
  rcases hr with ⟨h1, h2, h3⟩ | ⟨h1, o, mc, h2, h3, h4⟩ | ⟨h1, c, o, h2, h3, h4⟩
  · exact wpAny_loadName_local hk h1 (h2 ▸ S.fr.ns) h3 h
  · exact wpAny_loadName_local hk h1 (h3.ns (S.cell h2)) h4 h
  · rcases h1 with h1 | h1
    · exact wpAny_loadName_cell hk h1 h2 ⟨o, S.cell h3, h4⟩ h
    · exact wpAny_loadName_free hk h1 h2 ⟨o, S.cell h3, h4⟩ h (dbg2 hd)

theorem globName {x : Str} {v : Value} {P : Value → Shared → Prop} {pos : Pos} (ko : EvOk ev) (hk : ev.kindOf x = some .globalImplicit) (hd : dbg x = false) (S : St prog w K h₀ L m priv σ s.heap) (X : K.In h₀) (T : Top p loose mean mg mb h₀)
    (e : nsIn K mainGlobals x = some (some v)) (h : P v s) : wpAny (model prog w) A (eval (.Name x pos) ev) P E s :=
  Name_function_global ko.kd hk (loadGlobal_global (by rw [ko.gl]; exact T.g.keeps S.fr.keep) (mg_of X T.g e) h) (dbg1 hd)
theorem bltName {x : Str} {v : Value} {P : Value → Shared → Prop} {pos : Pos} (ko : EvOk ev) (hk : ev.kindOf x = some .globalImplicit) (hd : dbg x = false) (S : St prog w K h₀ L m priv σ s.heap) (X : K.In h₀) (T : Top p loose mean mg mb h₀)
    (e : nsIn K mainGlobals x = some none) (hv : bootBuiltins x = some v) (hn : x ≠ "__name__") (h : P v s) : wpAny (model prog w) A (eval (.Name x pos) ev) P E s :=
  Name_function_global ko.kd hk (loadGlobal_builtin (by rw [ko.gl]; exact T.g.keeps S.fr.keep) (mg_none_of X T.g e) (by rw [ko.bl]; exact T.b.keeps S.fr.keep) ((T.builtins x hn).trans hv) h) (dbg1 hd)
end

end

section
open PyProof.Rows.LCg

section
variable {prog : Program} {w : World} {K : Frag} {p : Program} {loose : List Str} {mean : ExcName → Option Value} {mg mb : Str → Option Value} {lv : Nat}
variable {h₀ h : Heap} {L : Addr} {A : Around} {fe ev : Env} {m : Str → Option Value} {priv : List (Addr × Obj)} {ρ : AEnv} {σ : Store} {s : Shared} {Q : PE} {E : Value → Shared → Prop}

theorem eqB_rc {a b : V} {r : Bool} {av bv : Value} (h : EqB a b r) (ha : VR a av) (hb : VR b bv) : SeqAt.RcAt A s av bv r ∧ SeqAt.RcNeAt A s av bv (!r) ∧ SeqAt.EqAt A s av bv r := by
  cases h with
  | int i j => obtain ⟨t, rfl⟩ := ha; obtain ⟨u, rfl⟩ := hb; exact ⟨.int_int _ _ _ _, .int_int _ _ _ _, .int_int _ _ _ _⟩
  | bool i j => obtain ⟨t, rfl⟩ := ha; obtain ⟨u, rfl⟩ := hb; exact ⟨.bool_bool _ _, .bool_bool _ _, .bool_bool _ _⟩
  | str x y => obtain ⟨t, rfl⟩ := ha; obtain ⟨u, rfl⟩ := hb; exact ⟨.str_str _ _ _ _, .str_str _ _ _ _, .str_str _ _ _ _⟩
  | intStr i x => obtain ⟨t, rfl⟩ := ha; obtain ⟨u, rfl⟩ := hb; exact ⟨.int_str _ _ _ _, .int_str _ _ _ _, .int_str _ _ _ _⟩
  | strInt x i => obtain ⟨t, rfl⟩ := ha; obtain ⟨u, rfl⟩ := hb; exact ⟨.str_int _ _ _ _, .str_int _ _ _ _, .str_int _ _ _ _⟩
  | intBool i x => obtain ⟨t, rfl⟩ := ha; obtain ⟨u, rfl⟩ := hb; exact ⟨.int_bool _ _ _, .int_bool _ _ _, .int_bool _ _ _⟩
  | boolInt x i => obtain ⟨t, rfl⟩ := ha; obtain ⟨u, rfl⟩ := hb; exact ⟨.bool_int _ _ _, .bool_int _ _ _, .bool_int _ _ _⟩
  | strBool x i => obtain ⟨t, rfl⟩ := ha; obtain ⟨u, rfl⟩ := hb; exact ⟨.str_bool _ _ _, .str_bool _ _ _, .str_bool _ _ _⟩
  | boolStr i x => obtain ⟨t, rfl⟩ := ha; obtain ⟨u, rfl⟩ := hb; exact ⟨.bool_str _ _ _, .bool_str _ _ _, .bool_str _ _ _⟩

theorem PRs.length {xs : List (Int × V)} {vs : List (Int × Value)} (h : PRs xs vs) : vs.length = xs.length := by
  induction h with
  | nil => rfl
  | cons _ _ ih => simp [ih]
theorem PRs.keys {xs : List (Int × V)} {vs : List (Int × Value)} (h : PRs xs vs) : vs.map (·.1) = xs.map (·.1) := by
  induction h with
  | nil => rfl
  | cons _ _ ih => simp [ih]
theorem St.dictAt {a : Addr} {kvs : List (Int × V)} {ep : Nat} (S : St prog w K h₀ L m priv σ h) (ha : σ a = some (.dict kvs ep)) : ∃ kws, h.DictAt (intKind prog w) a kws ep ∧ PRs kvs kws ∧ kvs.length ≤ bigN ∧ (a == sysModules) = false := by
  revert S; refine o1_3 fun news F N D => ?_
  obtain ⟨ow, hrep⟩ := D.rep
  obtain ⟨_, o, kws, m1, ⟨es, r⟩, hp, hb⟩ := hrep a _ ha
  exact ⟨kws, ⟨o, es, (N _ (List.mem_append_right _ m1)).1, r⟩, hp, hb⟩

theorem valueAt_cons {k j : Int} {v : Value} {r : List (Int × Value)} : valueAt ((j, v) :: r) k = if j = k then some v else valueAt r k := by
  unfold valueAt
  rw [List.find?_cons]
  by_cases h : j = k
  · rw [if_pos h]; simp [h]
  · rw [if_neg h]; simp [h]
theorem PRs.get {xs : List (Int × V)} {vs : List (Int × Value)} (h : PRs xs vs) {k : Int} {x : V} (e : dictAt k xs = some x) : ∃ v, valueAt vs k = some v ∧ VR x v := by
  induction h with
  | nil => cases e
  | @cons j y v xs vs hv _ ih =>
    unfold dictAt at e
    rw [valueAt_cons]
    by_cases hj : j = k
    · rw [if_pos hj] at e ⊢; cases e; exact ⟨_, rfl, hv⟩
    · rw [if_neg hj] at e ⊢; exact ih e
theorem PRs.nget {xs : List (Int × V)} {vs : List (Int × Value)} (h : PRs xs vs) {k : Int} (e : dictAt k xs = none) : valueAt vs k = none := by
  induction h with
  | nil => rfl
  | @cons j y v xs vs hv _ ih =>
    unfold dictAt at e
    rw [valueAt_cons]
    by_cases hj : j = k
    · rw [if_pos hj] at e; cases e
    · rw [if_neg hj] at e ⊢; exact ih e

theorem dict_eq_declines_none {A : Around} {E : Value → Shared → Prop} {l : Addr} {kws : List (Int × Value)} {Q : Value → Shared → Prop} (hd : s.heap.DictOf (intKind prog w) l kws) (h : Q .notImplemented s) : wpAny (model prog w) A (call (.builtin "dict.__eq__") [.ref l, .none]) Q E s := by
  refine wpAny_call_entry PySem.F.slot_dict_eq hd.typeIs PySem.F.entry_dict_eq ?_ (PySem.F.args_dict_eq_2 _ _)
  show wpAny _ _ (Builtin.Dict.dictSlotArgs "__eq__" ⟨[.ref l, .none], []⟩ >>= _) _ _ s
  refine wpAny_bind ?_
  unfold Builtin.Dict.dictSlotArgs
  refine wpAny_bind (wpAny_notOrdered_dict hd.typeIs ?_)
  show wpAny _ _ (pure (Value.ref l, Value.none)) _ _ s
  refine wpAny_pure ?_
  refine wpAny_bind (wpAny_isInstance (T := "NoneType") (v := .none) (show Shared.TypeIs _ Value.none "NoneType" from rfl) F.sub_NoneType_dict ?_)
  rw [if_pos (by decide)]
  exact wpAny_bind (wpAny_rule (wpAny_pure ⟨_, rfl, h⟩))
theorem dict_ne_declines_none {A : Around} {E : Value → Shared → Prop} {l : Addr} {kws : List (Int × Value)} {Q : Value → Shared → Prop} (hd : s.heap.DictOf (intKind prog w) l kws) (h : Q .notImplemented s) : wpAny (model prog w) A (call (.builtin "dict.__ne__") [.ref l, .none]) Q E s := by
  refine wpAny_call_entry PySem.F.slot_dict_ne hd.typeIs PySem.F.entry_dict_ne ?_ (PySem.F.args_dict_ne_2 _ _)
  show wpAny _ _ (Builtin.Dict.dictSlotArgs "__ne__" ⟨[.ref l, .none], []⟩ >>= _) _ _ s
  refine wpAny_bind ?_
  unfold Builtin.Dict.dictSlotArgs
  refine wpAny_bind (wpAny_notOrdered_dict hd.typeIs ?_)
  show wpAny _ _ (pure (Value.ref l, Value.none)) _ _ s
  refine wpAny_pure ?_
  refine wpAny_bind (wpAny_isInstance (T := "NoneType") (v := .none) (show Shared.TypeIs _ Value.none "NoneType" from rfl) F.sub_NoneType_dict ?_)
  rw [if_pos (by decide)]
  exact wpAny_bind (wpAny_rule (wpAny_pure ⟨_, rfl, h⟩))

theorem dictOf_of {l : Addr} {kws : List (Int × Value)} {ep : Nat} (h : s.heap.DictAt (intKind prog w) l kws ep) : s.heap.DictOf (intKind prog w) l kws := let ⟨o, es, ho, r⟩ := h; ⟨o, es, ep, ho, r⟩

theorem rc_dict_none {A : Around} {l : Addr} (hd : ∀ prog w, ∃ kws, s.heap.DictOf (intKind prog w) l kws) (ht : s.TypeIs (.ref l) "dict") (hu : A.units < cLine) : SeqAt.RcAt A s (.ref l) .none false ∧ SeqAt.RcNeAt A s (.ref l) .none true := by
  constructor
  · intro prog w E Q h
    obtain ⟨kws, hd⟩ := hd prog w
    exact SeqAt.rc_eq_decline_or (k := false) ht (show Shared.TypeIs _ Value.none "NoneType" from rfl) (by decide) F.sub_NoneType_dict F.slot_dict_eq F.slot_NoneType_eq_refl
      (fun _ hq => dict_eq_declines_none hd hq)
      (fun _ hq => call_gives F.slot_NoneType_eq_refl rfl F.entry_NoneType_eq (F.args_NoneType_eq_2 _ _) (SeqAt.NoneType___eq___none_ref_0 l) hq)
      (fun _ hq => wpAny_of_eq (rfl : isSame (.ref l) .none = pure false) hq) (.inr hu) h
  · intro prog w E Q h
    obtain ⟨kws, hd⟩ := hd prog w
    exact SeqAt.rc_ne_decline_or (k := false) ht (show Shared.TypeIs _ Value.none "NoneType" from rfl) (by decide) F.sub_NoneType_dict F.slot_dict_ne F.slot_NoneType_ne_refl
      (fun _ hq => dict_ne_declines_none hd hq)
      (fun _ hq => call_gives F.slot_NoneType_ne_refl rfl F.entry_NoneType_ne (F.args_NoneType_ne_2 _ _) (SeqAt.NoneType___ne___none_ref_0 l) hq)
      (fun _ hq => wpAny_of_eq (rfl : isSame (.ref l) .none = pure false) hq) (.inr hu) h

theorem pairs_any {prog' : Program} {w' : World} {es : List DictEntry} {kvs : List (Int × Value)} (h : Pairs (intKind prog w) es kvs) : Pairs (intKind prog' w') es kvs := by
  induction h with
  | nil => exact .nil
  | cons h1 h2 _ ih => exact .cons h1 h2 ih
theorem dictOf_any {prog' : Program} {w' : World} {l : Addr} {kws : List (Int × Value)} (h : s.heap.DictOf (intKind prog w) l kws) : s.heap.DictOf (intKind prog' w') l kws := by
  revert h; refine o3_6 fun o es ep h1 h2 h3 h4 h5 h6 => ?_
  exact ⟨o, es, ep, h1, h2, h3, h4, pairs_any h5, h6⟩

theorem eqI_at {A : Around} {n : Nat} {x y : V} {xv yv : Value} {r : Bool} (ih : EqN σ n x y r → (∀ a, ¬(x = .ref a ∧ y = .ref a)) → SeqAt.EqAt A s xv yv r) (hx : VR x xv) (hy : VR y yv) (h : EqI (EqN σ n) x y r) : SeqAt.EqAt A s xv yv r := by
  rcases h with ⟨a, rfl, rfl, rfl⟩ | ⟨h1, h2⟩
  · obtain rfl := hx.ref_inv
    obtain rfl := hy.ref_inv
    exact .same _
  · exact ih h2 h1

theorem hits_of {A : Around} {n : Nat} {ka kb : List (Int × V)} {wa wb : List (Int × Value)} {e : Int → Bool}
    (ih : ∀ {x y : V} {xv yv : Value} {r : Bool}, VR x xv → VR y yv → EqN σ n x y r → (∀ a, ¬(x = .ref a ∧ y = .ref a)) → SeqAt.EqAt A s xv yv r) (pa : PRs ka wa) (pb : PRs kb wb)
    (he : ∀ p ∈ ka, ∀ y, dictAt p.1 kb = some y → EqI (EqN σ n) p.2 y (e p.1)) : KeqHits A s wb wa (ka.all fun p => (dictAt p.1 kb).isSome && e p.1) := by
  induction pa with
  | nil => exact .nil
  | @cons k x v ka wa hx _ ih2 =>
    have h2 := ih2 fun p hp => he p (.tail _ hp)
    cases q : dictAt k kb with
    | none =>
      have e1 : (List.all ((k, x) :: ka) fun p => (dictAt p.1 kb).isSome && e p.1) = false := by
        rw [List.all_cons]; simp only [q]; rfl
      rw [e1]
      exact .miss (pb.nget q)
    | some y =>
      refine o1_2 (fun yv hv hr => ?_) (pb.get q)
      have e1 : (List.all ((k, x) :: ka) fun p => (dictAt p.1 kb).isSome && e p.1) = (e k && ka.all fun p => (dictAt p.1 kb).isSome && e p.1) := by
        rw [List.all_cons]; simp only [q]; rfl
      rw [e1]
      exact .hit hv (eqI_at (fun h1 h2 => ih hx hr h1 h2) hx hr (he (k, x) (.head _) y q)) h2

theorem eqN_rc : ∀ (n : Nat) {A : Around} {a b : V} {r : Bool} {av bv : Value}, St prog w K h₀ L m priv σ s.heap → A.units + n ≤ 9000 → EqN σ n a b r → VR a av → VR b bv →
    SeqAt.RcAt A s av bv r ∧ SeqAt.RcNeAt A s av bv (!r) ∧ ((∀ x, ¬(a = .ref x ∧ b = .ref x)) → SeqAt.EqAt A s av bv r)
  | 0, A, a, b, r, av, bv, S, hu, h, ha, hb => by
    refine o0_3 (fun h1 h2 h3 => ?_) (eqB_rc (A := A) (s := s) h ha hb)
    exact ⟨h1, h2, fun _ => h3⟩
  | n + 1, A, a, b, r, av, bv, S, hu, h, ha, hb => by
    have hu2 : A.in1.units + n ≤ 9000 := by show A.units + 1 + n ≤ 9000; omega
    have hc : A.units < cLine := by show A.units < 9900; omega
    have ih : ∀ {x y : V} {xv yv : Value} {r : Bool}, VR x xv → VR y yv → EqN σ n x y r → (∀ a, ¬(x = .ref a ∧ y = .ref a)) → SeqAt.EqAt A.in1 s xv yv r := fun hx hy h1 h2 => (eqN_rc n S hu2 h1 hx hy).2.2 h2
    have ihI : ∀ {x y : V} {xv yv : Value} {r : Bool}, VR x xv → VR y yv → EqI (EqN σ n) x y r → SeqAt.EqAt A.in1 s xv yv r := fun hx hy h => eqI_at (fun h1 h2 => ih hx hy h1 h2) hx hy h
    rcases h with h | ⟨x, kvs, ep, rfl, rfl, hx, rfl⟩ | ⟨x, y, rfl, rfl, h⟩
    · refine o0_3 (fun h1 h2 h3 => ?_) (eqB_rc (A := A) (s := s) h ha hb)
      exact ⟨h1, h2, fun _ => h3⟩
    · obtain rfl := ha.ref_inv
      obtain rfl := hb.none_inv
      refine o1_2 (fun kws hd _ => ?_) (S.dictAt hx)
      have hd' := dictOf_of hd
      obtain ⟨h1, h2⟩ := rc_dict_none (A := A) (fun prog w => ⟨kws, dictOf_any hd'⟩) hd'.typeIs hc
      refine ⟨h1, h2, fun _ prog w E Q hq => ?_⟩
      unfold eqBool
      refine wpAny_holding ?_
      refine wpAny_ite_split (fun hab => absurd (eq_of_beq hab) nofun) (fun _ => ?_)
      exact wpAny_bind (h1 prog w E _ (wpAny_truthy_bool hq))
    · obtain rfl := ha.ref_inv
      obtain rfl := hb.ref_inv
      have fin : SeqAt.RcAt A s (.ref x) (.ref y) r ∧ SeqAt.RcNeAt A s (.ref x) (.ref y) (!r) → SeqAt.RcAt A s (.ref x) (.ref y) r ∧ SeqAt.RcNeAt A s (.ref x) (.ref y) (!r) ∧ ((∀ z, ¬(V.ref x = .ref z ∧ V.ref y = .ref z)) → SeqAt.EqAt A s (.ref x) (.ref y) r) :=
        fun ⟨h1, h2⟩ => ⟨h1, h2, fun hn => .of_refs (fun e => hn x ⟨rfl, by rw [e]⟩) h1⟩
      refine fin ?_
      rcases h with ⟨xs, ys, hx, hy, e, he, rfl⟩ | ⟨xs, ys, hx, hy, e, he, rfl⟩ | ⟨ka, ea, kb, eb, hx, hy, e, he, rfl⟩
      · refine o1_3 (fun vs hl hv _ => ?_) (S.isList hx)
        refine o1_3 (fun ws hl2 hw _ => ?_) (S.isList hy)
        have e1 : vs.size = xs.length := by rw [← hv.length, Array.length_toList]
        have e2 : ws.size = ys.length := by rw [← hw.length, Array.length_toList]
        by_cases hlen : xs.length = ys.length
        · have hb1 : (xs.length == ys.length) = true := by simpa using hlen
          rw [hb1, Bool.true_and, ← e1]
          have hh : ∀ j (h1 : j < vs.size) (h2 : j < ws.size), SeqAt.EqAt A.in1 s vs[j] ws[j] (e j) := fun j h1 h2 => by
            refine o1_2 (fun v hv1 hv2 => ?_) (hv.get (i := j) (x := xs[j]'(by omega)) (List.getElem?_eq_getElem _))
            refine o1_2 (fun u hu1 hu2 => ?_) (hw.get (i := j) (x := ys[j]'(by omega)) (List.getElem?_eq_getElem _))
            have a1 : vs[j] = v := by rw [List.getElem?_eq_getElem (by simpa using h1)] at hv1; exact Option.some.inj hv1
            have a2 : ws[j] = u := by rw [List.getElem?_eq_getElem (by simpa using h2)] at hu1; exact Option.some.inj hu1
            rw [a1, a2]
            exact ihI hv2 hu2 (he j _ _ (List.getElem?_eq_getElem _) (List.getElem?_eq_getElem _))
          exact ⟨.lists hl hl2 (by omega) hc hh, .lists hl hl2 (by omega) hc hh⟩
        · have hb1 : (xs.length == ys.length) = false := by simpa using hlen
          rw [hb1, Bool.false_and]
          have hsz : (vs.size != ws.size) = true := by rw [e1, e2]; simpa using hlen
          exact ⟨.lists_lengths hl hl2 hsz hc, .lists_lengths hl hl2 hsz hc⟩
      · refine o1_3 (fun vs hl hv _ => ?_) (S.isTup hx)
        refine o1_3 (fun ws hl2 hw _ => ?_) (S.isTup hy)
        have e1 : vs.size = xs.length := by rw [← hv.length, Array.length_toList]
        have e2 : ws.size = ys.length := by rw [← hw.length, Array.length_toList]
        have hh : ∀ j (h1 : j < vs.size) (h2 : j < ws.size), SeqAt.EqAt A.in1 s vs[j] ws[j] (e j) := fun j h1 h2 => by
          refine o1_2 (fun v hv1 hv2 => ?_) (hv.get (i := j) (x := xs[j]'(by omega)) (List.getElem?_eq_getElem _))
          refine o1_2 (fun u hu1 hu2 => ?_) (hw.get (i := j) (x := ys[j]'(by omega)) (List.getElem?_eq_getElem _))
          have a1 : vs[j] = v := by rw [List.getElem?_eq_getElem (by simpa using h1)] at hv1; exact Option.some.inj hv1
          have a2 : ws[j] = u := by rw [List.getElem?_eq_getElem (by simpa using h2)] at hu1; exact Option.some.inj hu1
          rw [a1, a2]
          exact ihI hv2 hu2 (he j _ _ (List.getElem?_eq_getElem _) (List.getElem?_eq_getElem _))
        have hr : (xs.length == ys.length && (List.range xs.length).all e) = ((List.range (min vs.size ws.size)).all e && vs.size == ws.size) := by
          rw [e1, e2, Bool.and_comm]
          by_cases hlen : xs.length = ys.length
          · rw [hlen, Nat.min_self]
          · have hb1 : (xs.length == ys.length) = false := by simpa using hlen
            rw [hb1, Bool.and_false, Bool.and_false]
        rw [hr]
        exact ⟨.tuples hl hl2 hc hh, .tuples hl hl2 hc hh⟩
      · refine o1_4 (fun kwa hda pa _ la => ?_) (S.dictAt hx)
        refine o1_4 (fun kwb hdb pb _ lb => ?_) (S.dictAt hy)
        have da := dictOf_of hda
        have db := dictOf_of hdb
        have hh := hits_of (A := A.in1) (fun h1 h2 h3 h4 => ih h1 h2 h3 h4) pa pb he
        rw [← pa.length, ← pb.length]
        exact ⟨fun prog w E Q hq => keq_eq la lb (dictOf_any da) (dictOf_any db) hc (fun _ => hh) hq, fun prog w E Q hq => keq_ne la lb (dictOf_any da) (dictOf_any db) hc (fun _ => hh) hq⟩
end

end

section
open PyProof.Rows.LCg

section
variable {prog : Program} {w : World} {K : Frag} {p : Program} {loose : List Str} {mean : ExcName → Option Value} {mg mb : Str → Option Value} {lv : Nat}
variable {h₀ : Heap} {L : Addr} {A : Around} {fe ev : Env} {m : Str → Option Value} {priv : List (Addr × Obj)} {ρ : AEnv} {σ : Store} {s : Shared} {Q : PE} {E : Value → Shared → Prop}

/-- a test's answer -/
noncomputable def ResB (prog : Program) (w : World) (K : Frag) (h₀ : Heap) (L : Addr) (m : Str → Option Value) (priv : List (Addr × Obj)) (Q : Bool → Store → Prop) (s : Shared) (b : Bool) (s' : Shared) : Prop :=
  ∃ σ', St prog w K h₀ L m priv σ' s'.heap ∧ Same s s' ∧ Q b σ'

theorem int2W_inv {a b : V} {k : Int → Int → Prop} (h : int2W a b k) : ∃ i j, a = .int i ∧ b = .int j ∧ k i j := by
  cases a <;> cases b <;> first | exact h.elim | exact ⟨_, _, rfl, rfl, h⟩
theorem intW_inv {a : V} {k : Int → Prop} (h : intW a k) : ∃ i, a = .int i ∧ k i := by
  cases a <;> first | exact h.elim | exact ⟨_, rfl, h⟩
theorem refW_inv {a : V} {k : Addr → Prop} (h : refW a k) : ∃ i, a = .ref i ∧ k i := by
  cases a <;> first | exact h.elim | exact ⟨_, rfl, h⟩
theorem boolW_inv {a : V} {k : Bool → Prop} (h : boolW a k) : ∃ i, a = .bool i ∧ k i := by
  cases a <;> first | exact h.elim | exact ⟨_, rfl, h⟩
theorem optW_inv {α : Type} {o : Option α} {k : α → Prop} (h : optW o k) : ∃ i, o = some i ∧ k i := by
  cases o <;> first | exact h.elim | exact ⟨_, rfl, h⟩
theorem listW_inv {a : V} {k : Addr → List V → Prop} (h : listW σ a k) : ∃ i xs, a = .ref i ∧ σ i = some (.list xs) ∧ k i xs := by
  unfold listW at h
  refine o1_2 (fun i e h2 => ?_) (refW_inv h)
  subst e
  cases q : σ i with
  | none => rw [q] at h2; exact h2.elim
  | some o => cases o <;> (rw [q] at h2; first | exact h2.elim | exact ⟨_, _, rfl, q, h2⟩)

theorem VRs.ints : ∀ {xs : List V} {vs : List Value} {is : List Int}, VRs xs vs → intsOf xs = some is → ∀ (k : Int) (u : Tok), (∀ y ∈ vs, SeqAt.EqAt A s y (.int k u) (y.isInt k)) ∧ vs.any (fun y => y.isInt k) = is.contains k := by
  intro xs vs is h
  induction h generalizing is with
  | nil => intro e k u; cases e; exact ⟨fun _ h => (nomatch h), rfl⟩
  | @cons x v xs vs hx hr ih =>
    intro e k u
    cases x with
    | int i =>
      unfold intsOf at e
      refine o1_2 (fun js hj rf2_ => ?_) (Option.map_eq_some_iff.mp e); subst rf2_
      obtain ⟨t, rfl⟩ := hx
      obtain ⟨h1, h2⟩ := ih hj k u
      have hi : (V.at (.int i) t).isInt k = (i == k) := by simp [V.at, Value.isInt]
      refine ⟨fun y hy => ?_, ?_⟩
      · rcases List.mem_cons.mp hy with rfl | hy
        · rw [hi]; exact SeqAt.EqAt.int_int _ _ _ _
        · exact h1 y hy
      · rw [List.any_cons, h2, hi, List.contains_cons]
        congr 1
        exact Bool.beq_comm
    | _ => cases e

theorem cmp_sound {op : CmpOp} {a b : V} {av bv : Value} {k : Bool → Prop} (hu : A.units ≤ 5000) (ha : VR a av) (hb : VR b bv) (S : St prog w K h₀ L m priv σ s.heap) (h : cmpW op a b σ k) :
    wpAny (model prog w) A (compareOp op av bv) (fun v s' => ∃ r, v = .bool r ∧ St prog w K h₀ L m priv σ s'.heap ∧ Same s s' ∧ k r) E s := by
  cases op with
  | Lt => refine o2_3 (fun i j rf2_ rf3_ h => ?_) (int2W_inv h); subst rf2_; subst rf3_; obtain ⟨t, rfl⟩ := ha; obtain ⟨u, rfl⟩ := hb; exact PySem.P.lt_int ⟨_, rfl, S, .refl _, h⟩
  | LtE => refine o2_3 (fun i j rf2_ rf3_ h => ?_) (int2W_inv h); subst rf2_; subst rf3_; obtain ⟨t, rfl⟩ := ha; obtain ⟨u, rfl⟩ := hb; exact PySem.P.le_int ⟨_, rfl, S, .refl _, h⟩
  | Gt => refine o2_3 (fun i j rf2_ rf3_ h => ?_) (int2W_inv h); subst rf2_; subst rf3_; obtain ⟨t, rfl⟩ := ha; obtain ⟨u, rfl⟩ := hb; exact PySem.P.gt_int ⟨_, rfl, S, .refl _, h⟩
  | GtE => refine o2_3 (fun i j rf2_ rf3_ h => ?_) (int2W_inv h); subst rf2_; subst rf3_; obtain ⟨t, rfl⟩ := ha; obtain ⟨u, rfl⟩ := hb; exact PySem.P.ge_int ⟨_, rfl, S, .refl _, h⟩
  | Eq => revert h; refine o1_2 fun r he h => ?_; exact PySem.EqBoolInt.of_rc (eqN_rc 4 S (by omega) he ha hb).1 ⟨r, rfl, S, .refl _, h⟩
  | NotEq => revert h; refine o1_2 fun r he h => ?_; exact PySem.EqBoolInt.of_rcne (eqN_rc 4 S (by omega) he ha hb).2.1 ⟨_, rfl, S, .refl _, h⟩
  | NotIn =>
    refine o1_2 (fun i rf1_ h => ?_) (intW_inv h); subst rf1_
    obtain ⟨l, xs, rfl, hl, h⟩ := listW_inv h
    obtain ⟨is, hi, h⟩ := optW_inv h
    obtain ⟨t, rfl⟩ := ha
    obtain ⟨u, rfl⟩ := hb
    refine o1_3 (fun vs hvl hv _ => ?_) (S.isList hl)
    obtain ⟨h1, h2⟩ := hv.ints (A := A.in1) (s := s) hi i t
    refine SeqAt.notIn_listAt (fun y => y.isInt i) hvl (fun y hy => h1 y (by simpa using hy)) ⟨_, rfl, S, .refl _, ?_⟩
    rw [← Array.any_toList, h2]; exact h
  | Is =>
    cases a <;> cases b <;> first | exact h.elim | skip
    · obtain ⟨t, rfl⟩ := ha; obtain ⟨u, rfl⟩ := hb; exact wpAny_is_self rfl ⟨_, rfl, S, .refl _, h⟩
    · obtain ⟨t, rfl⟩ := ha; obtain ⟨u, rfl⟩ := hb; exact wpAny_is_other rfl (by intro e; cases e) ⟨_, rfl, S, .refl _, h⟩
    · obtain ⟨t, rfl⟩ := ha; obtain ⟨u, rfl⟩ := hb; exact wpAny_is_other rfl (by intro e; cases e) ⟨_, rfl, S, .refl _, h⟩
    · rename_i x y
      obtain ⟨t, rfl⟩ := ha; obtain ⟨u, rfl⟩ := hb
      obtain ⟨⟨⟨C, fs, hx⟩, ⟨D, gs, hy⟩⟩, h⟩ := h
      by_cases hxy : x = y
      · subst hxy
        show wpAny _ _ (do return Value.bool (← isSame (.ref x) (.ref x))) _ _ _
        refine wpAny_bind ?_
        show wpAny _ _ (if (x == x) = true then pure true else _) _ _ _
        rw [if_pos (by simp)]
        exact wpAny_pure (wpAny_pure ⟨_, rfl, S, .refl _, by simpa using h⟩)
      · revert S; refine o1_3 fun news F N D' => ?_
        have S' : St prog w K h₀ L m priv σ s.heap := ⟨news, F, N, D'⟩
        obtain ⟨ow, hrep⟩ := D'.rep
        obtain ⟨_, _, _, _, _, _, m1, _⟩ := hrep x _ hx
        obtain ⟨_, _, _, _, _, _, m2, _⟩ := hrep y _ hy
        show wpAny _ _ (do return Value.bool (← isSame (.ref x) (.ref y))) _ _ _
        refine wpAny_bind (SeqAt.wpAny_isSame_ref_other' hxy (N _ (List.mem_append_right _ m1)).1 (N _ (List.mem_append_right _ m2)).1 (by intro e; cases e) (wpAny_pure ⟨_, rfl, S', .refl _, ?_⟩))
        simpa [hxy] using h
  | IsNot =>
    cases a <;> cases b <;> first | exact h.elim | skip
    · obtain ⟨t, rfl⟩ := ha; obtain ⟨u, rfl⟩ := hb; exact wpAny_isNot_self rfl ⟨_, rfl, S, .refl _, h⟩
    · obtain ⟨t, rfl⟩ := ha; obtain ⟨u, rfl⟩ := hb; exact wpAny_isNot_other rfl (by intro e; cases e) ⟨_, rfl, S, .refl _, h⟩
    · obtain ⟨t, rfl⟩ := ha; obtain ⟨u, rfl⟩ := hb; exact wpAny_isNot_other rfl (by intro e; cases e) ⟨_, rfl, S, .refl _, h⟩
    · rename_i x y
      obtain ⟨t, rfl⟩ := ha; obtain ⟨u, rfl⟩ := hb
      obtain ⟨⟨⟨C, fs, hx⟩, ⟨D, gs, hy⟩⟩, h⟩ := h
      by_cases hxy : x = y
      · subst hxy
        show wpAny _ _ (do return Value.bool (!(← isSame (.ref x) (.ref x)))) _ _ _
        refine wpAny_bind ?_
        show wpAny _ _ (if (x == x) = true then pure true else _) _ _ _
        rw [if_pos (by simp)]
        exact wpAny_pure (wpAny_pure ⟨_, rfl, S, .refl _, by simpa using h⟩)
      · revert S; refine o1_3 fun news F N D' => ?_
        have S' : St prog w K h₀ L m priv σ s.heap := ⟨news, F, N, D'⟩
        obtain ⟨ow, hrep⟩ := D'.rep
        obtain ⟨_, _, _, _, _, _, m1, _⟩ := hrep x _ hx
        obtain ⟨_, _, _, _, _, _, m2, _⟩ := hrep y _ hy
        show wpAny _ _ (do return Value.bool (!(← isSame (.ref x) (.ref y)))) _ _ _
        refine wpAny_bind (SeqAt.wpAny_isSame_ref_other' hxy (N _ (List.mem_append_right _ m1)).1 (N _ (List.mem_append_right _ m2)).1 (by intro e; cases e) (wpAny_pure ⟨_, rfl, S', .refl _, ?_⟩))
        simpa [hxy] using h
  | In => exact h.elim

theorem bin_sound {op : Operator} {a b : V} {av bv : Value} (ha : VR a av) (hb : VR b bv) (S : St prog w K h₀ L m priv σ s.heap) (h : binW op a b σ Q) :
    wpAny (model prog w) A (binaryOp op av bv) (Res prog w K h₀ L m priv Q s) E s := by
  cases op <;> first | exact h.elim | skip
  · -- Add
    cases a with
    | int i => refine o1_2 (fun j rf1_ h => ?_) (intW_inv h); subst rf1_; obtain ⟨t, rfl⟩ := ha; obtain ⟨u, rfl⟩ := hb; exact PySem.P.add_int (.here (.int _ _) S h)
    | ref x =>
      refine o2_3 (fun i xs hi hx h => ?_) (listW_inv (a := .ref x) h)
      cases hi
      obtain ⟨j, ys, rfl, hy, hl, h⟩ := listW_inv h
      obtain ⟨t, rfl⟩ := ha; obtain ⟨u, rfl⟩ := hb
      exact op_add S hx hy hl h
    | _ => exact h.elim
  · obtain ⟨i, j, rfl, rfl, h⟩ := int2W_inv h; obtain ⟨t, rfl⟩ := ha; obtain ⟨u, rfl⟩ := hb; exact PySem.P.sub_int (.here (.int _ _) S h)
  · obtain ⟨i, j, rfl, rfl, hi, h⟩ := int2W_inv h; obtain ⟨t, rfl⟩ := ha; obtain ⟨u, rfl⟩ := hb
    exact PySem.P.mul_int (.here (.int _ _) S h) (IntMulOk.of_left (intBits_le_64 (by omega) (by omega)))
  · obtain ⟨i, j, rfl, rfl, hj, h⟩ := int2W_inv h; obtain ⟨t, rfl⟩ := ha; obtain ⟨u, rfl⟩ := hb; exact PyProof.Rows.mod_int (by omega) (.here (.int _ _) S h)
  · obtain ⟨i, j, rfl, rfl, hj, h⟩ := int2W_inv h; obtain ⟨t, rfl⟩ := ha; obtain ⟨u, rfl⟩ := hb; exact PyProof.Rows.floordiv_int (by omega) (.here (.int _ _) S h) (.inl (PyProof.noPylong_small (by omega)))
end

end

section
open PyProof.Rows.LCg

section
variable (prog : Program) (w : World) (K : Frag) (p : Program) (loose : List Str) (mean : ExcName → Option Value) (mg mb : Str → Option Value) (lv : Nat)

structure Hr (h₀ : Heap) (L : Addr) (A : Around) (fe ev : Env) (m : Str → Option Value) (priv : List (Addr × Obj)) (ρ : AEnv) : Prop where
  fm : Fm K p loose mean mg mb h₀ L A fe lv
  evk : EvOk ev
  en : EnvR ev L m priv ρ

noncomputable def SE (rec : RE) (chk : KO → Expr → Bool) : Prop := ∀ h₀ L A fe ev m priv ρ e σ Q s, Hr K p loose mean mg mb lv h₀ L A fe ev m priv ρ → chk ev.kindOf e = true → St prog w K h₀ L m priv σ s.heap → rec e ρ σ Q →
  wpAny (model prog w) A (eval e ev) (Res prog w K h₀ L m priv Q s) NoE s
noncomputable def STT (rec : RT) (chk : KO → Expr → Bool) : Prop := ∀ h₀ L A fe ev m priv ρ e σ Q s, Hr K p loose mean mg mb lv h₀ L A fe ev m priv ρ → chk ev.kindOf e = true → St prog w K h₀ L m priv σ s.heap → rec e ρ σ Q →
  wpAny (model prog w) A (isTrue e ev (eval e ev)) (ResB prog w K h₀ L m priv Q s) NoE s
end

section
variable {prog : Program} {w : World} {K : Frag} {p : Program} {loose : List Str} {mean : ExcName → Option Value} {mg mb : Str → Option Value} {lv : Nat}
variable {h₀ : Heap} {L : Addr} {A : Around} {fe ev : Env} {m : Str → Option Value} {priv : List (Addr × Obj)} {ρ : AEnv} {σ : Store} {s s₁ : Shared} {Q : PE} {E : Value → Shared → Prop}
variable {rec : RE} {recT : RT} {chk : KO → Expr → Bool}

theorem ResB.trans {Q : Bool → Store → Prop} {v : Bool} {s' : Shared} (h : Same s s₁) (r : ResB prog w K h₀ L m priv Q s₁ v s') : ResB prog w K h₀ L m priv Q s v s' := by
  revert r; refine o1_3 fun σ' S hs hq => ?_; exact ⟨σ', S, h.trans hs, hq⟩

theorem St.grown {h h' : Heap} (S : St prog w K h₀ L m priv σ h) (k : ∀ b o, h.get? b = some o → h'.get? b = some o) : St prog w K h₀ L m priv σ h' := by
  revert S; refine o1_3 fun news F N D => ?_; exact ⟨news, F.keeps k, N.grown k, D⟩

/-- arguments, items of a display -/
noncomputable def ResL (prog : Program) (w : World) (K : Frag) (h₀ : Heap) (L : Addr) (m : Str → Option Value) (priv : List (Addr × Obj)) (Q : List V → Store → Prop) (s : Shared) (vs : List Value) (s' : Shared) : Prop :=
  ∃ xs σ', VRs xs vs ∧ St prog w K h₀ L m priv σ' s'.heap ∧ Same s s' ∧ Q xs σ'

theorem evL_soundN (IH : SE prog w K p loose mean mg mb lv rec chk) (H : Hr K p loose mean mg mb lv h₀ L A fe ev m priv ρ) {pos : Pos} : ∀ {es : List Expr} {σ : Store} {s : Shared} {Q : List V → Store → Prop}, es.all (chk ev.kindOf) = true → es.all plainArg = true →
    St prog w K h₀ L m priv σ s.heap → evL rec es ρ σ Q → wpAny (model prog w) A (spliced (backTo pos (starEach es ev))) (ResL prog w K h₀ L m priv (fun xs σ' => xs.length = es.length ∧ Q xs σ') s) NoE s
  | [], σ, s, Q, _, _, S, h => args_nil ⟨[], σ, .nil, S, .refl _, rfl, h⟩
  | e :: es, σ, s, Q, hc, hp, S, h => by
    rw [List.all_cons, Bool.and_eq_true] at hc hp
    refine args_cons (thenE (α := Unit) (IH _ _ _ _ _ _ _ _ _ _ _ _ H hc.1 S h) fun x σ₁ v s₁ hv S₁ hs hq => ?_) (starEach_plain hp.1)
    refine wpAny_mono (evL_soundN IH H hc.2 hp.2 S₁ hq) (fun vs s₂ r => ?_) fun _ _ e => e
    revert r; refine o2_5 fun xs σ₂ hvs S₂ hs₂ hl hq₂ => ?_
    exact ⟨x :: xs, σ₂, .cons hv hvs, S₂, hs.trans hs₂, by simp [hl], hq₂⟩
theorem evL_sound (IH : SE prog w K p loose mean mg mb lv rec chk) (H : Hr K p loose mean mg mb lv h₀ L A fe ev m priv ρ) {pos : Pos} {es : List Expr} {σ : Store} {s : Shared} {Q : List V → Store → Prop} (hc : es.all (chk ev.kindOf) = true) (hp : es.all plainArg = true)
    (S : St prog w K h₀ L m priv σ s.heap) (h : evL rec es ρ σ Q) : wpAny (model prog w) A (spliced (backTo pos (starEach es ev))) (ResL prog w K h₀ L m priv Q s) NoE s :=
  wpAny_mono (evL_soundN IH H hc hp S h) (fun vs s₂ ⟨xs, σ₂, hvs, S₂, hs₂, _, hq₂⟩ => ⟨xs, σ₂, hvs, S₂, hs₂, hq₂⟩) fun _ _ e => e

theorem bop_sound (IH : SE prog w K p loose mean mg mb lv rec chk) (H : Hr K p loose mean mg mb lv h₀ L A fe ev m priv ρ) {op : BoolOp} {pos : Pos} : ∀ {es : List Expr} {σ : Store} {s : Shared} {Q : PE}, es.all (chk ev.kindOf) = true →
    St prog w K h₀ L m priv σ s.heap → bopW rec op es ρ σ Q → wpAny (model prog w) A (eval (.BoolOp op es pos) ev) (Res prog w K h₀ L m priv Q s) NoE s
  | [], σ, s, Q, _, S, h => h.elim
  | [e], σ, s, Q, hc, S, h => by
    rw [List.all_cons, Bool.and_eq_true] at hc
    exact BoolOp_one (IH _ _ _ _ _ _ _ _ _ _ _ _ H hc.1 S h)
  | e :: e' :: es, σ, s, Q, hc, S, h => by
    rw [List.all_cons, Bool.and_eq_true] at hc
    cases op with
    | And =>
      refine BoolOp_and (thenE (α := Unit) (IH _ _ _ _ _ _ _ _ _ _ _ _ H hc.1 S h) fun x σ₁ v s₁ hv S₁ hs hq => ?_)
      refine o1_2 (fun b rf1_ hq => ?_) (boolW_inv hq); subst rf1_
      obtain ⟨t, rfl⟩ := hv
      refine wpAny_truthy_bool ?_
      cases b with
      | true => exact wpAny_mono (bop_sound IH H hc.2 S₁ hq) (fun v s' r => r.trans hs) fun _ _ e => e
      | false => exact ⟨_, _, ⟨t, rfl⟩, S₁, hs, hq⟩
    | Or =>
      refine BoolOp_or (thenE (α := Unit) (IH _ _ _ _ _ _ _ _ _ _ _ _ H hc.1 S h) fun x σ₁ v s₁ hv S₁ hs hq => ?_)
      refine o1_2 (fun b rf1_ hq => ?_) (boolW_inv hq); subst rf1_
      obtain ⟨t, rfl⟩ := hv
      refine wpAny_truthy_bool ?_
      cases b with
      | false => exact wpAny_mono (bop_sound IH H hc.2 S₁ hq) (fun v s' r => r.trans hs) fun _ _ e => e
      | true => exact ⟨_, _, ⟨t, rfl⟩, S₁, hs, hq⟩

theorem all_sound (IH : STT prog w K p loose mean mg mb lv recT chk) (H : Hr K p loose mean mg mb lv h₀ L A fe ev m priv ρ) {op : BoolOp} {pos : Pos} {whole : Sem Value} : ∀ {es : List Expr} {σ : Store} {s : Shared} {Q : Bool → Store → Prop}, es.all (chk ev.kindOf) = true →
    St prog w K h₀ L m priv σ s.heap → allW recT op es ρ σ Q → wpAny (model prog w) A (isTrue (.BoolOp op es pos) ev whole) (ResB prog w K h₀ L m priv Q s) NoE s
  | [], σ, s, Q, _, S, h => by
    cases op with
    | And => exact isTrue_and_nil ⟨σ, S, .refl _, h⟩
    | Or => exact isTrue_or_nil ⟨σ, S, .refl _, h⟩
  | e :: es, σ, s, Q, hc, S, h => by
    rw [List.all_cons, Bool.and_eq_true] at hc
    cases op with
    | And =>
      refine isTrue_and (wpAny_mono (IH _ _ _ _ _ _ _ _ _ _ _ _ H hc.1 S h) (fun b s₁ r => ?_) fun _ _ e => e)
      revert r; refine o1_3 fun σ₁ S₁ hs hq => ?_
      cases b with
      | true => exact wpAny_mono (all_sound IH H hc.2 S₁ hq) (fun v s' r => r.trans hs) fun _ _ e => e
      | false => exact ⟨_, S₁, hs, hq⟩
    | Or =>
      refine isTrue_or (wpAny_mono (IH _ _ _ _ _ _ _ _ _ _ _ _ H hc.1 S h) (fun b s₁ r => ?_) fun _ _ e => e)
      revert r; refine o1_3 fun σ₁ S₁ hs hq => ?_
      cases b with
      | false => exact wpAny_mono (all_sound IH H hc.2 S₁ hq) (fun v s' r => r.trans hs) fun _ _ e => e
      | true => exact ⟨_, S₁, hs, hq⟩

theorem Hr.un (H : Hr K p loose mean mg mb lv h₀ L A fe ev m priv ρ) : A.units ≤ 5000 := by have := H.fm.un; omega

theorem chain_sound (IH : SE prog w K p loose mean mg mb lv rec chk) (H : Hr K p loose mean mg mb lv h₀ L A fe ev m priv ρ) {pos : Pos} : ∀ {ops : List CmpOp} {rs : List Expr} {a : V} {av : Value} {σ : Store} {s : Shared} {Q : Bool → Store → Prop}, rs.all (chk ev.kindOf) = true → ops.length = rs.length →
    VR a av → St prog w K h₀ L m priv σ s.heap → chainW rec a ops rs ρ σ Q →
    wpAny (model prog w) A (compareChain pos av ops (evalEach rs ev)) (Res prog w K h₀ L m priv (fun v σ' => ∃ b, v = .bool b ∧ Q b σ') s) NoE s ∧
    wpAny (model prog w) A (testChain pos av ops (evalEach rs ev)) (ResB prog w K h₀ L m priv Q s) NoE s
  | [], rs, a, av, σ, s, Q, _, _, _, _, h => by cases rs <;> exact h.elim
  | [op], [], a, av, σ, s, Q, _, _, _, _, h => h.elim
  | op :: op' :: ops, [], a, av, σ, s, Q, _, _, _, _, h => h.elim
  | [op], [r], a, av, σ, s, Q, hc, hl, ha, S, h => by
    rw [List.all_cons, Bool.and_eq_true] at hc
    constructor
    · refine chain_last (thenE (α := Unit) (IH _ _ _ _ _ _ _ _ _ _ _ _ H hc.1 S h) fun x σ₁ v s₁ hv S₁ hs hq => ?_)
      refine wpAny_mono (cmp_sound H.un ha hv S₁ hq) (fun c s₂ r => ?_) fun _ _ e => e
      revert r; refine o1_4 fun b rf1_ S₂ hs₂ hq₂ => ?_; subst rf1_
      exact ⟨_, _, .bool b, S₂, hs.trans hs₂, b, rfl, hq₂⟩
    · refine test_last (thenE (α := Unit) (IH _ _ _ _ _ _ _ _ _ _ _ _ H hc.1 S h) fun x σ₁ v s₁ hv S₁ hs hq => ?_)
      refine wpAny_mono (cmp_sound H.un ha hv S₁ hq) (fun c s₂ r => ?_) fun _ _ e => e
      revert r; refine o1_4 fun b rf1_ S₂ hs₂ hq₂ => ?_; subst rf1_
      exact wpAny_truthy_bool ⟨_, S₂, hs.trans hs₂, hq₂⟩
  | [op], r :: r' :: rs, a, av, σ, s, Q, hc, hl, ha, S, h => by simp at hl
  | op :: op' :: ops, [r], a, av, σ, s, Q, hc, hl, ha, S, h => by simp at hl
  | op :: op' :: ops, r :: r' :: rs, a, av, σ, s, Q, hc, hl, ha, S, h => by
    rw [List.all_cons, Bool.and_eq_true] at hc
    constructor
    · refine chain_link (thenE (α := Unit) (IH _ _ _ _ _ _ _ _ _ _ _ _ H hc.1 S h) fun x σ₁ v s₁ hv S₁ hs hq => ?_)
      refine wpAny_mono (cmp_sound H.un ha hv S₁ hq) (fun c s₂ r => ?_) fun _ _ e => e
      revert r; refine o1_4 fun b rf1_ S₂ hs₂ hq₂ => ?_; subst rf1_
      refine wpAny_truthy_bool ?_
      cases b with
      | true => exact wpAny_mono (chain_sound IH H hc.2 (by simpa using hl) hv S₂ hq₂).1 (fun v s' r => r.trans (hs.trans hs₂)) fun _ _ e => e
      | false => exact ⟨_, _, .bool _, S₂, hs.trans hs₂, _, rfl, hq₂⟩
    · refine test_link (thenE (α := Unit) (IH _ _ _ _ _ _ _ _ _ _ _ _ H hc.1 S h) fun x σ₁ v s₁ hv S₁ hs hq => ?_)
      refine wpAny_mono (cmp_sound H.un ha hv S₁ hq) (fun c s₂ r => ?_) fun _ _ e => e
      revert r; refine o1_4 fun b rf1_ S₂ hs₂ hq₂ => ?_; subst rf1_
      refine wpAny_truthy_bool ?_
      cases b with
      | true => exact wpAny_mono (chain_sound IH H hc.2 (by simpa using hl) hv S₂ hq₂).2 (fun v s' r => r.trans (hs.trans hs₂)) fun _ _ e => e
      | false => exact ⟨_, S₂, hs.trans hs₂, hq₂⟩
end

end

section
open PyProof.Rows.LCg

section
variable {prog : Program} {w : World} {K : Frag} {p : Program} {loose : List Str} {mean : ExcName → Option Value} {mg mb : Str → Option Value} {lv : Nat}
variable {h₀ h h' : Heap} {L : Addr} {A : Around} {fe ev : Env} {m : Str → Option Value} {priv pre post : List (Addr × Obj)} {ρ : AEnv} {σ : Store} {s s₁ : Shared} {Q : PE} {E : Value → Shared → Prop}
variable {rec : RE} {recT : RT} {chk : KO → Expr → Bool}

theorem St.sub {priv' : List (Addr × Obj)} (S : St prog w K h₀ L m priv σ h) (hs : ∀ p ∈ priv', p ∈ priv) : St prog w K h₀ L m priv' σ h := by
  revert S; refine o1_3 fun news F N D => ?_
  refine ⟨news, F, fun p hp => N p ?_, D.nd, fun p hp hk => ?_, D.rep⟩
  · rcases List.mem_append.mp hp with h | h
    · exact List.mem_append_left _ (hs p h)
    · exact List.mem_append_right _ h
  · refine o1_2 (fun q hq e => ?_) (List.mem_map.mp hk)
    exact D.off p hp (List.mem_map.mpr ⟨q, hs q hq, e⟩)
theorem St.lt {q : Addr × Obj} (S : St prog w K h₀ L m priv σ h) (hq : q ∈ priv) : q.1 < h.objs.size := by
  revert S; refine o1_3 fun news F N D => ?_
  exact Heap.lt_size (N q (List.mem_append_left _ hq)).1
theorem St.pushPriv {o : Obj} (S : St prog w K h₀ L m priv σ h) (hf : o.isFreed = false) : St prog w K h₀ L m ((h.objs.size, o) :: priv) σ (h.push o) := by
  revert S; refine o1_3 fun news F N D => ?_
  refine ⟨news, F.push o, N.push F o hf, D.nd, fun p hp hk => ?_, D.rep⟩
  rcases List.mem_cons.mp hk with e | hk
  · exact absurd (Heap.lt_size (N p (List.mem_append_right _ hp)).1) (by rw [e]; exact Nat.lt_irrefl _)
  · exact D.off p hp hk
theorem St.setPriv {I : Addr} {o o' : Obj} (S : St prog w K h₀ L m (pre ++ (I, o) :: post) σ h) (h1 : ∀ p ∈ pre, p.1 ≠ I) (h2 : ∀ p ∈ post, p.1 ≠ I) (hs : Heap.SameBut I h h') (ho : h'.get? I = some o') :
    St prog w K h₀ L m (pre ++ (I, o') :: post) σ h' := by
  revert S; refine o1_3 fun news F N D => ?_
  have z := N (I, o) (List.mem_append_left _ (List.mem_append_right _ (.head _)))
  rw [List.append_assoc, List.cons_append] at N
  refine ⟨news, F.change hs z.2.1 z.2.2, ?_, D.nd, fun p hp hk => D.off p hp ?_, D.rep⟩
  · rw [List.append_assoc, List.cons_append]
    refine news_set N h1 (fun p hp => ?_) hs ho
    rcases List.mem_append.mp hp with hp | hp
    · exact h2 p hp
    · intro e; exact D.off p hp (List.mem_map.mpr ⟨(I, o), List.mem_append_right _ (.head _), e.symm⟩)
  · rw [List.map_append, List.map_cons] at hk ⊢; exact hk
theorem St.dropPriv {I : Addr} {o : Obj} (S : St prog w K h₀ L m (pre ++ (I, o) :: post) σ h) (h1 : ∀ p ∈ pre, p.1 ≠ I) (h2 : ∀ p ∈ post, p.1 ≠ I) (hs : ∀ b o, b ≠ I → h.get? b = some o → h'.get? b = some o) :
    St prog w K h₀ L m (pre ++ post) σ h' := by
  revert S; refine o1_3 fun news F N D => ?_
  have z := N (I, o) (List.mem_append_left _ (List.mem_append_right _ (.head _)))
  refine ⟨news, ⟨F.ns.at' fun o e => hs _ o (Ne.symm z.2.1) e, fun b o e => hs b o (fun q => by rw [q, z.2.2] at e; cases e) (F.keep b o e), F.above⟩, fun p hp => ?_, D.nd, fun p hp hk => D.off p hp ?_, D.rep⟩
  · have hne : p.1 ≠ I := by
      rcases List.mem_append.mp hp with hp | hp
      · rcases List.mem_append.mp hp with hp | hp
        · exact h1 p hp
        · exact h2 p hp
      · intro e; exact D.off p hp (List.mem_map.mpr ⟨(I, o), List.mem_append_right _ (.head _), e.symm⟩)
    have hp' : p ∈ (pre ++ (I, o) :: post) ++ news := by
      rcases List.mem_append.mp hp with hp | hp
      · rcases List.mem_append.mp hp with hp | hp
        · exact List.mem_append_left _ (List.mem_append_left _ hp)
        · exact List.mem_append_left _ (List.mem_append_right _ (.tail _ hp))
      · exact List.mem_append_right _ hp
    exact ⟨hs _ _ hne (N p hp').1, (N p hp').2⟩
  · rw [List.map_append, List.map_cons]
    rw [List.map_append] at hk
    rcases List.mem_append.mp hk with hk | hk
    · exact List.mem_append_left _ hk
    · exact List.mem_append_right _ (.tail _ hk)

/-- what an iterator's object is at its i-th item -/
noncomputable def ItAt (src : Option (Addr × O)) (n i : Nat) (oI : Obj) : Prop :=
  match src with
  | none => oI = { cls := .type "range_iterator", dict := none, data := .fields #[rawInt (i : Int), rawInt ((n : Int) - (i : Int)), rawInt 1], slots := #[] }
  | some (a, .list _) => oI.cls = .type "list_iterator" ∧ oI.data = .fields #[.ref a, .int i 0]
  | some (a, .tup _) => oI.cls = .type "tuple_iterator" ∧ oI.data = .fields #[.ref a, .int i 0]
  | some (a, .dict kvs ep) => oI.cls = .type "dict_keyiterator" ∧ oI.data = .fields #[.ref a, .int i 0, .int kvs.length 0, .int ep 0]
  | some (_, .inst ..) => False
noncomputable def itemsOf (src : Option (Addr × O)) (n : Nat) : List V :=
  match src with
  | none => (List.range n).map fun (i : Nat) => V.int (i : Int)
  | some (_, .list xs) => xs
  | some (_, .tup xs) => xs
  | some (_, .dict kvs _) => kvs.map fun p => .int p.1
  | some (_, .inst ..) => []

theorem isKey_int {k : Int} {key : Value} (h : (intKind prog w).is k key = true) : VR (.int k) key := by
  cases key <;> first | (simp [intKind, Value.isInt] at h; done) | skip
  rename_i i t
  have : i = k := by simpa [intKind, Value.isInt] using h
  subst this
  exact ⟨t, rfl⟩

theorem it_next {I : Addr} {oI : Obj} {src : Option (Addr × O)} {n i : Nat} {x : V} (S : St prog w K h₀ L m (pre ++ (I, oI) :: post) σ s.heap) (h1 : ∀ p ∈ pre, p.1 ≠ I) (h2 : ∀ p ∈ post, p.1 ≠ I)
    (hI : ItAt src n i oI) (hst : stillW src σ) (hn : n = (itemsOf src n).length) (hx : (itemsOf src n)[i]? = some x) :
    wpAny (model prog w) A (pyNext (.ref I)) (fun r s' => ∃ v oI', r = some v ∧ VR x v ∧ ItAt src n (i + 1) oI' ∧ St prog w K h₀ L m (pre ++ (I, oI') :: post) σ s'.heap ∧ Same s s') E s := by
  have hg : s.heap.get? I = some oI := S.cell (List.mem_append_right _ (.head _))
  match src with
  | none =>
    subst hI
    have hi : i < n := by
      have := (List.getElem?_eq_some_iff.mp hx).1
      simpa [itemsOf] using this
    refine wpAny_pyNext_range_item hg (by omega) fun h' hit hs => ?_
    refine ⟨_, _, rfl, ?_, ?_, S.setPriv h1 h2 hs hit, ⟨_, _, rfl⟩⟩
    · have : x = V.int (i : Int) := by
        simp only [itemsOf, List.getElem?_map, List.getElem?_range hi, Option.map_some] at hx
        exact (Option.some.inj hx).symm
      subst this; exact .int _ _
    · show _ = _
      have e1 : ((i + 1 : Nat) : Int) = (i : Int) + 1 := by push_cast; rfl
      have e2 : (n : Int) - ((i + 1 : Nat) : Int) = (n : Int) - (i : Int) - 1 := by push_cast; omega
      rw [e2, e1]
  | some (a, .list xs) =>
    refine o1_3 (fun vs hl hv _ => ?_) (S.isList hst)
    refine o1_2 (fun v hvx hr => ?_) (hv.get hx)
    refine wpAny_pyNext_list_item ⟨oI, hg, hI⟩ hl (x := v) (by simpa using hvx) fun h' hit hs => ?_
    revert hit; refine o1_2 fun o' ho' hI' => ?_
    exact ⟨v, o', rfl, hr, hI', S.setPriv h1 h2 hs ho', ⟨_, _, rfl⟩⟩
  | some (a, .tup xs) =>
    refine o1_3 (fun vs hl hv _ => ?_) (S.isTup hst)
    refine o1_2 (fun v hvx hr => ?_) (hv.get hx)
    refine wpAny_pyNext_tuple_item ⟨oI, hg, hI⟩ hl (x := v) (by simpa using hvx) fun h' hit hs => ?_
    revert hit; refine o1_2 fun o' ho' hI' => ?_
    exact ⟨v, o', rfl, hr, hI', S.setPriv h1 h2 hs ho', ⟨_, _, rfl⟩⟩
  | some (a, .dict kvs ep) =>
    refine o1_3 (fun kws hl hv _ => ?_) (S.dictAt hst)
    have hk : (kws.map (·.1))[i]? = (kvs.map (·.1))[i]? := by rw [hv.keys]
    have hx' : ∃ k, (kvs.map (·.1))[i]? = some k ∧ x = .int k := by
      simp only [itemsOf, List.getElem?_map] at hx ⊢
      cases q : kvs[i]? with
      | none => rw [q] at hx; cases hx
      | some p => rw [q] at hx; cases hx; exact ⟨p.1, rfl, rfl⟩
    revert hx'; refine o1_2 fun k hk1 rf2_ => ?_; subst rf2_
    rw [hk1, List.getElem?_map] at hk
    refine o1_2 (fun q hq hq1 => ?_) (Option.map_eq_some_iff.mp hk)
    have hlen : kvs.length = kws.length := hv.length.symm
    have hit0 : s.heap.IsKeyIter I a i kws.length ep := ⟨oI, hg, hI.1, by rw [hI.2, hlen]⟩
    obtain ⟨qk, qv⟩ := q
    cases hq1
    refine wpAny_pyNext_dict_item hit0 hl hq fun key h' hkey hit hs => ?_
    revert hit; refine o1_2 fun o' ho' hI' => ?_
    exact ⟨key, o', rfl, isKey_int hkey, ⟨hI'.1, by rw [hI'.2, hlen]⟩, S.setPriv h1 h2 hs ho', ⟨_, _, rfl⟩⟩

theorem it_end {I : Addr} {oI : Obj} {src : Option (Addr × O)} {n : Nat} (hh : A.handled = none) (S : St prog w K h₀ L m (pre ++ (I, oI) :: post) σ s.heap) (h1 : ∀ p ∈ pre, p.1 ≠ I) (h2 : ∀ p ∈ post, p.1 ≠ I)
    (hI : ItAt src n n oI) (hst : stillW src σ) (hn : n = (itemsOf src n).length) :
    wpAny (model prog w) A (pyNext (.ref I)) (fun r s' => r = none ∧ St prog w K h₀ L m (pre ++ post) σ s'.heap ∧ Same s s') E s := by
  have hg : s.heap.get? I = some oI := S.cell (List.mem_append_right _ (.head _))
  match src with
  | none =>
    subst hI
    exact wpAny_pyNext_range_end hh hg (by omega) fun h' he => ⟨rfl, S.dropPriv h1 h2 he, ⟨_, _, rfl⟩⟩
  | some (a, .list xs) =>
    refine o1_3 (fun vs hl hv _ => ?_) (S.isList hst)
    have hsz : vs.size = n := by rw [hn, ← Array.length_toList, hv.length]; rfl
    exact wpAny_pyNext_list_end hh ⟨oI, hg, hI⟩ hl (by simp [hsz]) fun h' he => ⟨rfl, S.dropPriv h1 h2 he, ⟨_, _, rfl⟩⟩
  | some (a, .tup xs) =>
    refine o1_3 (fun vs hl hv _ => ?_) (S.isTup hst)
    have hsz : vs.size = n := by rw [hn, ← Array.length_toList, hv.length]; rfl
    exact wpAny_pyNext_tuple_end hh ⟨oI, hg, hI⟩ hl (by simp [hsz]) fun h' he => ⟨rfl, S.dropPriv h1 h2 he, ⟨_, _, rfl⟩⟩
  | some (a, .dict kvs ep) =>
    refine o1_3 (fun kws hl hv _ => ?_) (S.dictAt hst)
    have hlen : kvs.length = kws.length := hv.length.symm
    have hit0 : s.heap.IsKeyIter I a n kws.length ep := ⟨oI, hg, hI.1, by rw [hI.2, hlen]⟩
    have hsz : kws.length = n := by rw [hn, ← hlen]; simp [itemsOf]
    exact wpAny_pyNext_dict_end hh hit0 hl (by simp [hsz]) fun h' he => ⟨rfl, S.dropPriv h1 h2 he, ⟨_, _, rfl⟩⟩

theorem it_self {I : Addr} {oI : Obj} {src : Option (Addr × O)} {n i : Nat} {P : Value → Shared → Prop} (hg : s.heap.get? I = some oI) (hI : ItAt src n i oI) (h : P (.ref I) s) : wpAny (model prog w) A (pyIter (.ref I)) P E s := by
  match src with
  | none => subst hI; exact wpAny_pyIter_rangeiter hg h
  | some (a, .list xs) => exact wpAny_pyIter_listiter ⟨oI, hg, hI⟩ h
  | some (a, .tup xs) => exact wpAny_pyIter_tupleiter ⟨oI, hg, hI⟩ h
  | some (a, .dict kvs ep) => exact wpAny_pyIter_keyiter ⟨oI, hg, hI⟩ h

/-- the iterator of a source is made -/
theorem it_start {x : V} {xv : Value} {k : List V → Option (Addr × O) → Prop} (hv : VR x xv) (S : St prog w K h₀ L m priv σ s.heap) (h : srcOf σ x k) :
    wpAny (model prog w) A (pyIter xv) (fun it s' => ∃ I oI src, it = .ref I ∧ ItAt src (itemsOf src 0).length 0 oI ∧ (itemsOf src 0).length ≤ bigN ∧ stillW src σ ∧ (∃ y, src = some y) ∧ St prog w K h₀ L m ((I, oI) :: priv) σ s'.heap ∧ Same s s' ∧ (∀ p ∈ priv, p.1 ≠ I) ∧ k (itemsOf src 0) src) E s := by
  refine o1_2 (fun a e h2 => ?_) (refW_inv h)
  subst e
  obtain rfl := hv.ref_inv
  have hne : ∀ p ∈ priv, p.1 ≠ s.heap.objs.size := fun p hp => Nat.ne_of_lt (S.lt hp)
  cases q : σ a with
  | none => rw [q] at h2; exact h2.elim
  | some o =>
    cases o <;> (rw [q] at h2; try exact h2.elim)
    · refine o1_3 (fun vs hl _ hbg => ?_) (S.isList q)
      exact wpAny_pyIter_list hl ⟨_, _, some (a, .list _), rfl, ⟨rfl, rfl⟩, hbg, q, ⟨_, rfl⟩, S.pushPriv rfl, ⟨_, _, rfl⟩, hne, h2⟩
    · refine o1_3 (fun vs hl _ hbg => ?_) (S.isTup q)
      exact wpAny_pyIter_tuple hl ⟨_, _, some (a, .tup _), rfl, ⟨rfl, rfl⟩, hbg, q, ⟨_, rfl⟩, S.pushPriv rfl, ⟨_, _, rfl⟩, hne, h2⟩
    · refine o1_4 (fun kws hl hp hbg hsys => ?_) (S.dictAt q)
      refine wpAny_pyIter_dict hsys hl ⟨_, _, some (a, .dict _ _), rfl, ⟨rfl, congrArg (fun j : Nat => Data.fields #[.ref a, .int 0 0, .int (j : Int) 0, .int _ 0]) hp.length⟩, (by simpa [itemsOf] using hbg), q, ⟨_, rfl⟩, S.pushPriv rfl, ⟨_, _, rfl⟩, hne, h2⟩

end

end

section
open PyProof.Rows.LCg

section
variable {prog : Program} {w : World} {K : Frag} {p : Program} {loose : List Str} {mean : ExcName → Option Value} {mg mb : Str → Option Value} {lv : Nat}
variable {h₀ h h' : Heap} {L : Addr} {A : Around} {fe ev : Env} {m : Str → Option Value} {priv pre post : List (Addr × Obj)} {ρ : AEnv} {σ : Store} {s s₁ : Shared} {Q : PE} {E : Value → Shared → Prop}

/-- a list has no «keys» -/
theorem list_no_keys {a : Addr} {items : Array Value} {Q : Option Value → Shared → Prop} (hl : s.heap.IsList a items) (hdn : ∀ o, s.heap.get? a = some o → o.dict = none) (hA : A.handled = none)
    (h : ∀ h' tk, (∀ b o, s.heap.get? b = some o → h'.get? b = some o) → Q none { s with heap := h', toks := tk }) : wpAny (model prog w) A (getAttr? (.ref a) "keys") Q E s := by
  obtain ⟨⟨c, dct, dat, sl⟩, hx, hc, k, hdat⟩ := hl
  have hd := hdn _ hx
  simp only at hc hdat hd
  subst hc hdat hd
  obtain ⟨hp, g, d, tk, os⟩ := s
  have hT : ∀ tk', (⟨hp, g, d, tk', os⟩ : Shared).TypeIs (.ref a) "list" := fun _ => ⟨_, hx, rfl⟩
  have hmiss : typeLookup (.type "list") "keys" = pure none := am_miss_of_fast (by kernel_rfl)
  unfold getAttr? getAttrBy? getAttrBy
  refine wpAny_bind (wpAny_mkText ?_)
  refine wpAny_bind (wpAny_attempt (wpAny_holding (wpAny_bind (wpAny_typeOf (hT _) (wpAny_bind (wpAny_of_eq F.slot_list_getattribute.lookup ?_))))))
  dsimp only
  rw [if_neg (by decide)]
  refine wpAny_bind (wpAny_pure (wpAny_bind (wpAny_attempt (wpAny_holding ?_))))
  refine wpAny_bind (wpAny_of_eq (F.slot_list_getattribute.bind (.ref a)) ?_)
  refine call_meets F.slot_list_getattribute (hT _) am_entry_list_getattribute (F.args_list_getattribute_2 _ _) (meets_getattribute_miss_list a items k sl "keys" _ hmiss (by decide) (by size_fits)) ⟨hx, hA, fun h' tk' e hx' => ?_⟩
  refine o2_1 (fun t' u' he => ?_) (hx'.there)
  refine wpAny_bind (wpAny_isInstance ⟨_, he, rfl⟩ sub_AttributeError ?_)
  rw [if_pos rfl]
  refine wpAny_bind (wpAny_of_eq am_list_getattr_none ?_)
  refine wpAny_bind (wpAny_throw ?_)
  refine wpAny_bind (wpAny_isInstance ⟨_, he, rfl⟩ sub_AttributeError ?_)
  rw [if_pos rfl]
  exact wpAny_pure (h h' tk' hx'.keeps)

theorem stored_cons_ne {k j : Int} {v u : Value} {r : List (Int × Value)} (h : ¬ j = k) : stored ((j, u) :: r) k v = (j, u) :: stored r k v := by
  unfold stored
  rw [List.any_cons]
  simp only [h, decide_false, Bool.false_or]
  split
  · simp [h]
  · rfl
theorem stored_cons_eq {k : Int} {v u : Value} {r : List (Int × Value)} (hn : k ∉ r.map (·.1)) : stored ((k, u) :: r) k v = (k, v) :: r := by
  unfold stored
  rw [if_pos (by simp), List.map_cons, if_pos rfl, map_store_of_not_mem r k v hn]
theorem PRs.put {xs : List (Int × V)} {vs : List (Int × Value)} (h : PRs xs vs) (hn : (vs.map (·.1)).Nodup) {k : Int} {x : V} {v : Value} (hx : VR x v) : PRs (dictPut k x xs) (stored vs k v) := by
  induction h with
  | nil => exact .cons hx .nil
  | @cons j y u xs vs hv hr ih =>
    rw [List.map_cons, List.nodup_cons] at hn
    unfold dictPut
    by_cases hj : j = k
    · subst hj; rw [if_pos rfl, stored_cons_eq hn.1]; exact .cons hx hr
    · rw [if_neg hj, stored_cons_ne hj]; exact .cons hv (ih hn.2)
theorem stored_nodup {kvs : List (Int × Value)} {k : Int} {v : Value} (hn : (kvs.map (·.1)).Nodup) : ((stored kvs k v).map (·.1)).Nodup := by
  induction kvs with
  | nil => simp [stored]
  | cons p r ih =>
    obtain ⟨j, u⟩ := p
    have hn' := hn
    rw [List.map_cons, List.nodup_cons] at hn'
    by_cases hj : j = k
    · subst hj; rw [stored_cons_eq hn'.1]; exact hn
    · rw [stored_cons_ne hj, List.map_cons, List.nodup_cons]
      refine ⟨fun hm => ?_, ih hn'.2⟩
      refine o1_2 (fun q hq e => ?_) (List.mem_map.mp hm)
      unfold stored at hq
      split at hq
      · refine o1_2 (fun q' hq' e' => ?_) (List.mem_map.mp hq)
        refine hn'.1 (List.mem_map.mpr ⟨q', hq', ?_⟩)
        rw [← e, ← e']
        split <;> rfl
      · rcases List.mem_append.mp hq with hq | hq
        · exact hn'.1 (List.mem_map.mpr ⟨q, hq, e⟩)
        · cases List.mem_singleton.mp hq; exact hj e.symm
theorem PRs.merge {ys : List (Int × V)} {ws : List (Int × Value)} (k : PRs ys ws) : ∀ {xs : List (Int × V)} {vs : List (Int × Value)}, PRs xs vs → (vs.map (·.1)).Nodup → PRs (dictOfPairs ys xs) (merged vs ws) ∧ ((merged vs ws).map (·.1)).Nodup := by
  induction k with
  | nil => intro xs vs h hn; exact ⟨h, hn⟩
  | @cons j y u ys ws hv hr ih =>
    intro xs vs h hn
    exact ih (h.put hn hv) (stored_nodup hn)
theorem dictPut_length {k : Int} {v : V} (l : List (Int × V)) : (dictPut k v l).length ≤ l.length + 1 := by
  induction l with
  | nil => exact Nat.le_refl _
  | cons p r ih =>
    obtain ⟨j, u⟩ := p
    unfold dictPut
    split
    · simp
    · simp only [List.length_cons]; omega
theorem dictOfPairs_length (l : List (Int × V)) : ∀ d : List (Int × V), (dictOfPairs l d).length ≤ d.length + l.length := by
  induction l with
  | nil => intro d; exact Nat.le_refl _
  | cons p r ih =>
    intro d
    have h1 := ih (dictPut p.1 p.2 d)
    have h2 := dictPut_length (k := p.1) (v := p.2) d
    simp only [dictOfPairs, List.foldl_cons, List.length_cons] at h1 ⊢
    omega

theorem isDictOf_obj {o : Obj} {kvs : List (Int × Value)} (h : o.IsDictOf (intKind prog w) kvs) : ∃ ep, DictObj prog w o kvs ep := by
  revert h; refine o2_5 fun es ep h1 h2 h3 h4 h5 => ?_
  exact ⟨ep, es, h1, h2, h3, h4, h5⟩

theorem op_dictItem {value slice : PySem.Expr} {a : Addr} {l : List (Int × V)} {ep : Nat} {k : Int} {u : Tok} {x : V} (S : St prog w K h₀ L m priv σ s.heap) (ha : σ a = some (.dict l ep)) (hx : dictAt k l = some x) (h : Q x σ)
    (hs : subscripted slice false (.ref a) (.int k u) = operate [.ref a, .int k u] (getItem (.ref a) (.int k u))) :
    wpAny (model prog w) A (subscriptTail value slice (.ref a) (.int k u)) (Res prog w K h₀ L m priv Q s) E s := by
  obtain ⟨kws, ⟨o, es, ho, r⟩, hp, _, lo⟩ := S.dictAt ha
  have hd : s.heap.DictOf (intKind prog w) a kws := ⟨o, es, ep, ho, r⟩
  refine o1_2 (fun v hv hr => ?_) (hp.get hx)
  exact tail_any hd.typeIs slot_dict_getitem.lookup (wpAny_getItem_of (intKind_is prog w k u) hd.mapOf hv (.here hr S h)) hs

/-- a private dict is handed to the store -/
theorem St.adoptD {D : Addr} {o : Obj} {acc : List (Int × V)} {kws : List (Int × Value)} {ep : Nat} (S : St prog w K h₀ L m ((D, o) :: priv) σ h) (hD : ∀ p ∈ priv, p.1 ≠ D) (ho : DictObj prog w o kws ep) (hv : PRs acc kws) (hb : acc.length ≤ bigN) (hs : (D == sysModules) = false) :
    σ D = none ∧ St prog w K h₀ L m priv (upd σ D (.dict acc ep)) h := by
  revert S; refine o1_3 fun news F N D' => ?_
  have hnD : ∀ p ∈ news, p.1 ≠ D := fun p hp e => D'.off p hp (by rw [e]; exact .head _)
  obtain ⟨ow, hrep⟩ := D'.rep
  refine ⟨?_, (D, o) :: news, F, fun q hq => N q ?_, ?_, fun q hq hk => ?_, fun k => if k = D then D else ow k, fun a ob ha => ?_⟩
  · cases q : σ D with
    | none => rfl
    | some o => obtain ⟨x, hx⟩ := (hrep D o q).key; exact absurd rfl (hnD _ hx)
  · rcases List.mem_append.mp hq with hq | hq
    · exact .tail _ (List.mem_append_left _ hq)
    · rcases List.mem_cons.mp hq with rfl | hq
      · exact .head _
      · exact .tail _ (List.mem_append_right _ hq)
  · rw [List.map_cons]
    refine List.nodup_cons.mpr ⟨fun hm => ?_, D'.nd⟩
    refine o1_2 (fun q hq e => ?_) (List.mem_map.mp hm)
    exact hnD q hq e
  · rcases List.mem_cons.mp hq with rfl | hq
    · refine o1_2 (fun q hq e => ?_) (List.mem_map.mp hk)
      exact hD q hq e
    · exact D'.off q hq (.tail _ hk)
  · by_cases haD : a = D
    · subst haD
      rw [upd_self] at ha; cases ha
      exact ⟨if_pos rfl, o, kws, .head _, ho, hv, hb, hs⟩
    · rw [upd_ne haD] at ha
      exact (hrep a ob ha).mono fun q hq e => ⟨.tail _ hq, by rw [if_neg (hnD q hq)]; exact e⟩

theorem St.notSys (S : St prog w K h₀ L m priv σ h) (hl : h₀.NoLimit) : (h.objs.size == sysModules) = false := S.fr.notModules (modules_low hl)

theorem op_dictNew {env : Env} {pos : Pos} (S : St prog w K h₀ L m priv σ s.heap) (hl : h₀.NoLimit) (h : newD σ [] Q) : wpAny (model prog w) A (eval (.Dict [] [] pos) env) (Res prog w K h₀ L m priv Q s) E s := by
  refine o1_3 (fun news F N D => ?_) (id S)
  refine Dict_empty_made (knd := intKind prog w) (enc := PyData.int) F N (modules_low hl) fun h' o F' N' lo hd _ hap => ?_
  obtain ⟨ep, ho⟩ := isDictOf_obj hd
  obtain ⟨f, S'⟩ := St.new1 (o := .dict [] ep) F' N D N' (fun p hp => Heap.lt_size (N p hp).1) ⟨rfl, o, [], .head _, ho, .nil, Nat.zero_le _, lo⟩
  exact .mk (.ref _) S' (h _ ep f)

theorem op_dictCopy {a : Addr} {l : List (Int × V)} {ep : Nat} (hl : h₀.NoLimit) (S : St prog w K h₀ L m priv σ s.heap) (ha : σ a = some (.dict l ep)) (h : newD σ l Q) :
    wpAny (model prog w) A (call (.type "dict") [.ref a]) (Res prog w K h₀ L m priv Q s) E s := by
  obtain ⟨kws, ⟨o, es, ho, r⟩, hp, hb, lo⟩ := S.dictAt ha
  have hd : s.heap.DictOf (intKind prog w) a kws := ⟨o, es, ep, ho, r⟩
  have lo2 := S.notSys hl
  refine o1_3 (fun news F N D => ?_) (id S)
  refine kt_call_dict lo hd (big_line (by rw [hp.length]; exact hb)) fun h' hm hs => ?_
  refine o1_2 (fun o' ho' hd' => ?_) (Heap.dictOf_iff.mp hm)
  obtain ⟨ep', hob⟩ := isDictOf_obj hd'
  obtain ⟨f, S'⟩ := St.new1 (o := .dict l ep') (F.filled hs) N D (N.filled F hs ho') (fun p hp => Heap.lt_size (N p hp).1) ⟨rfl, o', kws, .head _, hob, hp, hb, lo2⟩
  exact .mk (.ref _) S' (h _ ep' f)

theorem op_dictUpdate {a b : Addr} {d l : List (Int × V)} {ep ep' : Nat} (S : St prog w K h₀ L m priv σ s.heap) (ha : σ a = some (.dict d ep)) (hb : σ b = some (.dict l ep')) (hab : a ≠ b) (hz : d.length + l.length ≤ bigN) (h : ∀ ep, Q .none (upd σ a (.dict (dictOfPairs l d) ep))) :
    wpAny (model prog w) A (call (.builtin "dict.update") [.ref a, .ref b]) (Res prog w K h₀ L m priv Q s) E s := by
  obtain ⟨kwb, ⟨ob, esb, hob, rb⟩, hpb, hbb, lob⟩ := S.dictAt hb
  have hdb : s.heap.DictOf (intKind prog w) b kwb := ⟨ob, esb, ep', hob, rb⟩
  revert S; refine o1_3 fun news F N D => ?_
  obtain ⟨ow, hrep⟩ := D.rep
  obtain ⟨h1, oa, kwa, m1, ⟨es, r⟩, hpa, hba, loa⟩ := hrep a _ ha
  have hda : s.heap.DictOf (intKind prog w) a kwa := ⟨oa, es, ep, (N _ (List.mem_append_right _ m1)).1, r⟩
  have hnd : (kwa.map (·.1)).Nodup := r.2.2.2.2
  refine call_meetsIn PySem.F.slot_dict_update hda.typeIs PySem.F.entry_dict_update (PySem.F.args_dict_update_2 _ _) (meets_dict_update (intKind prog w) a b hab lob)
    ⟨kwa, kwb, hda, hdb, big_line (by rw [hpa.length, hpb.length]; exact hz), fun h' hmm _ hs => ?_⟩
  refine o1_2 (fun o' ho' hd' => ?_) (Heap.dictOf_iff.mp hmm)
  obtain ⟨epn, hobn⟩ := isDictOf_obj hd'
  obtain ⟨hpm, _⟩ := hpb.merge hpa hnd
  have z := N (a, oa) (List.mem_append_right _ m1)
  have U := D.upd (o' := o') m1
  refine o2_4 (fun pr po e1 e2 b1 b2 => ?_) (U.split)
  have N1 := N
  rw [e1] at N1
  have N2 := news_set N1 b1 b2 hs ho'
  rw [← e2] at N2
  refine .mk .none (St.change (o' := .dict (dictOfPairs l d) epn) (F.change hs z.2.1 z.2.2) D hrep h1 m1 N2 ⟨h1, o', _, putL1_mem m1, hobn, hpm, ?_, loa⟩) (h epn)
  exact Nat.le_trans (dictOfPairs_length l d) hz

theorem plain_dict_loop : plainId "dict.update.loop" = true := by
  have a1 : ("dict.update.loop".startsWith "lifetime.") = false := by decide +kernel
  have a2 : (heavyIds.contains "dict.update.loop") = false := by decide +kernel
  have a3 : (guardIds.contains "dict.update.loop") = false := by decide +kernel
  unfold plainId
  rw [a1, a2, a3]; rfl
theorem entry_dict_loop : entryFor table "dict.update.loop" = some Builtin.«dict.update.loop» := entryFor_of_tree (by kernel_rfl)

theorem pairsOf_ref {a : Addr} {xs : List V} {l : List (Int × V)} (h : pairsOf σ (.ref a :: xs) = some l) : ∃ b k v r, V.ref a = .ref b ∧ σ b = some (.tup [.int k, v]) ∧ pairsOf σ xs = some r ∧ l = (k, v) :: r := by
  change (match σ a, pairsOf σ xs with | some (.tup [.int k, v]), some l => some ((k, v) :: l) | _, _ => none) = some l at h
  generalize h1 : σ a = x at h
  generalize h2 : pairsOf σ xs = y at h
  rcases x with _ | x
  · cases h
  · cases x with
    | tup l =>
      rcases l with _ | ⟨i, _ | ⟨v, _ | _⟩⟩
      · cases h
      · cases i <;> cases h
      · cases i <;> first | exact ns h | exact ft h | (cases h; done) | skip
        cases y with
        | none => cases h
        | some y => cases h; exact ⟨a, _, _, _, rfl, h1, rfl, rfl⟩
      · cases i <;> cases h
    | _ => first | exact ns h | exact ft h | cases h
theorem pairsOf_cons {x : V} {xs : List V} {l : List (Int × V)} (h : pairsOf σ (x :: xs) = some l) : ∃ a k v r, x = .ref a ∧ σ a = some (.tup [.int k, v]) ∧ pairsOf σ xs = some r ∧ l = (k, v) :: r := by
  cases x with
  | ref a =>
    exact pairsOf_ref h
  | _ => first | exact ns h | exact ft h | cases h

theorem dict_loop {a d : Addr} {xs : List V} {R : Result → Shared → Prop} (hh : A.handled = none) (ha : σ a = some (.list xs)) (hpd : ∀ p ∈ priv, p.1 ≠ d) (s₀ : Shared) {result : Value} : 
    ∀ (k i : Nat), xs.length - i = k → ∀ (I : Addr) (oI od : Obj) (kws : List (Int × Value)) (acc l : List (Int × V)) (s : Shared) {A' : Around}, A'.handled = none → i ≤ xs.length → (∀ p ∈ priv, p.1 ≠ I) → d ≠ I → ItAt (some (a, .list xs)) xs.length i oI →
    St prog w K h₀ L m ((I, oI) :: (d, od) :: priv) σ s.heap → Same s₀ s → od.IsDictOf (intKind prog w) kws → PRs acc kws → pairsOf σ (xs.drop i) = some l → acc.length + l.length ≤ bigN →
    (∀ od' kws' s', St prog w K h₀ L m ((d, od') :: priv) σ s'.heap → Same s₀ s' → od'.IsDictOf (intKind prog w) kws' → PRs (dictOfPairs l acc) kws' → R (.ok (.ret result)) s') →
    codeAny (model prog w) A' (.builtin "dict.update.loop" ⟨[.ref d, .ref I, rawInt (i : Nat), result], []⟩) R s := by
  intro k
  induction k with
  | zero =>
    intro i hk I oI od kws acc l s A' hA' hi hpI hdI hI S hs hod hpr hpl hz fin
    have hin : i = xs.length := by omega
    subst hin
    rw [List.drop_length] at hpl
    cases hpl
    refine codeAny_builtin entry_dict_loop ?_
    rw [Around.under_plainId plain_dict_loop]
    unfold Builtin.«dict.update.loop»
    refine wpAny_bind (wpAny_mono (it_end (pre := []) (post := (d, od) :: priv) (n := xs.length) hA' S (fun _ h => nomatch h) (fun q hq => ?_) hI ha rfl) (fun r s' h => ?_) fun _ _ e => e)
    · rcases List.mem_cons.mp hq with rfl | hq
      · exact hdI
      · exact hpI q hq
    revert h; refine o0_3 fun rf0_ S' hs' => ?_; subst rf0_
    refine wpAny_bind (wpAny_pure ?_)
    exact wpAny_pure (fin od kws s' S' (hs.trans hs') hod hpr)
  | succ k ih =>
    intro i hk I oI od kws acc l s A' hA' hi hpI hdI hI S hs hod hpr hpl hz fin
    have hlt : i < xs.length := by omega
    rw [List.drop_eq_getElem_cons hlt] at hpl
    refine o4_4 (fun t kk v r hx ht hpl rf7_ => ?_) (pairsOf_cons hpl); subst rf7_
    refine codeAny_builtin entry_dict_loop ?_
    rw [Around.under_plainId plain_dict_loop]
    unfold Builtin.«dict.update.loop»
    refine wpAny_bind (wpAny_mono (it_next (pre := []) (post := (d, od) :: priv) (n := xs.length) (x := .ref t) S (fun _ h => nomatch h) (fun q hq => ?_) hI ha rfl (by show xs[i]? = _; rw [List.getElem?_eq_getElem hlt, hx])) (fun r s' h => ?_) fun _ _ e => e)
    · rcases List.mem_cons.mp hq with rfl | hq
      · exact hdI
      · exact hpI q hq
    revert h; refine o2_5 fun vv oI' rf2_ hv hI' S' hs' => ?_; subst rf2_
    obtain rfl := hv.ref_inv
    refine o1_3 (fun its htu hvs _ => ?_) (S'.isTup ht)
    have hits : ∃ tk v', its.toList = [.int kk tk, v'] ∧ VR v v' := by
      generalize its.toList = il at hvs
      obtain ⟨x1, r1, rfl, a1, hvs⟩ := hvs.cons_inv
      obtain ⟨x2, r2, rfl, a2, hvs⟩ := hvs.cons_inv
      obtain rfl := hvs.nil_inv
      obtain ⟨tk, rfl⟩ := a1
      exact ⟨tk, x2, rfl, a2⟩
    revert hits; refine o2_2 fun tk v' hil hv' => ?_
    dsimp only
    refine wpAny_bind (wpAny_holding ?_)
    refine wpAny_bind (wpAny_tryCatch ?_)
    unfold Builtin.Dict.pairItems
    refine wpAny_bind (wpAny_typeOf htu.typeIs ?_)
    rw [if_pos (by decide)]
    obtain ⟨ot, hot, hct, nt, hdt⟩ := htu
    refine wpAny_bind (wpAny_seqItems hot hdt (wpAny_pure ?_))
    rw [Option.getD_some, hil]
    have hap : ∀ p ∈ priv, p.1 ≠ d := hpd
    have hgd : s'.heap.get? d = some od := S'.cell (.tail _ (.head _))
    have hlen : acc.length ≤ bigN := by rw [List.length_cons] at hz; omega
    refine wpAny_holding (wpAny_dictSet_pairs (knd := intKind prog w) (intKind_is prog w kk tk) (Heap.dictOf_iff.mpr ⟨od, hgd, hod⟩) (fun h' hm hsb => ?_) (big_line (by rw [hpr.length]; exact hlen)))
    refine o1_2 (fun o' ho' hd' => ?_) (Heap.dictOf_iff.mp hm)
    have S2 : St prog w K h₀ L m ([(I, oI')] ++ (d, o') :: priv) σ h' := St.setPriv (pre := [(I, oI')]) (post := priv) (o := od) S' (fun p hp => by cases List.mem_singleton.mp hp; exact Ne.symm hdI) hap hsb ho'
    refine wpAny_pure ⟨plainId_quiet plain_dict_loop _, ?_⟩
    have hc : ((i : Int) + 1) = ((i + 1 : Nat) : Int) := by push_cast; rfl
    rw [hc]
    have hnd : (kws.map (·.1)).Nodup := let ⟨_, _, _, _, _, _, hn⟩ := hod; hn
    refine ih (i + 1) (by omega) I oI' o' (stored kws kk v') (dictPut kk v acc) r _ hA' (by omega) hpI hdI hI' S2 (hs.trans (hs'.trans ⟨_, _, rfl⟩)) hd' (hpr.put hnd hv') (by assumption) ?_ fin
    have := dictPut_length (k := kk) (v := v) acc
    rw [List.length_cons] at hz
    omega

theorem pairsOf_length : ∀ {xs : List V} {l : List (Int × V)}, pairsOf σ xs = some l → l.length = xs.length
  | [], l, h => by cases h; rfl
  | x :: xs, l, h => by
    refine o4_4 (fun _ _ _ r _ _ h2 rf7_ => ?_) (pairsOf_cons h); subst rf7_
    rw [List.length_cons, List.length_cons, pairsOf_length h2]

theorem op_dictPairs {a : Addr} {xs : List V} {l : List (Int × V)} (hl : h₀.NoLimit) (hh : A.handled = none) (S : St prog w K h₀ L m priv σ s.heap) (ha : σ a = some (.list xs)) (hp : pairsOf σ xs = some l) (h : newD σ (dictOfPairs l []) Q) :
    wpAny (model prog w) A (call (.type "dict") [.ref a]) (Res prog w K h₀ L m priv Q s) E s := by
  refine callType_codes (Q₁ := fun obj s₁ => obj = .ref s.heap.objs.size ∧ s₁ = { s with heap := s.heap.push { cls := .type "dict", data := .dict #[] } }) F.kt_called_dict (F.kt_typeCall_dict_1 _) F.entry_dict_init (kt_code_dict_new _ ⟨rfl, rfl⟩) ?_
  rintro obj s₁ ⟨rfl, rfl⟩
  have hnew : (s.heap.push { cls := .type "dict", data := .dict #[] }).DictOf (intKind prog w) s.heap.objs.size [] := Heap.DictOf.new s.heap
  refine o1_2 (fun od hod hdd => ?_) (Heap.dictOf_iff.mp hnew)
  have lo := S.notSys hl
  have hpd : ∀ p ∈ priv, p.1 ≠ s.heap.objs.size := fun p hp => Nat.ne_of_lt (S.lt hp)
  have S1 : St prog w K h₀ L m ((s.heap.objs.size, od) :: priv) σ (s.heap.push { cls := .type "dict", data := .dict #[] }) := by
    have := S.pushPriv (o := { cls := .type "dict", data := .dict #[] }) rfl
    have e : od = { cls := .type "dict", data := .dict #[] } := by
      rw [Heap.get?_push_size _ rfl] at hod; exact (Option.some.inj hod).symm
    rw [e]; exact this
  refine ⟨hnew.typeIs, F.args_dict_init_2 _ _, ?_⟩
  unfold Builtin.«dict.__init__»
  refine wpAny_bind ?_
  unfold Builtin.Dict.selfAndRest
  refine wpAny_bind (wpAny_notOrdered_dict hnew.typeIs ?_)
  show wpAny _ _ (pure (s.heap.objs.size, [Value.ref a])) _ _ _
  refine wpAny_pure ?_
  show wpAny _ _ (Builtin.Dict.updateFrom "dict.__init__" s.heap.objs.size (.ref a) [] .none) _ _ _
  unfold Builtin.Dict.updateFrom
  refine o1_3 (fun vs hil hvs hbn => ?_) (S1.isList ha)
  have hdn : ∀ o, (s.heap.push { cls := .type "dict", data := .dict #[] }).get? a = some o → o.dict = none := by
    revert S1; refine o1_3 fun news F N D => ?_
    obtain ⟨ow, hrep⟩ := D.rep
    obtain ⟨_, vs, n, m1, _, _⟩ := hrep a _ ha
    intro o ho
    have h2 := (N _ (List.mem_append_right _ m1)).1
    rw [ho] at h2
    cases h2
    rfl
  refine wpAny_bind (wpAny_typeOf (s := { s with heap := _ }) hil.typeIs ?_)
  rw [if_pos (by decide)]
  refine wpAny_bind (list_no_keys hil hdn hh fun h' tk hk => ?_)
  rw [if_pos (by decide)]
  refine wpAny_bind (wpAny_rule ?_)
  have S2 := S1.grown hk
  refine o1_3 (fun vs2 hil2 _ _ => ?_) (S2.isList ha)
  refine wpAny_bind (wpAny_pyIter_list hil2 ?_)
  have S3 := S2.pushPriv (o := { cls := .type "list_iterator", data := .fields #[.ref a, .int 0 0] }) rfl
  refine wpAny_pure ⟨plainId_quiet plain_dict_loop _, ?_⟩
  have hlt : s.heap.objs.size < h'.objs.size := S2.lt (.head _)
  refine dict_loop (priv := priv) (a := a) hh ha hpd s xs.length 0 (by omega) _ _ od [] [] l _ hh (Nat.zero_le _) (fun p hp => Nat.ne_of_lt (S2.lt (.tail _ hp))) (Nat.ne_of_lt hlt) ⟨rfl, rfl⟩ S3 ⟨_, _, rfl⟩ hdd .nil (by simpa using hp) ?_ ?_
  · rw [List.length_nil, pairsOf_length hp]; omega
  · intro od' kws' s' S' hs' hd' hpr
    obtain ⟨ep, hob⟩ := isDictOf_obj hd'
    have hlen : (dictOfPairs l []).length ≤ bigN := by
      have h1 := dictOfPairs_length l []
      rw [pairsOf_length hp, List.length_nil] at h1
      omega
    obtain ⟨f, S''⟩ := S'.adoptD hpd hob hpr hlen lo
    exact ⟨rfl, .ref _, _, .ref _, S'', hs', h _ ep f⟩
end

end

section
open PyProof.Rows.LCg

section
variable {prog : Program} {w : World} {K : Frag} {p : Program} {loose : List Str} {mean : ExcName → Option Value} {mg mb : Str → Option Value} {lv : Nat}
variable {h₀ : Heap} {L : Addr} {A : Around} {fe ev : Env} {m : Str → Option Value} {priv : List (Addr × Obj)} {ρ : AEnv} {σ : Store} {s s₁ : Shared} {Q : PE} {E : Value → Shared → Prop}

noncomputable def bltVal (f : Str) : Value :=
  if f = "len" then .builtin "len" else if f = "abs" then .builtin "abs" else if f = "max" then .builtin "max" else if f = "min" then .builtin "min"
  else if f = "list" then .type "list" else .type "dict"
theorem bltVal_boot : ∀ f ∈ bltNames, bootBuiltins f = some (bltVal f) ∧ f ≠ "__name__" := by decide +kernel

theorem abs_eq (i : Int) : (if i < 0 then -i else i) = (i.natAbs : Int) := by split <;> omega

theorem blt_sound {f : Str} {vs : List V} {vals : List Value} (hu : A.units ≤ 5000) (hl0 : h₀.NoLimit) (hh : A.handled = none) (hv : VRs vs vals) (S : St prog w K h₀ L m priv σ s.heap) (h : bltW f vs σ Q) :
    wpAny (model prog w) A (call (bltVal f) vals) (Res prog w K h₀ L m priv Q s) E s := by
  unfold bltW at h
  split at h
  · refine o2_3 (fun v' r rf2_ hx hr => ?_) (hv.cons_inv); subst rf2_
    clear hv
    obtain rfl := hr.nil_inv
    split at h
    · rename_i e; subst e
      obtain ⟨a, xs, rfl, ha, h⟩ := listW_inv h
      obtain rfl := hx.ref_inv
      exact op_lenList S ha h
    split at h
    · rename_i e; subst e
      obtain ⟨a, xs, rfl, ha, h⟩ := listW_inv h
      obtain rfl := hx.ref_inv
      exact op_copyList S ha h
    split at h
    · rename_i e; subst e
      refine o1_2 (fun i rf1_ h => ?_) (intW_inv h); subst rf1_
      obtain ⟨t, rfl⟩ := hx
      refine PyProof.Rows.call_abs_int fun u tk => ?_
      rw [abs_eq]
      exact .here (.int _ _) S h
    split at h
    · rename_i e; subst e
      refine o1_2 (fun a e2 h2 => ?_) (refW_inv h)
      subst e2
      obtain rfl := hx.ref_inv
      cases q : σ a with
      | none => rw [q] at h2; exact h2.elim
      | some o =>
        cases o <;> (rw [q] at h2; try exact h2.elim)
        · refine o1_2 (fun l hl h2 => ?_) (optW_inv h2)
          exact op_dictPairs hl0 hh S q hl h2
        · exact op_dictCopy hl0 S q h2
    exact h.elim
  · refine o2_3 (fun v' r rf2_ hx hr => ?_) (hv.cons_inv); subst rf2_
    clear hv
    obtain ⟨u', r, rfl, hw, hr⟩ := hr.cons_inv
    obtain rfl := hr.nil_inv
    split at h
    · rename_i e; subst e
      refine o2_3 (fun i j e1 e2 h2 => ?_) (int2W_inv h)
      clear h
      subst e1 e2
      obtain ⟨t, rfl⟩ := hx; obtain ⟨u, rfl⟩ := hw
      refine max_two_ints hh fun h' tk hk => ?_
      by_cases hc : j > i
      · rw [if_pos hc]; rw [Int.max_eq_right (by omega)] at h2; exact .mk (.int _ _) (S.grown hk) h2
      · rw [if_neg hc]; rw [Int.max_eq_left (by omega)] at h2; exact .mk (.int _ _) (S.grown hk) h2
    split at h
    · rename_i e; subst e
      refine o2_3 (fun i j e1 e2 h2 => ?_) (int2W_inv h)
      clear h
      subst e1 e2
      obtain ⟨t, rfl⟩ := hx; obtain ⟨u, rfl⟩ := hw
      refine min_two_ints hh fun h' tk hk => ?_
      by_cases hc : j < i
      · rw [if_pos hc]; rw [Int.min_eq_right (by omega)] at h2; exact .mk (.int _ _) (S.grown hk) h2
      · rw [if_neg hc]; rw [Int.min_eq_left (by omega)] at h2; exact .mk (.int _ _) (S.grown hk) h2
    exact h.elim
  · exact h.elim

theorem isi_sound {v : V} {v' : Value} (hv : VR v v') (hn : noRef v) (S : St prog w K h₀ L m priv σ s.heap) (h : Q (.bool (isB v)) σ) :
    wpAny (model prog w) A (call (.builtin "isinstance") [v', .type "bool"]) (Res prog w K h₀ L m priv Q s) E s := by
  obtain ⟨t, rfl⟩ := hv
  cases v with
  | none => exact PySem.IsiPair.NoneType_bool (.here (.bool _) S h)
  | bool b => exact PySem.IsiPair.bool_bool (.here0 (.bool _) S h)
  | int i => exact PySem.IsiPair.int_bool (.here (.bool _) S h)
  | str x => exact PySem.IsiPair.str_bool (.here (.bool _) S h)
  | ref a => exact hn.elim

theorem starEach_any {es : List Expr} {pos : Pos} (h : es.all plainArg = true) : (backTo pos (starEach es ev)).any (·.1) = false := by
  induction es with
  | nil => rfl
  | cons e es ih =>
    rw [List.all_cons, Bool.and_eq_true] at h
    rw [starEach_plain h.1]
    show (false || (backTo pos (starEach es ev)).any (·.1)) = false
    rw [ih h.2]; rfl
theorem starEach_all {es : List Expr} {pos : Pos} (h : es.all plainArg = true) : (backTo pos (starEach es ev)).all (fun x => !x.1) = true := by
  induction es with
  | nil => rfl
  | cons e es ih =>
    rw [List.all_cons, Bool.and_eq_true] at h
    rw [starEach_plain h.1]
    show (!false && (backTo pos (starEach es ev)).all (fun x => !x.1)) = true
    rw [ih h.2]; rfl
theorem evalArgs_all {M : Model} {f : Value} {es : List Expr} {pos : Pos} {Q : Args → Shared → Prop} (hp : es.all plainArg = true) (h : wpAny M A (spliced (backTo pos (starEach es ev))) (fun vs s' => Q ⟨vs, []⟩ s') E s) :
    wpAny M A (evalArgs f true (backTo pos (starEach es ev)) []) Q E s := by
  cases es with
  | nil =>
    unfold evalArgs
    show wpAny M A (spliced [] >>= _) Q E s
    refine wpAny_bind (wpAny_mono h (fun vs s' h' => ?_) fun _ _ x => x)
    refine wpAny_holding ?_
    exact wpAny_bind (wpAny_pure (wpAny_bind (wpAny_pure (wpAny_pure h'))))
  | cons e es =>
    rw [List.all_cons, Bool.and_eq_true] at hp
    rw [starEach_plain hp.1] at h ⊢
    exact evalArgs_plain h
end

end

section
open PyProof.Rows.LCg

section
variable {prog : Program} {w : World} {K : Frag} {p : Program} {loose : List Str} {mean : ExcName → Option Value} {mg mb : Str → Option Value} {lv : Nat}
variable {h₀ : Heap} {L : Addr} {A : Around} {fe ev : Env} {m : Str → Option Value} {priv : List (Addr × Obj)} {ρ : AEnv} {σ : Store} {s s₁ : Shared} {Q : PE} {E : Value → Shared → Prop}
variable {rec : RE} {recT : RT} {chk : KO → Expr → Bool}

theorem name_sound {x : Str} {pos : Pos} (H : Hr K p loose mean mg mb lv h₀ L A fe ev m priv ρ) (hd : dbg x = false) (S : St prog w K h₀ L m priv σ s.heap) (h : optW (ρ x) fun v => Q v σ) :
    wpAny (model prog w) A (eval (.Name x pos) ev) (Res prog w K h₀ L m priv Q s) E s := by
  refine o1_2 (fun v e h => ?_) (optW_inv h)
  refine o1_2 (fun v' hv hr => ?_) (H.en x v e)
  exact readName H.evk.kd S hr hd (.here0 hv S h)

theorem const_sound {c : Const} {k : Nat} {pos : Pos} (S : St prog w K h₀ L m priv σ s.heap) (h : constW c σ Q) :
    wpAny (model prog w) A (eval (.Constant c k pos) ev) (Res prog w K h₀ L m priv Q s) E s := by
  cases c <;> first | exact h.elim | skip
  · exact Constant_none (.here0 .none S h)
  · exact Constant_bool (.here0 (.bool _) S h)
  · exact wpAny_Constant_int (.here (.int _ _) S h)
  · exact Calls.Constant_str (.here (.str _ _) S h)

theorem getAttr_sound {a : V} {av : Value} {x : Str} (X : K.In h₀) (ha : VR a av) (S : St prog w K h₀ L m priv σ s.heap) (h : getW σ a x Q) :
    wpAny (model prog w) A (getAttr av x true) (Res prog w K h₀ L m priv Q s) E s := by
  refine o1_2 (fun i e h2 => ?_) (refW_inv h)
  subst e
  obtain rfl := ha.ref_inv
  cases q : σ i with
  | none => rw [q] at h2; exact h2.elim
  | some o =>
    cases o <;> (rw [q] at h2; try exact h2.elim)
    refine o1_2 (fun u hu h2 => ?_) (optW_inv h2)
    exact op_get X S q hu h2

theorem subTail_sound {value slice : Expr} {a i : V} {av iv : Value} (hn : notSlice slice = true) (ha : VR a av) (hi : VR i iv) (S : St prog w K h₀ L m priv σ s.heap) (h : subW σ a i Q) :
    wpAny (model prog w) A (subscriptTail value slice av iv) (Res prog w K h₀ L m priv Q s) E s := by
  refine o1_2 (fun a e h2 => ?_) (refW_inv h)
  subst e
  refine o1_2 (fun k e h3 => ?_) (intW_inv h2)
  subst e
  obtain rfl := ha.ref_inv
  obtain ⟨u, rfl⟩ := hi
  have hs : subscripted slice false (.ref a) (.int k u) = operate [.ref a, .int k u] (getItem (.ref a) (.int k u)) := by
    cases slice <;> first | rfl | exact ns hn | exact ft hn | cases hn
  cases q : σ a with
  | none => rw [q] at h3; exact h3.elim
  | some o =>
    cases o <;> (rw [q] at h3; try exact h3.elim)
    · obtain ⟨h0, h3⟩ := h3
      refine o1_2 (fun x hx h3 => ?_) (optW_inv h3)
      exact op_itemList S q h0 hx h3 hs
    · obtain ⟨h0, h3⟩ := h3
      refine o1_2 (fun x hx h3 => ?_) (optW_inv h3)
      exact op_itemTup S q h0 hx h3 hs
    · refine o1_2 (fun x hx h3 => ?_) (optW_inv h3)
      exact op_dictItem S q hx h3 hs

theorem call_fn (IH : SE prog w K p loose mean mg mb lv rec chk) (H : Hr K p loose mean mg mb lv h₀ L A fe ev m priv ρ) (hb : bltFree K = true) (hfn : fnsOk K = true) {f : Str} {args : List Expr} {fp pos : Pos}
    (hk : ev.kindOf f = some .globalImplicit) (hd : dbg f = false)
    (hc : (if f = "isinstance" then (match args with | [x, .Name b _] => (ev.kindOf b == some .globalImplicit) && !dbg b && chk ev.kindOf x | _ => false) else args.all (chk ev.kindOf) && (f ∈ bltNames || f ∈ fnNames)) = true) (hp : args.all plainArg = true)
    (S : St prog w K h₀ L m priv σ s.heap) (h : callW (CallOk prog w K p loose mean mg mb lv) rec f args ρ σ Q) :
    wpAny (model prog w) A (eval (.Call (.Name f fp) args [] pos) ev) (Res prog w K h₀ L m priv Q s) NoE s := by
  refine Call_ ?_ rfl
  unfold bltFree at hb
  simp only [Bool.and_eq_true, beq_iff_eq] at hb
  obtain ⟨⟨⟨hb1, hb2⟩, hb3⟩, -⟩ := hb
  unfold callW at h
  by_cases hf : f = "isinstance"
  · rw [if_pos hf] at h hc
    subst hf
    rcases args with _ | ⟨x, _ | ⟨e2, rest⟩⟩
    · exact h.elim
    · exact h.elim
    · cases e2 <;> first | exact h.elim | skip
      rename_i b bp
      cases rest with
      | cons => exact h.elim
      | nil => ?_
      obtain ⟨rfl, h⟩ := h
      simp only [Bool.and_eq_true, beq_iff_eq, Bool.not_eq_true'] at hc
      obtain ⟨⟨hkb, hdb⟩, hcx⟩ := hc
      refine bltName H.evk hk hd S H.fm.X H.fm.T hb2 boot_isinstance (by decide) ?_
      refine callWith_builtin (starEach_any hp) (evalArgs_all hp ?_)
      rw [List.all_cons, Bool.and_eq_true] at hp
      refine args_cons (thenE (α := Unit) (IH _ _ _ _ _ _ _ _ _ _ _ _ H hcx S h) fun v σ₁ v' s₁ hv S₁ hs hq => ?_) (starEach_plain hp.1)
      refine args_cons ?_ rfl
      refine bltName H.evk hkb hdb S₁ H.fm.X H.fm.T hb3 PySem.Pv.boot_bool (by decide) (args_nil ?_)
      exact wpAny_mono (isi_sound hv hq.1 S₁ hq.2) (fun v s' r => r.trans hs) fun _ _ e => e
  · rw [if_neg hf] at h hc
    obtain ⟨hc, hcf⟩ := Bool.and_eq_true_iff.mp hc
    by_cases hfb : f ∈ bltNames
    · rw [if_pos hfb] at h
      have hns := beq_iff_eq.mp (List.all_eq_true.mp hb1 f hfb)
      obtain ⟨hboot, hnn⟩ := bltVal_boot f hfb
      refine bltName H.evk hk hd S H.fm.X H.fm.T hns hboot hnn ?_
      have go : ∀ fv, fv = bltVal f → wpAny (model prog w) A (evalArgs fv true (backTo pos (starEach args ev)) []) (fun a s₁ => wpAny (model prog w) A (call fv ([] ++ a.pos) a.kw) (Res prog w K h₀ L m priv Q s) NoE s₁) NoE s := by
        rintro fv rfl
        refine evalArgs_all hp (wpAny_mono (evL_sound IH H hc hp S h) (fun vs s₁ r => ?_) fun _ _ e => e)
        revert r; refine o2_4 fun xs σ₁ hvs S₁ hs hq => ?_
        exact wpAny_mono (blt_sound H.un H.fm.T.nolimit H.fm.hh hvs S₁ hq) (fun v s' r => r.trans hs) fun _ _ e => e
      have hcase : (∃ i, bltVal f = .builtin i) ∨ ∃ i, bltVal f = .type i := by
        unfold bltVal
        repeat' (first | (split; · exact .inl ⟨_, rfl⟩) | (split; · exact .inr ⟨_, rfl⟩))
        exact .inr ⟨_, rfl⟩
      rcases hcase with ⟨i, e⟩ | ⟨i, e⟩
      · rw [e]; exact callWith_builtin (starEach_any hp) (go _ e.symm)
      · rw [e]; exact PyProof.Rows.callWith_type (starEach_any hp) (go _ e.symm)
    · rw [if_neg hfb] at h
      have hin : f ∈ fnNames := by
        rcases Bool.or_eq_true_iff.mp hcf with h1 | h1
        · exact absurd (of_decide_eq_true h1) hfb
        · exact of_decide_eq_true h1
      have hK := List.all_eq_true.mp hfn f hin
      refine o1_2 (fun a hns hK => ?_) (isRefK_inv hK)
      · refine globName H.evk hk hd S H.fm.X H.fm.T hns ?_
        refine callWith_of (P := K.In) (by rw [starEach_any hp]; rfl) (keeps_K hK) (evalArgs_all hp (wpAny_mono (evL_sound IH H hc hp S h) (fun vs s₁ r => ?_) fun _ _ e => e))
        obtain ⟨xs, σ₁, hvs, S₁, hs, b, hb', hcall⟩ := r
        rw [hns] at hb'; cases hb'
        exact ⟨H.fm.X.keeps S₁.fr.keep, wpAny_mono (hcall _ _ _ _ _ _ _ _ H.fm S₁ hvs) (fun v s' r => r.trans hs) fun _ _ e => e⟩
end

end

section
open PyProof.Rows.LCg

section
variable {prog : Program} {w : World} {K : Frag} {p : Program} {loose : List Str} {mean : ExcName → Option Value} {mg mb : Str → Option Value} {lv : Nat}
variable {h₀ : Heap} {L : Addr} {A : Around} {fe ev : Env} {m : Str → Option Value} {priv : List (Addr × Obj)} {ρ : AEnv} {σ : Store} {s s₁ : Shared} {Q : PE} {E : Value → Shared → Prop}
variable {rec : RE} {recT : RT} {chk : KO → Expr → Bool}

theorem meth_list {x : Str} {i : String} {a : Addr} {vs : List V} {vals : List Value} (hv : VRs vs vals) (S : St prog w K h₀ L m priv σ s.heap) 
    (hx : (x = "pop" ∧ i = "list.pop") ∨ (x = "append" ∧ i = "list.append") ∨ (x = "extend" ∧ i = "list.extend")) (h : methW x (.ref a) vs σ Q) :
    wpAny (model prog w) A (call (.builtin i) (.ref a :: vals)) (Res prog w K h₀ L m priv Q s) E s := by
  unfold methW at h
  rcases hx with ⟨rfl, rfl⟩ | ⟨rfl, rfl⟩ | ⟨rfl, rfl⟩
  · split at h
    · rw [if_pos rfl] at h
      obtain rfl := hv.nil_inv
      refine o2_3 (fun b ys e hb h2 => ?_) (listW_inv h)
      cases e
      refine o1_2 (fun y hy h2 => ?_) (optW_inv h2)
      have e2 : ys = ys.dropLast ++ [y] := by
        have hne : ys ≠ [] := by rintro rfl; simp at hy
        rw [List.getLast?_eq_some_getLast hne] at hy
        cases hy
        exact (List.dropLast_concat_getLast hne).symm
      rw [e2] at hb
      exact op_pop S hb h2
    · rw [if_neg (by decide), if_neg (by decide), if_neg (by decide)] at h; exact h.elim
    · exact h.elim
  · split at h
    · rw [if_neg (by decide)] at h; exact h.elim
    · rw [if_pos rfl] at h
      refine o2_3 (fun v' r rf2_ hv1 hr => ?_) (hv.cons_inv); subst rf2_
      obtain rfl := hr.nil_inv
      refine o2_4 (fun b ys e hb h1 h2 => ?_) (listW_inv h)
      cases e
      exact op_append S hb hv1 h1 h2
    · exact h.elim
  · split at h
    · rw [if_neg (by decide)] at h; exact h.elim
    · rw [if_neg (by decide), if_pos rfl] at h
      refine o2_3 (fun v' r rf2_ hv1 hr => ?_) (hv.cons_inv); subst rf2_
      obtain rfl := hr.nil_inv
      refine o2_3 (fun b ys e hb h1 => ?_) (listW_inv h)
      cases e
      obtain ⟨c, zs, rfl, hc, ⟨h2, h3, h4⟩, h5⟩ := listW_inv h1
      obtain rfl := hv1.ref_inv
      exact op_extend S hb hc h2 h3 h4 h5
    · exact h.elim
theorem meth_dict {a : Addr} {vs : List V} {vals : List Value} (hu : A.units ≤ 5000) (hh : A.handled = none) (hv : VRs vs vals) (S : St prog w K h₀ L m priv σ s.heap) (h : methW "update" (.ref a) vs σ Q) :
    wpAny (model prog w) A (call (.builtin "dict.update") (.ref a :: vals)) (Res prog w K h₀ L m priv Q s) E s := by
  unfold methW at h
  split at h
  · rw [if_neg (by decide)] at h; exact h.elim
  · rw [if_neg (by decide), if_neg (by decide), if_pos rfl] at h
    refine o2_3 (fun v' r rf2_ hv1 hr => ?_) (hv.cons_inv); subst rf2_
    obtain rfl := hr.nil_inv
    refine o1_2 (fun b e h2 => ?_) (refW_inv h)
    cases e
    refine o1_2 (fun c e h3 => ?_) (refW_inv h2)
    subst e
    obtain rfl := hv1.ref_inv
    cases q : σ a with
    | none => rw [q] at h3; exact h3.elim
    | some o =>
      cases q2 : σ c with
      | none => rw [q, q2] at h3; cases o <;> exact h3.elim
      | some o2 =>
        cases o <;> cases o2 <;> (rw [q, q2] at h3; try exact h3.elim)
        exact op_dictUpdate S q q2 h3.1.1 h3.1.2 h3.2
  · exact h.elim

theorem call_meth (IH : SE prog w K p loose mean mg mb lv rec chk) (H : Hr K p loose mean mg mb lv h₀ L A fe ev m priv ρ) {x : Str} {o : Expr} {args : List Expr} {apos pos : Pos}
    (ho : chk ev.kindOf o = true) (hb : baseOk o = true) (hc : args.all (chk ev.kindOf) = true) (hp : args.all plainArg = true) (hl : (apos.endLine == pos.line) = true) (hn : args.length < 10)
    (S : St prog w K h₀ L m priv σ s.heap) (h : rec o ρ σ fun ov σ₁ => methOk x ov σ₁ ∧ evL rec args ρ σ₁ fun vs σ₂ => methW x ov vs σ₂ Q) :
    wpAny (model prog w) A (eval (.Call (.Attribute o x apos) args [] pos) ev) (Res prog w K h₀ L m priv Q s) NoE s := by
  have hfew : ((backTo pos (starEach args ev)).all (fun x => !x.1) && (backToKw pos (keywordEach [] ev)).all (fun x => x.1.isSome) && decide (args.length + ([] : List Keyword).length + (if ([] : List Keyword).isEmpty then 0 else 1) < 30)) = true := by
    rw [starEach_all hp]
    simp only [Bool.true_and, Bool.and_eq_true]
    refine ⟨rfl, decide_eq_true ?_⟩
    simp; omega
  rw [arm_eval_Call, baseOk_of hb]
  refine wpAny_bind (thenE (α := Unit) (IH _ _ _ _ _ _ _ _ _ _ _ _ H ho S h) fun ov σ₁ ovv s₁ hv S₁ hs hq => ?_)
  obtain ⟨hm, hq⟩ := hq
  refine wpAny_bind (wpAny_standAt ?_)
  refine o1_2 (fun a e hm2 => ?_) (refW_inv hm)
  subst e
  obtain rfl := hv.ref_inv
  have hform : methodCallForm (args.length + ([] : List Keyword).length) (backTo pos (starEach args ev)) (backToKw pos (keywordEach [] ev)) = true := hfew
  have hpos : methodCallPos true o ev apos pos = pure pos := by unfold methodCallPos; simp [hl]
  unfold methodCall
  rw [hform]
  have rest : ∀ i : String, (∀ vs vals (σ₂ : Store) (s₂ : Shared), VRs vs vals → St prog w K h₀ L m priv σ₂ s₂.heap → methW x (.ref a) vs σ₂ Q → wpAny (model prog w) A (call (.builtin i) (.ref a :: vals)) (Res prog w K h₀ L m priv Q s₂) NoE s₂) →
      wpAny (model prog w) A (callWith pos (.builtin i) [.ref a] (backTo pos (starEach args ev)) []) (Res prog w K h₀ L m priv Q s) NoE s₁ := by
    intro i hi
    refine callWith_builtin (starEach_any hp) (evalArgs_all hp (wpAny_mono (evL_sound IH H hc hp S₁ hq) (fun vs s₂ r => ?_) fun _ _ e => e))
    revert r; refine o2_4 fun xs σ₂ hvs S₂ hs₂ hq₂ => ?_
    exact wpAny_mono (hi xs vs σ₂ s₂ hvs S₂ hq₂) (fun v s' r => r.trans (hs.trans hs₂)) fun _ _ e => e
  cases q : σ₁ a with
  | none => rw [q] at hm2; exact hm2.elim
  | some oo =>
    cases oo <;> (rw [q] at hm2; try exact hm2.elim)
    · refine o1_3 (fun news F N D => ?_) (id S₁)
      obtain ⟨ow, hrep⟩ := D.rep
      obtain ⟨_, vs, n, m1, _, _⟩ := hrep a _ q
      have hg := (N _ (List.mem_append_right _ m1)).1
      rcases hm2 with rfl | rfl | rfl
      · refine wpAny_bind (wpAny_holding (getMethod_builtin ⟨_, hg, rfl⟩ PySem.F.plainAttrs_list PySem.F.slot_list_pop PySem.F.type_list_pop (fun b e => by cases e; exact ⟨_, hg, rfl⟩) ?_))
        exact wpAny_bind (wpAny_of_eq hpos (rest _ fun vs vals σ₂ s₂ hv S₂ h => meth_list hv S₂ (.inl ⟨rfl, rfl⟩) h))
      · refine wpAny_bind (wpAny_holding (getMethod_builtin ⟨_, hg, rfl⟩ PySem.F.plainAttrs_list PySem.F.slot_list_append PySem.F.type_list_append (fun b e => by cases e; exact ⟨_, hg, rfl⟩) ?_))
        exact wpAny_bind (wpAny_of_eq hpos (rest _ fun vs vals σ₂ s₂ hv S₂ h => meth_list hv S₂ (.inr (.inl ⟨rfl, rfl⟩)) h))
      · refine wpAny_bind (wpAny_holding (getMethod_builtin ⟨_, hg, rfl⟩ PySem.F.plainAttrs_list PySem.F.slot_list_extend PySem.F.type_list_extend (fun b e => by cases e; exact ⟨_, hg, rfl⟩) ?_))
        exact wpAny_bind (wpAny_of_eq hpos (rest _ fun vs vals σ₂ s₂ hv S₂ h => meth_list hv S₂ (.inr (.inr ⟨rfl, rfl⟩)) h))
    · subst hm2
      refine o1_3 (fun news F N D => ?_) (id S₁)
      obtain ⟨ow, hrep⟩ := D.rep
      obtain ⟨_, od, vs, m1, ⟨es, hex, _⟩, _⟩ := hrep a _ q
      have hg := (N _ (List.mem_append_right _ m1)).1
      refine wpAny_bind (wpAny_holding (getMethod_builtin ⟨_, hg, hex.1⟩ PySem.F.plainAttrs_dict PySem.F.slot_dict_update PySem.F.type_dict_update (fun b e => by cases e; exact ⟨_, hg, hex.2.1⟩) ?_))
      exact wpAny_bind (wpAny_of_eq hpos (rest _ fun vs vals σ₂ s₂ hv S₂ h => meth_dict H.un H.fm.hh hv S₂ h))

end

end

section
open PyProof.Rows.LCg

section
variable {prog : Program} {w : World} {K : Frag} {p : Program} {loose : List Str} {mean : ExcName → Option Value} {mg mb : Str → Option Value} {lv : Nat}
variable {h₀ h h' : Heap} {L : Addr} {A : Around} {fe ev : Env} {m : Str → Option Value} {priv pre post : List (Addr × Obj)} {ρ : AEnv} {σ : Store} {s s₁ : Shared} {Q : PE} {E : Value → Shared → Prop}
variable {rec : RE} {recT : RT} {chk : KO → Expr → Bool}

theorem call_range {n : Int} {t : Tok} {P : Value → Shared → Prop} (S : St prog w K h₀ L m priv σ s.heap) (hn : 0 ≤ n ∧ n ≤ bigN)
    (h : ∀ v s', St prog w K h₀ L m priv σ s'.heap → Same s s' → wpAny (model prog w) A (pyIter v) (fun it s₂ => ∃ I oI, it = .ref I ∧ ItAt none n.toNat 0 oI ∧ St prog w K h₀ L m ((I, oI) :: priv) σ s₂.heap ∧ Same s s₂ ∧ ∀ p ∈ priv, p.1 ≠ I) E s' → P v s') :
    wpAny (model prog w) A (call (.type "range") [.int n t]) P E s := by
  refine call_range_1 ?_
  have k : ∀ b o, s.heap.get? b = some o → (s.heap.push { cls := .type "range", data := .fields #[.int 0 s.toks, .int n t, .int 1 (s.toks + 1)] }).get? b = some o := fun b o e => Heap.get?_push_of_some _ e
  have S₁ := S.grown k
  refine h _ _ S₁ ⟨_, _, rfl⟩ (wpAny_pyIter_range (IsRange.new ..) (small_one (by decide) (by decide) (by omega) (by unfold bigN at hn; omega)) ?_)
  refine ⟨_, _, rfl, ?_, S₁.pushPriv rfl, ⟨_, _, rfl⟩, fun p hp => Nat.ne_of_lt (S₁.lt hp)⟩
  show _ = _
  rw [rangeSize_nat]
  simp [Int.sub_zero]
end

end

section
open PyProof.Rows.LCg

section steps
variable {prog : Program} {w : World} {A : Around} {R : Result → Shared → Prop} {s : Shared} {env : Env}

theorem whileStep_own {test : Expr} {body : List Stmt}
    (h : wpAny (model prog w) A (isTrue test env (eval test env)) (fun b s₂ => if b then wpAny (model prog w) A (execs body env) (fun f s₃ => match f with
        | .next | .cont => codeAny (model prog w) A (.whileLoop test body [] env) R s₃
        | .brk => R (.ok .next) s₃
        | .ret v => R (.ok (.ret v)) s₃) NoE s₂ else R (.ok .next) s₂) NoE s) : codeAny (model prog w) A (.whileLoop test body [] env) R s := by
  refine codeAny_of_tree ?_
  show wpAny _ A ((whileTurn test body [] env).onRaise (fun x => do noteFrame x env; theTreesLotGoes x)) _ _ s
  refine wpAny_noted ?_
  simp only [whileTurn]
  refine wpAny_bind (wpAny_mono h (fun b s₂ h₂ => ?_) fun _ _ e => e.elim)
  cases b with
  | false =>
    simp only [Bool.false_eq_true, if_false] at h₂ ⊢
    exact wpAny_bind (wpAny_execs_nil (wpAny_pure h₂))
  | true =>
    simp only [if_true] at h₂ ⊢
    refine wpAny_bind (wpAny_mono h₂ (fun f s₃ h₃ => ?_) fun _ _ e => e.elim)
    cases f with
    | next => exact wpAny_pure ⟨rfl, h₃⟩
    | cont => exact wpAny_pure ⟨rfl, h₃⟩
    | brk => exact wpAny_pure h₃
    | ret v => exact wpAny_pure h₃

theorem forStep_own {target : Expr} {it : Value} {body : List Stmt}
    (h : wpAny (model prog w) A (pyNext it) (fun r s₁ => match r with
      | none => R (.ok .next) s₁
      | some v => wpAny (model prog w) A (letOwnedTupleGo target it v) (fun _ s₁' => wpAny (model prog w) A (assign target env v) (fun _ s₂ => wpAny (model prog w) A (execs body env) (fun f s₃ => match f with
          | .next | .cont => codeAny (model prog w) A (.forLoop target it body [] env) R s₃
          | .brk => R (.ok .next) s₃
          | .ret v => R (.ok (.ret v)) s₃) NoE s₂) NoE s₁') NoE s₁) NoE s) : codeAny (model prog w) A (.forLoop target it body [] env) R s := by
  refine codeAny_of_tree ?_
  show wpAny _ A ((forTurn target it body [] env).onRaise (fun x => do noteFrame x env; theTreesLotGoes x)) _ _ s
  refine wpAny_noted ?_
  simp only [forTurn]
  refine wpAny_bind (wpAny_standAt (wpAny_bind (wpAny_onRaise (wpAny_mono h (fun r s₁ h₁ => ?_) fun _ _ e => e.elim))))
  cases r with
  | none => exact wpAny_pure ⟨rfl, codeAny_block (wpAny_execs_nil h₁)⟩
  | some v =>
    refine wpAny_bind (wpAny_mono h₁ (fun _ s₁' h₁' => ?_) fun _ _ e => e.elim)
    refine wpAny_bind (wpAny_mono h₁' (fun _ s₂ h₂ => wpAny_bind (wpAny_mono h₂ (fun f s₃ h₃ => ?_) fun _ _ e => e.elim)) fun _ _ e => e.elim)
    cases f with
    | next => exact wpAny_pure ⟨rfl, h₃⟩
    | cont => exact wpAny_pure ⟨rfl, h₃⟩
    | brk => exact wpAny_pure h₃
    | ret v => exact wpAny_pure h₃

theorem compStep_own {elt target iter : Expr} {ifs : List Expr} {scope : Scope} {pos : Pos} {it acc : Value}
    (h : wpAny (model prog w) A (pyNext it) (fun r s₁ => match r with
      | none => R (.ok .next) s₁
      | some v => wpAny (model prog w) A (letOwnedTupleGo target it v) (fun _ s₁' => wpAny (model prog w) A (assign target env v) (fun _ s₂ =>
          wpAny (model prog w) A (forIn ifs true fun c r => if r = true then do let ok ← isTrue c env (eval c env); pure (ForInStep.yield ok) else pure (ForInStep.yield r)) (fun ok s₃ =>
            if ok = true then wpAny (model prog w) A (eval elt env) (fun x s₄ =>
              wpAny (model prog w) A (call (.builtin "list.append") [acc, x]) (fun _ s₅ => codeAny (model prog w) A (.compLoop (.ListComp elt [⟨target, iter, ifs, 0⟩] scope pos) 0 it acc env) R s₅) NoE s₄) NoE s₃
            else codeAny (model prog w) A (.compLoop (.ListComp elt [⟨target, iter, ifs, 0⟩] scope pos) 0 it acc env) R s₃) NoE s₂) NoE s₁') NoE s₁) NoE s) :
    codeAny (model prog w) A (.compLoop (.ListComp elt [⟨target, iter, ifs, 0⟩] scope pos) 0 it acc env) R s := by
  refine codeAny_of_tree ?_
  show wpAny _ A ((compTurn (.ListComp elt [⟨target, iter, ifs, 0⟩] scope pos) 0 it acc env).onRaise (fun x => do noteFrame x env; theTreesLotGoes x)) _ _ s
  refine wpAny_noted ?_
  rw [compTurn_list]
  refine wpAny_bind (wpAny_standAt (wpAny_bind (wpAny_mono h (fun r s₁ h₁ => ?_) fun _ _ e => e.elim)))
  cases r with
  | none => exact wpAny_pure h₁
  | some v =>
    refine wpAny_bind (wpAny_mono h₁ (fun _ s₁' h₁' => ?_) fun _ _ e => e.elim)
    refine wpAny_bind (wpAny_mono h₁' (fun _ s₂ h₂ => wpAny_bind (wpAny_mono h₂ (fun ok s₃ h₃ => ?_) fun _ _ e => e.elim)) fun _ _ e => e.elim)
    cases ok with
    | false => exact wpAny_pure ⟨rfl, h₃⟩
    | true =>
      exact wpAny_bind (wpAny_bind (wpAny_mono h₃ (fun x s₄ h₄ => wpAny_bind (wpAny_mono h₄ (fun _ s₅ h₅ => wpAny_pure (wpAny_pure ⟨rfl, h₅⟩)) fun _ _ e => e.elim)) fun _ _ e => e.elim))
end steps

section
variable {prog : Program} {w : World} {K : Frag} {p : Program} {loose : List Str} {mean : ExcName → Option Value} {mg mb : Str → Option Value} {lv : Nat}
variable {h₀ h h' : Heap} {L : Addr} {A : Around} {fe ev : Env} {m : Str → Option Value} {priv pre post : List (Addr × Obj)} {ρ : AEnv} {σ : Store} {s s₁ : Shared} {Q : PE} {E : Value → Shared → Prop}
variable {rec : RE} {recT : RT} {chk : KO → Expr → Bool}

theorem letOwned {t : Expr} {I : Addr} {v : Value} {oI : Obj} {src : Option (Addr × O)} {n i : Nat} {P : Unit → Shared → Prop} (hg : s.heap.get? I = some oI) (hI : ItAt src n i oI) (h : P () s) :
    wpAny (model prog w) A (letOwnedTupleGo t (.ref I) v) P E s := by
  have hc : ∃ T vs, oI.cls = .type T ∧ oI.data = .fields vs ∧ T ∈ ["range_iterator", "list_iterator", "tuple_iterator", "dict_keyiterator"] := by
    match src with
    | none => subst hI; exact ⟨_, _, rfl, rfl, by decide⟩
    | some (a, .list xs) => exact ⟨_, _, hI.1, hI.2, by decide⟩
    | some (a, .tup xs) => exact ⟨_, _, hI.1, hI.2, by decide⟩
    | some (a, .dict kvs ep) => exact ⟨_, _, hI.1, hI.2, by decide⟩
  revert hc; refine o2_3 fun T vs h1 h2 h3 => ?_
  have go : ∀ es c p (a : Addr), wpAny (model prog w) A (letOwnedTupleGo (.Tuple es c p) (.ref I) (.ref a)) P E s := by
    intro es c p a
    refine wpAny_bind (wpAny_load hg ?_)
    rw [h1, h2]
    simp only [List.mem_cons, List.not_mem_nil, or_false] at h3
    rcases h3 with rfl | rfl | rfl | rfl <;> exact wpAny_pure h
  cases t <;> first | exact wpAny_pure h | (cases v <;> first | exact wpAny_pure h | exact go [] 0 default _)

theorem assignEach_plain {ok : Str → Bool} {n : Nat} {ts : List Expr} (h : ts.all (tgtOk ok n) = true) : assignEach ts ev = ts.map fun t => (false, assign t ev) := by
  induction ts with
  | nil => rfl
  | cons t ts ih =>
    rw [List.all_cons, Bool.and_eq_true] at h
    have e : assignEach (t :: ts) ev = (false, assign t ev) :: assignEach ts ev := by
      cases t <;> first | rfl | (cases n <;> cases h.1)
    rw [e, ih h.2]; rfl

theorem asg_sound {ok : Str → Bool} {J : AEnv → Shared → Prop} (hh : A.handled = none)
    (hst : ∀ x V v ρ s, ok x = true → VR V v → J ρ s → wpAny (model prog w) A (storeName ev x v) (fun _ s' => J (setE x V ρ) s' ∧ Same s s') NoE s)
    (hgr : ∀ ρ s h', J ρ s → (∀ b o, s.heap.get? b = some o → h'.get? b = some o) → J ρ { s with heap := h' })
    (hrd : ∀ ρ s, J ρ s → ∃ h₀ L m priv, St prog w K h₀ L m priv σ s.heap) :
    ∀ n t V v ρ s k, tgtOk ok n t = true → asgW n t V ρ σ k → J ρ s → VR V v → wpAny (model prog w) A (assign t ev v) (fun _ s' => ∃ ρ', J ρ' s' ∧ Same s s' ∧ k ρ') NoE s := by
  intro n
  induction n with
  | zero => intro t V v ρ s k ht; cases t <;> cases ht
  | succ n ih =>
    intro t V v ρ s k ht ha hJ hv
    cases t <;> first | exact ns ht | exact ft ht | (cases ht; done) | skip
    · rename_i x pos
      refine wpAny_assign_Name (wpAny_mono (hst x V v ρ s ht hv hJ) (fun _ s' r => ⟨_, r.1, r.2, ha⟩) fun _ _ e => e)
    · rename_i ts k' pos
      refine o1_2 (fun a e h2 => ?_) (refW_inv ha)
      subst e
      obtain rfl := hv.ref_inv
      cases q : σ a with
      | none => rw [q] at h2; exact h2.elim
      | some o =>
        cases o <;> (rw [q] at h2; try exact h2.elim)
        rename_i xs
        refine o4_1 (fun h₀ L m priv S => ?_) (hrd ρ s hJ)
        refine o1_3 (fun vs hl hvs _ => ?_) (S.isTup q)
        have hall : ts.all (tgtOk ok n) = true := ht
        obtain ⟨hlen, h2⟩ := h2
        have hlist : ∀ (ts : List Expr) (xs : List V) (vs : List Value) (ρ : AEnv) (s : Shared), ts.all (tgtOk ok n) = true → asgL (asgW n) ts xs ρ σ k → VRs xs vs → J ρ s →
            wpAny (model prog w) A (assignInOrder (ts.map fun t => assign t ev) vs) (fun _ s' => ∃ ρ', J ρ' s' ∧ Same s s' ∧ k ρ') NoE s := by
          intro ts
          induction ts with
          | nil =>
            intro xs vs ρ s _ h hv hJ
            cases xs with
            | nil => exact assignInOrder_nil ⟨ρ, hJ, .refl _, h⟩
            | cons _ _ => exact h.elim
          | cons t ts ihl =>
            intro xs vs ρ s hall h hv hJ
            cases xs with
            | nil => exact h.elim
            | cons x xs =>
              refine o2_3 (fun v r rf2_ hx hr => ?_) (hv.cons_inv); subst rf2_
              rw [List.all_cons, Bool.and_eq_true] at hall
              refine assignInOrder_cons (wpAny_mono (ih t x v ρ s _ hall.1 h hJ hx) (fun _ s₁ r => ?_) fun _ _ e => e)
              revert r; refine o1_3 fun ρ₁ hJ₁ hs₁ hk => ?_
              refine wpAny_mono (ihl xs _ ρ₁ s₁ hall.2 hk hr hJ₁) (fun _ s₂ r => ?_) fun _ _ e => e
              revert r; refine o1_3 fun ρ₂ hJ₂ hs₂ hk₂ => ?_
              exact ⟨ρ₂, hJ₂, hs₁.trans hs₂, hk₂⟩
        have hae := assignEach_plain (ev := ev) hall
        refine assign_Tuple_tuple hh hl ?_ ?_ fun h' he => ?_
        · rw [hae, List.length_map, hlen, ← hvs.length, Array.length_toList]
        · rw [hae, List.findIdx?_map]
          exact List.findIdx?_eq_none_iff.mpr fun _ _ => rfl
        · rw [hae, List.map_map]
          refine wpAny_mono (hlist ts xs vs.toList ρ _ hall h2 hvs (hgr ρ s h' hJ fun b o e => he b o (fun q => absurd (Heap.lt_size e) (by rw [q]; exact Nat.lt_irrefl _)) e)) (fun _ s₂ r => ?_) fun _ _ e => e
          revert r; refine o1_3 fun ρ₂ hJ₂ hs₂ hk₂ => ?_
          exact ⟨ρ₂, hJ₂, Same.trans ⟨_, _, rfl⟩ hs₂, hk₂⟩
end

end

section
open PyProof.Rows.LCg

section
variable {prog : Program} {w : World} {K : Frag} {p : Program} {loose : List Str} {mean : ExcName → Option Value} {mg mb : Str → Option Value} {lv : Nat}
variable {h₀ h h' : Heap} {L : Addr} {A : Around} {fe ev : Env} {m : Str → Option Value} {priv pre post : List (Addr × Obj)} {ρ : AEnv} {σ : Store} {s s₁ : Shared} {Q : PE} {E : Value → Shared → Prop}
variable {rec : RE} {recT : RT} {chk : KO → Expr → Bool}

theorem rangeL_items (n : Int) : rangeL n = itemsOf none n.toNat := rfl

theorem src_sound (IH : SE prog w K p loose mean mg mb lv rec chk) (H : Hr K p loose mean mg mb lv h₀ L A fe ev m priv ρ) (hb : bltFree K = true) {it : Expr} {k : List V → Option (Addr × O) → Store → Prop}
    (hc : chkI chk ev.kindOf it = true) (S : St prog w K h₀ L m priv σ s.heap) (h : srcW rec it ρ σ k) :
    wpAny (model prog w) A (eval it ev) (fun x s₁ => wpAny (model prog w) A (pyIter x) (fun itv s₂ => ∃ I oI src n σ', itv = .ref I ∧ n = (itemsOf src n).length ∧ n ≤ bigN ∧ ItAt src n 0 oI ∧ stillW src σ' ∧
      St prog w K h₀ L m ((I, oI) :: priv) σ' s₂.heap ∧ Same s s₂ ∧ (∀ p ∈ priv, p.1 ≠ I) ∧ k (itemsOf src n) src σ') NoE s₁) NoE s := by
  have gen : (chk ev.kindOf it = true) → rec it ρ σ (fun v σ₁ => srcOf σ₁ v fun xs o => k xs o σ₁) → wpAny (model prog w) A (eval it ev) (fun x s₁ => wpAny (model prog w) A (pyIter x) (fun itv s₂ => ∃ I oI src n σ', itv = .ref I ∧ n = (itemsOf src n).length ∧ n ≤ bigN ∧ ItAt src n 0 oI ∧ stillW src σ' ∧
      St prog w K h₀ L m ((I, oI) :: priv) σ' s₂.heap ∧ Same s s₂ ∧ (∀ p ∈ priv, p.1 ≠ I) ∧ k (itemsOf src n) src σ') NoE s₁) NoE s := by
    intro hc h
    refine thenE (α := Unit) (IH _ _ _ _ _ _ _ _ _ _ _ _ H hc S h) fun x σ₁ v s₁ hv S₁ hs hq => ?_
    refine wpAny_mono (it_start hv S₁ hq) (fun itv s₂ r => ?_) fun _ _ e => e
    obtain ⟨I, oI, src, rfl, hI, hbg, hst, ⟨y, rfl⟩, S₂, hs₂, hne, hk⟩ := r
    have e : ∀ n, itemsOf (some y) n = itemsOf (some y) 0 := fun n => by obtain ⟨a, o⟩ := y; cases o <;> rfl
    exact ⟨I, oI, some y, (itemsOf (some y) 0).length, σ₁, rfl, (congrArg List.length (e _)).symm, hbg, hI, hst, S₂, hs.trans hs₂, hne, by rw [e]; exact hk⟩
  unfold srcW at h
  unfold chkI at hc
  cases hr : rangeOf it with
  | none => rw [hr] at h hc; exact gen hc h
  | some x =>
      rw [hr] at h hc
      refine o2_1 (fun fp cp rf2_ => ?_) (rangeOf_inv hr); subst rf2_
      dsimp only at hc
      simp only [Bool.and_eq_true, beq_iff_eq, Bool.not_eq_true'] at hc
      obtain ⟨⟨⟨hk, hd⟩, hcx⟩, hpx⟩ := hc
      have hns : nsIn K mainGlobals "range" = some none := by
        unfold bltFree at hb
        simp only [Bool.and_eq_true, beq_iff_eq] at hb
        exact hb.2
      refine Call_ ?_ rfl
      refine bltName H.evk hk hd S H.fm.X H.fm.T hns boot_range (by decide) ?_
      have hp : [x].all plainArg = true := by simp [hpx]
      refine PyProof.Rows.callWith_type (starEach_any hp) (evalArgs_all hp ?_)
      refine args_cons (thenE (α := Unit) (IH _ _ _ _ _ _ _ _ _ _ _ _ H hcx S h) fun v σ₁ v' s₁ hv S₁ hs hq => ?_) (starEach_plain hpx)
      refine args_nil ?_
      obtain ⟨n, rfl, hn, hq⟩ := intW_inv hq
      obtain ⟨t, rfl⟩ := hv
      refine call_range S₁ hn fun v s₂ S₂ hs₂ hit => ?_
      refine wpAny_mono hit (fun itv s₃ r => ?_) fun _ _ e => e
      obtain ⟨I, oI, rfl, hI, S₃, hs₃, hne⟩ := r
      exact ⟨I, oI, none, n.toNat, σ₁, rfl, by simp [itemsOf], by omega, hI, trivial, S₃, hs.trans hs₃, hne, hq⟩


noncomputable def EnvC (cv : Env) (mc : Str → Option Value) (priv : List (Addr × Obj)) (ρ : AEnv) : Prop :=
  ∀ x V, ρ x = some V → ∃ v, VR V v ∧ ((cv.kindOf x = some .local ∧ mc x = some v) ∨ ((cv.kindOf x = some .cell ∨ cv.kindOf x = some .free) ∧ ∃ c o, cv.cells.lookup x = some c ∧ (c, o) ∈ priv ∧ o.data = .cell (some v)))
theorem EnvC.toR {cv : Env} {mc : Str → Option Value} {oC : Obj} {priv' : List (Addr × Obj)} (h : EnvC cv mc priv ρ) (hC : (cv.locals, oC) ∈ priv') (ho : NsObj oC mc) (hs : ∀ p ∈ priv, p ∈ priv') : EnvR cv L m priv' ρ := by
  intro x V e
  obtain ⟨v, hv, h | ⟨h1, c, o, h2, h3, h4⟩⟩ := h x V e
  · exact ⟨v, hv, .inr (.inl ⟨h.1, oC, mc, hC, ho, h.2⟩)⟩
  · exact ⟨v, hv, .inr (.inr ⟨h1, c, o, h2, hs _ h3, h4⟩)⟩

theorem tests_sound (IHT : STT prog w K p loose mean mg mb lv recT chk) (H : Hr K p loose mean mg mb lv h₀ L A fe ev m priv ρ) : ∀ {es : List Expr} {σ : Store} {s : Shared} {Q : Bool → Store → Prop}, es.all (chk ev.kindOf) = true →
    St prog w K h₀ L m priv σ s.heap → testsW recT es ρ σ Q →
    wpAny (model prog w) A (forIn es true fun c r => if r = true then do let ok ← isTrue c ev (eval c ev); pure (ForInStep.yield ok) else pure (ForInStep.yield r)) (ResB prog w K h₀ L m priv Q s) NoE s
  | [], σ, s, Q, _, S, h => wpAny_pure ⟨σ, S, .refl _, h⟩
  | e :: es, σ, s, Q, hc, S, h => by
    rw [List.all_cons, Bool.and_eq_true] at hc
    have stop : ∀ (l : List Expr) (s : Shared) (P : Bool → Shared → Prop), P false s → wpAny (model prog w) A (forIn l false fun c r => if r = true then do let ok ← isTrue c ev (eval c ev); pure (ForInStep.yield ok) else pure (ForInStep.yield r)) P NoE s := by
      intro l
      induction l with
      | nil => intro s P hp; exact wpAny_pure hp
      | cons c l ih =>
        intro s P hp
        rw [List.forIn_cons]
        exact wpAny_bind (wpAny_pure (ih s P hp))
    rw [List.forIn_cons]
    simp only [if_true]
    refine wpAny_bind (wpAny_bind (wpAny_mono (IHT _ _ _ _ _ _ _ _ _ _ _ _ H hc.1 S h) (fun b s₁ r => wpAny_pure ?_) fun _ _ e => e))
    revert r; refine o1_3 fun σ₁ S₁ hs hq => ?_
    cases b with
    | true => exact wpAny_mono (tests_sound IHT H hc.2 S₁ hq) (fun v s' r => r.trans hs) fun _ _ e => e
    | false => exact stop _ _ _ ⟨σ₁, S₁, hs, hq⟩

theorem St.appendPriv {I C D : Addr} {oI oC : Obj} {vs : List Value} {n : Nat} {v : Value} {P : Value → Shared → Prop} (S : St prog w K h₀ L m ((I, oI) :: (C, oC) :: (D, listOf vs.toArray n) :: priv) σ s.heap)
    (hID : I ≠ D) (hCD : C ≠ D) (hD : ∀ p ∈ priv, p.1 ≠ D) (hz : vs.length ≤ bigN)
    (h : ∀ s', St prog w K h₀ L m ((I, oI) :: (C, oC) :: (D, listOf (vs ++ [v]).toArray (n + 1)) :: priv) σ s'.heap → Same s s' → P .none s') :
    wpAny (model prog w) A (call (.builtin "list.append") [.ref D, v]) P E s := by
  revert S; refine o1_3 fun news F N D' => ?_
  have hnd : ∀ p ∈ priv ++ news, p.1 ≠ D := fun p hp => by
    rcases List.mem_append.mp hp with h | h
    · exact hD p h
    · intro e; exact D'.off p h (by rw [e]; simp)
  refine append_K (its := vs.toArray) (n := n) F N (.tail hID (.tail hCD (.head hnd))) (fun h' F' N' => h _ ⟨news, F', ?_, D'⟩ ⟨_, _, rfl⟩) (big_line (by simpa using hz))
  simpa using N'

theorem compLoop_sound (IH : SE prog w K p loose mean mg mb lv rec chk) (IHT : STT prog w K p loose mean mg mb lv recT chk) (fm : Fm K p loose mean mg mb h₀ L A fe lv) {cv : Env} {sc : Scope} {elt t it : Expr} {ifs : List Expr} {pos : Pos} {I D : Addr} {src : Option (Addr × O)} {n : Nat}
    (evk : EvOk cv) (hIC : I ≠ cv.locals) (hID : I ≠ D) (hCD : cv.locals ≠ D) (hpI : ∀ p ∈ priv, p.1 ≠ I) (hpC : ∀ p ∈ priv, p.1 ≠ cv.locals) (hpD : ∀ p ∈ priv, p.1 ≠ D)
    (ht : tgtOk (fun x => cv.kindOf x == some .local) 3 t = true) (hci : ifs.all (chk cv.kindOf) = true) (hce : chk cv.kindOf elt = true) (hn : n = (itemsOf src n).length) (hbn : n ≤ bigN) {s₀ : Shared} {R : Result → Shared → Prop}
    (hR : ∀ acc vs nD oC mc σ' s', NsObj oC mc → St prog w K h₀ L m ((cv.locals, oC) :: (D, listOf (List.toArray vs) nD) :: priv) σ' s'.heap → Same s₀ s' → VRs acc vs → acc.length ≤ bigN → newW σ' (.list acc) Q → R (.ok .next) s') :
    ∀ (xs : List V) (i : Nat) (ρ : AEnv) (σ : Store) (acc : List V) (oI oC : Obj) (mc : Str → Option Value) (vs : List Value) (nD : Nat) (s : Shared),
      (itemsOf src n).drop i = xs → i ≤ n → ItAt src n i oI → stillW src σ → NsObj oC mc → EnvC cv mc priv ρ → VRs acc vs → acc.length ≤ i →
      St prog w K h₀ L m ((I, oI) :: (cv.locals, oC) :: (D, listOf vs.toArray nD) :: priv) σ s.heap → Same s₀ s → compL rec recT elt t ifs src xs ρ σ acc Q →
      codeAny (model prog w) A (.compLoop (.ListComp elt [⟨t, it, ifs, 0⟩] sc pos) 0 (.ref I) (.ref D) cv) R s := by
  intro xs
  have hno : ∀ (oC oD : Obj), ∀ p ∈ (cv.locals, oC) :: (D, oD) :: priv, p.1 ≠ I := fun oC oD p hp => by
    rcases List.mem_cons.mp hp with rfl | hp
    · exact Ne.symm hIC
    rcases List.mem_cons.mp hp with rfl | hp
    · exact Ne.symm hID
    · exact hpI p hp
  induction xs with
  | nil =>
    intro i ρ σ acc oI oC mc vs nD s hd hi hI hst hns hen hv hl S hs h
    have hin : i = n := by
      have := congrArg List.length hd
      rw [List.length_drop, ← hn] at this
      simp at this; omega
    subst hin
    refine compStep_own (wpAny_mono (it_end (pre := []) fm.hh S (fun _ h => nomatch h) (hno _ _) hI hst hn) (fun r s₁ q => ?_) fun _ _ e => e)
    revert q; refine o0_3 fun rf0_ S₁ hs₁ => ?_; subst rf0_
    exact hR acc vs nD oC mc σ s₁ hns S₁ (hs.trans hs₁) hv (by omega) h
  | cons x xs ih =>
    intro i ρ σ acc oI oC mc vs nD s hd hi hI hst hns hen hv hl S hs h
    have hx : (itemsOf src n)[i]? = some x := by
      have := congrArg (fun l => l[0]?) hd
      simpa using this
    have hlt : i < n := by
      have := (List.getElem?_eq_some_iff.mp hx).1
      omega
    have hd' : (itemsOf src n).drop (i + 1) = xs := by
      have := congrArg List.tail hd
      simpa [List.tail_drop] using this
    refine compStep_own (wpAny_mono (it_next (pre := []) S (fun _ h => nomatch h) (hno _ _) hI hst hn hx) (fun r s₁ q => ?_) fun _ _ e => e)
    revert q; refine o2_5 fun v oI' rf2_ hvx hI' S₁ hs₁ => ?_; subst rf2_
    dsimp only
    refine letOwned (S₁.cell (.head _)) hI' ?_
    let J : AEnv → Shared → Prop := fun ρ s => ∃ oC mc, NsObj oC mc ∧ EnvC cv mc priv ρ ∧ St prog w K h₀ L m ((I, oI') :: (cv.locals, oC) :: (D, listOf vs.toArray nD) :: priv) σ s.heap
    refine wpAny_mono (asg_sound (ok := fun x => cv.kindOf x == some .local) (J := J) (σ := σ) (K := K) fm.hh ?_ ?_ ?_ 3 t x v ρ s₁ _ ht h ⟨oC, mc, hns, hen, S₁⟩ hvx) (fun _ s₂ r => ?_) fun _ _ e => e
    · rintro y V' v' ρ' s' hok hv' ⟨oC', mc', hns', hen', S'⟩
      have hk : cv.kindOf y = some .local := beq_iff_eq.mp hok
      refine wpAny_storeName_local hk (hns'.ns (S'.cell (.tail _ (.head _)))) (fun h' hn' hs' => ?_) (by rw [evk.kd]; rfl)
      refine o1_2 (fun oC'' ho'' hns'' => ?_) (ns_obj hn')
      refine ⟨⟨oC'', _, hns'', ?_, S'.setPriv (pre := [(I, oI')]) ?_ ?_ hs' ho''⟩, ⟨_, _, rfl⟩⟩
      · intro z V'' e
        unfold setE at e
        by_cases hz : z = y
        · rw [if_pos hz] at e; cases e
          subst hz
          exact ⟨v', hv', .inl ⟨hk, if_pos rfl⟩⟩
        · rw [if_neg hz] at e
          refine o1_2 (fun v'' hv'' hh => ?_) (hen' z V'' e)
          refine ⟨v'', hv'', hh.imp (fun q => ⟨q.1, (if_neg hz).trans q.2⟩) id⟩
      · intro p hp; cases List.mem_singleton.mp hp; exact hIC
      · intro p hp
        rcases List.mem_cons.mp hp with rfl | hp
        · exact Ne.symm hCD
        · exact hpC p hp
    · rintro ρ' s' h' ⟨oC', mc', hns', hen', S'⟩ hk
      exact ⟨oC', mc', hns', hen', S'.grown hk⟩
    · rintro ρ' s' ⟨oC', mc', hns', hen', S'⟩
      exact ⟨_, _, _, _, S'⟩
    obtain ⟨ρ₂, ⟨oC₂, mc₂, hns₂, hen₂, S₂⟩, hs₂, hq⟩ := r
    have H₂ : Hr K p loose mean mg mb lv h₀ L A fe cv m ((I, oI') :: (cv.locals, oC₂) :: (D, listOf vs.toArray nD) :: priv) ρ₂ :=
      ⟨fm, evk, hen₂.toR (.tail _ (.head _)) hns₂ fun p hp => .tail _ (.tail _ (.tail _ hp))⟩
    refine wpAny_mono (tests_sound IHT H₂ hci S₂ hq) (fun b s₃ r => ?_) fun _ _ e => e
    revert r; refine o1_3 fun σ₃ S₃ hs₃ hq₃ => ?_
    have hs03 : Same s₀ s₃ := ((hs.trans hs₁).trans hs₂).trans hs₃
    cases b with
    | false =>
      simp only [Bool.false_eq_true, if_false] at hq₃ ⊢
      exact ih (i + 1) ρ₂ σ₃ acc oI' oC₂ mc₂ vs nD s₃ hd' hlt hI' hq₃.1 hns₂ hen₂ hv (by omega) S₃ hs03 hq₃.2
    | true =>
      simp only [if_true] at hq₃ ⊢
      refine thenE (α := Unit) (IH _ _ _ _ _ _ _ _ _ _ _ _ H₂ hce S₃ hq₃) fun y σ₄ yv s₄ hy S₄ hs₄ hq₄ => ?_
      refine S₄.appendPriv hID hCD hpD (by rw [hv.length]; omega) fun s₅ S₅ hs₅ => ?_
      exact ih (i + 1) ρ₂ σ₄ (acc ++ [y]) oI' oC₂ mc₂ (vs ++ [yv]) (nD + 1) s₅ hd' hlt hI' hq₄.1 hns₂ hen₂ (hv.append (.cons hy .nil)) (by simp; omega) S₅ ((hs03.trans hs₄).trans hs₅) hq₄.2
end

end

section
open PyProof.Rows.LCg

section
variable {prog : Program} {w : World} {K : Frag} {p : Program} {loose : List Str} {mean : ExcName → Option Value} {mg mb : Str → Option Value} {lv : Nat}
variable {h₀ h h' : Heap} {L : Addr} {A : Around} {fe ev : Env} {m : Str → Option Value} {priv pre post : List (Addr × Obj)} {ρ : AEnv} {σ : Store} {s s₁ : Shared} {Q : PE} {E : Value → Shared → Prop}
variable {rec : RE} {recT : RT} {chk : KO → Expr → Bool}

theorem clos_go {ev : Env} : ∀ (l : List (Str × NameKind)) (acc : List (Str × Addr)), (∀ y ∈ l, y.2 = .free → (ev.cells.lookup y.1).isSome = true) → (l.map (·.1)).Nodup →
    ∃ cl, (forIn l acc fun (x : Str × NameKind) r => (if (x.2 == NameKind.free) = true then do let c ← PySem.cellOf ev x.1; pure (ForInStep.yield ((x.1, c) :: r)) else pure (ForInStep.yield r) : Sem (ForInStep (List (Str × Addr))))) = pure cl ∧
      ∀ x, cl.lookup x = if l.lookup x = some .free then ev.cells.lookup x else acc.lookup x
  | [], acc, _, _ => ⟨acc, rfl, fun x => by simp⟩
  | (y, k) :: r, acc, hf, hn => by
    have hn' := List.nodup_cons.mp hn
    by_cases hk : k = .free
    · subst hk
      obtain ⟨c, hc⟩ := Option.isSome_iff_exists.mp (hf _ (.head _) rfl)
      refine o1_2 (fun cl h1 h2 => ?_) (clos_go r ((y, c) :: acc) (fun z hz => hf z (.tail _ hz)) hn'.2)
      refine ⟨cl, ?_, fun x => ?_⟩
      · rw [List.forIn_cons]
        simp only [beq_self_eq_true, if_true]
        have e : PySem.cellOf ev y = pure c := by unfold PySem.cellOf; rw [hc]
        rw [e]
        exact h1
      · rw [h2 x]
        by_cases hx : x = y
        · subst hx
          have hr : r.lookup x = none := by
            rw [List.lookup_eq_none_iff]
            intro q hq
            simp only [bne_iff_ne, ne_eq, beq_iff_eq]
            intro e
            exact hn'.1 (by rw [show x = q.1 from by simpa using e]; exact List.mem_map_of_mem (f := (·.1)) hq)
          rw [hr]
          simp [List.lookup_cons, hc]
        · have hb : (x == y) = false := by simpa using hx
          simp only [List.lookup_cons, hb]
    · refine o1_2 (fun cl h1 h2 => ?_) (clos_go r acc (fun z hz => hf z (.tail _ hz)) hn'.2)
      have hkb : (k == NameKind.free) = false := by simpa using hk
      refine ⟨cl, ?_, fun x => ?_⟩
      · rw [List.forIn_cons]
        simp only [hkb, Bool.false_eq_true, if_false]
        exact h1
      · rw [h2 x]
        by_cases hx : x = y
        · subst hx
          have hr : r.lookup x = none := by
            rw [List.lookup_eq_none_iff]
            intro q hq
            simp only [bne_iff_ne, ne_eq, beq_iff_eq]
            intro e
            exact hn'.1 (by rw [show x = q.1 from by simpa using e]; exact List.mem_map_of_mem (f := (·.1)) hq)
          rw [hr]
          simp [List.lookup_cons, hk]
        · have hb : (x == y) = false := by simpa using hx
          simp only [List.lookup_cons, hb]

theorem clos_ok {sc : Scope} (hf : ∀ y ∈ sc.names, y.2 = .free → (ev.cells.lookup y.1).isSome = true) (hn : (sc.names.map (·.1)).Nodup) :
    ∃ cl, closureFor sc ev = pure cl ∧ ∀ x, sc.names.lookup x = some .free → cl.lookup x = ev.cells.lookup x := by
  refine o1_2 (fun cl h1 h2 => ?_) (clos_go (ev := ev) sc.names [] hf hn)
  refine ⟨cl, ?_, fun x hx => by rw [h2 x, if_pos hx]⟩
  have e : closureFor sc ev = (forIn sc.names [] fun (x : Str × NameKind) r => (if (x.2 == NameKind.free) = true then do let c ← PySem.cellOf ev x.1; pure (ForInStep.yield ((x.1, c) :: r)) else pure (ForInStep.yield r) : Sem (ForInStep (List (Str × Addr))))) >>= pure := by
    rfl
  rw [e, h1]; rfl

theorem mem_of_lookup {α : Type} {x : Str} {k : α} : ∀ {l : List (Str × α)}, l.lookup x = some k → (x, k) ∈ l
  | (y, j) :: r, h => by
    rw [List.lookup_cons] at h
    by_cases hx : x = y
    · subst hx; simp at h; subst h; exact .head _
    · have hb : (x == y) = false := by simpa using hx
      rw [hb] at h; exact .tail _ (mem_of_lookup h)

structure ScOk (sc : Scope) (ko : KO) : Prop where
  kind : sc.kind = .function
  nocell : ∀ y ∈ sc.names, y.2 ≠ .cell
  loc : ∀ y ∈ sc.names, y.2 = .local → sc.names.lookup y.1 = some .local
  free : ∀ y ∈ sc.names, y.2 = .free → ko y.1 = some .cell
  nd : (sc.names.map (·.1)).Nodup
theorem scOk_of {sc : Scope} {ko : KO} (h : scOk sc ko = true) : ScOk sc ko := by
  unfold scOk at h
  simp only [Bool.and_eq_true, List.all_eq_true, bne_iff_ne, ne_eq, Bool.or_eq_true, beq_iff_eq, decide_eq_true_eq] at h
  obtain ⟨⟨⟨⟨⟨h1, h2⟩, h3⟩, h4⟩, _⟩, h6⟩ := h
  refine ⟨h1, h2, fun y hy e => ?_, fun y hy e => ?_, h6⟩
  · rcases h3 y hy with h | h
    · exact absurd e h
    · exact h
  · rcases h4 y hy with h | h
    · exact absurd e h
    · exact h

theorem relabel_kind {sc : Scope} (hk : ev.scope.kind = .function) : (relabel sc ev).names = relK sc ev.kindOf := by
  unfold relabel relK
  simp [hk]
theorem relK_lookup (ko : KO) (x : Str) : ∀ l : List (Str × NameKind), (l.map fun (n, k) => if (k == NameKind.free && ko n == some .cell) then (n, NameKind.cell) else (n, k)).lookup x = (l.lookup x).map fun k => if (k == .free && ko x == some .cell) then .cell else k
  | [] => rfl
  | (y, k) :: r => by
    have ih := relK_lookup ko x r
    by_cases hx : x = y
    · subst hx
      rw [List.map_cons]
      by_cases hc : (k == NameKind.free && ko x == some NameKind.cell) = true
      · simp only [hc, if_true, List.lookup_cons, beq_self_eq_true, Option.map_some]
      · simp only [hc, if_false, List.lookup_cons, beq_self_eq_true, Option.map_some]
        simp
    · have hb : (x == y) = false := by simpa using hx
      rw [List.map_cons, List.lookup_cons (k := y)]
      simp only [hb]
      rw [← ih]
      by_cases hc : (k == NameKind.free && ko y == some NameKind.cell) = true
      · simp only [hc, if_true, List.lookup_cons, hb]
      · simp only [hc, if_false, List.lookup_cons, hb]
        simp [List.lookup_cons, hb]

theorem St.addPriv {C : Addr} {oC : Obj} (S : St prog w K h₀ L m priv σ h) (hC : C = h.objs.size) (hs : ∀ b o, b ≠ C → h.get? b = some o → h'.get? b = some o) (ho : h'.get? C = some oC) :
    St prog w K h₀ L m ((C, oC) :: priv) σ h' := by
  subst hC
  have k : ∀ b o, h.get? b = some o → h'.get? b = some o := fun b o e => hs b o (Nat.ne_of_lt (Heap.lt_size e)) e
  revert S; refine o1_3 fun news F N D => ?_
  refine ⟨news, F.keeps k, fun q hq => ?_, D.nd, fun q hq hk => ?_, D.rep⟩
  · rcases List.mem_cons.mp hq with rfl | hq
    · refine ⟨ho, Nat.ne_of_gt F.ns.lt, ?_⟩
      cases e : h₀.get? h.objs.size with
      | none => rfl
      | some o => exact absurd (Heap.lt_size (F.keep _ _ e)) (Nat.lt_irrefl _)
    · exact ⟨k _ _ (N q hq).1, (N q hq).2⟩
  · rcases List.mem_cons.mp hk with e | hk
    · exact absurd (Heap.lt_size (N q (List.mem_append_right _ hq)).1) (by rw [e]; exact Nat.lt_irrefl _)
    · exact D.off q hq hk

/-- a private list is handed to the store -/
theorem St.adopt {D : Addr} {acc : List V} {vs : List Value} {n : Nat} (S : St prog w K h₀ L m ((D, listOf (List.toArray vs) n) :: priv) σ h) (hD : ∀ p ∈ priv, p.1 ≠ D) (hv : VRs acc vs) (hb : acc.length ≤ bigN) :
    σ D = none ∧ St prog w K h₀ L m priv (upd σ D (.list acc)) h := by
  revert S; refine o1_3 fun news F N D' => ?_
  have hnD : ∀ p ∈ news, p.1 ≠ D := fun p hp e => D'.off p hp (by rw [e]; exact .head _)
  obtain ⟨ow, hrep⟩ := D'.rep
  refine ⟨?_, (D, listOf vs.toArray n) :: news, F, fun q hq => N q ?_, ?_, fun q hq hk => ?_, fun k => if k = D then D else ow k, fun a o ha => ?_⟩
  · cases q : σ D with
    | none => rfl
    | some o => obtain ⟨x, hx⟩ := (hrep D o q).key; exact absurd rfl (hnD _ hx)
  · rcases List.mem_append.mp hq with hq | hq
    · exact .tail _ (List.mem_append_left _ hq)
    · rcases List.mem_cons.mp hq with rfl | hq
      · exact .head _
      · exact .tail _ (List.mem_append_right _ hq)
  · rw [List.map_cons]
    refine List.nodup_cons.mpr ⟨fun hm => ?_, D'.nd⟩
    refine o1_2 (fun q hq e => ?_) (List.mem_map.mp hm)
    exact hnD q hq e
  · rcases List.mem_cons.mp hq with rfl | hq
    · refine o1_2 (fun q hq e => ?_) (List.mem_map.mp hk)
      exact hD q hq e
    · exact D'.off q hq (.tail _ hk)
  · by_cases haD : a = D
    · subst haD
      rw [upd_self] at ha; cases ha
      exact ⟨if_pos rfl, vs.toArray, n, .head _, hv, hb⟩
    · rw [upd_ne haD] at ha
      exact (hrep a o ha).mono fun q hq e => ⟨.tail _ hq, by rw [if_neg (hnD q hq)]; exact e⟩

theorem comp_core0 (IH : SE prog w K p loose mean mg mb lv rec chk) (IHT : STT prog w K p loose mean mg mb lv recT chk) (H : Hr K p loose mean mg mb lv h₀ L A fe ev m priv ρ) (hb : bltFree K = true)
    {elt t it : Expr} {ifs : List Expr} {sc : Scope} {pos : Pos} {cl : List (Str × Addr)} (hsc : ScOk sc ev.kindOf) (hcl : ∀ x, sc.names.lookup x = some .free → cl.lookup x = ev.cells.lookup x)
    (ht : tgtOk (fun x => sc.names.lookup x == some .local) 3 t = true)
    (hcf : ifs.all (chk fun x => (relK sc ev.kindOf).lookup x) = true) (hce : chk (fun x => (relK sc ev.kindOf).lookup x) elt = true)
    (hsrc : wpAny (model prog w) A (eval it ev) (fun x s₁ => wpAny (model prog w) A (pyIter x) (fun itv s₂ => ∃ I oI src n σ', itv = .ref I ∧ n = (itemsOf src n).length ∧ n ≤ bigN ∧ ItAt src n 0 oI ∧ stillW src σ' ∧
      St prog w K h₀ L m ((I, oI) :: priv) σ' s₂.heap ∧ Same s s₂ ∧ (∀ p ∈ priv, p.1 ≠ I) ∧ compL rec recT elt t ifs src (itemsOf src n) (compEnvA sc ρ) σ' [] Q) NoE s₁) NoE s)
    {use : Option (Value → Sem Unit)} {QQ : Value → Shared → Prop}
    (fin : ∀ D C acc vs nD oC mc σ' s', (∀ q ∈ priv, q.1 ≠ C) → (∀ q ∈ priv, q.1 ≠ D) → C ≠ D → NsObj oC mc → St prog w K h₀ L m ((C, oC) :: (D, listOf (List.toArray vs) nD) :: priv) σ' s'.heap → Same s s' → VRs acc vs → acc.length ≤ bigN → newW σ' (.list acc) Q →
      compPost (model prog w) A NoE use QQ (.ref D) C (.ok .next) s') :
    wpAny (model prog w) A (eval it ev) (fun x s₁ => wpAny (model prog w) A (pyIter x) (fun itv s₂ => wpAny (model prog w) A (newList []) (fun acc s₃ =>
      wpAny (model prog w) A (newFunctionEnv sc ev.globals cl [] ev.qual none .none (some ev)) (fun cenv s₄ =>
        codeAny (model prog w) A (.compStart (.ListComp elt [⟨t, it, ifs, 0⟩] sc pos) 0 itv acc { cenv with scope := relabel sc ev }) (compPost (model prog w) A NoE use QQ acc cenv.locals) s₄) NoE s₃) NoE s₂) NoE s₁) NoE s := by
  refine wpAny_mono hsrc (fun x s₁ h₁ => wpAny_mono h₁ (fun itv s₂ r => ?_) fun _ _ e => e) fun _ _ e => e
  obtain ⟨I, oI, src, n, σ₁, rfl, hn, hbn, hI, hst, S₂, hs₂, hpI, hq⟩ := r
  refine wpAny_newObj_type (wpAny_newFunctionEnv hsc.nocell (by intro y hy; simp at hy) (fun h₁ hns₁ hsb₁ => ?_) hsc.kind)
  dsimp only at hns₁ hsb₁ ⊢
  -- the accumulator, then the block's names
  have SD := S₂.pushPriv (o := { cls := .type "list", dict := none, data := .seq ([] : List Value).toArray }) rfl
  generalize hH2 : s₂.heap.push { cls := .type "list", dict := none, data := .seq ([] : List Value).toArray } = H2 at hns₁ hsb₁ SD ⊢
  refine o1_2 (fun oC hoC hnsC => ?_) (ns_obj hns₁)
  have SC := SD.addPriv (oC := oC) (h' := h₁) rfl (fun b o hbn e => hsb₁.extBut b o hbn (Heap.get?_push_of_some _ e)) hoC
  have hsz : H2.objs.size = s₂.heap.objs.size + 1 := by rw [← hH2, Heap.size_push]
  have hlt : ∀ q ∈ (I, oI) :: priv, q.1 < s₂.heap.objs.size := fun q hq => S₂.lt hq
  have hIlt : I < s₂.heap.objs.size := hlt _ (.head _)
  have S3 : St prog w K h₀ L m ((I, oI) :: (H2.objs.size, oC) :: (s₂.heap.objs.size, listOf ([] : List Value).toArray 0) :: priv) σ₁ h₁ := SC.sub fun q hq => by
    rcases List.mem_cons.mp hq with rfl | hq
    · exact .tail _ (.tail _ (.head _))
    rcases List.mem_cons.mp hq with rfl | hq
    · exact .head _
    rcases List.mem_cons.mp hq with rfl | hq
    · exact .tail _ (.head _)
    · exact .tail _ (.tail _ (.tail _ hq))
  have ne1 : I ≠ H2.objs.size := Nat.ne_of_lt (by rw [hsz]; exact Nat.lt_succ_of_lt hIlt)
  have ne2 : H2.objs.size ≠ s₂.heap.objs.size := by rw [hsz]; exact Nat.succ_ne_self _
  have ne3 : ∀ q ∈ priv, q.1 ≠ H2.objs.size := fun q hq => Nat.ne_of_lt (by rw [hsz]; exact Nat.lt_succ_of_lt (hlt q (.tail _ hq)))
  have ne4 : ∀ q ∈ priv, q.1 ≠ s₂.heap.objs.size := fun q hq => Nat.ne_of_lt (hlt q (.tail _ hq))
  have hkc : ∀ x, (compEnvC sc cl H2.objs.size ev).kindOf x = (relK sc ev.kindOf).lookup x := fun x => by
    show (relabel sc ev).names.lookup x = _
    rw [relabel_kind H.evk.kd]
  have hkc' : (compEnvC sc cl H2.objs.size ev).kindOf = fun x => (relK sc ev.kindOf).lookup x := funext hkc
  have hfree : ∀ x, sc.names.lookup x = some .free → ev.kindOf x = some .cell := fun x hx => hsc.free _ (mem_of_lookup hx) rfl
  have hcell : ∀ x, (compEnvC sc cl H2.objs.size ev).kindOf x = some .cell → sc.names.lookup x = some .free := fun x hx => by
    rw [hkc x] at hx
    unfold relK at hx
    rw [relK_lookup] at hx
    cases q : sc.names.lookup x with
    | none => rw [q] at hx; cases hx
    | some k =>
      rw [q] at hx
      cases k with
      | free => rfl
      | cell => exact absurd rfl (hsc.nocell _ (mem_of_lookup q))
      | _ => simp at hx
  have hcell2 : ∀ x, sc.names.lookup x = some .free → (compEnvC sc cl H2.objs.size ev).kindOf x = some .cell := fun x hx => by
    rw [hkc x]; unfold relK
    rw [relK_lookup, hx, hfree x hx]; rfl
  have hloc2 : ∀ x, sc.names.lookup x = some .local → (compEnvC sc cl H2.objs.size ev).kindOf x = some .local := fun x hx => by
    rw [hkc x]; unfold relK
    rw [relK_lookup, hx]; rfl
  have evk : EvOk (compEnvC sc cl H2.objs.size ev) := ⟨hsc.kind, H.evk.gl, H.evk.bl, fun x hx => by
    show (cl.lookup x).isSome = true
    have hf := hcell x hx
    rw [hcl x hf]
    exact H.evk.cl x (hfree x hf)⟩
  have hen : EnvC (compEnvC sc cl H2.objs.size ev) (fun x => ([] : List (Str × Value)).reverse.lookup x) priv (compEnvA sc ρ) := by
    intro x V e
    unfold compEnvA at e
    by_cases hx : sc.names.lookup x = some .free
    · rw [if_pos hx] at e
      refine o1_2 (fun v hv hr => ?_) (H.en x V e)
      refine ⟨v, hv, .inr ⟨.inl (hcell2 x hx), ?_⟩⟩
      have hk := hfree x hx
      rcases hr with ⟨h1, _⟩ | ⟨h1, _⟩ | ⟨_, c, o, h2, h3, h4⟩
      · rw [hk] at h1; cases h1
      · rw [hk] at h1; cases h1
      · exact ⟨c, o, by show cl.lookup x = _; rw [hcl x hx]; exact h2, h3, h4⟩
    · rw [if_neg hx] at e; cases e
  have htc : tgtOk (fun x => (compEnvC sc cl H2.objs.size ev).kindOf x == some .local) 3 t = true := by
    have mono : ∀ n t, tgtOk (fun x => sc.names.lookup x == some .local) n t = true → tgtOk (fun x => (compEnvC sc cl H2.objs.size ev).kindOf x == some .local) n t = true := by
      intro n
      induction n with
      | zero => intro t h; cases t <;> exact h
      | succ n ih =>
        intro t h
        cases t <;> first | exact h | skip
        · exact beq_iff_eq.mpr (hloc2 _ (beq_iff_eq.mp h))
        · exact List.all_eq_true.mpr fun t ht => ih t (List.all_eq_true.mp h t ht)
    exact mono 3 t ht
  have loop : ∀ s₃ : Shared, s₃.heap = h₁ → Same s₂ s₃ →
      codeAny (model prog w) A (.compLoop (.ListComp elt [⟨t, it, ifs, 0⟩] sc pos) 0 (.ref I) (.ref s₂.heap.objs.size) (compEnvC sc cl H2.objs.size ev)) (compPost (model prog w) A NoE use QQ (.ref s₂.heap.objs.size) H2.objs.size) s₃ := by
    intro s₃ e₃ hs₃
    refine compLoop_sound (priv := priv) (Q := Q) IH IHT H.fm evk ne1 (Nat.ne_of_lt hIlt) ne2 hpI
      ne3 ne4 htc (by rw [hkc']; exact hcf) (by rw [hkc']; exact hce) hn hbn (s₀ := s) ?_
      (itemsOf src n) 0 (compEnvA sc ρ) σ₁ [] oI oC _ [] 0 s₃ rfl (Nat.zero_le _) hI hst hnsC hen .nil (Nat.le_refl _) (e₃ ▸ S3) (hs₂.trans hs₃) hq
    intro acc vs nD oC' mc' σ' s' hns' S' hs' hv' hb' hq'
    exact fin _ _ acc vs nD oC' mc' σ' s' ne3 ne4 ne2 hns' S' hs' hv' hb' hq'
  refine codeAny_compStart_list (loop _ rfl ⟨_, _, rfl⟩) (noE (it_self (S3.cell (.head _)) hI (loop _ rfl ⟨_, _, rfl⟩)))

theorem comp_core (IH : SE prog w K p loose mean mg mb lv rec chk) (IHT : STT prog w K p loose mean mg mb lv recT chk) (H : Hr K p loose mean mg mb lv h₀ L A fe ev m priv ρ) (hb : bltFree K = true)
    {elt t it : Expr} {ifs : List Expr} {sc : Scope} {pos : Pos} {cl : List (Str × Addr)} (hsc : ScOk sc ev.kindOf) (hcl : ∀ x, sc.names.lookup x = some .free → cl.lookup x = ev.cells.lookup x)
    (hci : chkI chk ev.kindOf it = true) (ht : tgtOk (fun x => sc.names.lookup x == some .local) 3 t = true)
    (hcf : ifs.all (chk fun x => (relK sc ev.kindOf).lookup x) = true) (hce : chk (fun x => (relK sc ev.kindOf).lookup x) elt = true)
    (S : St prog w K h₀ L m priv σ s.heap) (h : srcW rec it ρ σ fun xs o σ₁ => compL rec recT elt t ifs o xs (compEnvA sc ρ) σ₁ [] Q)
    {use : Option (Value → Sem Unit)} {QQ : Value → Shared → Prop}
    (fin : ∀ D C acc vs nD oC mc σ' s', (∀ q ∈ priv, q.1 ≠ C) → (∀ q ∈ priv, q.1 ≠ D) → C ≠ D → NsObj oC mc → St prog w K h₀ L m ((C, oC) :: (D, listOf (List.toArray vs) nD) :: priv) σ' s'.heap → Same s s' → VRs acc vs → acc.length ≤ bigN → newW σ' (.list acc) Q →
      compPost (model prog w) A NoE use QQ (.ref D) C (.ok .next) s') :
    wpAny (model prog w) A (eval it ev) (fun x s₁ => wpAny (model prog w) A (pyIter x) (fun itv s₂ => wpAny (model prog w) A (newList []) (fun acc s₃ =>
      wpAny (model prog w) A (newFunctionEnv sc ev.globals cl [] ev.qual none .none (some ev)) (fun cenv s₄ =>
        codeAny (model prog w) A (.compStart (.ListComp elt [⟨t, it, ifs, 0⟩] sc pos) 0 itv acc { cenv with scope := relabel sc ev }) (compPost (model prog w) A NoE use QQ acc cenv.locals) s₄) NoE s₃) NoE s₂) NoE s₁) NoE s :=
  comp_core0 IH IHT H hb hsc hcl ht hcf hce (src_sound IH H hb hci S h) fin

theorem comp_sound (IH : SE prog w K p loose mean mg mb lv rec chk) (IHT : STT prog w K p loose mean mg mb lv recT chk) (H : Hr K p loose mean mg mb lv h₀ L A fe ev m priv ρ) (hb : bltFree K = true)
    {elt t it : Expr} {ifs : List Expr} {sc : Scope} {pos : Pos} (hsc : scOk sc ev.kindOf = true) (hnd : notDisp it = true)
    (hci : chkI chk ev.kindOf it = true) (ht : tgtOk (fun x => sc.names.lookup x == some .local) 3 t = true)
    (hcf : ifs.all (chk fun x => (relK sc ev.kindOf).lookup x) = true) (hce : chk (fun x => (relK sc ev.kindOf).lookup x) elt = true)
    (S : St prog w K h₀ L m priv σ s.heap) (h : srcW rec it ρ σ fun xs o σ₁ => compL rec recT elt t ifs o xs (compEnvA sc ρ) σ₁ [] Q) :
    wpAny (model prog w) A (eval (.ListComp elt [⟨t, it, ifs, 0⟩] sc pos) ev) (Res prog w K h₀ L m priv Q s) NoE s := by
  have hs := scOk_of hsc
  refine o1_2 (fun cl hcl1 hcl2 => ?_) (clos_ok (ev := ev) (sc := sc) (fun y hy e => H.evk.cl _ (hs.free y hy e)) hs.nd)
  rw [eval_ListComp]
  refine wpAny_comprehension_free (use := none) rfl (folded_of hnd) hcl1 hs.kind hs.loc ?_
  refine comp_core IH IHT H hb hs hcl2 hci ht hcf hce S h ?_
  intro D C acc vs nD oC mc σ' s' hpC hpD hCD hns S' hss hv hbb hq
  refine ⟨mc, hns.ns (S'.cell (.head _)), fun h' hsb => ?_⟩
  have S1 := S'.dropPriv (pre := []) (h' := h') (fun _ h => nomatch h) (fun q hq => by
    rcases List.mem_cons.mp hq with rfl | hq
    · exact Ne.symm hCD
    · exact hpC q hq) (fun b o hbn e => hsb.extBut b o hbn e)
  obtain ⟨hf, S2⟩ := St.adopt (priv := priv) S1 hpD hv hbb
  exact ⟨.ref D, _, .ref D, S2, hss.trans ⟨_, _, rfl⟩, hq D hf⟩
end

end

section
open PyProof.Rows.LCg

section
variable {prog : Program} {w : World} {K : Frag} {p : Program} {loose : List Str} {mean : ExcName → Option Value} {mg mb : Str → Option Value} {lv : Nat}
variable {h₀ h h' : Heap} {L : Addr} {A : Around} {fe ev : Env} {m : Str → Option Value} {priv pre post : List (Addr × Obj)} {ρ : AEnv} {σ : Store} {s s₁ : Shared} {Q : PE} {E : Value → Shared → Prop}
variable {rec : RE} {recT : RT} {chk : KO → Expr → Bool}

theorem dropTakeMin (l : List Value) (x n : Nat) : (l.drop (min x l.length)).take (min n l.length - min x l.length) = (l.take n).drop x := by
  rw [List.drop_take, kmk_drop_min]
  rcases Nat.le_total x l.length with h | h
  · rw [Nat.min_eq_left h, ← Nat.sub_min_sub_right, ← List.length_drop, kmk_take_min]
  · rw [List.drop_eq_nil_of_le h, List.take_nil, List.take_nil]
theorem pickOf {l : List Value} {lo hi : Option Int} {x n : Nat} (h1 : kms_lo lo l.length = min x l.length) (h2 : kms_hi hi l.length = min n l.length) : kms_pick l lo hi = (l.take n).drop x := by
  unfold kms_pick; rw [h1, h2]; exact dropTakeMin l x n
theorem ks0 {n : Nat} : kms_lo none n = min 0 n := (Nat.zero_min _).symm
theorem ksN {n : Nat} : kms_hi none n = min n n := (Nat.min_self _).symm
theorem ksLo {x : Int} {n : Nat} (h : partOk (some x)) : kms_lo (some x) n = min x.toNat n := if_neg (Int.not_lt.mpr h)
theorem ksHi {x : Int} {n : Nat} (h : partOk (some x)) : kms_hi (some x) n = min x.toNat n := if_neg (Int.not_lt.mpr h)
theorem sliceL_pick : ∀ {lo hi : Option Int}, partOk lo → partOk hi → ∀ l : List Value, kms_pick l lo hi = sliceL lo hi l
  | none, none, _, _, l => (pickOf ks0 ksN).trans (congrArg (List.drop 0) List.take_length)
  | none, some _, _, h, l => pickOf ks0 (ksHi h)
  | some x, none, h, _, l => (pickOf (ksLo h) ksN).trans (congrArg (List.drop x.toNat) List.take_length)
  | some _, some _, h, k, l => pickOf (ksLo h) (ksHi k)
theorem VRs.slice {xs : List V} {vs : List Value} (h : VRs xs vs) (lo hi : Option Int) : VRs (sliceL lo hi xs) (sliceL lo hi vs) := by
  unfold sliceL
  refine VRs.drop ?_ _
  cases hi with
  | none => exact h
  | some j => exact h.take _
theorem sliceL_length {α : Type} (lo : Option Int) : ∀ (hi : Option Int) (xs : List α), (sliceL lo hi xs).length ≤ xs.length
  | none, xs => Nat.le_trans (Nat.le_of_eq (List.length_drop ..)) (Nat.sub_le _ _)
  | some n, xs => Nat.le_trans (Nat.le_trans (Nat.le_of_eq (List.length_drop ..)) (Nat.sub_le _ _)) (List.length_take_le' ..)

noncomputable def PartR (l : Option Int) (v : Value) : Prop := IsPart v l
theorem part_sound (IH : SE prog w K p loose mean mg mb lv rec chk) (H : Hr K p loose mean mg mb lv h₀ L A fe ev m priv ρ) {e : Option Expr} {Q : Option Int → Store → Prop}
    (hc : optAll (chk ev.kindOf) e = true) (S : St prog w K h₀ L m priv σ s.heap) (h : partW rec e ρ σ Q) :
    wpAny (model prog w) A (evalPart e ev) (fun v s₁ => ∃ l σ₁, IsPart v l ∧ St prog w K h₀ L m priv σ₁ s₁.heap ∧ Same s s₁ ∧ Q l σ₁) NoE s := by
  cases e with
  | none => exact wpAny_pure ⟨none, σ, .none, S, .refl _, h⟩
  | some e =>
    refine thenE (α := Unit) (IH _ _ _ _ _ _ _ _ _ _ _ _ H hc S h) fun x σ₁ v s₁ hv S₁ hs hq => ?_
    refine o1_2 (fun i rf1_ hq => ?_) (intW_inv hq); subst rf1_
    obtain ⟨t, rfl⟩ := hv
    exact ⟨some i, σ₁, .int i t, S₁, hs, hq⟩

theorem slice_sound (IH : SE prog w K p loose mean mg mb lv rec chk) (H : Hr K p loose mean mg mb lv h₀ L A fe ev m priv ρ) {v : Expr} {lo hi : Option Expr} {q pos : Pos}
    (hn : isName v = true) (hv : chk ev.kindOf v = true) (hl : optAll (chk ev.kindOf) lo = true) (hh : optAll (chk ev.kindOf) hi = true) (S : St prog w K h₀ L m priv σ s.heap)
    (h : rec v ρ σ fun o σ₁ => partW rec lo ρ σ₁ fun l σ₂ => partW rec hi ρ σ₂ fun h σ₃ => sliceW σ₃ o l h Q) :
    wpAny (model prog w) A (eval (.Subscript v (.Slice lo hi none q) pos) ev) (Res prog w K h₀ L m priv Q s) NoE s := by
  refine Subscript_ (thenE (α := Unit) (IH _ _ _ _ _ _ _ _ _ _ _ _ H hv S h) fun o σ₁ ov s₁ hov S₁ hs hq => ?_)
  refine wpAny_Slice (wpAny_mono (part_sound IH H hl S₁ hq) (fun l s₂ r => ?_) fun _ _ e => e)
  revert r; refine o2_4 fun lo' σ₂ hlo S₂ hs₂ hq₂ => ?_
  refine wpAny_mono (part_sound IH H hh S₂ hq₂) (fun u s₃ r => ?_) fun _ _ e => e
  revert r; refine o2_4 fun hi' σ₃ hhi S₃ hs₃ hq₃ => ?_
  refine wpAny_pure ?_
  obtain ⟨a, xs, rfl, ha, ⟨p1, p2⟩, hw⟩ := listW_inv hq₃
  obtain rfl := hov.ref_inv
  refine o1_3 (fun vs hil hvs hbn => ?_) (S₃.isList ha)
  have S₃' := S₃
  revert S₃; refine o1_3 fun news F N D => ?_
  have hsz : vs.size ≤ sizeLine := big_line (by rw [← Array.length_toList, hvs.length]; exact hbn)
  refine kmk_slice F N hil hlo hhi (fun l h' F' N' hlt => ?_) rfl (fun r => ?_) hsz
  · rw [kms_pick_eq, sliceL_pick p1 p2] at N'
    obtain ⟨f, S'⟩ := St.new1 (o := .list (sliceL lo' hi' xs)) F' N D N' hlt ⟨rfl, (sliceL lo' hi' vs.toList).toArray, 0, .head _, hvs.slice _ _, Nat.le_trans (sliceL_length ..) hbn⟩
    exact ⟨.ref l, _, .ref l, S', hs.trans (hs₂.trans (hs₃.trans ⟨_, _, rfl⟩)), hw l f⟩
  · cases v <;> first | rfl | exact ns hn | exact ft hn | cases hn


theorem stE_sound (IH : SE prog w K p loose mean mg mb lv rec chk) (IHT : STT prog w K p loose mean mg mb lv recT chk) (hb : bltFree K = true) (hfn : fnsOk K = true) :
    SE prog w K p loose mean mg mb lv (stE (CallOk prog w K p loose mean mg mb lv) rec recT) (chkS chk) := by
  intro h₀ L A fe ev m priv ρ e σ Q s H hc S h
  cases e with
  | Name x p =>
    have hc : (!dbg x) = true := hc
    exact noE (name_sound (E := NoE) H (by simpa using hc) S h)
  | Constant c k p => exact const_sound S h
  | BinOp l op r p =>
    have hc := Bool.and_eq_true_iff.mp (show (chk ev.kindOf l && chk ev.kindOf r) = true from hc)
    refine wpAny_BinOp (thenE (α := Unit) (IH _ _ _ _ _ _ _ _ _ _ _ _ H hc.1 S h) fun a σ₁ av s₁ ha S₁ hs hq => ?_)
    refine thenE (α := Unit) (IH _ _ _ _ _ _ _ _ _ _ _ _ H hc.2 S₁ hq) fun b σ₂ bv s₂ hb' S₂ hs₂ hq₂ => ?_
    exact wpAny_mono (bin_sound ha hb' S₂ hq₂) (fun v s' r => r.trans (hs.trans hs₂)) fun _ _ e => e
  | UnaryOp op x p =>
    cases op with
    | Not =>
      refine UnaryOp_ (thenE (α := Unit) (IH _ _ _ _ _ _ _ _ _ _ _ _ H hc S h) fun a σ₁ av s₁ ha S₁ hs hq => ?_)
      refine o1_2 (fun b rf1_ hq => ?_) (boolW_inv hq); subst rf1_
      obtain ⟨t, rfl⟩ := ha
      exact not_of (wpAny_truthy_bool ⟨_, _, .bool _, S₁, hs, hq⟩)
    | USub =>
      refine UnaryOp_ (thenE (α := Unit) (IH _ _ _ _ _ _ _ _ _ _ _ _ H hc S h) fun a σ₁ av s₁ ha S₁ hs hq => ?_)
      refine o1_2 (fun i rf1_ hq => ?_) (intW_inv hq); subst rf1_
      obtain ⟨t, rfl⟩ := ha
      exact PySem.P.neg_int (Res.trans hs (.here (.int _ _) S₁ hq))
    | _ => exact False.elim h
  | BoolOp op vs p => exact bop_sound IH H hc S h
  | Compare l ops rs p =>
    have hc : (chk ev.kindOf l && rs.all (chk ev.kindOf) && rs.all notDisp && (ops.length == rs.length)) = true := hc
    simp only [Bool.and_eq_true, beq_iff_eq] at hc
    obtain ⟨⟨⟨h1, h2⟩, h3⟩, h4⟩ := hc
    rw [arm_eval_Compare, markedEach_of_false _ _ _ (lastMarks_of h3)]
    refine wpAny_bind (thenE (α := Unit) (IH _ _ _ _ _ _ _ _ _ _ _ _ H h1 S h) fun a σ₁ av s₁ ha S₁ hs hq => ?_)
    refine wpAny_mono (chain_sound IH H h2 h4 ha S₁ hq).1 (fun v s' r => ?_) fun _ _ e => e
    exact (r.trans hs).to fun x σ' ⟨b, e, hb⟩ => e ▸ hb
  | IfExp t b o p =>
    have hc : (chk ev.kindOf t && chk ev.kindOf b && chk ev.kindOf o) = true := hc
    obtain ⟨h12, h3⟩ := Bool.and_eq_true_iff.mp hc
    obtain ⟨h1, h2⟩ := Bool.and_eq_true_iff.mp h12
    refine IfExp_ (wpAny_mono (IHT _ _ _ _ _ _ _ _ _ _ _ _ H h1 S h) (fun c s₁ r => ?_) fun _ _ e => e)
    revert r; refine o1_3 fun σ₁ S₁ hs hq => ?_
    cases c with
    | true => exact wpAny_mono (IH _ _ _ _ _ _ _ _ _ _ _ _ H h2 S₁ hq) (fun v s' r => r.trans hs) fun _ _ e => e
    | false => exact wpAny_mono (IH _ _ _ _ _ _ _ _ _ _ _ _ H h3 S₁ hq) (fun v s' r => r.trans hs) fun _ _ e => e
  | Attribute v x p =>
    have hc := Bool.and_eq_true_iff.mp (show (chk ev.kindOf v && baseOk v) = true from hc)
    rw [arm_eval_Attribute, baseOk_of hc.2]
    refine wpAny_bind (thenE (α := Unit) (IH _ _ _ _ _ _ _ _ _ _ _ _ H hc.1 S h) fun a σ₁ av s₁ ha S₁ hs hq => ?_)
    refine wpAny_bind (wpAny_standAt (wpAny_bind (wpAny_holding (wpAny_mono (getAttr_sound H.fm.X ha S₁ hq) (fun v s' r => ?_) fun _ _ e => e))))
    exact wpAny_bind (wpAny_letTemporaryGo (wpAny_pure (r.trans hs)))
  | Subscript v i p =>
    have item : (chk ev.kindOf v && chk ev.kindOf i && notSlice i) = true → (rec v ρ σ fun o σ₁ => rec i ρ σ₁ fun k σ₂ => subW σ₂ o k Q) → wpAny (model prog w) A (eval (.Subscript v i p) ev) (Res prog w K h₀ L m priv Q s) NoE s := by
      intro hc' h
      obtain ⟨h12, h3⟩ := Bool.and_eq_true_iff.mp hc'
      obtain ⟨h1, h2⟩ := Bool.and_eq_true_iff.mp h12
      refine Subscript_ (thenE (α := Unit) (IH _ _ _ _ _ _ _ _ _ _ _ _ H h1 S h) fun a σ₁ av s₁ ha S₁ hs hq => ?_)
      refine thenE (α := Unit) (IH _ _ _ _ _ _ _ _ _ _ _ _ H h2 S₁ hq) fun b σ₂ bv s₂ hb' S₂ hs₂ hq₂ => ?_
      exact wpAny_mono (subTail_sound h3 ha hb' S₂ hq₂) (fun v s' r => r.trans (hs.trans hs₂)) fun _ _ e => e
    cases i with
    | Slice lo hi st q =>
      cases st with
      | none =>
        have hc : (isName v && chk ev.kindOf v && optAll (chk ev.kindOf) lo && optAll (chk ev.kindOf) hi) = true := hc
        simp only [Bool.and_eq_true] at hc
        obtain ⟨⟨⟨h1, h2⟩, h3⟩, h4⟩ := hc
        exact slice_sound IH H h1 h2 h3 h4 S h
      | some st => exact item hc h
    | _ => exact item hc h
  | List es p =>
    have hc : (es.all (chk ev.kindOf) && es.all plainArg && decide (es.length ≤ 100)) = true := hc
    simp only [Bool.and_eq_true, decide_eq_true_eq] at hc
    refine List_ (wpAny_mono (evL_soundN IH H hc.1.1 hc.1.2 S h) (fun vs s₁ r => ?_) fun _ _ e => e)
    revert r; refine o2_5 fun xs σ₁ hvs S₁ hs hl hq => ?_
    exact wpAny_mono (op_newList S₁ hvs (by unfold bigN; omega) hq) (fun v s' r => r.trans hs) fun _ _ e => e
  | Tuple es k p =>
    have hc : (es.all (chk ev.kindOf) && es.all plainArg && decide (es.length ≤ 100)) = true := hc
    simp only [Bool.and_eq_true, decide_eq_true_eq] at hc
    refine Tuple_ (wpAny_mono (evL_soundN IH H hc.1.1 hc.1.2 S h) (fun vs s₁ r => ?_) fun _ _ e => e)
    revert r; refine o2_5 fun xs σ₁ hvs S₁ hs hl hq => ?_
    exact wpAny_mono (op_newTuple S₁ hvs (by unfold bigN; omega) hq) (fun v s' r => r.trans hs) fun _ _ e => e
  | Dict ks vs p =>
    cases ks with
    | nil => cases vs with
      | nil => exact op_dictNew S H.fm.T.nolimit h
      | cons _ _ => exact False.elim h
    | cons _ _ => exact False.elim h
  | Call f args kws p =>
    cases kws with
    | cons _ _ => cases f <;> exact False.elim h
    | nil =>
      cases f with
      | Name x q =>
        obtain ⟨h123, h4⟩ := Bool.and_eq_true_iff.mp (show (_ && _) = true from hc)
        obtain ⟨h12, h3⟩ := Bool.and_eq_true_iff.mp h123
        obtain ⟨h1, h2⟩ := Bool.and_eq_true_iff.mp h12
        simp only [beq_iff_eq, Bool.not_eq_true'] at h1 h2
        exact call_fn IH H hb hfn h1 h2 h4 h3 S h
      | Attribute o x q =>
        have hc : (chk ev.kindOf o && baseOk o && args.all (chk ev.kindOf) && args.all plainArg && (q.endLine == p.line) && decide (args.length < 10)) = true := hc
        simp only [Bool.and_eq_true, decide_eq_true_eq] at hc
        obtain ⟨⟨⟨⟨⟨h1, h2⟩, h3⟩, h4⟩, h5⟩, h6⟩ := hc
        exact call_meth IH H h1 h2 h3 h4 h5 h6 S h
      | _ => exact False.elim h
  | ListComp elt gens sc p =>
    cases gens with
    | nil => exact False.elim h
    | cons g gs =>
      obtain ⟨t, it, ifs, asy⟩ := g
      cases asy with
      | negSucc _ => cases gs <;> exact False.elim h
      | ofNat asy =>
       cases asy with
       | succ _ => cases gs <;> exact False.elim h
       | zero =>
        cases gs with
        | cons _ _ => exact False.elim h
        | nil =>
          have hc : (scOk sc ev.kindOf && chkI chk ev.kindOf it && notDisp it && tgtOk (fun x => sc.names.lookup x == some .local) 3 t && ifs.all (chk fun x => (relK sc ev.kindOf).lookup x) && chk (fun x => (relK sc ev.kindOf).lookup x) elt) = true := hc
          simp only [Bool.and_eq_true] at hc
          obtain ⟨⟨⟨⟨⟨h1, h2⟩, h3⟩, h4⟩, h5⟩, h6⟩ := hc
          exact comp_sound IH IHT H hb h1 h3 h2 h4 h5 h6 S h
  | _ => exact False.elim h

theorem stT_sound (IH : SE prog w K p loose mean mg mb lv rec chk) (IHT : STT prog w K p loose mean mg mb lv recT chk) (IH2 : SE prog w K p loose mean mg mb lv rec (chkS chk)) :
    STT prog w K p loose mean mg mb lv (stT rec recT) (chkS chk) := by
  intro h₀ L A fe ev m priv ρ e σ Q s H hc S h
  have plain : ∀ e, (isTrue e ev (eval e ev) = (do let v ← eval e ev; standAt e.pos; holding [v] (truthy v))) → chkS chk ev.kindOf e = true → (rec e ρ σ fun v σ₁ => boolW v fun b => Q b σ₁) → wpAny (model prog w) A (isTrue e ev (eval e ev)) (ResB prog w K h₀ L m priv Q s) NoE s := by
    intro e he hc h
    refine isTrue_plain (thenE (α := Unit) (IH2 _ _ _ _ _ _ _ _ _ _ _ _ H hc S h) fun a σ₁ av s₁ ha S₁ hs hq => ?_) he
    refine o1_2 (fun b rf1_ hq => ?_) (boolW_inv hq); subst rf1_
    obtain ⟨t, rfl⟩ := ha
    exact wpAny_truthy_bool ⟨_, S₁, hs, hq⟩
  cases e with
  | BoolOp op vs p => exact all_sound IHT H hc S h
  | UnaryOp op x p =>
    cases op with
    | Not =>
      refine isTrue_not (wpAny_mono (IHT _ _ _ _ _ _ _ _ _ _ _ _ H hc S h) (fun b s' r => ?_) fun _ _ e => e)
      exact r
    | _ => exact False.elim h
  | Compare l ops rs p =>
    have hc : (chk ev.kindOf l && rs.all (chk ev.kindOf) && rs.all notDisp && (ops.length == rs.length)) = true := hc
    simp only [Bool.and_eq_true, beq_iff_eq] at hc
    obtain ⟨⟨⟨h1, h2⟩, h3⟩, h4⟩ := hc
    rw [arm_isTrue_Compare, markedEach_of_false _ _ _ (lastMarks_of h3)]
    refine wpAny_bind (thenE (α := Unit) (IH _ _ _ _ _ _ _ _ _ _ _ _ H h1 S h) fun a σ₁ av s₁ ha S₁ hs hq => ?_)
    exact wpAny_mono (chain_sound IH H h2 h4 ha S₁ hq).2 (fun v s' r => r.trans hs) fun _ _ e => e
  | Name x p => exact plain _ rfl hc h
  | Constant c k p => exact plain _ rfl hc h
  | Call f args kws p => exact plain _ rfl hc h
  | _ => exact False.elim h

theorem awp_sound (hb : bltFree K = true) (hfn : fnsOk K = true) : ∀ n n', n ≤ n' →
    SE prog w K p loose mean mg mb lv (awpE (CallOk prog w K p loose mean mg mb lv) n) (chkE n') ∧ STT prog w K p loose mean mg mb lv (awpT (CallOk prog w K p loose mean mg mb lv) n) (chkE n') := by
  intro n
  induction n with
  | zero => intro n' _; exact ⟨fun _ _ _ _ _ _ _ _ _ _ _ _ _ _ _ h => h.elim, fun _ _ _ _ _ _ _ _ _ _ _ _ _ _ _ h => h.elim⟩
  | succ n ih =>
    intro n' hn
    cases n' with
    | zero => omega
    | succ n' =>
      obtain ⟨i1, i2⟩ := ih n' (by omega)
      obtain ⟨j1, _⟩ := ih (n' + 1) (by omega)
      exact ⟨stE_sound i1 i2 hb hfn, stT_sound i1 i2 j1⟩
end

end

section
open PyProof.Rows.LCg

theorem swappedStores_of {ts vs : List Expr} {k k' : Nat} {p p' : Pos} {ev : Env} (hk : ev.scope.kind = .function) (h : swapOk ev.kindOf ts vs = true) :
    swappedStores [.Tuple ts k p] (.Tuple vs k' p') ev = pure (swapN ev.kindOf ts vs) := by
  have hb : ev.blockKind = .function := by unfold Env.blockKind; rw [hk]; rfl
  have hb' : (ev.blockKind != .function) = false := by rw [hb]; rfl
  have e : swappedStores [.Tuple ts k p] (.Tuple vs k' p') ev = (if (!(ts.length == 2 || ts.length == 3) || vs.length != ts.length || ev.blockKind != .function) = true then pure none
      else if (vs.any starOne) = true then pure none else if swapC ev.kindOf ts = true then pure none else if vs.all (foldedForSure 8) = true then pure none
      else if vs.all (constantsAlone 8) = true then (unsupported "assign.tuple-of-constant-expressions:order-of-the-stores" >>= fun (_ : PUnit) => pure (some (swapNames ev.kindOf ts))) else pure (some (swapNames ev.kindOf ts))) := by
    rfl
  rw [e, hb', Bool.or_false]
  unfold swapOk at h
  unfold swapN at h ⊢
  change (if swapA ts vs = true then _ else _) = _
  by_cases h1 : swapA ts vs = true
  · rw [if_pos h1, if_pos h1]
  · rw [if_neg h1, if_neg h1]
    rw [if_neg h1] at h
    by_cases h2 : (vs.any starOne) = true
    · rw [if_pos h2, if_pos h2]
    · rw [if_neg h2, if_neg h2]
      rw [if_neg h2] at h
      by_cases h3 : swapC ev.kindOf ts = true
      · rw [if_pos h3, if_pos h3]
      · rw [if_neg h3, if_neg h3]
        rw [if_neg h3] at h
        simp only [Bool.and_eq_true, Bool.not_eq_true'] at h
        rw [if_neg (by rw [h.1.1.1]; decide), if_neg (by rw [h.1.1.2]; decide)]

section
variable {prog : Program} {w : World} {K : Frag} {p : Program} {loose : List Str} {mean : ExcName → Option Value} {mg mb : Str → Option Value} {lv : Nat}
variable {h₀ h h' : Heap} {L : Addr} {A : Around} {fe ev : Env} {m : Str → Option Value} {priv pre post its cells : List (Addr × Obj)} {ρ : AEnv} {σ : Store} {s s₁ : Shared} {E : Value → Shared → Prop}
variable {rec : RE} {recT : RT} {chk : KO → Expr → Bool}

/-- how a function's own name is read -/
noncomputable def EnvF (fe : Env) (m : Str → Option Value) (cells : List (Addr × Obj)) (ρ : AEnv) : Prop :=
  ∀ x V, ρ x = some V → ∃ v, VR V v ∧ ((fe.kindOf x = some .local ∧ m x = some v) ∨ (fe.kindOf x = some .cell ∧ ∃ c o, fe.cells.lookup x = some c ∧ (c, o) ∈ cells ∧ o.data = .cell (some v)))
theorem EnvF.toR (h : EnvF fe m cells ρ) (hL : fe.locals = L) (hs : ∀ q ∈ cells, q ∈ priv) : EnvR fe L m priv ρ := by
  intro x V e
  obtain ⟨v, hv, q | ⟨h1, c, o, h2, h3, h4⟩⟩ := h x V e
  · exact ⟨v, hv, .inl ⟨q.1, hL, q.2⟩⟩
  · exact ⟨v, hv, .inr (.inr ⟨.inl h1, c, o, h2, hs _ h3, h4⟩)⟩

noncomputable def CellsK (fe : Env) (cells : List (Addr × Obj)) : Prop := (cells.map (·.1)).Nodup ∧ ∀ x c, fe.kindOf x = some .cell → fe.cells.lookup x = some c → ∃ o v, (c, o) ∈ cells ∧ o.data = .cell v
noncomputable def Dis (its : List (Addr × Obj)) (cells : List (Addr × Obj)) : Prop := ∀ p ∈ its, ∀ q ∈ cells, p.1 ≠ q.1

noncomputable def J (prog : Program) (w : World) (K : Frag) (h₀ : Heap) (L : Addr) (fe : Env) (ck : List Addr) (its : List (Addr × Obj)) (ρ : AEnv) (σ : Store) (h : Heap) : Prop :=
  ∃ m cells, cells.map (·.1) = ck ∧ CellsK fe cells ∧ Dis its cells ∧ St prog w K h₀ L m (its ++ cells) σ h ∧ EnvF fe m cells ρ

structure FnOk (K : Frag) (p : Program) (loose : List Str) (mean : ExcName → Option Value) (mg mb : Str → Option Value) (h₀ : Heap) (L : Addr) (A : Around) (fe : Env) (lv : Nat) : Prop where
  fm : Fm K p loose mean mg mb h₀ L A fe lv
  evk : EvOk fe
  loc : fe.locals = L
  inj : ∀ x y c, fe.kindOf x = some .cell → fe.kindOf y = some .cell → fe.cells.lookup x = some c → fe.cells.lookup y = some c → x = y

variable {ck : List Addr}


theorem store_sound {x : Str} {V : V} {v : Value} (H : FnOk K p loose mean mg mb h₀ L A fe lv) (hx : tOk fe.kindOf x = true) (hv : VR V v) (j : J prog w K h₀ L fe ck its ρ σ s.heap) :
    wpAny (model prog w) A (storeName fe x v) (fun _ s' => J prog w K h₀ L fe ck its (setE x V ρ) σ s'.heap ∧ Same s s') E s := by
  revert j; refine o2_5 fun m cells hck hcK hdis S en => ?_
  rcases Bool.or_eq_true_iff.mp hx with hk | hk
  · have hk : fe.kindOf x = some .local := beq_iff_eq.mp hk
    refine wpAny_storeName_local hk (H.loc ▸ S.fr.ns) (fun h' hn hs => ⟨⟨fun y => if y = x then some v else m y, cells, hck, hcK, hdis, ?_, ?_⟩, ⟨_, _, rfl⟩⟩) (by rw [H.evk.kd]; rfl)
    · revert S; refine o1_3 fun news F N D => ?_
      rw [H.loc] at hn hs
      exact ⟨news, F.set hn hs, N.set hs, D⟩
    · intro y W e
      unfold setE at e
      by_cases hy : y = x
      · subst hy
        rw [if_pos rfl] at e; cases e
        exact ⟨v, hv, .inl ⟨hk, if_pos rfl⟩⟩
      · rw [if_neg hy] at e
        refine o1_2 (fun u hu q => ?_) (en y W e)
        exact ⟨u, hu, q.imp (fun q => ⟨q.1, (if_neg hy).trans q.2⟩) id⟩
  · have hk : fe.kindOf x = some .cell := beq_iff_eq.mp hk
    obtain ⟨c, hc⟩ := Option.isSome_iff_exists.mp (H.evk.cl x hk)
    refine o2_2 (fun o v₀ hm hd => ?_) (hcK.2 x c hk hc)
    refine o2_1 (fun c1 c2 rf2_ => ?_) (List.append_of_mem hm); subst rf2_
    have nd := hcK.1
    rw [List.map_append, List.map_cons] at nd
    have nd1 : ∀ q ∈ c1, q.1 ≠ c := fun q hq e => by
      have := (List.nodup_append.mp nd).2.2 _ (List.mem_map_of_mem (f := (·.1)) hq) c (.head _)
      exact this e
    have nd2 : ∀ q ∈ c2, q.1 ≠ c := fun q hq e => by
      have := (List.nodup_cons.mp (List.nodup_append.mp nd).2.1).1
      exact this (e ▸ List.mem_map_of_mem (f := (·.1)) hq)
    refine wpAny_storeName_cell H.evk.kd hk hc ⟨o, S.cell (List.mem_append_right _ hm), hd⟩ fun h' hv' hs => ?_
    revert hv'; refine o1_2 fun o' ho' hd' => ?_
    refine ⟨⟨m, c1 ++ (c, o') :: c2, ?_, ⟨?_, ?_⟩, ?_, ?_, ?_⟩, ⟨_, _, rfl⟩⟩
    · rw [← hck]; simp
    · rw [List.map_append, List.map_cons]; exact nd
    · intro y d hy hyd
      refine o2_2 (fun o2 v2 hm2 hd2 => ?_) (hcK.2 y d hy hyd)
      rcases List.mem_append.mp hm2 with q | q
      · exact ⟨o2, v2, List.mem_append_left _ q, hd2⟩
      · rcases List.mem_cons.mp q with q | q
        · cases q; exact ⟨o', some v, List.mem_append_right _ (.head _), hd'⟩
        · exact ⟨o2, v2, List.mem_append_right _ (.tail _ q), hd2⟩
    · intro q hq r hr
      rcases List.mem_append.mp hr with z | z
      · exact hdis q hq r (List.mem_append_left _ z)
      · rcases List.mem_cons.mp z with rfl | z
        · exact hdis q hq (c, o) (List.mem_append_right _ (.head _))
        · exact hdis q hq r (List.mem_append_right _ (.tail _ z))
    · rw [← List.append_assoc] at S ⊢
      refine S.setPriv (fun q hq => ?_) nd2 hs ho'
      rcases List.mem_append.mp hq with z | z
      · exact hdis q z (c, o) hm
      · exact nd1 q z
    · intro y W e
      unfold setE at e
      by_cases hy : y = x
      · subst hy
        rw [if_pos rfl] at e; cases e
        exact ⟨v, hv, .inr ⟨hk, c, o', hc, List.mem_append_right _ (.head _), hd'⟩⟩
      · rw [if_neg hy] at e
        obtain ⟨u, hu, q | ⟨q1, d, o2, q2, q3, q4⟩⟩ := en y W e
        · exact ⟨u, hu, .inl q⟩
        · refine ⟨u, hu, .inr ⟨q1, d, o2, q2, ?_, q4⟩⟩
          have hdc : d ≠ c := fun e => hy (H.inj y x c q1 hk (e ▸ q2) hc)
          rcases List.mem_append.mp q3 with z | z
          · exact List.mem_append_left _ z
          · rcases List.mem_cons.mp z with z | z
            · cases z; exact absurd rfl hdc
            · exact List.mem_append_right _ (.tail _ z)

theorem J.grown {h h' : Heap} (j : J prog w K h₀ L fe ck its ρ σ h) (k : ∀ b o, h.get? b = some o → h'.get? b = some o) : J prog w K h₀ L fe ck its ρ σ h' := by
  revert j; refine o2_5 fun m cells h1 h2 h3 S h4 => ?_; exact ⟨m, cells, h1, h2, h3, S.grown k, h4⟩

/-- an expression at the level of statements -/
theorem exprJ (IH : SE prog w K p loose mean mg mb lv rec chk) (H : FnOk K p loose mean mg mb h₀ L A fe lv) {e : Expr} {Q : PE} (hc : chk fe.kindOf e = true) (j : J prog w K h₀ L fe ck its ρ σ s.heap) (h : rec e ρ σ Q) :
    wpAny (model prog w) A (eval e fe) (fun v s' => ∃ x σ', VR x v ∧ J prog w K h₀ L fe ck its ρ σ' s'.heap ∧ Same s s' ∧ Q x σ') NoE s := by
  revert j; refine o2_5 fun m cells h1 h2 h3 S h4 => ?_
  refine wpAny_mono (IH _ _ _ _ _ _ _ _ _ _ _ _ ⟨H.fm, H.evk, h4.toR H.loc fun q hq => List.mem_append_right _ hq⟩ hc S h) (fun v s' r => ?_) fun _ _ e => e
  revert r; refine o2_4 fun x σ' hv S' hs hq => ?_
  exact ⟨x, σ', hv, ⟨m, cells, h1, h2, h3, S', h4⟩, hs, hq⟩
theorem testJ (IHT : STT prog w K p loose mean mg mb lv recT chk) (H : FnOk K p loose mean mg mb h₀ L A fe lv) {e : Expr} {Q : Bool → Store → Prop} (hc : chk fe.kindOf e = true) (j : J prog w K h₀ L fe ck its ρ σ s.heap) (h : recT e ρ σ Q) :
    wpAny (model prog w) A (isTrue e fe (eval e fe)) (fun b s' => ∃ σ', J prog w K h₀ L fe ck its ρ σ' s'.heap ∧ Same s s' ∧ Q b σ') NoE s := by
  revert j; refine o2_5 fun m cells h1 h2 h3 S h4 => ?_
  refine wpAny_mono (IHT _ _ _ _ _ _ _ _ _ _ _ _ ⟨H.fm, H.evk, h4.toR H.loc fun q hq => List.mem_append_right _ hq⟩ hc S h) (fun v s' r => ?_) fun _ _ e => e
  revert r; refine o1_3 fun σ' S' hs hq => ?_
  exact ⟨σ', ⟨m, cells, h1, h2, h3, S', h4⟩, hs, hq⟩

theorem asgJ (H : FnOk K p loose mean mg mb h₀ L A fe lv) {t : Expr} {V : V} {v : Value} {k : AEnv → Prop} (ht : tgtOk (tOk fe.kindOf) 3 t = true) (hv : VR V v) (j : J prog w K h₀ L fe ck its ρ σ s.heap) (h : asgW 3 t V ρ σ k) :
    wpAny (model prog w) A (assign t fe v) (fun _ s' => ∃ ρ', J prog w K h₀ L fe ck its ρ' σ s'.heap ∧ Same s s' ∧ k ρ') NoE s :=
  asg_sound (σ := σ) (K := K) (w := w) (prog := prog) (J := fun ρ s => J prog w K h₀ L fe ck its ρ σ s.heap) H.fm.hh (fun x V v ρ s hx hv j => store_sound H hx hv j) (fun ρ s h' j k => j.grown k) (fun ρ s ⟨m, cells, _, _, _, S, _⟩ => ⟨_, _, _, _, S⟩) 3 t V v ρ s k ht h j hv
end

end

section
open PyProof.Rows.LCg


theorem swapsWith_of {ev : Env} {value target : Expr} {line : Nat} (hk : ev.scope.kind = .function) (h : listComp value = true ∨ isComp value = false) :
    swapsWith value (some target) line ev = pure (swapB ev.kindOf value target) := by
  have hb : ev.blockKind = .function := by unfold Env.blockKind; rw [hk]; rfl
  have hb' : (ev.blockKind == .function) = true := by rw [hb]; rfl
  cases value <;> first | rfl | (rcases h with h | h <;> cases h; done) | skip
  cases target <;> first | rfl | skip
  unfold swapsWith swapB
  dsimp only
  rw [hb', Bool.true_and]
  rfl
theorem swapB_comp {ko : KO} {value target : Expr} (h : isComp value = false) : swapB ko value target = false := by
  cases value <;> first | rfl | exact ns h | exact ft h | cases h

noncomputable def setAll : List Str → List V → AEnv → AEnv
  | x :: xs, v :: vs, ρ => setAll xs vs (setE x v ρ)
  | _, _, ρ => ρ
theorem setAll_snoc (x : Str) (v : V) : ∀ (ns : List Str) (Vs : List V) (ρ : AEnv), ns.length = Vs.length → setAll (ns ++ [x]) (Vs ++ [v]) ρ = setE x v (setAll ns Vs ρ)
  | [], [], _, _ => rfl
  | y :: ns, u :: Vs, ρ, h => setAll_snoc x v ns Vs _ (by simpa using h)
  | [], _ :: _, _, h => by simp at h
  | _ :: _, [], _, h => by simp at h
theorem setE_comm {x y : Str} {u v : V} {ρ : AEnv} (h : x ≠ y) : setE x u (setE y v ρ) = setE y v (setE x u ρ) := by
  funext z
  unfold setE
  by_cases h1 : z = x
  · subst h1; simp [h]
  · simp [h1]
theorem setAll_out (x : Str) (v : V) : ∀ (ns : List Str) (Vs : List V) (ρ : AEnv), x ∉ ns → setAll ns Vs (setE x v ρ) = setE x v (setAll ns Vs ρ)
  | [], _, _, _ => rfl
  | _ :: _, [], _, _ => rfl
  | y :: ns, u :: Vs, ρ, h => by
    show setAll ns Vs (setE y u (setE x v ρ)) = _
    rw [setE_comm (fun e => h (by rw [e]; exact .head _)), setAll_out x v ns Vs _ fun hx => h (.tail _ hx)]
    rfl
theorem setAll_rev : ∀ (ns : List Str) (Vs : List V) (ρ : AEnv), ns.length = Vs.length → ns.Nodup → setAll ns.reverse Vs.reverse ρ = setAll ns Vs ρ
  | [], [], _, _, _ => rfl
  | [], _ :: _, _, h, _ => by simp at h
  | _ :: _, [], _, h, _ => by simp at h
  | x :: ns, v :: Vs, ρ, h, hn => by
    have hn' := List.nodup_cons.mp hn
    rw [List.reverse_cons, List.reverse_cons, setAll_snoc _ _ _ _ _ (by simpa using h), setAll_rev ns Vs ρ (by simpa using h) hn'.2]
    exact (setAll_out x v ns Vs ρ hn'.1).symm
theorem asgL_names {n : Nat} {σ : Store} {k : AEnv → Prop} : ∀ (ts : List Expr) (ns : List Str) (Vs : List V) (ρ : AEnv), ts.map nameOf = ns.map some → asgL (asgW (n + 1)) ts Vs ρ σ k → k (setAll ns Vs ρ)
  | [], [], [], _, _, h => h
  | [], [], _ :: _, _, _, h => h.elim
  | [], _ :: _, _, _, e, _ => by simp at e
  | _ :: _, [], _, _, e, _ => by simp at e
  | t :: ts, x :: ns, [], _, _, h => h.elim
  | t :: ts, x :: ns, v :: Vs, ρ, e, h => by
    rw [List.map_cons, List.map_cons] at e
    injection e with e1 e2
    cases t <;> first | (cases e1; done) | skip
    cases e1
    exact asgL_names ts ns Vs _ e2 h

inductive FlR : Fl → Flow → Prop
  | next : FlR .next .next
  | brk : FlR .brk .brk
  | cont : FlR .cont .cont
  | ret {V : V} {v : Value} : VR V v → FlR (.ret V) (.ret v)

section
variable {prog : Program} {w : World} {K : Frag} {p : Program} {loose : List Str} {mean : ExcName → Option Value} {mg mb : Str → Option Value} {lv : Nat}
variable {h₀ h h' : Heap} {L : Addr} {A : Around} {fe ev : Env} {m : Str → Option Value} {priv pre post its cells : List (Addr × Obj)} {ρ : AEnv} {σ : Store} {s s₁ : Shared} {E : Value → Shared → Prop}
variable {rec : RE} {recT : RT} {chk : KO → Expr → Bool} {ck : List Addr}

theorem asgPairs (H : FnOk K p loose mean mg mb h₀ L A fe lv) : ∀ (ns : List Str) (Vs : List V) (vs : List Value) (ρ : AEnv) (s : Shared), ns.length = Vs.length → (∀ x ∈ ns, tOk fe.kindOf x = true) → VRs Vs vs → J prog w K h₀ L fe ck its ρ σ s.heap →
    wpAny (model prog w) A (assignInOrder (ns.map fun n => bindName fe n) vs) (fun _ s' => J prog w K h₀ L fe ck its (setAll ns Vs ρ) σ s'.heap ∧ Same s s') NoE s
  | [], [], vs, ρ, s, _, _, hv, j => assignInOrder_nil ⟨j, .refl _⟩
  | [], _ :: _, _, _, _, h, _, _, _ => by simp at h
  | _ :: _, [], _, _, _, h, _, _, _ => by simp at h
  | x :: ns, V :: Vs, vs, ρ, s, h, ho, hv, j => by
    refine o2_3 (fun v r rf2_ hx hr => ?_) (hv.cons_inv); subst rf2_
    rw [List.map_cons]
    refine assignInOrder_cons (wpAny_bindName (wpAny_mono (store_sound H (ho x (.head _)) hx j) (fun _ s₁ q => ?_) fun _ _ e => e))
    refine wpAny_mono (asgPairs H ns Vs r _ s₁ (by simpa using h) (fun y hy => ho y (.tail _ hy)) hr q.1) (fun _ s₂ z => ⟨z.1, q.2.trans z.2⟩) fun _ _ e => e

noncomputable def ResS (prog : Program) (w : World) (K : Frag) (h₀ : Heap) (L : Addr) (fe : Env) (ck : List Addr) (its : List (Addr × Obj)) (Q : PS) (s : Shared) (fl : Flow) (s' : Shared) : Prop :=
  ∃ f ρ σ, FlR f fl ∧ J prog w K h₀ L fe ck its ρ σ s'.heap ∧ Same s s' ∧ Q f ρ σ
theorem ResS.trans {Q : PS} {fl : Flow} {s' : Shared} (h : Same s s₁) (r : ResS prog w K h₀ L fe ck its Q s₁ fl s') : ResS prog w K h₀ L fe ck its Q s fl s' := by
  revert r; refine o3_4 fun f ρ σ h1 h2 h3 h4 => ?_; exact ⟨f, ρ, σ, h1, h2, h.trans h3, h4⟩

noncomputable def SS (prog : Program) (w : World) (K : Frag) (h₀ : Heap) (L : Addr) (A : Around) (fe : Env) (ck : List Addr) (rec : RS) (chk : Stmt → Bool) : Prop := ∀ its st ρ σ Q s, chk st = true → J prog w K h₀ L fe ck its ρ σ s.heap → rec st ρ σ Q →
  wpAny (model prog w) A (exec st fe) (ResS prog w K h₀ L fe ck its Q s) NoE s

variable {recS : RS} {chkB : Stmt → Bool}
theorem blk_sound (IS : SS prog w K h₀ L A fe ck recS chkB) : ∀ {ss : List Stmt} {ρ : AEnv} {σ : Store} {Q : PS} {s : Shared}, ss.all chkB = true → J prog w K h₀ L fe ck its ρ σ s.heap → blkW recS ss ρ σ Q →
    wpAny (model prog w) A (execs ss fe) (ResS prog w K h₀ L fe ck its Q s) NoE s
  | [], ρ, σ, Q, s, _, j, h => wpAny_execs_nil ⟨.next, ρ, σ, .next, j, .refl _, h⟩
  | st :: ss, ρ, σ, Q, s, hc, j, h => by
    rw [List.all_cons, Bool.and_eq_true] at hc
    refine wpAny_execs_cons (wpAny_mono (IS _ _ _ _ _ _ hc.1 j h) (fun fl s₁ r => ?_) fun _ _ e => e)
    revert r; refine o3_4 fun f ρ₁ σ₁ hf j₁ hs hq => ?_
    cases hf with
    | next => exact wpAny_mono (blk_sound IS hc.2 j₁ hq) (fun fl s' r => r.trans hs) fun _ _ e => e
    | brk => exact ⟨_, _, _, .brk, j₁, hs, hq⟩
    | cont => exact ⟨_, _, _, .cont, j₁, hs, hq⟩
    | ret hv => exact ⟨_, _, _, .ret hv, j₁, hs, hq⟩

theorem J.sub {its' : List (Addr × Obj)} {h : Heap} (j : J prog w K h₀ L fe ck its ρ σ h) (hs : ∀ q ∈ its', q ∈ its) : J prog w K h₀ L fe ck its' ρ σ h := by
  revert j; refine o2_5 fun m cells h1 h2 h3 S h4 => ?_
  refine ⟨m, cells, h1, h2, fun q hq => h3 q (hs q hq), S.sub fun q hq => ?_, h4⟩
  rcases List.mem_append.mp hq with z | z
  · exact List.mem_append_left _ (hs q z)
  · exact List.mem_append_right _ z

theorem whl_sound (IS : SS prog w K h₀ L A fe ck recS chkB) (IHT : STT prog w K p loose mean mg mb lv recT chk) (H : FnOk K p loose mean mg mb h₀ L A fe lv) {t : Expr} {b : List Stmt} {pos : Pos} {Q : PS} (hc : chk fe.kindOf t = true) (hb : b.all chkB = true)
    (j : J prog w K h₀ L fe ck its ρ σ s.heap) (h : whileW (fun ρ σ k => recT t ρ σ k) (blkW recS b) ρ σ Q) :
    wpAny (model prog w) A (exec (.While t b [] pos) fe) (ResS prog w K h₀ L fe ck its Q s) NoE s := by
  refine wpAny_While ?_
  refine h (fun ρ σ => ∀ s', J prog w K h₀ L fe ck its ρ σ s'.heap → Same s s' → codeAny (model prog w) A (.whileLoop t b [] fe) (fun r s'' => match r with | .ok f => ResS prog w K h₀ L fe ck its Q s f s'' | .error e => cameBackBy (model prog w) A fe NoE e s'') s') ?_ s j (.refl _)
  intro ρ σ hst s' j' hs'
  refine whileStep_own (wpAny_mono (testJ IHT H hc j' hst) (fun c s₂ r => ?_) fun _ _ e => e)
  revert r; refine o1_3 fun σ₁ j₁ hs₁ hq => ?_
  cases c with
  | false => exact ⟨.next, _, _, .next, j₁, hs'.trans hs₁, hq⟩
  | true =>
    simp only [if_true] at hq ⊢
    refine wpAny_mono (blk_sound IS hb j₁ hq) (fun fl s₃ r => ?_) fun _ _ e => e
    revert r; refine o3_4 fun f ρ₂ σ₂ hf j₂ hs₂ hq₂ => ?_
    have hs3 := (hs'.trans hs₁).trans hs₂
    cases hf with
    | next => exact hq₂ s₃ j₂ hs3
    | cont => exact hq₂ s₃ j₂ hs3
    | brk => exact ⟨_, _, _, .next, j₂, hs3, hq₂⟩
    | ret hv => exact ⟨_, _, _, .ret hv, j₂, hs3, hq₂⟩

theorem for_sound (IS : SS prog w K h₀ L A fe ck recS chkB) (IH : SE prog w K p loose mean mg mb lv rec chk) (H : FnOk K p loose mean mg mb h₀ L A fe lv) (hbf : bltFree K = true) {t it : Expr} {b : List Stmt} {pos : Pos} {Q : PS}
    (hci : chkI chk fe.kindOf it = true) (hnd : notDisp it = true) (ht : tgtOk (tOk fe.kindOf) 3 t = true) (hb : b.all chkB = true)
    (j : J prog w K h₀ L fe ck its ρ σ s.heap) (h : srcW rec it ρ σ fun xs o σ₁ => forW (blkW recS b) t o xs ρ σ₁ Q) :
    wpAny (model prog w) A (exec (.For t it b [] pos) fe) (ResS prog w K h₀ L fe ck its Q s) NoE s := by
  refine wpAny_For ?_ (folded_of hnd)
  revert j; refine o2_5 fun m cells h1 h2 h3 S h4 => ?_
  refine wpAny_mono (src_sound IH ⟨H.fm, H.evk, h4.toR H.loc fun q hq => List.mem_append_right _ hq⟩ hbf hci S h) (fun x s₁ q => wpAny_mono q (fun itv s₂ r => ?_) fun _ _ e => e) fun _ _ e => e
  obtain ⟨I, oI, src, n, σ₁, rfl, hn, hbn, hI, hst, S₂, hs₂, hne, hq⟩ := r
  have hItI : ∀ q ∈ its, q.1 ≠ I := fun q hq => hne q (List.mem_append_left _ hq)
  have hckI : ∀ c ∈ ck, c ≠ I := fun c hc => by
    rw [← h1] at hc
    refine o1_2 (fun q hq rf2_ => ?_) (List.mem_map.mp hc); subst rf2_
    exact hne q (List.mem_append_right _ hq)
  have loop : ∀ (xs : List V) (i : Nat) (ρ : AEnv) (σ : Store) (oI : Obj) (s' : Shared), (itemsOf src n).drop i = xs → i ≤ n → ItAt src n i oI → stillW src σ → J prog w K h₀ L fe ck ((I, oI) :: its) ρ σ s'.heap → Same s s' → forW (blkW recS b) t src xs ρ σ Q →
      codeAny (model prog w) A (.forLoop t (.ref I) b [] fe) (fun r s'' => match r with | .ok f => ResS prog w K h₀ L fe ck its Q s f s'' | .error e => cameBackBy (model prog w) A fe NoE e s'') s' := by
    intro xs
    induction xs with
    | nil =>
      intro i ρ σ oI s' hd hi hI hst j hs hqz
      have hin : i = n := by
        have := congrArg List.length hd
        rw [List.length_drop, ← hn] at this
        simp at this; omega
      subst hin
      revert j; refine o2_5 fun m' cells' k1 k2 k3 S' k4 => ?_
      have hno : ∀ q ∈ its ++ cells', q.1 ≠ I := fun q hq => by
        rcases List.mem_append.mp hq with z | z
        · exact hItI q z
        · exact hckI _ (k1 ▸ List.mem_map_of_mem (f := (·.1)) z)
      refine forStep_own (wpAny_mono (it_end (pre := []) H.fm.hh S' (fun _ h => nomatch h) hno hI hst hn) (fun r s₁ q => ?_) fun _ _ e => e)
      revert q; refine o0_3 fun rf0_ S₁ hs₁ => ?_; subst rf0_
      exact ⟨.next, ρ, σ, .next, ⟨m', cells', k1, k2, fun q hq => k3 q (.tail _ hq), S₁, k4⟩, hs.trans hs₁, hqz⟩
    | cons x xs ih =>
      intro i ρ σ oI s' hd hi hI hst j hs hq
      have hx : (itemsOf src n)[i]? = some x := by
        have := congrArg (fun l => l[0]?) hd
        simpa using this
      have hlt : i < n := by
        have := (List.getElem?_eq_some_iff.mp hx).1
        omega
      have hd' : (itemsOf src n).drop (i + 1) = xs := by
        have := congrArg List.tail hd
        simpa [List.tail_drop] using this
      revert j; refine o2_5 fun m' cells' k1 k2 k3 S' k4 => ?_
      have hno : ∀ q ∈ its ++ cells', q.1 ≠ I := fun q hq => by
        rcases List.mem_append.mp hq with z | z
        · exact hItI q z
        · exact hckI _ (k1 ▸ List.mem_map_of_mem (f := (·.1)) z)
      refine forStep_own (wpAny_mono (it_next (pre := []) S' (fun _ h => nomatch h) hno hI hst hn hx) (fun r s₁ q => ?_) fun _ _ e => e)
      revert q; refine o2_5 fun v oI' rf2_ hvx hI' S₁ hs₁ => ?_; subst rf2_
      dsimp only
      refine letOwned (S₁.cell (.head _)) hI' ?_
      have j₁ : J prog w K h₀ L fe ck ((I, oI') :: its) ρ σ s₁.heap := ⟨m', cells', k1, k2, fun q hq r hr => by
        rcases List.mem_cons.mp hq with rfl | hq
        · exact Ne.symm (hno r (List.mem_append_right _ hr))
        · exact k3 q (.tail _ hq) r hr, S₁, k4⟩
      refine wpAny_mono (asgJ H ht hvx j₁ hq) (fun _ s₂ r => ?_) fun _ _ e => e
      revert r; refine o1_3 fun ρ₂ j₂ hs₂ hq₂ => ?_
      refine wpAny_mono (blk_sound IS hb j₂ hq₂) (fun fl s₃ r => ?_) fun _ _ e => e
      revert r; refine o3_4 fun f ρ₃ σ₃ hf j₃ hs₃ hq₃ => ?_
      have hs03 := ((hs.trans hs₁).trans hs₂).trans hs₃
      cases hf with
      | next => exact ih (i + 1) ρ₃ σ₃ oI' s₃ hd' hlt hI' hq₃.1 j₃ hs03 hq₃.2
      | cont => exact ih (i + 1) ρ₃ σ₃ oI' s₃ hd' hlt hI' hq₃.1 j₃ hs03 hq₃.2
      | brk => exact ⟨_, _, _, .next, j₃.sub fun q hq => .tail _ hq, hs03, hq₃⟩
      | ret hv => exact ⟨_, _, _, .ret hv, j₃.sub fun q hq => .tail _ hq, hs03, hq₃⟩
  refine loop (itemsOf src n) 0 ρ σ₁ oI s₂ rfl (Nat.zero_le _) hI hst ⟨m, cells, h1, h2, fun q hq r hr => ?_, S₂, h4⟩ hs₂ hq
  rcases List.mem_cons.mp hq with rfl | hq
  · exact Ne.symm (hne r (List.mem_append_right _ hr))
  · exact h3 q hq r hr
end

end

section
open PyProof.Rows.LCg

section
variable {prog : Program} {w : World} {K : Frag} {p : Program} {loose : List Str} {mean : ExcName → Option Value} {mg mb : Str → Option Value} {lv : Nat}
variable {h₀ h h' : Heap} {L : Addr} {A : Around} {fe ev : Env} {m : Str → Option Value} {priv pre post its cells : List (Addr × Obj)} {ρ : AEnv} {σ : Store} {s s₁ : Shared} {E : Value → Shared → Prop}
variable {rec : RE} {recT : RT} {chk : KO → Expr → Bool} {ck : List Addr} {cl : CL}

theorem VRs.setAt {xs : List V} {vs : List Value} {x : V} {v : Value} (h : VRs xs vs) (hx : VR x v) : ∀ j : Nat, VRs (xs.set j x) (vs.set j v) := by
  induction h with
  | nil => intro j; exact .nil
  | cons h1 h2 ih =>
    intro j
    cases j with
    | zero => exact .cons hx h2
    | succ j => exact .cons h1 (ih j)
theorem VRs.reverse {xs : List V} {vs : List Value} (h : VRs xs vs) : VRs xs.reverse vs.reverse := by
  induction h with
  | nil => exact .nil
  | cons h1 h2 ih => rw [List.reverse_cons, List.reverse_cons]; exact ih.append (.cons h1 .nil)
theorem setItem_sound {o i v : V} {ov iv vv : Value} {k : Store → Prop} {P : Unit → Shared → Prop} (ho : VR o ov) (hi : VR i iv) (hv : VR v vv) (S : St prog w K h₀ L m priv σ s.heap) (h : setItemW σ o i v k)
    (fin : ∀ σ' s', St prog w K h₀ L m priv σ' s'.heap → Same s s' → k σ' → P () s') : wpAny (model prog w) A (setItem ov iv vv) P E s := by
  obtain ⟨a, xs, rfl, ha, h⟩ := listW_inv h
  obtain ⟨j, rfl, ⟨h0, h1⟩, h⟩ := intW_inv h
  obtain rfl := ho.ref_inv
  obtain ⟨t, rfl⟩ := hi
  revert S; refine o1_3 fun news F N D => ?_
  obtain ⟨ow, hrep⟩ := D.rep
  have R := hrep a _ ha
  obtain ⟨ha1, vs, n, m1, hvs, hb⟩ := id R
  have hl : vs.size = xs.length := by rw [← hvs.length, Array.length_toList]
  have U := D.upd (o' := listOf (vs.toList.set j.toNat vv).toArray n) m1
  have D' := D
  refine o2_4 (fun pr po e1 e2 b1 b2 => ?_) (U.split)
  have N1 := N
  rw [e1] at N1
  have z := N1 (a, listOf vs n) (List.mem_append_right _ (.head _))
  have hfit : j < 2 ^ 63 := by unfold bigN at hb; omega
  refine ki_setAt z.1 h0 hfit (by omega) ?_
  have he : vs.setIfInBounds j.toNat vv = (vs.toList.set j.toNat vv).toArray := by
    apply Array.toList_inj.mp
    simp
  have N2 := ki_turn (n' := n) (fun x => x.setIfInBounds j.toNat vv) N1 b1 b2 he (by simp)
  · rw [← e2] at N2
    refine fin _ _ (St.change (o' := .list (xs.set j.toNat v)) (F.change (Heap.SameBut.update ..) z.2.1 z.2.2) D' hrep ha1 m1 N2 ⟨ha1, _, _, putL1_mem m1, ?_, by rw [List.length_set]; exact hb⟩) ⟨_, _, rfl⟩ h
    exact hvs.setAt hv _

/-- a comprehension that stores its list itself -/
theorem asgComp_sound (IH : SE prog w K p loose mean mg mb lv rec chk) (IHT : STT prog w K p loose mean mg mb lv recT chk) (H : FnOk K p loose mean mg mb h₀ L A fe lv) (hb : bltFree K = true)
    {elt t it : Expr} {ifs : List Expr} {sc : Scope} {cpos xp pos : Pos} {x : Str} {Q : PS} (hsw : swapB fe.kindOf (.ListComp elt [⟨t, it, ifs, 0⟩] sc cpos) (.Name x xp) = true)
    (hc : chkS chk fe.kindOf (.ListComp elt [⟨t, it, ifs, 0⟩] sc cpos) = true) (j : J prog w K h₀ L fe ck its ρ σ s.heap)
    (h : srcW rec it ρ σ fun xs o σ₁ => compL rec recT elt t ifs o xs (compEnvA sc ρ) σ₁ [] fun v σ₂ => Q .next (setE x v ρ) σ₂) :
    wpAny (model prog w) A (exec (.Assign [.Name x xp] (.ListComp elt [⟨t, it, ifs, 0⟩] sc cpos) pos) fe) (ResS prog w K h₀ L fe ck its Q s) NoE s := by
  obtain ⟨h5, hce⟩ := Bool.and_eq_true_iff.mp (show (_ && _) = true from hc)
  obtain ⟨h4, hcf⟩ := Bool.and_eq_true_iff.mp h5
  obtain ⟨h3, ht⟩ := Bool.and_eq_true_iff.mp h4
  obtain ⟨h2, hnd⟩ := Bool.and_eq_true_iff.mp h3
  obtain ⟨hsc, hci⟩ := Bool.and_eq_true_iff.mp h2
  have hs := scOk_of hsc
  have hk : fe.kindOf x = some .local := by
    unfold swapB at hsw
    simp only [Bool.and_eq_true, beq_iff_eq] at hsw
    exact hsw.1.1
  refine o1_2 (fun cl hcl1 hcl2 => ?_) (clos_ok (ev := fe) (sc := sc) (fun y hy e => H.evk.cl _ (hs.free y hy e)) hs.nd)
  rw [exec_Assign_Name_used _ _ _ _ (by rw [swapsWith_of H.evk.kd (.inl rfl), hsw])]
  refine wpAny_bind (wpAny_standAt (wpAny_bind ?_))
  show wpAny _ A (do let _ ← comprehension (.ListComp elt [⟨t, it, ifs, 0⟩] sc cpos) sc fe _ (newList []) false (eval it fe) (some (assign (.Name x xp) fe))) _ _ s
  revert j; refine o2_5 fun m cells h1 h2 h3 S h4 => ?_
  refine wpAny_bind (wpAny_mono (wpAny_comprehension_free (use := some (assign (.Name x xp) fe)) (Q := fun _ s' => ResS prog w K h₀ L fe ck its Q s .next s') rfl (folded_of hnd) hcl1 hs.kind hs.loc ?_) (fun _ s' hq => wpAny_pure (wpAny_pure hq)) fun _ _ e => e)
  refine comp_core IH IHT ⟨H.fm, H.evk, h4.toR H.loc fun q hq => List.mem_append_right _ hq⟩ hb hs hcl2 hci ht hcf hce S h ?_
  intro D C acc vs nD oC mc σ' s' hpC hpD hCD hns S' hss hv hbb hq
  have jj : J prog w K h₀ L fe ck ((C, oC) :: (D, listOf (List.toArray vs) nD) :: its) ρ σ' s'.heap := ⟨m, cells, h1, h2, fun q hq r hr => by
    rcases List.mem_cons.mp hq with rfl | hq
    · exact Ne.symm (hpC r (List.mem_append_right _ hr))
    rcases List.mem_cons.mp hq with rfl | hq
    · exact Ne.symm (hpD r (List.mem_append_right _ hr))
    · exact h3 q hq r hr, S', h4⟩
  refine wpAny_assign_Name (wpAny_mono (store_sound H (by unfold tOk; rw [hk]; rfl) (.ref D) jj) (fun _ s₂ r => ?_) fun _ _ e => e)
  obtain ⟨⟨m', cells', k1, k2, k3, S₂, k4⟩, hs₂⟩ := r
  refine ⟨mc, hns.ns (S₂.cell (.head _)), fun h' hsb => ?_⟩
  have dC : ∀ q ∈ (D, listOf (List.toArray vs) nD) :: (its ++ cells'), q.1 ≠ C := fun q hq => by
    rcases List.mem_cons.mp hq with rfl | hq
    · exact Ne.symm hCD
    rcases List.mem_append.mp hq with hq | hq
    · exact hpC q (List.mem_append_left _ hq)
    · exact Ne.symm (k3 _ (.head _) q hq)
  have S₃ := S₂.dropPriv (pre := []) (h' := h') (fun _ h => nomatch h) dC (fun b o hbn e => hsb.extBut b o hbn e)
  have dD : ∀ q ∈ its ++ cells', q.1 ≠ D := fun q hq => by
    rcases List.mem_append.mp hq with hq | hq
    · exact hpD q (List.mem_append_left _ hq)
    · exact Ne.symm (k3 _ (.tail _ (.head _)) q hq)
  obtain ⟨hf, S₄⟩ := St.adopt S₃ dD hv hbb
  exact ⟨.next, _, _, .next, ⟨m', cells', k1, k2, fun q hq => k3 q (.tail _ (.tail _ hq)), S₄, k4⟩, (hss.trans hs₂).trans ⟨_, _, rfl⟩, hq D hf⟩

theorem notComp_or {e : Expr} (h : (listComp e || !isComp e) = true) : listComp e = true ∨ isComp e = false := by
  rcases Bool.or_eq_true_iff.mp h with h | h
  · exact .inl h
  · exact .inr (by simpa using h)

theorem swapB_comp' {ko : KO} {e : Expr} {x : Str} {xp : Pos} (h : swapB ko e (.Name x xp) = true) : ∃ elt gens sc cpos, e = .ListComp elt gens sc cpos := by
  cases e <;> first | exact ⟨_, _, _, _, rfl⟩ | cases h
theorem swap_none {ts : List Expr} {k : Nat} {tp : Pos} {e : Expr} {fe : Env} (h : ¬∃ vs k' p', e = .Tuple vs k' p') : swappedStores [.Tuple ts k tp] e fe = pure none := by
  cases e <;> first | rfl | exact absurd ⟨_, _, _, rfl⟩ h
theorem tgt_of {chk : KO → Expr → Bool} {ko : KO} {e t : Expr} (h : tgtSub chk ko e t = true) : (∃ o x p, t = .Attribute o x p) ∨ (∃ o i p, t = .Subscript o i p) ∨ (∃ x p, t = .Name x p) ∨ ∃ ts k p, t = .Tuple ts k p := by
  cases t <;> first | exact .inl ⟨_, _, _, rfl⟩ | exact .inr (.inl ⟨_, _, _, rfl⟩) | exact .inr (.inr (.inl ⟨_, _, rfl⟩)) | exact .inr (.inr (.inr ⟨_, _, _, rfl⟩)) | cases h
theorem assign_sound (IH : SE prog w K p loose mean mg mb lv rec chk) (IHT : STT prog w K p loose mean mg mb lv recT chk) (IH1 : SE prog w K p loose mean mg mb lv (stE cl rec recT) (chkS chk)) (H : FnOk K p loose mean mg mb h₀ L A fe lv) (hb : bltFree K = true)
    {t e : Expr} {pos : Pos} {Q : PS} (hce : chkS chk fe.kindOf e = true) (hct : tgtSub (chkS chk) fe.kindOf e t = true) (j : J prog w K h₀ L fe ck its ρ σ s.heap)
    (h : stE cl rec recT e ρ σ fun v σ₁ => assW (stE cl rec recT) t v ρ σ₁ Q) : wpAny (model prog w) A (exec (.Assign [t] e pos) fe) (ResS prog w K h₀ L fe ck its Q s) NoE s := by
  rcases tgt_of hct with ⟨o, x, tp, rfl⟩ | ⟨o, i, tp, rfl⟩ | ⟨x, xp, rfl⟩ | ⟨ts, k, tp, rfl⟩
  · -- attribute
    have hct : (chkS chk fe.kindOf o && !isComp e) = true := hct
    simp only [Bool.and_eq_true, Bool.not_eq_true'] at hct
    refine plainObj_wpAny_Assign_Attribute ?_ (by rw [swapsWith_of H.evk.kd (.inr hct.2), swapB_comp hct.2])
    refine wpAny_mono (exprJ IH1 H hce j h) (fun v s₁ r => ?_) fun _ _ e => e
    revert r; refine o2_4 fun V σ₁ hv j₁ hs₁ hq => ?_
    have hq' : (stE cl rec recT) o ρ σ₁ fun ov σ₂ => setW σ₂ ov x V fun σ₃ => Q .next ρ σ₃ := hq
    refine wpAny_mono (exprJ IH1 H hct.1 j₁ hq') (fun ov s₂ r => ?_) fun _ _ e => e
    obtain ⟨O, σ₂, ho, ⟨m, cells, k1, k2, k3, S, k4⟩, hs₂, hq₂⟩ := r
    refine o1_2 (fun a e1 hq3 => ?_) (refW_inv hq₂)
    clear hq₂
    subst e1
    obtain rfl := ho.ref_inv
    cases q : σ₂ a with
    | none => rw [q] at hq3; exact hq3.elim
    | some oo =>
      cases oo <;> (rw [q] at hq3; try exact hq3.elim)
      obtain ⟨⟨hx, hl⟩, hq4⟩ := hq3
      exact op_set H.fm.X S q hx hv hl fun s' S' hs' => ⟨.next, ρ, _, .next, ⟨m, cells, k1, k2, k3, S', k4⟩, (hs₁.trans hs₂).trans hs', hq4⟩
  · -- item
    have hct : (chkS chk fe.kindOf o && chkS chk fe.kindOf i && notSlice i && !isComp e) = true := hct
    simp only [Bool.and_eq_true, Bool.not_eq_true'] at hct
    obtain ⟨⟨⟨c1, c2⟩, c3⟩, c4⟩ := hct
    refine wpAny_Assign_Subscript ?_ (by rw [swapsWith_of H.evk.kd (.inr c4), swapB_comp c4])
    refine wpAny_mono (exprJ IH1 H hce j h) (fun v s₁ r => ?_) fun _ _ e => e
    revert r; refine o2_4 fun V σ₁ hv j₁ hs₁ hq => ?_
    have hq' : (stE cl rec recT) o ρ σ₁ fun ov σ₂ => (stE cl rec recT) i ρ σ₂ fun iv σ₃ => setItemW σ₃ ov iv V fun σ₄ => Q .next ρ σ₄ := hq
    refine wpAny_mono (exprJ IH1 H c1 j₁ hq') (fun ov s₂ r => ?_) fun _ _ e => e
    revert r; refine o2_4 fun O σ₂ ho j₂ hs₂ hq₂ => ?_
    refine wpAny_mono (exprJ IH1 H c2 j₂ hq₂) (fun iv s₃ r => ?_) fun _ _ e => e
    obtain ⟨I, σ₃, hi, ⟨m, cells, k1, k2, k3, S, k4⟩, hs₃, hq₃⟩ := r
    exact setItem_sound ho hi hv S hq₃ fun σ' s' S' hs' hk => ⟨.next, ρ, _, .next, ⟨m, cells, k1, k2, k3, S', k4⟩, ((hs₁.trans hs₂).trans hs₃).trans hs', hk⟩
  · -- name
    obtain ⟨c1, c2⟩ := Bool.and_eq_true_iff.mp (show (tOk fe.kindOf x && (listComp e || !isComp e)) = true from hct)
    by_cases hsw : swapB fe.kindOf e (.Name x xp) = true
    · refine o4_1 (fun elt gens sc cpos rf4_ => ?_) (swapB_comp' hsw); subst rf4_
      cases gens with
      | nil => exact False.elim h
      | cons g gs =>
        obtain ⟨t, it, ifs, asy⟩ := g
        cases asy with
        | negSucc _ => cases gs <;> exact False.elim h
        | ofNat asy =>
          cases asy with
          | succ _ => cases gs <;> exact False.elim h
          | zero =>
            cases gs with
            | cons _ _ => exact False.elim h
            | nil => exact asgComp_sound IH IHT H hb hsw hce j h
    · have hsw' : swapB fe.kindOf e (.Name x xp) = false := by simpa using hsw
      refine wpAny_Assign_Name ?_ (by rw [swapsWith_of H.evk.kd (notComp_or c2), hsw'])
      refine wpAny_mono (exprJ IH1 H hce j h) (fun v s₁ r => ?_) fun _ _ e => e
      revert r; refine o2_4 fun V σ₁ hv j₁ hs₁ hq => ?_
      refine wpAny_mono (store_sound H c1 hv j₁) (fun _ s₂ r => ?_) fun _ _ e => e
      exact ⟨.next, _, _, .next, r.1, hs₁.trans r.2, hq⟩
  · -- tuple
    obtain ⟨c12, c3⟩ := Bool.and_eq_true_iff.mp (show (_ && _) = true from hct)
    obtain ⟨c1, c2⟩ := Bool.and_eq_true_iff.mp c12
    simp only [Bool.not_eq_true'] at c2
    have hsole : swapsWithSole [.Tuple ts k tp] e pos.line fe = pure false := by
      show swapsWith e (some (.Tuple ts k tp)) pos.line fe = _
      rw [swapsWith_of H.evk.kd (.inr c2), swapB_comp c2]
    have plain : swappedStores [.Tuple ts k tp] e fe = pure none → wpAny (model prog w) A (exec (.Assign [.Tuple ts k tp] e pos) fe) (ResS prog w K h₀ L fe ck its Q s) NoE s := by
      intro hw
      refine Assign_Tuple ?_ hsole hw
      refine wpAny_mono (exprJ IH1 H hce j h) (fun v s₁ r => ?_) fun _ _ e => e
      revert r; refine o2_4 fun V σ₁ hv j₁ hs₁ hq => ?_
      refine wpAny_mono (asgJ H c1 hv j₁ hq) (fun _ s₂ r => ?_) fun _ _ e => e
      revert r; refine o1_3 fun ρ' j₂ hs₂ hk => ?_
      exact ⟨.next, _, _, .next, j₂, hs₁.trans hs₂, hk⟩
    by_cases htup : ∃ vs k' p', e = .Tuple vs k' p'
    · revert htup; refine o3_1 fun vs k' p' rf3_ => ?_; subst rf3_
      have c3' : swapOk fe.kindOf ts vs = true := c3
      have hw := swappedStores_of (k := k) (k' := k') (p := tp) (p' := p') (ts := ts) (vs := vs) H.evk.kd c3'
      cases q : swapN fe.kindOf ts vs with
      | none => rw [q] at hw; exact plain hw
      | some names =>
        rw [q] at hw
        unfold swapOk at c3'
        rw [q] at c3'
        simp only [Bool.and_eq_true, decide_eq_true_eq, beq_iff_eq] at c3'
        obtain ⟨⟨_, hnm⟩, hnd⟩ := c3'
        have hlen : names.length = ts.length := by simpa using (congrArg List.length hnm).symm
        have hok : ∀ x ∈ names, tOk fe.kindOf x = true := by
          have : names = swapNames fe.kindOf ts := by
            unfold swapN at q
            split at q; · cases q
            split at q; · cases q
            split at q; · cases q
            exact (Option.some.inj q).symm
          intro x hx
          rw [this] at hx
          refine o1_2 (fun t _ ht => ?_) (List.mem_filterMap.mp hx)
          split at ht
          · split at ht
            · cases ht
              rename_i hh
              unfold tOk
              rw [(Bool.and_eq_true_iff.mp hh).1]; rfl
            · cases ht
          · cases ht
        refine Assign_Tuple_swapped ?_ hsole hw
        refine wpAny_mono (exprJ IH1 H hce j h) (fun v s₁ r => ?_) fun _ _ e => e
        revert r; refine o2_4 fun V σ₁ hv j₁ hs₁ hq => ?_
        refine o1_2 (fun a e1 hq3 => ?_) (refW_inv hq)
        clear hq
        subst e1
        obtain rfl := hv.ref_inv
        cases q2 : σ₁ a with
        | none => rw [q2] at hq3; exact hq3.elim
        | some oo =>
          cases oo <;> (rw [q2] at hq3; try exact hq3.elim)
          rename_i Vs
          obtain ⟨hl2, hq4⟩ := hq3
          have hfin := asgL_names ts names Vs ρ hnm hq4
          refine o2_5 (fun m cells k1 k2 k3 S k4 => ?_) (id j₁)
          refine o1_3 (fun its' htu hvs _ => ?_) (S.isTup q2)
          have hsz : its'.size = names.length := by rw [← Array.length_toList, hvs.length, hlen, hl2]
          rw [← hsz]
          refine unpackItems_tuple H.fm.hh htu fun h' he => ?_
          have j₂ : J prog w K h₀ L fe ck its ρ σ₁ h' := j₁.grown fun b o e => he b o (fun q => absurd (Heap.lt_size e) (by rw [q]; exact Nat.lt_irrefl _)) e
          have hrev : VRs Vs.reverse its'.toList.reverse := hvs.reverse
          refine wpAny_mono (asgPairs H names.reverse Vs.reverse _ ρ { s₁ with heap := h' } (by simp [hlen, hl2]) (fun x hx => hok x (List.mem_reverse.mp hx)) hrev j₂) (fun _ s₂ r => ?_) fun _ _ e => e
          refine ⟨.next, _, _, .next, r.1, (hs₁.trans ⟨_, _, rfl⟩).trans r.2, ?_⟩
          rw [setAll_rev _ _ _ (by rw [hlen, hl2]) hnd]
          exact hfin
    · exact plain (swap_none htup)

end

end

section
open PyProof.Rows.LCg

section
variable {prog : Program} {w : World} {K : Frag} {p : Program} {loose : List Str} {mean : ExcName → Option Value} {mg mb : Str → Option Value} {lv : Nat}
variable {h₀ h h' : Heap} {L : Addr} {A : Around} {fe ev : Env} {m : Str → Option Value} {priv pre post its cells : List (Addr × Obj)} {ρ : AEnv} {σ : Store} {s s₁ : Shared} {E : Value → Shared → Prop}
variable {rec : RE} {recT : RT} {chk : KO → Expr → Bool} {ck : List Addr} {recS : RS} {chkB : Stmt → Bool}

theorem stS_sound (IH : SE prog w K p loose mean mg mb lv rec chk) (IHT : STT prog w K p loose mean mg mb lv recT chk)
    (IH1 : SE prog w K p loose mean mg mb lv (stE (CallOk prog w K p loose mean mg mb lv) rec recT) (chkS chk)) (IHT1 : STT prog w K p loose mean mg mb lv (stT rec recT) (chkS chk))
    (H : FnOk K p loose mean mg mb h₀ L A fe lv) (hb : bltFree K = true) (IS : SS prog w K h₀ L A fe ck recS chkB) :
    SS prog w K h₀ L A fe ck (stS (stE (CallOk prog w K p loose mean mg mb lv) rec recT) (stT rec recT) recS) (chkStS (chkS chk) fe.kindOf chkB) := by
  intro its st ρ σ Q s hc j h
  have an : ∀ {a b : Bool}, (a && b) = true → a = true ∧ b = true := Bool.and_eq_true_iff.mp
  cases st with
  | Assign ts e pos =>
    cases ts with
    | nil => exact False.elim h
    | cons t ts =>
      cases ts with
      | cons _ _ => exact False.elim h
      | nil =>
        have hc := an (show (_ && _) = true from hc)
        exact assign_sound IH IHT IH1 H hb hc.1 hc.2 j h
  | Expr e pos =>
    have hc := an (show (chkS chk fe.kindOf e && !isComp e) = true from hc)
    have hsw : swapsWith e none pos.line fe = pure false := by
      have := hc.2
      clear h j hc
      cases e <;> first | rfl | (cases this)
    have h : stE (CallOk prog w K p loose mean mg mb lv) rec recT e ρ σ fun v σ₁ => noRef v ∧ Q .next ρ σ₁ := h
    refine wpAny_Expr ?_ (by unfold interactive; rw [H.evk.kd]; rfl) hsw
    refine wpAny_mono (exprJ IH1 H hc.1 j h) (fun v s₁ r => ?_) fun _ _ e => e
    revert r; refine o2_5 fun V σ₁ hv j₁ hs₁ hn hq => ?_
    have res : ResS prog w K h₀ L fe ck its Q s .next s₁ := ⟨.next, _, _, .next, j₁, hs₁, hq⟩
    obtain ⟨t, rfl⟩ := hv
    cases V <;> first | exact res | exact hn.elim
  | If t b o pos =>
    obtain ⟨h12, h3⟩ := an (show (_ && _) = true from hc)
    obtain ⟨h1, h2⟩ := an h12
    refine wpAny_If (wpAny_mono (testJ IHT1 H h1 j h) (fun c s₁ r => ?_) fun _ _ e => e)
    revert r; refine o1_3 fun σ₁ j₁ hs₁ hq => ?_
    cases c with
    | true => exact wpAny_mono (blk_sound IS h2 j₁ hq) (fun fl s' r => r.trans hs₁) fun _ _ e => e
    | false => exact wpAny_mono (blk_sound IS h3 j₁ hq) (fun fl s' r => r.trans hs₁) fun _ _ e => e
  | Return e pos =>
    cases e with
    | some e =>
      refine wpAny_Return_some (wpAny_mono (exprJ IH1 H hc j h) (fun v s₁ r => ?_) fun _ _ e => e)
      revert r; refine o2_4 fun V σ₁ hv j₁ hs₁ hq => ?_
      exact ⟨_, _, _, .ret hv, j₁, hs₁, hq⟩
    | none => exact wpAny_Return_none ⟨_, _, _, .ret .none, j, .refl _, h⟩
  | While t b o pos =>
    cases o with
    | cons _ _ => exact False.elim h
    | nil =>
      obtain ⟨h1, h2⟩ := an (show (_ && _) = true from hc)
      exact whl_sound IS IHT1 H h1 h2 j h
  | For t it b o pos =>
    cases o with
    | cons _ _ => exact False.elim h
    | nil =>
      obtain ⟨h123, h4⟩ := an (show (_ && _) = true from hc)
      obtain ⟨h12, h3⟩ := an h123
      obtain ⟨h1, h2⟩ := an h12
      exact for_sound IS IH1 H hb h1 h2 h3 h4 j h
  | Pass pos => exact wpAny_Pass ⟨.next, _, _, .next, j, .refl _, h⟩
  | _ => exact False.elim h

theorem awpS_sound (hb : bltFree K = true) (hfn : fnsOk K = true) (H : FnOk K p loose mean mg mb h₀ L A fe lv) :
    ∀ n, SS prog w K h₀ L A fe ck (awpS (CallOk prog w K p loose mean mg mb lv) n) (chkSt fe.kindOf n) := by
  intro n
  induction n with
  | zero => exact fun _ _ _ _ _ _ _ _ h => h.elim
  | succ n ih =>
    obtain ⟨i1, i2⟩ := awp_sound (prog := prog) (w := w) (K := K) (p := p) (loose := loose) (mean := mean) (mg := mg) (mb := mb) (lv := lv) hb hfn 19 19 (Nat.le_refl _)
    obtain ⟨j1, j2⟩ := awp_sound (prog := prog) (w := w) (K := K) (p := p) (loose := loose) (mean := mean) (mg := mg) (mb := mb) (lv := lv) hb hfn 20 20 (Nat.le_refl _)
    exact stS_sound i1 i2 j1 j2 H hb ih
end

end

section
open PyProof.Rows.LCg


theorem filterMap_cong {α β : Type} {f g : α → Option β} : ∀ {l : List α}, (∀ x ∈ l, f x = g x) → l.filterMap f = l.filterMap g
  | [], _ => rfl
  | x :: l, h => by
    rw [List.filterMap_cons, List.filterMap_cons, h x (.head _), filterMap_cong fun y hy => h y (.tail _ hy)]
theorem lookup_zip_mem : ∀ {ns : List Str} {vals : List Value}, ns.length = vals.length → ns.Nodup → ns.filterMap (fun n => ((ns.zip vals).lookup n).map (n, ·)) = ns.zip vals ∧ ∀ n ∈ ns, ((ns.zip vals).lookup n).isSome = true
  | [], [], _, _ => ⟨rfl, fun _ h => nomatch h⟩
  | [], _ :: _, h, _ => by simp at h
  | _ :: _, [], h, _ => by simp at h
  | n :: ns, v :: vals, h, hn => by
    have hn' := List.nodup_cons.mp hn
    obtain ⟨i1, i2⟩ := lookup_zip_mem (ns := ns) (vals := vals) (by simpa using h) hn'.2
    constructor
    · rw [List.filterMap_cons]
      have e1 : (((n :: ns).zip (v :: vals)).lookup n) = some v := by simp [List.zip_cons_cons, List.lookup_cons]
      rw [e1]
      simp only [Option.map_some]
      have e2 : ns.filterMap (fun m => (((n :: ns).zip (v :: vals)).lookup m).map (m, ·)) = ns.zip vals := by
        rw [← i1]
        conv => rhs; rw [i1]
        rw [← i1]
        refine filterMap_cong fun x hx => ?_
        have hb : (x == n) = false := by
          have : x ≠ n := fun e => hn'.1 (e ▸ hx)
          simpa using this
        rw [List.zip_cons_cons, List.lookup_cons, hb]
      rw [e2, List.zip_cons_cons]
    · intro x hx
      rw [List.zip_cons_cons, List.lookup_cons]
      by_cases hxn : x = n
      · subst hxn; simp
      · have hb : (x == n) = false := by simpa using hxn
        rw [hb]
        rcases List.mem_cons.mp hx with e | hx
        · exact absurd e hxn
        · exact i2 x hx

theorem bind_plain' {fd : FuncData} {vals : List Value} {as : List Arg} {kd : List (Option Expr)} {df : List Expr} (hp : fd.params = ⟨[], as, none, [], kd, none, df⟩) (hd : fd.defaults = .none) (hl : vals.length = (as.map (·.arg)).length)
   (hn : (as.map (·.arg)).Nodup) (hm : (as.map (·.arg)).filter (fun n => (((as.map (·.arg)).zip vals).lookup n).isNone) = []) :
    bindArgs fd ⟨vals, []⟩ = pure ((as.map (·.arg)).zip vals) := by
  obtain ⟨z1, z2⟩ := lookup_zip_mem (ns := as.map (·.arg)) (vals := vals) (by simp [hl]) hn
  obtain ⟨n, q, ps, b, s, g, c, d, kd, dc, pm, an, cd, ct, bi⟩ := fd
  cases hp; cases hd
  have hg : (decide (vals.length > (as.map (·.arg)).length) && true) = false := by rw [hl, Bool.and_true]; exact decide_eq_false (Nat.lt_irrefl _)
  refine Eq.trans (b := if (decide (vals.length > (as.map (·.arg)).length) && true) = true then ?A else ?B) (by with_unfolding_all rfl) ?_
  rw [if_neg (ne_true_of_eq_false hg)]
  dsimp only [List.map_nil, List.nil_append, Option.getD_none, List.length_nil, List.drop_nil]
  refine Eq.trans (if_neg fun h => ?_) ?_
  · have hq : (List.take ((List.map (fun x : Arg => x.arg) as).length - (List.drop (0 - (List.map (fun x : Arg => x.arg) as).length) ([] : List Value)).length) (List.map (fun x => x.arg) as)) = as.map (·.arg) := by
      rw [List.drop_nil]; exact List.take_length
    have hz := (congrArg (List.filter fun n => (((as.map (·.arg)).zip vals).lookup n).isNone) hq).trans hm
    exact Bool.noConfusion ((congrArg (fun l : List Str => !l.isEmpty) hz).symm.trans h)
  · have hz : (List.drop ((List.map (fun x : Arg => x.arg) [] ++ List.map (fun x => x.arg) as).length - (List.drop (0 - (List.map (fun x : Arg => x.arg) [] ++ List.map (fun x => x.arg) as).length) ([] : List Value)).length) (List.map (fun x : Arg => x.arg) [] ++ List.map (fun x => x.arg) as)).zip (List.drop (0 - (List.map (fun x : Arg => x.arg) [] ++ List.map (fun x => x.arg) as).length) ([] : List Value)) = [] := by
      rw [List.drop_nil, List.zip_nil_right]
    rw [hz]
    exact congrArg (fun l => (pure l : Sem (List (Str × Value)))) ((congrArg (List.filterMap _) (List.append_nil _)).trans z1)
theorem bind_plain {fd : FuncData} {vals : List Value} (hp : plainPs fd.params = true) (hd : fd.defaults = .none) (hl : vals.length = fd.params.args.length) :
    bindArgs fd ⟨vals, []⟩ = pure ((fd.params.args.map (·.arg)).zip vals) := by
  generalize hP : fd.params = P at hp hl
  obtain ⟨po, as, va, ko, kd, kw, df⟩ := P
  have hp := Bool.and_eq_true_iff.mp hp
  have h5 := of_decide_eq_true hp.2
  have h1 := Bool.and_eq_true_iff.mp hp.1
  have h4 := Option.isNone_iff_eq_none.mp h1.2
  have h1 := Bool.and_eq_true_iff.mp h1.1
  have h3 := Option.isNone_iff_eq_none.mp h1.2
  have h1 := Bool.and_eq_true_iff.mp h1.1
  have h2 := List.isEmpty_iff.mp h1.2
  have h1 := List.isEmpty_iff.mp h1.1
  subst h1 h2 h3 h4
  rw [bind_plain' hP hd (hl.trans (List.length_map _).symm) h5 ?_]
  rw [List.filter_eq_nil_iff]
  intro n hn h
  exact absurd ((lookup_zip_mem (ns := as.map (·.arg)) (vals := vals) (by rw [hl, List.length_map]) h5).2 n hn) (by rw [Option.isNone_iff_eq_none.mp h]; exact fun h => nomatch h)


structure FnAt (K : Frag) (a : Addr) (params : Arguments) (scope : Scope) (body : List Stmt) : Prop where
  at' : ∃ oc od osl name qual kV doc pm an cdv ct, K.lookup a = some ⟨oc, od, .func (fnOf name qual params body scope .none kV doc pm an cdv ct), osl⟩ ∧ codeIn K cdv qual = true

theorem bindL_out {ko : Str → Option NameKind} {x : Str} : ∀ {l : List (Str × Value)} {m : Str → Option Value}, x ∉ l.map (·.1) → bindL ko l m x = m x
  | [], _, _ => rfl
  | (n, v) :: r, m, h => by
    rw [List.map_cons, List.mem_cons, not_or] at h
    unfold bindL
    rw [bindL_out h.2]
    split
    · exact if_neg h.1
    · rfl
theorem bindC_out {ko : Str → Option NameKind} {x : Str} : ∀ {l : List (Str × Value)} {m : Str → Option Value}, x ∉ l.map (·.1) → bindC ko l m x = m x
  | [], _, _ => rfl
  | (n, v) :: r, m, h => by
    rw [List.map_cons, List.mem_cons, not_or] at h
    unfold bindC
    rw [bindC_out h.2]
    split
    · rfl
    · exact if_neg h.1
theorem bindLC_in {ko : Str → Option NameKind} {x : Str} {v : Value} : ∀ {l : List (Str × Value)} {m : Str → Option Value}, (l.map (·.1)).Nodup → (x, v) ∈ l → (ko x = some .local → bindL ko l m x = some v) ∧ (ko x ≠ some .local → bindC ko l m x = some v)
  | (n, u) :: r, m, hn, h => by
    have hn' := List.nodup_cons.mp hn
    rcases List.mem_cons.mp h with e | h
    · cases e
      constructor
      · intro hk; unfold bindL; rw [bindL_out hn'.1, if_pos hk, if_pos rfl]
      · intro hk; unfold bindC; rw [bindC_out hn'.1, if_neg hk, if_pos rfl]
    · unfold bindL bindC
      exact ⟨fun hk => (bindLC_in hn'.2 h).1 hk, fun hk => (bindLC_in hn'.2 h).2 hk⟩

theorem bindA_mem : ∀ {as : List Arg} {vs : List V} {vals : List Value} {x : Str} {X : V}, VRs vs vals → as.length = vals.length → bindA as vs x = some X → ∃ v, VR X v ∧ (x, v) ∈ (as.map (·.arg)).zip vals
  | [], _, _, _, _, _, _, h => by cases h
  | a :: as, [], _, _, _, _, _, h => by cases h
  | a :: as, V :: vs, vals, x, X, hv, hl, h => by
    refine o2_3 (fun v r rf2_ h1 h2 => ?_) (hv.cons_inv); subst rf2_
    unfold bindA at h
    by_cases hx : x = a.arg
    · rw [if_pos hx] at h
      cases h
      exact ⟨v, h1, by rw [List.map_cons, List.zip_cons_cons, hx]; exact .head _⟩
    · rw [if_neg hx] at h
      refine o1_2 (fun v' q1 q2 => ?_) (bindA_mem h2 (by simpa using hl) h)
      exact ⟨v', q1, by rw [List.map_cons, List.zip_cons_cons]; exact .tail _ q2⟩

theorem CellsAre.keys {cm : Str → Option Value} {cs : List (Str × Addr)} {cells : List (Addr × Obj)} (h : CellsAre cm cs cells) : cells.map (·.1) = cs.map (·.2) := by
  induction h with
  | nil => rfl
  | cons _ _ ih => simp [ih]
theorem CellsAre.get {cm : Str → Option Value} {cs : List (Str × Addr)} {cells : List (Addr × Obj)} (h : CellsAre cm cs cells) : ∀ {x c}, (x, c) ∈ cs → ∃ o, (c, o) ∈ cells ∧ o.data = .cell (cm x) := by
  induction h with
  | nil => intro x c h; cases h
  | cons h1 h2 ih =>
    intro x c h
    rcases List.mem_cons.mp h with e | h
    · cases e; exact ⟨_, .head _, h1⟩
    · refine o1_2 (fun o q1 q2 => ?_) (ih h); exact ⟨o, .tail _ q1, q2⟩

section
variable {prog : Program} {w : World} {K : Frag} {p : Program} {loose : List Str} {mean : ExcName → Option Value} {mg mb : Str → Option Value} {lv lv' : Nat}
variable {h₀ h h' : Heap} {L : Addr} {A : Around} {fe ev : Env} {m : Str → Option Value} {priv : List (Addr × Obj)} {σ : Store} {s s₁ : Shared} {E : Value → Shared → Prop}

theorem code_own {a : Addr} {params : Arguments} {scope : Scope} {body : List Stmt} {vs : List V} {vals : List Value} {Q : PE} (hF : FnAt K a params scope body) (hc : chkFn params scope body = true) (hb : bltFree K = true) (hfn : fnsOk K = true)
    (hw : awpF (CallOk prog w K p loose mean mg mb lv) params body vs σ Q) (hl : vs.length = params.args.length)
    (fm : Fm K p loose mean mg mb h₀ L A fe lv') (hd : A.depth + 1 + 4 * lv ≤ 500) (hu : A.units + 3 + 30 * lv ≤ 5000) (S : St prog w K h₀ L m priv σ s.heap) (hv : VRs vs vals) :
    codeAny (model prog w) A (.call (.ref a) ⟨vals, []⟩) (fun r s' => ∃ v, r = .ok (.ret v) ∧ Res prog w K h₀ L m priv Q s v s') s := by
  obtain ⟨oc, od, osl, name, qual, kV, doc, pm, an, cdv, ct, ho, hcd⟩ := hF.at'
  unfold chkFn at hc
  simp only [Bool.and_eq_true, beq_iff_eq, Bool.not_eq_true', decide_eq_true_eq] at hc
  obtain ⟨⟨⟨⟨⟨⟨c1, c2⟩, c3⟩, c4⟩, c5⟩, c6⟩, c7⟩ := hc
  refine o3_2 (fun A₀ base outer B hA => ?_) (fm.below)
  refine o1_3 (fun news F N D => ?_) (id S)
  have Nn : News h₀ L s.heap news := fun q hq => N q (List.mem_append_right _ hq)
  refine o0_4 (fun FG BG st lvv => ?_) (groundX (R := fun r s' => ∃ v, r = .ok (.ret v) ∧ Res prog w K h₀ L m priv Q s v s') B F Nn hA fm.fr fm.kd)
  have hbind := bind_plain (fd := fnOf name qual params body scope .none kV doc pm an cdv ct) (vals := vals) c1 rfl (by rw [hv.length, hl])
  have hlen : params.args.length = vals.length := by rw [hv.length, hl]
  have hnd : (params.args.map (·.arg)).Nodup := by
    unfold plainPs at c1
    simp only [Bool.and_eq_true, decide_eq_true_eq] at c1
    exact c1.2
  have hkeys : ((params.args.map (·.arg)).zip vals).map (·.1) = params.args.map (·.arg) := by
    rw [List.map_fst_zip]; simp [hlen]
  have hargs : ∀ x ∈ (params.args.map (·.arg)).zip vals, scope.names.lookup x.1 = some .local ∨ scope.names.lookup x.1 = some .cell := by
    intro x hx
    have : x.1 ∈ params.args.map (·.arg) := hkeys ▸ List.mem_map_of_mem (f := (·.1)) hx
    refine o1_2 (fun q hq e => ?_) (List.mem_map.mp this)
    have := List.all_eq_true.mp c5 q hq
    rw [e] at this
    simpa using this
  refine codeAny_call_function (fd := fnOf name qual params body scope .none kV doc pm an cdv ct) (by rw [show recursionLimit = 1000 by decide +kernel]; omega) ((fm.X.keeps F.keep) _ _ ho) rfl c3 c4 rfl (codeRec_of (fm.X.keeps F.keep) hcd) ?_
  rw [hbind]
  refine wpAny_pure (wpAny_newFunctionEnv_cells c2 (fun x hx => (hargs x hx).imp id fun e => ⟨e, cellsFrom_some _ _ _ (.inl e)⟩) fun env' he s' x => ?_)
  subst he
  refine ⟨(fm.T.nolimit.keeps F.keep).keeps x.toInCall.keep, codeAny_func ?_⟩
  refine o2_2 (fun h₁ tk rf2_ _ => ?_) (x.done); subst rf2_
  have hk₁ := x.toInCall.keep
  have hnodup : ((cellsFrom (s.heap.objs.size + 1) scope.names []).map (·.1)).Nodup := cellsFrom_names scope.names 0 (s.heap.objs.size + 1) [] [] rfl ▸ c6
  refine o1_2 (fun cells NC Y => ?_) (Cl.news (h₀ := s.heap) (Nat.le_refl _) fun n c hm => ⟨x.cell n c (lookup_of_mem_nodup hnodup hm), x.above n c hm⟩)
  have nc : ∀ q ∈ cells, q.1 ∉ news.map (·.1) := fun q hq hm => by
    refine o1_2 (fun r hr e => ?_) (List.mem_map.mp hm)
    have := (NC q hq).2.2
    rw [← e, (Nn r hr).1] at this; cases this
  have F1 : Fr (hideAll s.heap (news.map (·.1))) s.heap.objs.size h₁ (bindL (envOfC qual scope s.heap.objs.size a cdv).kindOf ((params.args.map (·.arg)).zip vals) fun _ => none) :=
    ⟨x.toInCall.ns, fun b o e => hk₁ b o (of_hideAll _ e), Nat.le_of_eq (hideAll_size _ _)⟩
  have N1 : News (hideAll s.heap (news.map (·.1))) s.heap.objs.size h₁ (cells ++ news) := fun q hq => by
    rcases List.mem_append.mp hq with hq | hq
    · refine ⟨(NC q hq).1, (NC q hq).2.1, ?_⟩
      cases z : (hideAll s.heap (news.map (·.1))).get? q.1 with
      | none => rfl
      | some o => have := of_hideAll _ z; rw [(NC q hq).2.2] at this; cases this
    · exact ⟨hk₁ _ _ (Nn q hq).1, Nat.ne_of_lt (Heap.lt_size (Nn q hq).1), hideAll_none _ (List.mem_map_of_mem hq)⟩
  have keyc := CellsAre.keys Y
  have ndc : (cells.map (·.1)).Nodup := by
    rw [keyc]
    exact List.pairwise_map.mpr x.apart
  have D1 : Led prog w K ((([] : List (Addr × Obj)) ++ cells).map (·.1)) σ news := ⟨D.nd, fun q hq hk => by
    refine o1_2 (fun r hr e => ?_) (List.mem_map.mp hk)
    exact nc r hr (e ▸ List.mem_map_of_mem (f := (·.1)) hq), D.rep⟩
  have mem_of : ∀ {y c}, (envOfC qual scope s.heap.objs.size a cdv).cells.lookup y = some c → (y, c) ∈ (envOfC qual scope s.heap.objs.size a cdv).cells := fun h => mem_of_lookup h
  have hH : FnOk K p loose mean mg mb (hideAll s.heap (news.map (·.1))) s.heap.objs.size (A.deeper (envOfC qual scope s.heap.objs.size a cdv)) (envOfC qual scope s.heap.objs.size a cdv) lv := by
    refine ⟨⟨⟨A, base, fe :: outer, BG, Around.frames_deeper hA⟩, rfl, c2, fm.X.keeps st, fm.T.keeps st, fm.hh, ?_, ?_⟩, ⟨c2, rfl, rfl, fun y hy => cellsFrom_some _ _ _ (.inl hy)⟩, rfl, ?_⟩
    · show A.depth + 1 + 4 * lv ≤ 500; exact hd
    · show A.units + 3 + 30 * lv ≤ 5000; exact hu
    · intro y z c _ _ h1 h2
      have p1 := mem_of h1
      have p2 := mem_of h2
      have := x.apart
      have key : ∀ (l : List (Str × Addr)), l.Pairwise (fun (x y : Str × Addr) => x.2 ≠ y.2) → (y, c) ∈ l → (z, c) ∈ l → y = z := by
        intro l
        induction l with
        | nil => intro _ h; cases h
        | cons q l ih =>
          intro hp a1 a2
          obtain ⟨q1, q2⟩ := List.pairwise_cons.mp hp
          rcases List.mem_cons.mp a1 with e1 | a1
          · rcases List.mem_cons.mp a2 with e2 | a2
            · rw [← e1] at e2; cases e2; rfl
            · exact absurd (by rw [← e1]) (q1 _ a2)
          · rcases List.mem_cons.mp a2 with e2 | a2
            · exact absurd (by rw [← e2]) (q1 _ a1)
            · exact ih q2 a1 a2
      exact key _ this p1 p2
  have hJ : J prog w K (hideAll s.heap (news.map (·.1))) s.heap.objs.size (envOfC qual scope s.heap.objs.size a cdv) (cells.map (·.1)) [] (bindA params.args vs) σ h₁ := by
    refine ⟨_, cells, rfl, ⟨ndc, fun y c hk hc => ?_⟩, (fun _ h => nomatch h), ⟨news, F1, N1, D1⟩, fun y V e => ?_⟩
    · refine o1_2 (fun o q1 q2 => ?_) (CellsAre.get Y (mem_of hc))
      exact ⟨o, _, q1, q2⟩
    · refine o1_2 (fun v hv' hm => ?_) (bindA_mem hv hlen e)
      refine ⟨v, hv', ?_⟩
      have hb2 := bindLC_in (ko := (envOfC qual scope s.heap.objs.size a cdv).kindOf) (m := fun _ => none) (by rw [hkeys]; exact hnd) hm
      rcases hargs _ hm with hk | hk
      · exact .inl ⟨hk, hb2.1 hk⟩
      · refine .inr ⟨hk, ?_⟩
        obtain ⟨c, hc⟩ := Option.isSome_iff_exists.mp (cellsFrom_some scope.names (s.heap.objs.size + 1) [] (.inl hk))
        refine o1_2 (fun o q1 q2 => ?_) (CellsAre.get Y (mem_of hc))
        refine ⟨c, o, hc, q1, ?_⟩
        rw [q2]
        exact congrArg _ (hb2.2 (by show scope.names.lookup y ≠ _; rw [hk]; exact fun e => by cases e))
  have main := blk_sound (s := { s with heap := h₁, toks := tk }) (awpS_sound (prog := prog) (w := w) (ck := cells.map (·.1)) hb hfn hH 20) c7 hJ hw
  refine wpAny_mono main (fun fl s' r => ?_) fun _ _ e => e.elim
  obtain ⟨f, ρ', σ', hf, ⟨m', cells', k1, k2, k3, ⟨news', F', N', D'⟩, k4⟩, hs, hq⟩ := r
  have fin : ∀ (X : V) (v : Value), VR X v → Q X σ' → ∃ v', (Except.ok (Flow.ret v) : Result) = .ok (.ret v') ∧ Res prog w K h₀ L m priv Q s v' s' := by
    intro X v hX hQ
    have Nn' : News (hideAll s.heap (news.map (·.1))) s.heap.objs.size s'.heap news' := fun q hq => N' q (List.mem_append_right _ hq)
    refine lvv v s' ⟨_, m', news', F', Nn', fun F2 N2 => ⟨v, rfl, X, σ', hX, ⟨news', F2, ?_, ?_⟩, Same.trans ⟨_, _, rfl⟩ hs, hQ⟩⟩
    · intro q hq
      rcases List.mem_append.mp hq with hq | hq
      · refine ⟨F'.keep _ _ (hideAll_get _ (N q (List.mem_append_left _ hq)).1 fun hm => ?_), (N q (List.mem_append_left _ hq)).2⟩
        refine o1_2 (fun r hr e => ?_) (List.mem_map.mp hm)
        exact D.off r hr (by rw [e]; exact List.mem_map_of_mem (f := (·.1)) hq)
      · exact N2 q hq
    · refine ⟨D'.nd, fun q hq hk => ?_, D'.rep⟩
      refine o1_2 (fun r hr e => ?_) (List.mem_map.mp hk)
      have h1 := (Nn' q hq).2.2
      have h2 : (hideAll s.heap (news.map (·.1))).get? r.1 = some r.2 := hideAll_get _ (N r (List.mem_append_left _ hr)).1 fun hm => by
        refine o1_2 (fun z hz e => ?_) (List.mem_map.mp hm)
        exact D.off z hz (by rw [e]; exact List.mem_map_of_mem (f := (·.1)) hr)
      rw [← e, h2] at h1; cases h1
  cases hf with
  | next => exact fin _ _ .none hq
  | brk => exact hq.elim
  | cont => exact hq.elim
  | ret hX => exact fin _ _ hX hq

/-- a function of the program -/
theorem call_own {a : Addr} {params : Arguments} {scope : Scope} {body : List Stmt} {vs : List V} {Q : PE} (hF : FnAt K a params scope body) (hc : chkFn params scope body = true) (hb : bltFree K = true) (hfn : fnsOk K = true)
    (hw : awpF (CallOk prog w K p loose mean mg mb lv) params body vs σ Q) (hl : vs.length = params.args.length) : CallAt prog w K p loose mean mg mb (lv + 1) (.ref a) vs σ Q := by
  intro h₀ L A fe m priv s vals fm S hv
  have d := fm.dp
  have u := fm.un
  refine wpAny_call (codeAny_mono (code_own hF hc hb hfn hw hl fm (by omega) (by omega) S hv) fun r s' q => ?_)
  revert q; refine o1_2 fun v rf1_ hr => ?_; subst rf1_
  exact hr

/-- a record made -/
theorem call_class {C fI : Addr} {params : Arguments} {scope : Scope} {body : List Stmt} {vs : List V} {Q : PE} (hF : FnAt K fI params scope body) (hc : chkFn params scope body = true) (hb : bltFree K = true) (hfn : fnsOk K = true)
    (hm : makesIn K C = true) (hi : findIn K (.ref C) "__init__" = some (some (.ref fI))) (hf : isFn K (.ref fI) = true) (hcls : clsOk K C = true)
    (hw : ∀ a, σ a = none → awpF (CallOk prog w K p loose mean mg mb lv) params body (.ref a :: vs) (upd σ a (.inst C [])) fun v σ' => v = .none ∧ Q (.ref a) σ') (hl : vs.length + 1 = params.args.length) :
    CallAt prog w K p loose mean mg mb (lv + 1) (.ref C) vs σ Q := by
  intro h₀ L A fe m priv s vals fm S hv
  have d := fm.dp
  have u := fm.un
  refine o3_2 (fun A₀ base outer B hA => ?_) (fm.below)
  revert S; refine o1_3 fun news F N D => ?_
  refine call_cls F fm.X N hm hi hf fun x dx h' F' N' hlt hlt2 => ?_
  have hne : dx ≠ x := Nat.ne_of_lt hlt2
  obtain ⟨hfree, S'⟩ := St.new (l := x) (o := .inst C []) F' N D (more := [(x, instObj C dx), (dx, dictOf [] 0)]) N' (by simp [Ne.symm hne]) (fun q hq p hp => by
    rcases List.mem_cons.mp hq with rfl | hq
    · exact Nat.lt_trans (hlt p hp) hlt2
    · cases List.mem_singleton.mp hq; exact hlt p hp) ⟨_, .head _⟩ ⟨rfl, dx, [], 0, rfl, hne, .head _, .tail _ (.head _), .nil, Nat.zero_le _, hcls, fun _ h => nomatch h⟩
  have hdep : (A.under (.builtin "type.__call__" ⟨.ref C :: vals, []⟩)).depth = A.depth + 1 := rfl
  have huni : (A.under (.builtin "type.__call__" ⟨.ref C :: vals, []⟩)).units ≤ A.units + 20 := by
    show A.units + (1 + 3 * (Code.builtin "type.__call__" ⟨.ref C :: vals, []⟩).frames) ≤ _
    show A.units + (1 + 3 * 0) ≤ _
    omega
  have fm' : Fm K p loose mean mg mb h₀ L (A.under (.builtin "type.__call__" ⟨.ref C :: vals, []⟩)) fe 0 := by
    refine ⟨⟨A₀, base, outer, B, ?_⟩, fm.fr, fm.kd, fm.X, fm.T, fm.hh, ?_, ?_⟩
    · exact hA
    · rw [hdep]; omega
    · omega
  refine codeAny_mono (code_own (s := { s with heap := h' }) hF hc hb hfn (hw x hfree) (by simpa using hl) fm' (by rw [hdep]; omega) (by omega) S' (.cons (.ref x) hv)) fun r s' q => ?_
  obtain ⟨v, rfl, X, σ', hX, S2, hs, he, hQ⟩ := q
  subst he
  obtain rfl := hX.none_inv
  exact ⟨rfl, .ref x, σ', .ref x, S2, Same.trans ⟨_, _, rfl⟩ hs, hQ⟩
end

end

section
open PyProof.Rows.LCg

theorem fnA_at {K : Frag} {a : Addr} {ps : Arguments} {sc : Scope} {b : List Stmt} (h : fnA K a = some (ps, sc, b)) : FnAt K a ps sc b := by
  unfold fnA at h
  generalize hq : K.lookup a = q at h
  unfold fnOfObj at h
  split at h
  · split at h
    · rename_i hh
      simp only [Bool.and_eq_true, beq_iff_eq] at hh
      obtain ⟨⟨⟨h1, h2⟩, h3⟩, h4⟩ := hh
      cases h
      subst h2 h3
      rename_i dV _ _ _ _ _ _ _
      refine ⟨?_⟩
      cases dV <;> first | exact ns h1 | exact ft h1 | (cases h1; done) | skip
      exact ⟨_, _, _, _, _, _, _, _, _, _, _, hq, h4⟩
    · cases h
  · cases h
theorem addrOf_ns {K : Frag} {f : Str} {a : Addr} (h : addrOf K f = some a) : nsIn K mainGlobals f = some (some (.ref a)) := by
  unfold addrOf at h
  split at h
  · rename_i e; cases h; exact e
  · cases h

end

section
open PyProof.Rows.LCg

section
variable {prog : Program} {w : World} {K : Frag} {p : Program} {loose : List Str} {mean : ExcName → Option Value} {mg mb : Str → Option Value} {lv : Nat}
variable {h₀ h h' : Heap} {L : Addr} {A : Around} {fe ev : Env} {m : Str → Option Value} {priv pre post its cells : List (Addr × Obj)} {ρ : AEnv} {σ : Store} {s s₁ : Shared} {E : Value → Shared → Prop}
variable {rec : RE} {recT : RT} {chk : KO → Expr → Bool} {ck : List Addr} {cl : CL}

theorem ints_VRs {vs : List Value} {ns : List Int} (h : IntsAre vs ns) : VRs (ns.map V.int) vs := by
  induction h with
  | nil => exact .nil
  | @cons i t vs ns _ ih => exact .cons (.int _ _) ih

/-- the script's slice, gone over -/
theorem slice_outer {x : Str} {xp cp q pos : Pos} {kd : Nat} {j : Int} {sl : Addr} {vs : List Value} {ns : List Int} {Q : List V → Option (Addr × O) → Store → Prop} (hk : ev.scope.kind = .function) (hd : dbg x = false) (hj : 0 ≤ j)
    (hr : Rd ev L m priv x (.ref sl)) (hl : h₀.IsList sl vs.toArray) (hI : IntsAre vs ns) (hlen : ns.length ≤ 63) (S : St prog w K h₀ L m priv σ s.heap)
    (h : ∀ a, σ a = none → Q (sliceL none (some j) (ns.map V.int)) (some (a, .list (sliceL none (some j) (ns.map V.int)))) (upd σ a (.list (sliceL none (some j) (ns.map V.int))))) :
    wpAny (model prog w) A (eval (.Subscript (.Name x xp) (.Slice none (some (.Constant (.int j) kd cp)) none q) pos) ev) (fun x s₁ => wpAny (model prog w) A (pyIter x) (fun itv s₂ => ∃ I oI src n σ', itv = .ref I ∧ n = (itemsOf src n).length ∧ n ≤ bigN ∧ ItAt src n 0 oI ∧ stillW src σ' ∧
      St prog w K h₀ L m ((I, oI) :: priv) σ' s₂.heap ∧ Same s s₂ ∧ (∀ p ∈ priv, p.1 ≠ I) ∧ Q (itemsOf src n) src σ') NoE s₁) NoE s := by
  refine Subscript_ (readName hk S hr hd ?_)
  refine wpAny_Slice (wpAny_pure ?_)
  refine wpAny_Constant_int (pos := cp) (k := kd) (wpAny_pure ?_)
  revert S; refine o1_3 fun news F N D => ?_
  have hil : s.heap.IsList sl vs.toArray := (let ⟨o, ho, r⟩ := hl; ⟨o, F.keep _ _ ho, r⟩)
  have hvs := ints_VRs hI
  have hln : (ns.map V.int).length ≤ bigN := by rw [List.length_map]; unfold bigN; omega
  have hsz : vs.toArray.size ≤ sizeLine := big_line (by rw [List.size_toArray, hvs.length]; exact hln)
  refine kmk_slice (s := { s with toks := _ }) F N hil .none (.int j _) (fun l h' F' N' hlt => ?_) rfl (fun r => rfl) hsz
  rw [kms_pick_eq, sliceL_pick (lo := none) (hi := some j) trivial hj] at N'
  obtain ⟨f, S'⟩ := St.new1 (o := .list (sliceL none (some j) (ns.map V.int))) F' N D N' hlt ⟨rfl, (sliceL none (some j) vs).toArray, 0, .head _, hvs.slice _ _, Nat.le_trans (sliceL_length ..) hln⟩
  refine wpAny_mono (it_start (x := .ref l) (k := fun xs o => o = some (l, .list xs) ∧ xs = sliceL none (some j) (ns.map V.int)) (.ref l) S' ?_) (fun itv s₂ r => ?_) fun _ _ e => e
  · unfold srcOf refW; dsimp only; rw [upd_self]; exact ⟨rfl, rfl⟩
  obtain ⟨I, oI, src, rfl, hI, hbg, hst, ⟨y, rfl⟩, S₂, hs₂, hne, hk1, hk2⟩ := r
  have e : ∀ n, itemsOf (some y) n = itemsOf (some y) 0 := fun n => by obtain ⟨a, o⟩ := y; cases o <;> rfl
  refine ⟨I, oI, some y, (itemsOf (some y) 0).length, _, rfl, (congrArg List.length (e _)).symm, hbg, hI, hst, S₂, Same.trans ⟨_, _, rfl⟩ hs₂, hne, ?_⟩
  rw [e, hk1, hk2]
  exact h l f

theorem upd_at' {σ : Store} {a b : Addr} {o : O} {r : Option O} (hb : b ≠ a) (h : σ b = r) : upd σ a o b = r := (upd_ne hb).trans h
noncomputable def absL (xs : List Int) : List V := xs.map fun i => V.int (i.natAbs : Int)

theorem abs_elt {n : Nat} {xp cp cp3 : Pos} {Q : PE} {x : Int} (h : Q (.int (x.natAbs : Int)) σ) : awpE cl (n + 2) (.Call (.Name "abs" cp) [.Name "cell" cp3] [] xp) (setE "cell" (.int x) ρ) σ Q := by
  have e : setE "cell" (.int x) ρ "cell" = some (.int x) := if_pos rfl
  show callW cl (awpE cl (n + 1)) "abs" [.Name "cell" cp3] (setE "cell" (.int x) ρ) σ _
  unfold callW
  rw [if_neg (by decide), if_pos (by decide)]
  show optW (setE "cell" (.int x) ρ "cell") fun v => bltW "abs" [v] σ Q
  rw [e]
  show bltW "abs" [.int x] σ Q
  unfold bltW
  dsimp only
  rw [if_neg (by decide), if_neg (by decide), if_pos rfl]
  exact h
theorem comp_turn {elt : Expr} {y : Str} {p : Pos} {o : Option (Addr × O)} {x : V} {xs acc : List V} {Q : PE} (h : rec elt (setE y x ρ) σ fun v σ₂ => stillW o σ₂ ∧ compL rec recT elt (.Name y p) [] o xs (setE y x ρ) σ₂ (acc ++ [v]) Q) : compL rec recT elt (.Name y p) [] o (x :: xs) ρ σ acc Q := by
  show (if true = true then rec elt (setE y x ρ) σ (fun v σ₂ => stillW o σ₂ ∧ compL rec recT elt (.Name y p) [] o xs (setE y x ρ) σ₂ (acc ++ [v]) Q) else (stillW o σ ∧ compL rec recT elt (.Name y p) [] o xs (setE y x ρ) σ acc Q))
  rw [if_pos rfl]
  exact h
theorem comp_absGo {n : Nat} {la : Addr} {L0 : List V} {xp cp cp2 cp3 : Pos} {Q : PE} : ∀ (xs : List Int) (ρ : AEnv) (acc : List V), σ la = some (.list L0) →
    (∀ a, σ a = none → Q (.ref a) (upd σ a (.list (acc ++ absL xs)))) →
    compL (awpE cl (n + 2)) (awpT cl (n + 2)) (.Call (.Name "abs" cp) [.Name "cell" cp3] [] xp) (.Name "cell" cp2) [] (some (la, .list L0)) (xs.map V.int) ρ σ acc Q
  | [], ρ, acc, hla, h => fun a ha => by simpa [absL] using h a ha
  | x :: xs, ρ, acc, hla, h => by
    rw [List.map_cons]
    refine comp_turn ?_
    refine abs_elt ⟨hla, ?_⟩
    refine comp_absGo xs _ _ hla fun a ha => ?_
    have := h a ha
    simpa [absL] using this

theorem deck_sound (H : FnOk K p loose mean mg mb h₀ L A fe lv) (hb : bltFree K = true) (hfn : fnsOk K = true)
    {dp lp pos p2 xp cp cp2 cp3 qp sp np ip zp : Pos} {kd kd2 : Nat} {sc : Scope} {sl : Addr} {vs : List Value} {ns : List Int} {Q : PS}
    (hl : h₀.IsList sl vs.toArray) (hI : IntsAre vs ns) (hlen : ns.length ≤ 63) (hρ : ρ "script" = some (.ref sl))
    (hsc : scOk sc fe.kindOf = true) (ht : tgtOk (fun x => sc.names.lookup x == some .local) 3 (.Name "cell" cp2) = true) (hce : chkE 20 (fun x => (relK sc fe.kindOf).lookup x) (.Call (.Name "abs" cp) [.Name "cell" cp3] [] xp) = true)
    (htk : tOk fe.kindOf "deck" = true) (j : J prog w K h₀ L fe ck its ρ σ s.heap)
    (h : ∀ a b σ1 , σ1 a = some (.list (absL ns)) → σ1 b = some (.list [.ref a, .int 0]) → a ≠ b → Q .next (setE "deck" (.ref b) ρ) σ1) :
    wpAny (model prog w) A (exec (.Assign [.Name "deck" dp] (.List [.ListComp (.Call (.Name "abs" cp) [.Name "cell" cp3] [] xp) [⟨.Name "cell" cp2, .Subscript (.Name "script" sp) (.Slice none (some (.Constant (.int 63) kd ip)) none qp) np, [], 0⟩] sc lp, .Constant (.int 0) kd2 zp] pos) p2) fe) (ResS prog w K h₀ L fe ck its Q s) NoE s := by
  refine wpAny_Assign_Name ?_ (by rw [swapsWith_of H.evk.kd (.inr rfl)]; rfl)
  obtain ⟨i1, i2⟩ := awp_sound (prog := prog) (w := w) (K := K) (p := p) (loose := loose) (mean := mean) (mg := mg) (mb := mb) (lv := lv) hb hfn 18 20 (by omega)
  refine o2_5 (fun m cells h1 h2 h3 S h4 => ?_) (id j)
  have Hr' : Hr K p loose mean mg mb lv h₀ L A fe fe m (its ++ cells) ρ := ⟨H.fm, H.evk, h4.toR H.loc fun q hq => List.mem_append_right _ hq⟩
  refine o1_2 (fun sv hsv hrd => ?_) (Hr'.en "script" _ hρ)
  obtain rfl := hsv.ref_inv
  have hs := scOk_of hsc
  refine o1_2 (fun ccl hcl1 hcl2 => ?_) (clos_ok (ev := fe) (sc := sc) (fun y hy e => H.evk.cl _ (hs.free y hy e)) hs.nd)
  refine List_ (args_cons ?_ rfl)
  rw [eval_ListComp]
  refine wpAny_comprehension_free (use := none) rfl (folded_of rfl) hcl1 hs.kind hs.loc ?_
  refine comp_core0 (rec := awpE (CallOk prog w K p loose mean mg mb lv) 18) (recT := awpT (CallOk prog w K p loose mean mg mb lv) 18) (chk := chkE 20) (Q := fun v σ1 => ∃ a, v = .ref a ∧ σ1 a = some (.list (absL ns))) i1 i2 Hr' hb hs hcl2 ht rfl hce ?_ ?_
  · refine slice_outer (j := 63) (Q := fun xs src σ' => compL (awpE (CallOk prog w K p loose mean mg mb lv) 18) (awpT (CallOk prog w K p loose mean mg mb lv) 18) (.Call (.Name "abs" cp) [.Name "cell" cp3] [] xp) (.Name "cell" cp2) [] src xs (compEnvA sc ρ) σ' [] fun v σ1 => ∃ a, v = .ref a ∧ σ1 a = some (.list (absL ns))) H.evk.kd (by decide) (by decide) hrd hl hI hlen S fun la hla => ?_
    have e63 : sliceL none (some (63 : Int)) (ns.map V.int) = ns.map V.int := by
      unfold sliceL
      simp only [List.drop_zero]
      exact List.take_of_length_le (by rw [List.length_map]; exact hlen)
    rw [e63]
    exact comp_absGo ns _ [] upd_self fun a ha => ⟨a, rfl, upd_self⟩
  intro D C acc vs' nD oC mc σ' s' hpC hpD hCD hns S' hss hv hbb hq
  refine ⟨mc, hns.ns (S'.cell (.head _)), fun h' hsb => ?_⟩
  have S1 := S'.dropPriv (pre := []) (h' := h') (fun _ h => nomatch h) (fun q hq => by
    rcases List.mem_cons.mp hq with rfl | hq
    · exact Ne.symm hCD
    · exact hpC q hq) (fun b o hbn e => hsb.extBut b o hbn e)
  obtain ⟨hf, S2⟩ := St.adopt (priv := its ++ cells) S1 hpD hv hbb
  refine o1_2 (fun a ea hla => ?_) (hq D hf)
  cases ea
  dsimp only
  refine args_cons (wpAny_Constant_int (args_nil ?_)) rfl
  refine wpAny_mono (op_newList (E := NoE) (s := { s' with heap := h', toks := _ }) (obs := [.ref D, .int 0]) (Q := fun v σ1 => ∃ b, v = .ref b ∧ σ1 D = some (.list (absL ns)) ∧ σ1 b = some (.list [.ref D, .int 0]) ∧ D ≠ b) S2 (.cons (.ref D) (.cons (.int _ _) .nil)) (show 2 ≤ 1000000 by decide) fun b hbn => ⟨b, rfl, ?_, upd_self, ?_⟩) (fun v s₂ r => ?_) fun _ _ e => e
  · have hne : D ≠ b := fun e => by subst e; rw [hbn] at hla; cases hla
    exact upd_at' hne hla
  · exact fun e => by subst e; rw [hbn] at hla; cases hla
  obtain ⟨x, σ2, hx, S3, hs3, b, rfl, q1, q2, q3⟩ := r
  refine wpAny_mono (store_sound H htk hx ⟨m, cells, h1, h2, h3, S3, h4⟩) (fun _ s₃ r => ?_) fun _ _ e => e
  exact ⟨.next, _, _, .next, r.1, (hss.trans (Same.trans ⟨_, _, rfl⟩ hs3)).trans r.2, h D b σ2 q1 q2 q3⟩
end

end

noncomputable def defFn (f : Str) : Option (Arguments × Scope × List Stmt) := defTab.lookup f
noncomputable def clsFn (f : Str) : Option (Addr × Arguments × Scope × List Stmt) := clsTab.lookup f

structure Prg (w : World) (C : Nat → CL) : Prop where
  fn : ∀ {lv f ps sc b vs σ Q}, defFn f = some (ps, sc, b) → vs.length = ps.args.length → awpF (C lv) ps b vs σ Q → C (lv + 1) f vs σ Q
  cls : ∀ {lv f ps sc b vs σ Q Cc}, clsFn f = some (Cc, ps, sc, b) → vs.length + 1 = ps.args.length →
    (∀ a, σ a = none → awpF (C lv) ps b (.ref a :: vs) (upd σ a (.inst Cc [])) fun v σ' => v = .none ∧ Q (.ref a) σ') → C (lv + 1) f vs σ Q

theorem setE_ne {x y : Str} {u : V} {ρ : AEnv} {o : Option V} (h : decide (y = x) = false) (k : ρ y = o) : setE x u ρ y = o := (if_neg (of_decide_eq_false h)).trans k
theorem setE_eq {x : Str} {u : V} {ρ : AEnv} : setE x u ρ x = some u := if_pos rfl
section rules
variable {cl : CL} {n : Nat} {ρ : AEnv} {σ : Store} {Q : PE} {QS : PS} {QT : Bool → Store → Prop} {x f : Str} {p p' p'' : Pos} {e e' l r t b o : Expr} {es vs args : List Expr} {ss bb oo : List Stmt} {v u : V} {ps : Arguments} {Vs : List V} {k : Nat}

theorem r_F (h : blkW (awpS cl 20) ss (bindA ps.args Vs) σ (retW Q)) : awpF cl ps ss Vs σ Q := h
/- expressions -/
theorem r_Name (hx : ρ x = some v) (h : Q v σ) : awpE cl (n + 1) (.Name x p) ρ σ Q := by
  show optW (ρ x) _
  rw [hx]; exact h
theorem r_none {kd : Nat} (h : Q .none σ) : awpE cl (n + 1) (.Constant .none kd p) ρ σ Q := h
theorem r_int {kd : Nat} {i : Int} (h : Q (.int i) σ) : awpE cl (n + 1) (.Constant (.int i) kd p) ρ σ Q := h
theorem r_bool {kd : Nat} {i : Bool} (h : Q (.bool i) σ) : awpE cl (n + 1) (.Constant (.bool i) kd p) ρ σ Q := h
theorem r_str {kd : Nat} {i : Str} (h : Q (.str i) σ) : awpE cl (n + 1) (.Constant (.str i) kd p) ρ σ Q := h
theorem r_Attr (h : awpE cl n e ρ σ fun a σ₁ => getW σ₁ a x Q) : awpE cl (n + 1) (.Attribute e x p) ρ σ Q := h
theorem r_ItemN (h : awpE cl n e ρ σ fun o σ₁ => awpE cl n (.Name x p') ρ σ₁ fun k σ₂ => subW σ₂ o k Q) : awpE cl (n + 1) (.Subscript e (.Name x p') p) ρ σ Q := h
theorem r_ItemC {c : Const} {kd : Nat} (h : awpE cl n e ρ σ fun o σ₁ => awpE cl n (.Constant c kd p') ρ σ₁ fun k σ₂ => subW σ₂ o k Q) : awpE cl (n + 1) (.Subscript e (.Constant c kd p') p) ρ σ Q := h
theorem r_ItemB {op : Operator} (h : awpE cl n e ρ σ fun o σ₁ => awpE cl n (.BinOp l op r p') ρ σ₁ fun k σ₂ => subW σ₂ o k Q) : awpE cl (n + 1) (.Subscript e (.BinOp l op r p') p) ρ σ Q := h
theorem r_ItemF {kw : List Keyword} (h : awpE cl n e ρ σ fun o σ₁ => awpE cl n (.Call l args kw p') ρ σ₁ fun k σ₂ => subW σ₂ o k Q) : awpE cl (n + 1) (.Subscript e (.Call l args kw p') p) ρ σ Q := h
theorem r_Slice {lo hi : Option Expr} (h : awpE cl n e ρ σ fun o σ₁ => partW (awpE cl n) lo ρ σ₁ fun l σ₂ => partW (awpE cl n) hi ρ σ₂ fun h σ₃ => sliceW σ₃ o l h Q) : awpE cl (n + 1) (.Subscript e (.Slice lo hi none p') p) ρ σ Q := h
theorem r_partN {rec : RE} {QP : Option Int → Store → Prop} (h : QP none σ) : partW rec none ρ σ QP := h
theorem r_partS {rec : RE} {QP : Option Int → Store → Prop} (h : rec e ρ σ fun v σ₁ => intW v fun i => QP (some i) σ₁) : partW rec (some e) ρ σ QP := h
theorem r_Bin {op : Operator} (h : awpE cl n l ρ σ fun a σ₁ => awpE cl n r ρ σ₁ fun b σ₂ => binW op a b σ₂ Q) : awpE cl (n + 1) (.BinOp l op r p) ρ σ Q := h
theorem r_Not (h : awpE cl n e ρ σ fun a σ₁ => boolW a fun b => Q (.bool (!b)) σ₁) : awpE cl (n + 1) (.UnaryOp .Not e p) ρ σ Q := h
theorem r_Neg (h : awpE cl n e ρ σ fun a σ₁ => intW a fun i => Q (.int (-i)) σ₁) : awpE cl (n + 1) (.UnaryOp .USub e p) ρ σ Q := h
theorem r_And1 (h : awpE cl n e ρ σ Q) : awpE cl (n + 1) (.BoolOp .And [e] p) ρ σ Q := h
theorem r_And (h : awpE cl n e ρ σ fun v σ₁ => boolW v fun b => if b then bopW (awpE cl n) .And (e' :: es) ρ σ₁ Q else Q v σ₁) : awpE cl (n + 1) (.BoolOp .And (e :: e' :: es) p) ρ σ Q := by
  show awpE cl n e ρ σ _
  refine (?_ : awpE cl n e ρ σ (fun v σ₁ => boolW v fun b => match BoolOp.And, b with | .And, true => bopW (awpE cl n) .And (e' :: es) ρ σ₁ Q | .Or, false => bopW (awpE cl n) .And (e' :: es) ρ σ₁ Q | _, _ => Q v σ₁))
  have : (fun (v : V) (σ₁ : Store) => boolW v fun b => match BoolOp.And, b with | .And, true => bopW (awpE cl n) .And (e' :: es) ρ σ₁ Q | .Or, false => bopW (awpE cl n) .And (e' :: es) ρ σ₁ Q | _, _ => Q v σ₁) = fun v σ₁ => boolW v fun b => if b then bopW (awpE cl n) .And (e' :: es) ρ σ₁ Q else Q v σ₁ := by
    funext v σ₁
    congr 1
    funext b
    cases b <;> rfl
  rw [this]; exact h
theorem r_Or (h : awpE cl n e ρ σ fun v σ₁ => boolW v fun b => if b then Q v σ₁ else bopW (awpE cl n) .Or (e' :: es) ρ σ₁ Q) : awpE cl (n + 1) (.BoolOp .Or (e :: e' :: es) p) ρ σ Q := by
  show awpE cl n e ρ σ _
  refine (?_ : awpE cl n e ρ σ (fun v σ₁ => boolW v fun b => match BoolOp.Or, b with | .And, true => bopW (awpE cl n) .Or (e' :: es) ρ σ₁ Q | .Or, false => bopW (awpE cl n) .Or (e' :: es) ρ σ₁ Q | _, _ => Q v σ₁))
  have : (fun (v : V) (σ₁ : Store) => boolW v fun b => match BoolOp.Or, b with | .And, true => bopW (awpE cl n) .Or (e' :: es) ρ σ₁ Q | .Or, false => bopW (awpE cl n) .Or (e' :: es) ρ σ₁ Q | _, _ => Q v σ₁) = fun v σ₁ => boolW v fun b => if b then Q v σ₁ else bopW (awpE cl n) .Or (e' :: es) ρ σ₁ Q := by
    funext v σ₁
    congr 1
    funext b
    cases b <;> rfl
  rw [this]; exact h
theorem r_bop1 {rec : RE} {op : BoolOp} (h : rec e ρ σ Q) : bopW rec op [e] ρ σ Q := h
theorem r_bopA {rec : RE} (h : rec e ρ σ fun v σ₁ => boolW v fun b => if b then bopW rec .And (e' :: es) ρ σ₁ Q else Q v σ₁) : bopW rec .And (e :: e' :: es) ρ σ Q := by
  have : (fun (v : V) (σ₁ : Store) => boolW v fun b => match BoolOp.And, b with | .And, true => bopW rec .And (e' :: es) ρ σ₁ Q | .Or, false => bopW rec .And (e' :: es) ρ σ₁ Q | _, _ => Q v σ₁) = fun v σ₁ => boolW v fun b => if b then bopW rec .And (e' :: es) ρ σ₁ Q else Q v σ₁ := by
    funext v σ₁
    congr 1
    funext b
    cases b <;> rfl
  show rec e ρ σ _
  refine (?_ : rec e ρ σ (fun v σ₁ => boolW v fun b => match BoolOp.And, b with | .And, true => bopW rec .And (e' :: es) ρ σ₁ Q | .Or, false => bopW rec .And (e' :: es) ρ σ₁ Q | _, _ => Q v σ₁))
  rw [this]; exact h
theorem r_bopO {rec : RE} (h : rec e ρ σ fun v σ₁ => boolW v fun b => if b then Q v σ₁ else bopW rec .Or (e' :: es) ρ σ₁ Q) : bopW rec .Or (e :: e' :: es) ρ σ Q := by
  have : (fun (v : V) (σ₁ : Store) => boolW v fun b => match BoolOp.Or, b with | .And, true => bopW rec .Or (e' :: es) ρ σ₁ Q | .Or, false => bopW rec .Or (e' :: es) ρ σ₁ Q | _, _ => Q v σ₁) = fun v σ₁ => boolW v fun b => if b then Q v σ₁ else bopW rec .Or (e' :: es) ρ σ₁ Q := by
    funext v σ₁
    congr 1
    funext b
    cases b <;> rfl
  show rec e ρ σ _
  refine (?_ : rec e ρ σ (fun v σ₁ => boolW v fun b => match BoolOp.Or, b with | .And, true => bopW rec .Or (e' :: es) ρ σ₁ Q | .Or, false => bopW rec .Or (e' :: es) ρ σ₁ Q | _, _ => Q v σ₁))
  rw [this]; exact h
theorem r_Cmp {op : CmpOp} (h : awpE cl n l ρ σ fun a σ₁ => awpE cl n r ρ σ₁ fun b σ₂ => cmpW op a b σ₂ fun c => Q (.bool c) σ₂) : awpE cl (n + 1) (.Compare l [op] [r] p) ρ σ Q := h
theorem r_Cmp2 {op op' : CmpOp} {r' : Expr} (h : awpE cl n l ρ σ fun a σ₁ => awpE cl n r ρ σ₁ fun b σ₂ => cmpW op a b σ₂ fun c => if c then awpE cl n r' ρ σ₂ fun d σ₃ => cmpW op' b d σ₃ fun c => Q (.bool c) σ₃ else Q (.bool false) σ₂) :
    awpE cl (n + 1) (.Compare l [op, op'] [r, r'] p) ρ σ Q := h
theorem r_IfE (h : awpT cl n t ρ σ fun c σ₁ => if c then awpE cl n b ρ σ₁ Q else awpE cl n o ρ σ₁ Q) : awpE cl (n + 1) (.IfExp t b o p) ρ σ Q := h
theorem r_List (h : evL (awpE cl n) es ρ σ fun vs σ₁ => newW σ₁ (.list vs) Q) : awpE cl (n + 1) (.List es p) ρ σ Q := h
theorem r_Tup (h : evL (awpE cl n) es ρ σ fun vs σ₁ => newW σ₁ (.tup vs) Q) : awpE cl (n + 1) (.Tuple es k p) ρ σ Q := h
theorem r_Dict0 (h : newD σ [] Q) : awpE cl (n + 1) (.Dict [] [] p) ρ σ Q := h
theorem r_ev0 {rec : RE} {QL : List V → Store → Prop} (h : QL [] σ) : evL rec [] ρ σ QL := h
theorem r_ev1 {rec : RE} {QL : List V → Store → Prop} (h : rec e ρ σ fun v σ₁ => evL rec es ρ σ₁ fun vs σ₂ => QL (v :: vs) σ₂) : evL rec (e :: es) ρ σ QL := h
theorem r_CallF (h1 : decide (f = ("isinstance" : Str)) = false) (h2 : decide (f ∈ bltNames) = false) (h : evL (awpE cl n) args ρ σ fun vs σ₁ => cl f vs σ₁ Q) : awpE cl (n + 1) (.Call (.Name f p') args [] p) ρ σ Q := by
  show callW cl (awpE cl n) f args ρ σ Q
  unfold callW
  rw [if_neg (of_decide_eq_false h1), if_neg (of_decide_eq_false h2)]; exact h
theorem r_CallB (h1 : decide (f = ("isinstance" : Str)) = false) (h2 : decide (f ∈ bltNames) = true) (h : evL (awpE cl n) args ρ σ fun vs σ₁ => bltW f vs σ₁ Q) : awpE cl (n + 1) (.Call (.Name f p') args [] p) ρ σ Q := by
  show callW cl (awpE cl n) f args ρ σ Q
  unfold callW
  rw [if_neg (of_decide_eq_false h1), if_pos (of_decide_eq_true h2)]; exact h
theorem r_IsB (h : awpE cl n e ρ σ fun v σ₁ => noRef v ∧ Q (.bool (isB v)) σ₁) : awpE cl (n + 1) (.Call (.Name "isinstance" p') [e, .Name "bool" p''] [] p) ρ σ Q := by
  show callW cl (awpE cl n) "isinstance" [e, .Name "bool" p''] ρ σ Q
  unfold callW
  rw [if_pos rfl]
  exact ⟨rfl, h⟩
theorem r_Meth (h : awpE cl n o ρ σ fun ov σ₁ => methOk x ov σ₁ ∧ evL (awpE cl n) args ρ σ₁ fun vs σ₂ => methW x ov vs σ₂ Q) : awpE cl (n + 1) (.Call (.Attribute o x p') args [] p) ρ σ Q := h
theorem r_Comp {elt it : Expr} {ifs : List Expr} {sc : Scope} (h : srcW (awpE cl n) it ρ σ fun xs o σ₁ => compL (awpE cl n) (awpT cl n) elt t ifs o xs (compEnvA sc ρ) σ₁ [] Q) : awpE cl (n + 1) (.ListComp elt [⟨t, it, ifs, 0⟩] sc p) ρ σ Q := h
theorem by_val (v : V) (h1 : Q v σ) (h2 : ∀ Q' : PE, Q' v σ → awpE cl n e ρ σ Q') : awpE cl n e ρ σ Q := h2 Q h1
/- tests -/
theorem t_Not (h : awpT cl n e ρ σ fun b σ₁ => QT (!b) σ₁) : awpT cl (n + 1) (.UnaryOp .Not e p) ρ σ QT := h
theorem t_Cmp {op : CmpOp} (h : awpE cl n l ρ σ fun a σ₁ => awpE cl n r ρ σ₁ fun b σ₂ => cmpW op a b σ₂ fun c => QT c σ₂) : awpT cl (n + 1) (.Compare l [op] [r] p) ρ σ QT := h
theorem t_Cmp2 {op op' : CmpOp} {r' : Expr} (h : awpE cl n l ρ σ fun a σ₁ => awpE cl n r ρ σ₁ fun b σ₂ => cmpW op a b σ₂ fun c => if c then awpE cl n r' ρ σ₂ fun d σ₃ => cmpW op' b d σ₃ fun c => QT c σ₃ else QT false σ₂) :
    awpT cl (n + 1) (.Compare l [op, op'] [r, r'] p) ρ σ QT := h
theorem t_Name (h : awpE cl n (.Name x p) ρ σ fun v σ₁ => boolW v fun b => QT b σ₁) : awpT cl (n + 1) (.Name x p) ρ σ QT := h
theorem t_Const {c : Const} {kd : Nat} (h : awpE cl n (.Constant c kd p) ρ σ fun v σ₁ => boolW v fun b => QT b σ₁) : awpT cl (n + 1) (.Constant c kd p) ρ σ QT := h
theorem t_Call {kw : List Keyword} (h : awpE cl n (.Call e args kw p) ρ σ fun v σ₁ => boolW v fun b => QT b σ₁) : awpT cl (n + 1) (.Call e args kw p) ρ σ QT := h
theorem t_And0 (h : QT true σ) : awpT cl (n + 1) (.BoolOp .And [] p) ρ σ QT := h
theorem ta_cond {QT' : Bool → Store → Prop} {rt : RT} (h : rt e ρ σ QT) (he : QT = QT') : rt e ρ σ QT' := he ▸ h
theorem t_And (h : allW (awpT cl n) .And es ρ σ QT) : awpT cl (n + 1) (.BoolOp .And es p) ρ σ QT := h
theorem t_Or (h : allW (awpT cl n) .Or es ρ σ QT) : awpT cl (n + 1) (.BoolOp .Or es p) ρ σ QT := h
theorem a_nilA {rt : RT} (h : QT true σ) : allW rt .And [] ρ σ QT := h
theorem a_nilO {rt : RT} (h : QT false σ) : allW rt .Or [] ρ σ QT := h
theorem a_consA {rt : RT} (h : rt e ρ σ fun b σ₁ => if b then allW rt .And es ρ σ₁ QT else QT false σ₁) : allW rt .And (e :: es) ρ σ QT := by
  show rt e ρ σ _
  refine ta_cond h ?_
  funext b σ₁
  cases b <;> rfl
theorem a_consO {rt : RT} (h : rt e ρ σ fun b σ₁ => if b then QT true σ₁ else allW rt .Or es ρ σ₁ QT) : allW rt .Or (e :: es) ρ σ QT := by
  show rt e ρ σ _
  refine ta_cond h ?_
  funext b σ₁
  cases b <;> rfl
/- pieces -/
theorem w_bool {b : Bool} {k : Bool → Prop} (h : k b) : boolW (.bool b) k := h
theorem w_int {i : Int} {k : Int → Prop} (h : k i) : intW (.int i) k := h
theorem w_itrue {P P' : Prop} (h : P) : (if true = true then P else P') := h
theorem w_ifalse {P P' : Prop} (h : P') : (if false = true then P else P') := h
theorem w_iTrue {P P' : Prop} (h : P) : (if True then P else P') := by rw [if_pos trivial]; exact h
theorem w_iFalse {P P' : Prop} (h : P') : (if False then P else P') := by rw [if_neg (fun e => e)]; exact h
theorem w_if {P P' : Prop} {b : Bool} (h1 : b = true → P) (h2 : b = false → P') : (if b = true then P else P') := by
  cases b
  · exact h2 rfl
  · exact h1 rfl
theorem w_ifself {P P' : Prop} {a : Addr} (h : P) : (if decide (a = a) = true then P else P') := by rw [if_pos (decide_eq_true rfl)]; exact h
theorem w_ifne {P P' : Prop} {a b : Addr} (hab : a ≠ b) (h : P') : (if decide (a = b) = true then P else P') := by rw [if_neg (by simpa using hab)]; exact h
theorem w_ifnself {P P' : Prop} {a : Addr} (h : P') : (if (!decide (a = a)) = true then P else P') := by rw [if_neg (by simp)]; exact h
theorem w_ifnne {P P' : Prop} {a b : Addr} (hab : a ≠ b) (h : P) : (if (!decide (a = b)) = true then P else P') := by rw [if_pos (by simpa using hab)]; exact h
theorem w_lt {i j : Int} {k : Bool → Prop} (h : k (decide (i < j))) : cmpW .Lt (.int i) (.int j) σ k := h
theorem w_le {i j : Int} {k : Bool → Prop} (h : k (decide (i ≤ j))) : cmpW .LtE (.int i) (.int j) σ k := h
theorem w_gt {i j : Int} {k : Bool → Prop} (h : k (decide (i > j))) : cmpW .Gt (.int i) (.int j) σ k := h
theorem w_ge {i j : Int} {k : Bool → Prop} (h : k (decide (i ≥ j))) : cmpW .GtE (.int i) (.int j) σ k := h
theorem w_eqi {i j : Int} {k : Bool → Prop} (h : k (i == j)) : cmpW .Eq (.int i) (.int j) σ k := ⟨_, .inl (.int i j), h⟩
theorem w_eqB {c : Bool} {k : Bool → Prop} (hb : EqB v u c) (h : k c) : cmpW .Eq v u σ k := ⟨_, .inl hb, h⟩
theorem w_neB {c : Bool} {k : Bool → Prop} (hb : EqB v u c) (h : k (!c)) : cmpW .NotEq v u σ k := ⟨_, .inl hb, h⟩
theorem w_eqN {c : Bool} {k : Bool → Prop} (hb : EqN σ 4 v u c) (h : k c) : cmpW .Eq v u σ k := ⟨_, hb, h⟩
theorem w_neN {c : Bool} {k : Bool → Prop} (hb : EqN σ 4 v u c) (h : k (!c)) : cmpW .NotEq v u σ k := ⟨_, hb, h⟩
theorem w_nei {i j : Int} {k : Bool → Prop} (h : k (!(i == j))) : cmpW .NotEq (.int i) (.int j) σ k := ⟨_, .inl (.int i j), h⟩
theorem w_isNN {k : Bool → Prop} (h : k true) : cmpW .Is .none .none σ k := h
theorem w_isRN {a : Addr} {k : Bool → Prop} (h : k false) : cmpW .Is (.ref a) .none σ k := h
theorem w_isNR {a : Addr} {k : Bool → Prop} (h : k false) : cmpW .Is .none (.ref a) σ k := h
theorem w_isRR {a b : Addr} {k : Bool → Prop} (ha : instAt σ a) (hb : instAt σ b) (h : k (decide (a = b))) : cmpW .Is (.ref a) (.ref b) σ k := ⟨⟨ha, hb⟩, h⟩
theorem w_isnNN {k : Bool → Prop} (h : k false) : cmpW .IsNot .none .none σ k := h
theorem w_isnRN {a : Addr} {k : Bool → Prop} (h : k true) : cmpW .IsNot (.ref a) .none σ k := h
theorem w_isnNR {a : Addr} {k : Bool → Prop} (h : k true) : cmpW .IsNot .none (.ref a) σ k := h
theorem w_isnRR {a b : Addr} {k : Bool → Prop} (ha : instAt σ a) (hb : instAt σ b) (h : k (!decide (a = b))) : cmpW .IsNot (.ref a) (.ref b) σ k := ⟨⟨ha, hb⟩, h⟩
theorem w_addi {i j : Int} (h : Q (.int (i + j)) σ) : binW .Add (.int i) (.int j) σ Q := h
theorem w_subi {i j : Int} (h : Q (.int (i - j)) σ) : binW .Sub (.int i) (.int j) σ Q := h
theorem w_muli {i j : Int} (h1 : 0 ≤ i ∧ i ≤ 1000000) (h : Q (.int (i * j)) σ) : binW .Mult (.int i) (.int j) σ Q := ⟨h1, h⟩
theorem w_modi {i j : Int} (h1 : 0 < j) (h : Q (.int (Int.fmod i j)) σ) : binW .Mod (.int i) (.int j) σ Q := ⟨h1, h⟩
theorem w_divi {i j : Int} (h1 : 0 < j ∧ j ≤ 1000000) (h : Q (.int (Int.fdiv i j)) σ) : binW .FloorDiv (.int i) (.int j) σ Q := ⟨h1, h⟩
theorem w_list {a : Addr} {xs : List V} {k : Addr → List V → Prop} (ha : σ a = some (.list xs)) (h : k a xs) : listW σ (.ref a) k := by
  unfold listW refW
  dsimp only
  rw [ha]
  exact h
theorem w_adds {a b : Addr} {xs ys : List V} (ha : σ a = some (.list xs)) (hb : σ b = some (.list ys)) (hl : xs.length + ys.length ≤ bigN) (h : newW σ (.list (xs ++ ys)) Q) : binW .Add (.ref a) (.ref b) σ Q := w_list (k := fun _ xs => listW σ (.ref b) fun _ ys => xs.length + ys.length ≤ bigN ∧ newW σ (.list (xs ++ ys)) Q) ha (w_list hb ⟨hl, h⟩)
theorem w_get {a Cc : Addr} {fs : Fields} (ha : σ a = some (.inst Cc fs)) (hx : getF x fs = some v) (h : Q v σ) : getW σ (.ref a) x Q := by
  unfold getW refW
  dsimp only
  rw [ha]
  dsimp only
  rw [hx]
  exact h
theorem w_set {a Cc : Addr} {fs fs' : Fields} {k : Store → Prop} (ha : σ a = some (.inst Cc fs)) (hx : decide (x ∈ fldNames) = true) (hf : putF x u fs = fs') (hl : fs'.length ≤ 100) (h : k (upd σ a (.inst Cc fs'))) : setW σ (.ref a) x u k := by
  subst hf
  unfold setW refW
  dsimp only
  rw [ha]
  exact ⟨⟨of_decide_eq_true hx, hl⟩, h⟩
theorem w_subl {a : Addr} {i : Int} {xs : List V} (ha : σ a = some (.list xs)) (h0 : 0 ≤ i) (hx : xs[i.toNat]? = some v) (h : Q v σ) : subW σ (.ref a) (.int i) Q := by
  unfold subW refW intW
  dsimp only
  rw [ha]
  refine ⟨h0, ?_⟩
  rw [hx]; exact h
theorem w_subt {a : Addr} {i : Int} {xs : List V} (ha : σ a = some (.tup xs)) (h0 : 0 ≤ i) (hx : xs[i.toNat]? = some v) (h : Q v σ) : subW σ (.ref a) (.int i) Q := by
  unfold subW refW intW
  dsimp only
  rw [ha]
  refine ⟨h0, ?_⟩
  rw [hx]; exact h
theorem w_slice {a : Addr} {xs : List V} {lo hi : Option Int} (ha : σ a = some (.list xs)) (h1 : partOk lo) (h2 : partOk hi) (h : newW σ (.list (sliceL lo hi xs)) Q) : sliceW σ (.ref a) lo hi Q := w_list ha ⟨⟨h1, h2⟩, h⟩
/- statements -/
theorem b_nil {rs : RS} (h : QS .next ρ σ) : blkW rs [] ρ σ QS := h
theorem b_Name (h : awpE cl 20 e ρ σ fun v σ₁ => blkW (awpS cl (n + 1)) ss (setE x v ρ) σ₁ QS) : blkW (awpS cl (n + 1)) (.Assign [.Name x p'] e p :: ss) ρ σ QS := h
theorem b_Attr (h : awpE cl 20 e ρ σ fun v σ₁ => awpE cl 20 o ρ σ₁ fun ov σ₂ => setW σ₂ ov x v fun σ₃ => blkW (awpS cl (n + 1)) ss ρ σ₃ QS) : blkW (awpS cl (n + 1)) (.Assign [.Attribute o x p'] e p :: ss) ρ σ QS := h
theorem b_Item (h : awpE cl 20 e ρ σ fun v σ₁ => awpE cl 20 o ρ σ₁ fun ov σ₂ => awpE cl 20 l ρ σ₂ fun iv σ₃ => setItemW σ₃ ov iv v fun σ₄ => blkW (awpS cl (n + 1)) ss ρ σ₄ QS) : blkW (awpS cl (n + 1)) (.Assign [.Subscript o l p'] e p :: ss) ρ σ QS := h
theorem b_Tup {ts : List Expr} (h : awpE cl 20 e ρ σ fun v σ₁ => asgW 3 (.Tuple ts k p') v ρ σ₁ fun ρ₁ => blkW (awpS cl (n + 1)) ss ρ₁ σ₁ QS) : blkW (awpS cl (n + 1)) (.Assign [.Tuple ts k p'] e p :: ss) ρ σ QS := h
theorem b_Expr (h : awpE cl 20 e ρ σ fun v σ₁ => noRef v ∧ blkW (awpS cl (n + 1)) ss ρ σ₁ QS) : blkW (awpS cl (n + 1)) (.Expr e p :: ss) ρ σ QS := h
noncomputable def thenB (rs : RS) (ss : List Stmt) (QS : PS) : PS := fun fl ρ₁ σ₁ => match fl with | .next => blkW rs ss ρ₁ σ₁ QS | f => QS f ρ₁ σ₁
theorem th_next {rs : RS} (h : blkW rs ss ρ σ QS) : thenB rs ss QS .next ρ σ := h
theorem th_ret {rs : RS} (h : QS (.ret v) ρ σ) : thenB rs ss QS (.ret v) ρ σ := h
theorem th_brk {rs : RS} (h : QS .brk ρ σ) : thenB rs ss QS .brk ρ σ := h
theorem th_cont {rs : RS} (h : QS .cont ρ σ) : thenB rs ss QS .cont ρ σ := h
theorem rt_ret (h : Q v σ) : retW Q (.ret v) ρ σ := h
theorem rt_next (h : Q .none σ) : retW Q .next ρ σ := h
theorem b_If (h : awpT cl 20 t ρ σ fun c σ₁ => if c then blkW (awpS cl n) bb ρ σ₁ (thenB (awpS cl (n + 1)) ss QS) else blkW (awpS cl n) oo ρ σ₁ (thenB (awpS cl (n + 1)) ss QS)) : blkW (awpS cl (n + 1)) (.If t bb oo p :: ss) ρ σ QS := h
theorem b_Ret (h : awpE cl 20 e ρ σ fun v σ₁ => QS (.ret v) ρ σ₁) : blkW (awpS cl (n + 1)) (.Return (some e) p :: ss) ρ σ QS := h
theorem b_Ret0 (h : QS (.ret .none) ρ σ) : blkW (awpS cl (n + 1)) (.Return none p :: ss) ρ σ QS := h
theorem b_While (h : whileW (fun ρ σ k => awpT cl 20 t ρ σ k) (blkW (awpS cl n) bb) ρ σ (thenB (awpS cl (n + 1)) ss QS)) : blkW (awpS cl (n + 1)) (.While t bb [] p :: ss) ρ σ QS := h
theorem b_For (h : srcW (awpE cl 20) e ρ σ fun xs o σ₁ => forW (blkW (awpS cl n) bb) t o xs ρ σ₁ (thenB (awpS cl (n + 1)) ss QS)) : blkW (awpS cl (n + 1)) (.For t e bb [] p :: ss) ρ σ QS := h
theorem g_Name {m : Nat} {k : AEnv → Prop} (h : k (setE x v ρ)) : asgW (m + 1) (.Name x p) v ρ σ k := h
theorem g_Tup {m : Nat} {ts : List Expr} {kk : Nat} {a : Addr} {xs : List V} {k : AEnv → Prop} (ha : σ a = some (.tup xs)) (hl : ts.length = xs.length) (h : asgL (asgW m) ts xs ρ σ k) : asgW (m + 1) (.Tuple ts kk p) (.ref a) ρ σ k := by
  show asgS (asgW m) (.Tuple ts kk p) (.ref a) ρ σ k
  unfold asgS refW
  dsimp only
  rw [ha]
  exact ⟨hl, h⟩
theorem g_nil {rc : Expr → V → AEnv → Store → (AEnv → Prop) → Prop} {k : AEnv → Prop} (h : k ρ) : asgL rc [] [] ρ σ k := h
theorem g_cons {rc : Expr → V → AEnv → Store → (AEnv → Prop) → Prop} {ts : List Expr} {xs : List V} {k : AEnv → Prop} (h : rc t v ρ σ fun ρ₁ => asgL rc ts xs ρ₁ σ k) : asgL rc (t :: ts) (v :: xs) ρ σ k := h
/- steps at once -/
theorem m_AtG {y : Str} {a Cc : Addr} {fs : Fields} (hx : ρ y = some (.ref a)) (ha : σ a = some (.inst Cc fs)) (hf : getF x fs = some v) (h : Q v σ) : awpE cl (n + 2) (.Attribute (.Name y p') x p) ρ σ Q := r_Attr (r_Name hx (w_get ha hf h))
theorem m_AtN {y : Str} (hx : ρ y = some u) (h : getW σ u x Q) : awpE cl (n + 2) (.Attribute (.Name y p') x p) ρ σ Q := r_Attr (r_Name hx h)
theorem m_ev3 {QL : List V → Store → Prop} {y z : Str} {v' v'' : V} (hx : ρ x = some v) (hy : ρ y = some v') (hz : ρ z = some v'') (h : QL [v, v', v''] σ) : evL (awpE cl (n + 1)) [.Name x p, .Name y p', .Name z p''] ρ σ QL := r_ev1 (r_Name hx (r_ev1 (r_Name hy (r_ev1 (r_Name hz (r_ev0 h))))))
theorem m_ev2 {QL : List V → Store → Prop} {y : Str} {v' : V} (hx : ρ x = some v) (hy : ρ y = some v') (h : QL [v, v'] σ) : evL (awpE cl (n + 1)) [.Name x p, .Name y p'] ρ σ QL := r_ev1 (r_Name hx (r_ev1 (r_Name hy (r_ev0 h))))
theorem m_ev1 {QL : List V → Store → Prop} (hx : ρ x = some v) (h : QL [v] σ) : evL (awpE cl (n + 1)) [.Name x p] ρ σ QL := r_ev1 (r_Name hx (r_ev0 h))
theorem m_evI {QL : List V → Store → Prop} {kd : Nat} {i : Int} (h : QL [.int i] σ) : evL (awpE cl (n + 1)) [.Constant (.int i) kd p] ρ σ QL := h
theorem m_evN {QL : List V → Store → Prop} (hx : ρ x = some v) (h : evL (awpE cl (n + 1)) (e :: es) ρ σ fun vs σ₂ => QL (v :: vs) σ₂) : evL (awpE cl (n + 1)) (.Name x p :: e :: es) ρ σ QL := r_ev1 (r_Name hx h)
theorem m_evL {rec : RE} {QL : List V → Store → Prop} (h : rec e ρ σ fun v σ₁ => QL [v] σ₁) : evL rec [e] ρ σ QL := h
theorem m_CmNN {y : Str} {op : CmpOp} (hx : ρ x = some v) (hy : ρ y = some u) (h : cmpW op v u σ fun c => QT c σ) : awpT cl (n + 2) (.Compare (.Name x p) [op] [.Name y p'] p'') ρ σ QT := t_Cmp (r_Name hx (r_Name hy h))
theorem m_CmNI {op : CmpOp} {kd : Nat} {i : Int} (hx : ρ x = some v) (h : cmpW op v (.int i) σ fun c => QT c σ) : awpT cl (n + 2) (.Compare (.Name x p) [op] [.Constant (.int i) kd p'] p'') ρ σ QT := t_Cmp (r_Name hx h)
theorem m_CmNO {op : CmpOp} {kd : Nat} (hx : ρ x = some v) (h : cmpW op v .none σ fun c => QT c σ) : awpT cl (n + 2) (.Compare (.Name x p) [op] [.Constant .none kd p'] p'') ρ σ QT := t_Cmp (r_Name hx h)
theorem m_CmN {op : CmpOp} (hx : ρ x = some v) (h : awpE cl (n + 1) r ρ σ fun b σ₂ => cmpW op v b σ₂ fun c => QT c σ₂) : awpT cl (n + 2) (.Compare (.Name x p) [op] [r] p'') ρ σ QT := t_Cmp (r_Name hx h)
theorem m_CmI {op : CmpOp} {kd : Nat} {i : Int} (h : awpE cl (n + 1) l ρ σ fun a σ₁ => cmpW op a (.int i) σ₁ fun c => QT c σ₁) : awpT cl (n + 2) (.Compare l [op] [.Constant (.int i) kd p'] p'') ρ σ QT := h
theorem m_CmO {op : CmpOp} {kd : Nat} (h : awpE cl (n + 1) l ρ σ fun a σ₁ => cmpW op a .none σ₁ fun c => QT c σ₁) : awpT cl (n + 2) (.Compare l [op] [.Constant .none kd p'] p'') ρ σ QT := h
theorem m_BiNN {y : Str} {op : Operator} (hx : ρ x = some v) (hy : ρ y = some u) (h : binW op v u σ Q) : awpE cl (n + 2) (.BinOp (.Name x p) op (.Name y p') p'') ρ σ Q := r_Bin (r_Name hx (r_Name hy h))
theorem m_BiNI {op : Operator} {kd : Nat} {i : Int} (hx : ρ x = some v) (h : binW op v (.int i) σ Q) : awpE cl (n + 2) (.BinOp (.Name x p) op (.Constant (.int i) kd p') p'') ρ σ Q := r_Bin (r_Name hx h)
theorem m_BiN {op : Operator} (hx : ρ x = some v) (h : awpE cl (n + 1) r ρ σ fun b σ₂ => binW op v b σ₂ Q) : awpE cl (n + 2) (.BinOp (.Name x p) op r p'') ρ σ Q := r_Bin (r_Name hx h)
theorem m_BiI {op : Operator} {kd : Nat} {i : Int} (h : awpE cl (n + 1) l ρ σ fun a σ₁ => binW op a (.int i) σ₁ Q) : awpE cl (n + 2) (.BinOp l op (.Constant (.int i) kd p') p'') ρ σ Q := h
theorem m_ItNI {kd : Nat} {i : Int} (hx : ρ x = some v) (h : subW σ v (.int i) Q) : awpE cl (n + 2) (.Subscript (.Name x p) (.Constant (.int i) kd p') p'') ρ σ Q := r_ItemC (r_Name hx h)
theorem m_ItNN {y : Str} (hx : ρ x = some v) (hy : ρ y = some u) (h : subW σ v u Q) : awpE cl (n + 2) (.Subscript (.Name x p) (.Name y p') p'') ρ σ Q := r_ItemN (r_Name hx (r_Name hy h))
theorem m_ItI {kd : Nat} {i : Int} (h : awpE cl (n + 1) e ρ σ fun o σ₁ => subW σ₁ o (.int i) Q) : awpE cl (n + 2) (.Subscript e (.Constant (.int i) kd p') p'') ρ σ Q := h
theorem m_RtN (hx : ρ x = some v) (h : QS (.ret v) ρ σ) : blkW (awpS cl (n + 1)) (.Return (some (.Name x p)) p' :: ss) ρ σ QS := b_Ret (r_Name hx h)
theorem m_AsN {y : Str} (hx : ρ y = some v) (h : blkW (awpS cl (n + 1)) ss (setE x v ρ) σ QS) : blkW (awpS cl (n + 1)) (.Assign [.Name x p'] (.Name y p'') p :: ss) ρ σ QS := b_Name (r_Name hx h)
theorem m_AsI {kd : Nat} {i : Int} (h : blkW (awpS cl (n + 1)) ss (setE x (.int i) ρ) σ QS) : blkW (awpS cl (n + 1)) (.Assign [.Name x p'] (.Constant (.int i) kd p'') p :: ss) ρ σ QS := h
theorem m_AsO {kd : Nat} (h : blkW (awpS cl (n + 1)) ss (setE x .none ρ) σ QS) : blkW (awpS cl (n + 1)) (.Assign [.Name x p'] (.Constant .none kd p'') p :: ss) ρ σ QS := h
theorem m_PaN {QP : Option Int → Store → Prop} {i : Int} (hx : ρ x = some (.int i)) (h : QP (some i) σ) : partW (awpE cl (n + 1)) (some (.Name x p)) ρ σ QP := r_partS (r_Name hx h)
end rules
theorem upd_at {σ : Store} {a b : Addr} {o : O} {r : Option O} (hb : b ≠ a) (h : σ b = r) : upd σ a o b = r := (upd_ne hb).trans h

/-- the text of each function keeps the check -/
theorem defs_fine : defTab.all (fun r => chkFn r.2.1 r.2.2.1 r.2.2.2) = true := by kernel_rfl
theorem inits_fine : clsTab.all (fun r => chkFn r.2.2.1 r.2.2.2.1 r.2.2.2.2) = true := by kernel_rfl

/-- what the walk wants of the objects that stand -/
structure Good (K : Frag) : Prop where
  fns : fnsOk K = true
  blt : bltFree K = true
  tab : ∀ r ∈ defTab, fnD K r.1 = some r.2
  cls : ∀ r ∈ clsTab, addrOf K r.1 = some r.2.1 ∧ (clsInit K r.2.1).bind (fnA K) = some r.2.2

section
variable {prog : Program} {w : World} {K : Frag} {p : Program} {loose : List Str} {mean : ExcName → Option Value} {mg mb : Str → Option Value}
theorem prg_ok (g : Good K) : Prg w (CallOk prog w K p loose mean mg mb) where
  fn := by
    intro lv f ps sc b vs σ Q hfn hl hw
    have h1 := List.all_eq_true.mp defs_fine _ (mem_of_lookup hfn)
    have hfn := g.tab _ (mem_of_lookup hfn)
    dsimp only at hfn
    unfold fnD at hfn
    cases q : addrOf K f with
    | none => rw [q] at hfn; cases hfn
    | some a =>
      rw [q] at hfn
      have hns := addrOf_ns q
      have hfn' : fnA K a = some (ps, sc, b) := hfn
      exact ⟨a, hns, call_own (fnA_at hfn') h1 g.blt g.fns hw hl⟩
  cls := by
    intro lv f ps sc b vs σ Q Cc hc hl hw
    obtain ⟨ha, hi⟩ := g.cls _ (mem_of_lookup hc)
    dsimp only at ha hi
    have hns := addrOf_ns ha
    have h6 := List.all_eq_true.mp inits_fine _ (mem_of_lookup hc)
    cases q : clsInit K Cc with
    | none => rw [q] at hi; cases hi
    | some fI =>
      rw [q] at hi
      have hfn : fnA K fI = some (ps, sc, b) := hi
      unfold clsInit at q
      split at q
      · rename_i hfi
        split at q
        · rename_i hk
          cases q
          simp only [Bool.and_eq_true] at hk
          exact ⟨Cc, hns, call_class (fnA_at hfn) h6 g.blt g.fns hk.1.1 hfi hk.1.2 hk.2 hw hl⟩
        · cases q
      · cases q
end

noncomputable def LawGo (C : Nat → CL) (ss : List Stmt) : Prop := ∀ (ρ : AEnv) (σ : Store) (a b : Addr) (ns : List Int), ns.length ≤ 63 → σ a = some (.list (absL ns)) → σ b = some (.list [.ref a, .int 0]) → a ≠ b →
  blkW (awpS (C 14) 20) ss (setE "deck" (.ref b) ρ) σ (retW fun v _ => v = .bool true)
noncomputable def LawRest (C : Nat → CL) : Prop := match defFn "law" with
  | some (_, _, _ :: ss) => LawGo C ss
  | _ => False
theorem lr_intro {C : Nat → CL} {ps : Arguments} {sc : Scope} {st0 : Stmt} {ss : List Stmt} (h : defFn "law" = some (ps, sc, st0 :: ss)) (k : LawGo C ss) : LawRest C := by
  unfold LawRest; rw [h]; exact k
theorem lr_elim {C : Nat → CL} {ps : Arguments} {sc : Scope} {st0 : Stmt} {ss : List Stmt} (h : defFn "law" = some (ps, sc, st0 :: ss)) (k : LawRest C) : LawGo C ss := by
  unfold LawRest at k; rw [h] at k; exact k

section
variable {prog : Program} {w : World} {K : Frag} {p : Program} {loose : List Str} {mean : ExcName → Option Value} {mg mb : Str → Option Value}
variable {h₀ : Heap} {L : Addr} {A : Around} {fe : Env} {m : Str → Option Value} {σ : Store} {s : Shared}

theorem law_execs (H : FnOk K p loose mean mg mb h₀ L A fe 14) (hb : bltFree K = true) (hfn : fnsOk K = true)
    {dp lp pos p2 xp cp cp2 cp3 qp sp np ip zp : Pos} {kd kd2 : Nat} {sc : Scope} {sl : Addr} {vs : List Value} {ns : List Int} {ss : List Stmt}
    (hl : h₀.IsList sl vs.toArray) (hI : IntsAre vs ns) (hlen : ns.length ≤ 63) (F : Fr h₀ L s.heap m) (N : News h₀ L s.heap []) (hm : m "script" = some (.ref sl))
    (hks : fe.kindOf "script" = some .local) (hsc : scOk sc fe.kindOf = true) (ht : tgtOk (fun x => sc.names.lookup x == some .local) 3 (.Name "cell" cp2) = true) (hce : chkE 20 (fun x => (relK sc fe.kindOf).lookup x) (.Call (.Name "abs" cp) [.Name "cell" cp3] [] xp) = true)
    (htk : tOk fe.kindOf "deck" = true) (hcs : fe.cells = []) (hnc : ∀ x, fe.kindOf x ≠ some .cell)  (hss : ss.all (chkSt fe.kindOf 20) = true)
    (hgo : LawGo (CallOk prog w K p loose mean mg mb) ss) {R : Flow → Shared → Prop} {E : Value → Shared → Prop} (hR : ∀ s', Same s s' → (∀ b o, h₀.get? b = some o → s'.heap.get? b = some o) → R (.ret (.bool true)) s') :
    wpAny (model prog w) A (execs (.Assign [.Name "deck" dp] (.List [.ListComp (.Call (.Name "abs" cp) [.Name "cell" cp3] [] xp) [⟨.Name "cell" cp2, .Subscript (.Name "script" sp) (.Slice none (some (.Constant (.int 63) kd ip)) none qp) np, [], 0⟩] sc lp, .Constant (.int 0) kd2 zp] pos) p2 :: ss) fe) R E s := by
  have j : J prog w K h₀ L fe [] [] (fun x => if x = "script" then some (.ref sl) else none) (fun _ => none) s.heap := by
    refine ⟨m, [], rfl, ⟨.nil, fun x c hx _ => absurd hx (hnc x)⟩, (fun _ h => nomatch h), ⟨[], F, by simpa using N, ⟨.nil, (fun _ h => nomatch h), ⟨id, fun _ _ h => nomatch h⟩⟩⟩, fun x V e => ?_⟩
    dsimp only at e
    split at e
    · rename_i hx
      subst hx
      cases e
      exact ⟨_, .ref sl, .inl ⟨hks, hm⟩⟩
    · cases e
  refine wpAny_execs_cons (wpAny_mono (deck_sound (Q := fun fl ρ' σ' => ∃ a b, fl = .next ∧ ρ' = setE "deck" (.ref b) (fun x => if x = "script" then some (.ref sl) else none) ∧ σ' a = some (.list (absL ns)) ∧ σ' b = some (.list [.ref a, .int 0]) ∧ a ≠ b) H hb hfn hl hI hlen (if_pos rfl) hsc ht hce htk j fun a b σ1 h1 h2 h3 => ⟨a, b, rfl, rfl, h1, h2, h3⟩) (fun fl s₁ r => ?_) fun _ _ e => e.elim)
  obtain ⟨f, ρ₁, σ₁, hf, j₁, hs, a, b, rfl, rfl, h1, h2, h3⟩ := r
  cases hf
  refine wpAny_mono (blk_sound (awpS_sound (prog := prog) (w := w) hb hfn H 20) hss j₁ (hgo _ _ a b ns hlen h1 h2 h3)) (fun fl s' r => ?_) fun _ _ e => e.elim
  revert r; refine o3_4 fun f ρ' σ' hf j' hs' hq => ?_
  cases hf with
  | next => cases hq
  | brk => cases hq
  | cont => cases hq
  | ret hv =>
    have hq' : _ = V.bool true := hq
    subst hq'
    obtain rfl := hv.bool_inv
    revert j'; refine o2_5 fun m' cells' k1 k2 k3 S' k4 => ?_
    exact hR _ (hs.trans hs') S'.fr.keep
end

noncomputable def CI : Addr := 38
noncomputable abbrev node (t : Int) (p l r q : V) : O := .inst CI [("total", .int t), ("plist", p), ("left", l), ("right", r), ("parent", q)]
noncomputable def CT : Addr := 59
noncomputable abbrev treeO (v : V) : O := .inst CT [("root", v)]
section
variable {σ : Store} {a : Addr} {t t' : Int} {p l r q u : V} {k : Store → Prop}
theorem set_total (h : σ a = some (node t p l r q)) (hk : k (upd σ a (node t' p l r q))) : setW σ (.ref a) "total" (.int t') k := w_set h rfl rfl (Nat.le_of_ble_eq_true rfl) hk
theorem set_plist (h : σ a = some (node t p l r q)) (hk : k (upd σ a (node t u l r q))) : setW σ (.ref a) "plist" u k := w_set h rfl rfl (Nat.le_of_ble_eq_true rfl) hk
theorem set_left' (h : σ a = some (node t p l r q)) (hk : k (upd σ a (node t p u r q))) : setW σ (.ref a) "left" u k := w_set h rfl rfl (Nat.le_of_ble_eq_true rfl) hk
theorem set_right' (h : σ a = some (node t p l r q)) (hk : k (upd σ a (node t p l u q))) : setW σ (.ref a) "right" u k := w_set h rfl rfl (Nat.le_of_ble_eq_true rfl) hk
theorem set_parent (h : σ a = some (node t p l r q)) (hk : k (upd σ a (node t p l r u))) : setW σ (.ref a) "parent" u k := w_set h rfl rfl (Nat.le_of_ble_eq_true rfl) hk
theorem set_root (h : σ a = some (treeO p)) (hk : k (upd σ a (treeO u))) : setW σ (.ref a) "root" u k := w_set h rfl rfl (Nat.le_of_ble_eq_true rfl) hk
theorem inst_node (h : σ a = some (node t p l r q)) : instAt σ a := ⟨_, _, h⟩
end

local macro_rules | `(tactic| walk_at "lk") => `(tactic| first
  | with_reducible assumption
  | with_reducible exact setE_eq
  | ((with_reducible refine' setE_ne ?ne ?rest); (case ne => exact rfl); (case rest => walk_at "lk")))
local macro_rules | `(tactic| walk_at "lv") => `(tactic| first | exact rfl | walk_at "lk")
local macro_rules | `(tactic| walk_at "ne") => `(tactic| first | with_reducible assumption | with_reducible exact Ne.symm (by assumption))
local macro_rules | `(tactic| walk_at "st") => `(tactic| first
  | with_reducible assumption
  | with_reducible exact upd_self
  | (with_reducible refine' upd_at ?ne ?rest; (case ne => walk_at "ne"); (case rest => walk_at "st")))
local macro_rules | `(tactic| walk_at "is") => `(tactic| (refine' inst_node ?h; (case h => walk_at "st")))
local macro_rules | `(tactic| walk_at "ax1") => do
  let f (s : String) := ((s.splitOn " ").map fun x => Lean.mkIdent (.mkSimple x)).toArray
  let xs := f "r_Attr r_none r_int r_bool r_str r_ItemN r_ItemC r_ItemB r_ItemF r_Slice r_partN r_partS r_Bin r_Not r_Neg r_And r_Or r_bop1 r_bopA r_bopO r_Cmp r_Cmp2 r_List r_Tup r_Dict0 r_ev0 r_ev1 r_IsB r_Meth t_Not t_Cmp t_Cmp2 t_Name t_Call t_Const t_And t_Or a_nilA a_nilO a_consA a_consO w_bool w_int w_itrue w_ifalse w_iTrue w_iFalse w_ifself w_ifnself w_lt w_le w_gt w_ge w_eqi w_nei w_isNN w_isRN w_isNR w_isnNN w_isnRN w_isnNR w_addi w_subi b_nil b_Name b_Attr b_Item b_Tup b_Expr b_Ret b_Ret0 b_While th_next th_ret th_brk th_cont rt_ret rt_next r_F"
  let ys := f "r_CallF r_CallB"
  let zs := f "w_ifne w_ifnne"
  let us := f "set_total set_plist set_left' set_right' set_parent set_root"
  let vs := f "w_isRR w_isnRR"
  let ms1 := f "m_AtN m_ev1 m_evN m_CmNI m_CmNO m_CmN m_BiNI m_BiN m_ItNI m_RtN m_AsN m_PaN r_Name"
  let ms2 := f "m_ev2 m_CmNN m_BiNN m_ItNN"
  let ms0 := f "m_evI m_evL m_CmI m_CmO m_BiI m_ItI m_AsI m_AsO"
  `(tactic| first
  | ((with_reducible refine' m_AtG ?hx ?ha ?hf ?_); (case hx => walk_at "lv"); (case ha => walk_at "st"); (case hf => exact rfl))
  | ((with_reducible refine' m_ev3 ?hx ?hy ?hz ?_); (case hx => walk_at "lv"); (case hy => walk_at "lv"); (case hz => walk_at "lv"))
  | first $[| ((with_reducible refine' $ms2 ?hx ?hy ?_); (case hx => walk_at "lv"); (case hy => walk_at "lv"))]*
  | first $[| ((with_reducible refine' $ms1 ?hx ?_); (case hx => walk_at "lv"))]*
  | with_reducible first $[| refine' $ms0 ?_]*
  | with_reducible first $[| refine' $xs ?_]*
  | first $[| ((with_reducible refine $ys ?h1 ?h2 ?_); (case h1 => with_unfolding_all exact rfl); (case h2 => with_unfolding_all exact rfl))]*
  | first $[| ((with_reducible refine $zs ?ne ?_); (case ne => walk_at "ne"))]*
  | ((with_reducible refine' w_get ?h ?f ?_); (case h => walk_at "st"); (case f => exact rfl))
  | first $[| ((with_reducible refine' $us ?h ?_); (case h => walk_at "st"))]*
  | first $[| ((with_reducible refine' $vs ?h1 ?h2 ?_); (case h1 => walk_at "is"); (case h2 => walk_at "is"))]*)
local macro_rules | `(tactic| walk_at "ax") => `(tactic| repeat (walk_at "ax1"))
local macro_rules | `(tactic| walk_at "aw1") => `(tactic| first
  | walk_at "ax1"
  | with_reducible first | refine' r_IfE ?_ | refine' r_Comp ?_ | refine' b_If ?_ | refine' b_For ?_)
local macro_rules | `(tactic| walk_at "aw") => `(tactic| repeat (walk_at "aw1"))

section
variable {w : World} {C : Nat → CL} {lv : Nat} {σ : Store} {Q : PE}
theorem total_none (P : Prg w C) (h : Q (.int 0) σ) : C (lv + 1) "total_of" [.none] σ Q := by
  refine P.fn rfl rfl ?_
  walk_at "aw"
  exact h
theorem total_ref (P : Prg w C) {a : Addr} {t : Int} {p l r q : V} (ha : σ a = some (node t p l r q)) (h : Q (.int t) σ) : C (lv + 1) "total_of" [.ref a] σ Q := by
  refine P.fn rfl rfl ?_
  walk_at "aw"
  exact h

/-- a tree of nodes -/
inductive T where
  | nil
  | nd (a : Addr) (n : Int) (p : V) (l r : T)
namespace T
noncomputable def size : T → Int
  | nil => 0
  | nd _ n _ l r => n + l.size + r.size
noncomputable def root : T → V
  | nil => .none
  | nd a .. => .ref a
noncomputable def ads : T → List Addr
  | nil => []
  | nd a _ _ l r => a :: (l.ads ++ r.ads)
end T
open T
noncomputable def TR (σ : Store) (q : V) : T → Prop
  | .nil => True
  | .nd a n p l r => σ a = some (node (n + l.size + r.size) p l.root r.root q) ∧ TR σ (.ref a) l ∧ TR σ (.ref a) r

/-- total of a tree's root -/
theorem total_ok (P : Prg w C) {t : T} {q : V} (ht : TR σ q t) (h : Q (.int t.size) σ) : C (lv + 1) "total_of" [t.root] σ Q := by
  cases t with
  | nil => exact total_none P h
  | nd a n p l r => exact total_ref P ht.1 h
theorem own_ok (P : Prg w C) {a : Addr} {n : Int} {p q : V} {l r : T} (ht : TR σ q (.nd a n p l r)) (h : Q (.int n) σ) : C (lv + 2) "own_length" [.ref a] σ Q := by
  revert ht; refine o0_3 fun h1 h2 h3 => ?_
  refine P.fn rfl rfl ?_
  walk_at "aw"
  refine total_ok P h2 ?_
  walk_at "aw"
  refine total_ok P h3 ?_
  walk_at "aw"
  have e : n + l.size + r.size - l.size - r.size = n := by omega
  rw [e]; exact h
end

inductive C1 where
  | L (a : Addr) (n : Int) (p : V) (r : T)
  | R (a : Addr) (n : Int) (p : V) (l : T)
noncomputable abbrev Ctx := List C1
noncomputable def par : Ctx → V
  | [] => .none
  | .L a .. :: _ => .ref a
  | .R a .. :: _ => .ref a
theorem par_nil : par [] = .none := rfl
theorem par_L {a : Addr} {n : Int} {p : V} {r : T} {c : Ctx} : par (.L a n p r :: c) = .ref a := rfl
theorem par_R {a : Addr} {n : Int} {p : V} {r : T} {c : Ctx} : par (.R a n p r :: c) = .ref a := rfl
theorem root_nil : T.nil.root = .none := rfl
theorem root_nd {a : Addr} {n : Int} {p : V} {l r : T} : (T.nd a n p l r).root = .ref a := rfl
noncomputable def adsC : Ctx → List Addr
  | [] => []
  | .L a _ _ r :: c => a :: (r.ads ++ adsC c)
  | .R a _ _ l :: c => a :: (l.ads ++ adsC c)
noncomputable def plug : Ctx → T → T
  | [], t => t
  | .L a n p r :: c, t => plug c (.nd a n p t r)
  | .R a n p l :: c, t => plug c (.nd a n p l t)
noncomputable def CX (σ : Store) (tr : Addr) (v : V) (m : Int) : Ctx → Prop
  | [] => σ tr = some (treeO v)
  | .L a n p r :: c => σ a = some (node (n + m + r.size) p v r.root (par c)) ∧ TR σ (.ref a) r ∧ CX σ tr (.ref a) (n + m + r.size) c
  | .R a n p l :: c => σ a = some (node (n + l.size + m) p l.root v (par c)) ∧ TR σ (.ref a) l ∧ CX σ tr (.ref a) (n + l.size + m) c
noncomputable def Keep (S : List Addr) (σ σ' : Store) : Prop := ∀ x o, x ∉ S → σ x = some o → σ' x = some o
theorem Keep.refl (S : List Addr) (σ : Store) : Keep S σ σ := fun _ _ _ h => h
theorem Keep.trans {S S1 S2 : List Addr} {σ σ1 σ2 : Store} (h1 : Keep S1 σ σ1) (h2 : Keep S2 σ1 σ2) (s1 : ∀ x ∈ S1, x ∈ S) (s2 : ∀ x ∈ S2, x ∈ S) : Keep S σ σ2 :=
  fun x o hx h => h2 x o (fun q => hx (s2 x q)) (h1 x o (fun q => hx (s1 x q)) h)
theorem Keep.tr {S : List Addr} {σ σ1 σ2 : Store} (h1 : Keep S σ σ1) (h2 : Keep S σ1 σ2) : Keep S σ σ2 := h1.trans h2 (fun _ h => h) fun _ h => h
theorem Keep.mono {S S1 : List Addr} {σ σ1 : Store} (h1 : Keep S1 σ σ1) (s1 : ∀ x ∈ S1, x ∈ S) : Keep S σ σ1 := fun x o hx h => h1 x o (fun q => hx (s1 x q)) h
theorem Keep.upd {σ : Store} {a : Addr} {o : O} : Keep [a] σ (upd σ a o) := fun x o' hx h => upd_at (fun e => hx (by rw [e]; exact .head _)) h
theorem TR.keep {S : List Addr} {σ σ' : Store} (k : Keep S σ σ') : ∀ {t : T} {q : V}, TR σ q t → (∀ x ∈ t.ads, x ∉ S) → TR σ' q t
  | .nil, _, _, _ => trivial
  | .nd a n p l r, q, ⟨h1, h2, h3⟩, hd => ⟨k a _ (hd a (by simp [T.ads])) h1, TR.keep k h2 fun x hx => hd x (by simp [T.ads, hx]), TR.keep k h3 fun x hx => hd x (by simp [T.ads, hx])⟩
theorem CX.keep {S : List Addr} {σ σ' : Store} {tr : Addr} (k : Keep S σ σ') (ht : tr ∉ S) : ∀ {c : Ctx} {v : V} {m : Int}, CX σ tr v m c → (∀ x ∈ adsC c, x ∉ S) → CX σ' tr v m c
  | [], _, _, h, _ => k _ _ ht h
  | .L a n p r :: c, v, m, ⟨h1, h2, h3⟩, hd => ⟨k a _ (hd a (by simp [adsC])) h1, h2.keep k fun x hx => hd x (by simp [adsC, hx]), CX.keep k ht h3 fun x hx => hd x (by simp [adsC, hx])⟩
  | .R a n p r :: c, v, m, ⟨h1, h2, h3⟩, hd => ⟨k a _ (hd a (by simp [adsC])) h1, h2.keep k fun x hx => hd x (by simp [adsC, hx]), CX.keep k ht h3 fun x hx => hd x (by simp [adsC, hx])⟩

theorem nmc {x y : Addr} {l : List Addr} (h : x ≠ y) (k : x ∉ l) : x ∉ y :: l := fun m => (List.mem_cons.mp m).elim h k
theorem nma {x : Addr} {l m : List Addr} (h : x ∉ l) (k : x ∉ m) : x ∉ l ++ m := fun q => (List.mem_append.mp q).elim h k
noncomputable def Dj (l m : List Addr) : Prop := ∀ x ∈ l, x ∉ m
theorem Dj.symm {l m : List Addr} (h : Dj l m) : Dj m l := fun x hx hy => h x hy hx
theorem Dj.cons {y : Addr} {l m : List Addr} (h : y ∉ l) (k : Dj l m) : Dj l (y :: m) := fun x hx => nmc (fun e => h (e ▸ hx)) (k x hx)
theorem Dj.app {l m n : List Addr} (h : Dj l m) (k : Dj l n) : Dj l (m ++ n) := fun x hx => nma (h x hx) (k x hx)
theorem ndc {x : Addr} {l : List Addr} (h : x ∉ l) (k : l.Nodup) : (x :: l).Nodup := List.nodup_cons.mpr ⟨h, k⟩
theorem nda {l m : List Addr} (h : l.Nodup) (k : m.Nodup) (d : Dj l m) : (l ++ m).Nodup := List.nodup_append.mpr ⟨h, k, fun x hx y hy e => d x hx (e ▸ hy)⟩
theorem nda_inv {l m : List Addr} (h : (l ++ m).Nodup) : l.Nodup ∧ m.Nodup ∧ Dj l m := by
  refine o0_3 (fun a b c => ?_) (List.nodup_append.mp h)
  exact ⟨a, b, fun x hx hy => c x hx x hy rfl⟩
noncomputable abbrev Sb (S l : List Addr) : Prop := ∀ x ∈ l, x ∈ S
theorem Sb.c {S l : List Addr} {y : Addr} (h : y ∈ S) (k : Sb S l) : Sb S (y :: l) := fun x hx => (List.mem_cons.mp hx).elim (fun e => e ▸ h) (k x)
theorem Sb.a {S l m : List Addr} (h : Sb S l) (k : Sb S m) : Sb S (l ++ m) := fun x hx => (List.mem_append.mp hx).elim (h x) (k x)
theorem Sb.o {S : List Addr} : Sb S [] := fun _ h => nomatch h
theorem ni1 {d : Addr} {l : List Addr} (h : d ∉ l) : ∀ x ∈ l, x ∉ [d] := fun x hx hy => h (List.mem_singleton.mp hy ▸ hx)
theorem ni2 {d x : Addr} (h : x ≠ d) : x ∉ [d] := fun hy => h (List.mem_singleton.mp hy)
theorem sb1 {d : Addr} {S : List Addr} (h : d ∈ S) : ∀ x ∈ [d], x ∈ S := fun x hx => List.mem_singleton.mp hx ▸ h
theorem root_or : ∀ t : T, t = .nil ∨ ∃ a, t.root = .ref a
  | .nil => .inl rfl
  | .nd a .. => .inr ⟨a, rfl⟩
theorem root_mem : ∀ {t : T} {a : Addr}, t.root = .ref a → a ∈ t.ads
  | .nd _ .., _, e => V.ref.inj e ▸ .head _
theorem root_at {σ : Store} {q : V} : ∀ {t : T} {a : Addr}, t.root = .ref a → TR σ q t → ∃ p l r, σ a = some (node t.size p l r q)
  | .nd .., _, e, h => V.ref.inj e ▸ ⟨_, _, _, h.1⟩
theorem TR.nil' {σ : Store} {q : V} {t : T} (h : t.root = .none) : TR σ q t := by
  rcases root_or t with e | ⟨a, e⟩
  · exact e ▸ trivial
  · rw [e] at h; cases h
theorem rootV (t : T) : t.root = .none ∨ ∃ b, t.root = .ref b := (root_or t).imp (congrArg T.root) id
theorem w_isnv {σ : Store} {v : V} {k : Bool → Prop} (hv : v = .none ∨ ∃ b, v = .ref b) (hk : ∀ c, (c = true → ∃ b, v = .ref b) → (c = false → v = .none) → k c) : cmpW .IsNot v .none σ k := by
  rcases hv with rfl | ⟨b, rfl⟩
  · exact hk false (fun h => nomatch h) fun _ => rfl
  · exact hk true (fun _ => ⟨b, rfl⟩) fun h => nomatch h
theorem w_isne {σ : Store} {v : V} {a : Addr} {k : Bool → Prop} (hv : v = .none ∨ ∃ b, v = .ref b ∧ b ≠ a ∧ instAt σ b) (ha : instAt σ a) (hk : k false) : cmpW .Is v (.ref a) σ k := by
  rcases hv with rfl | ⟨b, rfl, hb, hi⟩
  · exact hk
  · exact w_isRR hi ha ((decide_eq_false hb).symm ▸ hk)
theorem join_if {rs rs' : RS} {bb oo ss : List Stmt} {ρ : AEnv} {σ : Store} {QS : PS} {c : Bool} (R : Store → Prop) (hK : ∀ σ', R σ' → blkW rs' ss ρ σ' QS) (h : ∀ K : PS, (∀ σ', R σ' → K .next ρ σ') → (c = true → blkW rs bb ρ σ K) ∧ (c = false → blkW rs oo ρ σ K)) :
    (if c = true then blkW rs bb ρ σ (thenB rs' ss QS) else blkW rs oo ρ σ (thenB rs' ss QS)) := by
  have := h (thenB rs' ss QS) hK
  cases c
  · exact this.2 rfl
  · exact this.1 rfl
theorem set_parentv {σ : Store} {k : Store → Prop} {v u : V} {b : Addr} {t : Int} {p l r q : V} (e : v = .ref b) (h : σ b = some (node t p l r q)) (hk : k (upd σ b (node t p l r u))) : setW σ v "parent" u k := e ▸ set_parent h hk
theorem w_getv {σ : Store} {u v : V} {a Cc : Addr} {fs : Fields} {x : Str} {Q : PE} (e : u = .ref a) (ha : σ a = some (.inst Cc fs)) (hf : getF x fs = some v) (h : Q v σ) : getW σ u x Q := e ▸ w_get ha hf h
theorem TR.reroot {σ : Store} {q q' : V} : ∀ {t : T} {b : Addr}, t.root = .ref b → TR σ q t → t.ads.Nodup → ∃ T p l r, σ b = some (node T p l r q) ∧ TR (upd σ b (node T p l r q')) q' t
  | .nd b n p l r, _, e, ⟨h1, h2, h3⟩, hn => by
    cases e
    obtain ⟨h4, h5⟩ := List.nodup_cons.mp hn
    exact ⟨_, _, _, _, h1, upd_self, h2.keep Keep.upd (ni1 fun q => h4 (List.mem_append_left _ q)), h3.keep Keep.upd (ni1 fun q => h4 (List.mem_append_right _ q))⟩
section
variable {w : World} {C : Nat → CL} {lv : Nat} {σ : Store} {Q : PE}

/-- the root's parent set -/
theorem setPar {a b : Addr} {t : Int} {p l r q u : V} (h : b ≠ a) (ha : σ a = some (node t p l r q)) : upd σ b (node t p l r u) a = some (node t p l r q) := upd_at (Ne.symm h) ha

theorem setL_ok (P : Prg w C) {a : Addr} {ta : Int} {pa la ra qa q : V} {t : T} (ha : σ a = some (node ta pa la ra qa)) (ht : TR σ q t) (hn : (a :: t.ads).Nodup)
    (h : ∀ σ', σ' a = some (node ta pa t.root ra qa) → TR σ' (.ref a) t → Keep (a :: t.ads) σ σ' → Q .none σ') : C (lv + 1) "set_left" [.ref a, t.root] σ Q := by
  refine P.fn rfl rfl ?_
  obtain ⟨n1, n2⟩ := List.nodup_cons.mp hn
  walk_at "aw"
  have ht1 : TR (upd σ a (node ta pa t.root ra qa)) q t := ht.keep Keep.upd (ni1 n1)
  refine w_isnv (rootV t) fun cc c1 c2 => ?_
  refine join_if (fun σ' => σ' a = some (node ta pa t.root ra qa) ∧ TR σ' (.ref a) t ∧ Keep (a :: t.ads) σ σ') (fun σ' => o0_3 fun k1 k2 k3 => h _ k1 k2 k3) fun K hK => ⟨fun e => ?_, fun e => ?_⟩
  · refine o1_1 (fun b eb => ?_) (c1 e)
    refine o4_2 (fun T p l r hb hr => ?_) (ht1.reroot (q' := .ref a) eb n2)
    walk_at "aw"
    exact set_parentv eb hb (hK _ ⟨upd_at (fun e : a = b => n1 (e ▸ root_mem eb)) upd_self, hr, (Keep.upd.mono (sb1 (.head _))).tr (Keep.upd.mono (sb1 (.tail _ (root_mem eb))))⟩)
  · exact hK _ ⟨upd_self, TR.nil' (c2 e), Keep.upd.mono (sb1 (.head _))⟩
theorem setR_ok (P : Prg w C) {a : Addr} {ta : Int} {pa la ra qa q : V} {t : T} (ha : σ a = some (node ta pa la ra qa)) (ht : TR σ q t) (hn : (a :: t.ads).Nodup)
    (h : ∀ σ', σ' a = some (node ta pa la t.root qa) → TR σ' (.ref a) t → Keep (a :: t.ads) σ σ' → Q .none σ') : C (lv + 1) "set_right" [.ref a, t.root] σ Q := by
  refine P.fn rfl rfl ?_
  obtain ⟨n1, n2⟩ := List.nodup_cons.mp hn
  walk_at "aw"
  have ht1 : TR (upd σ a (node ta pa la t.root qa)) q t := ht.keep Keep.upd (ni1 n1)
  refine w_isnv (rootV t) fun cc c1 c2 => ?_
  refine join_if (fun σ' => σ' a = some (node ta pa la t.root qa) ∧ TR σ' (.ref a) t ∧ Keep (a :: t.ads) σ σ') (fun σ' => o0_3 fun k1 k2 k3 => h _ k1 k2 k3) fun K hK => ⟨fun e => ?_, fun e => ?_⟩
  · refine o1_1 (fun b eb => ?_) (c1 e)
    refine o4_2 (fun T p l r hb hr => ?_) (ht1.reroot (q' := .ref a) eb n2)
    walk_at "aw"
    exact set_parentv eb hb (hK _ ⟨upd_at (fun e : a = b => n1 (e ▸ root_mem eb)) upd_self, hr, (Keep.upd.mono (sb1 (.head _))).tr (Keep.upd.mono (sb1 (.tail _ (root_mem eb))))⟩)
  · exact hK _ ⟨upd_self, TR.nil' (c2 e), Keep.upd.mono (sb1 (.head _))⟩
/-- the hole of c gets v' -/
theorem stead_ok (P : Prg w C) {tr a : Addr} {c : Ctx} {m : Int} {ta : Int} {pa la ra q : V} {t : T} (hc : CX σ tr (.ref a) m c) (ha : σ a = some (node ta pa la ra (par c))) (ht : TR σ q t)
    (hn : (tr :: (t.ads ++ adsC c)).Nodup) (hac : a ∉ adsC c) (hat : a ∉ t.ads)
    (h : ∀ σ', CX σ' tr t.root m c → TR σ' (par c) t → Keep (tr :: (t.ads ++ adsC c)) σ σ' → Q .none σ') : C (lv + 1) "put_in_stead" [.ref tr, .ref a, t.root] σ Q := by
  refine P.fn rfl rfl ?_
  obtain ⟨h1, h2⟩ := List.nodup_cons.mp hn
  refine o0_3 (fun htn hcc hd => ?_) (nda_inv h2)
  have htt : tr ∉ t.ads := fun q => h1 (List.mem_append_left _ q)
  have htr : tr ∉ adsC c := fun q => h1 (List.mem_append_right _ q)
  walk_at "aw"
  refine w_isnv (rootV t) fun cc c1 c2 => ?_
  refine join_if (fun σ1 => CX σ1 tr (.ref a) m c ∧ TR σ1 (par c) t ∧ Keep t.ads σ σ1) (fun σ1 => o0_3 fun k1 k2 k3 => ?_) fun K hK => ⟨fun e => ?_, fun e => ?_⟩
  rotate_left
  · refine o1_1 (fun b eb => ?_) (c1 e)
    refine o4_2 (fun T p l r hb hr => ?_) (ht.reroot (q' := par c) eb htn)
    walk_at "aw"
    refine set_parentv eb hb ?_
    have hbt := root_mem eb
    exact hK _ ⟨hc.keep Keep.upd (ni2 fun e : tr = b => htt (e ▸ hbt)) (ni1 (hd _ hbt)), hr, Keep.upd.mono (sb1 hbt)⟩
  · exact hK _ ⟨hc, TR.nil' (c2 e), Keep.refl _ _⟩
  have ka := inst_node (k3 _ _ hat ha)
  have fin : ∀ σ', CX σ' tr t.root m c → TR σ' (par c) t → Keep (tr :: adsC c) σ1 σ' → Q .none σ' := fun σ' z1 z2 z3 => h σ' z1 z2 ((k3.mono fun x hx => .tail _ (List.mem_append_left _ hx)).tr (z3.mono (Sb.c (.head _) fun x hx => .tail _ (List.mem_append_right _ hx))))
  clear h hc ha ht hn h1 h2 c1 c2 k3 hat htn
  cases c with
  | nil =>
    dsimp only [par]
    have k1 : σ1 tr = some (treeO (.ref a)) := k1
    walk_at "aw"
    exact fin _ upd_self (k2.keep Keep.upd (ni1 htt)) (Keep.upd.mono (sb1 (.head _)))
  | cons d c =>
    cases d with
    | L d n pd rd =>
      dsimp only [par]
      revert k1; refine o0_3 fun k1 c2 c3 => ?_
      obtain ⟨n1, n2⟩ := List.nodup_cons.mp hcc
      walk_at "aw"
      refine w_isRR ka ka ?_
      walk_at "aw"
      exact fin _ ⟨upd_self, c2.keep Keep.upd (ni1 fun q => n1 (List.mem_append_left _ q)), c3.keep Keep.upd (ni2 fun e : tr = d => htr (e ▸ .head _)) (ni1 fun q => n1 (List.mem_append_right _ q))⟩ (k2.keep Keep.upd (ni1 fun q => hd _ q (.head _))) (Keep.upd.mono (sb1 (.tail _ (.head _))))
    | R d n pd ld =>
      dsimp only [par]
      revert k1; refine o0_3 fun k1 c2 c3 => ?_
      obtain ⟨n1, n2⟩ := List.nodup_cons.mp hcc
      walk_at "aw"
      refine w_isne ((root_or ld).imp (congrArg T.root) (o1_1 fun b eb => ⟨b, eb, fun e => hac (e ▸ .tail _ (List.mem_append_left _ (root_mem eb))), (root_at eb c2).elim fun _ => (·.elim fun _ => (·.elim fun _ => inst_node))⟩)) ka ?_
      walk_at "aw"
      exact fin _ ⟨upd_self, c2.keep Keep.upd (ni1 fun q => n1 (List.mem_append_left _ q)), c3.keep Keep.upd (ni2 fun e : tr = d => htr (e ▸ .head _)) (ni1 fun q => n1 (List.mem_append_right _ q))⟩ (k2.keep Keep.upd (ni1 fun q => hd _ q (.head _))) (Keep.upd.mono (sb1 (.tail _ (.head _))))
end

noncomputable def ownS (tr : Addr) (c : Ctx) (t : T) : List Addr := tr :: (t.ads ++ adsC c)
/-- the tree tr: the subtree t at the hole c -/
structure WT (σ : Store) (tr : Addr) (c : Ctx) (t : T) : Prop where
  tt : TR σ (par c) t
  cc : CX σ tr t.root t.size c
  nn : (ownS tr c t).Nodup

section
variable {w : World} {C : Nat → CL} {lv : Nat} {σ : Store} {Q : PE}
/-- two nodes, three subtrees and what is above -/
structure Nd5 (tr a b : Addr) (ts tm to cs : List Addr) : Prop where
  ta : tr ≠ a
  tb : tr ≠ b
  t1 : tr ∉ ts
  t2 : tr ∉ tm
  t3 : tr ∉ to
  t4 : tr ∉ cs
  ba : b ≠ a
  a1 : a ∉ ts
  a2 : a ∉ tm
  a3 : a ∉ to
  a4 : a ∉ cs
  b1 : b ∉ ts
  b2 : b ∉ tm
  b3 : b ∉ to
  b4 : b ∉ cs
  n1 : ts.Nodup
  n2 : tm.Nodup
  n3 : to.Nodup
  n4 : cs.Nodup
  d12 : Dj ts tm
  d13 : Dj ts to
  d14 : Dj ts cs
  d23 : Dj tm to
  d24 : Dj tm cs
  d34 : Dj to cs
theorem nd5R {tr a b : Addr} {ts tm to cs : List Addr} (h : (tr :: ((a :: ((b :: (ts ++ tm)) ++ to)) ++ cs)).Nodup) : Nd5 tr a b ts tm to cs := by
  obtain ⟨u1, h1⟩ := List.nodup_cons.mp h
  refine o0_3 (fun nA n4 dA => ?_) (nda_inv h1)
  obtain ⟨u2, nB⟩ := List.nodup_cons.mp nA
  refine o0_3 (fun nC n3 dB => ?_) (nda_inv nB)
  obtain ⟨u3, nT⟩ := List.nodup_cons.mp nC
  refine o0_3 (fun n1 n2 d => ?_) (nda_inv nT)
  have m1 : ∀ {x}, x ∈ ts → x ∈ b :: (ts ++ tm) := fun q => .tail _ (List.mem_append_left _ q)
  have m2 : ∀ {x}, x ∈ tm → x ∈ b :: (ts ++ tm) := fun q => .tail _ (List.mem_append_right _ q)
  have k0 : ∀ {x}, x ∈ b :: (ts ++ tm) → x ∈ a :: ((b :: (ts ++ tm)) ++ to) := fun q => .tail _ (List.mem_append_left _ q)
  have k3 : ∀ {x}, x ∈ to → x ∈ a :: ((b :: (ts ++ tm)) ++ to) := fun q => .tail _ (List.mem_append_right _ q)
  have v1 : ∀ {x}, x ∈ a :: ((b :: (ts ++ tm)) ++ to) → tr ≠ x := fun q e => u1 (List.mem_append_left _ (e ▸ q))
  exact ⟨v1 (.head _), v1 (k0 (.head _)), fun q => v1 (k0 (m1 q)) rfl, fun q => v1 (k0 (m2 q)) rfl, fun q => v1 (k3 q) rfl, fun q => u1 (List.mem_append_right _ q),
    fun e => u2 (List.mem_append_left _ (e ▸ .head _)), fun q => u2 (List.mem_append_left _ (m1 q)), fun q => u2 (List.mem_append_left _ (m2 q)), fun q => u2 (List.mem_append_right _ q), dA a (.head _),
    fun q => u3 (List.mem_append_left _ q), fun q => u3 (List.mem_append_right _ q), dB b (.head _), dA b (k0 (.head _)), n1, n2, n3, n4, d, fun x q => dB x (m1 q), fun x q => dA x (k0 (m1 q)), fun x q => dB x (m2 q), fun x q => dA x (k0 (m2 q)), fun x q => dA x (k3 q)⟩
theorem nd5L {tr a b : Addr} {ts tm to cs : List Addr} (h : (tr :: ((a :: (to ++ (b :: (tm ++ ts)))) ++ cs)).Nodup) : Nd5 tr a b ts tm to cs := by
  obtain ⟨u1, h1⟩ := List.nodup_cons.mp h
  refine o0_3 (fun nA n4 dA => ?_) (nda_inv h1)
  obtain ⟨u2, nB⟩ := List.nodup_cons.mp nA
  refine o0_3 (fun n3 nC dB => ?_) (nda_inv nB)
  obtain ⟨u3, nT⟩ := List.nodup_cons.mp nC
  refine o0_3 (fun n2 n1 d => ?_) (nda_inv nT)
  have m1 : ∀ {x}, x ∈ ts → x ∈ b :: (tm ++ ts) := fun q => .tail _ (List.mem_append_right _ q)
  have m2 : ∀ {x}, x ∈ tm → x ∈ b :: (tm ++ ts) := fun q => .tail _ (List.mem_append_left _ q)
  have k0 : ∀ {x}, x ∈ b :: (tm ++ ts) → x ∈ a :: (to ++ (b :: (tm ++ ts))) := fun q => .tail _ (List.mem_append_right _ q)
  have k3 : ∀ {x}, x ∈ to → x ∈ a :: (to ++ (b :: (tm ++ ts))) := fun q => .tail _ (List.mem_append_left _ q)
  have v1 : ∀ {x}, x ∈ a :: (to ++ (b :: (tm ++ ts))) → tr ≠ x := fun q e => u1 (List.mem_append_left _ (e ▸ q))
  exact ⟨v1 (.head _), v1 (k0 (.head _)), fun q => v1 (k0 (m1 q)) rfl, fun q => v1 (k0 (m2 q)) rfl, fun q => v1 (k3 q) rfl, fun q => u1 (List.mem_append_right _ q),
    fun e => u2 (List.mem_append_right _ (e ▸ .head _)), fun q => u2 (List.mem_append_right _ (m1 q)), fun q => u2 (List.mem_append_right _ (m2 q)), fun q => u2 (List.mem_append_left _ q), dA a (.head _),
    fun q => u3 (List.mem_append_right _ q), fun q => u3 (List.mem_append_left _ q), fun q => dB b q (.head _), dA b (k0 (.head _)), n1, n2, n3, n4, d.symm, fun x q r => dB x r (m1 q), fun x q => dA x (k0 (m1 q)), fun x q r => dB x r (m2 q), fun x q => dA x (k0 (m2 q)), fun x q => dA x (k3 q)⟩
theorem gA {σ σ2 : Store} {a : Addr} {o : O} (h : upd σ a o = σ2) : σ2 a = some o := h ▸ upd_self
theorem gK {σ σ2 : Store} {a : Addr} {o : O} (h : upd σ a o = σ2) : Keep [a] σ σ2 := h ▸ Keep.upd
theorem rotR_nd {tr a b : Addr} {n m : Int} {p q : V} {ts tm to : T} {cs : List Addr} {G : Prop} (h : (tr :: ((T.nd a n p (.nd b m q ts tm) to).ads ++ cs)).Nodup)
    (k : (tr :: ((T.nd b m q ts tm).ads ++ cs)).Nodup → a ∉ cs → a ∉ (T.nd b m q ts tm).ads → a ∉ tr :: ((T.nd b m q ts tm).ads ++ cs) → (∀ x ∈ to.ads, x ∉ tr :: ((T.nd b m q ts tm).ads ++ cs)) → b ≠ a → a ∉ tm.ads → (a :: tm.ads).Nodup → b ∉ a :: tm.ads → (∀ x ∈ ts.ads, x ∉ a :: tm.ads) → (∀ x ∈ to.ads, x ∉ a :: tm.ads) → (b :: (T.nd a n p tm to).ads).Nodup → (∀ x ∈ ts.ads, x ∉ b :: (T.nd a n p tm to).ads) → (∀ x ∈ cs, x ∉ b :: (T.nd a n p tm to).ads) → tr ∉ b :: (T.nd a n p tm to).ads → (tr :: ((T.nd b m q ts (.nd a n p tm to)).ads ++ cs)).Nodup → a ∉ to.ads → a ∉ ts.ads → b ∉ ts.ads → b ∉ (T.nd a n p tm to).ads → tr ≠ b → tr ≠ a → b ∉ cs → G) : G := by
  obtain ⟨ta, tb, t1, t2, t3, t4, ba, a1, a2, a3, a4, b1, b2, b3, b4, n1, n2, n3, n4, d12, d13, d14, d23, d24, d34⟩ := nd5R h
  exact k (ndc (nma (nmc tb (nma t1 t2)) t4) (nda (ndc (nma b1 b2) (nda n1 n2 d12)) n4 (Dj.symm (.cons b4 (d14.symm.app d24.symm))))) a4 (nmc ba.symm (nma a1 a2)) (nmc ta.symm (nma (nmc ba.symm (nma a1 a2)) a4)) (Dj.cons t3 (.app (.cons b3 (d13.symm.app d23.symm)) d34)) ba a2 (ndc a2 n2) (nmc ba b2) (Dj.cons a1 d12) (Dj.cons a3 d23.symm) (ndc (nmc ba (nma b2 b3)) (ndc (nma a2 a3) (nda n2 n3 d23))) (Dj.cons b1 (.cons a1 (d12.app d13))) (Dj.cons b4 (.cons a4 (d24.symm.app d34.symm))) (nmc tb (nmc ta (nma t2 t3))) (ndc (nma (nmc tb (nma t1 (nmc ta (nma t2 t3)))) t4) (nda (ndc (nma b1 (nmc ba (nma b2 b3))) (nda n1 (ndc (nma a2 a3) (nda n2 n3 d23)) (.cons a1 (d12.app d13)))) n4 (Dj.symm (.cons b4 (d14.symm.app (.cons a4 (d24.symm.app d34.symm))))))) a3 a1 b1 (nmc ba (nma b2 b3)) tb ta b4
theorem rotR_ok (P : Prg w C) {tr a b : Addr} {c : Ctx} {n m : Int} {p q : V} {ts tm to : T} (W : WT σ tr c (.nd a n p (.nd b m q ts tm) to))
    (h : ∀ σ', WT σ' tr c (.nd b m q ts (.nd a n p tm to)) → Keep (ownS tr c (.nd a n p (.nd b m q ts tm) to)) σ σ' → Q (.ref b) σ') : C (lv + 2) "rotate_right" [.ref tr, .ref a] σ Q := by
  refine P.fn rfl rfl ?_
  refine o0_3 (fun t1 t2 t3 => ?_) W.tt
  have hc : CX σ tr (.ref a) _ c := W.cc
  have t1 : σ a = some (node (n + (T.nd b m q ts tm).size + to.size) p (.ref b) to.root (par c)) := t1
  refine rotR_nd W.nn fun f1 f2 f3 f4 f5 f6 f7 f8 f9 f10 f11 f12 f13 f14 f15 f16 g1 g2 g3 g4 g5 g6 g7 => ?_
  walk_at "aw"
  refine stead_ok P (t := .nd b m q ts tm) hc t1 t2 f1 f2 f3 fun σ1 c1 u1 k1 => ?_
  have a1 : σ1 a = some (node (n + (T.nd b m q ts tm).size + to.size) p (.ref b) to.root (par c)) := k1 _ _ f4 t1
  have x1 : TR σ1 (.ref a) to := t3.keep k1 f5
  revert u1; refine o0_3 fun b1 b2 b3 => ?_
  refine ⟨trivial, ?_⟩
  walk_at "aw"
  refine total_ok P b3 ?_
  walk_at "aw"
  have e1 : n + (T.nd b m q ts tm).size + to.size - (m + ts.size + tm.size) + tm.size = n + tm.size + to.size := by simp only [T.size]; omega
  rw [e1]
  generalize hu : upd σ1 a (node (n + tm.size + to.size) p (.ref b) to.root (par c)) = σ2
  have K2 := gK hu
  have A2 := gA hu
  clear hu
  have B2 := K2 b _ (ni2 f6) b1
  have L2 : TR _ (.ref b) ts := b2.keep K2 (ni1 g2)
  have R2 : TR _ (.ref b) tm := b3.keep K2 (ni1 f7)
  have C2 : CX _ tr (.ref b) _ c := c1.keep K2 (ni2 g6) (ni1 f2)
  have X2 : TR _ (.ref a) to := x1.keep K2 (ni1 g1)
  walk_at "aw"
  refine setL_ok P A2 R2 f8 fun σ3 a3 y3 k3 => ?_
  have B3 := k3 _ _ f9 B2
  have L3 := L2.keep k3 f10
  have X3 := X2.keep k3 f11
  have C3 := C2.keep k3 (fun h => f15 (.tail _ (Sb.c (.head _) (fun x q => .tail _ (List.mem_append_left _ q)) _ h))) (fun x hx h => f14 x hx (.tail _ (Sb.c (.head _) (fun x q => .tail _ (List.mem_append_left _ q)) _ h)))
  refine ⟨trivial, ?_⟩
  walk_at "aw"
  refine setR_ok P (t := .nd a n p tm to) B3 ⟨a3, y3, X3⟩ f12 fun σ4 b4 y4 k4 => ?_
  have L4 := L3.keep k4 f13
  have C4 := C3.keep k4 f15 f14
  refine ⟨trivial, ?_⟩
  walk_at "aw"
  have e2 : n + (T.nd b m q ts tm).size + to.size = m + ts.size + (T.nd a n p tm to).size := by simp only [T.size]; omega
  have K5 := Keep.upd (σ := σ4) (a := b) (o := node (n + (T.nd b m q ts tm).size + to.size) q ts.root (.ref a) (par c))
  have L5 := L4.keep K5 (ni1 g3)
  have y5 := y4.keep K5 (ni1 g4)
  refine h _ ⟨⟨?_, L5, y5⟩, ?_, f16⟩ ?_
  · rw [e2]; exact upd_self
  · have e3 : (T.nd b m q ts (.nd a n p tm to)).size = (T.nd a n p (.nd b m q ts tm) to).size := by simp only [T.size]; omega
    rw [e3]
    exact C4.keep K5 (ni2 g5) (ni1 g7)
  · have m3 : Sb (ownS tr c (.nd a n p (.nd b m q ts tm) to)) to.ads := fun x hx => .tail _ (List.mem_append_left _ (.tail _ (List.mem_append_right _ hx)))
    have m4 : Sb (ownS tr c (.nd a n p (.nd b m q ts tm) to)) (adsC c) := fun x hx => .tail _ (List.mem_append_right _ hx)
    have mB : Sb (ownS tr c (.nd a n p (.nd b m q ts tm) to)) (b :: (ts.ads ++ tm.ads)) := fun x hx => .tail _ (List.mem_append_left _ (.tail _ (List.mem_append_left _ hx)))
    have mb := mB b (.head _)
    have m2 : Sb (ownS tr c (.nd a n p (.nd b m q ts tm) to)) tm.ads := fun x hx => mB x (.tail _ (List.mem_append_right _ hx))
    have ma : a ∈ ownS tr c (.nd a n p (.nd b m q ts tm) to) := .tail _ (List.mem_append_left _ (.head _))
    exact (k1.mono (Sb.c (.head _) (.a mB m4))).tr ((K2.mono (Sb.c ma Sb.o)).tr ((k3.mono (Sb.c ma m2)).tr ((k4.mono (Sb.c mb (.c ma (.a m2 m3)))).tr (K5.mono (Sb.c mb Sb.o)))))
theorem rotL_nd {tr a b : Addr} {n m : Int} {p q : V} {ts tm to : T} {cs : List Addr} {G : Prop} (h : (tr :: ((T.nd a n p to (.nd b m q tm ts)).ads ++ cs)).Nodup)
    (k : (tr :: ((T.nd b m q tm ts).ads ++ cs)).Nodup → a ∉ cs → a ∉ (T.nd b m q tm ts).ads → a ∉ tr :: ((T.nd b m q tm ts).ads ++ cs) → (∀ x ∈ to.ads, x ∉ tr :: ((T.nd b m q tm ts).ads ++ cs)) → b ≠ a → a ∉ tm.ads → (a :: tm.ads).Nodup → b ∉ a :: tm.ads → (∀ x ∈ ts.ads, x ∉ a :: tm.ads) → (∀ x ∈ to.ads, x ∉ a :: tm.ads) → (b :: (T.nd a n p to tm).ads).Nodup → (∀ x ∈ ts.ads, x ∉ b :: (T.nd a n p to tm).ads) → (∀ x ∈ cs, x ∉ b :: (T.nd a n p to tm).ads) → tr ∉ b :: (T.nd a n p to tm).ads → (tr :: ((T.nd b m q (.nd a n p to tm) ts).ads ++ cs)).Nodup → a ∉ to.ads → a ∉ ts.ads → b ∉ ts.ads → b ∉ (T.nd a n p to tm).ads → tr ≠ b → tr ≠ a → b ∉ cs → G) : G := by
  obtain ⟨ta, tb, t1, t2, t3, t4, ba, a1, a2, a3, a4, b1, b2, b3, b4, n1, n2, n3, n4, d12, d13, d14, d23, d24, d34⟩ := nd5L h
  exact k (ndc (nma (nmc tb (nma t2 t1)) t4) (nda (ndc (nma b2 b1) (nda n2 n1 d12.symm)) n4 (Dj.symm (.cons b4 (d24.symm.app d14.symm))))) a4 (nmc ba.symm (nma a2 a1)) (nmc ta.symm (nma (nmc ba.symm (nma a2 a1)) a4)) (Dj.cons t3 (.app (.cons b3 (d23.symm.app d13.symm)) d34)) ba a2 (ndc a2 n2) (nmc ba b2) (Dj.cons a1 d12) (Dj.cons a3 d23.symm) (ndc (nmc ba (nma b3 b2)) (ndc (nma a3 a2) (nda n3 n2 d23.symm))) (Dj.cons b1 (.cons a1 (d13.app d12))) (Dj.cons b4 (.cons a4 (d34.symm.app d24.symm))) (nmc tb (nmc ta (nma t3 t2))) (ndc (nma (nmc tb (nma (nmc ta (nma t3 t2)) t1)) t4) (nda (ndc (nma (nmc ba (nma b3 b2)) b1) (nda (ndc (nma a3 a2) (nda n3 n2 d23.symm)) n1 (Dj.symm (.cons a1 (d13.app d12))))) n4 (Dj.symm (.cons b4 (Dj.app (.cons a4 (d34.symm.app d24.symm)) d14.symm))))) a3 a1 b1 (nmc ba (nma b3 b2)) tb ta b4
theorem rotL_ok (P : Prg w C) {tr a b : Addr} {c : Ctx} {n m : Int} {p q : V} {ts tm to : T} (W : WT σ tr c (.nd a n p to (.nd b m q tm ts)))
    (h : ∀ σ', WT σ' tr c (.nd b m q (.nd a n p to tm) ts) → Keep (ownS tr c (.nd a n p to (.nd b m q tm ts))) σ σ' → Q (.ref b) σ') : C (lv + 2) "rotate_left" [.ref tr, .ref a] σ Q := by
  refine P.fn rfl rfl ?_
  refine o0_3 (fun t1 t3 t2 => ?_) W.tt
  have hc : CX σ tr (.ref a) _ c := W.cc
  have t1 : σ a = some (node (n + to.size + (T.nd b m q tm ts).size) p to.root (.ref b) (par c)) := t1
  refine rotL_nd W.nn fun f1 f2 f3 f4 f5 f6 f7 f8 f9 f10 f11 f12 f13 f14 f15 f16 g1 g2 g3 g4 g5 g6 g7 => ?_
  walk_at "aw"
  refine stead_ok P (t := .nd b m q tm ts) hc t1 t2 f1 f2 f3 fun σ1 c1 u1 k1 => ?_
  have a1 : σ1 a = some (node (n + to.size + (T.nd b m q tm ts).size) p to.root (.ref b) (par c)) := k1 _ _ f4 t1
  have x1 : TR σ1 (.ref a) to := t3.keep k1 f5
  revert u1; refine o0_3 fun b1 b3 b2 => ?_
  refine ⟨trivial, ?_⟩
  walk_at "aw"
  refine total_ok P b3 ?_
  walk_at "aw"
  have e1 : n + to.size + (T.nd b m q tm ts).size - (m + tm.size + ts.size) + tm.size = n + to.size + tm.size := by simp only [T.size]; omega
  rw [e1]
  generalize hu : upd σ1 a (node (n + to.size + tm.size) p to.root (.ref b) (par c)) = σ2
  have K2 := gK hu
  have A2 := gA hu
  clear hu
  have B2 := K2 b _ (ni2 f6) b1
  have L2 : TR _ (.ref b) ts := b2.keep K2 (ni1 g2)
  have R2 : TR _ (.ref b) tm := b3.keep K2 (ni1 f7)
  have C2 : CX _ tr (.ref b) _ c := c1.keep K2 (ni2 g6) (ni1 f2)
  have X2 : TR _ (.ref a) to := x1.keep K2 (ni1 g1)
  walk_at "aw"
  refine setR_ok P A2 R2 f8 fun σ3 a3 y3 k3 => ?_
  have B3 := k3 _ _ f9 B2
  have L3 := L2.keep k3 f10
  have X3 := X2.keep k3 f11
  have C3 := C2.keep k3 (fun h => f15 (.tail _ (Sb.c (.head _) (fun x q => .tail _ (List.mem_append_right _ q)) _ h))) (fun x hx h => f14 x hx (.tail _ (Sb.c (.head _) (fun x q => .tail _ (List.mem_append_right _ q)) _ h)))
  refine ⟨trivial, ?_⟩
  walk_at "aw"
  refine setL_ok P (t := .nd a n p to tm) B3 ⟨a3, X3, y3⟩ f12 fun σ4 b4 y4 k4 => ?_
  have L4 := L3.keep k4 f13
  have C4 := C3.keep k4 f15 f14
  refine ⟨trivial, ?_⟩
  walk_at "aw"
  have e2 : n + to.size + (T.nd b m q tm ts).size = m + (T.nd a n p to tm).size + ts.size := by simp only [T.size]; omega
  have K5 := Keep.upd (σ := σ4) (a := b) (o := node (n + to.size + (T.nd b m q tm ts).size) q (.ref a) ts.root (par c))
  have L5 := L4.keep K5 (ni1 g3)
  have y5 := y4.keep K5 (ni1 g4)
  refine h _ ⟨⟨?_, y5, L5⟩, ?_, f16⟩ ?_
  · rw [e2]; exact upd_self
  · have e3 : (T.nd b m q (.nd a n p to tm) ts).size = (T.nd a n p to (.nd b m q tm ts)).size := by simp only [T.size]; omega
    rw [e3]
    exact C4.keep K5 (ni2 g5) (ni1 g7)
  · have m3 : Sb (ownS tr c (.nd a n p to (.nd b m q tm ts))) to.ads := fun x hx => .tail _ (List.mem_append_left _ (.tail _ (List.mem_append_left _ hx)))
    have m4 : Sb (ownS tr c (.nd a n p to (.nd b m q tm ts))) (adsC c) := fun x hx => .tail _ (List.mem_append_right _ hx)
    have mB : Sb (ownS tr c (.nd a n p to (.nd b m q tm ts))) (b :: (tm.ads ++ ts.ads)) := fun x hx => .tail _ (List.mem_append_left _ (.tail _ (List.mem_append_right _ hx)))
    have mb := mB b (.head _)
    have m2 : Sb (ownS tr c (.nd a n p to (.nd b m q tm ts))) tm.ads := fun x hx => mB x (.tail _ (List.mem_append_left _ hx))
    have ma : a ∈ ownS tr c (.nd a n p to (.nd b m q tm ts)) := .tail _ (List.mem_append_left _ (.head _))
    exact (k1.mono (Sb.c (.head _) (.a mB m4))).tr ((K2.mono (Sb.c ma Sb.o)).tr ((k3.mono (Sb.c ma m2)).tr ((k4.mono (Sb.c mb (.c ma (.a m3 m2)))).tr (K5.mono (Sb.c mb Sb.o)))))
end

noncomputable abbrev Run := Addr × Int × V
namespace T
noncomputable def io : T → List Run
  | nil => []
  | nd a n p l r => l.io ++ (a, n, p) :: r.io
noncomputable def cnt : T → Nat
  | nil => 0
  | nd _ _ _ l r => 1 + l.cnt + r.cnt
noncomputable def pos : T → Prop
  | nil => True
  | nd _ n _ l r => 0 < n ∧ l.pos ∧ r.pos
noncomputable def phi (W : Nat) : T → Nat
  | nil => 0
  | t@(nd _ _ _ l r) => (l.size - r.size).natAbs * (2 * W + 1) ^ t.cnt + l.phi W + r.phi W
end T
noncomputable def lenR (l : List Run) : Int := (l.map (·.2.1)).sum
theorem lenR_append (l m : List Run) : lenR (l ++ m) = lenR l + lenR m := by unfold lenR; rw [List.map_append, List.sum_append]
theorem lenR_cons (x : Run) (l : List Run) : lenR (x :: l) = x.2.1 + lenR l := by unfold lenR; rw [List.map_cons, List.sum_cons]
theorem size_io : ∀ t : T, t.size = lenR t.io
  | .nil => rfl
  | .nd a n p l r => by simp only [T.size, T.io, lenR_append, lenR_cons, size_io l, size_io r]; omega
theorem ads_io : ∀ t : T, ∀ x, x ∈ t.ads ↔ x ∈ t.io.map (·.1)
  | .nil, x => by simp [T.ads, T.io]
  | .nd a n p l r, x => by
    simp only [T.ads, T.io, List.mem_cons, List.mem_append, List.map_append, List.map_cons, ads_io l, ads_io r]
    grind
theorem nodup_io : ∀ t : T, t.ads.Nodup ↔ (t.io.map (·.1)).Nodup
  | .nil => by simp [T.ads, T.io]
  | .nd a n p l r => by
    simp only [T.ads, T.io, List.map_append, List.map_cons, List.nodup_cons, List.nodup_append, List.mem_append, List.mem_cons, nodup_io l, nodup_io r, ads_io l, ads_io r]
    grind
theorem pos_io : ∀ t : T, t.pos ↔ ∀ x ∈ t.io, 0 < x.2.1
  | .nil => by simp [T.pos, T.io]
  | .nd a n p l r => by
    simp only [T.pos, T.io, List.mem_append, List.mem_cons, pos_io l, pos_io r]
    constructor
    · rintro ⟨h1, h2, h3⟩ x (h | rfl | h)
      · exact h2 x h
      · exact h1
      · exact h3 x h
    · intro h
      exact ⟨h (a, n, p) (.inr (.inl rfl)), fun x hx => h x (.inl hx), fun x hx => h x (.inr (.inr hx))⟩
theorem size_nonneg : ∀ {t : T}, t.pos → 0 ≤ t.size
  | .nil, _ => Int.le_refl _
  | .nd a n p l r, ⟨h1, h2, h3⟩ => by have := size_nonneg h2; have := size_nonneg h3; simp only [T.size]; omega

theorem phi_bound (W : Nat) : ∀ {t : T}, t.pos → t.size < W → t.phi W ≤ W * (2 * W + 1) ^ t.cnt
  | .nil, _, _ => Nat.zero_le _
  | .nd a n p l r, ⟨h1, h2, h3⟩, hs => by
    have s2 := size_nonneg h2
    have s3 := size_nonneg h3
    simp only [T.size] at hs
    have b2 := phi_bound W h2 (by omega)
    have b3 := phi_bound W h3 (by omega)
    have e : (2 * W + 1) ^ (1 + l.cnt + r.cnt) = (2 * W + 1) * (2 * W + 1) ^ (l.cnt + r.cnt) := by rw [show 1 + l.cnt + r.cnt = (l.cnt + r.cnt) + 1 by omega, Nat.pow_succ, Nat.mul_comm]
    have pl : (2 * W + 1) ^ l.cnt ≤ (2 * W + 1) ^ (l.cnt + r.cnt) := Nat.pow_le_pow_right (by omega) (by omega)
    have pr : (2 * W + 1) ^ r.cnt ≤ (2 * W + 1) ^ (l.cnt + r.cnt) := Nat.pow_le_pow_right (by omega) (by omega)
    have b2' : l.phi W ≤ W * (2 * W + 1) ^ (l.cnt + r.cnt) := Nat.le_trans b2 (Nat.mul_le_mul_left _ pl)
    have b3' : r.phi W ≤ W * (2 * W + 1) ^ (l.cnt + r.cnt) := Nat.le_trans b3 (Nat.mul_le_mul_left _ pr)
    simp only [T.phi, T.cnt]
    rw [e]
    generalize (2 * W + 1) ^ (l.cnt + r.cnt) = Y at *
    have hi : (l.size - r.size).natAbs + 1 ≤ W := by omega
    have h4 : (l.size - r.size).natAbs * ((2 * W + 1) * Y) + (2 * W + 1) * Y ≤ W * ((2 * W + 1) * Y) := by
      calc (l.size - r.size).natAbs * ((2 * W + 1) * Y) + (2 * W + 1) * Y = ((l.size - r.size).natAbs + 1) * ((2 * W + 1) * Y) := (Nat.succ_mul _ _).symm
        _ ≤ _ := Nat.mul_le_mul_right _ hi
    have h5 : (2 * W + 1) * Y = W * Y + W * Y + Y := by rw [Nat.succ_mul, Nat.mul_assoc, Nat.two_mul]
    omega

/-- a node's turned subtree weighs less -/
theorem phi_lt {W : Nat} {a a' : Addr} {n n' : Int} {p p' : V} {l r l' r' : T} (hp : (T.nd a' n' p' l' r').pos) (hs : (T.nd a' n' p' l' r').size < W) (hc : (T.nd a' n' p' l' r').cnt = (T.nd a n p l r).cnt)
    (hi : (l'.size - r'.size).natAbs < (l.size - r.size).natAbs) : (T.nd a' n' p' l' r').phi W < (T.nd a n p l r).phi W := by
  revert hp; refine o0_3 fun h1 h2 h3 => ?_
  have s2 := size_nonneg h2
  have s3 := size_nonneg h3
  simp only [T.size] at hs
  have b2 := phi_bound W h2 (by omega)
  have b3 := phi_bound W h3 (by omega)
  simp only [T.phi]
  rw [hc]
  simp only [T.cnt] at hc ⊢
  have e : (2 * W + 1) ^ (1 + l.cnt + r.cnt) = (2 * W + 1) * (2 * W + 1) ^ (l.cnt + r.cnt) := by rw [show 1 + l.cnt + r.cnt = (l.cnt + r.cnt) + 1 by omega, Nat.pow_succ, Nat.mul_comm]
  have pl : (2 * W + 1) ^ l'.cnt ≤ (2 * W + 1) ^ (l.cnt + r.cnt) := Nat.pow_le_pow_right (by omega) (by omega)
  have pr : (2 * W + 1) ^ r'.cnt ≤ (2 * W + 1) ^ (l.cnt + r.cnt) := Nat.pow_le_pow_right (by omega) (by omega)
  have b2' : l'.phi W ≤ W * (2 * W + 1) ^ (l.cnt + r.cnt) := Nat.le_trans b2 (Nat.mul_le_mul_left _ pl)
  have b3' : r'.phi W ≤ W * (2 * W + 1) ^ (l.cnt + r.cnt) := Nat.le_trans b3 (Nat.mul_le_mul_left _ pr)
  rw [e]
  have hY : 0 < (2 * W + 1) ^ (l.cnt + r.cnt) := Nat.pow_pos (by omega)
  generalize (2 * W + 1) ^ (l.cnt + r.cnt) = Y at *
  have h4 : (l'.size - r'.size).natAbs * ((2 * W + 1) * Y) + (2 * W + 1) * Y ≤ (l.size - r.size).natAbs * ((2 * W + 1) * Y) := by
    calc (l'.size - r'.size).natAbs * ((2 * W + 1) * Y) + (2 * W + 1) * Y = ((l'.size - r'.size).natAbs + 1) * ((2 * W + 1) * Y) := (Nat.succ_mul _ _).symm
      _ ≤ _ := Nat.mul_le_mul_right _ hi
  have h5 : (2 * W + 1) * Y = W * Y + W * Y + Y := by rw [Nat.succ_mul, Nat.mul_assoc, Nat.two_mul]
  omega

theorem plug_size {x y : T} (h : x.size = y.size) : ∀ c : Ctx, (plug c x).size = (plug c y).size
  | [] => h
  | .L a n p r :: c => plug_size (by simp only [T.size]; omega) c
  | .R a n p l :: c => plug_size (by simp only [T.size]; omega) c
theorem plug_cnt {x y : T} (h : x.cnt = y.cnt) : ∀ c : Ctx, (plug c x).cnt = (plug c y).cnt
  | [] => h
  | .L a n p r :: c => plug_cnt (by simp only [T.cnt]; omega) c
  | .R a n p l :: c => plug_cnt (by simp only [T.cnt]; omega) c
theorem plug_phi {W : Nat} {x y : T} (hs : x.size = y.size) (hc : x.cnt = y.cnt) (h : x.phi W < y.phi W) : ∀ c : Ctx, (plug c x).phi W < (plug c y).phi W
  | [] => h
  | .L a n p r :: c => plug_phi (by simp only [T.size]; omega) (by simp only [T.cnt]; omega) (by simp only [T.phi, T.cnt, hs, hc]; omega) c
  | .R a n p l :: c => plug_phi (by simp only [T.size]; omega) (by simp only [T.cnt]; omega) (by simp only [T.phi, T.cnt, hs, hc]; omega) c
noncomputable def ioL : Ctx → List Run
  | [] => []
  | .L .. :: c => ioL c
  | .R a n p l :: c => ioL c ++ (l.io ++ [(a, n, p)])
noncomputable def ioR : Ctx → List Run
  | [] => []
  | .L a n p r :: c => (a, n, p) :: (r.io ++ ioR c)
  | .R .. :: c => ioR c
theorem plug_io (x : T) : ∀ c : Ctx, (plug c x).io = ioL c ++ (x.io ++ ioR c)
  | [] => by simp [plug, ioL, ioR]
  | .L a n p r :: c => by show (plug c (.nd a n p x r)).io = _; rw [plug_io _ c]; simp [T.io, ioL, ioR]
  | .R a n p l :: c => by show (plug c (.nd a n p l x)).io = _; rw [plug_io _ c]; simp [T.io, ioL, ioR]
theorem plug_append (c' c : Ctx) (t : T) : plug (c' ++ c) t = plug c (plug c' t) := by
  induction c' generalizing t with
  | nil => rfl
  | cons d c' ih => cases d <;> exact ih _
/-- a node's place -/
theorem find_ctx : ∀ (t : T) (xs ys : List Run) (a : Addr) (n : Int) (p : V), t.io = xs ++ (a, n, p) :: ys → ∃ c l r, t = plug c (.nd a n p l r) ∧ xs = ioL c ++ l.io ∧ ys = r.io ++ ioR c
  | .nil, xs, ys, a, n, p, h => by simp [T.io] at h
  | .nd b m q l r, xs, ys, a, n, p, h => by
    simp only [T.io] at h
    rcases List.append_eq_append_iff.mp h with ⟨zs, e1, e2⟩ | ⟨zs, e1, e2⟩
    · -- a stands behind l
      cases zs with
      | nil =>
        simp only [List.nil_append] at e2
        injection e2 with e2 e3
        cases e2
        exact ⟨[], l, r, rfl, by simpa [ioL] using e1, by simpa [ioR] using e3.symm⟩
      | cons z zs =>
        simp only [List.cons_append] at e2
        injection e2 with e2 e3
        subst e2
        refine o3_3 (fun c l' r' h1 h2 h3 => ?_) (find_ctx r zs ys a n p e3)
        refine ⟨c ++ [.R b m q l], l', r', ?_, ?_, ?_⟩
        · rw [plug_append, ← h1]; rfl
        · rw [e1, h2]
          have : ∀ c : Ctx, ioL (c ++ [.R b m q l]) = (l.io ++ [(b, m, q)]) ++ ioL c := by
            intro c
            induction c with
            | nil => simp [ioL]
            | cons d c ih => cases d <;> simp [ioL, ih]
          rw [this]; simp
        · rw [h3]
          have : ∀ c : Ctx, ioR (c ++ [.R b m q l]) = ioR c := by
            intro c
            induction c with
            | nil => simp [ioR]
            | cons d c ih => cases d <;> simp [ioR, ih]
          rw [this]
    · cases zs with
      | nil =>
        simp only [List.nil_append, List.append_nil] at e1 e2
        injection e2 with e2 e3
        cases e2
        exact ⟨[], l, r, rfl, by simpa [ioL] using e1.symm, by simpa [ioR] using e3⟩
      | cons z zs =>
        simp only [List.cons_append] at e2
        injection e2 with e2 e3
        subst e2
        refine o3_3 (fun c l' r' h1 h2 h3 => ?_) (find_ctx l xs zs a n p e1)
        refine ⟨c ++ [.L b m q r], l', r', ?_, ?_, ?_⟩
        · rw [plug_append, ← h1]; rfl
        · rw [h2]
          have : ∀ c : Ctx, ioL (c ++ [.L b m q r]) = ioL c := by
            intro c
            induction c with
            | nil => simp [ioL]
            | cons d c ih => cases d <;> simp [ioL, ih]
          rw [this]
        · rw [e3, h3]
          have : ∀ c : Ctx, ioR (c ++ [.L b m q r]) = ioR c ++ (b, m, q) :: r.io := by
            intro c
            induction c with
            | nil => simp [ioR]
            | cons d c ih => cases d <;> simp [ioR, ih]
          rw [this]; simp
theorem find_ads {t : T} {a : Addr} (h : a ∈ t.ads) : ∃ c n p l r, t = plug c (.nd a n p l r) := by
  obtain ⟨⟨b, n, p⟩, hm, e⟩ := List.mem_map.mp ((ads_io t a).mp h)
  cases e
  refine o2_1 (fun xs ys e => ?_) (List.append_of_mem hm)
  refine o3_2 (fun c l r h1 _ => ?_) (find_ctx t xs ys _ n p e)
  exact ⟨c, n, p, l, r, h1⟩

section
variable {cl : CL} {σ : Store} {Q : PE} {k : Bool → Prop}
theorem w_abs {i : Int} (h : Q (.int i.natAbs) σ) : bltW "abs" [.int i] σ Q := by
  unfold bltW; dsimp only
  rw [if_neg (by decide), if_neg (by decide), if_pos rfl]; exact h
theorem w_len {a : Addr} {xs : List V} (ha : σ a = some (.list xs)) (h : Q (.int xs.length) σ) : bltW "len" [.ref a] σ Q := by
  unfold bltW; dsimp only
  rw [if_pos rfl]; exact w_list ha h
theorem w_copy {a : Addr} {xs : List V} (ha : σ a = some (.list xs)) (h : newW σ (.list xs) Q) : bltW "list" [.ref a] σ Q := by
  unfold bltW; dsimp only
  rw [if_neg (by decide), if_pos rfl]; exact w_list ha h
theorem w_max {i j : Int} (h : Q (.int (max i j)) σ) : bltW "max" [.int i, .int j] σ Q := by
  unfold bltW; dsimp only
  rw [if_pos rfl]; exact h
theorem w_min {i j : Int} (h : Q (.int (min i j)) σ) : bltW "min" [.int i, .int j] σ Q := by
  unfold bltW; dsimp only
  rw [if_neg (by decide), if_pos rfl]; exact h
theorem w_pop {a : Addr} {xs : List V} {x : V} (ha : σ a = some (.list (xs ++ [x]))) (h : Q x (upd σ a (.list xs))) : methW "pop" (.ref a) [] σ Q := by
  unfold methW; dsimp only
  rw [if_pos rfl]
  refine w_list ha ?_
  rw [List.getLast?_concat, List.dropLast_concat]; exact h
theorem w_append {a : Addr} {xs : List V} {x : V} (ha : σ a = some (.list xs)) (hl : xs.length + 1 ≤ bigN) (h : Q .none (upd σ a (.list (xs ++ [x])))) : methW "append" (.ref a) [x] σ Q := by
  unfold methW; dsimp only
  rw [if_pos rfl]
  exact w_list ha ⟨hl, h⟩
theorem w_extend {a b : Addr} {xs ys : List V} (ha : σ a = some (.list xs)) (hb : σ b = some (.list ys)) (hab : a ≠ b) (hy : ys.length ≠ 0) (hl : xs.length + ys.length ≤ bigN) (h : Q .none (upd σ a (.list (xs ++ ys)))) : methW "extend" (.ref a) [.ref b] σ Q := by
  unfold methW; dsimp only
  rw [if_neg (by decide), if_pos rfl]
  exact w_list ha (w_list hb ⟨⟨hab, hy, hl⟩, h⟩)
theorem mk_list {a : Addr} {xs : List V} {x : Str} (ha : σ a = some (.list xs)) (hx : x = "pop" ∨ x = "append" ∨ x = "extend") : methOk x (.ref a) σ := by
  unfold methOk refW
  dsimp only
  rw [ha]
  exact hx
end

theorem while_ind {α : Type} (m : α → Nat) (I : α → AEnv → Store → Prop) {test : AEnv → Store → (Bool → Store → Prop) → Prop} {body : AEnv → Store → PS → Prop} {Q : PS}
    (step : ∀ x ρ σ (P : AEnv → Store → Prop), I x ρ σ → (∀ y ρ' σ', I y ρ' σ' → m y < m x → P ρ' σ') → whileStep test body P ρ σ Q) : ∀ x ρ σ, I x ρ σ → whileW test body ρ σ Q := by
  intro x ρ σ hI P hP
  have : ∀ n x ρ σ, m x < n → I x ρ σ → P ρ σ := by
    intro n
    induction n with
    | zero => intro x ρ σ h; omega
    | succ n ih =>
      intro x ρ σ h hI
      exact hP ρ σ (step x ρ σ P hI fun y ρ' σ' hy hm => ih y ρ' σ' (by omega) hy)
  exact this _ x ρ σ (Nat.lt_succ_self _) hI
/-- one turn of a while -/
theorem while_turn {cl : CL} {n : Nat} {t : Expr} {bb : List Stmt} {P : AEnv → Store → Prop} {ρ : AEnv} {σ : Store} {QS : PS}
    (h : awpT cl 20 t ρ σ fun c σ₁ => if c then blkW (awpS cl n) bb ρ σ₁ (fun fl ρ₂ σ₂ => match fl with | .brk => QS .next ρ₂ σ₂ | .ret v => QS (.ret v) ρ₂ σ₂ | _ => P ρ₂ σ₂) else QS .next ρ σ₁) :
    whileStep (fun ρ σ k => awpT cl 20 t ρ σ k) (blkW (awpS cl n) bb) P ρ σ QS := h

theorem permL {a : Addr} {t r c : List Addr} : (t ++ (a :: (r ++ c))).Perm ((a :: (t ++ r)) ++ c) := by
  rw [List.cons_append, List.append_assoc]
  exact List.perm_middle
theorem permR {a : Addr} {t l c : List Addr} : (t ++ (a :: (l ++ c))).Perm ((a :: (l ++ t)) ++ c) := by
  refine List.perm_middle.trans ?_
  rw [List.cons_append, ← List.append_assoc]
  exact (List.perm_append_comm.append_right c).cons a
theorem wt_L {σ : Store} {tr a : Addr} {c : Ctx} {n : Int} {p : V} {t r : T} : WT σ tr (.L a n p r :: c) t ↔ WT σ tr c (.nd a n p t r) :=
  ⟨fun ⟨h1, ⟨h2, h3, h4⟩, h5⟩ => ⟨⟨h2, h1, h3⟩, h4, (permL.cons tr).nodup_iff.mp h5⟩, fun ⟨⟨h2, h1, h3⟩, h4, h5⟩ => ⟨h1, ⟨h2, h3, h4⟩, (permL.cons tr).nodup_iff.mpr h5⟩⟩
theorem wt_R {σ : Store} {tr a : Addr} {c : Ctx} {n : Int} {p : V} {t l : T} : WT σ tr (.R a n p l :: c) t ↔ WT σ tr c (.nd a n p l t) :=
  ⟨fun ⟨h1, ⟨h2, h3, h4⟩, h5⟩ => ⟨⟨h2, h3, h1⟩, h4, (permR.cons tr).nodup_iff.mp h5⟩, fun ⟨⟨h2, h3, h1⟩, h4, h5⟩ => ⟨h1, ⟨h2, h3, h4⟩, (permR.cons tr).nodup_iff.mpr h5⟩⟩
theorem wt_plug {σ : Store} {tr : Addr} {c : Ctx} : ∀ (c' : Ctx) {t : T}, WT σ tr (c' ++ c) t ↔ WT σ tr c (plug c' t)
  | [], _ => Iff.rfl
  | .L a n p r :: c', t => wt_L.trans (wt_plug c')
  | .R a n p r :: c', t => wt_R.trans (wt_plug c')
theorem ownS_L {tr a : Addr} {c : Ctx} {n : Int} {p : V} {t r : T} {x : Addr} : x ∈ ownS tr (.L a n p r :: c) t ↔ x ∈ ownS tr c (.nd a n p t r) := (permL.cons tr).mem_iff
theorem ownS_R {tr a : Addr} {c : Ctx} {n : Int} {p : V} {t l : T} {x : Addr} : x ∈ ownS tr (.R a n p l :: c) t ↔ x ∈ ownS tr c (.nd a n p l t) := (permR.cons tr).mem_iff
theorem ownS_plug {tr : Addr} {c : Ctx} {x : Addr} : ∀ (c' : Ctx) {t : T}, x ∈ ownS tr (c' ++ c) t ↔ x ∈ ownS tr c (plug c' t)
  | [], _ => Iff.rfl
  | .L a n p r :: c', t => ownS_L.trans (ownS_plug c')
  | .R a n p r :: c', t => ownS_R.trans (ownS_plug c')

noncomputable def rHelps (n : Int) (r : T) : T → Bool
  | .nil => false
  | .nd b m q l1 r1 => decide (0 < (T.nd b m q l1 r1).size - r.size) && decide (((l1.size - (n + r1.size + r.size)).natAbs : Int) < (T.nd b m q l1 r1).size - r.size)
noncomputable def lHelps (n : Int) (l : T) : T → Bool
  | .nil => false
  | .nd b m q l2 r2 => decide (0 < (T.nd b m q l2 r2).size - l.size) && decide (((r2.size - (n + l2.size + l.size)).natAbs : Int) < (T.nd b m q l2 r2).size - l.size)

section
variable {w : World} {C : Nat → CL} {lv : Nat} {σ : Store} {Q : PE}
theorem rHelps_ok (P : Prg w C) {a : Addr} {n : Int} {p q : V} {l r : T} (ht : TR σ q (.nd a n p l r)) (hp : (T.nd a n p l r).pos) (h : Q (.bool (rHelps n r l)) σ) : C (lv + 2) "right_turn_helps" [.ref a] σ Q := by
  revert ht; refine o0_3 fun h1 h2 h3 => ?_
  refine P.fn rfl rfl ?_
  walk_at "aw"
  refine total_ok P h2 ?_
  walk_at "aw"
  refine total_ok P h3 ?_
  walk_at "aw"
  cases l with
  | nil =>
    have := size_nonneg hp.2.2
    refine w_if (fun _ => ?_) fun q => absurd q ?_
    · walk_at "aw"; exact h
    · simp only [T.size]; simpa using this
  | nd b m qq l1 r1 =>
    revert h2; refine o0_3 fun b1 b2 b3 => ?_
    simp only [root_nd] at h1 ⊢
    refine w_if (fun z => ?_) fun z => ?_
    · walk_at "aw"
      have e : rHelps n r (.nd b m qq l1 r1) = false := by
        have := of_decide_eq_true z
        unfold rHelps; dsimp only
        rw [decide_eq_false (by omega)]; rfl
      rw [e] at h; exact h
    · walk_at "aw"
      refine total_ok P b2 ?_
      walk_at "aw"
      refine total_ok P b3 ?_
      walk_at "aw"
      refine w_abs ?_
      walk_at "aw"
      have e : rHelps n r (.nd b m qq l1 r1) = decide (((l1.size - (n + (T.nd b m qq l1 r1).size + r.size - (m + l1.size + r1.size) + r1.size)).natAbs : Int) < (T.nd b m qq l1 r1).size - r.size) := by
        have := of_decide_eq_false z
        unfold rHelps; dsimp only
        rw [decide_eq_true (by omega), Bool.true_and]
        have : n + (T.nd b m qq l1 r1).size + r.size - (m + l1.size + r1.size) + r1.size = n + r1.size + r.size := by simp only [T.size]; omega
        rw [this]
      rw [e] at h; exact h
theorem lHelps_ok (P : Prg w C) {a : Addr} {n : Int} {p q : V} {l r : T} (ht : TR σ q (.nd a n p l r)) (hp : (T.nd a n p l r).pos) (h : Q (.bool (lHelps n l r)) σ) : C (lv + 2) "left_turn_helps" [.ref a] σ Q := by
  revert ht; refine o0_3 fun h1 h2 h3 => ?_
  refine P.fn rfl rfl ?_
  walk_at "aw"
  refine total_ok P h3 ?_
  walk_at "aw"
  refine total_ok P h2 ?_
  walk_at "aw"
  cases r with
  | nil =>
    have := size_nonneg hp.2.1
    refine w_if (fun _ => ?_) fun q => absurd q ?_
    · walk_at "aw"; exact h
    · simp only [T.size]; simpa using this
  | nd b m qq l1 r1 =>
    revert h3; refine o0_3 fun b1 b2 b3 => ?_
    simp only [root_nd] at h1 ⊢
    refine w_if (fun z => ?_) fun z => ?_
    · walk_at "aw"
      have e : lHelps n l (.nd b m qq l1 r1) = false := by
        have := of_decide_eq_true z
        unfold lHelps; dsimp only
        rw [decide_eq_false (by omega)]; rfl
      rw [e] at h; exact h
    · walk_at "aw"
      refine total_ok P b3 ?_
      walk_at "aw"
      refine total_ok P b2 ?_
      walk_at "aw"
      refine w_abs ?_
      walk_at "aw"
      have e : lHelps n l (.nd b m qq l1 r1) = decide (((r1.size - (n + l.size + (T.nd b m qq l1 r1).size - (m + l1.size + r1.size) + l1.size)).natAbs : Int) < (T.nd b m qq l1 r1).size - l.size) := by
        have := of_decide_eq_false z
        unfold lHelps; dsimp only
        rw [decide_eq_true (by omega), Bool.true_and]
        have : n + l.size + (T.nd b m qq l1 r1).size - (m + l1.size + r1.size) + l1.size = n + l1.size + l.size := by simp only [T.size]; omega
        rw [this]
      rw [e] at h; exact h
end

theorem cnt_io : ∀ t : T, t.cnt = t.io.length
  | .nil => rfl
  | .nd a n p l r => by simp only [T.cnt, T.io, List.length_append, List.length_cons, cnt_io l, cnt_io r]; omega
theorem cnt_le : ∀ {t : T}, t.pos → (t.cnt : Int) ≤ t.size
  | .nil, _ => Int.le_refl _
  | .nd a n p l r, ⟨h1, h2, h3⟩ => by
    have := cnt_le h2
    have := cnt_le h3
    simp only [T.cnt, T.size]; push_cast; omega

/-- nodes, each below the one ahead of it -/
inductive Chain : T → List Addr → Prop
  | nil {t : T} : Chain t []
  | hereL {a : Addr} {n : Int} {p : V} {l r : T} {ws : List Addr} : Chain l ws → Chain (.nd a n p l r) (a :: ws)
  | hereR {a : Addr} {n : Int} {p : V} {l r : T} {ws : List Addr} : Chain r ws → Chain (.nd a n p l r) (a :: ws)
  | left {a : Addr} {n : Int} {p : V} {l r : T} {ws : List Addr} : Chain l ws → Chain (.nd a n p l r) ws
  | right {a : Addr} {n : Int} {p : V} {l r : T} {ws : List Addr} : Chain r ws → Chain (.nd a n p l r) ws
theorem Chain.len {t : T} {ws : List Addr} (h : Chain t ws) : ws.length ≤ t.cnt := by
  induction h with
  | nil => exact Nat.zero_le _
  | hereL _ ih => simp only [List.length_cons, T.cnt]; omega
  | hereR _ ih => simp only [List.length_cons, T.cnt]; omega
  | left _ ih => simp only [T.cnt]; omega
  | right _ ih => simp only [T.cnt]; omega
theorem Chain.last {t : T} {us : List Addr} (h : Chain t us) : ∀ (ws : List Addr) (x : Addr), us = ws ++ [x] → ∃ c n p l r, t = plug c (.nd x n p l r) ∧ ∀ u ws', Chain u ws' → Chain (plug c u) (ws ++ ws') := by
  induction h with
  | nil => intro ws x e; simp at e
  | @hereL a n p l r us h ih =>
    intro ws x e
    cases ws with
    | nil =>
      simp only [List.nil_append, List.cons.injEq] at e
      obtain ⟨rfl, rfl⟩ := e
      exact ⟨[], n, p, l, r, rfl, fun u ws' h => h⟩
    | cons y ws =>
      simp only [List.cons_append, List.cons.injEq] at e
      obtain ⟨rfl, e⟩ := e
      refine o5_2 (fun c n' p' l' r' e1 e2 => ?_) (ih ws x e)
      refine ⟨c ++ [.L a n p r], n', p', l', r', by rw [plug_append, ← e1]; rfl, fun u ws' h => ?_⟩
      rw [plug_append]
      exact .hereL (e2 u ws' h)
  | @hereR a n p l r us h ih =>
    intro ws x e
    cases ws with
    | nil =>
      simp only [List.nil_append, List.cons.injEq] at e
      obtain ⟨rfl, rfl⟩ := e
      exact ⟨[], n, p, l, r, rfl, fun u ws' h => h⟩
    | cons y ws =>
      simp only [List.cons_append, List.cons.injEq] at e
      obtain ⟨rfl, e⟩ := e
      refine o5_2 (fun c n' p' l' r' e1 e2 => ?_) (ih ws x e)
      refine ⟨c ++ [.R a n p l], n', p', l', r', by rw [plug_append, ← e1]; rfl, fun u ws' h => ?_⟩
      rw [plug_append]
      exact .hereR (e2 u ws' h)
  | @left a n p l r us h ih =>
    intro ws x e
    refine o5_2 (fun c n' p' l' r' e1 e2 => ?_) (ih ws x e)
    refine ⟨c ++ [.L a n p r], n', p', l', r', by rw [plug_append, ← e1]; rfl, fun u ws' h => ?_⟩
    rw [plug_append]
    exact .left (e2 u ws' h)
  | @right a n p l r us h ih =>
    intro ws x e
    refine o5_2 (fun c n' p' l' r' e1 e2 => ?_) (ih ws x e)
    refine ⟨c ++ [.R a n p l], n', p', l', r', by rw [plug_append, ← e1]; rfl, fun u ws' h => ?_⟩
    rw [plug_append]
    exact .right (e2 u ws' h)

theorem plug_pos {x y : T} (h : y.pos) : ∀ c : Ctx, (plug c x).pos → (plug c y).pos := by
  intro c hx
  rw [pos_io, plug_io] at hx ⊢
  intro z hz
  simp only [List.mem_append] at hz hx
  rcases hz with hz | hz | hz
  · exact hx z (.inl hz)
  · exact (pos_io y).mp h z hz
  · exact hx z (.inr (.inr hz))
theorem pos_plug {x : T} (c : Ctx) (h : (plug c x).pos) : x.pos := by
  rw [pos_io] at h ⊢
  intro z hz
  exact h z (by rw [plug_io]; simp [hz])
theorem size_plug {x : T} (c : Ctx) (h : (plug c x).pos) : x.size ≤ (plug c x).size := by
  induction c generalizing x with
  | nil => exact Int.le_refl _
  | cons d c ih =>
    cases d with
    | L a n p r =>
      have h1 := ih (x := .nd a n p x r) h
      have h2 := pos_plug c (x := .nd a n p x r) h
      have := size_nonneg h2.2.2
      have := h2.1
      simp only [plug, T.size] at h1 ⊢; omega
    | R a n p l =>
      have h1 := ih (x := .nd a n p l x) h
      have h2 := pos_plug c (x := .nd a n p l x) h
      have := size_nonneg h2.2.1
      have := h2.1
      simp only [plug, T.size] at h1 ⊢; omega
theorem TR.mem {σ : Store} : ∀ {t : T} {q : V} {x : Addr}, TR σ q t → x ∈ t.ads → ∃ tt p l r q', σ x = some (node tt p l r q')
  | .nd a n p l r, q, x, ⟨h1, h2, h3⟩, hx => by
    simp only [T.ads, List.mem_cons, List.mem_append] at hx
    rcases hx with rfl | hx | hx
    · exact ⟨_, _, _, _, _, h1⟩
    · exact h2.mem hx
    · exact h3.mem hx
theorem CX.mem {σ : Store} {tr : Addr} : ∀ {c : Ctx} {v : V} {m : Int} {x : Addr}, CX σ tr v m c → x ∈ adsC c → ∃ tt p l r q', σ x = some (node tt p l r q')
  | .L a n p r :: c, v, m, x, ⟨h1, h2, h3⟩, hx => by
    simp only [adsC, List.mem_cons, List.mem_append] at hx
    rcases hx with rfl | hx | hx
    · exact ⟨_, _, _, _, _, h1⟩
    · exact h2.mem hx
    · exact h3.mem hx
  | .R a n p r :: c, v, m, x, ⟨h1, h2, h3⟩, hx => by
    simp only [adsC, List.mem_cons, List.mem_append] at hx
    rcases hx with rfl | hx | hx
    · exact ⟨_, _, _, _, _, h1⟩
    · exact h2.mem hx
    · exact h3.mem hx
theorem CX.tree {σ : Store} {tr : Addr} : ∀ {c : Ctx} {v : V} {m : Int}, CX σ tr v m c → ∃ v', σ tr = some (treeO v')
  | [], _, _, h => ⟨_, h⟩
  | .L .. :: c, _, _, ⟨_, _, h⟩ => h.tree
  | .R .. :: c, _, _, ⟨_, _, h⟩ => h.tree
noncomputable def isI : O → Bool
  | .inst .. => true
  | _ => false
theorem WT.inst {σ : Store} {tr : Addr} {c : Ctx} {t : T} (W : WT σ tr c t) {x : Addr} (hx : x ∈ ownS tr c t) : ∃ o, σ x = some o ∧ isI o = true := by
  simp only [ownS, List.mem_cons, List.mem_append] at hx
  rcases hx with rfl | hx | hx
  · obtain ⟨v, h⟩ := W.cc.tree; exact ⟨_, h, rfl⟩
  · refine o5_1 (fun _ _ _ _ _ h => ?_) (W.tt.mem hx); exact ⟨_, h, rfl⟩
  · refine o5_1 (fun _ _ _ _ _ h => ?_) (W.cc.mem hx); exact ⟨_, h, rfl⟩
theorem WT.off {σ : Store} {tr : Addr} {c : Ctx} {t : T} (W : WT σ tr c t) {x : Addr} {o : Option O} (h : σ x = o) (ho : o.all isI = false ∨ o = none) : x ∉ ownS tr c t := fun hx => by
  refine o1_2 (fun o' h1 h2 => ?_) (W.inst hx)
  rw [h1] at h
  subst h
  rcases ho with ho | ho
  · simp [h2] at ho
  · cases ho
theorem WT.keep {σ σ' : Store} {tr : Addr} {c : Ctx} {t : T} {S : List Addr} (W : WT σ tr c t) (k : Keep S σ σ') (h : ∀ x ∈ ownS tr c t, x ∉ S) : WT σ' tr c t :=
  ⟨W.tt.keep k fun x hx => h x (by simp [ownS, hx]), W.cc.keep k (h tr (by simp [ownS])) fun x hx => h x (by simp [ownS, hx]), W.nn⟩
theorem Keep.new {S : List Addr} {σ σ1 : Store} {a : Addr} {o : O} (k : Keep S σ σ1) (h : σ a = none) : Keep S σ (Mine.upd σ1 a o) := fun x o' hx e => upd_at (fun q => by rw [q, h] at e; cases e) (k x o' hx e)
theorem WT.upd {σ : Store} {tr : Addr} {c : Ctx} {t : T} (W : WT σ tr c t) {a : Addr} {o : O} (h : a ∉ ownS tr c t) : WT (Mine.upd σ a o) tr c t := W.keep Keep.upd fun x hx => by simp only [List.mem_singleton]; rintro rfl; exact h hx

theorem rHelps_inv {n : Int} {r l : T} (h : rHelps n r l = true) : ∃ b m q l1 r1, l = .nd b m q l1 r1 ∧ (l1.size - (n + r1.size + r.size)).natAbs < (l.size - r.size).natAbs := by
  cases l with
  | nil => cases h
  | nd b m q l1 r1 =>
    unfold rHelps at h
    simp only [Bool.and_eq_true, decide_eq_true_eq] at h
    exact ⟨b, m, q, l1, r1, rfl, by omega⟩
theorem lHelps_inv {n : Int} {l r : T} (h : lHelps n l r = true) : ∃ b m q l2 r2, r = .nd b m q l2 r2 ∧ (n + l2.size + l.size - r2.size).natAbs < (l.size - r.size).natAbs := by
  cases r with
  | nil => cases h
  | nd b m q l2 r2 =>
    unfold lHelps at h
    simp only [Bool.and_eq_true, decide_eq_true_eq] at h
    exact ⟨b, m, q, l2, r2, rfl, by omega⟩

section
variable {w : World} {C : Nat → CL} {lv : Nat} {σ : Store} {Q : PE}
theorem by_post {cl : CL} {n : Nat} {ρ : AEnv} {σ : Store} {Q : PE} {e : Expr} (I : V → Store → Prop) (h1 : ∀ v σ', I v σ' → Q v σ') (h2 : ∀ K : PE, (∀ v σ', I v σ' → K v σ') → awpE cl n e ρ σ K) : awpE cl n e ρ σ Q := h2 Q h1
theorem meas2 {a b : Nat} {ws : List Addr} {x y z : Addr} (h : a < b) : 2 * a + (ws ++ [x, y]).length < 2 * b + (ws ++ [z]).length := by
  rw [List.length_append, List.length_append]
  show 2 * a + (ws.length + 2) < 2 * b + (ws.length + 1)
  omega
structure SetI (σ0 : Store) (tr wl : Addr) (c : Ctx) (t0 t : T) (ws : List Addr) (ρ : AEnv) (σ : Store) : Prop where
  wt : WT σ tr c t
  io : t.io = t0.io
  ls : σ wl = some (.list (ws.map .ref))
  ch : Chain t ws
  kp : Keep (ownS tr c t0) σ0 σ
  r1 : ρ "tree" = some (.ref tr)
  r2 : ρ "waiting" = some (.ref wl)
  r3 : ρ "top" = some t.root

theorem root_plug : ∀ c : Ctx, c ≠ [] → ∃ d, d ∈ adsC c ∧ ∀ X, (plug c X).root = .ref d
  | [], h => absurd rfl h
  | [.L a n p r], _ => ⟨a, by simp [adsC], fun X => rfl⟩
  | [.R a n p r], _ => ⟨a, by simp [adsC], fun X => rfl⟩
  | .L a n p r :: e :: c, _ => by
    refine o1_2 (fun d h1 h2 => ?_) (root_plug (e :: c) (by simp))
    exact ⟨d, by simp only [adsC, List.mem_cons, List.mem_append]; exact .inr (.inr h1), fun X => h2 _⟩
  | .R a n p r :: e :: c, _ => by
    refine o1_2 (fun d h1 h2 => ?_) (root_plug (e :: c) (by simp))
    exact ⟨d, by simp only [adsC, List.mem_cons, List.mem_append]; exact .inr (.inr h1), fun X => h2 _⟩
theorem adsC_sub (c : Ctx) : ∀ {c' : Ctx} {x : Addr}, x ∈ adsC c' → x ∈ adsC (c' ++ c)
  | .L a n p r :: c', x, h => by
    simp only [adsC, List.cons_append, List.mem_cons, List.mem_append] at h ⊢
    rcases h with h | h | h
    · exact .inl h
    · exact .inr (.inl h)
    · exact .inr (.inr (adsC_sub c h))
  | .R a n p r :: c', x, h => by
    simp only [adsC, List.cons_append, List.mem_cons, List.mem_append] at h ⊢
    rcases h with h | h | h
    · exact .inl h
    · exact .inr (.inl h)
    · exact .inr (.inr (adsC_sub c h))
theorem Keep.tr' {S : List Addr} {σ σ1 : Store} {a : Addr} {o : O} (k : Keep S σ σ1) (h : σ1 a = none) : Keep S σ (Mine.upd σ1 a o) := fun x o' hx e => by
  have := k x o' hx e
  exact upd_at (fun q => by rw [q, h] at this; cases this) this
theorem ownS_io {tr : Addr} {c : Ctx} {t t' : T} (h : t.io = t'.io) {x : Addr} : x ∈ ownS tr c t ↔ x ∈ ownS tr c t' := by
  simp only [ownS, List.mem_cons, List.mem_append, ads_io, h]

theorem settle_ok (P : Prg w C) {tr a : Addr} {c : Ctx} {t : T} (ha : t.root = .ref a) (W : WT σ tr c t) (hp : t.pos) (hs : t.size ≤ 1000)
    (h : ∀ t' σ', WT σ' tr c t' → t'.io = t.io → Keep (ownS tr c t) σ σ' → Q t'.root σ') : C (lv + 4) "settle" [.ref tr, .ref a] σ Q := by
  refine P.fn rfl rfl ?_
  rw [← ha]
  walk_at "aw"
  intro wl hwl
  walk_at "aw"
  have hwo := W.off hwl (.inr rfl)
  refine while_ind (α := T × List Addr) (fun x => 2 * x.1.phi (t.size.toNat + 1) + x.2.length) (fun x ρ σ' => SetI σ tr wl c t x.1 x.2 ρ σ') ?_ (t, [a]) _ _ ?_
  · rintro ⟨t1, ws⟩ ρ σ1 PP I hP
    obtain ⟨W1, hio, hls, hch, hk, e1, e2, e3⟩ := I
    dsimp only at W1 hio hls hch hk e1 e2 e3 hP
    refine while_turn ?_
    walk_at "aw"
    refine w_len hls ?_
    walk_at "aw"
    have hp1 : t1.pos := by rw [pos_io, hio, ← pos_io]; exact hp
    have hs1 : t1.size = t.size := by rw [size_io, size_io, hio]
    refine w_if (fun z => ?_) fun z => ?_
    · -- one is taken
      have hne : ws ≠ [] := by rintro rfl; simp at z
      obtain ⟨ws', x, rfl⟩ : ∃ ws' x, ws = ws' ++ [x] := ⟨ws.dropLast, ws.getLast hne, (List.dropLast_concat_getLast hne).symm⟩
      walk_at "aw"
      refine ⟨mk_list hls (.inl rfl), ?_⟩
      walk_at "aw"
      rw [List.map_append] at hls
      refine w_pop hls ?_
      walk_at "aw"
      refine o5_2 (fun c' n p l r rf5_ hrest => ?_) (hch.last ws' x rfl); subst rf5_
      have hwl1 := W1.off hls (.inl rfl)
      have W2 : WT (upd σ1 wl (.list (ws'.map V.ref))) tr c (plug c' (.nd x n p l r)) := W1.upd hwl1
      have k2 : Keep (ownS tr c t) σ (upd σ1 wl (.list (ws'.map V.ref))) := hk.new hwl
      have l2 : upd σ1 wl (.list (ws'.map V.ref)) wl = some (.list (ws'.map V.ref)) := upd_self
      clear hls W1 hk
      generalize upd σ1 wl (.list (ws'.map V.ref)) = σ2 at *
      have W3 := (wt_plug c').mpr W2
      have hpx := pos_plug c' hp1
      have hsz := size_plug c' hp1
      have hlen := hch.len
      have hcn := cnt_le hp1
      simp only [List.length_append, List.length_singleton] at hlen
      have hext : (ws'.map V.ref).length + [V.ref x, V.ref x].length ≤ bigN := by
        rw [List.length_map]
        show ws'.length + 2 ≤ bigN
        unfold bigN; omega
      refine rHelps_ok P W3.tt hpx ?_
      walk_at "aw"
      refine w_if (fun zz => ?_) fun zz => ?_
      · refine o5_2 (fun b m q x1 x2 rf5_ hlt => ?_) (rHelps_inv zz); subst rf5_
        walk_at "aw"
        refine rotR_ok P W3 fun σ3 W4 k4 => ?_
        have hnew : ∀ y, y ∈ ownS tr (c' ++ c) (.nd x n p (.nd b m q x1 x2) r) → y ∈ ownS tr c t := fun y hy => (ownS_io hio).mp ((ownS_plug c').mp hy)
        have k3 : Keep (ownS tr c t) σ σ3 := k2.tr (k4.mono hnew)
        have l3 := k4 _ _ (fun hy => hwl1 ((ownS_plug c').mp hy)) l2
        have W5 := (wt_plug c').mp W4
        have hio5 : (plug c' (.nd b m q x1 (.nd x n p x2 r))).io = t.io := by rw [← hio, plug_io, plug_io]; simp [T.io]
        have hp5 : (plug c' (.nd b m q x1 (.nd x n p x2 r))).pos := by rw [pos_io, hio5, ← pos_io]; exact hp
        have hph : (plug c' (.nd b m q x1 (.nd x n p x2 r))).phi (t.size.toNat + 1) < (plug c' (.nd x n p (.nd b m q x1 x2) r)).phi (t.size.toNat + 1) := by
          refine plug_phi (by simp only [T.size]; omega) (by simp only [T.cnt]; omega) (phi_lt (pos_plug c' hp5) ?_ (by simp only [T.cnt]; omega) ?_) c'
          · have := size_plug c' hp5
            rw [size_io (plug c' _), hio5, ← size_io] at this
            have := size_nonneg hp
            omega
          · simp only [T.size] at hlt ⊢; omega
        have hch5 : Chain (plug c' (.nd b m q x1 (.nd x n p x2 r))) (ws' ++ [b, x]) := hrest _ _ (.hereR (.hereL .nil))
        have hxm : x ∈ (T.nd b m q x1 (.nd x n p x2 r)).ads := by simp [T.ads]
        clear k2 l2 W2 W3 k4
        walk_at "ax"
        have ix : instAt σ3 x := by
          refine o5_1 (fun _ _ _ _ _ hx => ?_) (W4.tt.mem hxm)
          exact inst_node hx
        refine by_post (fun v σ' => σ3 = σ' ∧ v = (plug c' (.nd b m q x1 (.nd x n p x2 r))).root) ?_ ?_
        rotate_left
        · intro K hK
          cases c' with
          | nil =>
            simp only [plug, root_nd] at e3 hK
            walk_at "aw"
            refine w_isRR ix ix ?_
            walk_at "aw"
            exact hK _ _ ⟨rfl, rfl⟩
          | cons d c' =>
            refine o1_2 (fun dd hdm hdr => ?_) (root_plug (d :: c') (by simp))
            rw [hdr] at e3
            have hdx : x ≠ dd := fun e => (nda_inv (List.nodup_cons.mp W4.nn).2).2.2 x hxm (e ▸ adsC_sub _ hdm)
            refine o5_1 (fun _ _ _ _ _ hd2 => ?_) (W4.cc.mem (adsC_sub c hdm))
            walk_at "aw"
            refine w_isRR ix (inst_node hd2) ?_
            walk_at "aw"
            exact hK _ _ ⟨rfl, (hdr _).symm⟩
        rintro v _ ⟨rfl, rfl⟩
        walk_at "aw"
        refine ⟨mk_list l3 (.inr (.inr rfl)), ?_⟩
        walk_at "aw"
        intro pl hpl
        have hplw : wl ≠ pl := by rintro rfl; rw [l3] at hpl; cases hpl
        walk_at "aw"
        refine w_extend (upd_at hplw l3) upd_self hplw (by simp) hext ?_
        have k6 := ((k3.tr' hpl).new hwl (o := .list (ws'.map V.ref ++ [V.ref b, V.ref x])) : Keep (ownS tr c t) σ (upd (upd σ3 pl (.list [V.ref b, V.ref x])) wl _))
        walk_at "aw"
        refine ⟨trivial, ?_⟩
        walk_at "aw"
        have W6 : WT (upd σ3 pl (.list [V.ref b, V.ref x])) tr c (plug c' (.nd b m q x1 (.nd x n p x2 r))) := W5.upd (W5.off hpl (.inr rfl))
        have W7 : WT (upd (upd σ3 pl (.list [V.ref b, V.ref x])) wl (.list (ws'.map V.ref ++ [V.ref b, V.ref x]))) tr c (plug c' (.nd b m q x1 (.nd x n p x2 r))) := W6.upd (W5.off l3 (.inl rfl))
        refine hP (plug c' (.nd b m q x1 (.nd x n p x2 r)), ws' ++ [b, x]) _ _ ⟨W7, hio5, ?_, hch5, k6, by walk_at "lv", by walk_at "lv", by walk_at "lv"⟩ (meas2 hph)
        rw [List.map_append]; exact upd_self
      · walk_at "aw"
        refine lHelps_ok P W3.tt hpx ?_
        walk_at "aw"
        refine w_if (fun zz => ?_) fun zz => ?_
        · refine o5_2 (fun b m q x1 x2 rf5_ hlt => ?_) (lHelps_inv zz); subst rf5_
          walk_at "aw"
          refine rotL_ok P W3 fun σ3 W4 k4 => ?_
          have hnew : ∀ y, y ∈ ownS tr (c' ++ c) (.nd x n p l (.nd b m q x1 x2)) → y ∈ ownS tr c t := fun y hy => (ownS_io hio).mp ((ownS_plug c').mp hy)
          have k3 : Keep (ownS tr c t) σ σ3 := k2.tr (k4.mono hnew)
          have l3 := k4 _ _ (fun hy => hwl1 ((ownS_plug c').mp hy)) l2
          have W5 := (wt_plug c').mp W4
          have hio5 : (plug c' (.nd b m q (.nd x n p l x1) x2)).io = t.io := by rw [← hio, plug_io, plug_io]; simp [T.io]
          have hp5 : (plug c' (.nd b m q (.nd x n p l x1) x2)).pos := by rw [pos_io, hio5, ← pos_io]; exact hp
          have hph : (plug c' (.nd b m q (.nd x n p l x1) x2)).phi (t.size.toNat + 1) < (plug c' (.nd x n p l (.nd b m q x1 x2))).phi (t.size.toNat + 1) := by
            refine plug_phi (by simp only [T.size]; omega) (by simp only [T.cnt]; omega) (phi_lt (pos_plug c' hp5) ?_ (by simp only [T.cnt]; omega) ?_) c'
            · have := size_plug c' hp5
              rw [size_io (plug c' _), hio5, ← size_io] at this
              have := size_nonneg hp
              omega
            · simp only [T.size] at hlt ⊢; omega
          have hch5 : Chain (plug c' (.nd b m q (.nd x n p l x1) x2)) (ws' ++ [b, x]) := hrest _ _ (.hereL (.hereL .nil))
          have hxm : x ∈ (T.nd b m q (.nd x n p l x1) x2).ads := by simp [T.ads]
          clear k2 l2 W2 W3 k4
          walk_at "ax"
          have ix : instAt σ3 x := by
            refine o5_1 (fun _ _ _ _ _ hx => ?_) (W4.tt.mem hxm)
            exact inst_node hx
          refine by_post (fun v σ' => σ3 = σ' ∧ v = (plug c' (.nd b m q (.nd x n p l x1) x2)).root) ?_ ?_
          rotate_left
          · intro K hK
            cases c' with
            | nil =>
              simp only [plug, root_nd] at e3 hK
              walk_at "aw"
              refine w_isRR ix ix ?_
              walk_at "aw"
              exact hK _ _ ⟨rfl, rfl⟩
            | cons d c' =>
              refine o1_2 (fun dd hdm hdr => ?_) (root_plug (d :: c') (by simp))
              rw [hdr] at e3
              have hdx : x ≠ dd := fun e => (nda_inv (List.nodup_cons.mp W4.nn).2).2.2 x hxm (e ▸ adsC_sub _ hdm)
              refine o5_1 (fun _ _ _ _ _ hd2 => ?_) (W4.cc.mem (adsC_sub c hdm))
              walk_at "aw"
              refine w_isRR ix (inst_node hd2) ?_
              walk_at "aw"
              exact hK _ _ ⟨rfl, (hdr _).symm⟩
          rintro v _ ⟨rfl, rfl⟩
          walk_at "aw"
          refine ⟨mk_list l3 (.inr (.inr rfl)), ?_⟩
          walk_at "aw"
          intro pl hpl
          have hplw : wl ≠ pl := by rintro rfl; rw [l3] at hpl; cases hpl
          walk_at "aw"
          refine w_extend (upd_at hplw l3) upd_self hplw (by simp) hext ?_
          have k6 := ((k3.tr' hpl).new hwl (o := .list (ws'.map V.ref ++ [V.ref b, V.ref x])) : Keep (ownS tr c t) σ (upd (upd σ3 pl (.list [V.ref b, V.ref x])) wl _))
          walk_at "aw"
          refine ⟨trivial, ?_⟩
          walk_at "aw"
          have W6 : WT (upd σ3 pl (.list [V.ref b, V.ref x])) tr c (plug c' (.nd b m q (.nd x n p l x1) x2)) := W5.upd (W5.off hpl (.inr rfl))
          have W7 : WT (upd (upd σ3 pl (.list [V.ref b, V.ref x])) wl (.list (ws'.map V.ref ++ [V.ref b, V.ref x]))) tr c (plug c' (.nd b m q (.nd x n p l x1) x2)) := W6.upd (W5.off l3 (.inl rfl))
          refine hP (plug c' (.nd b m q (.nd x n p l x1) x2), ws' ++ [b, x]) _ _ ⟨W7, hio5, ?_, hch5, k6, by walk_at "lv", by walk_at "lv", by walk_at "lv"⟩ (meas2 hph)
          rw [List.map_append]; exact upd_self
        · walk_at "aw"
          refine hP (plug c' (.nd x n p l r), ws') _ _ ⟨W2, hio, l2, ?_, k2, by walk_at "lv", by walk_at "lv", by walk_at "lv"⟩ ?_
          · have := hrest (.nd x n p l r) [] .nil
            simpa using this
          · simp
    · walk_at "aw"
      exact h t1 σ1 W1 hio hk
  · refine ⟨W.upd hwo, rfl, by rw [ha]; exact upd_self, ?_, (Keep.refl _ _).new hwl, by walk_at "lv", by walk_at "lv", by walk_at "lv"⟩
    cases t with
    | nil => cases ha
    | nd b n p l r => cases ha; exact .hereL .nil
end

theorem WT.nd' {tr : Addr} {c : Ctx} {t : T} {σ : Store} (W : WT σ tr c t) : (tr :: adsC c).Nodup := by
  have := W.nn
  simp only [ownS, List.nodup_cons, List.nodup_append, List.mem_append, not_or] at this ⊢
  exact ⟨this.1.2, this.2.2.1⟩

section
variable {w : World} {C : Nat → CL} {lv : Nat} {σ : Store} {Q : PE}

theorem above_ok (P : Prg w C) {tr : Addr} {c : Ctx} {v : V} {m k : Int} (hc : CX σ tr v m c) (hn : (tr :: adsC c).Nodup)
    (h : ∀ σ', CX σ' tr v (m + k) c → Keep (adsC c) σ σ' → Q .none σ') : C (lv + 1) "add_above" [par c, .int k] σ Q := by
  refine P.fn rfl rfl ?_
  walk_at "aw"
  refine while_ind (α := Ctx) List.length (fun c ρ σ1 => ∃ v m, CX σ1 tr v m c ∧ (tr :: adsC c).Nodup ∧ ρ "node" = some (par c) ∧ ρ "many" = some (.int k) ∧ ∀ σ', CX σ' tr v (m + k) c → Keep (adsC c) σ1 σ' → Q .none σ') ?_ c _ _ ⟨v, m, hc, hn, rfl, rfl, h⟩
  rintro c ρ σ1 PP ⟨v, m, hc, hn, e1, e2, hfin⟩ hP
  refine while_turn ?_
  walk_at "aw"
  cases c with
  | nil =>
    simp only [par_nil]
    walk_at "aw"
    exact hfin σ1 hc (Keep.refl _ _)
  | cons d c =>
    cases d with
    | L a n p r =>
      revert hc; refine o0_3 fun c1 c2 c3 => ?_
      simp only [par_L] at e1 ⊢
      simp only [adsC, List.nodup_cons, List.nodup_append, List.mem_cons, List.mem_append, not_or] at hn
      obtain ⟨⟨n1, n2, n3⟩, ⟨n4, n5⟩, n6, n7, n8⟩ := hn
      walk_at "aw"
      have K := Keep.upd (σ := σ1) (a := a) (o := node (n + m + r.size + k) p v r.root (par c))
      have hs : upd σ1 a (node (n + m + r.size + k) p v r.root (par c)) a = some (node (n + m + r.size + k) p v r.root (par c)) := upd_self
      have c2' := c2.keep K fun x hx => by simp only [List.mem_singleton]; rintro rfl; exact n4 hx
      have c3' := c3.keep K (by simpa using n1) fun x hx => by simp only [List.mem_singleton]; rintro rfl; exact n5 hx
      generalize upd σ1 a (node (n + m + r.size + k) p v r.root (par c)) = σ2 at *
      walk_at "aw"
      refine hP c _ _ ⟨.ref a, n + m + r.size, c3', by simp only [List.nodup_cons]; exact ⟨n3, n7⟩, by walk_at "lv", by walk_at "lv", fun σ' z1 z2 => ?_⟩ (by simp)
      refine hfin σ' ⟨?_, c2'.keep z2 fun x hx hy => n8 x hx x hy rfl, ?_⟩ ?_
      · have := z2 a _ n5 hs
        rw [this, show n + (m + k) + r.size = n + m + r.size + k by omega]
      · rw [show n + (m + k) + r.size = n + m + r.size + k by omega]; exact z1
      · exact (K.mono (by intro x hx; simp only [List.mem_singleton] at hx; simp [adsC, hx])).tr (z2.mono (by intro x hx; simp [adsC, hx]))
    | R a n p r =>
      revert hc; refine o0_3 fun c1 c2 c3 => ?_
      simp only [par_R] at e1 ⊢
      simp only [adsC, List.nodup_cons, List.nodup_append, List.mem_cons, List.mem_append, not_or] at hn
      obtain ⟨⟨n1, n2, n3⟩, ⟨n4, n5⟩, n6, n7, n8⟩ := hn
      walk_at "aw"
      have K := Keep.upd (σ := σ1) (a := a) (o := node (n + r.size + m + k) p r.root v (par c))
      have hs : upd σ1 a (node (n + r.size + m + k) p r.root v (par c)) a = some (node (n + r.size + m + k) p r.root v (par c)) := upd_self
      have c2' := c2.keep K fun x hx => by simp only [List.mem_singleton]; rintro rfl; exact n4 hx
      have c3' := c3.keep K (by simpa using n1) fun x hx => by simp only [List.mem_singleton]; rintro rfl; exact n5 hx
      generalize upd σ1 a (node (n + r.size + m + k) p r.root v (par c)) = σ2 at *
      walk_at "aw"
      refine hP c _ _ ⟨.ref a, n + r.size + m, c3', by simp only [List.nodup_cons]; exact ⟨n3, n7⟩, by walk_at "lv", by walk_at "lv", fun σ' z1 z2 => ?_⟩ (by simp)
      refine hfin σ' ⟨?_, c2'.keep z2 fun x hx hy => n8 x hx x hy rfl, ?_⟩ ?_
      · have := z2 a _ n5 hs
        rw [this, show n + r.size + (m + k) = n + r.size + m + k by omega]
      · rw [show n + r.size + (m + k) = n + r.size + m + k by omega]; exact z1
      · exact (K.mono (by intro x hx; simp only [List.mem_singleton] at hx; simp [adsC, hx])).tr (z2.mono (by intro x hx; simp [adsC, hx]))

/-- settled from a hole's parent up to the root -/
theorem up_ok (P : Prg w C) {tr : Addr} {c : Ctx} {t : T} (W : WT σ tr c t) (hp : (plug c t).pos) (hs : (plug c t).size ≤ 1000)
    (h : ∀ t' σ', WT σ' tr [] t' → t'.io = (plug c t).io → Keep (ownS tr c t) σ σ' → Q .none σ') : C (lv + 5) "settle_up" [.ref tr, par c] σ Q := by
  refine P.fn rfl rfl ?_
  walk_at "aw"
  refine while_ind (α := Ctx × T) (fun x => x.1.length) (fun x ρ σ1 => WT σ1 tr x.1 x.2 ∧ (plug x.1 x.2).io = (plug c t).io ∧ ρ "node" = some (par x.1) ∧ ρ "tree" = some (.ref tr) ∧ Keep (ownS tr c t) σ σ1) ?_ (c, t) _ _ ⟨W, rfl, rfl, rfl, Keep.refl _ _⟩
  rintro ⟨c1, t1⟩ ρ σ1 PP ⟨W1, hio, e1, e2, hk⟩ hP
  dsimp only at W1 hio e1 hP
  refine while_turn ?_
  have hp1 : (plug c1 t1).pos := by rw [pos_io, hio, ← pos_io]; exact hp
  have hs1 : (plug c1 t1).size ≤ 1000 := by rw [size_io, hio, ← size_io]; exact hs
  have hsub : ∀ x, x ∈ ownS tr c1 t1 → x ∈ ownS tr c t := fun x hx => by
    have h1 := (ownS_plug (tr := tr) (c := []) c1).mp (by simpa using hx)
    have h2 := (ownS_io hio).mp h1
    simpa using (ownS_plug (tr := tr) (c := []) c).mpr h2
  walk_at "aw"
  cases c1 with
  | nil =>
    simp only [par_nil]
    walk_at "aw"
    exact h t1 σ1 W1 hio hk
  | cons d c1 =>
    have step : ∀ a u, par (d :: c1) = .ref a → u.root = .ref a → WT σ1 tr c1 u → plug c1 u = plug (d :: c1) t1 → (∀ x, x ∈ ownS tr c1 u → x ∈ ownS tr c t) →
        C (lv + 4) "settle" [.ref tr, .ref a] σ1 fun v σ₁ => getW σ₁ v "parent" fun v σ₁ => PP (setE "node" v ρ) σ₁ := by
      intro a u ha hu Wu hpl hsub'
      have hpu : u.pos := pos_plug c1 (hpl ▸ hp1)
      have hsu : u.size ≤ 1000 := Int.le_trans (size_plug c1 (hpl ▸ hp1)) (hpl ▸ hs1)
      refine settle_ok P hu Wu hpu hsu fun t' σ2 W2 hio2 k2 => ?_
      cases t' with
      | nil =>
        cases u with
        | nil => cases hu
        | nd _ _ _ _ _ => simp [T.io] at hio2
      | nd b n p l r =>
        refine o0_3 (fun b1 b2 b3 => ?_) (id W2.tt)
        simp only [root_nd]
        walk_at "aw"
        refine hP (c1, .nd b n p l r) _ _ ⟨W2, ?_, by walk_at "lv", by walk_at "lv", hk.tr (k2.mono hsub')⟩ (by simp)
        rw [plug_io, hio2, ← plug_io, hpl, hio]
    cases d with
    | L a n p r =>
      have Wu := wt_L.mp W1
      simp only [par_L] at e1 ⊢
      walk_at "aw"
      exact step a _ rfl rfl Wu rfl fun x hx => hsub x (ownS_L.mpr hx)
    | R a n p l =>
      have Wu := wt_R.mp W1
      simp only [par_R] at e1 ⊢
      walk_at "aw"
      exact step a _ rfl rfl Wu rfl fun x hx => hsub x (ownS_R.mpr hx)
end

noncomputable def headV : List Run → V
  | [] => .none
  | (a, _, _) :: _ => .ref a
noncomputable def lastV (l : List Run) : V := headV l.reverse
noncomputable def lmost : T → Option Addr
  | .nil => none
  | .nd a _ _ .nil _ => some a
  | .nd _ _ _ (.nd a n p l r) _ => lmost (.nd a n p l r)
noncomputable def rmost : T → Option Addr
  | .nil => none
  | .nd a _ _ _ .nil => some a
  | .nd _ _ _ _ (.nd a n p l r) => rmost (.nd a n p l r)
theorem lmost_spec : ∀ {t : T} {b : Addr}, lmost t = some b → ∃ c n p r, t = plug c (.nd b n p .nil r) ∧ ioL c = []
  | .nd a n p .nil r, b, h => by cases h; exact ⟨[], n, p, r, rfl, rfl⟩
  | .nd a n p (.nd a' n' p' l' r') r, b, h => by
    refine o4_2 (fun c n2 p2 r2 e1 e2 => ?_) (lmost_spec (t := .nd a' n' p' l' r') h)
    refine ⟨c ++ [.L a n p r], n2, p2, r2, by rw [plug_append, ← e1]; rfl, ?_⟩
    have : ∀ c : Ctx, ioL (c ++ [.L a n p r]) = ioL c := by
      intro c
      induction c with
      | nil => simp [ioL]
      | cons d c ih => cases d <;> simp [ioL, ih]
    rw [this, e2]
theorem rmost_spec : ∀ {t : T} {b : Addr}, rmost t = some b → ∃ c n p l, t = plug c (.nd b n p l .nil) ∧ ioR c = []
  | .nd a n p l .nil, b, h => by cases h; exact ⟨[], n, p, l, rfl, rfl⟩
  | .nd a n p l (.nd a' n' p' l' r'), b, h => by
    refine o4_2 (fun c n2 p2 r2 e1 e2 => ?_) (rmost_spec (t := .nd a' n' p' l' r') h)
    refine ⟨c ++ [.R a n p l], n2, p2, r2, by rw [plug_append, ← e1]; rfl, ?_⟩
    have : ∀ c : Ctx, ioR (c ++ [.R a n p l]) = ioR c := by
      intro c
      induction c with
      | nil => simp [ioR]
      | cons d c ih => cases d <;> simp [ioR, ih]
    rw [this, e2]
theorem lmost_head {t : T} {b : Addr} (h : lmost t = some b) : headV t.io = .ref b ∧ t.io ≠ [] := by
  refine o4_2 (fun c n p r rf4_ e => ?_) (lmost_spec h); subst rf4_
  rw [plug_io, e]; exact ⟨rfl, by simp [T.io]⟩
theorem rmost_last {t : T} {b : Addr} (h : rmost t = some b) : lastV t.io = .ref b ∧ t.io ≠ [] := by
  refine o4_2 (fun c n p r rf4_ e => ?_) (rmost_spec h); subst rf4_
  rw [plug_io, e]; exact ⟨by simp [T.io, lastV, headV], by simp [T.io]⟩

section
variable {w : World} {C : Nat → CL} {lv : Nat} {σ : Store} {Q : PE}
theorem leftmost_ok (P : Prg w C) {a : Addr} {q : V} {t : T} (ea : t.root = .ref a) (ht : TR σ q t) (h : ∀ b, lmost t = some b → Q (.ref b) σ) : C (lv + 1) "leftmost" [.ref a] σ Q := by
  refine P.fn rfl rfl ?_
  walk_at "aw"
  refine while_ind (α := T) T.cnt (fun t ρ σ1 => σ1 = σ ∧ ∃ q, t ≠ .nil ∧ TR σ q t ∧ ρ "node" = some t.root ∧ ∀ b, lmost t = some b → Q (.ref b) σ) ?_ t _ _ ⟨rfl, q, (fun e => by rw [e] at ea; cases ea), ht, congrArg some ea.symm, h⟩
  rintro t ρ σ1 PP ⟨rfl, q, hne, ht, e1, hf⟩ hP
  refine while_turn ?_
  cases t with
  | nil => exact absurd rfl hne
  | nd a n p l r =>
    revert ht; refine o0_3 fun h1 h2 h3 => ?_
    simp only [root_nd] at e1
    walk_at "aw"
    cases l with
    | nil =>
      simp only [root_nil] at h1 ⊢
      walk_at "aw"
      exact hf a rfl
    | nd a' n' p' l' r' =>
      simp only [root_nd] at h1 ⊢
      walk_at "aw"
      exact hP (.nd a' n' p' l' r') _ _ ⟨rfl, .ref a, (fun e => by cases e), h2, by walk_at "lv", hf⟩ (by simp only [T.cnt]; omega)
theorem rightmost_ok (P : Prg w C) {a : Addr} {n : Int} {p q : V} {l r : T} (ht : TR σ q (.nd a n p l r)) (h : ∀ b, rmost (.nd a n p l r) = some b → Q (.ref b) σ) : C (lv + 1) "rightmost" [.ref a] σ Q := by
  refine P.fn rfl rfl ?_
  walk_at "aw"
  refine while_ind (α := T) T.cnt (fun t ρ σ1 => σ1 = σ ∧ ∃ q, t ≠ .nil ∧ TR σ q t ∧ ρ "node" = some t.root ∧ ∀ b, rmost t = some b → Q (.ref b) σ) ?_ (.nd a n p l r) _ _ ⟨rfl, q, (fun e => by cases e), ht, rfl, h⟩
  rintro t ρ σ1 PP ⟨rfl, q, hne, ht, e1, hf⟩ hP
  refine while_turn ?_
  cases t with
  | nil => exact absurd rfl hne
  | nd a n p l r =>
    revert ht; refine o0_3 fun h1 h2 h3 => ?_
    simp only [root_nd] at e1
    walk_at "aw"
    cases r with
    | nil =>
      simp only [root_nil] at h1 ⊢
      walk_at "aw"
      exact hf a (by cases l <;> rfl)
    | nd a' n' p' l' r' =>
      simp only [root_nd] at h1 ⊢
      walk_at "aw"
      exact hP (.nd a' n' p' l' r') _ _ ⟨rfl, .ref a, (fun e => by cases e), h3, by walk_at "lv", fun b hb => hf b (by cases l <;> exact hb)⟩ (by simp only [T.cnt]; omega)

theorem following_ok (P : Prg w C) {tr a : Addr} {c : Ctx} {n : Int} {p : V} {l r : T} (W : WT σ tr c (.nd a n p l r)) (h : Q (headV (r.io ++ ioR c)) σ) : C (lv + 2) "following" [.ref a] σ Q := by
  refine P.fn rfl rfl ?_
  refine o0_3 (fun h1 h2 h3 => ?_) (id W.tt)
  walk_at "aw"
  cases r with
  | nd a' n' p' l' r' =>
    simp only [root_nd] at h1 ⊢
    walk_at "aw"
    refine leftmost_ok P rfl h3 fun b hb => ?_
    walk_at "aw"
    obtain ⟨e1, e2⟩ := lmost_head hb
    have : headV ((T.nd a' n' p' l' r').io ++ ioR c) = .ref b := by
      cases q : (T.nd a' n' p' l' r').io with
      | nil => exact absurd q e2
      | cons x xs => rw [q] at e1; exact e1
    rw [← this]; exact h
  | nil =>
    simp only [root_nil] at h1 ⊢
    walk_at "aw"
    refine while_ind (α := Ctx × T) (fun x => x.1.length) (fun x ρ σ1 => σ1 = σ ∧ WT σ tr x.1 x.2 ∧ (∃ a, x.2.root = .ref a) ∧ ρ "node" = some x.2.root ∧ headV (ioR x.1) = headV (ioR c)) ?_ (c, .nd a n p l .nil) _ _ ⟨rfl, W, ⟨a, rfl⟩, rfl, rfl⟩
    rintro ⟨c1, t1⟩ ρ σ1 PP ⟨rfl, W1, ⟨a1, ha1⟩, e1, hio⟩ hP
    dsimp only at W1 ha1 e1 hio hP
    refine while_turn ?_
    cases t1 with
    | nil => cases ha1
    | nd b m q l1 r1 =>
      refine o0_3 (fun b1 b2 b3 => ?_) (id W1.tt)
      simp only [root_nd] at e1
      walk_at "aw"
      have hfin : Q (headV (ioR c1)) σ1 := by rw [hio]; simpa [T.io] using h
      cases c1 with
      | nil =>
        simp only [par_nil] at b1 ⊢
        walk_at "aw"
        exact hfin
      | cons d c1 =>
        have hnd := W1.nn
        cases d with
        | L d nd' pd rd =>
          refine o0_3 (fun c1' c2 c3 => ?_) (W1.cc)
          simp only [par_L] at b1 ⊢
          walk_at "aw"
          cases rd with
          | nil =>
            simp only [root_nil] at c1' ⊢
            walk_at "aw"
            exact hfin
          | nd e ne pe le re =>
            refine o0_3 (fun e1' _ _ => ?_) (id c2)
            have heb : e ≠ b := by
              rintro rfl
              simp only [ownS, T.ads, adsC, List.nodup_cons, List.nodup_append, List.mem_cons, List.mem_append, not_or] at hnd
              exact hnd.2.2.2 e (.inl rfl) e (.inr (.inl (.inl rfl))) rfl
            simp only [root_nd] at c1' ⊢
            walk_at "aw"
            exact hfin
        | R d nd' pd ld =>
          refine o0_3 (fun c1' c2 c3 => ?_) (id W1.cc)
          simp only [root_nd] at c1'
          simp only [par_R] at b1 ⊢
          walk_at "aw"
          exact hP (c1, .nd d nd' pd ld (.nd b m q l1 r1)) _ _ ⟨rfl, wt_R.mp W1, ⟨d, rfl⟩, by walk_at "lv", hio⟩ (by simp)

theorem preceding_ok (P : Prg w C) {tr a : Addr} {c : Ctx} {n : Int} {p : V} {l r : T} (W : WT σ tr c (.nd a n p l r)) (h : Q (lastV (ioL c ++ l.io)) σ) : C (lv + 2) "preceding" [.ref a] σ Q := by
  refine P.fn rfl rfl ?_
  refine o0_3 (fun h1 h2 h3 => ?_) (id W.tt)
  walk_at "aw"
  cases l with
  | nd a' n' p' l' r' =>
    simp only [root_nd] at h1 ⊢
    walk_at "aw"
    refine rightmost_ok P h2 fun b hb => ?_
    walk_at "aw"
    obtain ⟨e1, e2⟩ := rmost_last hb
    have : lastV (ioL c ++ (T.nd a' n' p' l' r').io) = .ref b := by
      unfold lastV at e1 ⊢
      rw [List.reverse_append]
      cases q : (T.nd a' n' p' l' r').io.reverse with
      | nil => exact absurd (List.reverse_eq_nil_iff.mp q) e2
      | cons x xs => rw [q] at e1; exact e1
    rw [← this]; exact h
  | nil =>
    simp only [root_nil] at h1 ⊢
    walk_at "aw"
    refine while_ind (α := Ctx × T) (fun x => x.1.length) (fun x ρ σ1 => σ1 = σ ∧ WT σ tr x.1 x.2 ∧ (∃ a, x.2.root = .ref a) ∧ ρ "node" = some x.2.root ∧ lastV (ioL x.1) = lastV (ioL c)) ?_ (c, .nd a n p .nil r) _ _ ⟨rfl, W, ⟨a, rfl⟩, rfl, rfl⟩
    rintro ⟨c1, t1⟩ ρ σ1 PP ⟨rfl, W1, ⟨a1, ha1⟩, e1, hio⟩ hP
    dsimp only at W1 ha1 e1 hio hP
    refine while_turn ?_
    cases t1 with
    | nil => cases ha1
    | nd b m q l1 r1 =>
      refine o0_3 (fun b1 b2 b3 => ?_) (id W1.tt)
      simp only [root_nd] at e1
      walk_at "aw"
      have hfin : Q (lastV (ioL c1)) σ1 := by rw [hio]; simpa [T.io] using h
      cases c1 with
      | nil =>
        simp only [par_nil] at b1 ⊢
        walk_at "aw"
        exact hfin
      | cons d c1 =>
        have hnd := W1.nn
        cases d with
        | R d nd' pd rd =>
          refine o0_3 (fun c1' c2 c3 => ?_) (W1.cc)
          have hfin' : Q (.ref d) σ1 := by
            have : lastV (ioL (.R d nd' pd rd :: c1)) = .ref d := by simp [ioL, lastV, headV]
            rw [← this]; exact hfin
          simp only [par_R] at b1 ⊢
          walk_at "aw"
          cases rd with
          | nil =>
            simp only [root_nil] at c1' ⊢
            walk_at "aw"
            exact hfin'
          | nd e ne pe le re =>
            refine o0_3 (fun e1' _ _ => ?_) (id c2)
            have heb : e ≠ b := by
              rintro rfl
              simp only [ownS, T.ads, adsC, List.nodup_cons, List.nodup_append, List.mem_cons, List.mem_append, not_or] at hnd
              exact hnd.2.2.2 e (.inl rfl) e (.inr (.inl (.inl rfl))) rfl
            simp only [root_nd] at c1' ⊢
            walk_at "aw"
            exact hfin'
        | L d nd' pd ld =>
          refine o0_3 (fun c1' c2 c3 => ?_) (id W1.cc)
          simp only [root_nd] at c1'
          simp only [par_L] at b1 ⊢
          walk_at "aw"
          exact hP (c1, .nd d nd' pd (.nd b m q l1 r1) ld) _ _ ⟨rfl, wt_L.mp W1, ⟨d, rfl⟩, by walk_at "lv", hio⟩ (by simp)

/-- where a place lies -/
theorem find_ok (P : Prg w C) {tr : Addr} {t : T} {at' : Int} (W : WT σ tr [] t) (hp : t.pos) (h0 : 0 ≤ at') (h1 : at' < t.size)
    (h : ∀ c a n p l r tup, t = plug c (.nd a n p l r) → lenR (ioL c ++ l.io) ≤ at' → at' < lenR (ioL c ++ l.io) + n → σ tup = none → Q (.ref tup) (upd σ tup (.tup [.ref a, .int (lenR (ioL c ++ l.io))]))) :
    C (lv + 3) "find_interval" [.ref tr, .int at'] σ Q := by
  refine P.fn rfl rfl ?_
  have hroot : σ tr = some (treeO t.root) := W.cc
  walk_at "aw"
  refine while_ind (α := Ctx × T) (fun x => x.2.cnt) (fun x ρ σ1 => σ1 = σ ∧ t = plug x.1 x.2 ∧ ρ "node" = some x.2.root ∧ ρ "at" = some (.int at') ∧ ρ "begin" = some (.int (lenR (ioL x.1))) ∧ lenR (ioL x.1) ≤ at' ∧ at' < lenR (ioL x.1) + x.2.size) ?_ ([], t) _ _ ⟨rfl, rfl, rfl, rfl, rfl, h0, by simpa [ioL, lenR] using h1⟩
  rintro ⟨c, s⟩ ρ σ1 PP ⟨rfl, ht, e1, e2, e3, hl, hr⟩ hP
  dsimp only at ht e1 e3 hl hr hP
  refine while_turn ?_
  subst ht
  have W1 := (wt_plug (c := []) c).mpr W
  simp only [List.append_nil] at W1
  cases s with
  | nil => simp only [T.size] at hr; omega
  | nd a n p l r =>
    refine o0_3 (fun h1 h2 h3 => ?_) (id W1.tt)
    simp only [root_nd] at e1
    simp only [T.size] at hr
    walk_at "aw"
    refine total_ok P h2 ?_
    walk_at "aw"
    refine own_ok P W1.tt ?_
    walk_at "aw"
    refine w_if (fun z => ?_) fun z => ?_
    · have z := of_decide_eq_true z
      walk_at "aw"
      exact hP (.L a n p r :: c, l) _ _ ⟨rfl, rfl, by walk_at "lv", by walk_at "lv", (by show _ = some (V.int (lenR (ioL c))); walk_at "lv"), hl, z⟩ (by simp only [T.cnt]; omega)
    · have z := of_decide_eq_false z
      have e4 : lenR (ioL c ++ l.io) = lenR (ioL c) + l.size := by rw [lenR_append, size_io]
      walk_at "aw"
      refine w_if (fun z2 => ?_) fun z2 => ?_
      · have z2 := of_decide_eq_true z2
        walk_at "aw"
        intro tup htup
        walk_at "aw"
        rw [← e4]
        exact h c a n p l r tup rfl (by omega) (by omega) htup
      · have z2 := of_decide_eq_false z2
        walk_at "aw"
        have e5 : lenR (ioL (.R a n p l :: c)) = lenR (ioL c) + l.size + n := by simp only [ioL, lenR_append, lenR_cons, size_io]; simp only [lenR, List.map_nil, List.sum_nil]; omega
        exact hP (.R a n p l :: c, r) _ _ ⟨rfl, rfl, by walk_at "lv", by walk_at "lv", (by show _ = some (V.int (lenR (ioL (.R a n p l :: c)))); rw [e5]; walk_at "lv"), (by show lenR (ioL (.R a n p l :: c)) ≤ _; omega), (by show _ < lenR (ioL (.R a n p l :: c)) + r.size; omega)⟩ (by simp only [T.cnt]; omega)
end

section
variable {w : World} {C : Nat → CL} {lv : Nat} {σ : Store} {Q : PE}

/-- one node's own length turned -/
theorem add_at (P : Prg w C) {tr a : Addr} {c : Ctx} {n k : Int} {p : V} {l r : T} (W : WT σ tr c (.nd a n p l r))
    (h : ∀ σ', WT σ' tr c (.nd a (n + k) p l r) → Keep (ownS tr c (.nd a n p l r)) σ σ' → Q .none σ') : C (lv + 1) "add_above" [.ref a, .int k] σ Q := by
  have W' := wt_L.mpr W
  refine above_ok P (c := .L a n p r :: c) W'.cc W'.nd' fun σ' z1 z2 => ?_
  have hd : ∀ x ∈ l.ads, x ∉ adsC (.L a n p r :: c) := fun x hx hy => by
    have := W'.nn
    simp only [ownS, List.nodup_cons, List.nodup_append] at this
    exact this.2.2.2 x hx x hy rfl
  have tl := W'.tt.keep z2 hd
  revert z1; refine o0_3 fun c1 c2 c3 => ?_
  refine h σ' ⟨⟨?_, tl, c2⟩, ?_, W.nn⟩ (z2.mono fun x hx => ownS_L.mp (by simp [ownS, hx]))
  · rw [c1]; congr 2; omega
  · have e : (T.nd a (n + k) p l r).size = n + (l.size + k) + r.size := by simp only [T.size]; omega
    rw [e]; exact c3

theorem setL_hole (P : Prg w C) {tr a f : Addr} {c : Ctx} {n m : Int} {p q qq : V} {r : T} (W : WT σ tr (.L a n p r :: c) .nil) (hf : σ f = some (node m q .none .none qq)) (hfo : f ∉ ownS tr (.L a n p r :: c) .nil)
    (h : ∀ σ', CX σ' tr (.ref f) 0 (.L a n p r :: c) → TR σ' (.ref a) (.nd f m q .nil .nil) → Keep [a, f] σ σ' → Q .none σ') : C (lv + 1) "set_left" [.ref a, .ref f] σ Q := by
  obtain ⟨_, ⟨h1, h2, h3⟩, hn⟩ := W
  simp only [ownS, T.ads, adsC, List.nil_append, List.mem_cons, List.mem_append, not_or] at hfo
  simp only [ownS, T.ads, adsC, List.nil_append, List.nodup_cons, List.nodup_append, List.mem_cons, List.mem_append, not_or] at hn
  obtain ⟨⟨n1, n2, n3⟩, ⟨n4, n5⟩, n6, n7, n8⟩ := hn
  refine setL_ok P (t := .nd f m q .nil .nil) (q := qq) h1 ⟨by simpa [T.size, T.root] using hf, trivial, trivial⟩ (by simp [T.ads]; exact fun e => hfo.2.1 e.symm) fun σ' z1 z2 z3 => ?_
  have z4 : Keep [a, f] σ σ' := z3.mono fun x hx => by simpa [T.ads] using hx
  refine h σ' ⟨z1, h2.keep z4 fun x hx => ?_, h3.keep z4 ?_ fun x hx => ?_⟩ z2 z4
  · simp only [List.mem_cons, List.not_mem_nil, or_false, not_or]; exact ⟨fun e => n4 (e ▸ hx), fun e => hfo.2.2.1 (e ▸ hx)⟩
  · simp only [List.mem_cons, List.not_mem_nil, or_false, not_or]; exact ⟨n1, fun e => hfo.1 e.symm⟩
  · simp only [List.mem_cons, List.not_mem_nil, or_false, not_or]; exact ⟨fun e => n5 (e ▸ hx), fun e => hfo.2.2.2 (e ▸ hx)⟩
theorem setR_hole (P : Prg w C) {tr a f : Addr} {c : Ctx} {n m : Int} {p q qq : V} {r : T} (W : WT σ tr (.R a n p r :: c) .nil) (hf : σ f = some (node m q .none .none qq)) (hfo : f ∉ ownS tr (.R a n p r :: c) .nil)
    (h : ∀ σ', CX σ' tr (.ref f) 0 (.R a n p r :: c) → TR σ' (.ref a) (.nd f m q .nil .nil) → Keep [a, f] σ σ' → Q .none σ') : C (lv + 1) "set_right" [.ref a, .ref f] σ Q := by
  obtain ⟨_, ⟨h1, h2, h3⟩, hn⟩ := W
  simp only [ownS, T.ads, adsC, List.nil_append, List.mem_cons, List.mem_append, not_or] at hfo
  simp only [ownS, T.ads, adsC, List.nil_append, List.nodup_cons, List.nodup_append, List.mem_cons, List.mem_append, not_or] at hn
  obtain ⟨⟨n1, n2, n3⟩, ⟨n4, n5⟩, n6, n7, n8⟩ := hn
  refine setR_ok P (t := .nd f m q .nil .nil) (q := qq) h1 ⟨by simpa [T.size, T.root] using hf, trivial, trivial⟩ (by simp [T.ads]; exact fun e => hfo.2.1 e.symm) fun σ' z1 z2 z3 => ?_
  have z4 : Keep [a, f] σ σ' := z3.mono fun x hx => by simpa [T.ads] using hx
  refine h σ' ⟨z1, h2.keep z4 fun x hx => ?_, h3.keep z4 ?_ fun x hx => ?_⟩ z2 z4
  · simp only [List.mem_cons, List.not_mem_nil, or_false, not_or]; exact ⟨fun e => n4 (e ▸ hx), fun e => hfo.2.2.1 (e ▸ hx)⟩
  · simp only [List.mem_cons, List.not_mem_nil, or_false, not_or]; exact ⟨n1, fun e => hfo.1 e.symm⟩
  · simp only [List.mem_cons, List.not_mem_nil, or_false, not_or]; exact ⟨fun e => n5 (e ▸ hx), fun e => hfo.2.2.2 (e ▸ hx)⟩

/-- a fresh leaf counted in: what the hole then is -/
theorem leaf_wt {tr f : Addr} {c : Ctx} {m : Int} {q : V} {σ1 σ2 : Store} (hn : (ownS tr c .nil).Nodup) (hfo : f ∉ ownS tr c .nil) (t1 : TR σ1 (par c) (.nd f m q .nil .nil)) (c2 : CX σ2 tr (.ref f) (0 + m) c) (k : Keep (adsC c) σ1 σ2) : WT σ2 tr c (.nd f m q .nil .nil) := by
  refine ⟨t1.keep k fun x hx hy => ?_, ?_, ?_⟩
  · simp only [T.ads, List.append_nil, List.mem_singleton] at hx
    subst hx
    exact hfo (by simp [ownS, hy])
  · have e1 : (T.nd f m q .nil .nil).size = 0 + m := by simp only [T.size]; omega
    rw [e1]; exact c2
  · simp only [ownS, T.ads, List.nil_append, List.append_nil, List.cons_append, List.nodup_cons, List.mem_cons, not_or] at hn hfo ⊢
    exact ⟨⟨fun e => hfo.1 e.symm, hn.1⟩, hfo.2, hn.2⟩

theorem io_lists {t : T} {xs ys : List Run} {a : Addr} {n : Int} {p : V} (h : t.io = xs ++ (a, n, p) :: ys) : ∃ c l r, t = plug c (.nd a n p l r) ∧ xs = ioL c ++ l.io ∧ ys = r.io ++ ioR c := find_ctx t xs ys a n p h

/-- the tree tr bears the runs R -/
noncomputable def HT (σ : Store) (tr : Addr) (R : List Run) : Prop := ∃ t, WT σ tr [] t ∧ t.io = R
noncomputable def ownR (tr : Addr) (R : List Run) : List Addr := tr :: R.map (·.1)
noncomputable def PosR (R : List Run) : Prop := ∀ x ∈ R, 0 < x.2.1
theorem ownS_R' {tr : Addr} {c : Ctx} {t : T} {x : Addr} : x ∈ ownS tr c t ↔ x ∈ ownR tr (plug c t).io := by
  have := ownS_plug (tr := tr) (c := []) (x := x) c (t := t)
  simp only [List.append_nil] at this
  rw [this]
  simp only [ownS, ownR, adsC, List.append_nil, List.mem_cons, ads_io]
theorem HT.at {tr : Addr} {xs ys : List Run} {a : Addr} {n : Int} {p : V} (h : HT σ tr (xs ++ (a, n, p) :: ys)) : ∃ c l r, WT σ tr c (.nd a n p l r) ∧ xs = ioL c ++ l.io ∧ ys = r.io ++ ioR c := by
  revert h; refine o1_2 fun t W e => ?_
  refine o3_3 (fun c l r rf3_ h1 h2 => ?_) (find_ctx t xs ys a n p e); subst rf3_
  have := (wt_plug (c := []) c).mpr W
  simp only [List.append_nil] at this
  exact ⟨c, l, r, this, h1, h2⟩
theorem HT.of {tr : Addr} {c : Ctx} {t : T} (W : WT σ tr c t) : HT σ tr (plug c t).io := ⟨_, (wt_plug (c := []) c).mp (by simpa using W), rfl⟩
theorem HT.inst {tr : Addr} {R : List Run} (h : HT σ tr R) {x : Addr} (hx : x ∈ ownR tr R) : ∃ o, σ x = some o ∧ isI o = true := by
  revert h; refine o1_2 fun t W rf2_ => ?_; subst rf2_
  exact W.inst (ownS_R'.mpr (by simpa [plug] using hx))
theorem HT.off {tr : Addr} {R : List Run} (W : HT σ tr R) {x : Addr} {o : Option O} (h : σ x = o) (ho : o.all isI = false ∨ o = none) : x ∉ ownR tr R := fun hx => by
  refine o1_2 (fun o' h1 h2 => ?_) (W.inst hx)
  rw [h1] at h
  subst h
  rcases ho with ho | ho
  · simp [h2] at ho
  · cases ho
theorem HT.keep {σ' : Store} {tr : Addr} {R : List Run} {S : List Addr} (W : HT σ tr R) (k : Keep S σ σ') (h : ∀ x ∈ ownR tr R, x ∉ S) : HT σ' tr R := by
  revert W; refine o1_2 fun t W rf2_ => ?_; subst rf2_
  exact ⟨t, W.keep k fun x hx => h x (by simpa [plug] using ownS_R'.mp hx), rfl⟩
theorem HT.upd {tr : Addr} {R : List Run} (W : HT σ tr R) {a : Addr} {o : O} (h : a ∉ ownR tr R) : HT (Mine.upd σ a o) tr R := W.keep Keep.upd fun x hx => by simp only [List.mem_singleton]; rintro rfl; exact h hx
theorem HT.nd {tr : Addr} {R : List Run} (h : HT σ tr R) : (ownR tr R).Nodup := by
  revert h; refine o1_2 fun t W rf2_ => ?_; subst rf2_
  have := W.nn
  simp only [ownS, ownR, adsC, List.append_nil, List.nodup_cons, ads_io, nodup_io] at this ⊢
  exact this

theorem behind_ok (P : Prg w C) {tr a f : Addr} {xs ys : List Run} {n m : Int} {p q qq : V} (H : HT σ tr (xs ++ (a, n, p) :: ys)) (hf : σ f = some (node m q .none .none qq)) (hfo : f ∉ ownR tr (xs ++ (a, n, p) :: ys))
    (hp : PosR (xs ++ (a, n, p) :: ys)) (hm : 0 < m) (hs : lenR (xs ++ (a, n, p) :: ys) + m ≤ 1000)
    (h : ∀ σ', HT σ' tr (xs ++ (a, n, p) :: (f, m, q) :: ys) → Keep (f :: ownR tr (xs ++ (a, n, p) :: ys)) σ σ' → Q .none σ') : C (lv + 6) "put_behind" [.ref tr, .ref a, .ref f] σ Q := by
  refine P.fn rfl rfl ?_
  refine o3_3 (fun c l r W rf4_ rf5_ => ?_) (H.at); subst rf4_; subst rf5_
  refine o0_3 (fun h1 h2 h3 => ?_) (id W.tt)
  have hio : (ioL c ++ l.io ++ (a, n, p) :: (r.io ++ ioR c)) = (plug c (.nd a n p l r)).io := by rw [plug_io]; simp [T.io]
  have hfo' : ∀ c' t', plug c' t' = plug c (.nd a n p l r) → f ∉ ownS tr c' t' := fun c' t' e hx => hfo (by rw [hio, ← e]; exact ownS_R'.mp hx)
  -- what is left when the leaf hangs at the hole c'
  have rest : ∀ (c' : Ctx), plug c' .nil = plug c (.nd a n p l r) → WT σ tr c' .nil → ioL c' = ioL c ++ l.io ++ [(a, n, p)] → ioR c' = r.io ++ ioR c →
      ∀ σ1, CX σ1 tr (.ref f) 0 c' → TR σ1 (par c') (.nd f m q .nil .nil) → Keep (f :: adsC c') σ σ1 →
      ∀ σ2, CX σ2 tr (.ref f) (0 + m) c' → Keep (adsC c') σ1 σ2 → ∀ Q2 : PE, (∀ σ', Q .none σ' → Q2 .none σ') → C (lv + 5) "settle_up" [.ref tr, par c'] σ2 Q2 := by
    intro c' e W' eL eR σ1 x1 y1 k1 σ2 x2 k2 Q2 hQ2
    have W2 := leaf_wt W'.nn (hfo' _ _ e) y1 x2 k2
    have eio : (plug c' (.nd f m q .nil .nil)).io = ioL c ++ l.io ++ (a, n, p) :: (f, m, q) :: (r.io ++ ioR c) := by rw [plug_io, eL, eR]; simp [T.io]
    refine up_ok P W2 ?_ ?_ fun t' σ3 W3 e3 k3 => ?_
    · rw [pos_io, eio]
      intro z hz
      simp only [List.mem_append, List.mem_cons] at hz
      rcases hz with (hz | hz) | rfl | rfl | hz | hz
      · exact hp z (by simp [hz])
      · exact hp z (by simp [hz])
      · exact hp (a, n, p) (by simp)
      · exact hm
      · exact hp z (by simp [hz])
      · exact hp z (by simp [hz])
    · rw [size_io, eio]
      simp only [lenR_append, lenR_cons] at hs ⊢
      omega
    · refine hQ2 _ (h σ3 ⟨t', W3, e3.trans eio⟩ ?_)
      have s1 : ∀ x, x ∈ adsC c' → x ∈ f :: ownR tr (ioL c ++ l.io ++ (a, n, p) :: (r.io ++ ioR c)) := fun x hx => by
        rw [hio, ← e]; exact .tail _ (ownS_R'.mp (by simp [ownS, hx]))
      refine (k1.mono fun x hx => ?_).tr ((k2.mono s1).tr (k3.mono fun x hx => ?_))
      · rcases List.mem_cons.mp hx with rfl | hx
        · exact .head _
        · exact s1 x hx
      · have := ownS_R'.mp hx
        rw [eio] at this
        simp only [ownR, List.map_append, List.map_cons, List.mem_cons, List.mem_append] at this ⊢
        grind
  walk_at "aw"
  cases r with
  | nil =>
    simp only [root_nil] at h1 ⊢
    walk_at "aw"
    have W' : WT σ tr (.R a n p l :: c) .nil := wt_R.mpr W
    refine setR_hole P W' hf (hfo' _ _ rfl) fun σ1 x1 y1 k1 => ?_
    refine ⟨trivial, ?_⟩
    have y1' := y1.1
    walk_at "aw"
    refine above_ok P (c := .R a n p l :: c) x1 W'.nd' fun σ2 x2 k2 => ?_
    rw [show (0 : Int) + (m + T.nil.size + T.nil.size) = 0 + m by simp only [T.size]; omega] at x2
    have y2 := k2 _ _ (fun hx => hfo' (.R a n p l :: c) .nil rfl (by simp [ownS, hx])) y1'
    refine ⟨by simp [noRef], ?_⟩
    walk_at "aw"
    refine rest (.R a n p l :: c) rfl W' (by simp [ioL]) (by simp [ioR, T.io]) σ1 x1 y1 (k1.mono fun x hx => ?_) σ2 x2 k2 _ fun σ' hq => ?_
    · simp only [List.mem_cons, List.not_mem_nil, or_false] at hx
      rcases hx with rfl | rfl
      · simp [adsC]
      · simp
    · refine ⟨trivial, ?_⟩
      walk_at "aw"
      exact hq
  | nd a' n' p' l' r' =>
    simp only [root_nd] at h1 ⊢
    walk_at "aw"
    refine leftmost_ok P rfl h3 fun b hb => ?_
    walk_at "aw"
    refine o4_2 (fun c2 nb pb r2 e2 eL2 => ?_) (lmost_spec hb)
    have W1 : WT σ tr (.R a n p l :: c) (plug c2 (.nd b nb pb .nil r2)) := by rw [← e2]; exact wt_R.mpr W
    have W2 := (wt_plug c2).mpr W1
    have W' : WT σ tr (.L b nb pb r2 :: (c2 ++ .R a n p l :: c)) .nil := wt_L.mpr W2
    have ep : plug (.L b nb pb r2 :: (c2 ++ .R a n p l :: c)) .nil = plug c (.nd a n p l (.nd a' n' p' l' r')) := by
      show plug (c2 ++ .R a n p l :: c) (.nd b nb pb .nil r2) = _
      rw [plug_append, ← e2]; rfl
    have app : ∀ c2 c3 : Ctx, ioL (c2 ++ c3) = ioL c3 ++ ioL c2 ∧ ioR (c2 ++ c3) = ioR c2 ++ ioR c3 := by
      intro c2 c3
      induction c2 with
      | nil => simp [ioL, ioR]
      | cons d c2 ih => cases d <;> simp [ioL, ioR, ih]
    have eL : ioL (.L b nb pb r2 :: (c2 ++ .R a n p l :: c)) = ioL c ++ l.io ++ [(a, n, p)] := by
      simp only [ioL, (app c2 _).1, eL2, List.append_nil, List.append_assoc]
    have eR : ioR (.L b nb pb r2 :: (c2 ++ .R a n p l :: c)) = (T.nd a' n' p' l' r').io ++ ioR c := by
      rw [e2, plug_io, eL2]
      simp only [ioR, (app c2 _).2, T.io, List.nil_append, List.append_assoc, List.cons_append]
    refine setL_hole P W' hf (hfo' _ _ ep) fun σ1 x1 y1 k1 => ?_
    refine ⟨trivial, ?_⟩
    have y1' := y1.1
    walk_at "aw"
    refine above_ok P (c := .L b nb pb r2 :: (c2 ++ .R a n p l :: c)) x1 W'.nd' fun σ2 x2 k2 => ?_
    rw [show (0 : Int) + (m + T.nil.size + T.nil.size) = 0 + m by simp only [T.size]; omega] at x2
    have y2 := k2 _ _ (fun hx => hfo' (.L b nb pb r2 :: (c2 ++ .R a n p l :: c)) .nil ep (by simp [ownS, hx])) y1'
    refine ⟨by simp [noRef], ?_⟩
    walk_at "aw"
    refine rest (.L b nb pb r2 :: (c2 ++ .R a n p l :: c)) ep W' eL eR σ1 x1 y1 (k1.mono fun x hx => ?_) σ2 x2 k2 _ fun σ' hq => ?_
    · simp only [List.mem_cons, List.not_mem_nil, or_false] at hx
      rcases hx with rfl | rfl
      · simp [adsC]
      · simp
    · refine ⟨trivial, ?_⟩
      walk_at "aw"
      exact hq
end

section
variable {w : World} {C : Nat → CL} {lv : Nat} {σ : Store} {Q : PE}

theorem ahead_ok (P : Prg w C) {tr a f : Addr} {xs ys : List Run} {n m : Int} {p q qq : V} (H : HT σ tr (xs ++ (a, n, p) :: ys)) (hf : σ f = some (node m q .none .none qq)) (hfo : f ∉ ownR tr (xs ++ (a, n, p) :: ys))
    (hp : PosR (xs ++ (a, n, p) :: ys)) (hm : 0 < m) (hs : lenR (xs ++ (a, n, p) :: ys) + m ≤ 1000)
    (h : ∀ σ', HT σ' tr (xs ++ (f, m, q) :: (a, n, p) :: ys) → Keep (f :: ownR tr (xs ++ (a, n, p) :: ys)) σ σ' → Q .none σ') : C (lv + 7) "put_ahead" [.ref tr, .ref a, .ref f] σ Q := by
  refine P.fn rfl rfl ?_
  refine o3_3 (fun c l r W e1 e2 => ?_) (H.at)
  walk_at "aw"
  refine preceding_ok P W ?_
  walk_at "aw"
  rw [← e1]
  rcases List.eq_nil_or_concat xs with rfl | ⟨xs', ⟨b, nb, pb⟩, rfl⟩
  · -- the first
    have hl : l = .nil ∧ ioL c = [] := by
      have := List.append_eq_nil_iff.mp e1.symm
      refine ⟨?_, this.1⟩
      cases l with
      | nil => rfl
      | nd _ _ _ _ _ => simp [T.io] at this
    obtain ⟨rfl, eL⟩ := hl
    subst e2
    simp only [List.nil_append] at hfo hp hs h
    have hio : ((a, n, p) :: (r.io ++ ioR c)) = (plug c (.nd a n p .nil r)).io := by rw [plug_io, eL]; simp [T.io]
    have W' : WT σ tr (.L a n p r :: c) .nil := wt_L.mpr W
    show cmpW .IsNot .none .none _ _
    walk_at "aw"
    have hfo' : f ∉ ownS tr (.L a n p r :: c) .nil := fun hx => hfo (by rw [hio]; exact ownS_R'.mp hx)
    refine setL_hole P W' hf hfo' fun σ1 x1 y1 k1 => ?_
    refine ⟨trivial, ?_⟩
    have y1' := y1.1
    walk_at "aw"
    refine above_ok P (c := .L a n p r :: c) x1 W'.nd' fun σ2 x2 k2 => ?_
    rw [show (0 : Int) + (m + T.nil.size + T.nil.size) = 0 + m by simp only [T.size]; omega] at x2
    refine ⟨by simp [noRef], ?_⟩
    walk_at "aw"
    have W2 := leaf_wt W'.nn hfo' y1 x2 k2
    have eio : (plug (.L a n p r :: c) (.nd f m q .nil .nil)).io = (f, m, q) :: (a, n, p) :: (r.io ++ ioR c) := by rw [plug_io]; simp [T.io, ioL, ioR, eL]
    refine up_ok P W2 ?_ ?_ fun t' σ3 W3 e3 k3 => ?_
    · rw [pos_io, eio]
      intro z hz
      rcases List.mem_cons.mp hz with rfl | hz
      · exact hm
      · exact hp z hz
    · rw [size_io, eio]
      simp only [lenR_cons] at hs ⊢
      omega
    · refine ⟨by simp [noRef], ?_⟩
      walk_at "aw"
      refine h σ3 ⟨t', W3, e3.trans eio⟩ ?_
      have s1 : ∀ x, x ∈ adsC (.L a n p r :: c) → x ∈ f :: ownR tr ((a, n, p) :: (r.io ++ ioR c)) := fun x hx => by
        rw [hio]; exact .tail _ ((ownS_R' (tr := tr) (c := .L a n p r :: c) (t := .nil)).mp (by simp [ownS, hx]))
      refine (k1.mono fun x hx => ?_).tr ((k2.mono s1).tr (k3.mono fun x hx => ?_))
      · simp only [List.mem_cons, List.not_mem_nil, or_false] at hx
        rcases hx with rfl | rfl
        · exact s1 _ (by simp [adsC])
        · exact .head _
      · have := ownS_R'.mp hx
        rw [eio] at this
        simp only [ownR, List.map_append, List.map_cons, List.mem_cons, List.mem_append] at this ⊢
        grind
  · have eV : lastV (xs'.concat (b, nb, pb)) = .ref b := by simp [lastV, headV]
    rw [eV]
    simp only [List.concat_eq_append, List.append_assoc, List.cons_append, List.nil_append] at H hfo hp hs h
    walk_at "aw"
    refine behind_ok P H hf hfo hp hm hs fun σ' z1 z2 => ?_
    refine ⟨trivial, ?_⟩
    walk_at "aw"
    exact h σ' z1 z2

/-- what a cut at a place makes of the runs -/
inductive Cut (σ : Store) (at' : Int) : List Run → List Run → Prop
  | same {R : List Run} : Cut σ at' R R
  | cut {xs ys : List Run} {a f : Addr} {n : Int} {p : V} : lenR xs < at' → at' < lenR xs + n → σ f = none → Cut σ at' (xs ++ (a, n, p) :: ys) (xs ++ (a, at' - lenR xs, p) :: (f, lenR xs + n - at', p) :: ys)
/-- a place that is no run's inside -/
noncomputable def Bd (at' : Int) (R : List Run) : Prop := ∃ xs ys, R = xs ++ ys ∧ lenR xs = at'

theorem tl_ok (P : Prg w C) {tr : Addr} {R : List Run} (H : HT σ tr R) (h : Q (.int (lenR R)) σ) : C (lv + 2) "text_length" [.ref tr] σ Q := by
  refine P.fn rfl rfl ?_
  revert H; refine o1_2 fun t W rf2_ => ?_; subst rf2_
  have h1 : σ tr = some (treeO t.root) := W.cc
  walk_at "aw"
  refine total_ok P W.tt ?_
  walk_at "aw"
  rw [size_io]; exact h

theorem upd_upd {a : Addr} {o o' : O} : upd (upd σ a o) a o' = upd σ a o' := by
  funext x
  unfold upd
  split <;> rfl
theorem interval_ok (P : Prg w C) {n : Int} {p : V} (h : ∀ f, σ f = none → Q (.ref f) (upd σ f (node n p .none .none .none))) : C (lv + 1) "Interval" [.int n, p] σ Q := by
  refine P.cls rfl rfl fun f hf => ?_
  have e0 : ∀ o : O, upd σ f o f = some o := fun o => upd_self
  walk_at "aw"
  refine w_set (e0 _) rfl rfl (Nat.le_of_ble_eq_true rfl) ?_
  rw [upd_upd]
  walk_at "aw"
  refine w_set (e0 _) rfl rfl (Nat.le_of_ble_eq_true rfl) ?_
  rw [upd_upd]
  walk_at "aw"
  refine w_set (e0 _) rfl rfl (Nat.le_of_ble_eq_true rfl) ?_
  rw [upd_upd]
  walk_at "aw"
  refine w_set (e0 _) rfl rfl (Nat.le_of_ble_eq_true rfl) ?_
  rw [upd_upd]
  walk_at "aw"
  refine w_set (e0 _) rfl rfl (Nat.le_of_ble_eq_true rfl) ?_
  rw [upd_upd]
  walk_at "aw"
  exact ⟨rfl, h f hf⟩
end

section
variable {w : World} {C : Nat → CL} {lv : Nat} {σ : Store} {Q : PE}

theorem HT.fresh {σ1 : Store} {tr : Addr} {R1 : List Run} {S : List Addr} (H : HT σ1 tr R1) (k : Keep S σ σ1) (hS : ∀ x ∈ S, x ∈ ownR tr R1 ∨ σ x = none) {f : Addr} (hf : σ1 f = none) : σ f = none := by
  cases q : σ f with
  | none => rfl
  | some o =>
    by_cases hm : f ∈ S
    · rcases hS f hm with h | h
      · refine o1_2 (fun o' h1 _ => ?_) (H.inst h)
        rw [hf] at h1; cases h1
      · rw [q] at h; cases h
    · have := k f o hm q
      rw [hf] at this; cases this
theorem HT.io {tr : Addr} {c : Ctx} {a : Addr} {n : Int} {p : V} {l r : T} (W : WT σ tr c (.nd a n p l r)) : HT σ tr (ioL c ++ l.io ++ (a, n, p) :: (r.io ++ ioR c)) := by
  have := HT.of W
  rwa [plug_io, show ioL c ++ ((T.nd a n p l r).io ++ ioR c) = ioL c ++ l.io ++ (a, n, p) :: (r.io ++ ioR c) by simp [T.io]] at this
theorem PosR.app {xs ys : List Run} (h : PosR (xs ++ ys)) : PosR xs ∧ PosR ys := ⟨fun x hx => h x (List.mem_append_left _ hx), fun x hx => h x (List.mem_append_right _ hx)⟩

theorem findR_ok (P : Prg w C) {tr : Addr} {R : List Run} {at' : Int} (H : HT σ tr R) (hp : PosR R) (h0 : 0 ≤ at') (h1 : at' < lenR R)
    (h : ∀ xs a n p ys tup c l r, R = xs ++ (a, n, p) :: ys → WT σ tr c (.nd a n p l r) → xs = ioL c ++ l.io → ys = r.io ++ ioR c → lenR xs ≤ at' → at' < lenR xs + n → σ tup = none → Q (.ref tup) (upd σ tup (.tup [.ref a, .int (lenR xs)]))) :
    C (lv + 3) "find_interval" [.ref tr, .int at'] σ Q := by
  revert H; refine o1_2 fun t W rf2_ => ?_; subst rf2_
  refine find_ok P W ((pos_io t).mpr hp) h0 (by rw [size_io]; exact h1) fun c a n p l r tup e z1 z2 z3 => ?_
  subst e
  have W' := (wt_plug (c := []) c).mpr W
  simp only [List.append_nil] at W'
  exact h _ a n p _ tup c l r (by rw [plug_io]; simp [T.io]) W' rfl rfl z1 z2 z3

theorem split_ok (P : Prg w C) {tr : Addr} {R : List Run} {at' : Int} (H : HT σ tr R) (hp : PosR R) (hs : lenR R ≤ 1000)
    (h : ∀ σ' R', HT σ' tr R' → Cut σ at' R R' → Keep (ownR tr R) σ σ' → (0 ≤ at' → at' ≤ lenR R → Bd at' R') → Q .none σ') : C (lv + 7) "split_at" [.ref tr, .int at'] σ Q := by
  refine P.fn rfl rfl ?_
  have out : ¬ (0 < at' ∧ at' < lenR R) → Q .none σ := fun hn => h σ R H .same (Keep.refl _ _) fun g1 g2 => by
    by_cases h0 : at' = 0
    · exact ⟨[], R, rfl, by rw [h0]; rfl⟩
    · exact ⟨R, [], by simp, by omega⟩
  walk_at "aw"
  refine w_if (fun z => ?_) fun z => ?_
  · have z := of_decide_eq_true z
    walk_at "aw"
    refine tl_ok P H ?_
    walk_at "aw"
    refine w_if (fun z2 => ?_) fun z2 => ?_
    · have z2 : ¬ at' < lenR R := by simpa using z2
      walk_at "aw"
      exact out fun q => z2 q.2
    · have z2 : at' < lenR R := by simpa using z2
      walk_at "aw"
      refine findR_ok P H hp (by omega) z2 fun xs a n p ys tup c l r eR W eL eY g1 g2 g3 => ?_
      have W1 : WT (upd σ tup (.tup [.ref a, .int (lenR xs)])) tr c (.nd a n p l r) := W.upd (W.off g3 (.inr rfl))
      have k1 : Keep (ownR tr R) σ (upd σ tup (.tup [.ref a, .int (lenR xs)])) := (Keep.refl _ _).new g3
      have tt1 : upd σ tup (.tup [.ref a, .int (lenR xs)]) tup = some (.tup [.ref a, .int (lenR xs)]) := upd_self
      generalize upd σ tup (.tup [.ref a, .int (lenR xs)]) = σ1 at *
      walk_at "aw"
      refine g_Tup tt1 rfl ?_
      refine g_cons (g_Name ?_)
      refine g_cons (g_Name ?_)
      refine g_nil ?_
      walk_at "aw"
      have HR1 : HT σ1 tr R := by
        have := HT.io W1
        rwa [← eL, ← eY, ← eR] at this
      refine w_if (fun z3 => ?_) fun z3 => ?_
      · have z3 : lenR xs = at' := by simpa using z3
        walk_at "aw"
        exact h σ1 R HR1 .same k1 fun _ _ => ⟨xs, (a, n, p) :: ys, eR, z3⟩
      · have z3 : lenR xs ≠ at' := by simpa using z3
        walk_at "aw"
        refine own_ok P W1.tt ?_
        walk_at "aw"
        refine add_at P W1 fun σ2 W2 k2 => ?_
        have h2 := W2.tt.1
        refine ⟨trivial, ?_⟩
        walk_at "aw"
        refine interval_ok P fun f hf => ?_
        have H2 : HT σ2 tr (xs ++ (a, n + (0 - (n - (at' - lenR xs))), p) :: ys) := by
          have := HT.io W2
          rwa [← eL, ← eY] at this
        have e1 : n + (0 - (n - (at' - lenR xs))) = at' - lenR xs := by omega
        have e2 : n - (at' - lenR xs) = lenR xs + n - at' := by omega
        rw [e1] at H2
        rw [e2]
        have own2 : ∀ x, x ∈ ownS tr c (.nd a n p l r) ↔ x ∈ ownR tr (xs ++ (a, at' - lenR xs, p) :: ys) := fun x => by
          rw [ownS_R', plug_io, eL, eY]
          simp [ownR, T.io]
        have ownR' : ∀ x, x ∈ ownR tr R ↔ x ∈ ownR tr (xs ++ (a, at' - lenR xs, p) :: ys) := fun x => by rw [eR]; simp [ownR]
        have k12 : Keep (ownR tr R) σ σ2 := k1.tr (k2.mono fun x hx => (ownR' x).mpr ((own2 x).mp hx))
        have hfσ : σ f = none := H2.fresh k12 (fun x hx => .inl ((ownR' x).mp hx)) hf
        have hfo := H2.off hf (.inr rfl)
        have H3 : HT (upd σ2 f (node (lenR xs + n - at') p .none .none .none)) tr _ := H2.upd hfo
        walk_at "aw"
        have hpR := hp
        rw [eR] at hpR
        have hp2 : PosR (xs ++ (a, at' - lenR xs, p) :: ys) := by
          intro z hz
          rcases List.mem_append.mp hz with hz | hz
          · exact hpR z (List.mem_append_left _ hz)
          · rcases List.mem_cons.mp hz with rfl | hz
            · show 0 < at' - lenR xs; omega
            · exact hpR z (List.mem_append_right _ (.tail _ hz))
        refine behind_ok P H3 upd_self hfo hp2 (by omega) ?_ fun σ3 H4 k4 => ?_
        · rw [eR] at hs
          simp only [lenR_append, lenR_cons] at hs ⊢
          omega
        refine ⟨trivial, ?_⟩
        walk_at "aw"
        have hcut : Cut σ at' R (xs ++ (a, at' - lenR xs, p) :: (f, lenR xs + n - at', p) :: ys) := by rw [eR]; exact .cut (by omega) g2 hfσ
        refine h σ3 _ H4 hcut ?_ fun _ _ => ⟨xs ++ [(a, at' - lenR xs, p)], (f, lenR xs + n - at', p) :: ys, by simp, by simp [lenR_append, lenR_cons]; simp [lenR]; omega⟩
        intro x o hx hxo
        have hxf : x ≠ f := fun e => by rw [e, hfσ] at hxo; cases hxo
        refine k4 x o (fun hm => ?_) ((k12.new hfσ) x o hx hxo)
        rcases List.mem_cons.mp hm with e | hm
        · exact hxf e
        · exact hx ((ownR' x).mpr hm)
  · have z := of_decide_eq_false z
    walk_at "aw"
    exact out fun q => z q.1
end

noncomputable def parI : Ctx → V → V
  | [], q => q
  | .L a .. :: _, _ => .ref a
  | .R a .. :: _, _ => .ref a
noncomputable def CXi (σ : Store) (q v : V) (m : Int) : Ctx → Prop
  | [] => True
  | .L a n p r :: c => σ a = some (node (n + m + r.size) p v r.root (parI c q)) ∧ TR σ (.ref a) r ∧ CXi σ q (.ref a) (n + m + r.size) c
  | .R a n p l :: c => σ a = some (node (n + l.size + m) p l.root v (parI c q)) ∧ TR σ (.ref a) l ∧ CXi σ q (.ref a) (n + l.size + m) c
theorem tr_plug {σ : Store} {q : V} : ∀ {c : Ctx} {t : T}, TR σ q (plug c t) ↔ TR σ (parI c q) t ∧ CXi σ q t.root t.size c
  | [], t => by simp [plug, parI, CXi]
  | .L a n p r :: c, t => by
    show TR σ q (plug c (.nd a n p t r)) ↔ _
    rw [tr_plug (c := c)]
    constructor
    · rintro ⟨⟨h1, h2, h3⟩, h4⟩; exact ⟨h2, h1, h3, h4⟩
    · rintro ⟨h2, h1, h3, h4⟩; exact ⟨⟨h1, h2, h3⟩, h4⟩
  | .R a n p l :: c, t => by
    show TR σ q (plug c (.nd a n p l t)) ↔ _
    rw [tr_plug (c := c)]
    constructor
    · rintro ⟨⟨h1, h2, h3⟩, h4⟩; exact ⟨h3, h1, h2, h4⟩
    · rintro ⟨h3, h1, h2, h4⟩; exact ⟨⟨h1, h2, h3⟩, h4⟩
theorem CXi.keep {S : List Addr} {σ σ' : Store} {q : V} (k : Keep S σ σ') : ∀ {c : Ctx} {v : V} {m : Int}, CXi σ q v m c → (∀ x ∈ adsC c, x ∉ S) → CXi σ' q v m c
  | [], _, _, _, _ => trivial
  | .L a n p r :: c, v, m, ⟨h1, h2, h3⟩, hd => ⟨k a _ (hd a (by simp [adsC])) h1, h2.keep k fun x hx => hd x (by simp [adsC, hx]), CXi.keep k h3 fun x hx => hd x (by simp [adsC, hx])⟩
  | .R a n p r :: c, v, m, ⟨h1, h2, h3⟩, hd => ⟨k a _ (hd a (by simp [adsC])) h1, h2.keep k fun x hx => hd x (by simp [adsC, hx]), CXi.keep k h3 fun x hx => hd x (by simp [adsC, hx])⟩
theorem perm_plug : ∀ {c : Ctx} {t : T}, (plug c t).ads.Perm (t.ads ++ adsC c)
  | [], t => by rw [plug, adsC, List.append_nil]
  | .L a n p r :: c, t => (perm_plug (c := c) (t := .nd a n p t r)).trans permL.symm
  | .R a n p l :: c, t => (perm_plug (c := c) (t := .nd a n p l t)).trans permR.symm
theorem ads_plug {x : Addr} {c : Ctx} {t : T} : x ∈ (plug c t).ads ↔ x ∈ t.ads ∨ x ∈ adsC c := perm_plug.mem_iff.trans List.mem_append
theorem nodup_plug {c : Ctx} {t : T} : (plug c t).ads.Nodup ↔ (t.ads ++ adsC c).Nodup := perm_plug.nodup_iff
section
variable {w : World} {C : Nat → CL} {lv : Nat} {σ : Store} {Q : PE}

/-- the loop of drop_interval: what hangs below is counted in -/
theorem inner_add {cl : CL} {t : Expr} {bb : List Stmt} {n : Nat} {QS : PS} {q : V} {l0 : Addr} {k : Int} {pk lk rk qk : V} {c : Ctx} {v : V} {m : Int} {ρ0 : AEnv} {Post : Store → Prop}
    (hstep : ∀ (a : Addr) (ρ : AEnv) (σ1 : Store) (P : AEnv → Store → Prop) (T0 : Int) (p l r q1 : V), ρ "here" = some (.ref a) → ρ "moved" = some (.ref l0) → ρ "above" = some q → σ1 a = some (node T0 p l r q1) → σ1 l0 = some (node k pk lk rk qk) → (q = .none ∨ ∃ d, q = .ref d ∧ instAt σ1 d ∧ d ≠ a) →
      (∀ ρ', ρ' "here" = some q1 → ρ' "moved" = some (.ref l0) → ρ' "above" = some q → ρ' "tree" = ρ "tree" → P ρ' (upd σ1 a (node (T0 + k) p l r q1))) →
      whileStep (fun ρ σ k => awpT cl 20 t ρ σ k) (blkW (awpS cl n) bb) P ρ σ1 QS)
    (hend : ∀ (ρ : AEnv) (σ1 : Store) (P : AEnv → Store → Prop), ρ "here" = some q → ρ "moved" = some (.ref l0) → ρ "above" = some q → ρ "tree" = ρ0 "tree" → (q = .none ∨ ∃ d, q = .ref d ∧ instAt σ1 d) → Post σ1 → whileStep (fun ρ σ k => awpT cl 20 t ρ σ k) (blkW (awpS cl n) bb) P ρ σ1 QS)
    (hc : CXi σ q v m c) (hn : (adsC c).Nodup) (e1 : ρ0 "here" = some (parI c q)) (e2 : ρ0 "moved" = some (.ref l0)) (e3 : ρ0 "above" = some q) (hl0 : σ l0 = some (node k pk lk rk qk)) (hl : l0 ∉ adsC c) (hq : q = .none ∨ ∃ d, q = .ref d ∧ instAt σ d ∧ d ∉ adsC c)
    (hfin : ∀ σ', CXi σ' q v (m + k) c → Keep (adsC c) σ σ' → Post σ') :
    whileW (fun ρ σ k => awpT cl 20 t ρ σ k) (blkW (awpS cl n) bb) ρ0 σ QS := by
  refine while_ind (α := Ctx) List.length (fun c ρ σ1 => ∃ v m, CXi σ1 q v m c ∧ (adsC c).Nodup ∧ ρ "here" = some (parI c q) ∧ ρ "moved" = some (.ref l0) ∧ ρ "above" = some q ∧ ρ "tree" = ρ0 "tree" ∧ σ1 l0 = some (node k pk lk rk qk) ∧ l0 ∉ adsC c ∧ (q = .none ∨ ∃ d, q = .ref d ∧ instAt σ1 d ∧ d ∉ adsC c) ∧ ∀ σ', CXi σ' q v (m + k) c → Keep (adsC c) σ1 σ' → Post σ') ?_ c _ _ ⟨v, m, hc, hn, e1, e2, e3, rfl, hl0, hl, hq, hfin⟩
  clear hc hn e1 e2 e3 hl0 hl hq hfin
  rintro c ρ σ1 PP ⟨v, m, hc, hn, e1, e2, e3, e4, hl0, hl, hq, hfin⟩ hP
  cases c with
  | nil => exact hend ρ σ1 PP e1 e2 e3 e4 (hq.imp id fun ⟨d, h1, h2, _⟩ => ⟨d, h1, h2⟩) (hfin σ1 trivial (Keep.refl _ _))
  | cons d c =>
    have gen : ∀ (a : Addr) (T0 : Int) (p l r : V) (rest : T), parI (d :: c) q = .ref a → adsC (d :: c) = a :: (rest.ads ++ adsC c) → σ1 a = some (node T0 p l r (parI c q)) → TR σ1 (.ref a) rest → CXi σ1 q (.ref a) T0 c →
        (∀ σ', σ' a = some (node (T0 + k) p l r (parI c q)) → TR σ' (.ref a) rest → CXi σ' q (.ref a) (T0 + k) c → CXi σ' q v (m + k) (d :: c)) → whileStep (fun ρ σ k => awpT cl 20 t ρ σ k) (blkW (awpS cl n) bb) PP ρ σ1 QS := by
      intro a T0 p l r rest ha had h1 h2 h3 hmk
      rw [had] at hn hl hfin hq
      simp only [List.nodup_cons, List.nodup_append, List.mem_cons, List.mem_append, not_or] at hn hl
      obtain ⟨⟨n1, n2⟩, n3, n4, n5⟩ := hn
      rw [ha] at e1
      refine hstep a ρ σ1 PP T0 p l r _ e1 e2 e3 h1 hl0 (hq.imp id fun ⟨d, z1, z2, z3⟩ => ⟨d, z1, z2, fun e => z3 (by rw [e]; exact .head _)⟩) fun ρ' r1 r2 r3 r4 => ?_
      have K := Keep.upd (σ := σ1) (a := a) (o := node (T0 + k) p l r (parI c q))
      have hs : upd σ1 a (node (T0 + k) p l r (parI c q)) a = some (node (T0 + k) p l r (parI c q)) := upd_self
      have h2' := h2.keep K fun x hx => by simp only [List.mem_singleton]; rintro rfl; exact n1 hx
      have h3' := h3.keep K fun x hx => by simp only [List.mem_singleton]; rintro rfl; exact n2 hx
      refine hP c ρ' _ ⟨.ref a, T0, h3', n4, r1, r2, r3, r4.trans e4, upd_at hl.1 hl0, hl.2.2, hq.imp id fun ⟨d, z1, z2, z3⟩ => ⟨d, z1, ?_, fun h => z3 (by simp [h])⟩, fun σ' z1 z2 => ?_⟩ (by simp)
      · refine hfin σ' (hmk σ' (z2 a _ n2 hs) (h2'.keep z2 fun x hx hy => n5 x hx x hy rfl) z1) ?_
        exact (K.mono (by intro x hx; simp only [List.mem_singleton] at hx; simp [hx])).tr (z2.mono (by intro x hx; simp [hx]))
      · revert z2; refine o2_1 fun Cc fs z2 => ?_
        exact ⟨Cc, fs, upd_at (fun e => z3 (by rw [e]; exact .head _)) z2⟩
    cases d with
    | L a n p r =>
      revert hc; refine o0_3 fun h1 h2 h3 => ?_
      exact gen a _ p v r.root r rfl rfl h1 h2 h3 fun σ' z1 z2 z3 => ⟨by rw [z1, show n + (m + k) + r.size = n + m + r.size + k by omega], z2, by rw [show n + (m + k) + r.size = n + m + r.size + k by omega]; exact z3⟩
    | R a n p l =>
      revert hc; refine o0_3 fun h1 h2 h3 => ?_
      exact gen a _ p l.root v l rfl rfl h1 h2 h3 fun σ' z1 z2 z3 => ⟨by rw [z1, show n + l.size + (m + k) = n + l.size + m + k by omega], z2, by rw [show n + l.size + (m + k) = n + l.size + m + k by omega]; exact z3⟩
end

section
variable {w : World} {C : Nat → CL} {lv : Nat} {σ : Store} {Q : PE}

theorem plug_size' {x y : T} : ∀ c : Ctx, (plug c x).size - x.size = (plug c y).size - y.size
  | [] => by simp [plug]
  | .L a n p r :: c => by
    have := plug_size' (x := .nd a n p x r) (y := .nd a n p y r) c
    simp only [T.size, plug] at this ⊢; omega
  | .R a n p l :: c => by
    have := plug_size' (x := .nd a n p l x) (y := .nd a n p l y) c
    simp only [T.size, plug] at this ⊢; omega
theorem lm_root {b : Addr} {nb : Int} {pb : V} {x r3 : T} : ∀ {c2 : Ctx}, (plug (.L b nb pb r3 :: c2) x).root = (plug c2 (.nd b nb pb .nil r3)).root
  | [] => rfl
  | d :: c2 => by
    refine o1_2 (fun dd _ hd => ?_) (root_plug (d :: c2) (by simp))
    show (plug (d :: c2) (.nd b nb pb x r3)).root = _
    rw [hd, hd]
theorem lm_size {b : Addr} {nb : Int} {pb : V} {x r3 : T} {c2 : Ctx} : (plug (.L b nb pb r3 :: c2) x).size = x.size + (plug c2 (.nd b nb pb .nil r3)).size := by
  show (plug c2 (.nd b nb pb x r3)).size = _
  have := plug_size' (x := .nd b nb pb x r3) (y := .nd b nb pb .nil r3) c2
  simp only [T.size] at this
  omega
theorem par_or {σ : Store} {tr : Addr} {v : V} {m : Int} : ∀ {c : Ctx}, CX σ tr v m c → par c = .none ∨ ∃ d, par c = .ref d ∧ d ∈ adsC c ∧ instAt σ d
  | [], _ => .inl rfl
  | .L d .. :: _, h => .inr ⟨d, rfl, .head _, inst_node h.1⟩
  | .R d .. :: _, h => .inr ⟨d, rfl, .head _, inst_node h.1⟩
theorem drop_ok (P : Prg w C) {tr a : Addr} {c : Ctx} {n : Int} {p : V} {l r : T} (W : WT σ tr c (.nd a n p l r)) (hp : (plug c (.nd a n p l r)).pos) (hs : (plug c (.nd a n p l r)).size ≤ 1000)
    (h : ∀ t' σ', WT σ' tr [] t' → t'.io = ioL c ++ l.io ++ (r.io ++ ioR c) → Keep (ownS tr c (.nd a n p l r)) σ σ' → Q .none σ') : C (lv + 6) "drop_interval" [.ref tr, .ref a] σ Q := by
  refine P.fn rfl rfl ?_
  refine o0_3 (fun h1 h2 h3 => ?_) (id W.tt)
  obtain ⟨htr0, hn1⟩ := List.nodup_cons.mp W.nn
  refine o0_3 (fun hnA hcnd hda => ?_) (nda_inv hn1)
  obtain ⟨haA, hlr⟩ := List.nodup_cons.mp hnA
  refine o0_3 (fun hnl hnr hdlr => ?_) (nda_inv hlr)
  have htr : tr ∉ (T.nd a n p l r).ads ∧ tr ∉ adsC c := ⟨fun q => htr0 (List.mem_append_left _ q), fun q => htr0 (List.mem_append_right _ q)⟩
  have memL : ∀ {x}, x ∈ l.ads → x ∈ (T.nd a n p l r).ads := fun q => .tail _ (List.mem_append_left _ q)
  have memR : ∀ {x}, x ∈ r.ads → x ∈ (T.nd a n p l r).ads := fun q => .tail _ (List.mem_append_right _ q)
  walk_at "aw"
  refine own_ok P W.tt ?_
  walk_at "aw"
  refine above_ok P W.cc W.nd' fun σ1 c1 k1 => ?_
  have t1 := W.tt.keep k1 hda
  have hac : a ∉ adsC c := hda a (.head _)
  have hal : a ∉ l.ads := fun q => haA (List.mem_append_left _ q)
  have har : a ∉ r.ads := fun q => haA (List.mem_append_right _ q)
  have hpio : ∀ t' : T, t'.io = ioL c ++ l.io ++ (r.io ++ ioR c) → t'.pos ∧ t'.size ≤ 1000 := by
    intro t' e
    have hp' := (pos_io _).mp hp
    rw [plug_io] at hp'
    have hpn := hp' (a, n, p) (by simp [T.io])
    constructor
    · rw [pos_io, e]
      intro z hz
      exact hp' z (by simp only [T.io, List.mem_append, List.mem_cons] at hz ⊢; rcases hz with (hz | hz) | hz | hz <;> simp [hz])
    · rw [size_io, plug_io] at hs
      rw [size_io, e]
      simp only [T.io, lenR_append, lenR_cons] at hs ⊢
      simp only at hpn
      omega
  have hsz : (T.nd a n p l r).size + (0 - n) = l.size + r.size := by simp only [T.size]; omega
  rw [hsz] at c1
  refine o0_3 (fun h1' h2' h3' => ?_) (id t1)
  clear h1 h2 h3
  refine ⟨trivial, ?_⟩
  -- one son at most
  have rest : ∀ t' : T, (t'.ads.Nodup ∧ tr ∉ t'.ads ∧ (∀ x ∈ t'.ads, x ∈ (T.nd a n p l r).ads) ∧ t'.size = l.size + r.size ∧ t'.io = l.io ++ r.io ∧ TR σ1 (.ref a) t' ∧ a ∉ t'.ads) → ∀ Q2 : PE, (∀ σ', Q .none σ' → Q2 .none σ') →
      C (lv + 5) "put_in_stead" [.ref tr, .ref a, t'.root] σ1 fun v σ₁ => noRef v ∧ C (lv + 5) "settle_up" [.ref tr, par c] σ₁ Q2 := by
    rintro t' ⟨g1, g2, g3, g4, g5, g6, g7⟩ Q2 hQ2
    have hnd : (tr :: (t'.ads ++ adsC c)).Nodup := ndc (nma g2 htr.2) (nda g1 hcnd fun x hx => hda x (g3 x hx))
    refine stead_ok P c1 h1' g6 hnd hac g7 fun σ2 c2 t2 k2 => ?_
    refine ⟨trivial, ?_⟩
    rw [← g4] at c2
    have W2 : WT σ2 tr c t' := ⟨t2, c2, hnd⟩
    have eio : (plug c t').io = ioL c ++ l.io ++ (r.io ++ ioR c) := by rw [plug_io, g5]; simp
    obtain ⟨z1, z2⟩ := hpio _ eio
    refine up_ok P W2 z1 z2 fun t3 σ3 W3 e3 k3 => hQ2 _ (h t3 σ3 W3 (e3.trans eio) ?_)
    have sub : Sb (ownS tr c (.nd a n p l r)) (tr :: (t'.ads ++ adsC c)) := Sb.c (.head _) (.a (fun x hx => .tail _ (List.mem_append_left _ (g3 x hx))) fun x hx => .tail _ (List.mem_append_right _ hx))
    exact (k1.mono fun x hx => .tail _ (List.mem_append_right _ hx)).tr ((k2.mono sub).tr (k3.mono sub))
  walk_at "aw"
  have nilOk : ∀ {x y : T}, x = .nil → (y.size = x.size + y.size ∧ y.io = x.io ++ y.io) ∧ y.size = y.size + x.size ∧ y.io = y.io ++ x.io := fun e => by rw [e]; simp [T.size, T.io]
  rcases root_or l with eL | ⟨a1, hL⟩
  · have r1 := rest r ⟨hnr, (fun q => htr.1 (memR q)), (fun x hx => memR hx), (nilOk eL).1.1, (nilOk eL).1.2, h3', har⟩
    have hL : l.root = .none := congrArg T.root eL
    rw [hL] at h1' ⊢
    walk_at "aw"
    rcases root_or r with eR | ⟨a2, hR⟩
    · have hR : r.root = .none := congrArg T.root eR
      rw [hR] at h1' r1 ⊢
      walk_at "aw"
      refine r1 _ fun σ' hq => ?_
      refine ⟨trivial, ?_⟩
      walk_at "aw"
      exact hq
    · rw [hR] at h1' r1 ⊢
      walk_at "aw"
      refine r1 _ fun σ' hq => ?_
      refine ⟨trivial, ?_⟩
      walk_at "aw"
      exact hq
  · rcases root_or r with eR | ⟨a2, hR⟩
    · have r1 := rest l ⟨hnl, (fun q => htr.1 (memL q)), (fun x hx => memL hx), (nilOk eR).2.1, (nilOk eR).2.2, h2', hal⟩
      have hR : r.root = .none := congrArg T.root eR
      rw [hL, hR] at h1'
      rw [hL] at r1 ⊢
      walk_at "aw"
      refine r1 _ fun σ' hq => ?_
      refine ⟨trivial, ?_⟩
      walk_at "aw"
      exact hq
    · have h1n := h1'
      rw [hL, hR] at h1n
      rw [hL]
      walk_at "aw"
      refine leftmost_ok P hR h3' fun b hb => ?_
      clear h1n
      walk_at "aw"
      refine o4_2 (fun c2 nb pb r3 er2 eL2 => ?_) (lmost_spec hb)
      have dlc : ∀ x ∈ l.ads, x ∉ adsC c := fun x hx => hda x (memL hx)
      have drc : ∀ x ∈ r.ads, x ∉ adsC c := fun x hx => hda x (memR hx)
      have trl : tr ∉ l.ads := fun q => htr.1 (memL q)
      have trr : tr ∉ r.ads := fun q => htr.1 (memR q)
      refine stead_ok P c1 h1' h3' ?_ hac har fun σ2 c2' t2 k2 => ?_
      · exact ndc (nma trr htr.2) (nda hnr hcnd drc)
      refine ⟨trivial, ?_⟩
      have l2' := h2'.keep k2 (Dj.cons trl (Dj.app hdlr dlc))
      have t2' : TR σ2 (par c) (plug c2 (.nd b nb pb .nil r3)) := er2 ▸ t2
      obtain ⟨⟨b1, _, b3⟩, i2⟩ := tr_plug.mp t2'
      have adsr : ∀ x, x ∈ r.ads ↔ x = b ∨ x ∈ r3.ads ∨ x ∈ adsC c2 := fun x => by rw [er2, ads_plug]; simp [T.ads, or_assoc]
      obtain ⟨qb, q34⟩ := List.nodup_cons.mp (show (b :: (r3.ads ++ adsC c2)).Nodup from (nodup_plug (t := .nd b nb pb .nil r3)).mp (er2 ▸ hnr))
      refine o0_3 (fun q3 q4 q5 => ?_) (nda_inv q34)
      have q1 : b ∉ r3.ads := fun q => qb (List.mem_append_left _ q)
      have q2 : b ∉ adsC c2 := fun q => qb (List.mem_append_right _ q)
      walk_at "aw"
      rw [← hL]
      refine setL_ok P b1 l2' (ndc (fun q => hdlr b q ((adsr b).mpr (.inl rfl))) hnl) fun σ3 b1' l3 k3 => ?_
      have off3 : ∀ x, x ≠ b → x ∉ l.ads → x ∉ b :: l.ads := fun x h1 h2 h3 => by
        rcases List.mem_cons.mp h3 with h | h
        · exact h1 h
        · exact h2 h
      have b3' := b3.keep k3 fun x hx => off3 x (fun e => q1 (e ▸ hx)) fun hy => hdlr x hy ((adsr x).mpr (.inr (.inl hx)))
      have i3 := i2.keep k3 fun x hx => off3 x (fun e => q2 (e ▸ hx)) fun hy => hdlr x hy ((adsr x).mpr (.inr (.inr hx)))
      have c3 := c2'.keep k3 (off3 tr (fun e => trr ((adsr tr).mpr (.inl e))) trl) fun x hx => off3 x (fun e => drc b ((adsr b).mpr (.inl rfl)) (e ▸ hx)) fun hy => dlc x hy hx
      refine ⟨trivial, ?_⟩
      walk_at "aw"
      refine o3_1 (fun pk lk rk hl0 => ?_) (root_at hL l3)
      have ha1 : a1 ∈ l.ads := root_mem hL
      have ez : nb + 0 + r3.size = (T.nd b nb pb .nil r3).size := rfl
      have hci : CXi σ3 (par c) l.root 0 (.L b nb pb r3 :: c2) := ⟨by rw [b1']; rfl, b3', by rw [ez]; exact i3⟩
      have hbc : b ∉ adsC c := drc b ((adsr b).mpr (.inl rfl))
      have hr3c : ∀ x ∈ r3.ads, x ∉ adsC c := fun x hx => drc x ((adsr x).mpr (.inr (.inl hx)))
      have hc2c : ∀ x ∈ adsC c2, x ∉ adsC c := fun x hx => drc x ((adsr x).mpr (.inr (.inr hx)))
      have hbl : b ∉ l.ads := fun q => hdlr b q ((adsr b).mpr (.inl rfl))
      have hr3l : ∀ x ∈ l.ads, x ∉ r3.ads := fun x hx hy => hdlr x hx ((adsr x).mpr (.inr (.inl hy)))
      have hc2l : ∀ x ∈ l.ads, x ∉ adsC c2 := fun x hx hy => hdlr x hx ((adsr x).mpr (.inr (.inr hy)))
      have hadL : ∀ x, x ∈ adsC (.L b nb pb r3 :: c2) ↔ x = b ∨ x ∈ r3.ads ∨ x ∈ adsC c2 := fun x => by simp [adsC]
      refine inner_add (q := par c) (l0 := a1) (k := l.size) (c := .L b nb pb r3 :: c2)
        (Post := fun σ4 => WT σ4 tr c (plug (.L b nb pb r3 :: c2) l) ∧ Keep (ownS tr c (.nd a n p l r)) σ σ4 ∧ ∃ pk lk rk, σ4 a1 = some (node l.size pk lk rk (.ref b))) ?_ ?_ hci ?_ (by walk_at "lv") (by rw [← hL]; walk_at "lv") (by walk_at "lv") hl0 ?_ ?_ ?_
      · -- one turn
        intro a' ρ σ5 PP T0 p' l' r' q' e1 e2 e3 g1 g2 gq hP
        refine while_turn ?_
        walk_at "aw"
        have body : ∀ Q3 : PS, (∀ ρ', ρ' "here" = some q' → ρ' "moved" = some (.ref a1) → ρ' "above" = some (par c) → ρ' "tree" = ρ "tree" → Q3 .next ρ' (upd σ5 a' (node (T0 + l.size) p' l' r' q'))) → True := fun _ _ => trivial
        rcases gq with gq | ⟨d, gq, gd, gne⟩
        · rw [gq]
          rw [gq] at hP
          walk_at "aw"
          refine hP _ (by walk_at "lv") (by walk_at "lv") (by rw [← gq]; walk_at "lv") ?_
          exact setE_ne rfl rfl
        · rw [gq]
          rw [gq] at hP
          refine w_isnRR (inst_node g1) gd ?_
          refine w_ifnne (Ne.symm gne) ?_
          walk_at "aw"
          refine hP _ (by walk_at "lv") (by walk_at "lv") (by rw [← gq]; walk_at "lv") ?_
          exact setE_ne rfl rfl
      · -- the end
        rintro ρ σ5 PP e1 e2 e3 e4 gq ⟨W4, k4, pk, lk, rk, g1⟩
        refine while_turn ?_
        have e5 : ρ "tree" = some (.ref tr) := e4.trans (by walk_at "lv")
        clear e4
        have W5 := (wt_plug (c := c) (.L b nb pb r3 :: c2)).mpr W4
        have eio : (plug ((.L b nb pb r3 :: c2) ++ c) l).io = ioL c ++ l.io ++ (r.io ++ ioR c) := by
          rw [plug_append, plug_io, plug_io, er2, plug_io, eL2]
          simp [ioL, ioR, eL2, T.io]
        obtain ⟨z1, z2⟩ := hpio _ eio
        have fin : ∀ Q2 : PE, (∀ σ', Q .none σ' → Q2 .none σ') → C (lv + 5) "settle_up" [.ref tr, .ref b] σ5 Q2 := fun Q2 hQ2 =>
          up_ok P (c := (.L b nb pb r3 :: c2) ++ c) W5 z1 z2 fun t' σ6 W6 e6 k6 => hQ2 _ (h t' σ6 W6 (e6.trans eio) (k4.tr (k6.mono fun x hx => by
            have := ownS_R'.mp hx
            rw [eio] at this
            refine ownS_R'.mpr ?_
            rw [plug_io]
            simp only [ownR, T.io, List.map_append, List.map_cons, List.mem_cons, List.mem_append] at this ⊢
            grind)))
        walk_at "aw"
        rcases gq with gq | ⟨d, gq, gd⟩
        · rw [gq]
          walk_at "aw"
          refine fin _ fun σ' hq => ?_
          refine ⟨trivial, ?_⟩
          walk_at "aw"
          exact hq
        · rw [gq]
          refine w_isnRR gd gd ?_
          walk_at "aw"
          refine fin _ fun σ' hq => ?_
          refine ⟨trivial, ?_⟩
          walk_at "aw"
          exact hq
      · exact ndc (nma q1 q2) (nda q3 q4 q5)
      · rw [hadL]
        rintro (rfl | hx | hx)
        · exact hbl ha1
        · exact hr3l a1 ha1 hx
        · exact hc2l a1 ha1 hx
      · refine (par_or c3).imp id (o1_3 fun d q1 q2 q3 => ⟨d, q1, q3, fun hx => ?_⟩)
        rcases (hadL d).mp hx with e | hx | hx
        · exact hbc (e ▸ q2)
        · exact hr3c d hx q2
        · exact hc2c d hx q2
      · intro σ4 i4 k4
        have l4 := l3.keep k4 fun x hx hy => by
          rcases (hadL x).mp hy with rfl | hy | hy
          · exact hbl hx
          · exact hr3l x hx hy
          · exact hc2l x hx hy
        rw [show (0 : Int) + l.size = l.size by omega] at i4
        have t4 : TR σ4 (par c) (plug (.L b nb pb r3 :: c2) l) := tr_plug.mpr ⟨l4, i4⟩
        have c4 := c3.keep k4 (fun hy => by
          rcases (hadL tr).mp hy with e | hy | hy
          · exact trr ((adsr tr).mpr (.inl e))
          · exact trr ((adsr tr).mpr (.inr (.inl hy)))
          · exact trr ((adsr tr).mpr (.inr (.inr hy)))) fun x hx hy => by
          rcases (hadL x).mp hy with rfl | hy | hy
          · exact hbc hx
          · exact hr3c x hy hx
          · exact hc2c x hy hx
        have er : (plug (.L b nb pb r3 :: c2) l).root = r.root := er2 ▸ lm_root
        have es : (plug (.L b nb pb r3 :: c2) l).size = l.size + r.size := er2 ▸ lm_size
        rw [← er, ← es] at c4
        have k0 : Keep (ownS tr c (.nd a n p l r)) σ σ4 := by
          have sb : ∀ x, x = b ∨ x ∈ r3.ads ∨ x ∈ adsC c2 → x ∈ ownS tr c (.nd a n p l r) := fun x hx => by
            have := (adsr x).mpr hx
            simp [ownS, T.ads, this]
          refine (k1.mono fun x hx => by simp [ownS, hx]).tr ((k2.mono fun x hx => ?_).tr ((k3.mono fun x hx => ?_).tr (k4.mono fun x hx => sb x ((hadL x).mp hx))))
          · simp only [List.mem_cons, List.mem_append] at hx
            rcases hx with rfl | hx | hx
            · simp [ownS]
            · exact sb x ((adsr x).mp hx)
            · simp [ownS, hx]
          · rcases List.mem_cons.mp hx with rfl | hx
            · exact sb _ (.inl rfl)
            · simp [ownS, T.ads, hx]
        refine ⟨⟨t4, c4, ?_⟩, k0, pk, lk, rk, k4 _ _ (fun hy => ?_) hl0⟩
        · have pn : (plug (.L b nb pb r3 :: c2) l).ads.Nodup := nodup_plug.mpr (nda hnl (ndc (nma q1 q2) (nda q3 q4 q5)) (Dj.cons hbl (Dj.app hr3l hc2l)))
          have pm : ∀ y, y ∉ l.ads → y ≠ b → y ∉ r3.ads → y ∉ adsC c2 → y ∉ (plug (.L b nb pb r3 :: c2) l).ads := fun y z1 z2 z3 z4 q => (ads_plug.mp q).elim z1 (nmc z2 (nma z3 z4))
          refine ndc (nma (pm tr trl (fun e => trr ((adsr tr).mpr (.inl e))) (fun e => trr ((adsr tr).mpr (.inr (.inl e)))) fun e => trr ((adsr tr).mpr (.inr (.inr e)))) htr.2) (nda pn hcnd fun x hx hy => ?_)
          exact pm x (fun q => dlc x q hy) (fun e => hbc (e ▸ hy)) (fun q => hr3c x q hy) (fun q => hc2c x q hy) hx
        · rcases (hadL a1).mp hy with e | hy | hy
          · exact hbl (e ▸ ha1)
          · exact hr3l a1 ha1 hy
          · exact hc2l a1 ha1 hy
end

section
variable {w : World} {C : Nat → CL} {lv : Nat} {σ : Store} {Q : PE}

theorem lenR_nonneg {R : List Run} (h : PosR R) : 0 ≤ lenR R := by
  induction R with
  | nil => exact Int.le_refl _
  | cons x R ih =>
    rw [lenR_cons]
    have := ih fun y hy => h y (.tail _ hy)
    have := h x (.head _)
    omega
theorem Cut.len {at' : Int} {R R' : List Run} (h : Cut σ at' R R') : lenR R' = lenR R := by
  cases h with
  | same => rfl
  | cut h1 h2 h3 => simp only [lenR_append, lenR_cons]; omega
theorem Cut.pos {at' : Int} {R R' : List Run} (h : Cut σ at' R R') (hp : PosR R) : PosR R' := by
  cases h with
  | same => exact hp
  | @cut xs ys a f n p h1 h2 h3 =>
    intro z hz
    simp only [List.mem_append, List.mem_cons] at hz
    rcases hz with hz | rfl | rfl | hz
    · exact hp z (by simp [hz])
    · show 0 < at' - lenR xs; omega
    · show 0 < lenR xs + n - at'; omega
    · exact hp z (by simp [hz])
theorem Cut.ads {at' : Int} {tr : Addr} {R R' : List Run} (h : Cut σ at' R R') : ∀ x, x ∈ ownR tr R' → x ∈ ownR tr R ∨ σ x = none := by
  intro x hx
  cases h with
  | same => exact .inl hx
  | cut h1 h2 h3 =>
    simp only [ownR, List.map_append, List.map_cons, List.mem_cons, List.mem_append] at hx ⊢
    rcases hx with hx | hx | hx | rfl | hx
    · exact .inl (.inl hx)
    · exact .inl (.inr (.inl hx))
    · exact .inl (.inr (.inr (.inl hx)))
    · exact .inr h3
    · exact .inl (.inr (.inr (.inr hx)))
theorem Cut.sub {at' : Int} {tr : Addr} {R R' : List Run} (h : Cut σ at' R R') : ∀ x, x ∈ ownR tr R → x ∈ ownR tr R' := by
  intro x hx
  cases h with
  | same => exact hx
  | cut h1 h2 h3 =>
    simp only [ownR, List.map_append, List.map_cons, List.mem_cons, List.mem_append] at hx ⊢
    rcases hx with hx | hx | hx | hx
    · exact .inl hx
    · exact .inr (.inl hx)
    · exact .inr (.inr (.inl hx))
    · exact .inr (.inr (.inr (.inr hx)))
theorem Cut.back {at' : Int} {σ1 : Store} {R R' : List Run} (h : Cut σ1 at' R R') (hb : ∀ x, σ1 x = none → σ x = none) : Cut σ at' R R' := by
  cases h with
  | same => exact .same
  | cut h1 h2 h3 => exact .cut h1 h2 (hb _ h3)
theorem Cut.ne {at' : Int} {R R' : List Run} (h : Cut σ at' R R') (hb : R ≠ []) : R' ≠ [] := by
  cases h with
  | same => exact hb
  | cut h1 h2 h3 => simp
theorem Keep.none {S S1 : List Addr} {σ1 σ2 : Store} (k : Keep S σ σ1) (k1 : Keep S1 σ1 σ2) (h : ∀ x ∈ S1, x ∈ S ∨ σ x = none) : Keep S σ σ2 := fun x o hx e => by
  refine k1 x o (fun hm => ?_) (k x o hx e)
  rcases h x hm with h | h
  · exact hx h
  · rw [e] at h; cases h

theorem insert_ok (P : Prg w C) {tr : Addr} {R : List Run} {at' m : Int} {q : V} (H : HT σ tr R) (hp : PosR R) (hm : 0 < m) (hs : lenR R + m ≤ 1000) (h0 : 0 ≤ at') (h1 : at' ≤ lenR R)
    (h : ∀ σ' R' xs ys f, Cut σ at' R R' → R' = xs ++ ys → lenR xs = at' → σ f = none → HT σ' tr (xs ++ (f, m, q) :: ys) → Keep (ownR tr R) σ σ' → Q .none σ') : C (lv + 8) "insert_interval" [.ref tr, .int at', .int m, q] σ Q := by
  refine P.fn rfl rfl ?_
  have hmz : (m == 0) = false := by simp; omega
  walk_at "aw"
  rw [hmz]
  walk_at "aw"
  refine interval_ok P fun f hf => ?_
  have hfo := H.off hf (.inr rfl)
  have H1 : HT (upd σ f (node m q .none .none .none)) tr R := H.upd hfo
  have k1 : Keep (ownR tr R) σ (upd σ f (node m q .none .none .none)) := (Keep.refl _ _).new hf
  have f1 : upd σ f (node m q .none .none .none) f = some (node m q .none .none .none) := upd_self
  generalize upd σ f (node m q .none .none .none) = σ1 at *
  refine o1_2 (fun t W rf2_ => ?_) (id H1); subst rf2_
  have ht : σ1 tr = some (treeO t.root) := W.cc
  cases t with
  | nil =>
    simp only [root_nil] at ht
    walk_at "aw"
    have e : lenR T.nil.io = 0 := rfl
    rw [e] at h1
    refine h _ [] [] [] f .same rfl (by show (0 : Int) = at'; omega) hf ⟨.nd f m q .nil .nil, ⟨⟨?_, trivial, trivial⟩, upd_self, ?_⟩, rfl⟩ ?_
    · have hne : f ≠ tr := fun e => hfo (by rw [e]; simp [ownR])
      rw [upd_ne hne, f1]; congr 2; simp only [T.size]; omega
    · have hne : tr ≠ f := fun e => hfo (by rw [← e]; simp [ownR])
      simp [ownS, T.ads, adsC, hne]
    · exact k1.tr (Keep.upd.mono fun x hx => by simp only [List.mem_singleton] at hx; simp [hx, ownR])
  | nd a0 n0 p0 l0 r0 =>
    generalize hR : (T.nd a0 n0 p0 l0 r0).io = R at *
    have hRne : R ≠ [] := by rw [← hR]; simp [T.io]
    clear W hR
    simp only [root_nd] at ht
    walk_at "aw"
    refine split_ok P H1 hp (by omega) fun σ2 R' H2 hcut k2 hb => ?_
    refine o2_2 (fun xs ys rf2_ hxs => ?_) (hb h0 h1); subst rf2_
    have hp2 := hcut.pos hp
    have hl2 := hcut.len
    have f2 := k2 _ _ hfo f1
    have hcut0 : Cut σ at' R (xs ++ ys) := hcut.back fun x hx => H1.fresh k1 (fun x hx => .inl hx) hx
    have hfo2 : f ∉ ownR tr (xs ++ ys) := fun hx => by
      rcases hcut.ads f hx with h | h
      · exact hfo h
      · rw [f1] at h; cases h
    have ksub : Keep (ownR tr R) σ σ2 := k1.tr k2
    have kfin : ∀ σ3, Keep (f :: ownR tr (xs ++ ys)) σ2 σ3 → Keep (ownR tr R) σ σ3 := fun σ3 k3 => ksub.none k3 fun x hx => by
      rcases List.mem_cons.mp hx with rfl | hx
      · exact .inr hf
      · exact hcut0.ads x hx
    refine ⟨trivial, ?_⟩
    walk_at "aw"
    refine tl_ok P H2 ?_
    walk_at "aw"
    refine w_if (fun z => ?_) fun z => ?_
    · -- at the end
      have z : at' = lenR (xs ++ ys) := by simpa using z
      have hys : ys = [] := by
        have := lenR_nonneg (hp2.app).2
        cases ys with
        | nil => rfl
        | cons y ys =>
          exfalso
          have h1 := (hp2.app).2 y (.head _)
          have h2 := lenR_nonneg (R := ys) fun z hz => (hp2.app).2 z (.tail _ hz)
          rw [lenR_append, lenR_cons] at z
          omega
      subst hys
      refine o1_2 (fun t2 W2 e2 => ?_) (id H2)
      have ht2 : σ2 tr = some (treeO t2.root) := W2.cc
      cases t2 with
      | nil =>
        exfalso
        have hR0 : xs ++ [] ≠ [] := by
          exact hcut0.ne hRne
        exact hR0 e2.symm
      | nd a1 n1 p1 l1 r1 =>
        simp only [root_nd] at ht2
        walk_at "aw"
        refine rightmost_ok P W2.tt fun b hb => ?_
        walk_at "aw"
        refine o4_2 (fun c2 nb pb lb eb eR => ?_) (rmost_spec hb)
        have exs : xs = ioL c2 ++ lb.io ++ (b, nb, pb) :: [] := by
          rw [eb, plug_io, eR] at e2
          simpa [T.io] using e2.symm
        simp only [List.append_nil] at H2 hp2 hl2 hfo2 kfin
        rw [exs] at H2 hp2 hl2 hfo2 kfin
        refine behind_ok P H2 f2 hfo2 hp2 hm (by rw [hl2]; exact hs) fun σ3 H3 k3 => ?_
        refine ⟨trivial, ?_⟩
        walk_at "aw"
        refine h σ3 _ xs [] f hcut0 rfl hxs hf ?_ (kfin σ3 k3)
        rw [exs]
        simpa using H3
    · have z : at' ≠ lenR (xs ++ ys) := by simpa using z
      walk_at "aw"
      refine findR_ok P H2 hp2 h0 (by omega) fun xs' a n p ys' tup c l r e W3 eL eY g1 g2 g3 => ?_
      have hys : xs = xs' ∧ ys = (a, n, p) :: ys' := by
        have hl : lenR xs' = lenR xs := by
          rcases List.append_eq_append_iff.mp e with ⟨zs, z1, z2⟩ | ⟨zs, z1, z2⟩
          · subst z1
            rw [z2] at hp2
            have := lenR_nonneg (R := zs) fun z hz => hp2 z (by simp [hz])
            rw [lenR_append] at g1
            rw [lenR_append]
            omega
          · cases zs with
            | nil => simp at z1; rw [z1]
            | cons z zs =>
              exfalso
              simp only [List.cons_append, List.cons.injEq] at z2
              obtain ⟨rfl, z2⟩ := z2
              rw [z1] at hxs hp2
              have := lenR_nonneg (R := zs) fun z hz => hp2 z (by simp [hz])
              rw [lenR_append, lenR_cons] at hxs
              simp only at hxs
              omega
        rcases List.append_eq_append_iff.mp e with ⟨zs, z1, z2⟩ | ⟨zs, z1, z2⟩
        · subst z1
          cases zs with
          | nil => simp at z2; exact ⟨by simp, z2⟩
          | cons z zs =>
            exfalso
            rw [z2] at hp2
            have h1 := hp2 z (by simp)
            have := lenR_nonneg (R := zs) fun z hz => hp2 z (by simp [hz])
            rw [lenR_append, lenR_cons] at hl
            omega
        · cases zs with
          | nil => simp at z1 z2; exact ⟨z1, z2.symm⟩
          | cons z zs =>
            exfalso
            simp only [List.cons_append, List.cons.injEq] at z2
            obtain ⟨rfl, z2⟩ := z2
            rw [z1] at hl hp2
            have := lenR_nonneg (R := zs) fun z hz => hp2 z (by simp [hz])
            have h1 := hp2 (a, n, p) (by simp)
            rw [lenR_append, lenR_cons] at hl
            simp only at hl h1
            omega
      obtain ⟨rfl, rfl⟩ := hys
      have ho := W3.off g3 (.inr rfl)
      have hoR : tup ∉ ownR tr (xs ++ (a, n, p) :: ys') := H2.off g3 (.inr rfl)
      have H3 : HT (upd σ2 tup (.tup [.ref a, .int (lenR xs)])) tr _ := H2.upd hoR
      have hft : f ≠ tup := fun e => by rw [e, g3] at f2; cases f2
      have f3 : upd σ2 tup (.tup [.ref a, .int (lenR xs)]) f = _ := upd_at hft f2
      have k3 : Keep (f :: ownR tr (xs ++ (a, n, p) :: ys')) σ2 (upd σ2 tup (.tup [.ref a, .int (lenR xs)])) := (Keep.refl _ _).new g3
      walk_at "aw"
      refine w_subt (i := 0) (xs := [.ref a, .int (lenR xs)]) upd_self (Int.le_refl _) rfl ?_
      walk_at "aw"
      refine ahead_ok P H3 f3 hfo2 hp2 hm (by rw [hl2]; exact hs) fun σ4 H4 k4 => ?_
      refine ⟨trivial, ?_⟩
      walk_at "aw"
      exact h σ4 _ xs _ f hcut0 rfl hxs hf H4 (kfin σ4 (k3.tr k4))
end

/-- two places of one list of runs -/
theorem cut_two {R xs ys zs ws : List Run} (hp : PosR R) (h1 : R = xs ++ ys) (h2 : R = zs ++ ws) (hl : lenR xs ≤ lenR zs) : ∃ ms, zs = xs ++ ms ∧ ys = ms ++ ws := by
  rcases List.append_eq_append_iff.mp (h1.symm.trans h2) with ⟨ms, e1, e2⟩ | ⟨ms, e1, e2⟩
  · exact ⟨ms, e1, e2⟩
  · cases ms with
    | nil => exact ⟨[], by simpa using e1.symm, by simpa using e2.symm⟩
    | cons m ms =>
      exfalso
      rw [h1, e1] at hp
      have h3 := hp m (by simp)
      have h4 := lenR_nonneg (R := ms) fun z hz => hp z (by simp [hz])
      rw [e1, lenR_append, lenR_cons] at hl
      omega
theorem cut_one {R xs ys xs' ys' : List Run} {a : Addr} {n : Int} {p : V} (hp : PosR R) (h1 : R = xs ++ ys) (h2 : R = xs' ++ (a, n, p) :: ys') (hl : lenR xs' ≤ lenR xs) (hr : lenR xs < lenR xs' + n) : xs = xs' ∧ ys = (a, n, p) :: ys' := by
  refine o1_2 (fun ms e1 e2 => ?_) (cut_two hp h2 h1 hl)
  cases ms with
  | nil => exact ⟨by simpa using e1, by simpa using e2.symm⟩
  | cons m ms =>
    exfalso
    simp only [List.cons_append, List.cons.injEq] at e2
    obtain ⟨rfl, e2⟩ := e2
    have h4 := lenR_nonneg (R := ms) fun z hz => hp z (by rw [h1, e1]; simp [hz])
    rw [e1, lenR_append, lenR_cons] at hr
    simp only at hr
    omega
theorem Cut.app {σ : Store} {at' : Int} {xs ys R' : List Run} (h : Cut σ at' (xs ++ ys) R') : (∃ xs', Cut σ at' xs xs' ∧ R' = xs' ++ ys) ∨ (∃ ys', Cut σ (at' - lenR xs) ys ys' ∧ R' = xs ++ ys') := by
  generalize hR : xs ++ ys = R at h
  cases h with
  | same => exact .inl ⟨xs, .same, hR.symm⟩
  | @cut us ws a f n p h1 h2 h3 =>
    rcases List.append_eq_append_iff.mp hR with ⟨zs, e1, e2⟩ | ⟨zs, e1, e2⟩
    · right
      subst e1 e2
      refine ⟨zs ++ (a, at' - lenR xs - lenR zs, p) :: (f, lenR zs + n - (at' - lenR xs), p) :: ws, .cut (by rw [lenR_append] at h1; omega) (by rw [lenR_append] at h2; omega) h3, ?_⟩
      rw [lenR_append, show at' - (lenR xs + lenR zs) = at' - lenR xs - lenR zs by omega, show lenR xs + lenR zs + n - at' = lenR zs + n - (at' - lenR xs) by omega]
      simp
    · cases zs with
      | nil =>
        simp only [List.append_nil, List.nil_append] at e1 e2
        subst e1 e2
        right
        have this : lenR ([] : List Run) = 0 := rfl
        refine ⟨[] ++ (a, at' - lenR xs - lenR [], p) :: (f, lenR [] + n - (at' - lenR xs), p) :: ws, .cut (xs := []) (by omega) (by omega) h3, ?_⟩
        rw [this, show at' - lenR xs - 0 = at' - lenR xs by omega, show 0 + n - (at' - lenR xs) = lenR xs + n - at' by omega]
        simp
      | cons z zs =>
        simp only [List.cons_append, List.cons.injEq] at e2
        obtain ⟨rfl, rfl⟩ := e2
        subst e1
        left
        exact ⟨us ++ (a, at' - lenR us, p) :: (f, lenR us + n - at', p) :: zs, .cut h1 h2 h3, by simp⟩
theorem Cut.bd {σ : Store} {at' b : Int} {R R' : List Run} (h : Cut σ at' R R') (hb : Bd b R) : Bd b R' := by
  revert hb; refine o2_2 fun xs ys rf2_ e => ?_; subst rf2_
  rcases h.app with ⟨xs', c, rfl⟩ | ⟨ys', c, rfl⟩
  · exact ⟨xs', ys, rfl, c.len.trans e⟩
  · exact ⟨xs, ys', rfl, e⟩
theorem Bd.two {R : List Run} {b e : Int} (hp : PosR R) (h1 : Bd b R) (h2 : Bd e R) (hl : b ≤ e) : ∃ xs ms ys, R = xs ++ (ms ++ ys) ∧ lenR xs = b ∧ lenR ms = e - b := by
  revert h1; refine o2_2 fun xs ys e1 r1 => ?_
  revert h2; refine o2_2 fun zs ws e2 r2 => ?_
  refine o1_2 (fun ms g1 g2 => ?_) (cut_two hp e1 e2 (by omega))
  refine ⟨xs, ms, ws, by rw [e1, g2], r1, ?_⟩
  rw [g1, lenR_append] at r2
  omega

section
variable {w : World} {C : Nat → CL} {lv : Nat} {σ : Store} {Q : PE}
theorem dropR_ok (P : Prg w C) {tr a : Addr} {xs ys : List Run} {n : Int} {p : V} {c : Ctx} {l r : T} (W : WT σ tr c (.nd a n p l r)) (e1 : xs = ioL c ++ l.io) (e2 : ys = r.io ++ ioR c) (hp : PosR (xs ++ (a, n, p) :: ys)) (hs : lenR (xs ++ (a, n, p) :: ys) ≤ 1000)
    (h : ∀ σ', HT σ' tr (xs ++ ys) → Keep (ownR tr (xs ++ (a, n, p) :: ys)) σ σ' → Q .none σ') : C (lv + 6) "drop_interval" [.ref tr, .ref a] σ Q := by
  have eio : (plug c (.nd a n p l r)).io = xs ++ (a, n, p) :: ys := by rw [plug_io, e1, e2]; simp [T.io]
  refine drop_ok P W (by rw [pos_io, eio]; exact hp) (by rw [size_io, eio]; exact hs) fun t' σ' W' e' k' => ?_
  exact h σ' ⟨t', W', by rw [e', e1, e2]⟩ (k'.mono fun x hx => by rw [← eio]; exact ownS_R'.mp hx)

theorem delete_ok (P : Prg w C) {tr : Addr} {R : List Run} {b e : Int} (H : HT σ tr R) (hp : PosR R) (hs : lenR R ≤ 1000) (h0 : 0 ≤ b) (h1 : e ≤ lenR R)
    (hno : e ≤ b → Q .none σ) (h : ∀ σ' R1 R2 xs ms ys, Cut σ b R R1 → Cut σ e R1 R2 → R2 = xs ++ (ms ++ ys) → lenR xs = b → lenR ms = e - b → HT σ' tr (xs ++ ys) → Keep (ownR tr R) σ σ' → Q .none σ') : C (lv + 8) "delete_range" [.ref tr, .int b, .int e] σ Q := by
  refine P.fn rfl rfl ?_
  walk_at "aw"
  refine w_if (fun z => ?_) fun z => ?_
  · have z := of_decide_eq_true z
    walk_at "aw"
    exact hno z
  have z := of_decide_eq_false z
  walk_at "aw"
  refine split_ok P H hp hs fun σ1 R1 H1 c1 k1 b1 => ?_
  refine ⟨trivial, ?_⟩
  walk_at "aw"
  refine split_ok P H1 (c1.pos hp) (by rw [c1.len]; exact hs) fun σ2 R2 H2 c2 k2 b2 => ?_
  refine ⟨trivial, ?_⟩
  walk_at "aw"
  have p2 := c2.pos (c1.pos hp)
  refine o3_3 (fun xs ms ys eR l1 l2 => ?_) (Bd.two p2 (c2.bd (b1 h0 (by omega))) (b2 (by omega) (by rw [c1.len]; exact h1)) (by omega))
  have s2 : lenR R2 ≤ 1000 := by rw [c2.len, c1.len]; exact hs
  have c2' : Cut σ e R1 R2 := c2.back fun x hx => H1.fresh k1 (fun x hx => .inl (c1.sub x hx)) hx
  have k12 : Keep (ownR tr R) σ σ2 := k1.none k2 fun x hx => c1.ads x hx
  have own2 : ∀ x, x ∈ ownR tr R2 → x ∈ ownR tr R ∨ σ x = none := fun x hx => by
    rcases c2'.ads x hx with h | h
    · exact c1.ads x h
    · exact .inr h
  rw [← l2]
  refine while_ind (α := List Run) List.length (fun ms' ρ σ3 => ∃ zs, ms = zs ++ ms' ∧ HT σ3 tr (xs ++ (ms' ++ ys)) ∧ Keep (ownR tr R) σ σ3 ∧ ρ "tree" = some (.ref tr) ∧ ρ "begin" = some (.int b) ∧ ρ "left" = some (.int (lenR ms'))) ?_ ms _ _ ⟨[], rfl, eR ▸ H2, k12, by walk_at "lv", by walk_at "lv", by walk_at "lv"⟩
  rintro ms' ρ σ3 PP ⟨zs, rfl, H3, k3, e1, e2, e3⟩ hP
  refine while_turn ?_
  have pms : PosR (zs ++ ms') := fun z hz => p2 z (by rw [eR]; simp only [List.mem_append] at hz ⊢; exact .inr (.inl hz))
  have p3 : PosR (xs ++ (ms' ++ ys)) := fun z hz => p2 z (by rw [eR]; simp only [List.mem_append] at hz ⊢; rcases hz with hz | hz | hz <;> simp [hz])
  have s3 : lenR (xs ++ (ms' ++ ys)) ≤ 1000 := by
    have := lenR_nonneg (R := zs) pms.app.1
    rw [eR] at s2
    simp only [lenR_append] at s2 ⊢
    omega
  walk_at "aw"
  refine w_if (fun z4 => ?_) fun z4 => ?_
  · have z4 := of_decide_eq_true z4
    walk_at "aw"
    have hyn := lenR_nonneg (R := ys) fun z hz => p3 z (by simp [hz])
    refine findR_ok P H3 p3 h0 (by simp only [lenR_append]; omega) fun xs' a n p ys' tup c l r eqR W eL eY g1 g2 g3 => ?_
    obtain ⟨rfl, e5⟩ := cut_one (xs := xs) (ys := ms' ++ ys) p3 rfl eqR (by omega) (by omega)
    have hms : ∃ ms2, ms' = (a, n, p) :: ms2 ∧ ys' = ms2 ++ ys := by
      cases ms' with
      | nil => simp [lenR] at z4
      | cons m ms2 =>
        simp only [List.cons_append, List.cons.injEq] at e5
        exact ⟨ms2, by rw [e5.1], e5.2.symm⟩
    revert hms; refine o1_2 fun ms2 rf1_ e6 => ?_; subst rf1_
    have W4 := W.upd (a := tup) (o := .tup [.ref a, .int (lenR xs)]) (W.off g3 (.inr rfl))
    have ktup : Keep (ownR tr R) σ (upd σ3 tup (.tup [.ref a, .int (lenR xs)])) := k3.tr' g3
    walk_at "aw"
    refine w_subt (i := 0) (xs := [.ref a, .int (lenR xs)]) upd_self (Int.le_refl _) rfl ?_
    walk_at "aw"
    refine own_ok P W4.tt ?_
    walk_at "aw"
    have e7 : xs ++ ((a, n, p) :: ms2 ++ ys) = xs ++ (a, n, p) :: ys' := by rw [e6]; simp
    rw [e7] at p3 s3
    refine dropR_ok P W4 eL eY p3 s3 fun σ5 H5 k5 => ?_
    refine ⟨trivial, ?_⟩
    walk_at "aw"
    refine hP ms2 _ _ ⟨zs ++ [(a, n, p)], by simp, by rw [← e6]; exact H5, ktup.none k5 fun x hx => own2 x ?_, by walk_at "lv", by walk_at "lv", ?_⟩ (by simp)
    · rw [eR]
      simp only [ownR, e6, List.map_append, List.map_cons, List.mem_cons, List.mem_append] at hx ⊢
      grind
    · have e8 : lenR ((a, n, p) :: ms2) - n = lenR ms2 := by rw [lenR_cons]; simp only; omega
      rw [← e8]
      walk_at "lv"
  · have z4 := of_decide_eq_false z4
    have : ms' = [] := by
      cases ms' with
      | nil => rfl
      | cons m ms2 =>
        exfalso
        have h1 := pms.app.2 m (.head _)
        have h2 := lenR_nonneg (R := ms2) fun z hz => pms.app.2 z (.tail _ hz)
        rw [lenR_cons] at z4
        omega
    subst this
    walk_at "aw"
    refine h σ3 R1 R2 xs _ ys c1 c2' eR l1 l2 (by simpa using H3) k3
end

/-- what is no record stays -/
noncomputable def Imm (σ σ' : Store) : Prop := ∀ a o, σ a = some o → isI o = false → σ' a = some o
theorem Imm.refl (σ : Store) : Imm σ σ := fun _ _ h _ => h
theorem Imm.trans {σ σ1 σ2 : Store} (h : Imm σ σ1) (k : Imm σ1 σ2) : Imm σ σ2 := fun a o e i => k a o (h a o e i) i
theorem Keep.imm {S : List Addr} {σ σ' : Store} (k : Keep S σ σ') (h : ∀ x ∈ S, ∀ o, σ x = some o → isI o = true) : Imm σ σ' := fun a o e i => k a o (fun hm => by rw [h a hm o e] at i; cases i) e
theorem HT.keepImm {σ σ' : Store} {tr : Addr} {R : List Run} (H : HT σ tr R) (k : Keep (ownR tr R) σ σ') : Imm σ σ' := k.imm fun x hx o e => by
  refine o1_2 (fun o' h1 h2 => ?_) (H.inst hx)
  rw [e] at h1; cases h1; exact h2
inductive TupsAt (σ : Store) : List V → List (List V) → Prop
  | nil : TupsAt σ [] []
  | cons {a : Addr} {vs : List V} {rs : List V} {L : List (List V)} : σ a = some (.tup vs) → TupsAt σ rs L → TupsAt σ (.ref a :: rs) (vs :: L)
theorem TupsAt.imm {σ σ' : Store} (k : Imm σ σ') {rs : List V} {L : List (List V)} (h : TupsAt σ rs L) : TupsAt σ' rs L := by
  induction h with
  | nil => exact .nil
  | cons h1 _ ih => exact .cons (k _ _ h1 rfl) ih
theorem TupsAt.snoc {σ : Store} {a : Addr} {vs : List V} {rs : List V} {L : List (List V)} (h : TupsAt σ rs L) (ha : σ a = some (.tup vs)) : TupsAt σ (rs ++ [.ref a]) (L ++ [vs]) := by
  induction h with
  | nil => exact .cons ha .nil
  | cons h1 _ ih => exact .cons h1 ih
theorem TupsAt.length {σ : Store} {rs : List V} {L : List (List V)} (h : TupsAt σ rs L) : rs.length = L.length := by
  induction h with
  | nil => rfl
  | cons _ _ ih => simp [ih]
noncomputable def rowsOf : Int → List Run → List (List V)
  | _, [] => []
  | b, (_, n, p) :: R => [.int b, .int (b + n), p] :: rowsOf (b + n) R
theorem rowsOf_snoc {a : Addr} {n : Int} {p : V} : ∀ (R : List Run) (b : Int), rowsOf b (R ++ [(a, n, p)]) = rowsOf b R ++ [[.int (b + lenR R), .int (b + lenR R + n), p]]
  | [], b => by simp [rowsOf, lenR]
  | (a', n', p') :: R, b => by
    have e : b + lenR ((a', n', p') :: R) = b + n' + lenR R := by rw [lenR_cons]; simp only; omega
    rw [e]
    simp only [List.cons_append, rowsOf, rowsOf_snoc R]
theorem rowsOf_length : ∀ (R : List Run) (b : Int), (rowsOf b R).length = R.length
  | [], _ => rfl
  | (_, n, p) :: R, b => by simp [rowsOf, rowsOf_length R]
theorem len_le {R : List Run} (h : PosR R) : (R.length : Int) ≤ lenR R := by
  induction R with
  | nil => exact Int.le_refl _
  | cons x R ih =>
    have := ih fun y hy => h y (.tail _ hy)
    have := h x (.head _)
    rw [lenR_cons, List.length_cons]; push_cast; omega

theorem TupsAt.upd_list {σ : Store} {rs : List V} {L : List (List V)} (h : TupsAt σ rs L) {la : Addr} {o : O} {xs : List V} (hla : σ la = some (.list xs)) : TupsAt (upd σ la o) rs L := by
  induction h with
  | nil => exact .nil
  | cons h1 _ ih => exact .cons (upd_at (fun e => by rw [e, hla] at h1; cases h1) h1) ih
section
variable {w : World} {C : Nat → CL} {lv : Nat} {σ : Store} {Q : PE}
theorem rows_ok (P : Prg w C) {tr : Addr} {R : List Run} (H : HT σ tr R) (hp : PosR R) (hs : lenR R ≤ 1000)
    (h : ∀ σ' la rs, σ' la = some (.list rs) → σ la = none → TupsAt σ' rs (rowsOf 0 R) → Keep [] σ σ' → Q (.ref la) σ') : C (lv + 3) "interval_rows" [.ref tr] σ Q := by
  refine P.fn rfl rfl ?_
  walk_at "aw"
  intro la hla
  walk_at "ax"
  have H1 := H.upd (o := .list []) (H.off hla (.inr rfl))
  have k1 : Keep [] σ (upd σ la (.list [])) := (Keep.refl _ _).new hla
  have l1 : upd σ la (.list []) la = some (.list []) := upd_self
  generalize upd σ la (.list []) = σ1 at *
  refine o1_2 (fun t W rf2_ => ?_) (id H1); subst rf2_
  have ht : σ1 tr = some (treeO t.root) := W.cc
  walk_at "ax"
  refine by_val (headV t.io) ?_ fun Q' hQ' => ?_
  rotate_left
  · cases t with
    | nil =>
      simp only [root_nil] at ht
      walk_at "aw"
      exact hQ'
    | nd a0 n0 p0 l0 r0 =>
      simp only [root_nd] at ht
      walk_at "aw"
      refine leftmost_ok P rfl W.tt fun b hb => ?_
      rw [← (lmost_head hb).1]
      exact hQ'
  generalize t.io = R at *
  clear W ht
  walk_at "aw"
  refine while_ind (α := List Run) List.length (fun ys ρ σ2 => ∃ xs rs, R = xs ++ ys ∧ HT σ2 tr R ∧ σ2 la = some (.list rs) ∧ TupsAt σ2 rs (rowsOf 0 xs) ∧ Keep [] σ σ2 ∧ ρ "found" = some (.ref la) ∧ ρ "begin" = some (.int (lenR xs)) ∧ ρ "node" = some (headV ys)) ?_ R _ _ ⟨[], [], rfl, H1, l1, .nil, k1, by walk_at "lv", by walk_at "lv", by walk_at "lv"⟩
  rintro ys ρ σ2 PP ⟨xs, rs, e, H2, l2, t2, k2, q1, q2, q3⟩ hP
  refine while_turn ?_
  have hlen := len_le hp
  rw [e, List.length_append] at hlen
  push_cast at hlen
  have hrs := t2.length
  rw [rowsOf_length] at hrs
  walk_at "aw"
  cases ys with
  | nil =>
    simp only [headV]
    walk_at "aw"
    refine h σ2 la rs l2 hla ?_ k2
    rw [e]; simpa using t2
  | cons y ys =>
    obtain ⟨a, n, p⟩ := y
    simp only [headV] at q3 ⊢
    rw [e] at H2
    refine o3_3 (fun c l r W eL eY => ?_) (H2.at)
    have hnode := W.tt.1
    walk_at "aw"
    refine own_ok P W.tt ?_
    walk_at "aw"
    refine ⟨mk_list l2 (.inr (.inl rfl)), ?_⟩
    walk_at "aw"
    intro tp htp
    have hlt : la ≠ tp := fun e => by rw [e, htp] at l2; cases l2
    have l3 : upd σ2 tp (.tup [.int (lenR xs), .int (lenR xs + n), p]) la = _ := upd_at hlt l2
    walk_at "aw"
    refine w_append l3 (by rw [hrs]; unfold bigN; rw [e] at hs; omega) ?_
    have W3 := W.upd (o := .tup [.int (lenR xs), .int (lenR xs + n), p]) (W.off htp (.inr rfl))
    have W4 := W3.upd (o := .list (rs ++ [.ref tp])) (W3.off l3 (.inl rfl))
    walk_at "aw"
    refine ⟨trivial, ?_⟩
    walk_at "aw"
    refine following_ok P W4 ?_
    rw [← eY]
    walk_at "aw"
    have hk : Keep [] σ (upd (upd σ2 tp (.tup [.int (lenR xs), .int (lenR xs + n), p])) la (.list (rs ++ [.ref tp]))) := (k2.tr' htp).new hla
    have i4 : Imm σ2 (upd σ2 tp (.tup [.int (lenR xs), .int (lenR xs + n), p])) := ((Keep.refl [] _).new htp).imm fun _ h => nomatch h
    have t4 : TupsAt (upd (upd σ2 tp (.tup [.int (lenR xs), .int (lenR xs + n), p])) la (.list (rs ++ [.ref tp]))) (rs ++ [.ref tp]) (rowsOf 0 (xs ++ [(a, n, p)])) := by
      rw [rowsOf_snoc, show (0 : Int) + lenR xs = lenR xs by omega]
      refine TupsAt.upd_list ((t2.imm i4).snoc upd_self) l3
    have e9 : lenR (xs ++ [(a, n, p)]) = lenR xs + n := by rw [lenR_append, lenR_cons]; simp [lenR]
    refine hP ys _ _ ⟨xs ++ [(a, n, p)], _, by rw [e]; simp, ?_, upd_self, t4, hk, by walk_at "lv", by rw [e9]; walk_at "lv", by walk_at "lv"⟩ (by simp)
    have := HT.io W4
    rw [← eL, ← eY] at this
    rw [e]; exact this
end

section rules
variable {rec : RE} {recT : RT} {cl : CL} {n : Nat} {ρ : AEnv} {σ : Store} {Q : PE} {QS : PS} {x f : Str} {p p' q : Pos} {e t : Expr} {args : List Expr} {v : V} {k : List V → Option (Addr × O) → Store → Prop} {kk : List V → Option (Addr × O) → Prop}
theorem s_range (h : rec e ρ σ fun v σ₁ => intW v fun n => (0 ≤ n ∧ n ≤ bigN) ∧ k (rangeL n) none σ₁) : srcW rec (.Call (.Name "range" p) [e] [] q) ρ σ k := by
  unfold srcW rangeOf
  dsimp only
  rw [if_pos rfl]
  exact h
theorem s_name (h : rec (.Name x p) ρ σ fun v σ₁ => srcOf σ₁ v fun xs o => k xs o σ₁) : srcW rec (.Name x p) ρ σ k := h
theorem s_sub (h : rec (.Subscript e t p) ρ σ fun v σ₁ => srcOf σ₁ v fun xs o => k xs o σ₁) : srcW rec (.Subscript e t p) ρ σ k := h
theorem s_tup {es : List Expr} {c : Nat} (h : rec (.Tuple es c p) ρ σ fun v σ₁ => srcOf σ₁ v fun xs o => k xs o σ₁) : srcW rec (.Tuple es c p) ρ σ k := h
theorem s_call (hf : decide (f = ("range" : Str)) = false) (h : rec (.Call (.Name f p) args [] q) ρ σ fun v σ₁ => srcOf σ₁ v fun xs o => k xs o σ₁) : srcW rec (.Call (.Name f p) args [] q) ρ σ k := by
  unfold srcW
  rw [show rangeOf (.Call (.Name f p) args [] q) = none by rcases args with _ | ⟨a, _ | _⟩ <;> first | rfl | exact if_neg (of_decide_eq_false hf)]
  exact h
theorem so_list {a : Addr} {xs : List V} (ha : σ a = some (.list xs)) (h : kk xs (some (a, .list xs))) : srcOf σ (.ref a) kk := by
  unfold srcOf refW; dsimp only; rw [ha]; exact h
theorem so_tup {a : Addr} {xs : List V} (ha : σ a = some (.tup xs)) (h : kk xs (some (a, .tup xs))) : srcOf σ (.ref a) kk := by
  unfold srcOf refW; dsimp only; rw [ha]; exact h
theorem so_dict {a : Addr} {xs : List (Int × V)} {ep : Nat} (ha : σ a = some (.dict xs ep)) (h : kk (xs.map fun p => .int p.1) (some (a, .dict xs ep))) : srcOf σ (.ref a) kk := by
  unfold srcOf refW; dsimp only; rw [ha]; exact h

/-- what a turn of a for must reach -/
noncomputable def forK (o : Option (Addr × O)) (QS : PS) (PP : AEnv → Store → Prop) : PS := fun fl ρ₂ σ₂ => match fl with
  | .brk => QS .next ρ₂ σ₂
  | .ret v => QS (.ret v) ρ₂ σ₂
  | _ => stillW o σ₂ ∧ PP ρ₂ σ₂
theorem fk_next {o : Option (Addr × O)} {PP : AEnv → Store → Prop} (h : stillW o σ ∧ PP ρ σ) : forK o QS PP .next ρ σ := h
theorem fk_ret {o : Option (Addr × O)} {PP : AEnv → Store → Prop} (h : QS (.ret v) ρ σ) : forK o QS PP (.ret v) ρ σ := h
theorem for_ind {body : AEnv → Store → PS → Prop} {o : Option (Addr × O)} (I : List V → AEnv → Store → Prop)
    (step : ∀ x xs ρ σ (PP : AEnv → Store → Prop), I (x :: xs) ρ σ → (∀ ρ σ, I xs ρ σ → PP ρ σ) → asgW 3 t x ρ σ fun ρ₁ => body ρ₁ σ (forK o QS PP))
    (done : ∀ ρ σ, I [] ρ σ → QS .next ρ σ) : ∀ (xs : List V) (ρ : AEnv) (σ : Store), I xs ρ σ → forW body t o xs ρ σ QS
  | [], ρ, σ, h => done ρ σ h
  | x :: xs, ρ, σ, h => step x xs ρ σ (fun ρ σ => forW body t o xs ρ σ QS) h fun ρ σ h => for_ind I step done xs ρ σ h
theorem comp_ind {elt : Expr} {ifs : List Expr} {o : Option (Addr × O)} (I : List V → List V → AEnv → Store → Prop)
    (step : ∀ x xs acc ρ σ (PP : List V → AEnv → Store → Prop), I (x :: xs) acc ρ σ → (∀ acc ρ σ, I xs acc ρ σ → PP acc ρ σ) → asgW 3 t x ρ σ fun ρ₁ => testsW recT ifs ρ₁ σ fun b σ₁ =>
      if b then rec elt ρ₁ σ₁ fun v σ₂ => stillW o σ₂ ∧ PP (acc ++ [v]) ρ₁ σ₂ else stillW o σ₁ ∧ PP acc ρ₁ σ₁)
    (done : ∀ acc ρ σ, I [] acc ρ σ → newW σ (.list acc) Q) : ∀ (xs acc : List V) (ρ : AEnv) (σ : Store), I xs acc ρ σ → compL rec recT elt t ifs o xs ρ σ acc Q
  | [], acc, ρ, σ, h => done acc ρ σ h
  | x :: xs, acc, ρ, σ, h => step x xs acc ρ σ (fun acc ρ σ => compL rec recT elt t ifs o xs ρ σ acc Q) h fun acc ρ σ h => comp_ind I step done xs acc ρ σ h
theorem ts_nil {QB : Bool → Store → Prop} (h : QB true σ) : testsW recT [] ρ σ QB := h
theorem ts_cons {QB : Bool → Store → Prop} {es : List Expr} (h : recT e ρ σ fun b σ₁ => if b then testsW recT es ρ σ₁ QB else QB false σ₁) : testsW recT (e :: es) ρ σ QB := h
end rules

noncomputable def isD : V → Bool
  | .int _ => true
  | .bool _ => true
  | .str _ => true
  | _ => false
noncomputable def pyEq : V → V → Bool
  | .int i, .int j => i == j
  | .bool i, .bool j => i == j
  | .str i, .str j => i == j
  | .int i, .bool b => i == if b then 1 else 0
  | .bool b, .int i => (if b then 1 else 0) == i
  | _, _ => false
theorem eqB_of {v u : V} (h1 : isD v = true) (h2 : isD u = true) : EqB v u (pyEq v u) := by
  cases v <;> cases u <;> first | exact ns h1 | exact ft h1 | (cases h1; done) | exact ns h2 | exact ft h2 | (cases h2; done) | constructor
open Classical in
theorem pyEq_same {v u : V} (h1 : isD v = true) (h2 : isD u = true) : (isB v == isB u && pyEq v u) = decide (v = u) := by
  cases v <;> cases u <;> first | exact ns h1 | exact ft h1 | (cases h1; done) | exact ns h2 | exact ft h2 | (cases h2; done) | skip
  all_goals first | (simp [isB, pyEq]; done) | (simp [isB, pyEq]; rename_i a b; cases a <;> cases b <;> rfl)

section
variable {w : World} {C : Nat → CL} {lv : Nat} {σ : Store} {Q : PE}
open Classical in
theorem eq_ok (P : Prg w C) {v u : V} (h1 : isD v = true) (h2 : isD u = true) (h : Q (.bool (decide (v = u))) σ) : C (lv + 1) "eq" [v, u] σ Q := by
  rw [← pyEq_same h1 h2] at h
  refine P.fn rfl rfl ?_
  cases v <;> cases u <;> first | exact ns h1 | exact ft h1 | (cases h1; done) | exact ns h2 | exact ft h2 | (cases h2; done) | skip
  all_goals repeat (first | refine w_eqB (eqB_of rfl rfl) ?_ | refine ⟨trivial, ?_⟩ | walk_at "aw1" | (dsimp only [isB]))
  all_goals first | exact h
end

noncomputable abbrev PLs := List (Int × V)
noncomputable abbrev Sem' := Int → Option V
noncomputable def keys (L : PLs) : List Int := L.map (·.1)
noncomputable def sem (L : PLs) : Sem' := fun k => dictAt k L
inductive PrsAt (σ : Store) : List V → PLs → Prop
  | nil : PrsAt σ [] []
  | cons {t : Addr} {k : Int} {v : V} {xs : List V} {L : PLs} : σ t = some (.tup [.int k, v]) → isD v = true → PrsAt σ xs L → PrsAt σ (.ref t :: xs) ((k, v) :: L)
noncomputable def PL (σ : Store) (p : V) (L : PLs) : Prop := ∃ a xs, p = .ref a ∧ σ a = some (.list xs) ∧ PrsAt σ xs L
structure PLok (L : PLs) : Prop where
  nd : (keys L).Nodup
  rg : ∀ k ∈ keys L, 1 ≤ k ∧ k ≤ 4

theorem nodup_le {l m : List Int} (h : l.Nodup) (hs : ∀ x ∈ l, x ∈ m) : l.length ≤ m.length := by
  induction l generalizing m with
  | nil => exact Nat.zero_le _
  | cons x l ih =>
    have h' := List.nodup_cons.mp h
    have hx := hs x (.head _)
    have := ih (m := m.erase x) h'.2 fun y hy => by
      have hyx : y ≠ x := fun e => h'.1 (by rw [← e]; exact hy)
      exact (List.mem_erase_of_ne hyx).mpr (hs y (.tail _ hy))
    rw [List.length_erase_of_mem hx] at this
    have : 0 < m.length := List.length_pos_of_mem hx
    rw [List.length_cons]; omega
theorem nodup_sup {l m : List Int} (h : l.Nodup) (hs : ∀ x ∈ l, x ∈ m) (hl : m.length ≤ l.length) : ∀ x ∈ m, x ∈ l := by
  intro x hx
  by_cases hm : x ∈ l
  · exact hm
  · have := nodup_le (l := x :: l) (m := m) (List.nodup_cons.mpr ⟨hm, h⟩) fun y hy => by
      rcases List.mem_cons.mp hy with rfl | hy
      · exact hx
      · exact hs y hy
    rw [List.length_cons] at this; omega
theorem PLok.len {L : PLs} (h : PLok L) : L.length ≤ 4 := by
  have := nodup_le (m := [1, 2, 3, 4]) h.nd fun x hx => by
    have := h.rg x hx
    simp only [List.mem_cons, List.not_mem_nil, or_false]; omega
  simpa [keys] using this
theorem PLok.big {L : PLs} (h : PLok L) : L.length ≤ 100 := Nat.le_trans h.len (by decide)

theorem dictAt_none {k : Int} {L : PLs} : dictAt k L = none ↔ k ∉ keys L := by
  induction L with
  | nil => simp [dictAt, keys]
  | cons p L ih =>
    obtain ⟨j, v⟩ := p
    unfold dictAt
    by_cases h : j = k
    · subst h; simp [keys]
    · rw [if_neg h, ih]; simp only [keys, List.map_cons, List.mem_cons, not_or]
      exact ⟨fun q => ⟨fun e => h e.symm, q⟩, fun q => q.2⟩
theorem dictAt_append {k : Int} {L M : PLs} : dictAt k (L ++ M) = match dictAt k L with | some v => some v | none => dictAt k M := by
  induction L with
  | nil => rfl
  | cons p L ih =>
    obtain ⟨j, v⟩ := p
    by_cases h : j = k
    · simp [dictAt, h]
    · simp [dictAt, h, ih]
theorem dictAt_mem {k : Int} {v : V} {L : PLs} (h : dictAt k L = some v) : (k, v) ∈ L := by
  induction L with
  | nil => cases h
  | cons p L ih =>
    obtain ⟨j, u⟩ := p
    unfold dictAt at h
    by_cases hj : j = k
    · rw [if_pos hj] at h; cases h; rw [hj]; exact .head _
    · rw [if_neg hj] at h; exact .tail _ (ih h)
theorem dictAt_of_mem {k : Int} {v : V} {L : PLs} (hn : (keys L).Nodup) (h : (k, v) ∈ L) : dictAt k L = some v := by
  induction L with
  | nil => cases h
  | cons p L ih =>
    obtain ⟨j, u⟩ := p
    have hn' := List.nodup_cons.mp hn
    unfold dictAt
    rcases List.mem_cons.mp h with e | h
    · cases e; rw [if_pos rfl]
    · rw [if_neg fun e => hn'.1 (by rw [e]; exact List.mem_map_of_mem (f := (·.1)) h)]
      exact ih hn'.2 h
theorem split_key {k : Int} {L : PLs} (h : k ∈ keys L) : ∃ L1 v L2, L = L1 ++ (k, v) :: L2 ∧ k ∉ keys L1 := by
  induction L with
  | nil => cases h
  | cons p L ih =>
    obtain ⟨j, u⟩ := p
    by_cases hj : j = k
    · subst hj; exact ⟨[], u, L, rfl, fun h => nomatch h⟩
    · have : k ∈ keys L := by
        rcases List.mem_cons.mp h with e | h
        · exact absurd e.symm hj
        · exact h
      refine o3_2 (fun L1 v L2 rf3_ h1 => ?_) (ih this); subst rf3_
      refine ⟨(j, u) :: L1, v, L2, rfl, ?_⟩
      simp only [keys, List.map_cons, List.mem_cons, not_or]
      exact ⟨fun e => hj e.symm, h1⟩
theorem sem_len {L M : PLs} (hL : (keys L).Nodup) (hM : (keys M).Nodup) (h : sem L = sem M) : L.length = M.length := by
  have sub : ∀ {L M : PLs}, (keys L).Nodup → sem L = sem M → L.length ≤ M.length := fun {L M} hL h => by
    have := nodup_le (m := keys M) hL fun x hx => by
      by_cases hm : x ∈ keys M
      · exact hm
      · have e1 := dictAt_none.mpr hm
        have e2 : dictAt x L = dictAt x M := congrFun h x
        rw [e1] at e2
        exact absurd hx (dictAt_none.mp e2)
    simpa [keys] using this
  exact Nat.le_antisymm (sub hL h) (sub hM h.symm)
theorem sem_eq {L M : PLs} (hL : (keys L).Nodup) (hM : (keys M).Nodup) (hl : L.length = M.length) (h : ∀ q ∈ L, sem M q.1 = some q.2) : sem L = sem M := by
  funext k
  show dictAt k L = dictAt k M
  cases q : dictAt k L with
  | some v => exact (h _ (dictAt_mem q)).symm
  | none =>
    symm
    rw [dictAt_none]
    intro hk
    have := nodup_sup (l := keys L) (m := keys M) hL (fun x hx => by
      refine o1_2 (fun p hp rf2_ => ?_) (List.mem_map.mp hx); subst rf2_
      have := h p hp
      by_cases hm : p.1 ∈ keys M
      · exact hm
      · have e : dictAt p.1 M = none := dictAt_none.mpr hm
        rw [sem, e] at this; cases this) (by simp only [keys, List.length_map]; omega) k hk
    exact dictAt_none.mp q this

theorem PrsAt.length {σ : Store} {xs : List V} {L : PLs} (h : PrsAt σ xs L) : xs.length = L.length := by
  induction h with
  | nil => rfl
  | cons _ _ _ ih => simp [ih]
theorem PrsAt.append {σ : Store} {xs ys : List V} {L M : PLs} (h : PrsAt σ xs L) (k : PrsAt σ ys M) : PrsAt σ (xs ++ ys) (L ++ M) := by
  induction h with
  | nil => exact k
  | cons h1 h2 _ ih => exact .cons h1 h2 ih
theorem PrsAt.split {σ : Store} {L1 L2 : PLs} : ∀ {xs : List V}, PrsAt σ xs (L1 ++ L2) → ∃ ys zs, xs = ys ++ zs ∧ PrsAt σ ys L1 ∧ PrsAt σ zs L2 := by
  induction L1 with
  | nil => intro xs h; exact ⟨[], xs, rfl, .nil, h⟩
  | cons p L1 ih =>
    intro xs h
    cases h with
    | cons h1 h2 h3 =>
      refine o2_3 (fun ys zs rf2_ a b => ?_) (ih h3); subst rf2_
      exact ⟨_ :: ys, zs, rfl, .cons h1 h2 a, b⟩
theorem PrsAt.imm {σ σ' : Store} (k : Imm σ σ') {xs : List V} {L : PLs} (h : PrsAt σ xs L) : PrsAt σ' xs L := by
  induction h with
  | nil => exact .nil
  | cons h1 h2 _ ih => exact .cons (k _ _ h1 rfl) h2 ih
theorem PL.imm {σ σ' : Store} (k : Imm σ σ') {p : V} {L : PLs} (h : PL σ p L) : PL σ' p L := by
  revert h; refine o2_3 fun a xs rf2_ h1 h2 => ?_; subst rf2_
  exact ⟨a, xs, rfl, k _ _ h1 rfl, h2.imm k⟩
theorem PrsAt.uniq {σ : Store} {xs : List V} {L M : PLs} (h : PrsAt σ xs L) (k : PrsAt σ xs M) : L = M := by
  induction h generalizing M with
  | nil => cases k; rfl
  | cons h1 h2 _ ih =>
    cases k with
    | cons k1 k2 k3 =>
      rw [h1] at k1; cases k1
      rw [ih k3]
theorem PL.uniq {σ : Store} {p : V} {L M : PLs} (h : PL σ p L) (k : PL σ p M) : L = M := by
  revert h; refine o2_3 fun a xs rf2_ h1 h2 => ?_; subst rf2_
  revert k; refine o2_3 fun b ys e k1 k2 => ?_
  cases e
  rw [h1] at k1; cases k1
  exact h2.uniq k2
theorem Keep.nil_imm {σ σ' : Store} (k : Keep [] σ σ') : Imm σ σ' := k.imm fun _ h => nomatch h
theorem keys_append (L M : PLs) : keys (L ++ M) = keys L ++ keys M := List.map_append

section
variable {w : World} {C : Nat → CL} {lv : Nat} {σ : Store} {Q : PE}
theorem pfind_ok (P : Prg w C) {p : V} {k : Int} {L : PLs} (hp : PL σ p L) (hl : L.length ≤ 100)
    (h1 : ∀ L1 v L2, L = L1 ++ (k, v) :: L2 → k ∉ keys L1 → Q (.int L1.length) σ) (h2 : k ∉ keys L → Q (.int (-1)) σ) : C (lv + 1) "plist_find" [p, .int k] σ Q := by
  refine P.fn rfl rfl ?_
  revert hp; refine o2_3 fun a xs rf2_ ha hx => ?_; subst rf2_
  walk_at "aw"
  refine s_range ?_
  walk_at "aw"
  refine w_len ha ?_
  walk_at "aw"
  have hlen := hx.length
  refine ⟨⟨by omega, by unfold bigN; omega⟩, ?_⟩
  refine for_ind (fun rem ρ σ' => ∃ L1 L2, L = L1 ++ L2 ∧ k ∉ keys L1 ∧ rem = (List.range' L1.length L2.length).map (fun i : Nat => V.int (i : Int)) ∧ σ' = σ ∧ ρ "plist" = some (.ref a) ∧ ρ "number" = some (.int k)) ?_ ?_ _ _ _
    ⟨[], L, rfl, (fun h => nomatch h), ?_, rfl, by walk_at "lv", by walk_at "lv"⟩
  · rintro x rem ρ σ' PP ⟨L1, L2, e, hk, hr, rfl, q1, q2⟩ hPP
    cases L2 with
    | nil => simp at hr
    | cons q L2 =>
      obtain ⟨j, u⟩ := q
      rw [List.length_cons, List.range'_succ, List.map_cons] at hr
      cases hr
      refine g_Name ?_
      subst e
      refine o2_3 (fun ys zs rf2_ hy hz => ?_) (hx.split); subst rf2_
      cases hz with
      | @cons t _ _ zs _ ht hd hz =>
        walk_at "aw"
        refine w_subl ha (by omega) (v := .ref t) (by rw [show ((L1.length : Int)).toNat = ys.length by rw [hy.length]; omega]; simp) ?_
        walk_at "aw"
        refine w_subt ht (by omega) (v := .int j) rfl ?_
        walk_at "aw"
        refine w_if (fun z => ?_) fun z => ?_
        · have z : j = k := by simpa using z
          subst z
          walk_at "aw"
          exact h1 L1 u L2 rfl hk
        · have z : j ≠ k := by simpa using z
          walk_at "aw"
          refine fk_next ⟨trivial, hPP _ _ ⟨L1 ++ [(j, u)], L2, by simp, ?_, by simp, rfl, by walk_at "lv", by walk_at "lv"⟩⟩
          rw [keys_append, List.mem_append, not_or]
          exact ⟨hk, by simpa [keys] using fun e => z e.symm⟩
  · rintro ρ σ' ⟨L1, L2, e, hk, hr, rfl, q1, q2⟩
    have : L2 = [] := by
      cases L2 with
      | nil => rfl
      | cons _ _ => simp [List.range'_succ] at hr
    subst this
    walk_at "aw"
    refine h2 ?_
    rw [e, List.append_nil]; exact hk
  · unfold rangeL
    rw [List.range_eq_range']
    simp [hlen]
end

/-- all that was stays -/
noncomputable def Ext (σ σ' : Store) : Prop := ∀ x o, σ x = some o → σ' x = some o
theorem Ext.refl (σ : Store) : Ext σ σ := fun _ _ h => h
theorem Ext.trans {σ σ1 σ2 : Store} (h : Ext σ σ1) (k : Ext σ1 σ2) : Ext σ σ2 := fun x o e => k x o (h x o e)
theorem Ext.new {σ : Store} {a : Addr} {o : O} (h : σ a = none) : Ext σ (upd σ a o) := fun x o' e => upd_at (fun q => by rw [q, h] at e; cases e) e
theorem Ext.imm {σ σ' : Store} (k : Ext σ σ') : Imm σ σ' := fun a o e _ => k a o e
theorem Ext.keep {S : List Addr} {σ σ' : Store} (k : Ext σ σ') : Keep S σ σ' := fun a o _ e => k a o e
theorem Keep.ext {σ σ' : Store} (k : Keep [] σ σ') : Ext σ σ' := fun a o e => k a o (fun h => nomatch h) e
theorem Ext.ne {σ σ' : Store} {a b : Addr} {o : O} (h : σ a = none) (k : σ b = some o) : b ≠ a := fun e => by rw [e, h] at k; cases k
theorem newW_ext {σ : Store} {o : O} {Q : PE} (h : ∀ a σ', σ a = none → σ' a = some o → Ext σ σ' → Q (.ref a) σ') : newW σ o Q := fun a ha => h a _ ha upd_self (Ext.new ha)
theorem newD_ext {σ : Store} {o : List (Int × V)} {Q : PE} (h : ∀ a ep σ', σ a = none → σ' a = some (.dict o ep) → Ext σ σ' → Q (.ref a) σ') : newD σ o Q := fun a ep ha => h a ep _ ha upd_self (Ext.new ha)

noncomputable def setS (k : Int) (v : V) (s : Sem') : Sem' := fun j => if j = k then some v else s j
noncomputable def overS (s t : Sem') : Sem' := fun j => match t j with | some v => some v | none => s j
noncomputable def delS (k : Int) (s : Sem') : Sem' := fun j => if j = k then none else s j
theorem sem_mid {k : Int} {u v : V} {L1 L2 : PLs} (hk : k ∉ keys L1) : sem (L1 ++ (k, v) :: L2) = setS k v (sem (L1 ++ (k, u) :: L2)) := by
  funext j
  show dictAt j _ = if j = k then _ else dictAt j _
  rw [dictAt_append, dictAt_append]
  by_cases h : j = k
  · subst h
    rw [dictAt_none.mpr hk, if_pos rfl]
    simp [dictAt]
  · rw [if_neg h]
    have h' : ¬ k = j := fun e => h e.symm
    simp [dictAt, h']
theorem sem_end {k : Int} {v : V} {L : PLs} (hk : k ∉ keys L) : sem (L ++ [(k, v)]) = setS k v (sem L) := by
  funext j
  show dictAt j _ = if j = k then _ else dictAt j _
  rw [dictAt_append]
  by_cases h : j = k
  · subst h
    rw [dictAt_none.mpr hk, if_pos rfl]
    simp [dictAt]
  · rw [if_neg h]
    have h' : ¬ k = j := fun e => h e.symm
    cases q : dictAt j L <;> simp [dictAt, h']
theorem ok_mid {k : Int} {u v : V} {L1 L2 : PLs} (h : PLok (L1 ++ (k, u) :: L2)) : PLok (L1 ++ (k, v) :: L2) := by
  have e : keys (L1 ++ (k, v) :: L2) = keys (L1 ++ (k, u) :: L2) := by simp [keys]
  exact ⟨by rw [e]; exact h.nd, by rw [e]; exact h.rg⟩
theorem ok_end {k : Int} {v : V} {L : PLs} (h : PLok L) (hk : k ∉ keys L) (hr : 1 ≤ k ∧ k ≤ 4) : PLok (L ++ [(k, v)]) := by
  have e : keys (L ++ [(k, v)]) = keys L ++ [k] := by simp [keys]
  refine ⟨?_, ?_⟩
  · rw [e, List.nodup_append]
    exact ⟨h.nd, by simp, fun x hx y hy e => hk (by simp only [List.mem_singleton] at hy; rw [← hy, ← e]; exact hx)⟩
  · rw [e]
    intro x hx
    rcases List.mem_append.mp hx with hx | hx
    · exact h.rg x hx
    · simp only [List.mem_singleton] at hx; rw [hx]; exact hr
theorem over_snoc {s : Sem'} {k : Int} {v : V} {M : PLs} (hk : k ∉ keys M) : overS s (sem (M ++ [(k, v)])) = setS k v (overS s (sem M)) := by
  rw [sem_end hk]
  funext j
  unfold overS setS
  by_cases h : j = k <;> simp [h]
theorem over_nil {s : Sem'} : overS s (sem []) = s := by funext j; rfl
theorem sem_has {s : Sem'} {k : Int} {v : V} (h : s k = some v) : setS k v s = s := by
  funext j
  unfold setS
  by_cases e : j = k
  · rw [if_pos e, e, h]
  · rw [if_neg e]
theorem ok_sub {L M : PLs} (h : PLok L) (hs : M.Sublist L) : PLok M :=
  ⟨h.nd.sublist (hs.map _), fun k hk => h.rg k ((hs.map _).subset hk)⟩
theorem PLok.nil : PLok [] := ⟨by simp [keys], fun k hk => nomatch hk⟩

section
variable {w : World} {C : Nat → CL} {lv : Nat} {σ : Store} {Q : PE}
theorem holds_ok (P : Prg w C) {p v : V} {k : Int} {L : PLs} (hp : PL σ p L) (ok : PLok L) (hv : isD v = true)
    (h : ∀ b : Bool, (b = true ↔ sem L k = some v) → Q (.bool b) σ) : C (lv + 2) "holds_pair" [p, .int k, v] σ Q := by
  refine P.fn rfl rfl ?_
  walk_at "aw"
  refine pfind_ok P hp ok.big (fun L1 u L2 e hk => ?_) fun hk => ?_
  · revert hp; refine o2_3 fun a xs rf2_ ha hx => ?_; subst rf2_
    subst e
    refine o2_3 (fun ys zs rf2_ hy hz => ?_) (hx.split); subst rf2_
    cases hz with
    | @cons t _ _ zs _ ht hd hz =>
      walk_at "aw"
      refine w_if (fun z => ?_) fun z => absurd z (by simp)
      walk_at "aw"
      refine w_subl ha (by omega) (v := .ref t) (by rw [show ((L1.length : Int)).toNat = ys.length by rw [hy.length]; omega]; simp) ?_
      walk_at "aw"
      refine w_subt ht (by omega) (v := u) rfl ?_
      walk_at "aw"
      refine eq_ok P hd hv ?_
      walk_at "aw"
      refine h _ ?_
      have : sem (L1 ++ (k, u) :: L2) k = some u := by
        show dictAt k _ = _
        rw [dictAt_append, dictAt_none.mpr hk]; simp [dictAt]
      rw [this]
      simp
  · walk_at "aw"
    refine h false ?_
    have : sem L k = none := dictAt_none.mpr hk
    rw [this]
    simp
theorem with_ok (P : Prg w C) {p v : V} {k : Int} {L : PLs} (hp : PL σ p L) (ok : PLok L) (hv : isD v = true) (hk : 1 ≤ k ∧ k ≤ 4)
    (h : ∀ σ' p' L', PL σ' p' L' → PLok L' → sem L' = setS k v (sem L) → Ext σ σ' → Q p' σ') : C (lv + 2) "plist_with" [p, .int k, v] σ Q := by
  refine P.fn rfl rfl ?_
  walk_at "aw"
  refine pfind_ok P hp ok.big (fun L1 u L2 e hk1 => ?_) fun hk1 => ?_
  · revert hp; refine o2_3 fun a xs rf2_ ha hx => ?_; subst rf2_
    have hlen := ok.len
    subst e
    refine o2_3 (fun ys zs rf2_ hy hz => ?_) (hx.split); subst rf2_
    cases hz with
    | @cons t _ _ zs _ ht hd hz =>
      have hl1 := hy.length
      have hl2 := hz.length
      simp only [List.length_append, List.length_cons] at hlen
      walk_at "aw"
      refine w_if (fun z => absurd z (by simp)) fun z => ?_
      walk_at "aw"
      refine w_slice ha trivial (by show (0 : Int) ≤ _; omega) ?_
      refine newW_ext fun b σ1 hb hb1 x1 => ?_
      have ha1 := x1 _ _ ha
      walk_at "aw"
      refine newW_ext fun c σ2 hc hc1 x2 => ?_
      have ha2 := x2 _ _ ha1
      have hb2 := x2 _ _ hb1
      walk_at "aw"
      refine newW_ext fun d σ3 hd' hd1 x3 => ?_
      have ha3 := x3 _ _ ha2
      have hb3 := x3 _ _ hb2
      walk_at "aw"
      have e1 : sliceL none (some (L1.length : Int)) (ys ++ V.ref t :: zs) = ys := by
        unfold sliceL
        simp only [List.drop_zero]
        rw [show ((L1.length : Int)).toNat = ys.length by omega]; simp
      rw [e1] at hb3
      refine w_adds hb3 hd1 (by simp only [List.length_cons, List.length_nil]; unfold bigN; omega) ?_
      refine newW_ext fun e σ4 he he1 x4 => ?_
      have ha4 := x4 _ _ ha3
      walk_at "aw"
      refine w_slice ha4 (by show (0 : Int) ≤ _; omega) trivial ?_
      refine newW_ext fun f σ5 hf hf1 x5 => ?_
      have he5 := x5 _ _ he1
      walk_at "aw"
      have e2 : sliceL (some ((L1.length : Int) + 1)) none (ys ++ V.ref t :: zs) = zs := by
        unfold sliceL
        dsimp only
        rw [show ((L1.length : Int) + 1).toNat = ys.length + 1 by omega, List.drop_append]
        simp
      rw [e2] at hf1
      refine w_adds he5 hf1 (by simp only [List.length_append, List.length_cons, List.length_nil]; unfold bigN; omega) ?_
      refine newW_ext fun g σ6 hg hg1 x6 => ?_
      walk_at "aw"
      have x : Ext σ σ6 := ((((x1.trans x2).trans x3).trans x4).trans x5).trans x6
      refine h σ6 (.ref g) (L1 ++ (k, v) :: L2) ⟨g, _, rfl, hg1, ?_⟩ (ok_mid ok) (sem_mid hk1) x
      have := (hy.imm x.imm).append (.cons (((x3.trans x4).trans x5).trans x6 _ _ hc1) hv (hz.imm x.imm))
      simpa using this
  · revert hp; refine o2_3 fun a xs rf2_ ha hx => ?_; subst rf2_
    have hlen := ok.len
    have hl1 := hx.length
    walk_at "aw"
    refine w_if (fun z => ?_) fun z => absurd z (by simp)
    walk_at "aw"
    refine newW_ext fun b σ1 hb hb1 x1 => ?_
    have ha1 := x1 _ _ ha
    walk_at "aw"
    refine newW_ext fun c σ2 hc hc1 x2 => ?_
    have ha2 := x2 _ _ ha1
    walk_at "aw"
    refine w_adds ha2 hc1 (by simp only [List.length_append, List.length_cons, List.length_nil]; unfold bigN; omega) ?_
    refine newW_ext fun g σ6 hg hg1 x3 => ?_
    walk_at "aw"
    have x : Ext σ σ6 := (x1.trans x2).trans x3
    refine h σ6 (.ref g) (L ++ [(k, v)]) ⟨g, _, rfl, hg1, (hx.imm x.imm).append (.cons ((x2.trans x3) _ _ hb1) hv .nil)⟩ (ok_end ok hk1 hk) (sem_end hk1) x
end

theorem w_notin {σ : Store} {i : Int} {a : Addr} {xs : List V} {is : List Int} {k : Bool → Prop} (ha : σ a = some (.list xs)) (hi : intsOf xs = some is) (h : k (!is.contains i)) : cmpW .NotIn (.int i) (.ref a) σ k := by
  show intW (.int i) fun i => listW σ (.ref a) fun _ xs => optW (intsOf xs) fun is => k (!is.contains i)
  refine w_int (w_list ha ?_)
  rw [hi]; exact h
theorem sem_at {L : PLs} (h : PLok L) {q : Int × V} (hq : q ∈ L) : sem L q.1 = some q.2 := dictAt_of_mem h.nd hq
theorem keys_filter {k : Int} {L : PLs} : k ∉ keys (L.filter fun q => decide (q.1 ≠ k)) := by
  intro h
  refine o1_2 (fun q hq e => ?_) (List.mem_map.mp h)
  have := (List.mem_filter.mp hq).2
  simp at this; exact this e
theorem sem_filter {k : Int} {L : PLs} : sem (L.filter fun q => decide (q.1 ≠ k)) = delS k (sem L) := by
  funext j
  show dictAt j _ = if j = k then none else dictAt j L
  by_cases h : j = k
  · subst h; rw [if_pos rfl]; exact dictAt_none.mpr keys_filter
  · rw [if_neg h]
    induction L with
    | nil => rfl
    | cons q L ih =>
      obtain ⟨i, u⟩ := q
      by_cases hi : i = k
      · subst hi
        have h' : ¬ i = j := fun e => h e.symm
        simp [dictAt, h']; simpa using ih
      · simp [hi, dictAt]; split <;> first | rfl | simpa using ih
section
variable {w : World} {C : Nat → CL} {lv : Nat} {σ : Store} {Q : PE}
theorem same_ok (P : Prg w C) {p q : V} {L M : PLs} (hp : PL σ p L) (hq : PL σ q M) (okL : PLok L) (okM : PLok M)
    (h : ∀ b : Bool, (b = true ↔ sem L = sem M) → Q (.bool b) σ) : C (lv + 3) "same_plist" [p, q] σ Q := by
  refine P.fn rfl rfl ?_
  refine o2_3 (fun b ys rf2_ hb hy => ?_) (id hq); subst rf2_
  revert hp; refine o2_3 fun a xs rf2_ ha hx => ?_; subst rf2_
  walk_at "aw"
  refine w_len ha ?_
  walk_at "aw"
  refine w_len hb ?_
  walk_at "aw"
  have l1 := hx.length
  have l2 := hy.length
  refine w_if (fun z => ?_) fun z => ?_
  · have z : ¬ (xs.length : Int) = ys.length := by simpa using z
    walk_at "aw"
    refine h false ⟨fun e => (nomatch e), fun e => absurd (sem_len okL.nd okM.nd e) (by omega)⟩
  · have z : (xs.length : Int) = ys.length := by simpa using z
    walk_at "aw"
    refine s_name ?_
    walk_at "aw"
    refine so_list ha ?_
    refine for_ind (fun rem ρ σ' => ∃ L1 L2, L = L1 ++ L2 ∧ PrsAt σ rem L2 ∧ (∀ q ∈ L1, sem M q.1 = some q.2) ∧ σ' = σ ∧ ρ "other" = some (.ref b)) ?_ ?_ _ _ _ ⟨[], L, rfl, hx, (fun _ h => nomatch h), rfl, by walk_at "lv"⟩
    · rintro x rem ρ σ' PP ⟨L1, L2, e, hr, hok, rfl, q1⟩ hPP
      cases hr with
      | @cons t k v _ L2 ht hd hr =>
        refine g_Tup ht rfl ?_
        refine g_cons (g_Name ?_)
        refine g_cons (g_Name ?_)
        refine g_nil ?_
        walk_at "aw"
        refine holds_ok P hq okM hd fun c hc => ?_
        walk_at "aw"
        refine w_if (fun z => ?_) fun z => ?_
        · walk_at "aw"
          refine fk_ret ?_
          walk_at "aw"
          refine h false ⟨fun e => (nomatch e), fun e2 => ?_⟩
          have h1 : sem L k = some v := sem_at okL (q := (k, v)) (by rw [e]; simp)
          have h2 := hc.mpr (by rw [← e2]; exact h1)
          rw [h2] at z; cases z
        · walk_at "aw"
          refine fk_next ⟨ha, hPP _ _ ⟨L1 ++ [(k, v)], L2, by rw [e]; simp, hr, ?_, rfl, by walk_at "lv"⟩⟩
          intro q hq
          rcases List.mem_append.mp hq with hq | hq
          · exact hok q hq
          · simp only [List.mem_singleton] at hq; subst hq
            exact hc.mp (by simpa using z)
    · rintro ρ σ' ⟨L1, L2, e, hr, hok, rfl, q1⟩
      have : L2 = [] := by cases hr; rfl
      subst this
      walk_at "aw"
      refine h true ⟨fun _ => ?_, fun _ => rfl⟩
      refine sem_eq okL.nd okM.nd (by omega) fun q hq => hok q ?_
      rw [e] at hq; simpa using hq
theorem added_ok (P : Prg w C) {p q : V} {L M : PLs} (hp : PL σ p L) (hq : PL σ q M) (okL : PLok L) (okM : PLok M)
    (h : ∀ σ' p' L', PL σ' p' L' → PLok L' → sem L' = overS (sem L) (sem M) → Ext σ σ' → Q p' σ') : C (lv + 3) "plist_added" [p, q] σ Q := by
  refine P.fn rfl rfl ?_
  refine o2_3 (fun b ys rf2_ hb hy => ?_) (id hq); subst rf2_
  walk_at "aw"
  refine s_name ?_
  walk_at "aw"
  refine so_list hb ?_
  refine for_ind (fun rem ρ σ' => ∃ M1 M2 p' L', M = M1 ++ M2 ∧ PrsAt σ' rem M2 ∧ ρ "found" = some p' ∧ PL σ' p' L' ∧ PLok L' ∧ sem L' = overS (sem L) (sem M1) ∧ Ext σ σ') ?_ ?_ _ _ _ ⟨[], M, p, L, rfl, hy, by walk_at "lv", hp, okL, over_nil.symm, Ext.refl _⟩
  · rintro x rem ρ σ' PP ⟨M1, M2, p', L', e, hr, q1, hp', ok', es, xx⟩ hPP
    cases hr with
    | @cons t k v _ M2 ht hd hr =>
      have hkr : 1 ≤ k ∧ k ≤ 4 := okM.rg k (by rw [e]; simp [keys])
      have hkn : k ∉ keys M1 := by
        have := okM.nd
        rw [e] at this
        simp only [keys, List.map_append, List.map_cons, List.nodup_append] at this
        exact fun hm => this.2.2 k hm k (.head _) rfl
      refine g_Tup ht rfl ?_
      refine g_cons (g_Name ?_)
      refine g_cons (g_Name ?_)
      refine g_nil ?_
      walk_at "aw"
      refine holds_ok P hp' ok' hd fun c hc => ?_
      walk_at "aw"
      refine w_if (fun z => ?_) fun z => ?_
      · walk_at "aw"
        refine with_ok P hp' ok' hd hkr fun σ2 p2 L2 hp2 ok2 es2 x2 => ?_
        walk_at "aw"
        refine fk_next ⟨x2 _ _ (xx _ _ hb), hPP _ _ ⟨M1 ++ [(k, v)], M2, p2, L2, by rw [e]; simp, hr.imm x2.imm, by walk_at "lv", hp2, ok2, ?_, xx.trans x2⟩⟩
        rw [es2, over_snoc hkn, es]
      · walk_at "aw"
        refine fk_next ⟨xx _ _ hb, hPP _ _ ⟨M1 ++ [(k, v)], M2, p', L', by rw [e]; simp, hr, by walk_at "lv", hp', ok', ?_, xx⟩⟩
        rw [over_snoc hkn, ← es, sem_has (hc.mp (by simpa using z))]
  · rintro ρ σ' ⟨M1, M2, p', L', e, hr, q1, hp', ok', es, xx⟩
    have : M2 = [] := by cases hr; rfl
    subst this
    walk_at "aw"
    rw [List.append_nil] at e
    exact h σ' p' L' hp' ok' (by rw [es, e]) xx
theorem removed_ok (P : Prg w C) {p : V} {nb : Addr} {k : Int} {L : PLs} (hp : PL σ p L) (okL : PLok L) (hn : σ nb = some (.list [.int k]))
    (h : ∀ σ' p', PL σ' p' (L.filter fun q => decide (q.1 ≠ k)) → Ext σ σ' → Q p' σ') : C (lv + 1) "plist_removed" [p, .ref nb] σ Q := by
  refine P.fn rfl rfl ?_
  revert hp; refine o2_3 fun a xs rf2_ ha hx => ?_; subst rf2_
  walk_at "aw"
  refine s_name ?_
  walk_at "aw"
  refine so_list ha ?_
  refine comp_ind (fun rem acc ρ σ' => σ' = σ ∧ ∃ L1 L2, L = L1 ++ L2 ∧ PrsAt σ rem L2 ∧ PrsAt σ acc (L1.filter fun q => decide (q.1 ≠ k)) ∧ ρ "numbers" = some (.ref nb)) ?_ ?_ _ _ _ _ ⟨rfl, [], L, rfl, hx, .nil, by walk_at "lv"⟩
  · rintro x rem acc ρ σ' PP ⟨rfl, L1, L2, e, hr, hacc, q1⟩ hPP
    cases hr with
    | @cons t j v _ L2 ht hd hr =>
      refine g_Name ?_
      refine ts_cons ?_
      walk_at "aw"
      refine w_subt ht (by omega) (v := .int j) rfl ?_
      walk_at "aw"
      refine w_notin hn rfl ?_
      refine w_if (fun z => ?_) fun z => ?_
      · have z : j ≠ k := by simpa using z
        refine ts_nil ?_
        walk_at "aw"
        refine ⟨ha, hPP _ _ _ ⟨rfl, L1 ++ [(j, v)], L2, by rw [e]; simp, hr, ?_, by walk_at "lv"⟩⟩
        rw [List.filter_append]
        refine hacc.append ?_
        simp [z]
        exact .cons ht hd .nil
      · have z : j = k := by simpa using z
        walk_at "aw"
        refine ⟨ha, hPP _ _ _ ⟨rfl, L1 ++ [(j, v)], L2, by rw [e]; simp, hr, ?_, by walk_at "lv"⟩⟩
        rw [List.filter_append]
        simpa [z] using hacc
  · rintro acc ρ σ' ⟨rfl, L1, L2, e, hr, hacc, q1⟩
    have : L2 = [] := by cases hr; rfl
    subst this
    rw [List.append_nil] at e
    subst e
    refine newW_ext fun d σ1 hd hd1 x1 => ?_
    walk_at "aw"
    exact h σ1 (.ref d) ⟨d, _, rfl, hd1, hacc.imm x1.imm⟩ x1
end

theorem tNat {b e : Int} (h0 : 0 ≤ b) (h1 : b ≤ e) : b.toNat + (e - b).toNat = e.toNat := by rw [← Int.toNat_add h0 (Int.sub_nonneg_of_le h1), Int.add_comm, Int.sub_add_cancel]
theorem insN {α : Type} {F X : List α} {n : Nat} : (F.take n ++ (X ++ F.drop n)).length = F.length + X.length := by
  rw [List.length_append, List.length_append, Nat.add_left_comm, ← List.length_append, List.take_append_drop, Nat.add_comm]
theorem lenTake {α : Type} {l : List α} {a : Int} (h0 : 0 ≤ a) (h : a ≤ l.length) : (l.take a.toNat).length = a.toNat := List.length_take_of_le (Int.toNat_le.mpr h)
theorem lenMid {α : Type} {l : List α} {b e : Int} (h0 : 0 ≤ b) (h1 : b ≤ e) (h2 : e ≤ l.length) : (((l.drop b.toNat).take (e - b).toNat).length : Int) = e - b := by
  rw [List.length_take_of_le]
  · exact Int.toNat_of_nonneg (Int.sub_nonneg_of_le h1)
  · rw [List.length_drop]; exact Nat.le_sub_of_add_le' (Nat.le_trans (Nat.le_of_eq (tNat h0 h1)) (Int.toNat_le.mpr h2))
theorem insLen {α : Type} {F : List α} {s : α} {a m : Int} (h1 : a ≤ F.length) (h2 : F.length < 14) (h3 : m < 4) : (F.take a.toNat ++ (List.replicate m.toNat s ++ F.drop a.toNat)).length ≤ 16 := by
  rw [insN, List.length_replicate]; exact Nat.add_le_add (Nat.le_of_lt_succ h2) (Int.toNat_le.mpr (Int.lt_add_one_iff.mp h3 : m ≤ 3))
theorem insLen2 {α : Type} {F G : List α} {a : Int} (h0 : 0 ≤ a) (h1 : a ≤ F.length) : ((F.take a.toNat ++ (G ++ F.drop a.toNat)).length : Int) = F.length + G.length := congrArg Int.ofNat insN
theorem insLen' {α : Type} {F : List α} {s : α} {a m : Int} (h0 : 0 ≤ a) (h1 : a ≤ F.length) (hm : 0 ≤ m) : ((F.take a.toNat ++ (List.replicate m.toNat s ++ F.drop a.toNat)).length : Int) = F.length + m := by
  rw [insLen2 h0 h1, List.length_replicate, Int.toNat_of_nonneg hm]
theorem delN {α : Type} {F : List α} {n : Nat} : (F.take n).length + (F.length - n) = F.length := by rw [← List.length_drop, ← List.length_append, List.take_append_drop]
theorem delLen {α : Type} {F : List α} {b e : Int} (h1 : b ≤ e) (h2 : F.length ≤ 16) : (F.take b.toNat ++ F.drop e.toNat).length ≤ 16 := by
  rw [List.length_append, List.length_drop]; exact Nat.le_trans (Nat.le_trans (Nat.add_le_add_left (Nat.sub_le_sub_left (Int.toNat_le_toNat h1) _) _) (Nat.le_of_eq delN)) h2
theorem midLen {α : Type} {F G : List α} {b e : Int} (h0 : 0 ≤ b) (h1 : b ≤ e) (h2 : e ≤ F.length) (hG : (G.length : Int) = e - b) : (F.take b.toNat ++ (G ++ F.drop e.toNat)).length = F.length := by
  have hG' : G.length = (e - b).toNat := congrArg Int.toNat hG
  rw [List.length_append, List.length_append, lenTake h0 (Int.le_trans h1 h2), hG', ← Nat.add_assoc, tNat h0 h1, List.length_drop, Nat.add_sub_of_le (Int.toNat_le.mpr h2)]
theorem big2 {n m : Nat} (h : n ≤ 1000) (k : m ≤ 1000) : n + m ≤ bigN := by unfold bigN; omega
theorem big3 {n m l : Nat} (h : n ≤ 1000) (k : m ≤ 1000) (j : l ≤ 1000) : n + m + l ≤ bigN := by unfold bigN; omega
/-- runs by what they mean -/
noncomputable abbrev ARun := Int × Sem'
noncomputable def lenA (A : List ARun) : Int := (A.map (·.1)).sum
theorem lenA_nil : lenA [] = 0 := rfl
theorem lenA_append (A B : List ARun) : lenA (A ++ B) = lenA A + lenA B := by unfold lenA; rw [List.map_append, List.sum_append]
theorem lenA_cons (x : ARun) (A : List ARun) : lenA (x :: A) = x.1 + lenA A := by unfold lenA; rw [List.map_cons, List.sum_cons]
noncomputable def PosA (A : List ARun) : Prop := ∀ x ∈ A, 0 < x.1
theorem PosA.app {A B : List ARun} (h : PosA (A ++ B)) : PosA A ∧ PosA B := ⟨fun x hx => h x (by simp [hx]), fun x hx => h x (by simp [hx])⟩
theorem PosA.cons {x : ARun} {B : List ARun} (h : PosA (x :: B)) : 0 < x.1 ∧ PosA B := ⟨h x (by simp), fun y hy => h y (by simp [hy])⟩
theorem PosA.mk {A B : List ARun} (h : PosA A) (k : PosA B) : PosA (A ++ B) := fun x hx => (List.mem_append.mp hx).elim (h x) (k x)
theorem lenA_nonneg {A : List ARun} (h : PosA A) : 0 ≤ lenA A := by
  induction A with
  | nil => exact Int.le_refl _
  | cons x A ih => have := ih h.cons.2; have := h.cons.1; rw [lenA_cons]; omega
noncomputable def flat : List ARun → List Sem'
  | [] => []
  | (n, s) :: A => List.replicate n.toNat s ++ flat A
theorem flat_append : ∀ A B : List ARun, flat (A ++ B) = flat A ++ flat B
  | [], B => rfl
  | (n, s) :: A, B => by simp only [List.cons_append, flat, flat_append A B, List.append_assoc]
theorem flat_cons (n : Int) (s : Sem') (A : List ARun) : flat ((n, s) :: A) = List.replicate n.toNat s ++ flat A := rfl
theorem flat_len {A : List ARun} (h : PosA A) : ((flat A).length : Int) = lenA A := by
  induction A with
  | nil => rfl
  | cons x A ih =>
    obtain ⟨n, s⟩ := x
    have := ih h.cons.2
    have h1 := h.cons.1
    rw [flat_cons, lenA_cons, List.length_append, List.length_replicate]
    simp only at h1 ⊢
    push_cast; omega
/-- where a boundary may stand between like runs -/
noncomputable def Can (S : Int → Prop) : Int → Option Sem' → List ARun → Prop
  | _, _, [] => True
  | b, pr, (n, s) :: A => (pr = some s → S b) ∧ Can S (b + n) (some s) A
noncomputable def lastS : Option Sem' → List ARun → Option Sem'
  | pr, [] => pr
  | _, (_, s) :: A => lastS (some s) A
theorem lastS_append : ∀ (pr : Option Sem') (A B : List ARun), lastS pr (A ++ B) = lastS (lastS pr A) B
  | pr, [], B => rfl
  | pr, (n, s) :: A, B => lastS_append (some s) A B
theorem can_append {S : Int → Prop} : ∀ (A B : List ARun) (b : Int) (pr : Option Sem'), Can S b pr (A ++ B) ↔ Can S b pr A ∧ Can S (b + lenA A) (lastS pr A) B
  | [], B, b, pr => by
    rw [lenA_nil, Int.add_zero]; exact ⟨fun h => ⟨trivial, h⟩, fun h => h.2⟩
  | (n, s) :: A, B, b, pr => by
    simp only [List.cons_append, Can, lastS, lenA_cons, can_append A B (b + n) (some s), and_assoc, Int.add_assoc]
theorem can_cons {S : Int → Prop} {n : Int} {s : Sem'} {A : List ARun} {b : Int} {pr : Option Sem'} : Can S b pr ((n, s) :: A) ↔ (pr = some s → S b) ∧ Can S (b + n) (some s) A := Iff.rfl
theorem can_mono {S S' : Int → Prop} : ∀ {A : List ARun} {b : Int} {pr : Option Sem'}, PosA A → Can S b pr A → (∀ x, b ≤ x → x < b + lenA A → S x → S' x) → Can S' b pr A
  | [], _, _, _, _, _ => trivial
  | (n, s) :: A, b, pr, hp, ⟨h1, h2⟩, hs => by
    have hn := hp.cons.1
    have := lenA_nonneg hp.cons.2
    rw [lenA_cons] at hs
    simp only at hn hs
    exact ⟨fun e => hs b (by omega) (by omega) (h1 e), can_mono hp.cons.2 h2 fun x g1 g2 => hs x (by omega) (by omega)⟩
theorem can_all {S : Int → Prop} : ∀ {A : List ARun} {b : Int} {pr : Option Sem'}, PosA A → (∀ x, b ≤ x → x < b + lenA A → S x) → Can S b pr A
  | [], _, _, _, _ => trivial
  | (n, s) :: A, b, pr, hp, hs => by
    have hn := hp.cons.1
    have := lenA_nonneg hp.cons.2
    rw [lenA_cons] at hs
    simp only at hn hs
    exact ⟨fun e => hs b (by omega) (by omega), can_all hp.cons.2 fun x g1 g2 => hs x (by omega) (by omega)⟩
noncomputable def No : Int → Prop := fun _ => False
theorem can_shift : ∀ {A : List ARun} {b c : Int} {pr : Option Sem'}, Can No b pr A → Can No c pr A
  | [], _, _, _, _ => trivial
  | (n, s) :: A, b, c, pr, ⟨h1, h2⟩ => ⟨h1, can_shift h2⟩
theorem can_no {S : Int → Prop} {A : List ARun} {b : Int} {pr : Option Sem'} (hp : PosA A) (h : Can S b pr A) (hs : ∀ x, b ≤ x → x < b + lenA A → ¬ S x) : Can No b pr A := can_mono hp h fun x g1 g2 g3 => hs x g1 g2 g3

/-- a run divided by nothing: S may lose what is no boundary -/
theorem can_at {S : Int → Prop} {X Y : List ARun} {n : Int} {s : Sem'} (hp : PosA (X ++ (n, s) :: Y)) (h : Can S 0 none (X ++ (n, s) :: Y)) : Can (fun x => S x ∧ (x ≤ lenA X ∨ lenA X + n ≤ x)) 0 none (X ++ (n, s) :: Y) := by
  rw [can_append, can_cons] at h ⊢
  revert h; refine o0_3 fun h1 h2 h3 => ?_
  have p1 := hp.app.1
  have p2 := hp.app.2.cons
  refine ⟨can_mono p1 h1 fun x g1 g2 g3 => ⟨g3, by omega⟩, fun e => ⟨h2 e, by omega⟩, can_mono p2.2 h3 fun x g1 g2 g3 => ⟨g3, by omega⟩⟩
/-- like runs joined -/
theorem can_join {S : Int → Prop} {X Y : List ARun} {n m : Int} {s : Sem'} (hp : PosA (X ++ (n, s) :: (m, s) :: Y)) (h : Can S 0 none (X ++ (n, s) :: (m, s) :: Y)) : Can (fun x => S x ∧ x ≠ lenA X + n) 0 none (X ++ (n + m, s) :: Y) := by
  rw [can_append, can_cons, can_cons] at h
  rw [can_append, can_cons]
  revert h; refine o0_4 fun h1 h2 h3 h4 => ?_
  have p1 := hp.app.1
  have p2 := hp.app.2.cons
  have p3 := p2.2.cons
  have n1 := p2.1
  have n2 := p3.1
  simp only at n1 n2
  refine ⟨can_mono p1 h1 fun x g1 g2 g3 => ⟨g3, by omega⟩, fun e => ⟨h2 e, by omega⟩, ?_⟩
  rw [show 0 + lenA X + (n + m) = 0 + lenA X + n + m by omega]
  exact can_mono p3.2 h4 fun x g1 g2 g3 => ⟨g3, by omega⟩
/-- unlike runs: their boundary is no fault -/
theorem can_unlike {S : Int → Prop} {X Y : List ARun} {n m : Int} {s t : Sem'} (hne : s ≠ t) (hp : PosA (X ++ (n, s) :: (m, t) :: Y)) (h : Can S 0 none (X ++ (n, s) :: (m, t) :: Y)) : Can (fun x => S x ∧ x ≠ lenA X + n) 0 none (X ++ (n, s) :: (m, t) :: Y) := by
  rw [can_append, can_cons, can_cons] at h ⊢
  revert h; refine o0_4 fun h1 h2 h3 h4 => ?_
  have p1 := hp.app.1
  have p2 := hp.app.2.cons
  have p3 := p2.2.cons
  have n1 := p2.1
  have n2 := p3.1
  simp only at n1 n2
  refine ⟨can_mono p1 h1 fun x g1 g2 g3 => ⟨g3, by omega⟩, fun e => ⟨h2 e, by omega⟩, fun e => absurd (Option.some.inj e) hne, can_mono p3.2 h4 fun x g1 g2 g3 => ⟨g3, by omega⟩⟩
/-- no boundary there -/
theorem can_inside {S : Int → Prop} {X Y : List ARun} {n : Int} {s : Sem'} {a : Int} (h1 : lenA X < a) (h2 : a < lenA X + n) (hp : PosA (X ++ (n, s) :: Y)) (h : Can S 0 none (X ++ (n, s) :: Y)) : Can (fun x => S x ∧ x ≠ a) 0 none (X ++ (n, s) :: Y) := by
  have L := lenA_nonneg hp.app.1
  have L2 := lenA_nonneg hp.app.2.cons.2
  exact can_mono hp (can_at hp h) fun x g1 g2 g3 => ⟨g3.1, by have := g3.2; omega⟩
theorem can_outside {S : Int → Prop} {A : List ARun} {a : Int} (h1 : a ≤ 0 ∨ lenA A ≤ a) (hp : PosA A) (h : Can S 0 none A) : Can (fun x => S x ∧ x ≠ a) 0 none A := by
  cases A with
  | nil => trivial
  | cons x A =>
    obtain ⟨n, s⟩ := x
    rw [can_cons] at h ⊢
    have := hp.cons.1
    have := lenA_nonneg hp.cons.2
    rw [lenA_cons] at h1
    simp only at *
    exact ⟨fun e => (nomatch e), can_mono hp.cons.2 h.2 fun x g1 g2 g3 => ⟨g3, by omega⟩⟩
/-- a run cut -/
theorem can_cut {S : Int → Prop} {X Y : List ARun} {n a : Int} {s : Sem'} (h1 : lenA X < a) (h2 : a < lenA X + n) (hp : PosA (X ++ (n, s) :: Y)) (h : Can S 0 none (X ++ (n, s) :: Y)) : Can (fun x => S x ∨ x = a) 0 none (X ++ (a - lenA X, s) :: (lenA X + n - a, s) :: Y) := by
  rw [can_append, can_cons] at h
  rw [can_append, can_cons, can_cons]
  revert h; refine o0_3 fun h3 h4 h5 => ?_
  refine ⟨can_mono hp.app.1 h3 fun x g1 g2 g3 => .inl g3, fun e => .inl (h4 e), fun _ => .inr (by omega), ?_⟩
  rw [show 0 + lenA X + (a - lenA X) + (lenA X + n - a) = 0 + lenA X + n by omega]
  exact can_mono hp.app.2.cons.2 h5 fun x g1 g2 g3 => .inl g3
theorem flat_cut {X Y : List ARun} {n a : Int} {s : Sem'} (h1 : lenA X < a) (h2 : a < lenA X + n) : flat (X ++ (a - lenA X, s) :: (lenA X + n - a, s) :: Y) = flat (X ++ (n, s) :: Y) := by
  rw [flat_append, flat_append, flat_cons, flat_cons, flat_cons, ← List.append_assoc (List.replicate _ _), List.replicate_append_replicate, show (a - lenA X).toNat + (lenA X + n - a).toNat = n.toNat by omega]
theorem flat_join {X Y : List ARun} {n m : Int} {s : Sem'} (h1 : 0 ≤ n) (h2 : 0 ≤ m) : flat (X ++ (n + m, s) :: Y) = flat (X ++ (n, s) :: (m, s) :: Y) := by
  rw [flat_append, flat_append, flat_cons, flat_cons, flat_cons, ← List.append_assoc (List.replicate _ _), List.replicate_append_replicate, show (n + m).toNat = n.toNat + m.toNat by omega]
/-- a stretch changed -/
theorem can_stretch {X M M' Y : List ARun} {b e : Int} (hX : lenA X = b) (hM : lenA M = e - b) (hM' : lenA M' = e - b) (hp : PosA (X ++ (M ++ Y))) (hp' : PosA M') (h : Can (fun x => x = b ∨ x = e) 0 none (X ++ (M ++ Y))) : Can (fun x => b ≤ x ∧ x ≤ e) 0 none (X ++ (M' ++ Y)) := by
  rw [can_append, can_append] at h ⊢
  revert h; refine o0_3 fun h1 h2 h3 => ?_
  have pX := hp.app.1
  have pM := hp.app.2.app.1
  have pY := hp.app.2.app.2
  have L1 := lenA_nonneg pX
  have L2 := lenA_nonneg pM
  refine ⟨can_mono pX h1 fun x g1 g2 g3 => by omega, can_all hp' fun x g1 g2 => by omega, ?_⟩
  rw [hM'] 
  rw [hM] at h3
  cases Y with
  | nil => trivial
  | cons y Y =>
    obtain ⟨n, s⟩ := y
    rw [can_cons] at h3 ⊢
    have := pY.cons.1
    simp only at this
    refine ⟨fun _ => by omega, can_mono pY.cons.2 h3.2 fun x g1 g2 g3 => by omega⟩
/-- a run put between -/
theorem can_insert {S : Int → Prop} {X Y : List ARun} {m at' : Int} {s : Sem'} (hX : lenA X = at') (hm : 0 < m) (hS : ∀ x, S x → x ≤ at') (hp : PosA (X ++ Y)) (h : Can S 0 none (X ++ Y)) : Can (fun x => S x ∨ x = at' ∨ x = at' + m) 0 none (X ++ (m, s) :: Y) := by
  rw [can_append] at h
  rw [can_append, can_cons]
  obtain ⟨h1, h2⟩ := h
  refine ⟨can_mono hp.app.1 h1 fun x g1 g2 g3 => .inl g3, fun _ => by omega, ?_⟩
  cases Y with
  | nil => trivial
  | cons y Y =>
    obtain ⟨n, t⟩ := y
    rw [can_cons] at h2 ⊢
    have p := hp.app.2.cons
    have := p.1
    simp only at this
    refine ⟨fun _ => by omega, ?_⟩
    have h3 : Can No (0 + lenA X + n) (some t) Y := can_no p.2 h2.2 fun x g1 g2 g3 => by have := hS x g3; omega
    exact can_mono p.2 (can_shift h3) fun x g1 g2 g3 => g3.elim
/-- a stretch taken out -/
theorem can_delete {X M Y : List ARun} {b e : Int} (hX : lenA X = b) (hM : lenA M = e - b) (hp : PosA (X ++ (M ++ Y))) (h : Can (fun x => x = b ∨ x = e) 0 none (X ++ (M ++ Y))) : Can (fun x => x = b) 0 none (X ++ Y) := by
  rw [can_append, can_append] at h
  rw [can_append]
  revert h; refine o0_3 fun h1 h2 h3 => ?_
  have pX := hp.app.1
  have pM := hp.app.2.app.1
  have pY := hp.app.2.app.2
  have L2 := lenA_nonneg pM
  refine ⟨can_mono pX h1 fun x g1 g2 g3 => by omega, ?_⟩
  cases Y with
  | nil => trivial
  | cons y Y =>
    obtain ⟨n, s⟩ := y
    rw [can_cons] at h3 ⊢
    have := pY.cons.1
    simp only at this
    refine ⟨fun _ => by omega, ?_⟩
    have h4 : Can No (0 + lenA X + lenA M + n) (some s) Y := can_no pY.cons.2 h3.2 fun x g1 g2 g3 => by omega
    exact can_mono pY.cons.2 (can_shift h4) fun x g1 g2 g3 => g3.elim
theorem flat_take {X Y : List ARun} {b : Int} (hp : PosA X) (hX : lenA X = b) : (flat (X ++ Y)).take b.toNat = flat X ∧ (flat (X ++ Y)).drop b.toNat = flat Y := by
  have h := flat_len hp
  have e : b.toNat = (flat X).length := by omega
  rw [flat_append, e]
  exact ⟨List.take_left' rfl, List.drop_left' rfl⟩

inductive RSt (σ : Store) : List Run → List ARun → Prop
  | nil : RSt σ [] []
  | cons {a : Addr} {n : Int} {p : V} {R : List Run} {A : List ARun} {L : PLs} : PL σ p L → PLok L → RSt σ R A → RSt σ ((a, n, p) :: R) ((n, sem L) :: A)
section
variable {σ σ' : Store}
theorem RSt.imm (k : Imm σ σ') {R : List Run} {A : List ARun} (h : RSt σ R A) : RSt σ' R A := by
  induction h with
  | nil => exact .nil
  | cons h1 h2 _ ih => exact .cons (h1.imm k) h2 ih
theorem RSt.append {R S : List Run} {A B : List ARun} (h : RSt σ R A) (k : RSt σ S B) : RSt σ (R ++ S) (A ++ B) := by
  induction h with
  | nil => exact k
  | cons h1 h2 _ ih => exact .cons h1 h2 ih
theorem RSt.split {S : List Run} : ∀ {R : List Run} {A : List ARun}, RSt σ (R ++ S) A → ∃ B D, A = B ++ D ∧ RSt σ R B ∧ RSt σ S D
  | [], A, h => ⟨[], A, rfl, .nil, h⟩
  | x :: R, A, h => by
    cases h with
    | cons h1 h2 h3 =>
      refine o2_3 (fun B D rf2_ a b => ?_) (RSt.split (R := R) h3); subst rf2_
      exact ⟨_ :: B, D, rfl, .cons h1 h2 a, b⟩
theorem RSt.len {R : List Run} {A : List ARun} (h : RSt σ R A) : lenR R = lenA A := by
  induction h with
  | nil => rfl
  | cons h1 h2 _ ih => rw [lenR_cons, lenA_cons, ih]
theorem RSt.pos {R : List Run} {A : List ARun} (h : RSt σ R A) (hp : PosR R) : PosA A := by
  induction h with
  | nil => exact fun _ h => nomatch h
  | @cons a n p R A L h1 h2 h3 ih =>
    intro x hx
    rcases List.mem_cons.mp hx with rfl | hx
    · exact hp (a, n, p) (.head _)
    · exact ih (fun y hy => hp y (.tail _ hy)) x hx
theorem RSt.cons_inv {a : Addr} {n : Int} {p : V} {R : List Run} {A : List ARun} (h : RSt σ ((a, n, p) :: R) A) : ∃ L B, A = (n, sem L) :: B ∧ PL σ p L ∧ PLok L ∧ RSt σ R B := by
  cases h with
  | cons h1 h2 h3 => exact ⟨_, _, rfl, h1, h2, h3⟩
theorem RSt.cut {σ0 : Store} {at' : Int} {R R' : List Run} {A : List ARun} (hc : Cut σ0 at' R R') (h : RSt σ R A) (hp : PosR R) :
    ∃ A', RSt σ R' A' ∧ flat A' = flat A ∧ ∀ S, Can S 0 none A → Can (fun x => S x ∨ x = at') 0 none A' := by
  cases hc with
  | same => exact ⟨A, h, rfl, fun S hS => can_mono (h.pos hp) hS fun x _ _ g => .inl g⟩
  | @cut xs ys a f n p h1 h2 h3 =>
    have pA := h.pos hp
    refine o2_3 (fun B D rf2_ hb hd => ?_) (h.split); subst rf2_
    refine o2_4 (fun L D rf2_ g1 g2 g3 => ?_) (hd.cons_inv); subst rf2_
    have e := hb.len
    rw [e] at h1 h2 ⊢
    exact ⟨B ++ (at' - lenA B, sem L) :: (lenA B + n - at', sem L) :: D, hb.append (.cons g1 g2 (.cons g1 g2 g3)), flat_cut h1 h2, fun S hS => can_cut h1 h2 pA hS⟩
theorem HT.form {tr : Addr} {R : List Run} (h : HT σ tr R) {x : Addr} (hx : x ∈ ownR tr R) : (∃ v, σ x = some (treeO v)) ∨ ∃ t p l r q, σ x = some (node t p l r q) := by
  revert h; refine o1_2 fun t W rf2_ => ?_; subst rf2_
  have hx : x ∈ ownS tr [] t := ownS_R'.mpr (by simpa [plug] using hx)
  simp only [ownS, adsC, List.append_nil, List.mem_cons] at hx
  rcases hx with rfl | hx
  · exact .inl ⟨_, W.cc⟩
  · exact .inr (W.tt.mem hx)
noncomputable def PR (σ : Store) (pr tr : Addr) : Prop := ∃ Cc, σ pr = some (.inst Cc [("tree", .ref tr)])
structure Post (tr : Addr) (R : List Run) (σ : Store) (R' : List Run) (σ' : Store) : Prop where
  ht : HT σ' tr R'
  pos : PosR R'
  kp : Keep (ownR tr R) σ σ'
  ad : ∀ x ∈ ownR tr R', x ∈ ownR tr R ∨ σ x = none
theorem Post.refl {tr : Addr} {R : List Run} (h : HT σ tr R) (hp : PosR R) : Post tr R σ R σ := ⟨h, hp, Keep.refl _ _, fun x hx => .inl hx⟩
theorem Post.trans {σ1 σ2 : Store} {tr : Addr} {R R1 R2 : List Run} (h : Post tr R σ R1 σ1) (k : Post tr R1 σ1 R2 σ2) : Post tr R σ R2 σ2 where
  ht := k.ht
  pos := k.pos
  kp := h.kp.none k.kp h.ad
  ad x hx := by
    rcases k.ad x hx with g | g
    · exact h.ad x g
    · by_cases hm : x ∈ ownR tr R
      · exact .inl hm
      · right
        cases q : σ x with
        | none => rfl
        | some o => rw [h.kp x o hm q] at g; cases g
theorem Post.imm {tr : Addr} {R R' : List Run} (k : Post tr R σ R' σ') (h : HT σ tr R) : Imm σ σ' := h.keepImm k.kp
theorem PR.off {pr tr tr' : Addr} {R : List Run} (hpr : PR σ pr tr) (h : HT σ tr' R) : pr ∉ ownR tr' R := fun hx => by
  obtain ⟨Cc, hpr⟩ := hpr
  rcases h.form hx with ⟨v, g⟩ | ⟨t, p, l, r, q, g⟩
  · rw [hpr] at g; cases g
  · rw [hpr] at g; cases g
theorem Post.pr {pr tr tr' : Addr} {R R' : List Run} (k : Post tr R σ R' σ') (h : HT σ tr R) (hpr : PR σ pr tr') : PR σ' pr tr' := by
  have := hpr.off h
  obtain ⟨Cc, hpr⟩ := hpr
  exact ⟨Cc, k.kp _ _ this hpr⟩
theorem HT.ext {tr : Addr} {R : List Run} (h : HT σ tr R) (x : Ext σ σ') : HT σ' tr R := h.keep (S := []) x.keep fun _ _ h => nomatch h
theorem PR.ext {tr pr : Addr} (h : PR σ pr tr) (x : Ext σ σ') : PR σ' pr tr := h.imp fun _ h => x _ _ h
theorem Post.ext {tr : Addr} {R : List Run} (h : HT σ tr R) (hp : PosR R) (x : Ext σ σ') : Post tr R σ R σ' := ⟨h.ext x, hp, x.keep, fun x hx => .inl hx⟩
noncomputable def JP (at' : Int) (A A' : List ARun) : Prop := flat A' = flat A ∧ ∀ S, Can S 0 none A → Can (fun x => S x ∧ x ≠ at') 0 none A'
end

section
variable {w : World} {C : Nat → CL} {lv : Nat} {σ : Store} {Q : PE}
theorem join_ok (P : Prg w C) {pr tr : Addr} {R : List Run} {A : List ARun} {at' : Int} (hpr : PR σ pr tr) (H : HT σ tr R) (hp : PosR R) (hs : lenR R ≤ 1000) (hA : RSt σ R A)
    (h : ∀ σ' R' A', Post tr R σ R' σ' → RSt σ' R' A' → JP at' A A' → Q .none σ') : C (lv + 7) "join_at" [.ref pr, .int at'] σ Q := by
  refine P.fn rfl rfl ?_
  have pA := hA.pos hp
  have out : ¬ (0 < at' ∧ at' < lenR R) → Q .none σ := fun hn => h σ R A (.refl H hp) hA ⟨rfl, fun S hS => can_outside (by rw [← hA.len]; omega) pA hS⟩
  obtain ⟨Cc, hpr'⟩ := id hpr
  walk_at "aw"
  refine w_if (fun z => ?_) fun z => ?_
  · have z := of_decide_eq_true z
    walk_at "aw"
    refine tl_ok P H ?_
    walk_at "aw"
    refine w_if (fun z2 => ?_) fun z2 => ?_
    · have z2 : ¬ at' < lenR R := by simpa using z2
      walk_at "aw"
      exact out fun q => z2 q.2
    · have z2 : at' < lenR R := by simpa using z2
      walk_at "aw"
      refine findR_ok P H hp (by omega) z2 fun xs a n p ys tup c l r eR W eL eY g1 g2 g3 => ?_
      have x1 : Ext σ (upd σ tup (.tup [.ref a, .int (lenR xs)])) := Ext.new g3
      have W1 : WT (upd σ tup (.tup [.ref a, .int (lenR xs)])) tr c (.nd a n p l r) := W.upd (W.off g3 (.inr rfl))
      have tt1 : upd σ tup (.tup [.ref a, .int (lenR xs)]) tup = some (.tup [.ref a, .int (lenR xs)]) := upd_self
      generalize upd σ tup (.tup [.ref a, .int (lenR xs)]) = σ1 at *
      subst eR
      refine o2_3 (fun B D rf2_ hb hd => ?_) (hA.split); subst rf2_
      obtain ⟨L, D, rfl, gL, okL, hd⟩ := hd.cons_inv
      have elen := hb.len
      walk_at "aw"
      refine g_Tup tt1 rfl ?_
      refine g_cons (g_Name ?_)
      refine g_cons (g_Name ?_)
      refine g_nil ?_
      walk_at "aw"
      have P1 := Post.ext H hp x1
      have HR1 := P1.ht
      have hA1 := (hb.append (.cons gL okL hd)).imm (R := xs ++ (a, n, p) :: ys) x1.imm
      refine w_if (fun z3 => ?_) fun z3 => ?_
      · have z3 : lenR xs ≠ at' := by simpa using z3
        walk_at "aw"
        exact h σ1 _ _ P1 hA1 ⟨rfl, fun S hS => can_inside (by omega) (by omega) pA hS⟩
      · have z3 : lenR xs = at' := by simpa using z3
        walk_at "aw"
        refine preceding_ok P W1 ?_
        rw [← eL]
        walk_at "aw"
        rcases List.eq_nil_or_concat xs with rfl | ⟨xs', ⟨b, nb, pb⟩, rfl⟩
        · exfalso
          have : lenR ([] : List Run) = 0 := rfl
          omega
        have eV : lastV (xs'.concat (b, nb, pb)) = .ref b := by simp [lastV, headV]
        rw [eV]
        simp only [List.concat_eq_append] at *
        refine o2_3 (fun B B2 rf2_ hb0 hb2 => ?_) (hb.split); subst rf2_
        refine o2_4 (fun M B3 rf2_ gM okM hb3 => ?_) (hb2.cons_inv); subst rf2_
        have : B3 = [] := by cases hb3; rfl
        subst this
        have eA : (B ++ [(nb, sem M)]) ++ (n, sem L) :: D = B ++ (nb, sem M) :: (n, sem L) :: D := by simp
        have eR' : (xs' ++ [(b, nb, pb)]) ++ (a, n, p) :: ys = xs' ++ (b, nb, pb) :: (a, n, p) :: ys := by simp
        refine o3_3 (fun c2 l2 r2 W2 f1 f2 => ?_) ((eR' ▸ HR1).at)
        have nb1 := W2.tt.1
        have na1 := W1.tt.1
        have elB := hb0.len
        have ell : lenA B + nb = at' := by rw [← z3, lenR_append, elB, lenR_cons]; simp [lenR]
        rw [eA] at pA
        walk_at "aw"
        refine same_ok P (gM.imm x1.imm) (gL.imm x1.imm) okM okL fun same hsame => ?_
        walk_at "aw"
        refine w_if (fun z4 => ?_) fun z4 => ?_
        · have es := hsame.mp z4
          obtain ⟨Cc1, pr1'⟩ := P1.pr H hpr
          walk_at "aw"
          refine own_ok P W1.tt ?_
          walk_at "aw"
          refine dropR_ok P W1 eL eY hp hs fun σ2 H2 k2 => ?_
          refine ⟨trivial, ?_⟩
          have eR2 : xs' ++ [(b, nb, pb)] ++ ys = xs' ++ (b, nb, pb) :: ys := by simp
          rw [eR2] at H2
          have hpp : PosR (xs' ++ (b, nb + n, pb) :: ys) := fun x hx => by
            rw [eR'] at hp
            simp only [List.mem_append, List.mem_cons] at hx
            rcases hx with hx | rfl | hx
            · exact hp x (by simp [hx])
            · have i1 := hp (b, nb, pb) (by simp)
              have i2 := hp (a, n, p) (by simp)
              simp only at i1 i2 ⊢; omega
            · exact hp x (by simp [hx])
          have hss : lenR (xs' ++ (b, nb + n, pb) :: ys) ≤ 1000 := by
            rw [eR'] at hs
            simp only [lenR_append, lenR_cons] at hs ⊢; omega
          have P2 : Post tr (xs' ++ [(b, nb, pb)] ++ (a, n, p) :: ys) σ1 (xs' ++ (b, nb, pb) :: ys) σ2 := ⟨H2, fun x hx => hp x (by rw [eR']; simp only [List.mem_append, List.mem_cons] at hx ⊢; rcases hx with hx | hx | hx <;> simp [hx]), k2, fun x hx => .inl (by simp only [ownR, List.map_append, List.map_cons, List.mem_cons, List.mem_append] at hx ⊢; grind)⟩
          have pr2 : PR σ2 pr tr := P2.pr HR1 (P1.pr H hpr)
          obtain ⟨Cc2, pr2'⟩ := id pr2
          refine o3_3 (fun c3 l3 r3 W3 f3 f4 => ?_) (H2.at)
          walk_at "aw"
          refine add_at P W3 fun σ3 W4 k3 => ?_
          refine ⟨trivial, ?_⟩
          have eio3 : (plug c3 (.nd b nb pb l3 r3)).io = xs' ++ (b, nb, pb) :: ys := by rw [plug_io, f3, f4]; simp [T.io]
          have eio4 : (plug c3 (.nd b (nb + n) pb l3 r3)).io = xs' ++ (b, nb + n, pb) :: ys := by rw [plug_io, f3, f4]; simp [T.io]
          have H4 : HT σ3 tr (xs' ++ (b, nb + n, pb) :: ys) := by rw [← eio4]; exact HT.of W4
          have P3 : Post tr (xs' ++ (b, nb, pb) :: ys) σ2 (xs' ++ (b, nb + n, pb) :: ys) σ3 := ⟨H4, hpp, k3.mono fun x hx => by rw [← eio3]; exact ownS_R'.mp hx, fun x hx => .inl (by simpa [ownR] using hx)⟩
          obtain ⟨Cc3, pr3'⟩ := P3.pr H2 pr2
          walk_at "aw"
          have W5 := wt_L.mpr W4
          have epl : plug (.L b (nb + n) pb r3 :: c3) l3 = plug c3 (.nd b (nb + n) pb l3 r3) := rfl
          refine up_ok P W5 (by rw [epl, pos_io, eio4]; exact hpp) (by rw [epl, size_io, eio4]; exact hss) fun t' σ4 W6 e6 k6 => ?_
          refine ⟨trivial, ?_⟩
          walk_at "aw"
          have H5 : HT σ4 tr (xs' ++ (b, nb + n, pb) :: ys) := ⟨t', W6, by rw [e6, epl, eio4]⟩
          have P4 : Post tr (xs' ++ (b, nb + n, pb) :: ys) σ3 (xs' ++ (b, nb + n, pb) :: ys) σ4 := ⟨H5, hpp, k6.mono fun x hx => by rw [← eio4, ← epl]; exact ownS_R'.mp hx, fun x hx => .inl hx⟩
          have PP := ((P1.trans P2).trans P3).trans P4
          rw [es] at pA
          refine h σ4 _ (B ++ (nb + n, sem M) :: D) PP ((hb0.append (.cons gM okM hd)).imm (PP.imm H)) ⟨?_, fun S hS => ?_⟩
          · rw [eA, ← es]
            rw [← es] at pA
            have i1 := pA (nb, sem M) (by simp)
            have i2 := pA (n, sem M) (by simp)
            exact flat_join (by simp only at i1; omega) (by simp only at i2; omega)
          · rw [eA] at hS
            rw [es] at hS ⊢
            rw [← ell]
            exact can_join pA hS
        · have es : sem M ≠ sem L := fun e => by rw [hsame.mpr e] at z4; cases z4
          walk_at "aw"
          refine h σ1 _ _ P1 hA1 ⟨rfl, fun S hS => ?_⟩
          rw [eA] at hS ⊢
          rw [← ell]
          exact can_unlike es pA hS
  · have z := of_decide_eq_false z
    walk_at "aw"
    exact out fun q => z q.1
end

theorem len_same {σ σ' : Store} {R R' : List Run} {A A' : List ARun} (h : RSt σ R A) (h' : RSt σ' R' A') (hp : PosR R) (hp' : PosR R') (e : flat A' = flat A) : lenR R' = lenR R := by
  rw [h.len, h'.len, ← flat_len (h.pos hp), ← flat_len (h'.pos hp'), e]
theorem Ext.upd_new {σ σ1 : Store} {a : Addr} {o : O} (k : Ext σ σ1) (h : σ a = none) : Ext σ (upd σ1 a o) := fun x o' e => upd_at (fun q => by rw [q, h] at e; cases e) (k x o' e)
section
variable {w : World} {C : Nat → CL} {lv : Nat} {σ : Store} {Q : PE}
theorem range_join_ok (P : Prg w C) {pr tr : Addr} {R : List Run} {A : List ARun} {b e : Int} (hpr : PR σ pr tr) (H : HT σ tr R) (hp : PosR R) (hs : lenR R ≤ 1000) (hA : RSt σ R A) (h0 : 0 ≤ b)
    (h : ∀ σ' R' A', Post tr R σ R' σ' → RSt σ' R' A' → flat A' = flat A → (Can (fun x => b ≤ x ∧ x ≤ e) 0 none A → Can No 0 none A') → Q .none σ') : C (lv + 8) "join_range" [.ref pr, .int b, .int e] σ Q := by
  refine P.fn rfl rfl ?_
  walk_at "aw"
  refine while_ind (α := Int) (fun at' => (lenR R - at').toNat) (fun at' ρ σ1 => ∃ R1 A1, 0 ≤ at' ∧ Post tr R σ R1 σ1 ∧ RSt σ1 R1 A1 ∧ flat A1 = flat A ∧ (Can (fun x => b ≤ x ∧ x ≤ e) 0 none A → Can (fun x => at' ≤ x ∧ x ≤ e) 0 none A1) ∧ ρ "props" = some (.ref pr) ∧ ρ "end" = some (.int e) ∧ ρ "at" = some (.int at')) ?_ b _ _ ⟨R, A, h0, .refl H hp, hA, rfl, id, by walk_at "lv", by walk_at "lv", by walk_at "lv"⟩
  rintro at' ρ σ1 PP ⟨R1, A1, g0, P1, hA1, ef, hc, q1, q2, q3⟩ hP
  refine while_turn ?_
  have elen := len_same hA hA1 hp P1.pos ef
  have pA1 := hA1.pos P1.pos
  have pr1 := P1.pr H hpr
  obtain ⟨Cc, pr1'⟩ := id pr1
  have fin : ¬ (at' ≤ e ∧ at' < lenR R1) → ∀ Q2 : PE, (∀ σ', Q .none σ' → Q2 .none σ') → C (lv + 7) "join_at" [.ref pr, .int e] σ1 Q2 := fun hn Q2 hQ2 =>
    join_ok P pr1 P1.ht P1.pos (by omega) hA1 fun σ2 R2 A2 P2 hA2 jp => hQ2 _ (h σ2 R2 A2 (P1.trans P2) hA2 (jp.1.trans ef) fun hb => by
      have c1 := hc hb
      have c2 : Can No 0 none A1 := can_no pA1 c1 fun x g1 g2 g3 => hn ⟨by omega, by rw [hA1.len]; omega⟩
      exact can_mono (hA2.pos P2.pos) (jp.2 No c2) fun x _ _ g => g.1)
  walk_at "aw"
  refine w_if (fun z => ?_) fun z => ?_
  · have z := of_decide_eq_true z
    walk_at "aw"
    refine tl_ok P P1.ht ?_
    walk_at "aw"
    refine w_if (fun z2 => ?_) fun z2 => ?_
    · have z2 := of_decide_eq_true z2
      walk_at "aw"
      refine findR_ok P P1.ht P1.pos g0 z2 fun xs a n p ys tup c l r eR W eL eY g1 g2 g3 => ?_
      have x1 : Ext σ1 (upd σ1 tup (.tup [.ref a, .int (lenR xs)])) := Ext.new g3
      have W1 : WT (upd σ1 tup (.tup [.ref a, .int (lenR xs)])) tr c (.nd a n p l r) := W.upd (W.off g3 (.inr rfl))
      have tt1 : upd σ1 tup (.tup [.ref a, .int (lenR xs)]) tup = some (.tup [.ref a, .int (lenR xs)]) := upd_self
      generalize upd σ1 tup (.tup [.ref a, .int (lenR xs)]) = σ2 at *
      have P2 := Post.ext P1.ht P1.pos x1
      have pr2 := pr1.ext x1
      subst eR
      walk_at "aw"
      refine g_Tup tt1 rfl ?_
      refine g_cons (g_Name ?_)
      refine g_cons (g_Name ?_)
      refine g_nil ?_
      walk_at "aw"
      refine own_ok P W1.tt ?_
      walk_at "aw"
      refine join_ok P pr2 P2.ht P2.pos (by omega) (hA1.imm x1.imm) fun σ3 R3 A3 P3 hA3 jp => ?_
      refine ⟨trivial, ?_⟩
      walk_at "aw"
      refine hP (lenR xs + n) _ _ ⟨R3, A3, by have := lenR_nonneg (P1.pos.app).1; have := P1.pos (a, n, p) (by simp); simp only at this; omega, (P1.trans P2).trans P3, hA3, jp.1.trans ef, fun hb => ?_, by walk_at "lv", by walk_at "lv", by walk_at "lv"⟩ (by omega)
      refine o2_3 (fun B D rf2_ hb0 hd => ?_) (hA1.split); subst rf2_
      refine o2_4 (fun L D rf2_ gL okL hd => ?_) (hd.cons_inv); subst rf2_
      have := jp.2 _ (can_at pA1 (hc hb))
      rw [← hb0.len] at this
      exact can_mono (hA3.pos P3.pos) this fun x _ _ g => by omega
    · have z2 := of_decide_eq_false z2
      walk_at "aw"
      refine fin (fun q => z2 q.2) _ fun σ' hq => ?_
      refine ⟨trivial, ?_⟩
      walk_at "aw"
      exact hq
  · have z := of_decide_eq_false z
    walk_at "aw"
    refine fin (fun q => z q.1) _ fun σ' hq => ?_
    refine ⟨trivial, ?_⟩
    walk_at "aw"
    exact hq

theorem HT.setp {tr a : Addr} {xs ys : List Run} {n t : Int} {p p' l r q : V} (H : HT σ tr (xs ++ (a, n, p) :: ys)) (ha : σ a = some (node t p l r q)) : HT (Mine.upd σ a (node t p' l r q)) tr (xs ++ (a, n, p') :: ys) := by
  refine o3_3 (fun c lt rt W e1 e2 => ?_) (H.at)
  refine o0_3 (fun h1 h2 h3 => ?_) (W.tt)
  have nn := W.nn
  rw [ha] at h1
  cases h1
  have nn' := nn
  simp only [ownS, T.ads, List.nodup_cons, List.nodup_append, List.mem_cons, List.mem_append, not_or] at nn'
  have W' : WT (Mine.upd σ a (node (n + lt.size + rt.size) p' lt.root rt.root (par c))) tr c (.nd a n p' lt rt) := by
    refine ⟨⟨upd_self, h2.keep Keep.upd fun x hx => ?_, h3.keep Keep.upd fun x hx => ?_⟩, W.cc.keep Keep.upd ?_ fun x hx => ?_, nn⟩
    · simp only [List.mem_singleton]; rintro rfl; exact nn'.2.1.1.1 hx
    · simp only [List.mem_singleton]; rintro rfl; exact nn'.2.1.1.2 hx
    · simp only [List.mem_singleton]; exact nn'.1.1.1
    · simp only [List.mem_singleton]; rintro rfl; exact nn'.2.2.2 _ (.inl rfl) _ hx rfl
  have := HT.io W'
  rwa [← e1, ← e2] at this

theorem nodes_ok (P : Prg w C) {pr tr : Addr} {R : List Run} {A : List ARun} {b e : Int} (hpr : PR σ pr tr) (H : HT σ tr R) (hp : PosR R) (hs : lenR R ≤ 1000) (hA : RSt σ R A) (h0 : 0 ≤ b) (h1 : e ≤ lenR R)
    (hno : e ≤ b → ∀ la σ', σ' la = some (.list []) → Ext σ σ' → Q (.ref la) σ')
    (h : ∀ σ' xs ms ys la A', b < e → Post tr R σ (xs ++ (ms ++ ys)) σ' → lenR xs = b → lenR ms = e - b → RSt σ' (xs ++ (ms ++ ys)) A' → flat A' = flat A → (∀ S, Can S 0 none A → Can (fun x => (S x ∨ x = b) ∨ x = e) 0 none A') →
      σ' la = some (.list (ms.map fun r => .ref r.1)) → Q (.ref la) σ') : C (lv + 8) "range_nodes" [.ref pr, .int b, .int e] σ Q := by
  refine P.fn rfl rfl ?_
  obtain ⟨Cc, hpr'⟩ := id hpr
  walk_at "aw"
  refine w_if (fun z => ?_) fun z => ?_
  · have z := of_decide_eq_true z
    walk_at "aw"
    refine newW_ext fun la σ1 hla hl1 x1 => ?_
    walk_at "aw"
    exact hno z la σ1 hl1 x1
  have z := of_decide_eq_false z
  walk_at "aw"
  refine split_ok P H hp hs fun σ1 R1 H1 c1 k1 b1 => ?_
  refine ⟨trivial, ?_⟩
  have P1 : Post tr R σ R1 σ1 := ⟨H1, c1.pos hp, k1, fun x hx => c1.ads x hx⟩
  refine o1_3 (fun A1 hA1 f1 cc1 => ?_) ((hA.imm (P1.imm H)).cut c1 hp)
  have pr1 := P1.pr H hpr
  obtain ⟨Cc1, pr1'⟩ := id pr1
  walk_at "aw"
  refine split_ok P H1 P1.pos (by rw [c1.len]; exact hs) fun σ2 R2 H2 c2 k2 b2 => ?_
  refine ⟨trivial, ?_⟩
  have P2 : Post tr R1 σ1 R2 σ2 := ⟨H2, c2.pos P1.pos, k2, fun x hx => c2.ads x hx⟩
  refine o1_3 (fun A2 hA2 f2 cc2 => ?_) ((hA1.imm (P2.imm H1)).cut c2 P1.pos)
  have pr2 := P2.pr H1 pr1
  obtain ⟨Cc2, pr2'⟩ := id pr2
  have P12 := P1.trans P2
  have p2 := P2.pos
  refine o3_3 (fun xs ms ys rf3_ l1 l2 => ?_) (Bd.two p2 (c2.bd (b1 h0 (by omega))) (b2 (by omega) (by rw [c1.len]; exact h1)) (by omega)); subst rf3_
  have s2 : lenR (xs ++ (ms ++ ys)) ≤ 1000 := by rw [c2.len, c1.len]; exact hs
  have pms := p2.app.2.app.1
  have pys := p2.app.2.app.2
  have hyn := lenR_nonneg pys
  walk_at "aw"
  refine findR_ok P H2 p2 h0 (by simp only [lenR_append]; omega) fun xs' a n p ys' tup c l r eqR W eL eY g1 g2 g3 => ?_
  obtain ⟨rfl, e5⟩ := cut_one (xs := xs) (ys := ms ++ ys) p2 rfl eqR (by omega) (by omega)
  have x3 : Ext σ2 (upd σ2 tup (.tup [.ref a, .int (lenR xs)])) := Ext.new g3
  have t3 : upd σ2 tup (.tup [.ref a, .int (lenR xs)]) tup = some (.tup [.ref a, .int (lenR xs)]) := upd_self
  generalize upd σ2 tup (.tup [.ref a, .int (lenR xs)]) = σ3 at *
  walk_at "aw"
  refine w_subt (i := 0) (xs := [.ref a, .int (lenR xs)]) t3 (Int.le_refl _) rfl ?_
  walk_at "aw"
  refine newW_ext fun la σ4 hla hl4 x4 => ?_
  walk_at "aw"
  have ehead : headV (ms ++ ys) = .ref a := by rw [e5]; rfl
  have hla2 : σ2 la = none := by
    cases q : σ2 la with
    | none => rfl
    | some o => rw [x3 _ _ q] at hla; cases hla
  refine while_ind (α := List Run) List.length (fun m2 ρ σ5 => ∃ m1, ms = m1 ++ m2 ∧ Ext σ2 σ5 ∧ σ5 la = some (.list (m1.map fun r => .ref r.1)) ∧ ρ "found" = some (.ref la) ∧ ρ "left" = some (.int (lenR m2)) ∧ ρ "node" = some (headV (m2 ++ ys))) ?_ ms _ _ ⟨[], rfl, x3.trans x4, hl4, by walk_at "lv", by rw [l2]; walk_at "lv", by rw [ehead]; walk_at "lv"⟩
  rintro m2 ρ σ5 PP ⟨m1, rfl, x5, hl5, q1, q2, q3⟩ hP
  refine while_turn ?_
  have P5 := P12.trans (Post.ext H2 p2 x5)
  walk_at "aw"
  refine w_if (fun z4 => ?_) fun z4 => ?_
  · have z4 := of_decide_eq_true z4
    cases m2 with
    | nil => simp [lenR] at z4
    | cons m m2 =>
      obtain ⟨a2, n2, p2'⟩ := m
      have H5 := P5.ht
      rw [show xs ++ (m1 ++ (a2, n2, p2') :: m2 ++ ys) = (xs ++ m1) ++ (a2, n2, p2') :: (m2 ++ ys) by simp] at H5
      simp only [List.cons_append, headV] at q3
      have hlen := len_le p2
      simp only [List.length_append, List.length_cons] at hlen
      push_cast at hlen
      walk_at "aw"
      refine ⟨mk_list hl5 (.inr (.inl rfl)), ?_⟩
      walk_at "aw"
      refine w_append hl5 (by rw [List.length_map]; unfold bigN; omega) ?_
      have H6 := H5.upd (o := .list ((m1.map fun r => V.ref r.1) ++ [V.ref a2])) (H5.off hl5 (.inl rfl))
      refine o3_3 (fun c6 l6 r6 W6 eL6 eY6 => ?_) (H6.at)
      refine ⟨trivial, ?_⟩
      walk_at "aw"
      refine own_ok P W6.tt ?_
      walk_at "aw"
      refine following_ok P W6 ?_
      rw [← eY6]
      walk_at "aw"
      refine hP m2 _ _ ⟨m1 ++ [(a2, n2, p2')], by simp, x5.upd_new hla2, by rw [upd_self]; simp, by walk_at "lv", ?_, by walk_at "lv"⟩ (by simp)
      have : lenR ((a2, n2, p2') :: m2) - n2 = lenR m2 := by rw [lenR_cons]; simp only; omega
      rw [← this]
      walk_at "lv"
  · have z4 := of_decide_eq_false z4
    have : m2 = [] := by
      cases m2 with
      | nil => rfl
      | cons m m2 =>
        exfalso
        have h1 := pms.app.2 m (.head _)
        have h2 := lenR_nonneg (R := m2) fun z hz => pms.app.2 z (.tail _ hz)
        rw [lenR_cons] at z4
        omega
    subst this
    walk_at "aw"
    refine h σ5 xs (m1 ++ []) ys la A2 (by omega) P5 l1 l2 (hA2.imm x5.imm) (f2.trans f1) (fun S hS => cc2 _ (cc1 _ hS)) (by simpa using hl5)
end

/-- the tree bears the characters F, no boundary between like ones -/
noncomputable def TSt (σ : Store) (tr : Addr) (F : List Sem') : Prop := ∃ R A, HT σ tr R ∧ PosR R ∧ RSt σ R A ∧ flat A = F ∧ Can No 0 none A
/-- what each step of the law leaves as it was -/
structure LP (σ σ' : Store) : Prop where
  imm : Imm σ σ'
  pr : ∀ pr tr, PR σ pr tr → PR σ' pr tr
theorem LP.refl (σ : Store) : LP σ σ := ⟨Imm.refl _, fun _ _ h => h⟩
theorem LP.trans {σ σ1 σ2 : Store} (h : LP σ σ1) (k : LP σ1 σ2) : LP σ σ2 := ⟨h.imm.trans k.imm, fun a b g => k.pr a b (h.pr a b g)⟩
theorem Ext.lp {σ σ' : Store} (x : Ext σ σ') : LP σ σ' := ⟨x.imm, fun _ _ h => h.ext x⟩
theorem Post.lp {σ σ' : Store} {tr : Addr} {R R' : List Run} (k : Post tr R σ R' σ') (h : HT σ tr R) : LP σ σ' := ⟨k.imm h, fun _ _ g => k.pr h g⟩
theorem TSt.ext {σ σ' : Store} {tr : Addr} {F : List Sem'} (h : TSt σ tr F) (x : Ext σ σ') : TSt σ' tr F := by
  revert h; refine o2_5 fun R A h1 h2 h3 h4 h5 => ?_
  exact ⟨R, A, h1.ext x, h2, h3.imm x.imm, h4, h5⟩
noncomputable def mapA (f : Sem' → Sem') (A : List ARun) : List ARun := A.map fun x => (x.1, f x.2)
theorem mapA_pos {f : Sem' → Sem'} {A : List ARun} (h : PosA A) : PosA (mapA f A) := fun x hx => by
  refine o1_2 (fun y hy rf2_ => ?_) (List.mem_map.mp hx); subst rf2_
  exact h y hy
theorem mapA_len {f : Sem' → Sem'} {A : List ARun} : lenA (mapA f A) = lenA A := by
  induction A with
  | nil => rfl
  | cons x A ih => simp only [mapA, List.map_cons, lenA_cons] at ih ⊢; rw [ih]
theorem mapA_flat {f : Sem' → Sem'} {A : List ARun} : flat (mapA f A) = (flat A).map f := by
  induction A with
  | nil => rfl
  | cons x A ih =>
    obtain ⟨n, s⟩ := x
    simp only [mapA, List.map_cons, flat_cons, List.map_append, List.map_replicate] at ih ⊢
    rw [ih]
theorem map_ne {α : Type} {f : α → α} {G : List α} : G.map f ≠ G ↔ ∃ x ∈ G, f x ≠ x := by
  induction G with
  | nil => simp
  | cons x G ih =>
    simp only [List.map_cons, ne_eq, List.cons.injEq, Classical.not_and_iff_not_or_not, List.mem_cons]
    constructor
    · rintro (h | h)
      · exact ⟨x, .inl rfl, h⟩
      · refine o1_2 (fun y hy e => ?_) (ih.mp h); exact ⟨y, .inr hy, e⟩
    · rintro ⟨y, rfl | hy, e⟩
      · exact .inl e
      · exact .inr (ih.mpr ⟨y, hy, e⟩)
theorem flat_mem {A : List ARun} (hp : PosA A) {f : Sem' → Sem'} : (∃ x ∈ A, f x.2 ≠ x.2) ↔ ∃ s ∈ flat A, f s ≠ s := by
  induction A with
  | nil => simp [flat]
  | cons x A ih =>
    obtain ⟨n, s⟩ := x
    have h1 := hp.cons.1
    have ih := ih hp.cons.2
    simp only [flat_cons, List.mem_append, List.mem_replicate, List.mem_cons] at ih ⊢
    constructor
    · rintro ⟨y, rfl | hy, e⟩
      · exact ⟨s, .inl ⟨by simp only at h1; omega, rfl⟩, e⟩
      · refine o1_2 (fun t ht e => ?_) (ih.mp ⟨y, hy, e⟩); exact ⟨t, .inr ht, e⟩
    · rintro ⟨t, ⟨_, rfl⟩ | ht, e⟩
      · exact ⟨(n, t), .inl rfl, e⟩
      · obtain ⟨y, hy, e⟩ := ih.mpr ⟨t, ht, e⟩; exact ⟨y, .inr hy, e⟩

section
variable {w : World} {C : Nat → CL} {lv : Nat} {σ : Store} {Q : PE}

/-- one turn at one node, as a deed does it -/
noncomputable def Turn (cl : CL) (n : Nat) (bb : List Stmt) (f : Sem' → Sem') (Env : AEnv → Prop) (Fx : Store → Prop) : Prop :=
  ∀ (ρ : AEnv) (σ1 : Store) (a : Addr) (t : Int) (p l r q : V) (L : PLs) (c : Bool) (Q' : PS), Env ρ → ρ "node" = some (.ref a) → ρ "changed" = some (.bool c) → σ1 a = some (node t p l r q) → PL σ1 p L → PLok L → Fx σ1 →
    (f (sem L) = sem L → ∀ ρ' σ2, Env ρ' → ρ' "changed" = some (.bool c) → Ext σ1 σ2 → Q' .next ρ' σ2) →
    (f (sem L) ≠ sem L → ∀ ρ' σ2 p' L', Env ρ' → ρ' "changed" = some (.bool true) → Ext σ1 σ2 → PL σ2 p' L' → PLok L' → sem L' = f (sem L) → Q' .next ρ' (upd σ2 a (node t p' l r q))) →
    blkW (awpS cl n) bb ρ σ1 Q'

theorem deed_for {cl : CL} {n : Nat} {bb : List Stmt} {f : Sem' → Sem'} {Env : AEnv → Prop} {Fx : Store → Prop} {pp : Pos} {tr la : Addr} {xs ms ys : List Run} {AM : List ARun} {ρ : AEnv} {QS : PS} (T : Turn cl n bb f Env Fx)
    (hE : ∀ ρ v, Env ρ → Env (setE "node" v ρ)) (hF : ∀ σ σ', Imm σ σ' → Fx σ → Fx σ')
    (H : HT σ tr (xs ++ (ms ++ ys))) (hp : PosR (xs ++ (ms ++ ys))) (hM : RSt σ ms AM) (hla : σ la = some (.list (ms.map fun r => .ref r.1))) (e1 : Env ρ) (e2 : ρ "changed" = some (.bool false)) (hFx : Fx σ)
    (h : ∀ ρ' σ' ms' c, Env ρ' → ρ' "changed" = some (.bool c) → Post tr (xs ++ (ms ++ ys)) σ (xs ++ (ms' ++ ys)) σ' → RSt σ' ms' (mapA f AM) → (c = true ↔ ∃ x ∈ AM, f x.2 ≠ x.2) → QS .next ρ' σ') :
    forW (blkW (awpS cl n) bb) (.Name "node" pp) (some (la, .list (ms.map fun r => .ref r.1))) (ms.map fun r => .ref r.1) ρ σ QS := by
  refine for_ind (fun rem ρ σ1 => ∃ m1 m2 A1 A2 c, AM = A1 ++ A2 ∧ rem = m2.map (fun r => V.ref r.1) ∧ Post tr (xs ++ (ms ++ ys)) σ (xs ++ (m1 ++ (m2 ++ ys))) σ1 ∧ RSt σ1 m1 (mapA f A1) ∧ RSt σ1 m2 A2 ∧ (c = true ↔ ∃ x ∈ A1, f x.2 ≠ x.2) ∧ Env ρ ∧ ρ "changed" = some (.bool c)) ?_ ?_ _ _ _
    ⟨[], ms, [], AM, false, rfl, rfl, .refl H hp, .nil, hM, by simp, e1, e2⟩
  · rintro x rem ρ σ1 PP ⟨m1, m2, A1, A2, c, rfl, er, P1, h1, h2, hc, q1, q2⟩ hPP
    cases m2 with
    | nil => cases er
    | cons m m2 =>
      obtain ⟨a, n', p⟩ := m
      rw [List.map_cons] at er
      cases er
      obtain ⟨L, A2, rfl, g1, g2, h2⟩ := h2.cons_inv
      refine g_Name ?_
      have H1 := P1.ht
      have eR : xs ++ (m1 ++ ((a, n', p) :: m2 ++ ys)) = (xs ++ m1) ++ (a, n', p) :: (m2 ++ ys) := by simp
      have H1' := H1
      rw [eR] at H1'
      obtain ⟨c1, l1, r1, W1, _, _⟩ := H1'.at
      have ha := W1.tt.1
      have la1 := (P1.imm H) _ _ hla rfl
      refine T _ σ1 a _ p _ _ _ L c _ (hE _ _ q1) setE_eq (setE_ne rfl q2) ha g1 g2 (hF _ _ (P1.imm H) hFx) (fun hf ρ' σ2 z1 z2 x2 => ?_) fun hf ρ' σ2 p' L' z1 z2 x2 g3 g4 g5 => ?_
      · refine fk_next ⟨x2 _ _ la1, hPP _ _ ⟨m1 ++ [(a, n', p)], m2, A1 ++ [(n', sem L)], A2, c, by simp, rfl, ?_, ?_, h2.imm x2.imm, ?_, z1, z2⟩⟩
        · have := P1.trans (Post.ext H1 P1.pos x2)
          simpa using this
        · rw [mapA, List.map_append]
          have e : mapA f [(n', sem L)] = [(n', sem L)] := by simp [mapA, hf]
          show RSt σ2 _ (mapA f A1 ++ mapA f [(n', sem L)])
          rw [e]
          exact (h1.append (.cons g1 g2 .nil)).imm x2.imm
        · rw [hc]
          constructor
          · rintro ⟨y, hy, e⟩; exact ⟨y, by simp [hy], e⟩
          · rintro ⟨y, hy, e⟩
            rcases List.mem_append.mp hy with hy | hy
            · exact ⟨y, hy, e⟩
            · simp only [List.mem_singleton] at hy; subst hy; exact absurd hf e
      · have H2 := H1'.ext x2
        have H3 := H2.setp (p' := p') (x2 _ _ ha)
        have eR' : (xs ++ m1) ++ (a, n', p') :: (m2 ++ ys) = xs ++ ((m1 ++ [(a, n', p')]) ++ (m2 ++ ys)) := by simp
        have hsub : a ∈ ownR tr (xs ++ (m1 ++ ((a, n', p) :: m2 ++ ys))) := by simp [ownR]
        have P2 : Post tr (xs ++ (m1 ++ ((a, n', p) :: m2 ++ ys))) σ1 (xs ++ ((m1 ++ [(a, n', p')]) ++ (m2 ++ ys))) (upd σ2 a (node (n' + l1.size + r1.size) p' l1.root r1.root (par c1))) := by
          refine ⟨by rw [← eR']; exact H3, fun y hy => ?_, fun y o hy e => upd_at (fun e => hy (e ▸ hsub)) (x2 _ _ e), fun y hy => .inl ?_⟩
          · rw [← eR'] at hy
            have := P1.pos
            rw [eR] at this
            rcases List.mem_append.mp hy with hy | hy
            · exact this y (List.mem_append_left _ hy)
            · rcases List.mem_cons.mp hy with rfl | hy
              · exact this (a, n', p) (by simp)
              · exact this y (by simp only [List.mem_append, List.mem_cons] at hy ⊢; exact .inr (.inr hy))
          · rw [eR]; rw [← eR'] at hy; simpa [ownR] using hy
        have im := P2.imm H1
        have ix : Imm σ2 (upd σ2 a (node (n' + l1.size + r1.size) p' l1.root r1.root (par c1))) := fun y o e i => upd_at (fun e2 => by rw [e2, x2 _ _ ha] at e; cases e; cases i) e
        refine fk_next ⟨im _ _ la1 rfl, hPP _ _ ⟨m1 ++ [(a, n', p')], m2, A1 ++ [(n', sem L)], A2, true, by simp, rfl, P1.trans P2, ?_, h2.imm im, ?_, z1, z2⟩⟩
        · rw [mapA, List.map_append]
          have e : mapA f [(n', sem L)] = [(n', sem L')] := by simp [mapA, g5]
          show RSt _ _ (mapA f A1 ++ mapA f [(n', sem L)])
          rw [e]
          exact (h1.imm im).append (.cons (g3.imm ix) g4 .nil)
        · exact ⟨fun _ => ⟨(n', sem L), by simp, hf⟩, fun _ => rfl⟩
  · rintro ρ σ1 ⟨m1, m2, A1, A2, c, rfl, er, P1, h1, h2, hc, q1, q2⟩
    have e2 : m2 = [] := by cases m2 with
      | nil => rfl
      | cons _ _ => cases er
    subst e2
    have e3 : A2 = [] := by cases h2; rfl
    subst e3
    rw [List.append_nil] at h
    refine h _ _ m1 c q1 q2 (by simpa using P1) (by simpa using h1) (by simpa using hc)

/-- a deed on a range: the nodes gone over, the range joined -/
theorem deed_ok (P : Prg w C) {f : Sem' → Sem'} {Env : AEnv → Prop} {Fx : Store → Prop} {pr tr : Addr} {F : List Sem'} {b e : Int} {bb : List Stmt} {ρ : AEnv} {p1 p2 p3 p4 p5 p6 p7 p8 p9 pa pb pc pd pe pf : Pos} (T : Turn (C (lv + 8)) 19 bb f Env Fx)
    (hE : ∀ ρ v, Env ρ → Env (setE "node" v ρ)) (hF : ∀ σ σ', Imm σ σ' → Fx σ → Fx σ') (hv : ∀ ρ, Env ρ → ρ "props" = some (.ref pr) ∧ ρ "begin" = some (.int b) ∧ ρ "end" = some (.int e))
    (hpr : PR σ pr tr) (H : TSt σ tr F) (hs : F.length ≤ 1000) (h0 : 0 ≤ b) (hbe : b ≤ e) (h1 : e ≤ F.length) (e1 : Env ρ) (e2 : ρ "changed" = some (.bool false)) (hFx : Fx σ)
    (h : ∀ σ' c, LP σ σ' → TSt σ' tr (F.take b.toNat ++ ((((F.drop b.toNat).take (e - b).toNat).map f) ++ F.drop e.toNat)) → (c = true ↔ ((F.drop b.toNat).take (e - b).toNat).map f ≠ (F.drop b.toNat).take (e - b).toNat) → Q (.bool c) σ') :
    blkW (awpS (C (lv + 8)) 20) [.For (.Name "node" p1) (.Call (.Name "range_nodes" p2) [.Name "props" p3, .Name "begin" p4, .Name "end" p5] [] p6) bb [] p7, .Expr (.Call (.Name "join_range" p8) [.Name "props" p9, .Name "begin" pa, .Name "end" pb] [] pc) pd, .Return (some (.Name "changed" pe)) pf] ρ σ (retW Q) := by
  revert H; refine o2_5 fun R A HR hp hA rf5_ hc => ?_; subst rf5_
  refine o0_3 (fun v1 v2 v3 => ?_) (hv ρ e1)
  have eL : (flat A).length = lenR R := by rw [hA.len]; exact flat_len (hA.pos hp)
  have tail : ∀ ρ' σ' R' A' c, LP σ σ' → PR σ' pr tr → Env ρ' → ρ' "changed" = some (.bool c) → HT σ' tr R' → PosR R' → lenR R' ≤ 1000 → RSt σ' R' A' → Can (fun x => b ≤ x ∧ x ≤ e) 0 none A' →
      (∀ σ'', LP σ σ'' → TSt σ'' tr (flat A') → Q (.bool c) σ'') →
      blkW (awpS (C (lv + 8)) 20) [.Expr (.Call (.Name "join_range" p8) [.Name "props" p9, .Name "begin" pa, .Name "end" pb] [] pc) pd, .Return (some (.Name "changed" pe)) pf] ρ' σ' (retW Q) := by
    intro ρ' σ' R' A' c l1 pr' en ec H' hp' hs' hA' cc fin
    refine o0_3 (fun v1 v2 v3 => ?_) (hv ρ' en)
    walk_at "aw"
    refine range_join_ok P pr' H' hp' hs' hA' h0 fun σ2 R2 A2 P2 hA2 ef c2 => ?_
    refine ⟨trivial, ?_⟩
    walk_at "aw"
    exact fin σ2 (l1.trans (P2.lp H')) ⟨R2, A2, P2.ht, P2.pos, hA2, ef, c2 cc⟩
  refine b_For ?_
  refine s_call rfl ?_
  walk_at "aw"
  refine nodes_ok P hpr HR hp (by omega) hA h0 (by omega) (fun hz la σ1 hla x1 => ?_) fun σ1 xs ms ys la A1 hlt P1 l1 l2 hA1 ef cc hla => ?_
  · refine so_list hla ?_
    refine (?_ : thenB _ _ _ _ _ _)
    refine th_next ?_
    have ebe : b = e := by omega
    subst ebe
    refine tail ρ σ1 R A false x1.lp (hpr.ext x1) e1 e2 (HR.ext x1) hp (by omega) (hA.imm x1.imm) (can_mono (hA.pos hp) hc fun x _ _ g => g.elim) fun σ2 lp t2 => h σ2 false lp ?_ (by simp)
    simpa using t2
  · refine so_list hla ?_
    have im1 := P1.imm HR
    refine o2_3 (fun AX A2 rf2_ hX hA2 => ?_) (hA1.split); subst rf2_
    refine o2_3 (fun AM AY rf2_ hM hY => ?_) (hA2.split); subst rf2_
    refine deed_for T hE hF P1.ht P1.pos hM hla e1 e2 (hF _ _ im1 hFx) fun ρ' σ2 ms' c z1 z2 P2 hM' hc' => th_next ?_
    have PP := P1.trans P2
    have im2 := P2.imm P1.ht
    have pA := hA1.pos P1.pos
    have pM := pA.app.2.app.1
    have lX : lenA AX = b := by rw [← hX.len]; exact l1
    have lM : lenA AM = e - b := by rw [← hM.len]; exact l2
    have hA' : RSt σ2 (xs ++ (ms' ++ ys)) (AX ++ (mapA f AM ++ AY)) := (hX.imm im2).append (hM'.append (hY.imm im2))
    have t1 := flat_take (X := AX) (Y := AM ++ AY) (b := b) pA.app.1 lX
    have t2 := flat_take (X := AM) (Y := AY) (b := e - b) pM lM
    have t3 := flat_take (X := AX ++ AM) (Y := AY) (b := e) (pA.app.1.mk pM) (by rw [lenA_append]; omega)
    rw [List.append_assoc] at t3
    rw [ef] at t1 t3
    have eR2 : lenR (xs ++ (ms' ++ ys)) = lenR (xs ++ (ms ++ ys)) := by rw [hA'.len, hA1.len]; simp only [lenA_append, mapA_len]
    have eR1 := len_same hA hA1 hp P1.pos ef
    refine tail ρ' σ2 _ _ c (PP.lp HR) (PP.pr HR hpr) z1 z2 PP.ht PP.pos (by omega) hA' (can_stretch lX lM (by rw [mapA_len]; exact lM) pA (mapA_pos pM) (can_mono pA (cc _ hc) fun x _ _ g => by
      rcases g with (g | g) | g
      · exact g.elim
      · exact .inl g
      · exact .inr g)) fun σ3 lp t4 => h σ3 c lp ?_ ?_
    · rw [t1.1, t1.2, t2.1, t3.2, ← mapA_flat, ← flat_append, ← flat_append]; exact t4
    · rw [t1.2, t2.1, map_ne, hc']; exact flat_mem pM
end

section
variable {w : World} {C : Nat → CL} {lv : Nat} {σ : Store} {Q : PE}
/-- the deed's outcome -/
noncomputable def Done (σ : Store) (tr : Addr) (F : List Sem') (b e : Int) (f : Sem' → Sem') (Q : PE) : Prop := ∀ σ' c, LP σ σ' → TSt σ' tr (F.take b.toNat ++ ((((F.drop b.toNat).take (e - b).toNat).map f) ++ F.drop e.toNat)) → (c = true ↔ ((F.drop b.toNat).take (e - b).toNat).map f ≠ (F.drop b.toNat).take (e - b).toNat) → Q (.bool c) σ'

theorem put_ok (P : Prg w C) {pr tr : Addr} {F : List Sem'} {b e k : Int} {v : V} (hpr : PR σ pr tr) (H : TSt σ tr F) (hs : F.length ≤ 1000) (h0 : 0 ≤ b) (hbe : b ≤ e) (h1 : e ≤ F.length) (hk : 1 ≤ k ∧ k ≤ 4) (hv : isD v = true)
    (h : Done σ tr F b e (setS k v) Q) : C (lv + 9) "put_property" [.ref pr, .int b, .int e, .int k, v] σ Q := by
  refine P.fn rfl rfl ?_
  refine r_F ?_
  refine b_Name ?_
  walk_at "ax"
  refine deed_ok P (f := setS k v) (Env := fun ρ => ρ "props" = some (.ref pr) ∧ ρ "begin" = some (.int b) ∧ ρ "end" = some (.int e) ∧ ρ "number" = some (.int k) ∧ ρ "value" = some v) (Fx := fun _ => True) ?_ ?_ (fun _ _ _ h => h) (fun ρ h => ⟨h.1, h.2.1, h.2.2.1⟩) hpr H hs h0 hbe h1 ⟨by walk_at "lv", by walk_at "lv", by walk_at "lv", by walk_at "lv", by walk_at "lv"⟩ (by walk_at "lv") trivial h
  · rintro ρ σ1 a t p l r q L c Q' ⟨e1, e2, e3, e4, e5⟩ en ec ha hp ok _ hsame hdiff
    walk_at "aw"
    refine holds_ok P hp ok hv fun d hd => ?_
    walk_at "aw"
    refine w_if (fun z => ?_) fun z => ?_
    · have z : d = false := by simpa using z
      walk_at "aw"
      refine with_ok P hp ok hv hk fun σ2 p' L' hp' ok' es x2 => ?_
      have ha2 := x2 _ _ ha
      walk_at "aw"
      refine hdiff (fun e => ?_) _ σ2 p' L' ⟨by walk_at "lv", by walk_at "lv", by walk_at "lv", by walk_at "lv", by walk_at "lv"⟩ (by walk_at "lv") x2 hp' ok' es
      have : sem L k = some v := by rw [← e]; exact if_pos rfl
      rw [hd.mpr this] at z; cases z
    · have z : d = true := by simpa using z
      walk_at "aw"
      exact hsame (sem_has (hd.mp z)) _ σ1 ⟨e1, e2, e3, e4, e5⟩ ec (Ext.refl _)
  · rintro ρ v ⟨e1, e2, e3, e4, e5⟩
    exact ⟨by walk_at "lv", by walk_at "lv", by walk_at "lv", by walk_at "lv", by walk_at "lv"⟩
theorem add_ok (P : Prg w C) {pr tr : Addr} {F : List Sem'} {b e : Int} {pl : V} {M : PLs} (hpr : PR σ pr tr) (H : TSt σ tr F) (hs : F.length ≤ 1000) (h0 : 0 ≤ b) (hbe : b ≤ e) (h1 : e ≤ F.length) (hM : PL σ pl M) (okM : PLok M)
    (h : Done σ tr F b e (fun s => overS s (sem M)) Q) : C (lv + 9) "add_properties" [.ref pr, .int b, .int e, pl] σ Q := by
  refine P.fn rfl rfl ?_
  refine r_F ?_
  refine b_Name ?_
  walk_at "ax"
  refine deed_ok P (f := fun s => overS s (sem M)) (Env := fun ρ => ρ "props" = some (.ref pr) ∧ ρ "begin" = some (.int b) ∧ ρ "end" = some (.int e) ∧ ρ "plist" = some pl) (Fx := fun σ => PL σ pl M) ?_ ?_ (fun _ _ k h => h.imm k) (fun ρ h => ⟨h.1, h.2.1, h.2.2.1⟩) hpr H hs h0 hbe h1 ⟨by walk_at "lv", by walk_at "lv", by walk_at "lv", by walk_at "lv"⟩ (by walk_at "lv") hM h
  · rintro ρ σ1 a t p l r q L c Q' ⟨e1, e2, e3, e4⟩ en ec ha hp ok hM hsame hdiff
    walk_at "aw"
    refine added_ok P hp hM ok okM fun σ2 p' L' hp' ok' es x2 => ?_
    have ha2 := x2 _ _ ha
    walk_at "aw"
    refine same_ok P hp' (hp.imm x2.imm) ok' ok fun d hd => ?_
    rw [es] at hd
    walk_at "aw"
    refine w_if (fun z => ?_) fun z => ?_
    · have z : d = false := by simpa using z
      walk_at "aw"
      refine hdiff (fun e => ?_) _ σ2 p' L' ⟨by walk_at "lv", by walk_at "lv", by walk_at "lv", by walk_at "lv"⟩ (by walk_at "lv") x2 hp' ok' es
      rw [hd.mpr e] at z; cases z
    · have z : d = true := by simpa using z
      walk_at "aw"
      exact hsame (hd.mp z) _ σ2 ⟨by walk_at "lv", by walk_at "lv", by walk_at "lv", by walk_at "lv"⟩ (by walk_at "lv") x2
  · rintro ρ v ⟨e1, e2, e3, e4⟩
    exact ⟨by walk_at "lv", by walk_at "lv", by walk_at "lv", by walk_at "lv"⟩
theorem set_ok (P : Prg w C) {pr tr : Addr} {F : List Sem'} {b e : Int} {pl : V} {M : PLs} (hpr : PR σ pr tr) (H : TSt σ tr F) (hs : F.length ≤ 1000) (h0 : 0 ≤ b) (hbe : b ≤ e) (h1 : e ≤ F.length) (hM : PL σ pl M) (okM : PLok M)
    (h : Done σ tr F b e (fun _ => sem M) Q) : C (lv + 9) "set_properties" [.ref pr, .int b, .int e, pl] σ Q := by
  refine P.fn rfl rfl ?_
  refine r_F ?_
  refine b_Name ?_
  walk_at "ax"
  refine deed_ok P (f := fun _ => sem M) (Env := fun ρ => ρ "props" = some (.ref pr) ∧ ρ "begin" = some (.int b) ∧ ρ "end" = some (.int e) ∧ ρ "plist" = some pl) (Fx := fun σ => PL σ pl M) ?_ ?_ (fun _ _ k h => h.imm k) (fun ρ h => ⟨h.1, h.2.1, h.2.2.1⟩) hpr H hs h0 hbe h1 ⟨by walk_at "lv", by walk_at "lv", by walk_at "lv", by walk_at "lv"⟩ (by walk_at "lv") hM h
  · rintro ρ σ1 a t p l r q L c Q' ⟨e1, e2, e3, e4⟩ en ec ha hp ok hM hsame hdiff
    walk_at "aw"
    refine same_ok P hM hp okM ok fun d hd => ?_
    walk_at "aw"
    refine w_if (fun z => ?_) fun z => ?_
    · have z : d = false := by simpa using z
      revert hM; refine o2_3 fun pa xs rf2_ hpa hxs => ?_; subst rf2_
      walk_at "aw"
      refine w_copy hpa ?_
      refine newW_ext fun p2 σ2 hp2 hp2' x2 => ?_
      have ha2 := x2 _ _ ha
      walk_at "aw"
      refine hdiff (fun e => ?_) _ σ2 (.ref p2) M ⟨by walk_at "lv", by walk_at "lv", by walk_at "lv", by walk_at "lv"⟩ (by walk_at "lv") x2 ⟨p2, xs, rfl, hp2', hxs.imm x2.imm⟩ okM rfl
      rw [hd.mpr e] at z; cases z
    · have z : d = true := by simpa using z
      walk_at "aw"
      exact hsame (hd.mp z) _ σ1 ⟨e1, e2, e3, e4⟩ ec (Ext.refl _)
  · rintro ρ v ⟨e1, e2, e3, e4⟩
    exact ⟨by walk_at "lv", by walk_at "lv", by walk_at "lv", by walk_at "lv"⟩
theorem filter_all {L : PLs} {k : Int} (h : (L.filter fun q => decide (q.1 ≠ k)).length = L.length) : delS k (sem L) = sem L := by
  have := List.length_filter_eq_length_iff.mp h
  have e : L.filter (fun q => decide (q.1 ≠ k)) = L := List.filter_eq_self.mpr this
  rw [← sem_filter, e]
theorem filter_some {L : PLs} {k : Int} (ok : PLok L) (h : delS k (sem L) = sem L) : (L.filter fun q => decide (q.1 ≠ k)).length = L.length := by
  refine sem_len ?_ ok.nd (by rw [sem_filter]; exact h)
  exact (ok_sub ok List.filter_sublist).nd
theorem remove_ok (P : Prg w C) {pr tr nb : Addr} {F : List Sem'} {b e k : Int} (hpr : PR σ pr tr) (H : TSt σ tr F) (hs : F.length ≤ 1000) (h0 : 0 ≤ b) (hbe : b ≤ e) (h1 : e ≤ F.length) (hn : σ nb = some (.list [.int k]))
    (h : Done σ tr F b e (delS k) Q) : C (lv + 9) "remove_properties" [.ref pr, .int b, .int e, .ref nb] σ Q := by
  refine P.fn rfl rfl ?_
  refine r_F ?_
  refine b_Name ?_
  walk_at "ax"
  refine deed_ok P (f := delS k) (Env := fun ρ => ρ "props" = some (.ref pr) ∧ ρ "begin" = some (.int b) ∧ ρ "end" = some (.int e) ∧ ρ "numbers" = some (.ref nb)) (Fx := fun σ => σ nb = some (.list [.int k])) ?_ ?_ (fun _ _ k h => k _ _ h rfl) (fun ρ h => ⟨h.1, h.2.1, h.2.2.1⟩) hpr H hs h0 hbe h1 ⟨by walk_at "lv", by walk_at "lv", by walk_at "lv", by walk_at "lv"⟩ (by walk_at "lv") hn h
  · rintro ρ σ1 a t p l r q L c Q' ⟨e1, e2, e3, e4⟩ en ec ha hp ok hn hsame hdiff
    walk_at "aw"
    refine removed_ok P hp ok hn fun σ2 p' hp' x2 => ?_
    have ha2 := x2 _ _ ha
    refine o2_3 (fun p1 xs e5 hp1 hxs => ?_) (id hp')
    refine o2_3 (fun p0 ys e6 hp0 hys => ?_) (hp.imm x2.imm)
    subst e5 e6
    have lx := hxs.length
    have ly := hys.length
    walk_at "aw"
    refine w_len hp1 ?_
    walk_at "aw"
    refine w_len hp0 ?_
    walk_at "aw"
    refine w_if (fun z => ?_) fun z => ?_
    · have z : ¬ (xs.length : Int) = ys.length := by simpa using z
      walk_at "aw"
      refine hdiff (fun e => ?_) _ σ2 (.ref p1) _ ⟨by walk_at "lv", by walk_at "lv", by walk_at "lv", by walk_at "lv"⟩ (by walk_at "lv") x2 hp' (ok_sub ok List.filter_sublist) sem_filter
      have := filter_some ok e
      omega
    · have z : (xs.length : Int) = ys.length := by simpa using z
      walk_at "aw"
      exact hsame (filter_all (by omega)) _ σ2 ⟨by walk_at "lv", by walk_at "lv", by walk_at "lv", by walk_at "lv"⟩ (by walk_at "lv") x2
  · rintro ρ v ⟨e1, e2, e3, e4⟩
    exact ⟨by walk_at "lv", by walk_at "lv", by walk_at "lv", by walk_at "lv"⟩
end

section
variable {w : World} {C : Nat → CL} {lv : Nat} {σ : Store} {Q : PE}
theorem ins_ok (P : Prg w C) {tr : Addr} {R : List Run} {A : List ARun} {at' m : Int} {q : V} {L : PLs} (H : HT σ tr R) (hp : PosR R) (hA : RSt σ R A) (hm : 0 ≤ m) (hs : lenR R + m ≤ 1000) (h0 : 0 ≤ at') (h1 : at' ≤ lenR R) (hq : PL σ q L) (ok : PLok L)
    (h : ∀ σ' R' A', Post tr R σ R' σ' → RSt σ' R' A' → flat A' = (flat A).take at'.toNat ++ (List.replicate m.toNat (sem L) ++ (flat A).drop at'.toNat) → (∀ S, (∀ x, S x → x ≤ at') → Can S 0 none A → Can (fun x => S x ∨ x = at' ∨ x = at' + m) 0 none A') → Q .none σ') :
    C (lv + 8) "insert_interval" [.ref tr, .int at', .int m, q] σ Q := by
  by_cases hm0 : m = 0
  · subst hm0
    refine P.fn rfl rfl ?_
    walk_at "aw"
    refine w_if (fun _ => ?_) fun z => absurd z (by simp)
    walk_at "aw"
    refine h σ R A (.refl H hp) hA (by simp) fun S hS hc => can_mono (hA.pos hp) hc fun x _ _ g => .inl g
  · refine insert_ok P H hp (by omega) hs h0 h1 fun σ' R' xs ys f hcut eR lx hf H' k' => ?_
    refine o1_3 (fun A1 hA1 ef cc => ?_) (hA.cut hcut hp)
    have p1 := hcut.pos hp
    subst eR
    refine o2_3 (fun AX AY rf2_ hX hY => ?_) (hA1.split); subst rf2_
    have pA1 := hA1.pos p1
    have lX : lenA AX = at' := by rw [← hX.len]; exact lx
    have im := H.keepImm k'
    have pp : PosR (xs ++ (f, m, q) :: ys) := fun x hx => by
      rcases List.mem_append.mp hx with hx | hx
      · exact p1 x (by simp [hx])
      · rcases List.mem_cons.mp hx with rfl | hx
        · show 0 < m; omega
        · exact p1 x (by simp [hx])
    have t1 := flat_take (X := AX) (Y := AY) (b := at') pA1.app.1 lX
    rw [ef] at t1
    refine h σ' (xs ++ (f, m, q) :: ys) (AX ++ (m, sem L) :: AY) ⟨H', pp, k', fun x hx => ?_⟩ ((hX.append (.cons hq ok hY)).imm im) ?_ fun S hS hc => ?_
    · have : x = f ∨ x ∈ ownR tr (xs ++ ys) := by
        simp only [ownR, List.map_append, List.map_cons, List.mem_cons, List.mem_append] at hx ⊢
        grind
      rcases this with rfl | hx
      · exact .inr hf
      · exact hcut.ads x hx
    · rw [t1.1, t1.2, flat_append, flat_cons]
    · have c1 := cc S hc
      have c2 := can_insert (s := sem L) lX (show 0 < m by omega) (fun x hx => by rcases hx with g | g; exact hS x g; omega) pA1 c1
      exact can_mono (((hX.append (.cons hq ok hY)).pos pp)) c2 fun x _ _ g => by
        rcases g with (g | g) | g | g
        · exact .inl g
        · exact .inr (.inl g)
        · exact .inr (.inl g)
        · exact .inr (.inr g)

theorem inserted_ok (P : Prg w C) {pr tr : Addr} {F : List Sem'} {at' m : Int} {pl : V} {M : PLs} (hpr : PR σ pr tr) (H : TSt σ tr F) (h0 : 0 ≤ at') (h1 : at' ≤ F.length) (hm : 0 ≤ m) (hs : F.length + m ≤ 1000) (hM : PL σ pl M) (okM : PLok M)
    (h : ∀ σ', LP σ σ' → TSt σ' tr (F.take at'.toNat ++ (List.replicate m.toNat (sem M) ++ F.drop at'.toNat)) → Q .none σ') : C (lv + 9) "text_inserted" [.ref pr, .int at', .int m, pl] σ Q := by
  refine P.fn rfl rfl ?_
  revert H; refine o2_5 fun R A HR hp hA rf5_ hc => ?_; subst rf5_
  have eL : ((flat A).length : Int) = lenR R := by rw [hA.len]; exact flat_len (hA.pos hp)
  refine o2_3 (fun pa xs rf2_ hpa hxs => ?_) (id hM); subst rf2_
  obtain ⟨Cc, hpr'⟩ := id hpr
  walk_at "aw"
  refine w_copy hpa ?_
  refine newW_ext fun p2 σ1 hp2 hp2' x1 => ?_
  walk_at "aw"
  have pr1 := hpr.ext x1
  have P1 := Post.ext HR hp x1
  refine ins_ok P P1.ht hp (hA.imm x1.imm) hm (by omega) h0 (by omega) (q := .ref p2) (L := M) ⟨p2, xs, rfl, hp2', hxs.imm x1.imm⟩ okM fun σ2 R2 A2 P2 hA2 ef c2 => ?_
  refine ⟨trivial, ?_⟩
  have pr2 := P2.pr P1.ht pr1
  have c3 := c2 No (fun x g => g.elim) hc
  have l2 : lenR R2 = lenR R + m := by
    rw [hA2.len, ← flat_len (hA2.pos P2.pos), ef]
    rw [insLen' h0 h1 hm, eL]
  walk_at "aw"
  refine join_ok P pr2 P2.ht P2.pos (by omega) hA2 fun σ3 R3 A3 P3 hA3 j3 => ?_
  refine ⟨trivial, ?_⟩
  have pr3 := P3.pr P2.ht pr2
  have l3 := len_same hA2 hA3 P2.pos P3.pos j3.1
  walk_at "aw"
  refine join_ok P pr3 P3.ht P3.pos (by omega) hA3 fun σ4 R4 A4 P4 hA4 j4 => ?_
  refine ⟨trivial, ?_⟩
  walk_at "aw"
  have PP := ((P1.trans P2).trans P3).trans P4
  refine h σ4 (PP.lp HR) ⟨R4, A4, PP.ht, PP.pos, hA4, by rw [j4.1, j3.1, ef], ?_⟩
  refine can_mono (hA4.pos PP.pos) (j4.2 _ (j3.2 _ c3)) fun x _ _ g => ?_
  obtain ⟨⟨g1 | g1 | g1, g2⟩, g3⟩ := g
  · exact g1
  · exact g3 g1
  · exact g2 g1

theorem deleted_ok (P : Prg w C) {pr tr : Addr} {F : List Sem'} {b e : Int} (hpr : PR σ pr tr) (H : TSt σ tr F) (hs : F.length ≤ 1000) (h0 : 0 ≤ b) (hbe : b ≤ e) (h1 : e ≤ F.length)
    (h : ∀ σ', LP σ σ' → TSt σ' tr (F.take b.toNat ++ F.drop e.toNat) → Q .none σ') : C (lv + 9) "text_deleted" [.ref pr, .int b, .int e] σ Q := by
  refine P.fn rfl rfl ?_
  revert H; refine o2_5 fun R A HR hp hA rf5_ hc => ?_; subst rf5_
  have eL : ((flat A).length : Int) = lenR R := by rw [hA.len]; exact flat_len (hA.pos hp)
  obtain ⟨Cc, hpr'⟩ := id hpr
  have tail : ∀ σ1 R1 A1, Post tr R σ R1 σ1 → RSt σ1 R1 A1 → lenR R1 ≤ 1000 → flat A1 = (flat A).take b.toNat ++ (flat A).drop e.toNat → Can (fun x => x = b) 0 none A1 → ∀ Q2 : PE, (∀ σ', Q .none σ' → Q2 .none σ') → C (lv + 8) "join_at" [.ref pr, .int b] σ1 Q2 := by
    intro σ1 R1 A1 P1 hA1 l1 ef c1 Q2 hQ2
    refine join_ok P (P1.pr HR hpr) P1.ht P1.pos l1 hA1 fun σ2 R2 A2 P2 hA2 j2 => hQ2 _ ?_
    have PP := P1.trans P2
    exact h σ2 (PP.lp HR) ⟨R2, A2, PP.ht, PP.pos, hA2, j2.1.trans ef, can_mono (hA2.pos PP.pos) (j2.2 _ c1) fun x _ _ g => g.2 g.1⟩
  walk_at "aw"
  refine delete_ok P HR hp (by omega) h0 (by omega) (fun hz => ?_) fun σ1 R1 R2 xs ms ys c1 c2 eR l1 l2 H1 k1 => ?_
  · refine ⟨trivial, ?_⟩
    walk_at "aw"
    have ebe : b = e := by omega
    subst ebe
    refine tail σ R A (.refl HR hp) hA (by omega) (by simp) (can_mono (hA.pos hp) hc fun x _ _ g => g.elim) _ fun σ' hq => ?_
    refine ⟨trivial, ?_⟩
    walk_at "aw"
    exact hq
  · refine ⟨trivial, ?_⟩
    have im := HR.keepImm k1
    refine o1_3 (fun A1 hA1 f1 cc1 => ?_) (hA.cut c1 hp)
    refine o1_3 (fun A2 hA2 f2 cc2 => ?_) (hA1.cut c2 (c1.pos hp))
    have p2 := c2.pos (c1.pos hp)
    subst eR
    refine o2_3 (fun AX A3 rf2_ hX hA3 => ?_) (hA2.split); subst rf2_
    refine o2_3 (fun AM AY rf2_ hM hY => ?_) (hA3.split); subst rf2_
    have pA := hA2.pos p2
    have lX : lenA AX = b := by rw [← hX.len]; exact l1
    have lM : lenA AM = e - b := by rw [← hM.len]; exact l2
    have pp : PosR (xs ++ ys) := fun x hx => p2 x (by simp only [List.mem_append] at hx ⊢; rcases hx with hx | hx <;> simp [hx])
    have P1 : Post tr R σ (xs ++ ys) σ1 := ⟨H1, pp, k1, fun x hx => by
      have : x ∈ ownR tr (xs ++ (ms ++ ys)) := by
        simp only [ownR, List.map_append, List.mem_cons, List.mem_append] at hx ⊢
        grind
      rcases c2.ads x this with g | g
      · exact c1.ads x g
      · exact .inr g⟩
    have pr1 := P1.pr HR hpr
    obtain ⟨Cc1, pr1'⟩ := id pr1
    have hA4 := (hX.append hY).imm im
    have t1 := flat_take (X := AX) (Y := AM ++ AY) (b := b) pA.app.1 lX
    have t3 := flat_take (X := AX ++ AM) (Y := AY) (b := e) (pA.app.1.mk pA.app.2.app.1) (by rw [lenA_append]; omega)
    rw [List.append_assoc, f2, f1] at t3
    rw [f2, f1] at t1
    have l4 : lenR (xs ++ ys) ≤ 1000 := by
      have e1 := c2.len
      rw [c1.len] at e1
      have := lenR_nonneg p2.app.2.app.1
      simp only [lenR_append] at e1 ⊢
      omega
    walk_at "aw"
    refine tail σ1 (xs ++ ys) (AX ++ AY) P1 hA4 l4 (by rw [t1.1, t3.2, flat_append]) (can_delete lX lM pA (can_mono pA (cc2 _ (cc1 _ hc)) fun x _ _ g => by
      rcases g with (g | g) | g
      · exact g.elim
      · exact .inl g
      · exact .inr g)) _ fun σ' hq => ?_
    refine ⟨trivial, ?_⟩
    walk_at "aw"
    exact hq

theorem cls_new (P : Prg w C) {f : Str} {ps : Arguments} {sc : Scope} {b : List Stmt} {vs : List V} {Cc : Addr} (h1 : clsFn f = some (Cc, ps, sc, b)) (h4 : vs.length + 1 = ps.args.length)
    (h : ∀ a σ1, σ a = none → σ1 a = some (.inst Cc []) → Ext σ σ1 → awpF (C lv) ps b (.ref a :: vs) σ1 fun v σ' => v = .none ∧ Q (.ref a) σ') : C (lv + 1) f vs σ Q :=
  P.cls h1 h4 fun a ha => h a _ ha upd_self (Ext.new ha)
theorem tree_new (P : Prg w C) {n : Int} {p : V} (hp : PL σ p []) (hn : 0 ≤ n)
    (h : ∀ σ' tr R A, HT σ' tr R → PosR R → RSt σ' R A → flat A = List.replicate n.toNat (sem []) → Can No 0 none A → (∀ x ∈ ownR tr R, σ x = none) → Ext σ σ' → Q (.ref tr) σ') : C (lv + 2) "IntervalTree" [.int n, p] σ Q := by
  refine cls_new P rfl rfl fun t σ1 ht h1 x1 => ?_
  walk_at "ax"
  refine r_IfE ?_
  walk_at "ax"
  refine w_if (fun z => ?_) fun z => ?_
  · have z := of_decide_eq_true z
    walk_at "ax"
    refine interval_ok P fun f hf => ?_
    have x2 : Ext σ1 (upd σ1 f (node n p .none .none .none)) := Ext.new hf
    have f2 : upd σ1 f (node n p .none .none .none) f = _ := upd_self
    generalize upd σ1 f (node n p .none .none .none) = σ2 at *
    have h2 := x2 _ _ h1
    walk_at "ax"
    refine w_set h2 rfl rfl (Nat.le_of_ble_eq_true rfl) ?_
    walk_at "ax"
    refine ⟨rfl, ?_⟩
    have hft : f ≠ t := fun e => by rw [e, h1] at hf; cases hf
    have x3 : ∀ o, Ext σ (upd σ2 t o) := fun o => (x1.trans x2).upd_new ht
    refine h _ t [(f, n, p)] [(n, sem [])] ⟨.nd f n p .nil .nil, ⟨⟨?_, trivial, trivial⟩, upd_self, ?_⟩, rfl⟩ ?_ (.cons (hp.imm (x3 _).imm) .nil .nil) (by simp [flat]) ⟨fun e => (nomatch e), trivial⟩ ?_ (x3 _)
    · rw [upd_ne hft, f2]; congr 2; simp only [T.size]; omega
    · simp [ownS, T.ads, adsC, Ne.symm hft]
    · intro x hx; simp only [List.mem_singleton] at hx; subst hx; exact z
    · intro x hx
      simp only [ownR, List.map_cons, List.map_nil, List.mem_cons, List.not_mem_nil, or_false] at hx
      rcases hx with rfl | rfl
      · exact ht
      · cases q : σ x with
        | none => rfl
        | some o => rw [x1 _ _ q] at hf; cases hf
  · have z := of_decide_eq_false z
    walk_at "ax"
    refine w_set h1 rfl rfl (Nat.le_of_ble_eq_true rfl) ?_
    walk_at "ax"
    refine ⟨rfl, ?_⟩
    have e0 : n = 0 := by omega
    subst e0
    refine h _ t [] [] ⟨.nil, ⟨trivial, upd_self, by simp [ownS, T.ads, adsC]⟩, rfl⟩ (fun _ h => nomatch h) .nil rfl trivial (fun x hx => ?_) (x1.upd_new ht)
    simp only [ownR, List.map_nil, List.mem_singleton] at hx
    rw [hx]; exact ht
theorem props_new (P : Prg w C) {n : Int} (hn : 0 ≤ n)
    (h : ∀ σ' pr tr R A, PR σ' pr tr → HT σ' tr R → PosR R → RSt σ' R A → flat A = List.replicate n.toNat (sem []) → Can No 0 none A → (∀ x ∈ ownR tr R, σ x = none) → Ext σ σ' → Q (.ref pr) σ') : C (lv + 3) "TextProps" [.int n] σ Q := by
  refine cls_new P rfl rfl fun pr σ1 hpr h1 x1 => ?_
  walk_at "aw"
  refine newW_ext fun pl σ2 hpl hpl' x2 => ?_
  have h2 := x2 _ _ h1
  walk_at "aw"
  refine tree_new P ⟨pl, [], rfl, hpl', .nil⟩ hn fun σ3 tr R A H hp hA ef hc hfr x3 => ?_
  have h3 := x3 _ _ h2
  walk_at "aw"
  refine w_set h3 rfl rfl (Nat.le_of_ble_eq_true rfl) ?_
  walk_at "aw"
  refine ⟨rfl, ?_⟩
  have x : ∀ o, Ext σ (upd σ3 pr o) := fun o => ((x1.trans x2).trans x3).upd_new hpr
  have hno : pr ∉ ownR tr R := fun hx => by have := hfr pr hx; rw [h2] at this; cases this
  refine h _ pr tr R A ⟨_, upd_self⟩ (H.upd hno) hp (hA.imm fun y o e i => upd_at (fun e2 => by rw [e2, h3] at e; cases e; cases i) e) ef hc (fun y hy => ?_) (x _)
  cases q : σ y with
  | none => rfl
  | some o =>
    have := hfr y hy
    rw [(x1.trans x2) _ _ q] at this; cases this
end

inductive R3 (σ σ2 : Store) : List V → List ARun → Prop
  | nil : R3 σ σ2 [] []
  | cons {t : Addr} {f l : Int} {p : V} {L : PLs} {rs : List V} {B : List ARun} : σ2 t = some (.tup [.int f, .int l, p]) → PL σ p L → PLok L → f < l → R3 σ σ2 rs B → R3 σ σ2 (.ref t :: rs) ((l - f, sem L) :: B)
inductive R2 (σ : Store) : List V → List ARun → Prop
  | nil : R2 σ [] []
  | cons {t : Addr} {n : Int} {p : V} {L : PLs} {rs : List V} {B : List ARun} : σ t = some (.tup [.int n, p]) → PL σ p L → PLok L → 0 < n → R2 σ rs B → R2 σ (.ref t :: rs) ((n, sem L) :: B)
section
variable {σ σ' σ2 : Store}
theorem R3.imm (k : Imm σ σ') {R : List V} {A : List ARun} (h : R3 σ σ2 R A) : R3 σ' σ2 R A := by
  induction h with
  | nil => exact .nil
  | cons h1 h2 h3 h4 _ ih => exact .cons h1 (h2.imm k) h3 h4 ih
theorem R3.imm2 (k : Imm σ σ') {R : List V} {A : List ARun} (h : R3 σ2 σ R A) : R3 σ2 σ' R A := by
  induction h with
  | nil => exact .nil
  | cons h1 h2 h3 h4 _ ih => exact .cons (k _ _ h1 rfl) h2 h3 h4 ih
theorem R2.imm (k : Imm σ σ') {R : List V} {A : List ARun} (h : R2 σ R A) : R2 σ' R A := by
  induction h with
  | nil => exact .nil
  | cons h1 h2 h3 h4 _ ih => exact .cons (k _ _ h1 rfl) (h2.imm k) h3 h4 ih
theorem R3.append {R S : List V} {A B : List ARun} (h : R3 σ σ2 R A) (k : R3 σ σ2 S B) : R3 σ σ2 (R ++ S) (A ++ B) := by
  induction h with
  | nil => exact k
  | cons h1 h2 h3 h4 _ ih => exact .cons h1 h2 h3 h4 ih
theorem R2.append {R S : List V} {A B : List ARun} (h : R2 σ R A) (k : R2 σ S B) : R2 σ (R ++ S) (A ++ B) := by
  induction h with
  | nil => exact k
  | cons h1 h2 h3 h4 _ ih => exact .cons h1 h2 h3 h4 ih
theorem R3.length {R : List V} {A : List ARun} (h : R3 σ σ2 R A) : R.length = A.length := by
  induction h with
  | nil => rfl
  | cons _ _ _ _ _ ih => simp [ih]
theorem R3.pos {R : List V} {A : List ARun} (h : R3 σ σ2 R A) : PosA A := by
  induction h with
  | nil => exact fun _ h => nomatch h
  | cons h1 h2 h3 h4 _ ih =>
    intro x hx
    rcases List.mem_cons.mp hx with rfl | hx
    · show 0 < _; omega
    · exact ih x hx
theorem R2.pos {R : List V} {A : List ARun} (h : R2 σ R A) : PosA A := by
  induction h with
  | nil => exact fun _ h => nomatch h
  | cons h1 h2 h3 h4 _ ih =>
    intro x hx
    rcases List.mem_cons.mp hx with rfl | hx
    · exact h4
    · exact ih x hx
theorem R3.upd_list {R : List V} {A : List ARun} (h : R3 σ σ2 R A) {la : Addr} {o : O} {xs : List V} (hla : σ2 la = some (.list xs)) : R3 σ (upd σ2 la o) R A := by
  induction h with
  | nil => exact .nil
  | cons h1 h2 h3 h4 _ ih => exact .cons (upd_at (fun e => by rw [e, hla] at h1; cases h1) h1) h2 h3 h4 ih
theorem R3.of_rows : ∀ {R : List Run} {A : List ARun} {b : Int} {rs : List V}, TupsAt σ2 rs (rowsOf b R) → RSt σ R A → PosR R → R3 σ σ2 rs A
  | [], A, b, rs, h, hA, _ => by cases hA; cases h; exact .nil
  | (a, n, p) :: R, A, b, rs, h, hA, hp => by
    refine o2_4 (fun L B rf2_ g1 g2 g3 => ?_) (hA.cons_inv); subst rf2_
    cases h with
    | cons h1 h2 =>
      have hn := hp (a, n, p) (.head _)
      simp only at hn
      have e : n = b + n - b := by omega
      have := R3.cons h1 g1 g2 (by omega) (R3.of_rows h2 g3 fun x hx => hp x (.tail _ hx))
      rwa [← e] at this
end
theorem lenA_len {A : List ARun} (h : PosA A) : (A.length : Int) ≤ lenA A := by
  induction A with
  | nil => exact Int.le_refl _
  | cons x A ih =>
    have := ih h.cons.2
    have := h.cons.1
    rw [lenA_cons, List.length_cons]; push_cast; omega
theorem drop_rep {G1 G2 : List Sem'} {n k : Nat} {s : Sem'} (h : k ≤ n) : (G1 ++ (List.replicate n s ++ G2)).drop (G1.length + k) = List.replicate (n - k) s ++ G2 := by
  rw [← List.drop_drop, List.drop_left' rfl, List.drop_append_of_le_length (by rw [List.length_replicate]; exact h), List.drop_replicate]
theorem take_rep {G2 : List Sem'} {n k : Nat} {s : Sem'} (h : k ≤ n) : (List.replicate n s ++ G2).take k = List.replicate k s := by
  rw [List.take_append_of_le_length (by rw [List.length_replicate]; exact h), List.take_replicate, Nat.min_eq_left h]
theorem subsub {a b c : Int} : a - b + (b - c) = a - c := by omega
theorem piece0 {f n b x : Int} (h1 : b ≤ f) (h2 : f < x) (h3 : x ≤ f + n) : (x - b).toNat = (f - b).toNat + (x - f).toNat ∧ (x - f).toNat ≤ n.toNat :=
  ⟨by rw [← Int.toNat_add (Int.sub_nonneg_of_le h1) (Int.sub_nonneg_of_le (Int.le_of_lt h2)), Int.add_comm, subsub], Int.toNat_le_toNat (Int.sub_left_le_of_le_add h3)⟩
theorem piece1 {f n b x : Int} (h1 : f < b) (h2 : b < x) (h3 : x ≤ f + n) : (f - b).toNat = 0 ∧ (x - b).toNat ≤ n.toNat - (b - f).toNat ∧ (b - f).toNat ≤ n.toNat :=
  ⟨Int.toNat_of_nonpos (Int.sub_nonpos_of_le (Int.le_of_lt h1)), Nat.le_sub_of_add_le (by rw [← Int.toNat_add (Int.sub_nonneg_of_le (Int.le_of_lt h2)) (Int.sub_nonneg_of_le (Int.le_of_lt h1)), subsub]; exact Int.toNat_le_toNat (Int.sub_left_le_of_le_add h3)), Int.toNat_le_toNat (Int.sub_left_le_of_le_add (Int.le_trans (Int.le_of_lt h2) h3))⟩
theorem piece2 {f b : Int} {k : Nat} (h : (k : Int) = f) (h0 : 0 ≤ b) (h1 : f < b) : b.toNat = k + (b - f).toNat := h ▸ (tNat (Int.natCast_nonneg k) (Int.le_of_lt (h ▸ h1))).symm
theorem piece3 {f b : Int} {k : Nat} (h : (k : Int) = f) (h0 : 0 ≤ b) (h1 : b ≤ f) : b.toNat + (f - b).toNat = k := (tNat h0 h1).trans (congrArg Int.toNat h.symm)
/-- one more piece of a stretch -/
theorem piece' {G1 G2 : List Sem'} {n f b x : Int} {s : Sem'} (hf : (G1.length : Int) = f) (hb : b < x) (hx : f < x) (hxn : x ≤ f + n) (h0 : 0 ≤ b) :
    ((G1 ++ (List.replicate n.toNat s ++ G2)).drop b.toNat).take (x - b).toNat = ((G1 ++ (List.replicate n.toNat s ++ G2)).drop b.toNat).take (f - b).toNat ++ List.replicate (x - max f b).toNat s := by
  by_cases hbf : b ≤ f
  · obtain ⟨e1, e2⟩ := piece0 hbf hx hxn
    rw [Int.max_eq_left hbf, e1, List.take_add, List.drop_drop, piece3 hf h0 hbf, List.drop_left' rfl, take_rep e2]
  · have hbf := Int.not_le.mp hbf
    refine o0_3 (fun e1 e2 e3 => ?_) (piece1 hbf hb hxn)
    rw [Int.max_eq_right (Int.le_of_lt hbf), e1, piece2 hf h0 hbf, drop_rep e3, take_rep e2]
    rfl
theorem piece {G1 G2 : List Sem'} {n first b e : Int} {s : Sem'} (hn : 0 < n) (hf : (G1.length : Int) = first) (hb : b < first + n) (he : first < e) (h0 : 0 ≤ b) (hbe : b < e) :
    ((G1 ++ (List.replicate n.toNat s ++ G2)).drop b.toNat).take (min (first + n) e - b).toNat = ((G1 ++ (List.replicate n.toNat s ++ G2)).drop b.toNat).take (min first e - b).toNat ++ List.replicate (min (first + n) e - max first b).toNat s := by
  rw [Int.min_eq_left (Int.le_of_lt he)]
  exact piece' hf (Int.lt_min.mpr ⟨hb, hbe⟩) (Int.lt_min.mpr ⟨Int.lt_add_of_pos_right _ hn, he⟩) (Int.min_le_left ..) h0

section
variable {w : World} {C : Nat → CL} {lv : Nat} {σ : Store} {Q : PE}
theorem between_ok (P : Prg w C) {pr tr : Addr} {R : List Run} {A : List ARun} {b e : Int} (hpr : PR σ pr tr) (H : HT σ tr R) (hp : PosR R) (hA : RSt σ R A) (hs : lenR R ≤ 1000) (h0 : 0 ≤ b) (hbe : b ≤ e) (h1 : e ≤ lenR R)
    (h : ∀ σ' la rs B, σ' la = some (.list rs) → R3 σ' σ' rs B → flat B = ((flat A).drop b.toNat).take (e - b).toNat → Ext σ σ' → Q (.ref la) σ') : C (lv + 4) "rows_between" [.ref pr, .int b, .int e] σ Q := by
  refine P.fn rfl rfl ?_
  walk_at "aw"
  refine newW_ext fun la σ1 hla hl1 x1 => ?_
  obtain ⟨Cc, hpr1⟩ := hpr.ext x1
  walk_at "aw"
  refine w_if (fun z => ?_) fun z => ?_
  · have z := of_decide_eq_true z
    walk_at "aw"
    refine h σ1 la [] [] hl1 .nil ?_ x1
    rw [show (e - b).toNat = 0 by omega]; simp [flat]
  have z := of_decide_eq_false z
  walk_at "aw"
  refine findR_ok P (H.ext x1) hp h0 (by omega) fun xs a n p ys tup c l r eR W eL eY g1 g2 g3 => ?_
  have x2 : Ext σ1 (upd σ1 tup (.tup [.ref a, .int (lenR xs)])) := Ext.new g3
  have t2 : upd σ1 tup (.tup [.ref a, .int (lenR xs)]) tup = some (.tup [.ref a, .int (lenR xs)]) := upd_self
  generalize upd σ1 tup (.tup [.ref a, .int (lenR xs)]) = σ2 at *
  have hl2 := x2 _ _ hl1
  walk_at "aw"
  refine g_Tup t2 rfl ?_
  refine g_cons (g_Name ?_)
  refine g_cons (g_Name ?_)
  refine g_nil ?_
  walk_at "aw"
  have xx2 := x1.trans x2
  refine while_ind (α := List Run) List.length (fun ys ρ σ3 => ∃ xs rs B, R = xs ++ ys ∧ σ3 la = some (.list rs) ∧ R3 σ σ3 rs B ∧ flat B = ((flat A).drop b.toNat).take (min (lenR xs) e - b).toNat ∧ (b ≤ lenR xs ∨ ∃ a n p zs, ys = (a, n, p) :: zs ∧ b < lenR xs + n) ∧ Ext σ σ3 ∧
    ρ "found" = some (.ref la) ∧ ρ "begin" = some (.int b) ∧ ρ "end" = some (.int e) ∧ ρ "first" = some (.int (lenR xs)) ∧ ρ "node" = some (headV ys)) ?_ ((a, n, p) :: ys) _ _ ⟨xs, [], [], eR, hl2, .nil, ?_, .inr ⟨a, n, p, ys, rfl, g2⟩, xx2, by walk_at "lv", by walk_at "lv", by walk_at "lv", by walk_at "lv", by walk_at "lv"⟩
  rotate_left
  · rw [Int.toNat_of_nonpos (Int.sub_nonpos_of_le (Int.le_trans (Int.min_le_left ..) g1))]; simp [flat]
  clear eL eY g1 g2 W t2 hl2 hl1 eR
  rintro ys ρ σ3 PP ⟨xs, rs, B, rfl, hl3, hB, ef, hcase, x3, q1, q2, q3, q4, q5⟩ hP
  refine while_turn ?_
  have fin : e ≤ lenR xs → Q (.ref la) σ3 := fun hz => h σ3 la rs B hl3 (hB.imm x3.imm) (by rw [ef, Int.min_eq_right hz]) x3
  cases ys with
  | nil =>
    simp only [headV] at q5
    walk_at "aw"
    exact fin (by simpa using h1)
  | cons y ys =>
    obtain ⟨a, n, p⟩ := y
    simp only [headV] at q5
    have hlt : b < lenR xs + n := by
      have := hp (a, n, p) (by simp)
      simp only at this
      rcases hcase with g | ⟨a', n', p', zs, eq, g⟩
      · omega
      · cases eq; exact g
    have H3 := H.ext x3
    refine o3_3 (fun c l r W eL eY => ?_) (H3.at)
    have hnode := W.tt.1
    walk_at "aw"
    refine w_if (fun z2 => ?_) fun z2 => ?_
    · have z2 := of_decide_eq_true z2
      walk_at "aw"
      refine own_ok P W.tt ?_
      walk_at "aw"
      refine ⟨mk_list hl3 (.inr (.inl rfl)), ?_⟩
      walk_at "aw"
      refine w_max ?_
      walk_at "aw"
      refine w_min ?_
      walk_at "aw"
      refine newW_ext fun tp σ4 htp htp4 x4 => ?_
      have hl4 := x4 _ _ hl3
      walk_at "aw"
      refine o2_3 (fun BX A2 rf2_ hX hA2 => ?_) (hA.split); subst rf2_
      refine o2_4 (fun L A3 rf2_ gL okL hA3 => ?_) (hA2.cons_inv); subst rf2_
      have hrl := hB.length
      have hBp := hB.pos
      have elen : ((flat B).length : Int) ≤ e := by
        rw [ef]
        exact Int.le_trans (Int.ofNat_le.mpr (List.length_take_le ..)) (by rw [Int.ofNat_toNat]; exact Int.max_le.mpr ⟨Int.le_trans (Int.sub_le_self _ h0) (Int.min_le_right ..), Int.le_trans h0 hbe⟩)
      rw [flat_len hBp] at elen
      have := lenA_len hBp
      refine w_append hl4 (by rw [hrl]; unfold bigN; omega) ?_
      have W4 : WT (upd σ4 la (.list (rs ++ [.ref tp]))) tr c (.nd a n p l r) := by
        have H4 := H3.ext x4
        exact (W.keep (S := []) x4.keep fun _ _ h => nomatch h).upd ((W.keep (S := []) x4.keep fun _ _ h => nomatch h).off hl4 (.inl rfl))
      have x5 : Ext σ (upd σ4 la (.list (rs ++ [.ref tp]))) := (x3.trans x4).upd_new hla
      refine ⟨trivial, ?_⟩
      walk_at "aw"
      refine following_ok P W4 ?_
      rw [← eY]
      walk_at "aw"
      have e9 : lenR (xs ++ [(a, n, p)]) = lenR xs + n := by rw [lenR_append, lenR_cons]; simp [lenR]
      have elx := hX.len
      have pX := (hA.pos hp).app.1
      have elf : ((flat BX).length : Int) = lenR xs := by rw [flat_len pX, elx]
      have hn := hp (a, n, p) (by simp)
      simp only at hn
      have hB5 : R3 σ (upd σ4 la (.list (rs ++ [.ref tp]))) (rs ++ [.ref tp]) (B ++ [(min (lenR xs + n) e - max (lenR xs) b, sem L)]) :=
        ((hB.imm2 x4.imm).append (.cons htp4 gL okL (Int.max_lt.mpr ⟨Int.lt_min.mpr ⟨Int.lt_add_of_pos_right _ hn, z2⟩, Int.lt_min.mpr ⟨hlt, by omega⟩⟩) .nil)).upd_list hl4
      refine hP ys _ _ ⟨xs ++ [(a, n, p)], _, _, by simp, upd_self, hB5, ?_, .inl (by omega), x5, by walk_at "lv", by walk_at "lv", by walk_at "lv", by rw [e9]; walk_at "lv", by walk_at "lv"⟩ (by simp)
      rw [e9, flat_append, ef, flat_append, flat_cons, piece hn elf hlt z2 h0 (by omega)]
      simp [flat]
    · have z2 := of_decide_eq_false z2
      walk_at "aw"
      exact fin (by omega)
end

/-- a tree of nodes that are all new -/
theorem Post.fresh {σ σ1 σ2 : Store} {tr : Addr} {R1 R2 : List Run} (k : Post tr R1 σ1 R2 σ2) (x : Ext σ σ1) (hf : ∀ y ∈ ownR tr R1, σ y = none) : Ext σ σ2 ∧ ∀ y ∈ ownR tr R2, σ y = none := by
  refine ⟨fun y o e => k.kp y o (fun hy => by rw [hf y hy] at e; cases e) (x y o e), fun y hy => ?_⟩
  rcases k.ad y hy with g | g
  · exact hf y g
  · cases q : σ y with
    | none => rfl
    | some o => rw [x _ _ q] at g; cases g
section
variable {w : World} {C : Nat → CL} {lv : Nat} {σ : Store} {Q : PE}
theorem of_rows_ok (P : Prg w C) {la : Addr} {rs : List V} {B : List ARun} (hla : σ la = some (.list rs)) (hB : R2 σ rs B) (hs : lenA B ≤ 1000)
    (h : ∀ σ' pr tr, PR σ' pr tr → TSt σ' tr (flat B) → Ext σ σ' → Q (.ref pr) σ') : C (lv + 9) "props_of_rows" [.ref la] σ Q := by
  refine P.fn rfl rfl ?_
  walk_at "aw"
  refine props_new P (Int.le_refl 0) fun σ1 pr tr R A hpr H hp hA ef hc hfr x1 => ?_
  walk_at "aw"
  refine s_name ?_
  walk_at "aw"
  refine so_list (x1 _ _ hla) ?_
  refine for_ind (fun rem ρ σ2 => ∃ R A B1 B2, B = B1 ++ B2 ∧ R2 σ rem B2 ∧ PR σ2 pr tr ∧ HT σ2 tr R ∧ PosR R ∧ RSt σ2 R A ∧ flat A = flat B1 ∧ Can No 0 none A ∧ (∀ x ∈ ownR tr R, σ x = none) ∧ Ext σ σ2 ∧ ρ "found" = some (.ref pr) ∧ ρ "at" = some (.int (lenA B1))) ?_ ?_ _ _ _
    ⟨R, A, [], B, rfl, hB, hpr, H, hp, hA, by rw [ef]; rfl, hc, hfr, x1, by walk_at "lv", by rw [lenA_nil]; walk_at "lv"⟩
  · clear hpr H hp hA ef hc hfr x1
    rintro x rem ρ σ2 PP ⟨R, A, B1, B2, rfl, hr, hpr, H, hp, hA, ef, hc, hfr, x2, q1, q2⟩ hPP
    have pB := hB.pos
    have eL : lenR R = lenA B1 := by rw [hA.len, ← flat_len (hA.pos hp), ef, flat_len pB.app.1]
    have hl0 := lenA_nonneg pB.app.1
    cases hr with
    | @cons t n p L _ B3 ht hpl ok hn hr =>
      have hl3 := lenA_nonneg pB.app.2.cons.2
      rw [lenA_append, lenA_cons] at hs
      refine g_Tup (x2 _ _ ht) rfl ?_
      refine g_cons (g_Name ?_)
      refine g_cons (g_Name ?_)
      refine g_nil ?_
      obtain ⟨Cc, hpr'⟩ := id hpr
      walk_at "aw"
      refine ins_ok P H hp hA (show 0 ≤ n by omega) (by simp only at hs; omega) hl0 (by omega) (hpl.imm x2.imm) ok fun σ3 R3 A3 P3 hA3 ef3 c3 => ?_
      refine ⟨trivial, ?_⟩
      have pr3 := P3.pr H hpr
      obtain ⟨Cc, pr3'⟩ := id pr3
      have c3' := c3 No (fun x g => g.elim) hc
      have eflat : flat A3 = flat (B1 ++ [(n, sem L)]) := by
        have t := flat_take (X := B1) (Y := []) (b := lenA B1) pB.app.1 rfl
        rw [List.append_nil] at t
        rw [ef3, ef, t.1, t.2, flat_append]; simp [flat]
      have pB' : PosA (B1 ++ [(n, sem L)]) := pB.app.1.mk fun x hx => by simp only [List.mem_singleton] at hx; subst hx; exact hn
      have l3 : lenR R3 = lenA B1 + n := by
        rw [hA3.len, ← flat_len (hA3.pos P3.pos), eflat, flat_len pB', lenA_append, lenA_cons, lenA_nil]; simp
      walk_at "aw"
      refine join_ok P pr3 P3.ht P3.pos (by simp only at hs; omega) hA3 fun σ4 R4 A4 P4 hA4 j4 => ?_
      refine ⟨trivial, ?_⟩
      have PP := P3.trans P4
      obtain ⟨x4, hf4⟩ := PP.fresh x2 hfr
      walk_at "aw"
      refine fk_next ⟨x4 _ _ hla, hPP _ _ ⟨R4, A4, B1 ++ [(n, sem L)], B3, by simp, hr, PP.pr H hpr, PP.ht, PP.pos, hA4, by rw [j4.1, eflat], ?_, hf4, x4, by walk_at "lv", ?_⟩⟩
      · have l4 : lenA A4 = lenA B1 + n := by rw [← flat_len (hA4.pos PP.pos), j4.1, flat_len (hA3.pos P3.pos), ← hA3.len, l3]
        refine can_no (hA4.pos PP.pos) (j4.2 _ c3') fun x g1 g2 g3 => ?_
        obtain ⟨g3 | g3 | g3, g4⟩ := g3
        · exact g3
        · exact g4 g3
        · omega
      · have : lenA (B1 ++ [(n, sem L)]) = lenA B1 + n := by rw [lenA_append, lenA_cons, lenA_nil]; simp
        rw [this]
        walk_at "lv"
  · clear hpr H hp hA ef hc hfr x1
    rintro ρ σ2 ⟨R, A, B1, B2, rfl, hr, hpr, H, hp, hA, ef, hc, hfr, x2, q1, q2⟩
    have : B2 = [] := by cases hr; rfl
    subst this
    walk_at "aw"
    rw [List.append_nil] at h
    exact h σ2 pr tr hpr ⟨R, A, H, hp, hA, ef, hc⟩ x2
theorem copied_ok (P : Prg w C) {pr tr : Addr} {F : List Sem'} {b e : Int} (hpr : PR σ pr tr) (H : TSt σ tr F) (hs : F.length ≤ 1000) (h0 : 0 ≤ b) (hbe : b ≤ e) (h1 : e ≤ F.length)
    (h : ∀ σ' pr' tr', PR σ' pr' tr' → TSt σ' tr' ((F.drop b.toNat).take (e - b).toNat) → Ext σ σ' → Q (.ref pr') σ') : C (lv + 10) "copied_props" [.ref pr, .int b, .int e] σ Q := by
  refine P.fn rfl rfl ?_
  revert H; refine o2_5 fun R A HR hp hA rf5_ hc => ?_; subst rf5_
  have eL : ((flat A).length : Int) = lenR R := by rw [hA.len]; exact flat_len (hA.pos hp)
  walk_at "aw"
  refine s_call rfl ?_
  walk_at "aw"
  refine between_ok P hpr HR hp hA (by omega) h0 hbe (by omega) fun σ1 la rs B hla hB ef x1 => ?_
  refine so_list hla ?_
  have lB : lenA B ≤ 1000 := by
    rw [← flat_len hB.pos, ef]
    rw [lenMid h0 hbe h1]
    omega
  have hl := hB.length
  refine comp_ind (fun rem acc ρ σ2 => ∃ B1 B2, B = B1 ++ B2 ∧ R3 σ1 σ1 rem B2 ∧ R2 σ2 acc B1 ∧ Ext σ1 σ2) ?_ ?_ _ _ _ _ ⟨[], B, rfl, hB, .nil, Ext.refl _⟩
  · rintro x rem acc ρ σ2 PP ⟨B1, B2, rfl, hr, hacc, x2⟩ hPP
    cases hr with
    | @cons t f l p L _ B3 ht hpl ok hn hr =>
      refine g_Tup (x2 _ _ ht) rfl ?_
      refine g_cons (g_Name ?_)
      refine g_cons (g_Name ?_)
      refine g_cons (g_Name ?_)
      refine g_nil ?_
      refine ts_nil ?_
      refine o2_3 (fun pa xs rf2_ hpa hxs => ?_) (hpl.imm x2.imm); subst rf2_
      walk_at "aw"
      refine w_copy hpa ?_
      refine newW_ext fun p2 σ3 hp2 hp2' x3 => ?_
      walk_at "aw"
      refine newW_ext fun tp σ4 htp htp' x4 => ?_
      refine ⟨x4 _ _ (x3 _ _ (x2 _ _ hla)), hPP _ _ _ ⟨B1 ++ [(l - f, sem L)], B3, by simp, hr, ?_, (x2.trans x3).trans x4⟩⟩
      exact (hacc.imm (x3.trans x4).imm).append (.cons htp' ⟨p2, xs, rfl, x4 _ _ hp2', hxs.imm (x3.trans x4).imm⟩ ok (by omega) .nil)
  · rintro acc ρ σ2 ⟨B1, B2, rfl, hr, hacc, x2⟩
    have : B2 = [] := by cases hr; rfl
    subst this
    rw [List.append_nil] at ef lB
    refine newW_ext fun lb σ3 hlb hlb' x3 => ?_
    walk_at "aw"
    refine of_rows_ok P hlb' (hacc.imm x3.imm) lB fun σ4 pr' tr' g1 g2 x4 => ?_
    walk_at "aw"
    exact h σ4 pr' tr' g1 (by rw [← ef]; exact g2) (((x1.trans x2).trans x3).trans x4)
theorem graft_ok (P : Prg w C) {pr tr po to' : Addr} {F G : List Sem'} {at' : Int} (hpr : PR σ pr tr) (H : TSt σ tr F) (hpo : PR σ po to') (HG : TSt σ to' G) (h0 : 0 ≤ at') (h1 : at' ≤ F.length) (hs : F.length + G.length ≤ 1000)
    (h : ∀ σ', LP σ σ' → TSt σ' tr (F.take at'.toNat ++ (G ++ F.drop at'.toNat)) → Q .none σ') : C (lv + 9) "graft" [.ref pr, .int at', .ref po] σ Q := by
  refine P.fn rfl rfl ?_
  revert H; refine o2_5 fun R A HR hp hA rf5_ hc => ?_; subst rf5_
  revert HG; refine o2_5 fun RG AG HRG hpG hAG rf5_ hcG => ?_; subst rf5_
  have eL : ((flat A).length : Int) = lenR R := by rw [hA.len]; exact flat_len (hA.pos hp)
  have eG : ((flat AG).length : Int) = lenR RG := by rw [hAG.len]; exact flat_len (hAG.pos hpG)
  have pAG := hAG.pos hpG
  obtain ⟨Cc, hpo'⟩ := id hpo
  walk_at "aw"
  refine s_call rfl ?_
  walk_at "aw"
  refine rows_ok P HRG hpG (by omega) fun σ1 la rs hla hln htup k1 => ?_
  have x1 := k1.ext
  have hrs : R3 σ1 σ1 rs AG := R3.of_rows htup (hAG.imm x1.imm) hpG
  have P1 := Post.ext HR hp x1
  refine so_list hla ?_
  refine for_ind (fun rem ρ σ2 => ∃ R2 A2 B1 B2, AG = B1 ++ B2 ∧ R3 σ1 σ1 rem B2 ∧ Post tr R σ1 R2 σ2 ∧ RSt σ2 R2 A2 ∧ flat A2 = (flat A).take at'.toNat ++ (flat B1 ++ (flat A).drop at'.toNat) ∧ Can (fun x => at' ≤ x ∧ x ≤ at' + lenA B1) 0 none A2 ∧ ρ "props" = some (.ref pr) ∧ ρ "at" = some (.int at') ∧ ρ "here" = some (.int (at' + lenA B1))) ?_ ?_ _ _ _
    ⟨R, A, [], AG, rfl, hrs, .refl P1.ht hp, hA.imm x1.imm, by simp [flat], can_mono (hA.pos hp) hc fun x _ _ g => g.elim, by walk_at "lv", by walk_at "lv", by rw [lenA_nil, Int.add_zero]; walk_at "lv"⟩
  · rintro x rem ρ σ2 PP ⟨R2, A2, B1, B2, rfl, hr, P2, hA2, ef, cc, q1, q2, q3⟩ hPP
    have im2 := P2.imm P1.ht
    have pr2 := P2.pr P1.ht (hpr.ext x1)
    obtain ⟨Cc, pr2'⟩ := id pr2
    have hl0 := lenA_nonneg pAG.app.1
    have l2 : lenR R2 = lenR R + lenA B1 := by
      rw [hA2.len, ← flat_len (hA2.pos P2.pos), ef, insLen2 h0 h1, eL, flat_len pAG.app.1]
    have lG : (flat (B1 ++ B2)).length = lenA B1 + lenA B2 := by rw [flat_len pAG, lenA_append]
    cases hr with
    | @cons t f l p L _ B3 ht hpl ok hn hr =>
      have hl3 := lenA_nonneg pAG.app.2.cons.2
      rw [lenA_cons] at lG
      simp only at lG
      refine g_Tup (im2 _ _ ht rfl) rfl ?_
      refine g_cons (g_Name ?_)
      refine g_cons (g_Name ?_)
      refine g_cons (g_Name ?_)
      refine g_nil ?_
      refine o2_3 (fun pa xs rf2_ hpa hxs => ?_) (hpl.imm im2); subst rf2_
      walk_at "aw"
      refine w_copy hpa ?_
      refine newW_ext fun p2 σ3 hp2 hp2' x3 => ?_
      have P3 := Post.ext P2.ht P2.pos x3
      walk_at "aw"
      refine ins_ok P P3.ht P2.pos (hA2.imm x3.imm) (show 0 ≤ l - f by omega) (by omega) (show 0 ≤ at' + lenA B1 by omega) (by omega) (q := .ref p2) (L := L) ⟨p2, xs, rfl, hp2', hxs.imm x3.imm⟩ ok fun σ4 R4 A4 P4 hA4 ef4 c4 => ?_
      refine ⟨trivial, ?_⟩
      have PP4 := (P2.trans P3).trans P4
      walk_at "aw"
      have elen : lenA (B1 ++ [(l - f, sem L)]) = lenA B1 + (l - f) := by rw [lenA_append, lenA_cons, lenA_nil]; simp
      refine fk_next ⟨(PP4.imm P1.ht) _ _ hla rfl, hPP _ _ ⟨R4, A4, B1 ++ [(l - f, sem L)], B3, by simp, hr, PP4, hA4, ?_, ?_, by walk_at "lv", by walk_at "lv", ?_⟩⟩
      · rw [ef4, ef]
        have e1 : (at' + lenA B1).toNat = ((flat A).take at'.toNat ++ flat B1).length := by
          rw [List.length_append, lenTake h0 h1, ← flat_len pAG.app.1]
          exact Int.toNat_add h0 (Int.natCast_nonneg _)
        have e2 : (flat A).take at'.toNat ++ (flat B1 ++ (flat A).drop at'.toNat) = ((flat A).take at'.toNat ++ flat B1) ++ (flat A).drop at'.toNat := by simp
        rw [e2, e1, List.take_left' rfl, List.drop_left' rfl, flat_append]
        simp [flat]
      · refine can_mono (hA4.pos PP4.pos) (c4 _ (fun x g => g.2) cc) fun x _ _ g => ?_
        rw [elen]
        omega
      · rw [elen, show at' + (lenA B1 + (l - f)) = at' + lenA B1 + l - f by omega]
        walk_at "lv"
  · rintro ρ σ2 ⟨R2, A2, B1, B2, rfl, hr, P2, hA2, ef, cc, q1, q2, q3⟩
    have : B2 = [] := by cases hr; rfl
    subst this
    rw [List.append_nil] at h eG hs
    have pr2 := P2.pr P1.ht (hpr.ext x1)
    have hl0 := lenA_nonneg pAG.app.1
    have l2 : lenR R2 = lenR R + lenA B1 := by
      rw [hA2.len, ← flat_len (hA2.pos P2.pos), ef, insLen2 h0 h1, eL, flat_len pAG.app.1]
    have lG := flat_len pAG.app.1
    walk_at "aw"
    refine range_join_ok P pr2 P2.ht P2.pos (by omega) hA2 h0 fun σ3 R3 A3 P3 hA3 ef3 c3 => ?_
    refine ⟨trivial, ?_⟩
    have pr3 := P3.pr P2.ht pr2
    have l3 := len_same hA2 hA3 P2.pos P3.pos ef3
    walk_at "aw"
    refine join_ok P pr3 P3.ht P3.pos (by omega) hA3 fun σ4 R4 A4 P4 hA4 j4 => ?_
    refine ⟨trivial, ?_⟩
    walk_at "aw"
    have PP := ((P1.trans P2).trans P3).trans P4
    refine h σ4 (PP.lp HR) ⟨R4, A4, PP.ht, PP.pos, hA4, by rw [j4.1, ef3, ef], can_mono (hA4.pos PP.pos) (j4.2 _ (c3 cc)) fun x _ _ g => g.1⟩
end

theorem for_cons {body : AEnv → Store → PS → Prop} {t : Expr} {o : Option (Addr × O)} {x : V} {xs : List V} {ρ : AEnv} {σ : Store} {QS : PS} (h : asgW 3 t x ρ σ fun ρ₁ => body ρ₁ σ (forK o QS (fun ρ σ => forW body t o xs ρ σ QS))) : forW body t o (x :: xs) ρ σ QS := h
theorem for_nil {body : AEnv → Store → PS → Prop} {t : Expr} {o : Option (Addr × O)} {ρ : AEnv} {σ : Store} {QS : PS} (h : QS .next ρ σ) : forW body t o [] ρ σ QS := h
noncomputable def cnts (ts : List T) : Nat := (ts.map T.cnt).sum
theorem cnts_nil : cnts [] = 0 := rfl
theorem cnts_append (a b : List T) : cnts (a ++ b) = cnts a + cnts b := by unfold cnts; rw [List.map_append, List.sum_append]
theorem cnts_cons (x : T) (b : List T) : cnts (x :: b) = x.cnt + cnts b := by unfold cnts; rw [List.map_cons, List.sum_cons]
theorem TR.ext {σ σ' : Store} (x : Ext σ σ') {t : T} {q : V} (h : TR σ q t) : TR σ' q t := h.keep (S := []) x.keep fun _ _ h => nomatch h
theorem cnts_one {t : T} : cnts [t] = t.cnt := by rw [cnts_cons, cnts_nil]; rfl
noncomputable abbrev goodT (σ : Store) (t : T) : Prop := (∃ a, t.root = .ref a) ∧ t.pos ∧ ∃ q, TR σ q t
theorem cnts_len {σ : Store} : ∀ {ts : List T}, (∀ t ∈ ts, goodT σ t) → ts.length ≤ cnts ts
  | [], _ => Nat.zero_le _
  | .nil :: _, h => (h _ (.head _)).1.elim fun _ e => by cases e
  | .nd a n p l r :: ts, h => by
    rw [cnts_cons, List.length_cons, Nat.add_comm]
    exact Nat.add_le_add (Nat.le_trans (Nat.le_add_right 1 l.cnt) (Nat.le_add_right _ r.cnt)) (cnts_len fun t ht => h t (.tail _ ht))
theorem ne_concat {α : Type} {l : List α} (h : (0 : Int) < l.length) : ∃ l' x, l = l' ++ [x] := by
  rcases List.eq_nil_or_concat l with e | ⟨l', x, e⟩
  · rw [e] at h; cases h
  · exact ⟨l', x, e.trans List.concat_eq_append⟩
theorem root_nd' : ∀ {t : T} {a : Addr}, t.root = .ref a → ∃ n p l r, t = .nd a n p l r
  | .nd .., _, e => V.ref.inj e ▸ ⟨_, _, _, _, rfl⟩
section
variable {w : World} {C : Nat → CL} {lv : Nat} {σ : Store} {Q : PE}
theorem props_at_ok (P : Prg w C) {pr tr : Addr} {F : List Sem'} {at' : Int} (hpr : PR σ pr tr) (H : TSt σ tr F) (hs : F.length ≤ 1000) (h0 : 0 ≤ at')
    (h : ∀ σ' p L, PL σ' p L → PLok L → sem L = (F[at'.toNat]?).getD (sem []) → Ext σ σ' → Q p σ') : C (lv + 4) "properties_at" [.ref pr, .int at'] σ Q := by
  refine P.fn rfl rfl ?_
  revert H; refine o2_5 fun R A HR hp hA rf5_ hc => ?_; subst rf5_
  have eL : ((flat A).length : Int) = lenR R := by rw [hA.len]; exact flat_len (hA.pos hp)
  obtain ⟨Cc, hpr'⟩ := id hpr
  walk_at "aw"
  refine tl_ok P HR ?_
  walk_at "aw"
  refine w_if (fun z => ?_) fun z => ?_
  · have z := of_decide_eq_true z
    walk_at "aw"
    refine newW_ext fun p σ1 hp1 hp2 x1 => ?_
    walk_at "aw"
    refine h σ1 (.ref p) [] ⟨p, [], rfl, hp2, .nil⟩ .nil ?_ x1
    rw [List.getElem?_eq_none (by omega)]; rfl
  · have z := of_decide_eq_false z
    walk_at "aw"
    refine findR_ok P HR hp h0 (by omega) fun xs a n p ys tup c l r eR W eL eY g1 g2 g3 => ?_
    have x1 : Ext σ (upd σ tup (.tup [.ref a, .int (lenR xs)])) := Ext.new g3
    have t1 : upd σ tup (.tup [.ref a, .int (lenR xs)]) tup = some (.tup [.ref a, .int (lenR xs)]) := upd_self
    generalize upd σ tup (.tup [.ref a, .int (lenR xs)]) = σ1 at *
    have ha := x1 _ _ W.tt.1
    walk_at "aw"
    refine w_subt (i := 0) (xs := [.ref a, .int (lenR xs)]) t1 (Int.le_refl _) rfl ?_
    walk_at "aw"
    subst eR
    have pA := hA.pos hp
    refine o2_3 (fun B D rf2_ hb hd => ?_) (hA.split); subst rf2_
    refine o2_4 (fun L D rf2_ gL okL hd => ?_) (hd.cons_inv); subst rf2_
    have e1 := hb.len
    have e2 := flat_len pA.app.1
    refine h σ1 p L (gL.imm x1.imm) okL ?_ x1
    rw [flat_append, flat_cons, List.getElem?_append_right (by omega), List.getElem?_append_left (by rw [List.length_replicate]; omega), List.getElem?_replicate, if_pos (by omega)]
    rfl
theorem error_ok (P : Prg w C) {tr : Addr} {R : List Run} (H : HT σ tr R) (hp : PosR R) (hs : lenR R ≤ 1000)
    (h : ∀ σ', Ext σ σ' → Q .none σ') : C (lv + 3) "tree_error" [.ref tr] σ Q := by
  refine P.fn rfl rfl ?_
  revert H; refine o1_2 fun t W rf2_ => ?_
  have ht : σ tr = some (treeO t.root) := W.cc
  have tt : TR σ .none t := W.tt
  have hcnt := len_le hp
  rw [← rf2_, ← cnt_io] at hcnt
  have hpos := (pos_io t).mpr (rf2_.symm ▸ hp)
  clear hp
  have hcn : (t.cnt : Int) ≤ 1000 := Int.le_trans hcnt (rf2_.symm ▸ hs)
  clear W hcnt hs rf2_
  rcases root_or t with e | ⟨a, ea⟩
  · have e := congrArg T.root e
    rw [e] at ht
    walk_at "aw"
    exact h σ (Ext.refl _)
  refine o3_1 (fun p l r hroot => ?_) (root_at ea tt)
  rw [ea] at ht
  walk_at "aw"
  refine newW_ext fun wl σ1 hwl hw1 x1 => ?_
  walk_at "aw"
  refine while_ind (α := List T) cnts (fun ts ρ σ2 => (cnts ts : Int) ≤ 1000 ∧ (∀ t ∈ ts, goodT σ t) ∧ σ2 wl = some (.list (ts.map T.root)) ∧ Ext σ σ2 ∧ ρ "waiting" = some (.ref wl)) ?_ [t] _ _ ⟨cnts_one.symm ▸ hcn, fun t' ht' => List.mem_singleton.mp ht' ▸ ⟨⟨a, ea⟩, hpos, _, tt⟩, by rw [hw1, List.map_cons, ea]; rfl, x1, by walk_at "lv"⟩
  clear tt hcn hpos hroot ht hw1 x1 ea a t p l r
  intro ts ρ σ2 PP
  refine o0_5 fun hc hts hw2 x2 q1 hP => ?_
  refine while_turn ?_
  walk_at "aw"
  refine w_len hw2 ?_
  walk_at "aw"
  refine w_if (fun z => ?_) fun z => ?_
  rotate_left
  · walk_at "aw"
    exact h σ2 x2
  refine o2_1 (fun ts1 t et => ?_) (ne_concat (l := ts) (by have := of_decide_eq_true z; rwa [List.length_map] at this))
  rw [et, List.map_append] at hw2
  refine o0_3 (fun ra hpt hq => ?_) (hts t (by rw [et]; simp))
  obtain ⟨a, ea⟩ := ra
  obtain ⟨q, htr⟩ := hq
  obtain ⟨n, p, l, r, en⟩ := root_nd' ea
  have hec : cnts ts = cnts ts1 + (1 + l.cnt + r.cnt) := by rw [et, cnts_append, cnts_one, en]; rfl
  have hts1 : ∀ t ∈ ts1, goodT σ t := fun t ht => hts t (by rw [et]; simp [ht])
  have len_ts := cnts_len hts1
  have hw2 : σ2 wl = some (.list (ts1.map T.root ++ [.ref a])) := hw2.trans (by rw [List.map_cons, ea]; rfl)
  walk_at "aw"
  refine ⟨mk_list hw2 (.inl rfl), ?_⟩
  walk_at "aw"
  refine w_pop (xs := ts1.map T.root) (x := .ref a) hw2 ?_
  have x3 : Ext σ (upd σ2 wl (.list (ts1.map T.root))) := x2.upd_new hwl
  generalize hu : upd σ2 wl (.list (ts1.map T.root)) = σ3
  rw [hu] at x3
  have hw3 := gA hu
  clear hu
  rw [en] at hpt htr
  refine o0_3 (fun hn hpl hpr => ?_) hpt
  have htr3 := htr.ext x3
  walk_at "aw"
  refine own_ok P htr3 ?_
  walk_at "aw"
  refine w_if (fun z2 => absurd (of_decide_eq_true z2) (Int.not_le.mpr hn)) fun z2 => ?_
  have ha := htr3.1
  refine o0_3 (fun _ hl0 hr0 => ?_) htr
  walk_at "aw"
  refine s_tup ?_
  walk_at "aw"
  refine newW_ext fun tp σ4 htp htp' x4 => ?_
  refine so_tup htp' ?_
  have hwtp : tp ≠ wl := fun e => by rw [e, hw3] at htp; cases htp
  have ha1 : σ a = some _ := htr.1
  clear htr3 htr ha
  refine for_ind (fun xs ρ' σ' => ∃ ss ts', xs = ss.map T.root ∧ cnts ts' + cnts ss ≤ cnts ts1 + (l.cnt + r.cnt) ∧ (∀ t ∈ ts', goodT σ t) ∧ (∀ s ∈ ss, s.pos ∧ TR σ (.ref a) s) ∧ σ' wl = some (.list (ts'.map T.root)) ∧ Ext σ σ' ∧ σ' tp = some (.tup [l.root, r.root]) ∧ ρ' "node" = some (.ref a) ∧ ρ' "waiting" = some (.ref wl)) ?_ ?_ _ _ _
    ⟨[l, r], ts1, rfl, by rw [cnts_cons, cnts_one]; exact Nat.le_refl _, hts1, fun s hs => (List.mem_cons.mp hs).elim (fun e => e ▸ ⟨hpl, hl0⟩) fun hs => List.mem_singleton.mp hs ▸ ⟨hpr, hr0⟩, x4 _ _ hw3, x3.trans x4, htp', by walk_at "lv", by walk_at "lv"⟩
  · clear hw3 htp' x3 x4 x2 hw2 hts1 len_ts
    intro x xs ρ' σ' PP'
    refine o2_4 fun ss ts' ex hcn hgood => o0_6 fun hss hw5 x5 htp5 q2 q3 hPP => ?_
    obtain ⟨s, ss', rfl, ex1, ex2⟩ := List.map_eq_cons_iff.mp ex.symm
    rw [cnts_cons] at hcn
    have hss1 := hss s (.head _)
    refine g_Name ?_
    walk_at "aw"
    refine w_isnv (ex1 ▸ rootV s) fun cc c1 c2 => ?_
    refine join_if (fun σ1 => ∃ ts'', cnts ts'' + cnts ss' ≤ cnts ts1 + (l.cnt + r.cnt) ∧ (∀ t ∈ ts'', goodT σ t) ∧ σ1 wl = some (.list (ts''.map T.root)) ∧ Ext σ σ1 ∧ σ1 tp = some (.tup [l.root, r.root]))
      (fun σ1 => o1_5 fun ts'' g1 g2 g3 g4 g5 => fk_next ⟨g5, hPP _ _ ⟨ss', ts'', ex2.symm, g1, g2, fun s hs => hss s (.tail _ hs), g3, g4, g5, by walk_at "lv", by walk_at "lv"⟩⟩) fun K hK => ⟨fun e => ?_, fun e => ?_⟩
    · obtain ⟨b, eb⟩ := c1 e
      refine o3_1 (fun p1 l1 r1 hb => ?_) (root_at (ex1.trans eb) hss1.2)
      walk_at "aw"
      refine w_getv eb (x5 _ _ hb) rfl ?_
      walk_at "aw"
      refine w_isnRR (inst_node (x5 _ _ ha1)) (inst_node (x5 _ _ ha1)) ?_
      walk_at "aw"
      refine ⟨mk_list hw5 (.inr (.inl rfl)), ?_⟩
      walk_at "aw"
      have hlen := cnts_len hgood
      refine w_append hw5 (by rw [List.length_map]; unfold bigN; omega) ?_
      refine ⟨trivial, ?_⟩
      walk_at "aw"
      refine hK _ ⟨ts' ++ [s], ?_, fun t ht => (List.mem_append.mp ht).elim (hgood t) fun ht => List.mem_singleton.mp ht ▸ ⟨⟨b, ex1.trans eb⟩, hss1.1, _, hss1.2⟩, ?_, x5.upd_new hwl, upd_at hwtp htp5⟩
      · rw [cnts_append, cnts_one]; omega
      · rw [upd_self, List.map_append, ← ex1]; rfl
    · exact hK _ ⟨ts', Nat.le_trans (Nat.add_le_add_left (Nat.le_add_left _ _) _) hcn, hgood, hw5, x5, htp5⟩
  · intro ρ' σ'
    refine o2_4 fun ss ts' ex hcn hgood => o0_6 fun hss hw5 x5 htp5 q2 q3 => ?_
    walk_at "aw"
    exact hP ts' ρ' σ' ⟨by omega, hgood, hw5, x5, q3⟩ (by omega)
end

section
variable {σ σ' : Store} {Q : PE}
theorem w_dictl {a : Addr} {xs : List V} {l : List (Int × V)} (ha : σ a = some (.list xs)) (hl : pairsOf σ xs = some l) (h : newD σ (dictOfPairs l []) Q) : bltW "dict" [.ref a] σ Q := by
  unfold bltW; dsimp only
  rw [if_neg (by decide), if_neg (by decide), if_neg (by decide), if_pos rfl]
  unfold refW; dsimp only
  rw [ha]; dsimp only; rw [hl]; exact h
theorem w_dictd {a : Addr} {l : List (Int × V)} {ep : Nat} (ha : σ a = some (.dict l ep)) (h : newD σ l Q) : bltW "dict" [.ref a] σ Q := by
  unfold bltW; dsimp only
  rw [if_neg (by decide), if_neg (by decide), if_neg (by decide), if_pos rfl]
  unfold refW; dsimp only
  rw [ha]; exact h
theorem w_update {a b : Addr} {d l : List (Int × V)} {ep ep' : Nat} (ha : σ a = some (.dict d ep)) (hb : σ b = some (.dict l ep')) (hab : a ≠ b) (hl : d.length + l.length ≤ bigN) (h : ∀ ep, Q .none (upd σ a (.dict (dictOfPairs l d) ep))) : methW "update" (.ref a) [.ref b] σ Q := by
  unfold methW; dsimp only
  rw [if_neg (by decide), if_neg (by decide), if_pos rfl]
  unfold refW; dsimp only
  rw [ha, hb]; exact ⟨⟨hab, hl⟩, h⟩
theorem mk_dict {a : Addr} {d : List (Int × V)} {ep : Nat} (ha : σ a = some (.dict d ep)) : methOk "update" (.ref a) σ := by
  unfold methOk refW
  dsimp only
  rw [ha]
theorem w_subd {a : Addr} {k : Int} {d : List (Int × V)} {ep : Nat} {v : V} (ha : σ a = some (.dict d ep)) (hk : dictAt k d = some v) (h : Q v σ) : subW σ (.ref a) (.int k) Q := by
  unfold subW refW intW
  dsimp only
  rw [ha]; dsimp only
  rw [hk]; exact h
inductive PrR (σ : Store) : List V → List (Int × V) → Prop
  | nil : PrR σ [] []
  | cons {t : Addr} {k : Int} {v : V} {xs : List V} {l : List (Int × V)} : σ t = some (.tup [.int k, v]) → PrR σ xs l → PrR σ (.ref t :: xs) ((k, v) :: l)
theorem PrR.pairs {xs : List V} {l : List (Int × V)} (h : PrR σ xs l) : pairsOf σ xs = some l := by
  induction h with
  | nil => rfl
  | cons h1 _ ih => unfold pairsOf; rw [h1, ih]
theorem PrR.imm (k : Imm σ σ') {xs : List V} {l : List (Int × V)} (h : PrR σ xs l) : PrR σ' xs l := by
  induction h with
  | nil => exact .nil
  | cons h1 _ ih => exact .cons (k _ _ h1 rfl) ih
theorem PrR.append {xs ys : List V} {l m : List (Int × V)} (h : PrR σ xs l) (k : PrR σ ys m) : PrR σ (xs ++ ys) (l ++ m) := by
  induction h with
  | nil => exact k
  | cons h1 _ ih => exact .cons h1 ih
/-- a character's dict: each value with its kind -/
inductive DR (σ : Store) : List (Int × V) → PLs → Prop
  | nil : DR σ [] []
  | cons {t : Addr} {k : Int} {v : V} {d : List (Int × V)} {L : PLs} : σ t = some (.tup [.bool (isB v), v]) → isD v = true → DR σ d L → DR σ ((k, .ref t) :: d) ((k, v) :: L)
theorem DR.imm (k : Imm σ σ') {xs : List (Int × V)} {l : PLs} (h : DR σ xs l) : DR σ' xs l := by
  induction h with
  | nil => exact .nil
  | cons h1 h2 _ ih => exact .cons (k _ _ h1 rfl) h2 ih
theorem DR.append {xs ys : List (Int × V)} {l m : PLs} (h : DR σ xs l) (k : DR σ ys m) : DR σ (xs ++ ys) (l ++ m) := by
  induction h with
  | nil => exact k
  | cons h1 h2 _ ih => exact .cons h1 h2 ih
theorem DR.keys {xs : List (Int × V)} {l : PLs} (h : DR σ xs l) : Mine.keys xs = Mine.keys l := by
  induction h with
  | nil => rfl
  | cons h1 h2 _ ih => simp only [Mine.keys, List.map_cons] at ih ⊢; rw [ih]
theorem DR.length {xs : List (Int × V)} {l : PLs} (h : DR σ xs l) : xs.length = l.length := by
  induction h with
  | nil => rfl
  | cons h1 h2 _ ih => simp [ih]
theorem DR.uniq {xs : List (Int × V)} {l m : PLs} (h : DR σ xs l) (k : DR σ xs m) : l = m := by
  induction h generalizing m with
  | nil => cases k; rfl
  | cons h1 h2 _ ih =>
    cases k with
    | cons k1 k2 k3 =>
      rw [h1] at k1
      simp only [Option.some.injEq, O.tup.injEq, List.cons.injEq, and_true] at k1
      rw [ih k3, k1.2]
theorem DR.get {xs : List (Int × V)} {l : PLs} (h : DR σ xs l) {k : Int} {v : V} (e : dictAt k l = some v) : ∃ t, dictAt k xs = some (.ref t) ∧ σ t = some (.tup [.bool (isB v), v]) ∧ isD v = true := by
  induction h with
  | nil => cases e
  | @cons t j u d L h1 h2 h3 ih =>
    unfold dictAt at e ⊢
    by_cases hj : j = k
    · rw [if_pos hj] at e ⊢; cases e; exact ⟨t, rfl, h1, h2⟩
    · rw [if_neg hj] at e ⊢; exact ih e
theorem DR.put {xs : List (Int × V)} {l : PLs} (h : DR σ xs l) {k : Int} {v : V} {t : Addr} (ht : σ t = some (.tup [.bool (isB v), v])) (hv : isD v = true) : DR σ (dictPut k (.ref t) xs) (dictPut k v l) := by
  induction h with
  | nil => exact .cons ht hv .nil
  | @cons t' j u d L h1 h2 h3 ih =>
    unfold dictPut
    by_cases hj : j = k
    · rw [if_pos hj, if_pos hj]; exact .cons ht hv h3
    · rw [if_neg hj, if_neg hj]; exact .cons h1 h2 ih
theorem DR.puts {xs ys : List (Int × V)} {l m : PLs} (h : DR σ xs l) (k : DR σ ys m) : DR σ (dictOfPairs xs ys) (dictOfPairs l m) := by
  induction h generalizing ys m with
  | nil => exact k
  | cons h1 h2 _ ih => exact ih (k.put h1 h2)
noncomputable def CD (σ : Store) (d : Addr) (s : Sem') : Prop := ∃ kvs ep L, σ d = some (.dict kvs ep) ∧ DR σ kvs L ∧ PLok L ∧ sem L = s
theorem CD.imm (k : Imm σ σ') {d : Addr} {s : Sem'} (h : CD σ d s) : CD σ' d s := by
  revert h; refine o3_3 fun kvs ep L h1 h2 h3 => ?_
  exact ⟨kvs, ep, L, k _ _ h1 rfl, h2.imm k, h3⟩
theorem CD.uniq {d : Addr} {s t : Sem'} (h : CD σ d s) (k : CD σ d t) : s = t := by
  revert h; refine o3_4 fun kvs ep L h1 h2 h3 rf6_ => ?_; subst rf6_
  revert k; refine o3_4 fun kvs' ep' L' k1 k2 k3 rf6_ => ?_; subst rf6_
  rw [h1] at k1; cases k1
  rw [h2.uniq k2]
inductive CDs (σ : Store) : List V → List Sem' → Prop
  | nil : CDs σ [] []
  | cons {d : Addr} {s : Sem'} {ds : List V} {F : List Sem'} : CD σ d s → CDs σ ds F → CDs σ (.ref d :: ds) (s :: F)
theorem CDs.imm (k : Imm σ σ') {ds : List V} {F : List Sem'} (h : CDs σ ds F) : CDs σ' ds F := by
  induction h with
  | nil => exact .nil
  | cons h1 _ ih => exact .cons (h1.imm k) ih
theorem CDs.append {ds es : List V} {F G : List Sem'} (h : CDs σ ds F) (k : CDs σ es G) : CDs σ (ds ++ es) (F ++ G) := by
  induction h with
  | nil => exact k
  | cons h1 _ ih => exact .cons h1 ih
theorem CDs.length {ds : List V} {F : List Sem'} (h : CDs σ ds F) : ds.length = F.length := by
  induction h with
  | nil => rfl
  | cons h1 _ ih => simp [ih]
theorem CDs.take {ds : List V} {F : List Sem'} (h : CDs σ ds F) : ∀ n, CDs σ (ds.take n) (F.take n) := by
  induction h with
  | nil => intro n; simp; exact .nil
  | cons h1 _ ih => intro n; cases n with
    | zero => exact .nil
    | succ n => exact .cons h1 (ih n)
theorem CDs.drop {ds : List V} {F : List Sem'} (h : CDs σ ds F) : ∀ n, CDs σ (ds.drop n) (F.drop n) := by
  induction h with
  | nil => intro n; simp; exact .nil
  | cons h1 h2 ih => intro n; cases n with
    | zero => exact .cons h1 h2
    | succ n => exact ih n
noncomputable def CH (σ : Store) (v : V) (F : List Sem') : Prop := ∃ a ds, v = .ref a ∧ σ a = some (.list ds) ∧ CDs σ ds F
theorem CH.imm (k : Imm σ σ') {v : V} {F : List Sem'} (h : CH σ v F) : CH σ' v F := by
  revert h; refine o2_3 fun a ds rf2_ h1 h2 => ?_; subst rf2_
  exact ⟨a, ds, rfl, k _ _ h1 rfl, h2.imm k⟩
end
theorem sem_put {k : Int} {v : V} {L : PLs} : sem (dictPut k v L) = setS k v (sem L) := by
  funext j
  show dictAt j _ = if j = k then some v else dictAt j L
  induction L with
  | nil =>
    by_cases h : j = k
    · simp [dictPut, dictAt, h]
    · have h' : ¬ k = j := fun e => h e.symm
      simp [dictPut, dictAt, h, h']
  | cons p L ih =>
    obtain ⟨i, u⟩ := p
    unfold dictPut
    by_cases hi : i = k
    · rw [if_pos hi]
      subst hi
      unfold dictAt
      by_cases h : i = j
      · subst h; simp
      · have h' : ¬ j = i := fun e => h e.symm
        simp [h, h']
    · rw [if_neg hi]
      unfold dictAt
      by_cases h : i = j
      · subst h; simp [hi]
      · rw [if_neg h, if_neg h, ih]
theorem keys_put {k : Int} {v : V} {L : PLs} : keys (dictPut k v L) = if k ∈ keys L then keys L else keys L ++ [k] := by
  induction L with
  | nil => simp [dictPut, keys]
  | cons p L ih =>
    obtain ⟨i, u⟩ := p
    unfold dictPut
    by_cases hi : i = k
    · rw [if_pos hi]; subst hi; simp [keys]
    · rw [if_neg hi]
      have h' : ¬ k = i := fun e => hi e.symm
      simp only [keys, List.map_cons, List.mem_cons, h', false_or] at ih ⊢
      rw [ih]
      by_cases hk : k ∈ List.map (fun x => x.fst) L <;> simp [hk]
theorem ok_put {k : Int} {v : V} {L : PLs} (h : PLok L) (hr : 1 ≤ k ∧ k ≤ 4) : PLok (dictPut k v L) := by
  have e := keys_put (k := k) (v := v) (L := L)
  by_cases hk : k ∈ keys L
  · rw [if_pos hk] at e; exact ⟨by rw [e]; exact h.nd, by rw [e]; exact h.rg⟩
  · rw [if_neg hk] at e
    have := ok_end (v := v) h hk hr
    have e2 : keys (L ++ [(k, v)]) = keys L ++ [k] := by simp [keys]
    exact ⟨by rw [e, ← e2]; exact this.nd, by rw [e, ← e2]; exact this.rg⟩
theorem sem_cons {k : Int} {v : V} {L : PLs} : sem ((k, v) :: L) = setS k v (sem L) := by
  funext j
  show dictAt j _ = if j = k then some v else dictAt j L
  by_cases h : j = k
  · subst h; simp [dictAt]
  · have h' : ¬ k = j := fun e => h e.symm
    simp [dictAt, h, h']
theorem sem_puts {M L : PLs} (hM : (keys M).Nodup) : sem (dictOfPairs M L) = overS (sem L) (sem M) := by
  induction M generalizing L with
  | nil => rfl
  | cons p M ih =>
    obtain ⟨k, v⟩ := p
    have hn := List.nodup_cons.mp hM
    have : dictOfPairs ((k, v) :: M) L = dictOfPairs M (dictPut k v L) := rfl
    rw [this, ih hn.2, sem_put, sem_cons]
    funext j
    unfold overS setS
    by_cases h : j = k
    · subst h
      have : sem M j = none := dictAt_none.mpr hn.1
      simp [this]
    · simp [h]
theorem ok_puts {M L : PLs} (hM : PLok M) (h : PLok L) : PLok (dictOfPairs M L) := by
  have : ∀ M : PLs, (∀ k ∈ keys M, 1 ≤ k ∧ k ≤ 4) → ∀ L, PLok L → PLok (dictOfPairs M L) := by
    intro M
    induction M with
    | nil => intro _ L h; exact h
    | cons p M ih =>
      intro hr L h
      exact ih (fun k hk => hr k (.tail _ hk)) _ (ok_put h (hr p.1 (.head _)))
  exact this M hM.rg L h
theorem put_fresh {k : Int} {v : V} {L : List (Int × V)} (hk : k ∉ keys L) : dictPut k v L = L ++ [(k, v)] := by
  induction L with
  | nil => rfl
  | cons p L ih =>
    obtain ⟨i, u⟩ := p
    simp only [keys, List.map_cons, List.mem_cons, not_or] at hk
    unfold dictPut
    rw [if_neg fun e => hk.1 e.symm, ih hk.2]; rfl
theorem puts_fresh {M : List (Int × V)} : ∀ {L : List (Int × V)}, (keys (L ++ M)).Nodup → dictOfPairs M L = L ++ M := by
  induction M with
  | nil => intro L _; simp [dictOfPairs]
  | cons p M ih =>
    intro L h
    obtain ⟨k, v⟩ := p
    have hk : k ∉ keys L := by
      simp only [keys, List.map_append, List.map_cons, List.nodup_append] at h
      exact fun hm => h.2.2 k hm k (.head _) rfl
    show dictOfPairs M (dictPut k v L) = _
    rw [put_fresh hk, ih (by simpa using h)]; simp

section
variable {w : World} {C : Nat → CL} {lv : Nat} {σ : Store} {Q : PE}
theorem isD_noRef {v : V} (h : isD v = true) : noRef v := by cases v <;> first | trivial | cases h
theorem seen_ok (P : Prg w C) {p : V} {L : PLs} (hp : PL σ p L) (ok : PLok L)
    (h : ∀ σ' d, CD σ' d (sem L) → Ext σ σ' → σ d = none → Q (.ref d) σ') : C (lv + 1) "_law_seen" [p] σ Q := by
  refine P.fn rfl rfl ?_
  revert hp; refine o2_3 fun a xs rf2_ ha hx => ?_; subst rf2_
  walk_at "aw"
  refine s_name ?_
  walk_at "aw"
  refine so_list ha ?_
  refine comp_ind (fun rem acc ρ σ2 => ∃ L1 L2 kvs, L = L1 ++ L2 ∧ PrsAt σ rem L2 ∧ PrR σ2 acc kvs ∧ DR σ2 kvs L1 ∧ Ext σ σ2) ?_ ?_ _ _ _ _ ⟨[], L, [], rfl, hx, .nil, .nil, Ext.refl _⟩
  · rintro x rem acc ρ σ2 PP ⟨L1, L2, kvs, rfl, hr, hacc, hd, x2⟩ hPP
    cases hr with
    | @cons t k v _ L3 ht hv hr =>
      refine g_Tup (x2 _ _ ht) rfl ?_
      refine g_cons (g_Name ?_)
      refine g_cons (g_Name ?_)
      refine g_nil ?_
      refine ts_nil ?_
      walk_at "aw"
      refine ⟨isD_noRef hv, ?_⟩
      walk_at "aw"
      refine newW_ext fun t1 σ3 ht1 ht1' x3 => ?_
      walk_at "aw"
      refine newW_ext fun t2 σ4 ht2 ht2' x4 => ?_
      have x34 := x3.trans x4
      refine ⟨x34 _ _ (x2 _ _ ha), hPP _ _ _ ⟨L1 ++ [(k, v)], L3, kvs ++ [(k, .ref t1)], by simp, hr, (hacc.imm x34.imm).append (.cons ht2' .nil), (hd.imm x34.imm).append (.cons (x4 _ _ ht1') hv .nil), x2.trans x34⟩⟩
  · rintro acc ρ σ2 ⟨L1, L2, kvs, rfl, hr, hacc, hd, x2⟩
    have : L2 = [] := by cases hr; rfl
    subst this
    rw [List.append_nil] at ok h
    refine newW_ext fun lb σ3 hlb hlb' x3 => ?_
    walk_at "aw"
    refine w_dictl hlb' (hacc.imm x3.imm).pairs ?_
    have hd3 := hd.imm x3.imm
    rw [puts_fresh (by rw [List.nil_append, hd3.keys]; exact ok.nd), List.nil_append]
    refine newD_ext fun d ep σ4 hd1 hd2 x4 => ?_
    walk_at "aw"
    refine h σ4 d ⟨kvs, ep, L1, hd2, hd3.imm x4.imm, ok, rfl⟩ ((x2.trans x3).trans x4) ?_
    cases q : σ d with
    | none => rfl
    | some o => rw [(x2.trans x3) _ _ q] at hd1; cases hd1
noncomputable def turn (way k : Int) (M : Sem') (s : Sem') : Sem' := if way = 2 then M else if way = 3 then delS k s else overS s M
theorem DR.filter {k : Int} {xs : List (Int × V)} {l : PLs} (h : DR σ xs l) : DR σ (xs.filter fun q => decide (q.1 ≠ k)) (l.filter fun q => decide (q.1 ≠ k)) := by
  induction h with
  | nil => exact .nil
  | @cons t j u d L h1 h2 h3 ih =>
    by_cases hj : j = k
    · simpa [hj] using ih
    · simpa [hj] using DR.cons h1 h2 ih
theorem turned_ok (P : Prg w C) {way k : Int} {c : Addr} {s : Sem'} {p : V} {L : PLs} (hc : CD σ c s) (hp : PL σ p L) (ok : PLok L)
    (h : ∀ σ' d, CD σ' d (turn way k (sem L) s) → Ext σ σ' → Q (.ref d) σ') : C (lv + 2) "_law_turned" [.int way, .ref c, p, .int k] σ Q := by
  refine P.fn rfl rfl ?_
  revert hc; refine o3_4 fun kvs ep D hc1 hc2 okD rf6_ => ?_; subst rf6_
  walk_at "aw"
  refine w_dictd hc1 ?_
  refine newD_ext fun fd ep1 σ1 hf1 hf2 x1 => ?_
  walk_at "aw"
  refine w_if (fun z => ?_) fun z => ?_
  · have z : way = 2 := by simpa using z
    walk_at "aw"
    refine seen_ok P (hp.imm x1.imm) ok fun σ2 d hd x2 hdn => ?_
    walk_at "aw"
    exact h σ2 d (by rw [turn, if_pos z]; exact hd) (x1.trans x2)
  have z : ¬ way = 2 := by simpa using z
  walk_at "aw"
  refine w_if (fun z2 => ?_) fun z2 => ?_
  · have z2 : way = 3 := by simpa using z2
    walk_at "aw"
    refine s_name ?_
    walk_at "aw"
    refine so_dict hf2 ?_
    refine comp_ind (fun rem acc ρ σ2 => ∃ K1 K2, kvs = K1 ++ K2 ∧ rem = K2.map (fun q => V.int q.1) ∧ PrR σ2 acc (K1.filter fun q => decide (q.1 ≠ k)) ∧ Ext σ1 σ2 ∧ ρ "found" = some (.ref fd) ∧ ρ "number" = some (.int k)) ?_ ?_ _ _ _ _ ⟨[], kvs, rfl, rfl, .nil, Ext.refl _, by walk_at "lv", by walk_at "lv"⟩
    · rintro x rem acc ρ σ2 PP ⟨K1, K2, rfl, er, hacc, x2, q1, q2⟩ hPP
      cases K2 with
      | nil => cases er
      | cons q K2 =>
        obtain ⟨j, u⟩ := q
        rw [List.map_cons] at er
        cases er
        have hf3 := x2 _ _ hf2
        refine g_Name ?_
        refine ts_cons ?_
        walk_at "aw"
        refine w_if (fun z3 => ?_) fun z3 => ?_
        · have z3 : j ≠ k := by simpa using z3
          refine ts_nil ?_
          walk_at "aw"
          have hnd : (keys (K1 ++ (j, u) :: K2)).Nodup := by rw [hc2.keys]; exact okD.nd
          refine w_subd hf3 (dictAt_of_mem hnd (by simp : (j, u) ∈ _)) ?_
          walk_at "aw"
          refine newW_ext fun t2 σ4 ht2 ht2' x4 => ?_
          refine ⟨x4 _ _ hf3, hPP _ _ _ ⟨K1 ++ [(j, u)], K2, by simp, rfl, ?_, x2.trans x4, by walk_at "lv", by walk_at "lv"⟩⟩
          rw [List.filter_append]
          refine (hacc.imm x4.imm).append ?_
          simp [z3]
          exact .cons ht2' .nil
        · have z3 : j = k := by simpa using z3
          walk_at "aw"
          refine ⟨hf3, hPP _ _ _ ⟨K1 ++ [(j, u)], K2, by simp, rfl, ?_, x2, by walk_at "lv", by walk_at "lv"⟩⟩
          rw [List.filter_append]
          simpa [z3] using hacc
    · rintro acc ρ σ2 ⟨K1, K2, rfl, er, hacc, x2, q1, q2⟩
      have : K2 = [] := by cases K2 with
        | nil => rfl
        | cons _ _ => cases er
      subst this
      rw [List.append_nil] at hc2
      refine newW_ext fun lb σ3 hlb hlb' x3 => ?_
      walk_at "aw"
      refine w_dictl hlb' (hacc.imm x3.imm).pairs ?_
      have x13 := (x1.trans x2).trans x3
      have hd3 := (hc2.filter (k := k)).imm x13.imm
      have okf := ok_sub okD (List.filter_sublist (p := fun q : Int × V => decide (q.1 ≠ k)))
      rw [puts_fresh (by rw [List.nil_append, hd3.keys]; exact okf.nd), List.nil_append]
      refine newD_ext fun d ep σ4 hd1 hd2 x4 => ?_
      walk_at "aw"
      exact h σ4 d ⟨_, ep, _, hd2, hd3.imm x4.imm, okf, by rw [turn, if_neg z, if_pos z2]; exact sem_filter⟩ (x13.trans x4)
  have z2 : ¬ way = 3 := by simpa using z2
  walk_at "aw"
  refine ⟨mk_dict hf2, ?_⟩
  walk_at "aw"
  refine seen_ok P (hp.imm x1.imm) ok fun σ2 d hd x2 hdn => ?_
  revert hd; refine o3_4 fun kd epd E hd1 hd2 okE es => ?_
  have hf3 := x2 _ _ hf2
  have hne : fd ≠ d := fun e => by rw [← e, hf2] at hdn; cases hdn
  walk_at "aw"
  have lk := hc2.length
  have ld := hd2.length
  have l1 := okD.len
  have l2 := okE.len
  refine w_update hf3 hd1 hne (by unfold bigN; omega) fun ep3 => ?_
  refine ⟨trivial, ?_⟩
  walk_at "aw"
  have x3 : ∀ o, Ext σ (upd σ2 fd o) := fun o => (x1.trans x2).upd_new hf1
  have ix : ∀ y o, y ≠ fd → σ2 y = some o → upd σ2 fd (.dict (dictOfPairs kd kvs) ep3) y = some o := fun y o h e => upd_at h e
  refine h _ fd ⟨_, ep3, dictOfPairs E D, upd_self, ?_, ok_puts okE okD, ?_⟩ (x3 _)
  · have hh := hd2.puts (hc2.imm (x1.trans x2).imm)
    have : ∀ {xs : List (Int × V)} {l : PLs}, DR σ2 xs l → DR (upd σ2 fd (.dict (dictOfPairs kd kvs) ep3)) xs l := by
      intro xs l hh
      induction hh with
      | nil => exact .nil
      | cons h1 h2 _ ih => exact .cons (ix _ _ (fun e => by rw [e, hf3] at h1; cases h1) h1) h2 ih
    exact this hh
  · rw [turn, if_neg z, if_neg z2, sem_puts okE.nd, es]
end

open Classical
section
variable {σ : Store} {n : Nat}
theorem eqB_n {x y : V} {r : Bool} (h : EqB x y r) : EqN σ n x y r := by
  cases n with
  | zero => exact h
  | succ n => exact .inl h
theorem isD_ref {v : V} (h : isD v = true) {a : Addr} (e : v = .ref a) : False := by rw [e] at h; cases h
theorem eq_pair {t t' : Addr} {v u : V} (h : σ t = some (.tup [.bool (isB v), v])) (h' : σ t' = some (.tup [.bool (isB u), u])) (hv : isD v = true) (hu : isD u = true) : EqI (EqN σ (n + 1)) (.ref t) (.ref t') (decide (v = u)) := by
  by_cases e : t = t'
  · subst e
    rw [h] at h'
    simp only [Option.some.injEq, O.tup.injEq, List.cons.injEq, and_true] at h'
    exact .inl ⟨t, rfl, rfl, decide_eq_true h'.2⟩
  · refine .inr ⟨fun a ha => e ?_, .inr (.inr ⟨t, t', rfl, rfl, .inr (.inl ⟨_, _, h, h', fun j => if j = 0 then (isB v == isB u) else pyEq v u, ?_, ?_⟩)⟩)⟩
    · have h1 := ha.1; have h2 := ha.2; cases h1; cases h2; rfl
    · intro j x y hx hy
      match j, hx, hy with
      | 0, hx, hy =>
        cases hx; cases hy
        exact .inr ⟨fun a h => (nomatch h.1), eqB_n (.bool _ _)⟩
      | 1, hx, hy =>
        cases hx; cases hy
        exact .inr ⟨fun a h => isD_ref hv h.1, eqB_n (eqB_of hv hu)⟩
      | j + 2, hx, hy => simp at hx
    · rw [← pyEq_same hv hu]
      simp [List.range_succ]
theorem eq_dict {d d' : Addr} {s s' : Sem'} (h : CD σ d s) (h' : CD σ d' s') : EqN σ (n + 2) (.ref d) (.ref d') (decide (s = s')) := by
  revert h; refine o3_4 fun ka ea L h1 h2 h3 rf6_ => ?_; subst rf6_
  revert h'; refine o3_4 fun kb eb M g1 g2 g3 rf6_ => ?_; subst rf6_
  have ndA : (keys ka).Nodup := by rw [h2.keys]; exact h3.nd
  have some_of : ∀ {kvs : List (Int × V)} {L : PLs} (hd : DR σ kvs L) {k : Int} {y : V}, dictAt k kvs = some y → ∃ u t, sem L k = some u ∧ y = .ref t ∧ σ t = some (.tup [.bool (isB u), u]) ∧ isD u = true := by
    intro kvs L hd k y hy
    cases q : dictAt k L with
    | none =>
      have := dictAt_none.mp q
      rw [← hd.keys] at this
      rw [dictAt_none.mpr this] at hy; cases hy
    | some u =>
      refine o1_3 (fun t e1 e2 e3 => ?_) (hd.get q)
      rw [hy] at e1; cases e1
      exact ⟨u, t, q, rfl, e2, e3⟩
  refine .inr (.inr ⟨d, d', rfl, rfl, .inr (.inr ⟨ka, ea, kb, eb, h1, g1, fun k => decide (sem L k = sem M k), ?_, ?_⟩)⟩)
  · intro p hp y hy
    refine o2_4 (fun u t e1 e2 e3 e4 => ?_) (some_of h2 (dictAt_of_mem ndA (by exact hp : (p.1, p.2) ∈ ka)))
    refine o2_4 (fun u' t' f1 f2 f3 f4 => ?_) (some_of g2 hy)
    rw [e2, f2]
    show EqI _ _ _ (decide (sem L p.1 = sem M p.1))
    rw [e1, f1]
    have := eq_pair (n := n) e3 f3 e4 f4
    have e : decide (u = u') = decide (some u = some u') := by simp
    rwa [e] at this
  · rw [Bool.eq_iff_iff]
    simp only [decide_eq_true_eq, Bool.and_eq_true, beq_iff_eq, List.all_eq_true, h2.length, g2.length]
    constructor
    · intro e
      refine ⟨sem_len h3.nd g3.nd e, fun p hp => ⟨?_, by rw [e]⟩⟩
      refine o2_4 (fun u t e1 e2 e3 e4 => ?_) (some_of h2 (dictAt_of_mem ndA (by exact hp : (p.1, p.2) ∈ ka)))
      rw [e] at e1
      refine o1_2 (fun t' f1 _ => ?_) (g2.get e1)
      rw [f1]; rfl
    · rintro ⟨hl, ha⟩
      refine sem_eq h3.nd g3.nd hl fun q hq => ?_
      have hk : q.1 ∈ keys ka := by rw [h2.keys]; exact List.mem_map_of_mem (f := (·.1)) hq
      refine o1_2 (fun p hp ep => ?_) (List.mem_map.mp hk)
      have := (ha p hp).2
      rw [ep] at this
      rw [← this]
      exact sem_at h3 hq
theorem eq_dictI {d d' : Addr} {s s' : Sem'} (h : CD σ d s) (h' : CD σ d' s') : EqI (EqN σ (n + 2)) (.ref d) (.ref d') (decide (s = s')) := by
  by_cases e : d = d'
  · subst e
    exact .inl ⟨d, rfl, rfl, decide_eq_true (h.uniq h')⟩
  · exact .inr ⟨fun a ha => e (by have h1 := ha.1; have h2 := ha.2; cases h1; cases h2; rfl), eq_dict h h'⟩
theorem CDs.get {ds : List V} {F : List Sem'} (h : CDs σ ds F) : ∀ {j : Nat} {x : V}, ds[j]? = some x → ∃ d s, x = .ref d ∧ F[j]? = some s ∧ CD σ d s := by
  induction h with
  | nil => intro j x e; simp at e
  | @cons d s ds F h1 _ ih =>
    intro j x e
    cases j with
    | zero => simp at e; exact ⟨d, s, e.symm, rfl, h1⟩
    | succ j => simp at e; refine o2_3 (fun d' s' a b c => ?_) (ih e); exact ⟨d', s', a, by simpa using b, c⟩
theorem eq_chars {v u : V} {F G : List Sem'} (h : CH σ v F) (h' : CH σ u G) : EqN σ (n + 3) v u (decide (F = G)) := by
  revert h; refine o2_3 fun a ds rf2_ h1 h2 => ?_; subst rf2_
  revert h'; refine o2_3 fun b es rf2_ g1 g2 => ?_; subst rf2_
  refine .inr (.inr ⟨a, b, rfl, rfl, .inl ⟨ds, es, h1, g1, fun j => decide (F[j]? = G[j]?), ?_, ?_⟩⟩)
  · intro j x y hx hy
    refine o2_3 (fun d s rf2_ e1 e2 => ?_) (h2.get hx); subst rf2_
    refine o2_3 (fun d' s' rf2_ f1 f2 => ?_) (g2.get hy); subst rf2_
    show EqI _ _ _ (decide (F[j]? = G[j]?))
    rw [e1, f1]
    have := eq_dictI (n := n) e2 f2
    have e : decide (s = s') = decide (some s = some s') := by simp
    rwa [e] at this
  · rw [Bool.eq_iff_iff]
    simp only [decide_eq_true_eq, Bool.and_eq_true, beq_iff_eq, List.all_eq_true, h2.length, g2.length, List.mem_range]
    constructor
    · rintro rfl; exact ⟨rfl, fun _ _ => rfl⟩
    · rintro ⟨hl, ha⟩
      refine List.ext_getElem? fun j => ?_
      by_cases hj : j < F.length
      · exact ha j hj
      · rw [List.getElem?_eq_none (by omega), List.getElem?_eq_none (by omega)]
theorem eq_none {d : Addr} {s : Sem'} (h : CD σ d s) : EqN σ 4 (.ref d) .none false := by
  revert h; refine o3_4 fun ka ea L h1 h2 h3 rf6_ => ?_; subst rf6_
  exact .inr (.inl ⟨d, ka, ea, rfl, rfl, h1, rfl⟩)
theorem eq_nil {a b : Addr} {xs : List V} (h : σ a = some (.list xs)) (h' : σ b = some (.list [])) : EqN σ 4 (.ref a) (.ref b) (xs.length == 0) := by
  refine .inr (.inr ⟨a, b, rfl, rfl, .inl ⟨xs, [], h, h', fun _ => true, fun j x y hx hy => by simp at hy, ?_⟩⟩)
  simp
end
/-- the deck: how many were drawn -/
noncomputable def DK (σ : Store) (dk : Addr) (n : Int) : Prop := ∃ a ns, σ a = some (.list (absL ns)) ∧ ns.length ≤ 63 ∧ σ dk = some (.list [.ref a, .int n]) ∧ a ≠ dk ∧ 0 ≤ n
section
variable {σ σ' : Store} {dk : Addr} {n : Int}
theorem DK.imm (h : DK σ dk n) (k : Imm σ σ') : DK σ' dk n := by
  revert h; refine o2_4 fun a ns h1 h2 h3 h4 => ?_
  exact ⟨a, ns, k _ _ h1 rfl, h2, k _ _ h3 rfl, h4⟩
theorem DK.at (h : DK σ dk n) : ∃ a, σ dk = some (.list [.ref a, .int n]) := let ⟨a, _, _, _, h, _⟩ := h; ⟨a, h⟩
theorem DK.nn (h : DK σ dk n) : 0 ≤ n := let ⟨_, _, _, _, _, _, h⟩ := h; h
theorem PrsAt.deck (h : DK σ dk n) (k : Keep [dk] σ σ') {xs : List V} {L : PLs} (hp : PrsAt σ xs L) : PrsAt σ' xs L := by
  obtain ⟨a, hd⟩ := h.at
  induction hp with
  | nil => exact .nil
  | cons h1 h2 _ ih => exact .cons (k _ _ (by simp only [List.mem_singleton]; rintro rfl; rw [hd] at h1; cases h1) h1) h2 ih
theorem PL.deck (h : DK σ dk n) (k : Keep [dk] σ σ') {p : V} {L : PLs} (hp : PL σ p L) : PL σ' p L := by
  revert hp; refine o2_3 fun b xs rf2_ h1 h2 => ?_; subst rf2_
  obtain ⟨a, hd⟩ := h.at
  refine ⟨b, xs, rfl, k _ _ (fun hm => ?_) h1, h2.deck h k⟩
  simp only [List.mem_singleton] at hm
  subst hm
  rw [hd] at h1; cases h1
  cases h2 with
  | cons _ _ h3 => cases h3
theorem DR.deck (h : DK σ dk n) (k : Keep [dk] σ σ') {xs : List (Int × V)} {L : PLs} (hp : DR σ xs L) : DR σ' xs L := by
  obtain ⟨a, hd⟩ := h.at
  induction hp with
  | nil => exact .nil
  | cons h1 h2 _ ih => exact .cons (k _ _ (by simp only [List.mem_singleton]; rintro rfl; rw [hd] at h1; cases h1) h1) h2 ih
theorem CDs.deck (h : DK σ dk n) (k : Keep [dk] σ σ') {ds : List V} {F : List Sem'} (hp : CDs σ ds F) : CDs σ' ds F := by
  obtain ⟨a, hd⟩ := h.at
  induction hp with
  | nil => exact .nil
  | cons h1 _ ih =>
    revert h1; refine o3_3 fun kvs ep L g1 g2 g3 => ?_
    exact .cons ⟨kvs, ep, L, k _ _ (by simp only [List.mem_singleton]; rintro rfl; rw [hd] at g1; cases g1) g1, g2.deck h k, g3⟩ ih
theorem CH.deck (h : DK σ dk n) (k : Keep [dk] σ σ') {v : V} {F : List Sem'} (hp : CH σ v F) : CH σ' v F := by
  revert hp; refine o2_3 fun b ds rf2_ h1 h2 => ?_; subst rf2_
  obtain ⟨a, hd⟩ := h.at
  refine ⟨b, ds, rfl, k _ _ (fun hm => ?_) h1, h2.deck h k⟩
  simp only [List.mem_singleton] at hm
  subst hm
  rw [hd] at h1; cases h1
  cases h2 with
  | cons _ h3 => cases h3
theorem PR.deck (h : DK σ dk n) (k : Keep [dk] σ σ') {pr tr : Addr} (hp : PR σ pr tr) : PR σ' pr tr := by
  obtain ⟨Cc, hp⟩ := hp
  obtain ⟨a, hd⟩ := h.at
  exact ⟨Cc, k _ _ (by simp only [List.mem_singleton]; rintro rfl; rw [hd] at hp; cases hp) hp⟩
theorem RSt.deck (h : DK σ dk n) (k : Keep [dk] σ σ') {R : List Run} {A : List ARun} (hp : RSt σ R A) : RSt σ' R A := by
  induction hp with
  | nil => exact .nil
  | cons h1 h2 _ ih => exact .cons (h1.deck h k) h2 ih
theorem TSt.deck (h : DK σ dk n) (k : Keep [dk] σ σ') {tr : Addr} {F : List Sem'} (hp : TSt σ tr F) : TSt σ' tr F := by
  revert hp; refine o2_4 fun R A H h2 h3 h4 => ?_
  obtain ⟨a, hd⟩ := h.at
  exact ⟨R, A, H.keep k fun x hx => by simp only [List.mem_singleton]; rintro rfl; exact H.off hd (.inl rfl) hx, h2, h3.deck h k, h4⟩
end
section
variable {w : World} {C : Nat → CL} {lv : Nat} {σ : Store} {Q : PE}
theorem w_setitem {a : Addr} {j : Int} {xs : List V} {v : V} {k : Store → Prop} (ha : σ a = some (.list xs)) (h0 : 0 ≤ j) (h1 : j < xs.length) (h : k (upd σ a (.list (xs.set j.toNat v)))) : setItemW σ (.ref a) (.int j) v k := w_list ha ⟨⟨h0, h1⟩, h⟩
theorem sq_le {n : Int} (h0 : 0 ≤ n) (h : n ≤ 900) : 0 ≤ (n + 1) * (n + 1) ∧ (n + 1) * (n + 1) ≤ 1000000 := by
  constructor
  · exact Int.mul_nonneg (by omega) (by omega)
  · have : (n + 1) * (n + 1) ≤ 1000 * 1000 := Int.mul_le_mul (by omega) (by omega) (by omega) (by omega)
    omega
theorem draw_ok (P : Prg w C) {dk : Addr} {n many : Int} (hd : DK σ dk n) (hn : n ≤ 900) (hm : 0 < many)
    (h : ∀ σ' r, 0 ≤ r → r < many → DK σ' dk (n + 1) → Keep [dk] σ σ' → Q (.int r) σ') : C (lv + 1) "_law_draw" [.ref dk, .int many] σ Q := by
  refine P.fn rfl rfl ?_
  revert hd; refine o2_5 fun a ns h1 h2 h3 h4 h5 => ?_
  walk_at "aw"
  refine w_subl h3 (i := 1) (by omega) (v := .int n) rfl ?_
  walk_at "aw"
  refine w_setitem h3 (j := 1) (by omega) (by simp) ?_
  have k1 : Keep [dk] σ (upd σ dk (.list ([V.ref a, V.int n].set (1 : Int).toNat (.int (n + 1))))) := Keep.upd
  have d1 : upd σ dk (.list ([V.ref a, V.int n].set (1 : Int).toNat (.int (n + 1)))) dk = some (.list [.ref a, .int (n + 1)]) := upd_self
  have a1 : upd σ dk (.list ([V.ref a, V.int n].set (1 : Int).toNat (.int (n + 1)))) a = _ := upd_at h4 h1
  generalize upd σ dk (.list ([V.ref a, V.int n].set (1 : Int).toNat (.int (n + 1)))) = σ1 at *
  have D1 : DK σ1 dk (n + 1) := ⟨a, ns, a1, h2, d1, h4, by omega⟩
  have fin : ∀ x, Q (.int (Int.fmod x many)) σ1 := fun x => h σ1 _ (Int.fmod_nonneg_of_pos x hm) (Int.fmod_lt_of_pos x hm) D1 k1
  walk_at "aw"
  refine w_subl d1 (i := 1) (by omega) (v := .int (n + 1)) rfl ?_
  walk_at "aw"
  refine w_subl d1 (i := 0) (by omega) (v := .ref a) rfl ?_
  walk_at "aw"
  refine w_len a1 ?_
  walk_at "aw"
  refine w_if (fun z => ?_) fun z => ?_
  · have z := of_decide_eq_true z
    walk_at "aw"
    refine w_subl d1 (i := 0) (by omega) (v := .ref a) rfl ?_
    walk_at "aw"
    refine w_subl d1 (i := 1) (by omega) (v := .int (n + 1)) rfl ?_
    walk_at "aw"
    have hlt : (n + 1 - 1).toNat < ns.length := by
      simp only [absL, List.length_map] at z; omega
    refine w_subl a1 (by omega) (v := .int ((ns[(n + 1 - 1).toNat]).natAbs : Int)) (by simp [absL]; exact ⟨_, List.getElem?_eq_getElem (by omega), rfl⟩) ?_
    walk_at "aw"
    refine w_modi hm ?_
    walk_at "aw"
    exact fin _
  · walk_at "aw"
    refine w_subl d1 (i := 1) (by omega) (v := .int (n + 1)) rfl ?_
    walk_at "aw"
    refine w_subl d1 (i := 1) (by omega) (v := .int (n + 1)) rfl ?_
    walk_at "aw"
    refine w_muli (by omega) ?_
    walk_at "aw"
    refine w_muli (sq_le h5 hn) ?_
    walk_at "aw"
    refine w_subl d1 (i := 1) (by omega) (v := .int (n + 1)) rfl ?_
    walk_at "aw"
    refine w_muli (by omega) ?_
    walk_at "aw"
    refine w_subl d1 (i := 0) (by omega) (v := .ref a) rfl ?_
    walk_at "aw"
    refine w_len a1 ?_
    walk_at "aw"
    refine w_muli (by omega) ?_
    walk_at "aw"
    refine w_divi (by omega) ?_
    walk_at "aw"
    refine w_modi hm ?_
    walk_at "aw"
    exact fin _
end

theorem b_If' {cl : CL} {n : Nat} {ρ : AEnv} {σ : Store} {QS : PS} {t : Expr} {bb oo ss : List Stmt} {p : Pos} (I : AEnv → Store → Prop) (h2 : ∀ ρ σ, I ρ σ → blkW (awpS cl (n + 1)) ss ρ σ QS)
    (h1 : ∀ K : PS, (∀ ρ σ, I ρ σ → K .next ρ σ) → awpT cl 20 t ρ σ fun c σ₁ => if c then blkW (awpS cl n) bb ρ σ₁ K else blkW (awpS cl n) oo ρ σ₁ K) : blkW (awpS cl (n + 1)) (.If t bb oo p :: ss) ρ σ QS := b_If (h1 _ (fun ρ σ h => th_next (h2 ρ σ h)))
theorem DK.ext {σ σ' : Store} {dk : Addr} {n : Int} (h : DK σ dk n) (x : Ext σ σ') : DK σ' dk n := h.imm x.imm
theorem DK.ne {σ : Store} {dk a : Addr} {n : Int} (h : DK σ dk n) (ha : σ a = none) : a ∉ [dk] := fun hm => by
  simp only [List.mem_singleton] at hm
  obtain ⟨b, hd⟩ := h.at
  rw [← hm, ha] at hd; cases hd
theorem PrsAt.take {σ : Store} {xs : List V} {L : PLs} (h : PrsAt σ xs L) : ∀ n, PrsAt σ (xs.take n) (L.take n) := by
  induction h with
  | nil => intro n; simp; exact .nil
  | cons h1 h2 _ ih => intro n; cases n with
    | zero => exact .nil
    | succ n => exact .cons h1 h2 (ih n)
section
variable {w : World} {C : Nat → CL} {lv : Nat} {σ : Store} {Q : PE}
theorem value_ok (P : Prg w C) {dk : Addr} {n : Int} (hd : DK σ dk n) (hn : n ≤ 900)
    (h : ∀ σ' v, isD v = true → DK σ' dk (n + 1) → Keep [dk] σ σ' → Q v σ') : C (lv + 2) "_law_value" [.ref dk] σ Q := by
  refine P.fn rfl rfl ?_
  walk_at "aw"
  refine newW_ext fun la σ1 hla hl1 x1 => ?_
  have hd1 := hd.ext x1
  walk_at "aw"
  refine draw_ok P hd1 hn (by omega) fun σ2 r h0 h4 hd2 k2 => ?_
  have hla1 := hd.ne hla
  have hl2 := k2 _ _ hla1 hl1
  have kk : Keep [dk] σ σ2 := x1.keep.tr k2
  have fin : ∀ v, isD v = true → Q v σ2 := fun v hv => h σ2 v hv hd2 kk
  have : r = 0 ∨ r = 1 ∨ r = 2 ∨ r = 3 := by omega
  rcases this with rfl | rfl | rfl | rfl
  · refine w_subl hl2 (by omega) (v := .int 0) rfl ?_
    walk_at "aw"
    exact fin _ rfl
  · refine w_subl hl2 (by omega) (v := .int 1) rfl ?_
    walk_at "aw"
    exact fin _ rfl
  · refine w_subl hl2 (by omega) (v := .bool true) rfl ?_
    walk_at "aw"
    exact fin _ rfl
  · refine w_subl hl2 (by omega) (v := .str "a") rfl ?_
    walk_at "aw"
    exact fin _ rfl
theorem plist_ok (P : Prg w C) {dk : Addr} {n : Int} (hd : DK σ dk n) (hn : n ≤ 890)
    (h : ∀ σ' p L, PL σ' p L → PLok L → DK σ' dk (n + 4) → Keep [dk] σ σ' → Q p σ') : C (lv + 3) "_law_plist" [.ref dk] σ Q := by
  refine P.fn rfl rfl ?_
  walk_at "aw"
  refine draw_ok P hd (by omega) (by omega) fun σ1 r h0 h3 hd1 k1 => ?_
  walk_at "aw"
  refine value_ok P hd1 (by omega) fun σ2 v1 hv1 hd2 k2 => ?_
  walk_at "aw"
  refine newW_ext fun t1 σ3 ht1 ht1' x3 => ?_
  have hd3 := hd2.ext x3
  walk_at "aw"
  refine value_ok P hd3 (by omega) fun σ4 v2 hv2 hd4 k4 => ?_
  have t14 := k4 _ _ (hd2.ne ht1) ht1'
  walk_at "aw"
  refine newW_ext fun t2 σ5 ht2 ht2' x5 => ?_
  have hd5 := hd4.ext x5
  walk_at "aw"
  refine newW_ext fun lb σ6 hlb hlb' x6 => ?_
  have hd6 := hd5.ext x6
  walk_at "aw"
  refine draw_ok P hd6 (by omega) (by omega) fun σ7 r2 g0 g3 hd7 k7 => ?_
  have hl7 := k7 _ _ (hd5.ne hlb) hlb'
  walk_at "aw"
  refine w_slice hl7 trivial g0 ?_
  refine newW_ext fun lc σ8 hlc hlc' x8 => ?_
  walk_at "aw"
  have kk : Keep [dk] σ σ8 := (((((k1.tr k2).tr x3.keep).tr k4).tr (x5.trans x6).keep).tr k7).tr x8.keep
  have a1 : σ8 t1 = some (.tup [.int (1 + r), v1]) := x8 _ _ (k7 _ _ (hd2.ne ht1) (x6 _ _ (x5 _ _ t14)))
  have a2 : σ8 t2 = some (.tup [.int (1 + r + 1), v2]) := x8 _ _ (k7 _ _ (hd4.ne ht2) (x6 _ _ ht2'))
  have hP : PrsAt σ8 [.ref t1, .ref t2] [(1 + r, v1), (1 + r + 1, v2)] := .cons a1 hv1 (.cons a2 hv2 .nil)
  have hok : PLok [(1 + r, v1), (1 + r + 1, v2)] := ⟨by simp [keys]; omega, fun k hk => by simp [keys] at hk; omega⟩
  have e4 : n + 1 + 1 + 1 + 1 = n + 4 := by omega
  rw [e4] at hd7
  refine h σ8 (.ref lc) _ ⟨lc, _, rfl, hlc', ?_⟩ (ok_sub hok (List.take_sublist r2.toNat _)) (hd7.ext x8) kk
  exact hP.take r2.toNat
theorem range_ok (P : Prg w C) {dk : Addr} {n : Int} {v : V} {F : List Sem'} (hd : DK σ dk n) (hn : n ≤ 890) (hv : CH σ v F)
    (h : ∀ (σ' : Store) (t : Addr) (b e : Int), σ' t = some (.tup [.int b, .int e]) → 0 ≤ b → b ≤ e → e ≤ F.length → DK σ' dk (n + 2) → Keep [dk] σ σ' → Q (.ref t) σ') : C (lv + 2) "_law_range" [.ref dk, v] σ Q := by
  refine P.fn rfl rfl ?_
  refine o2_3 (fun a ds rf2_ h1 h2 => ?_) (id hv); subst rf2_
  have hl := h2.length
  walk_at "aw"
  refine w_len h1 ?_
  walk_at "aw"
  refine draw_ok P hd (by omega) (by omega) fun σ1 b g0 g1 hd1 k1 => ?_
  refine o2_3 (fun a' ds' e1 f1 f2 => ?_) (hv.deck hd k1)
  cases e1
  have hl' := f2.length
  walk_at "aw"
  refine w_len f1 ?_
  walk_at "aw"
  refine draw_ok P hd1 (by omega) (by omega) fun σ2 e g2 g3 hd2 k2 => ?_
  walk_at "aw"
  refine newW_ext fun t σ3 ht ht' x3 => ?_
  walk_at "aw"
  rw [show n + 1 + 1 = n + 2 by omega] at hd2
  exact h σ3 t b (b + e) ht' g0 (by omega) (by omega) (hd2.ext x3) ((k1.tr k2).tr x3.keep)
end

theorem CDs.slice {σ : Store} {ds : List V} {F : List Sem'} (h : CDs σ ds F) (lo hi : Option Int) : CDs σ (sliceL lo hi ds) (sliceL lo hi F) := by
  unfold sliceL
  refine CDs.drop ?_ _
  cases hi with
  | none => exact h
  | some j => exact h.take _
theorem slice_mid {F : List Sem'} {b e : Int} (h0 : 0 ≤ b) (h1 : b ≤ e) : sliceL (some b) (some e) F = (F.drop b.toNat).take (e - b).toNat := by
  unfold sliceL
  dsimp only
  rw [List.drop_take, ← tNat h0 h1, Nat.add_sub_cancel_left]
theorem slice_lo {F : List Sem'} {b : Int} : sliceL none (some b) F = F.take b.toNat := rfl
theorem slice_hi {F : List Sem'} {b : Int} : sliceL (some b) none F = F.drop b.toNat := rfl
theorem over_one {s : Sem'} {k : Int} {v : V} : overS s (sem [(k, v)]) = setS k v s := by
  have := over_snoc (s := s) (k := k) (v := v) (M := []) (fun h => nomatch h)
  rw [List.nil_append, over_nil] at this
  exact this
theorem w_adds' {σ : Store} {Q : PE} {a b : Addr} {xs ys : List V} (ha : σ a = some (.list xs)) (hb : σ b = some (.list ys)) (hl : xs.length + ys.length ≤ bigN) (h : newW σ (.list (xs ++ ys)) Q) : binW .Add (.ref a) (.ref b) σ Q := w_adds ha hb hl h
section
variable {w : World} {C : Nat → CL} {lv : Nat} {σ : Store} {Q : PE}
open Classical in
theorem range_done_ok (P : Prg w C) {dk pr tr : Addr} {n : Int} {v : V} {F : List Sem'} (hd : DK σ dk n) (hn : n ≤ 880) (hpr : PR σ pr tr) (hT : TSt σ tr F) (hv : CH σ v F) (hs : F.length ≤ 1000)
    (h : ∀ σ' v' F', DK σ' dk (n + 8) → PR σ' pr tr → TSt σ' tr F' → CH σ' v' F' → F'.length = F.length → Q v' σ') : C (lv + 10) "_law_range_done" [.ref dk, .ref pr, v] σ Q := by
  refine P.fn rfl rfl ?_
  walk_at "aw"
  refine draw_ok P hd (by omega) (by omega) fun σ1 way w0 w4 hd1 k1 => ?_
  have hv1 := hv.deck hd k1
  walk_at "aw"
  refine range_ok P hd1 (by omega) hv1 fun σ2 t b e ht g0 g1 g2 hd2 k2 => ?_
  walk_at "aw"
  refine newW_ext fun t0 σ3 ht0 ht0' x3 => ?_
  have ht3 := x3 _ _ ht
  have hd3 := hd2.ext x3
  have k13 : Keep [dk] σ σ3 := (k1.tr k2).tr x3.keep
  refine g_Tup ht0' rfl ?_
  refine g_cons (g_Name ?_)
  refine g_cons (g_Tup ht3 rfl ?_)
  refine g_cons (g_Name ?_)
  refine g_cons (g_Name ?_)
  refine g_nil (g_nil ?_)
  walk_at "aw"
  refine plist_ok P hd3 (by omega) fun σ4 p L hp ok hd4 k4 => ?_
  have k14 := k13.tr k4
  refine b_Name ?_
  refine by_post (fun p' σ' => ∃ L', PL σ' p' L' ∧ PLok L' ∧ (way = 0 → ∃ k0 v0, L' = [(k0, v0)]) ∧ Ext σ4 σ') ?_ ?_
  rotate_left
  · intro K hK
    refine o2_3 (fun pa xs rf2_ hpa hxs => ?_) (id hp); subst rf2_
    have same : way ≠ 0 → K (.ref pa) σ4 := fun hw => hK _ _ ⟨L, hp, ok, fun e => absurd e hw, Ext.refl _⟩
    walk_at "aw"
    refine w_if (fun z => ?_) fun z => ?_
    · have z : way = 0 := by simpa using z
      walk_at "aw"
      refine newW_ext fun le σ5 hle hle' x5 => ?_
      have hpa5 := x5 _ _ hpa
      refine w_neN (eq_nil hpa5 hle') ?_
      refine w_if (fun z2 => ?_) fun z2 => ?_
      · walk_at "aw"
        refine w_slice hpa5 trivial (show (0 : Int) ≤ 1 by omega) ?_
        refine newW_ext fun lb σ6 hlb hlb' x6 => ?_
        have hx6 := (hxs.imm (x5.trans x6).imm).take 1
        refine hK _ _ ⟨L.take 1, ⟨lb, _, rfl, hlb', hx6⟩, ok_sub ok (List.take_sublist 1 L), fun _ => ?_, x5.trans x6⟩
        cases L with
        | nil => cases hxs; simp at z2
        | cons q L => exact ⟨q.1, q.2, rfl⟩
      · walk_at "aw"
        refine w_if (fun z3 => ?_) fun z3 => absurd z (by simpa using z3)
        walk_at "aw"
        refine newW_ext fun t6 σ6 ht6 ht6' x6 => ?_
        walk_at "aw"
        refine newW_ext fun lb σ7 hlb hlb' x7 => ?_
        refine hK _ _ ⟨[(2, .int 1)], ⟨lb, _, rfl, hlb', .cons (x7 _ _ ht6') rfl .nil⟩, ⟨by simp [keys], fun k hk => by simp [keys] at hk; omega⟩, fun _ => ⟨_, _, rfl⟩, (x5.trans x6).trans x7⟩
    · have z : way ≠ 0 := by simpa using z
      walk_at "aw"
      refine w_if (fun z3 => absurd (by simpa using z3) z) fun z3 => ?_
      walk_at "aw"
      exact same z
  rintro p' σ5 ⟨L', hp', ok', hone, x5⟩
  have hd5 := hd4.ext x5
  have k15 : Keep [dk] σ σ5 := k14.tr x5.keep
  walk_at "aw"
  refine draw_ok P hd5 (by omega) (by omega) fun σ6 r r0 r3 hd6 k6 => ?_
  have hp6 := hp'.deck hd5 k6
  have k16 := k15.tr k6
  have hv6 := hv.deck hd k16
  have hT6 := hT.deck hd k16
  have hpr6 := hpr.deck hd k16
  clear k16 k15 k14 k13 k6 k4 k2 k1 hd5 hd4 hd3 hd2 hd1 hv1 x5 x3 ht3 ht0' ht0 ht hp hp' hd hpr hT
  refine o2_3 (fun ca ds rf2_ hca hds => ?_) (id hv6); subst rf2_
  have hlen := hds.length
  walk_at "aw"
  refine s_sub ?_
  walk_at "aw"
  refine w_slice hca g0 (show 0 ≤ e by omega) ?_
  refine newW_ext fun sa σ7 hsa hsa' x7 => ?_
  refine so_list hsa' ?_
  have hG : CDs σ7 (sliceL (some b) (some e) ds) ((F.drop b.toNat).take (e - b).toNat) := by
    rw [← slice_mid g0 g1]; exact (hds.imm x7.imm).slice _ _
  generalize hGe : (F.drop b.toNat).take (e - b).toNat = G at *
  generalize sliceL (some b) (some e) ds = gs at *
  refine comp_ind (fun rem acc ρ σ' => ∃ G1 G2, G = G1 ++ G2 ∧ CDs σ' rem G2 ∧ CDs σ' acc (G1.map (turn way (1 + r) (sem L'))) ∧ Ext σ7 σ' ∧ ρ "way" = some (.int way) ∧ ρ "plist" = some p' ∧ ρ "number" = some (.int (1 + r))) ?_ ?_ _ _ _ _ ⟨[], G, rfl, hG, .nil, Ext.refl _, by walk_at "lv", by walk_at "lv", by walk_at "lv"⟩
  · rintro x rem acc ρ σ' PP ⟨G1, G2, rfl, hr, hacc, x', q1, q2, q3⟩ hPP
    cases hr with
    | @cons d s _ G3 hd1 hr =>
      refine g_Name ?_
      refine ts_nil ?_
      walk_at "aw"
      refine turned_ok P hd1 (hp6.imm (x7.trans x').imm) ok' fun σ2 d2 hd2 x2 => ?_
      refine ⟨x2 _ _ (x' _ _ hsa'), hPP _ _ _ ⟨G1 ++ [s], G3, by simp, hr.imm x2.imm, ?_, x'.trans x2, by walk_at "lv", by walk_at "lv", by walk_at "lv"⟩⟩
      rw [List.map_append]
      exact (hacc.imm x2.imm).append (.cons hd2 .nil)
  rintro acc ρ' σ8 ⟨G1, G2, rfl, hr, hacc, x8, _, _, _⟩
  have eG2 : G2 = [] := by cases hr; rfl
  subst eG2
  rw [List.append_nil] at hGe hG
  refine newW_ext fun du σ9 hdu hdu' x9 => ?_
  have hacc9 := hacc.imm x9.imm
  have x69 := (x7.trans x8).trans x9
  have hp9 := hp6.imm x69.imm
  have hv9 := hv6.imm x69.imm
  have hT9 := hT6.ext x69
  have hpr9 := hpr6.ext x69
  have hd9 := hd6.ext x69
  clear hacc hG hr x69 x9 x8 x7 hdu hsa hsa' hp6 hv6 hT6 hpr6 hd6 hca hds
  generalize hf : turn way (1 + r) (sem L') = f at *
  refine b_If' (fun ρ σ' => ∃ c, LP σ9 σ' ∧ TSt σ' tr (F.take b.toNat ++ (G1.map f ++ F.drop e.toNat)) ∧ (c = true ↔ G1.map f ≠ G1) ∧ ρ "my_told" = some (.bool c) ∧ ρ "due" = some (.ref du) ∧ ρ "chars" = some (.ref ca) ∧ ρ "begin" = some (.int b) ∧ ρ "end" = some (.int e)) ?_ ?_
  · rintro ρ σ' ⟨c, lp, hT', hc, q1, q2, q3, q4, q5⟩
    have hdu2 := lp.imm _ _ hdu' rfl
    have hacc2 := hacc9.imm lp.imm
    have hv2 := hv9.imm lp.imm
    have hpr2 := lp.pr _ _ hpr9
    have hd2 := hd9.imm lp.imm
    refine o2_3 (fun ca' ds' e0 hca hds => ?_) (id hv2)
    cases e0
    have hlen' := hds.length
    have hlacc := hacc2.length
    rw [List.length_map] at hlacc
    have hlG : (G1.length : Int) = e - b := by rw [← hGe]; exact lenMid g0 g1 g2
    walk_at "aw"
    refine w_slice hca g0 (show 0 ≤ e by omega) ?_
    refine newW_ext fun sb σ2 hsb hsb' x2 => ?_
    have hG : CDs σ2 (sliceL (some b) (some e) ds') G1 := by
      rw [← hGe, ← slice_mid g0 g1]; exact (hds.imm x2.imm).slice _ _
    walk_at "aw"
    refine w_neN (eq_chars (n := 1) ⟨du, acc, rfl, x2 _ _ hdu2, hacc2.imm x2.imm⟩ ⟨sb, _, rfl, hsb', hG⟩) ?_
    refine w_neB (.bool _ _) ?_
    have ec : c = !decide (G1.map f = G1) := by
      rw [Bool.eq_iff_iff, hc]; simp
    refine w_if (fun z => absurd z (by rw [ec]; simp)) fun _ => ?_
    have hca2 := x2 _ _ hca
    have hdu3 := x2 _ _ hdu2
    walk_at "aw"
    refine w_slice hca2 trivial g0 ?_
    refine newW_ext fun s1 σ3 hs1 hs1' x3 => ?_
    have hdu4 := x3 _ _ hdu3
    have hca3 := x3 _ _ hca2
    walk_at "aw"
    have hb : ds'.length ≤ 1000 := Nat.le_trans (Nat.le_of_eq hlen') hs
    have hbm : acc.length ≤ 1000 := by rw [hlacc]; omega
    refine w_adds hs1' hdu4 (big2 (Nat.le_trans (sliceL_length ..) hb) hbm) ?_
    refine newW_ext fun s2 σ4 hs2 hs2' x4 => ?_
    have hca4 := x4 _ _ hca3
    walk_at "aw"
    refine w_slice hca4 (show 0 ≤ e by omega) trivial ?_
    refine newW_ext fun s3 σ5 hs3 hs3' x5 => ?_
    have hs25 := x5 _ _ hs2'
    walk_at "aw"
    refine w_adds hs25 hs3' (by rw [List.length_append]; exact big3 (Nat.le_trans (sliceL_length ..) hb) hbm (Nat.le_trans (sliceL_length ..) hb)) ?_
    refine newW_ext fun s4 σ6 hs4 hs4' x6 => ?_
    walk_at "aw"
    have xx := (((x2.trans x3).trans x4).trans x5).trans x6
    rw [show n + 1 + 2 + 4 + 1 = n + 8 by omega] at hd2
    refine h σ6 (.ref s4) _ (hd2.ext xx) (hpr2.ext xx) (hT'.ext xx) ⟨s4, _, rfl, hs4', ?_⟩ ?_
    · have := (((hds.slice none (some b)).append hacc2).append (hds.slice (some e) none)).imm xx.imm
      rw [slice_lo, slice_hi, List.append_assoc (List.take b.toNat F)] at this
      exact this
    · exact midLen g0 g1 g2 (by rw [List.length_map]; exact hlG)
  · intro K hK
    have fin : ∀ ρ σ' c, LP σ9 σ' → TSt σ' tr (F.take b.toNat ++ (G1.map f ++ F.drop e.toNat)) → (c = true ↔ G1.map f ≠ G1) → ρ "my_told" = some (.bool c) → ρ "due" = some (.ref du) → ρ "chars" = some (.ref ca) → ρ "begin" = some (.int b) → ρ "end" = some (.int e) → K .next ρ σ' := fun ρ σ' c a1 a2 a3 a4 a5 a6 a7 a8 => hK ρ σ' ⟨c, a1, a2, a3, a4, a5, a6, a7, a8⟩
    walk_at "aw"
    refine w_if (fun z => ?_) fun z => ?_
    · have z : way = 0 := by simpa using z
      refine o2_1 (fun k0 v0 rf2_ => ?_) (hone z); subst rf2_
      have hf0 : f = setS k0 v0 := by
        rw [← hf]; funext s
        rw [turn, if_neg (by omega), if_neg (by omega)]; exact over_one
      revert hp9; refine o2_3 fun pa xs rf2_ hpa hxs => ?_; subst rf2_
      cases hxs with
      | @cons t0 _ _ xs' _ ht0 hv0 hxs =>
        cases hxs
        walk_at "aw"
        refine w_subl hpa (Int.le_refl 0) (v := .ref t0) rfl ?_
        walk_at "aw"
        refine w_subt ht0 (Int.le_refl 0) (v := .int k0) rfl ?_
        walk_at "aw"
        refine w_subl hpa (Int.le_refl 0) (v := .ref t0) rfl ?_
        walk_at "aw"
        refine w_subt ht0 (by omega : (0 : Int) ≤ 1) (v := v0) rfl ?_
        walk_at "aw"
        refine put_ok P hpr9 hT9 hs g0 g1 g2 (ok'.rg k0 (by simp [keys])) hv0 fun σ' c lp hT hc => ?_
        rw [hGe, ← hf0] at hT hc
        walk_at "aw"
        exact fin _ _ c lp hT hc (by walk_at "lv") (by walk_at "lv") (by walk_at "lv") (by walk_at "lv") (by walk_at "lv")
    have z : way ≠ 0 := by simpa using z
    walk_at "aw"
    refine w_if (fun z2 => ?_) fun z2 => ?_
    · have z2 : way = 1 := by simpa using z2
      have hf0 : f = fun s => overS s (sem L') := by
        rw [← hf]; funext s
        rw [turn, if_neg (by omega), if_neg (by omega)]
      walk_at "aw"
      refine add_ok P hpr9 hT9 hs g0 g1 g2 hp9 ok' fun σ' c lp hT hc => ?_
      rw [hGe, ← hf0] at hT hc
      walk_at "aw"
      exact fin _ _ c lp hT hc (by walk_at "lv") (by walk_at "lv") (by walk_at "lv") (by walk_at "lv") (by walk_at "lv")
    have z2 : way ≠ 1 := by simpa using z2
    walk_at "aw"
    refine w_if (fun z3 => ?_) fun z3 => ?_
    · have z3 : way = 2 := by simpa using z3
      have hf0 : f = fun _ => sem L' := by
        rw [← hf]; funext s
        rw [turn, if_pos (by omega)]
      walk_at "aw"
      refine set_ok P hpr9 hT9 hs g0 g1 g2 hp9 ok' fun σ' c lp hT hc => ?_
      rw [hGe, ← hf0] at hT hc
      walk_at "aw"
      exact fin _ _ c lp hT hc (by walk_at "lv") (by walk_at "lv") (by walk_at "lv") (by walk_at "lv") (by walk_at "lv")
    · have z3 : way ≠ 2 := by simpa using z3
      have hf0 : f = delS (1 + r) := by
        rw [← hf]; funext s
        rw [turn, if_neg (by omega), if_pos (by omega)]
      walk_at "aw"
      refine newW_ext fun nb σ10 hnb hnb' x10 => ?_
      refine remove_ok P (hpr9.ext x10) (hT9.ext x10) hs g0 g1 g2 hnb' fun σ' c lp hT hc => ?_
      rw [hGe, ← hf0] at hT hc
      walk_at "aw"
      exact fin _ _ c (x10.lp.trans lp) hT hc (by walk_at "lv") (by walk_at "lv") (by walk_at "lv") (by walk_at "lv") (by walk_at "lv")
end

theorem t_post {cl : CL} {n : Nat} {ρ : AEnv} {σ : Store} {QT : Bool → Store → Prop} {e : Expr} (I : Bool → Store → Prop) (h1 : ∀ v σ', I v σ' → QT v σ') (h2 : ∀ K : Bool → Store → Prop, (∀ v σ', I v σ' → K v σ') → awpT cl n e ρ σ K) : awpT cl n e ρ σ QT := h2 QT h1
section
variable {w : World} {C : Nat → CL} {lv : Nat} {σ : Store} {Q : PE}
theorem law_done_ok (P : Prg w C) {dk pr tr : Addr} {n : Int} {v : V} {F : List Sem'} (hd : DK σ dk n) (hn : n ≤ 870) (hpr : PR σ pr tr) (hT : TSt σ tr F) (hv : CH σ v F) (hs : F.length ≤ 16)
    (h : ∀ (σ' : Store) (v' : V) (F' : List Sem') (n' : Int), DK σ' dk n' → n' ≤ n + 9 → PR σ' pr tr → TSt σ' tr F' → CH σ' v' F' → F'.length ≤ 16 → Q v' σ') : C (lv + 11) "_law_done" [.ref dk, .ref pr, v] σ Q := by
  refine P.fn rfl rfl ?_
  walk_at "aw"
  refine draw_ok P hd (by omega) (by omega) fun σ1 way w0 w7 hd1 k1 => ?_
  have hv1 := hv.deck hd k1
  have hT1 := hT.deck hd k1
  have hpr1 := hpr.deck hd k1
  clear k1 hv hT hpr hd
  walk_at "aw"
  refine w_if (fun z => ?_) fun z => ?_
  · walk_at "aw"
    refine range_done_ok P hd1 (by omega) hpr1 hT1 hv1 (by omega) fun σ2 v2 F2 hd2 hpr2 hT2 hv2 hl2 => ?_
    walk_at "aw"
    exact h σ2 v2 F2 _ hd2 (by omega) hpr2 hT2 hv2 (by omega)
  have z := of_decide_eq_false z
  refine o2_3 (fun ca ds rf2_ hca hds => ?_) (id hv1); subst rf2_
  have hl1 := hds.length
  refine b_nil ?_
  refine th_next ?_
  refine b_If ?_
  refine t_post (fun c σ' => σ' = σ1 ∧ (c = true → F.length < 14)) ?_ ?_
  rotate_left
  · intro K hK
    walk_at "aw"
    refine w_if (fun z2 => ?_) fun z2 => ?_
    · walk_at "aw"
      refine w_len hca ?_
      walk_at "aw"
      refine w_if (fun z3 => ?_) fun z3 => ?_
      · have z3 := of_decide_eq_true z3
        walk_at "aw"
        exact hK _ _ ⟨rfl, fun _ => by omega⟩
      · walk_at "aw"
        exact hK _ _ ⟨rfl, fun e => nomatch e⟩
    · walk_at "aw"
      exact hK _ _ ⟨rfl, fun e => nomatch e⟩
  rintro c _ ⟨rfl, hc⟩
  refine w_if (fun z2 => ?_) fun _ => ?_
  · have hlt := hc z2
    walk_at "aw"
    refine w_len hca ?_
    walk_at "aw"
    refine draw_ok P hd1 (by omega) (by omega) fun σ2 at' a0 a1 hd2 k2 => ?_
    have h1a : at' ≤ F.length := by omega
    walk_at "aw"
    refine draw_ok P hd2 (by omega) (by omega) fun σ3 m m0 m1 hd3 k3 => ?_
    walk_at "aw"
    refine plist_ok P hd3 (by omega) fun σ4 p L hp ok hd4 k4 => ?_
    have kk := (k2.tr k3).tr k4
    have hv4 := hv1.deck hd1 kk
    have hT4 := hT1.deck hd1 kk
    have hpr4 := hpr1.deck hd1 kk
    clear kk k2 k3 k4 hd2 hd3 hd1 hv1 hT1 hpr1 hca hds
    walk_at "aw"
    refine newW_ext fun t0 σ5 ht0 ht0' x5 => ?_
    refine g_Tup ht0' rfl ?_
    refine g_cons (g_Name ?_)
    refine g_cons (g_Name ?_)
    refine g_cons (g_Name ?_)
    refine g_nil ?_
    walk_at "aw"
    refine inserted_ok P (hpr4.ext x5) (hT4.ext x5) a0 h1a m0 (by omega) (hp.imm x5.imm) ok fun σ6 lp hT6 => ?_
    refine ⟨trivial, ?_⟩
    have lp5 := x5.lp.trans lp
    have hp6 := hp.imm lp5.imm
    have hv6 := hv4.imm lp5.imm
    have hpr6 := lp5.pr _ _ hpr4
    have hd6 := hd4.imm lp5.imm
    clear lp5 lp x5 hp hv4 hT4 hpr4 hd4 ht0' ht0
    refine o2_3 (fun ca' ds' e0 hca hds => ?_) (id hv6)
    cases e0
    have hl1 := hds.length
    walk_at "aw"
    refine w_slice hca trivial a0 ?_
    refine newW_ext fun s1 σ7 hs1 hs1' x7 => ?_
    walk_at "aw"
    refine s_range ?_
    walk_at "aw"
    refine ⟨⟨by omega, by unfold bigN; omega⟩, ?_⟩
    refine comp_ind (fun rem acc ρ σ' => ∃ j, CDs σ' acc (List.replicate j (sem L)) ∧ j + rem.length = m.toNat ∧ Ext σ7 σ' ∧ ρ "plist" = some p) ?_ ?_ _ _ _ _ ⟨0, .nil, by simp [rangeL], Ext.refl _, by walk_at "lv"⟩
    · rintro x rem acc ρ σ' PP ⟨j, hacc, hj, x', q1⟩ hPP
      refine g_Name ?_
      refine ts_nil ?_
      walk_at "aw"
      refine seen_ok P (hp6.imm (x7.trans x').imm) ok fun σ2 d2 hd2 x2 _ => ?_
      refine ⟨trivial, hPP _ _ _ ⟨j + 1, ?_, by rw [List.length_cons] at hj; omega, x'.trans x2, by walk_at "lv"⟩⟩
      rw [List.replicate_succ']
      exact (hacc.imm x2.imm).append (.cons hd2 .nil)
    rintro acc ρ' σ8 ⟨j, hacc, hj, x8, _⟩
    have ej : j = m.toNat := by simpa using hj
    subst ej
    refine newW_ext fun lb σ9 hlb hlb' x9 => ?_
    have x79 := (x8.trans x9)
    have hs9 := x79 _ _ hs1'
    have hca9 := (x7.trans x79) _ _ hca
    have hlacc := hacc.length
    rw [List.length_replicate] at hlacc
    have hb : ds'.length ≤ 1000 := Nat.le_trans (Nat.le_of_eq hl1) (Nat.le_trans hs (by decide))
    have hbm : acc.length ≤ 1000 := by rw [hlacc]; omega
    walk_at "aw"
    refine w_adds hs9 hlb' (big2 (Nat.le_trans (sliceL_length ..) hb) hbm) ?_
    refine newW_ext fun s2 σ10 hs2 hs2' x10 => ?_
    have hca10 := x10 _ _ hca9
    walk_at "aw"
    refine w_slice hca10 a0 trivial ?_
    refine newW_ext fun s3 σ11 hs3 hs3' x11 => ?_
    have hs211 := x11 _ _ hs2'
    walk_at "aw"
    refine w_adds hs211 hs3' (by rw [List.length_append]; exact big3 (Nat.le_trans (sliceL_length ..) hb) hbm (Nat.le_trans (sliceL_length ..) hb)) ?_
    refine newW_ext fun s4 σ12 hs4 hs4' x12 => ?_
    walk_at "aw"
    have xx := ((x9.trans x10).trans x11).trans x12
    have xa := (x7.trans x8).trans xx
    refine h σ12 (.ref s4) _ _ (hd6.ext xa) (by omega) (hpr6.ext xa) (hT6.ext xa) ⟨s4, _, rfl, hs4', ?_⟩ ?_
    · have := (((hds.slice none (some at')).imm xa.imm).append (hacc.imm xx.imm)).append ((hds.slice (some at') none).imm xa.imm)
      rw [slice_lo, slice_hi, List.append_assoc (List.take at'.toNat F)] at this
      exact this
    · exact insLen h1a hlt m1
  refine b_nil ?_
  refine th_next ?_
  walk_at "ax"
  refine range_ok P hd1 (by omega) hv1 fun σ2 t b e ht g0 g1 g2 hd2 k2 => ?_
  refine g_Tup ht rfl ?_
  refine g_cons (g_Name ?_)
  refine g_cons (g_Name ?_)
  refine g_nil ?_
  have hv2 := hv1.deck hd1 k2
  have hT2 := hT1.deck hd1 k2
  have hpr2 := hpr1.deck hd1 k2
  clear k2 hd1 hv1 hT1 hpr1 hca hds
  refine o2_3 (fun ca' ds' e0 hca hds => ?_) (id hv2)
  cases e0
  have hl1 := hds.length
  refine b_If ?_
  refine t_post (fun c σ' => σ' = σ2 ∧ (c = false → F.length + e - b ≤ 16)) ?_ ?_
  rotate_left
  · intro K hK
    walk_at "aw"
    refine w_if (fun z2 => ?_) fun z2 => ?_
    · exact hK _ _ ⟨rfl, fun e => nomatch e⟩
    · walk_at "aw"
      refine w_len hca ?_
      walk_at "aw"
      refine w_if (fun z3 => ?_) fun z3 => ?_
      · exact hK _ _ ⟨rfl, fun e => nomatch e⟩
      · have z3 := of_decide_eq_false z3
        walk_at "aw"
        exact hK _ _ ⟨rfl, fun _ => by omega⟩
  rintro c2 _ ⟨rfl, hc2⟩
  refine w_if (fun _ => ?_) fun z3 => ?_
  · walk_at "aw"
    refine deleted_ok P hpr2 hT2 (by omega) g0 g1 g2 fun σ3 lp hT3 => ?_
    refine ⟨trivial, ?_⟩
    have hv3 := hv2.imm lp.imm
    have hpr3 := lp.pr _ _ hpr2
    have hd3 := hd2.imm lp.imm
    clear lp hv2 hT2 hpr2 hd2 hca hds
    refine o2_3 (fun ca' ds' e0 hca hds => ?_) (id hv3)
    cases e0
    have hl1 := hds.length
    walk_at "aw"
    refine w_slice hca trivial g0 ?_
    refine newW_ext fun s1 σ4 hs1 hs1' x4 => ?_
    have hca4 := x4 _ _ hca
    walk_at "aw"
    refine w_slice hca4 (show 0 ≤ e by omega) trivial ?_
    refine newW_ext fun s2 σ5 hs2 hs2' x5 => ?_
    have hs15 := x5 _ _ hs1'
    walk_at "aw"
    have hb : ds'.length ≤ 1000 := Nat.le_trans (Nat.le_of_eq hl1) (Nat.le_trans hs (by decide))
    refine w_adds hs15 hs2' (big2 (Nat.le_trans (sliceL_length ..) hb) (Nat.le_trans (sliceL_length ..) hb)) ?_
    refine newW_ext fun s3 σ6 hs3 hs3' x6 => ?_
    walk_at "aw"
    have xa := (x4.trans x5).trans x6
    refine h σ6 (.ref s3) _ _ (hd3.ext xa) (by omega) (hpr3.ext xa) (hT3.ext xa) ⟨s3, _, rfl, hs3', ?_⟩ ?_
    · have := ((hds.slice none (some b)).append (hds.slice (some e) none)).imm xa.imm
      exact this
    · exact delLen g1 hs
  · have hle := hc2 z3
    walk_at "aw"
    refine w_len hca ?_
    walk_at "aw"
    refine draw_ok P hd2 (by omega) (by omega) fun σ3 at' a0 a1 hd3 k3 => ?_
    have hv3 := hv2.deck hd2 k3
    have hT3 := hT2.deck hd2 k3
    have hpr3 := hpr2.deck hd2 k3
    clear k3 hd2 hv2 hT2 hpr2 hca hds
    walk_at "aw"
    refine copied_ok P hpr3 hT3 (by omega) g0 g1 g2 fun σ4 po to' hpo hTo x4 => ?_
    walk_at "aw"
    have lG := lenMid (l := F) g0 g1 g2
    have h1a : at' ≤ F.length := by omega
    refine graft_ok P (hpr3.ext x4) (hT3.ext x4) hpo hTo a0 h1a (by omega) fun σ5 lp hT5 => ?_
    refine ⟨trivial, ?_⟩
    have lp5 := x4.lp.trans lp
    have hv5 := hv3.imm lp5.imm
    have hpr5 := lp5.pr _ _ hpr3
    have hd5 := hd3.imm lp5.imm
    clear lp5 lp x4 hv3 hT3 hpr3 hd3 hpo hTo
    refine o2_3 (fun ca' ds' e0 hca hds => ?_) (id hv5)
    cases e0
    have hl1 := hds.length
    walk_at "aw"
    refine w_slice hca trivial a0 ?_
    refine newW_ext fun s1 σ6 hs1 hs1' x6 => ?_
    have hca6 := x6 _ _ hca
    walk_at "aw"
    refine w_slice hca6 g0 (show 0 ≤ e by omega) ?_
    refine newW_ext fun s2 σ7 hs2 hs2' x7 => ?_
    have hca7 := x7 _ _ hca6
    have hs17 := x7 _ _ hs1'
    walk_at "aw"
    have hb : ds'.length ≤ 1000 := Nat.le_trans (Nat.le_of_eq hl1) (Nat.le_trans hs (by decide))
    refine w_adds hs17 hs2' (big2 (Nat.le_trans (sliceL_length ..) hb) (Nat.le_trans (sliceL_length ..) hb)) ?_
    refine newW_ext fun s3 σ8 hs3 hs3' x8 => ?_
    have hca8 := x8 _ _ hca7
    walk_at "aw"
    refine w_slice hca8 a0 trivial ?_
    refine newW_ext fun s4 σ9 hs4 hs4' x9 => ?_
    have hs39 := x9 _ _ hs3'
    walk_at "aw"
    refine w_adds hs39 hs4' (by rw [List.length_append]; exact big3 (Nat.le_trans (sliceL_length ..) hb) (Nat.le_trans (sliceL_length ..) hb) (Nat.le_trans (sliceL_length ..) hb)) ?_
    refine newW_ext fun s5 σ10 hs5 hs5' x10 => ?_
    walk_at "aw"
    have xa := (((x6.trans x7).trans x8).trans x9).trans x10
    refine h σ10 (.ref s5) _ _ (hd5.ext xa) (by omega) (hpr5.ext xa) (hT5.ext xa) ⟨s5, _, rfl, hs5', ?_⟩ ?_
    · have := (((hds.slice none (some at')).append (hds.slice (some b) (some e))).append (hds.slice (some at') none)).imm xa.imm
      rw [slice_lo, slice_mid g0 g1, slice_hi, List.append_assoc (List.take at'.toNat F)] at this
      exact this
    · have := insLen2 (F := F) (G := (F.drop b.toNat).take (e - b).toNat) a0 h1a
      omega
end

noncomputable def AH (σ : Store) (v : V) (o : Option Sem') : Prop := (o = none ∧ v = .none) ∨ ∃ d s, o = some s ∧ v = .ref d ∧ CD σ d s
theorem AH.imm {σ σ' : Store} (k : Imm σ σ') {v : V} {o : Option Sem'} (h : AH σ v o) : AH σ' v o := by
  rcases h with h | ⟨d, s, h1, h2, h3⟩
  · exact .inl h
  · exact .inr ⟨d, s, h1, h2, h3.imm k⟩
theorem map_getD {F : List Sem'} {s : Sem'} : (List.range (F.length + 1)).map (fun j => (F[j]?).getD s) = F ++ [s] := by
  refine List.ext_getElem? fun j => ?_
  rw [List.getElem?_map]
  by_cases h : j < F.length
  · rw [List.getElem?_range (by omega), List.getElem?_append_left h]; simp [List.getElem?_eq_getElem h]
  · by_cases h2 : j = F.length
    · subst h2
      rw [List.getElem?_range (by omega), List.getElem?_append_right (by omega)]
      simp
    · rw [List.getElem?_eq_none (by rw [List.length_range]; omega), List.getElem?_eq_none (by simp; omega)]; rfl
section
variable {w : World} {C : Nat → CL} {lv : Nat} {σ : Store} {Q : PE}
open Classical in
theorem law_right_ok (P : Prg w C) {pr tr : Addr} {v : V} {F : List Sem'} (hpr : PR σ pr tr) (hT : TSt σ tr F) (hv : CH σ v F) (hs : F.length ≤ 1000)
    (h : ∀ σ', Ext σ σ' → Q (.bool true) σ') : C (lv + 5) "_law_is_right" [.ref pr, v] σ Q := by
  refine P.fn rfl rfl ?_
  refine o2_5 (fun R A HR hp hA eF hc => ?_) (id hT)
  have eL : (F.length : Int) = lenR R := by rw [hA.len, ← eF]; exact flat_len (hA.pos hp)
  obtain ⟨Cc, hpr'⟩ := id hpr
  refine o2_3 (fun ca ds rf2_ hca hds => ?_) (id hv); subst rf2_
  have hl := hds.length
  walk_at "aw"
  refine error_ok P HR hp (by omega) fun σ1 x1 => ?_
  walk_at "aw"
  have hca1 := x1 _ _ hca
  refine s_range ?_
  walk_at "aw"
  refine w_len hca1 ?_
  walk_at "aw"
  refine ⟨⟨by omega, by unfold bigN; omega⟩, ?_⟩
  refine comp_ind (fun rem acc ρ σ' => ∃ j c, j + c = F.length + 1 ∧ rem = (List.range' j c).map (fun i : Nat => V.int (i : Int)) ∧ CDs σ' acc ((List.range j).map fun i => (F[i]?).getD (sem [])) ∧ Ext σ1 σ' ∧ ρ "props" = some (.ref pr)) ?_ ?_ _ _ _ _ ⟨0, F.length + 1, by omega, ?_, .nil, Ext.refl _, by walk_at "lv"⟩
  rotate_left 2
  · unfold rangeL
    rw [List.range_eq_range', show ((ds.length : Int) + 1).toNat = F.length + 1 by omega]
  · rintro x rem acc ρ σ' PP ⟨j, c, hj, er, hacc, x', q1⟩ hPP
    cases c with
    | zero => cases er
    | succ c =>
      rw [List.range'_succ, List.map_cons] at er
      cases er
      refine g_Name ?_
      refine ts_nil ?_
      walk_at "aw"
      have xx := x1.trans x'
      refine props_at_ok P (hpr.ext xx) (hT.ext xx) hs (show (0 : Int) ≤ (j : Int) by omega) fun σ2 p L hp2 ok2 es x2 => ?_
      walk_at "aw"
      refine seen_ok P hp2 ok2 fun σ3 d hd x3 _ => ?_
      refine ⟨trivial, hPP _ _ _ ⟨j + 1, c, by omega, rfl, ?_, (x'.trans x2).trans x3, by walk_at "lv"⟩⟩
      rw [List.range_succ, List.map_append]
      refine (hacc.imm (x2.trans x3).imm).append ?_
      rw [es] at hd
      exact .cons hd .nil
  rintro acc ρ' σ2 ⟨j, c, hj, er, hacc, x2, _⟩
  have ec : c = 0 := by
    cases c with
    | zero => rfl
    | succ c => rw [List.range'_succ, List.map_cons] at er; cases er
  subst ec
  have ej : j = F.length + 1 := by omega
  subst ej
  rw [map_getD] at hacc
  refine newW_ext fun la σ3 hla hla' x3 => ?_
  have hca3 := (x2.trans x3) _ _ hca1
  walk_at "aw"
  refine newD_ext fun dd ep σ4 hdd hdd' x4 => ?_
  have hca4 := x4 _ _ hca3
  walk_at "aw"
  refine newW_ext fun lb σ5 hlb hlb' x5 => ?_
  have hca5 := x5 _ _ hca4
  walk_at "aw"
  refine w_adds hca5 hlb' (by simp only [List.length_cons, List.length_nil]; unfold bigN; omega) ?_
  refine newW_ext fun lc σ6 hlc hlc' x6 => ?_
  have x36 := (x4.trans x5).trans x6
  have x06 := ((x1.trans x2).trans x3).trans x36
  have hcd : CD σ6 dd (sem []) := ⟨[], ep, [], (x5.trans x6) _ _ hdd', .nil, .nil, rfl⟩
  have hch : CH σ6 (.ref lc) (F ++ [sem []]) := ⟨lc, _, rfl, hlc', (hds.imm x06.imm).append (.cons hcd .nil)⟩
  have hch2 : CH σ6 (.ref la) (F ++ [sem []]) := ⟨la, _, rfl, x36 _ _ hla', hacc.imm (x3.trans x36).imm⟩
  refine w_neN (eq_chars (n := 1) hch2 hch) ?_
  refine w_if (fun z => absurd z (by simp)) fun _ => ?_
  obtain ⟨Cc6, hpr6⟩ := hpr.ext x06
  walk_at "aw"
  refine rows_ok P (HR.ext x06) hp (by omega) fun σ7 lr rs hlr _ htup k7 => ?_
  have x7 := k7.ext
  have x07 := x06.trans x7
  walk_at "aw"
  refine newW_ext fun t0 σ8 ht0 ht0' x8 => ?_
  have hlr8 := x8 _ _ hlr
  have x08 := x07.trans x8
  refine g_Tup ht0' rfl ?_
  refine g_cons (g_Name ?_)
  refine g_cons (g_Name ?_)
  refine g_cons (g_Name ?_)
  refine g_nil ?_
  refine b_For ?_
  refine s_name ?_
  walk_at "aw"
  refine so_list hlr8 ?_
  have hca8 := x08 _ _ hca
  clear x36 x06 x07 x7 x6 x5 x4 x3 x2 x1 k7 hcd hch hch2 hca5 hca4 hca3 hca1 hlc' hlb' hdd' hla' hacc er
  refine for_ind (fun rem ρ σ' => ∃ b o a R2 A2, TupsAt σ' rem (rowsOf b R2) ∧ RSt σ' R2 A2 ∧ PosR R2 ∧ Can No b o A2 ∧ AH σ' a o ∧ b + lenR R2 = F.length ∧ Ext σ8 σ' ∧ ρ "ahead" = some a ∧ ρ "at" = some (.int b) ∧ ρ "chars" = some (.ref ca)) ?_ ?_ _ _ _
    ⟨0, none, .none, R, A, htup.imm x8.imm, hA.imm x08.imm, hp, hc, .inl ⟨rfl, rfl⟩, by omega, Ext.refl _, by walk_at "lv", by walk_at "lv", by walk_at "lv"⟩
  · rintro x rem ρ σ' PP ⟨b, o, a, R2, A2, ht, hA2, hp2, hc2, hah, el, x', q1, q2, q3⟩ hPP
    cases R2 with
    | nil => cases ht
    | cons y R2 =>
      obtain ⟨ad, n, p⟩ := y
      obtain ⟨L, A2, rfl, g1, g2, g3⟩ := hA2.cons_inv
      have hn := hp2 (ad, n, p) (.head _)
      simp only at hn
      cases ht with
      | @cons t0 _ rem _ ht1 ht2 =>
        refine g_Tup ht1 rfl ?_
        refine g_cons (g_Name ?_)
        refine g_cons (g_Name ?_)
        refine g_cons (g_Name ?_)
        refine g_nil ?_
        have hlr' := x' _ _ hlr8
        walk_at "aw"
        refine w_if (fun z => absurd z (by simp)) fun _ => ?_
        walk_at "aw"
        refine w_if (fun z => absurd (of_decide_eq_true z) (by omega)) fun _ => ?_
        walk_at "aw"
        refine seen_ok P g1 g2 fun σ2 d hd x2 _ => ?_
        walk_at "aw"
        have step : ∀ K : Bool → Prop, K false → cmpW .Eq (.ref d) a σ2 K := by
          intro K hK
          rcases hah with ⟨rfl, rfl⟩ | ⟨d0, s0, rfl, rfl, hd0⟩
          · exact w_eqN (eq_none hd) hK
          · refine w_eqN (eq_dict (n := 2) hd (hd0.imm x2.imm)) ?_
            rw [decide_eq_false]
            · exact hK
            · intro e
              exact hc2.1 (by rw [e])
        refine step _ ?_
        walk_at "aw"
        refine seen_ok P (g1.imm x2.imm) g2 fun σ3 d3 hd3 x3 _ => ?_
        walk_at "aw"
        refine newW_ext fun t1 σ4 ht1 ht1' x4 => ?_
        refine g_Tup ht1' rfl ?_
        refine g_cons (g_Name ?_)
        refine g_cons (g_Name ?_)
        refine g_nil ?_
        walk_at "aw"
        have x24 := (x2.trans x3).trans x4
        rw [lenR_cons] at el
        simp only at el
        refine fk_next ⟨x24 _ _ hlr', hPP _ _ ⟨b + n, some (sem L), .ref d3, R2, A2, ht2.imm x24.imm, g3.imm x24.imm, (fun y hy => hp2 y (.tail _ hy)), hc2.2, .inr ⟨d3, _, rfl, rfl, hd3.imm x4.imm⟩, by omega, x'.trans x24, by walk_at "lv", by walk_at "lv", by walk_at "lv"⟩⟩
  · rintro ρ σ' ⟨b, o, a, R2, A2, ht, hA2, hp2, hc2, hah, el, x', q1, q2, q3⟩
    have e2 : R2 = [] := by
      cases R2 with
      | nil => rfl
      | cons y R2 => cases ht
    subst e2
    have e0 : lenR ([] : List Run) = 0 := rfl
    have hca9 := x' _ _ hca8
    refine th_next ?_
    walk_at "aw"
    refine w_len hca9 ?_
    walk_at "aw"
    have : (b == (ds.length : Int)) = true := by simp; omega
    rw [this]
    exact h σ' (x08.trans x')
end

theorem law_rest (w : World) (C : Nat → CL) (P : Prg w C) : LawRest C := by
  refine lr_intro rfl fun ρ σ a dk ns hns h1 h2 hne => ?_
  have hd : DK σ dk 0 := ⟨a, ns, h1, hns, h2, hne, Int.le_refl 0⟩
  walk_at "aw"
  refine s_range ?_
  walk_at "aw"
  refine draw_ok P hd (by omega) (by omega) fun σ1 r r0 r8 hd1 k1 => ?_
  walk_at "aw"
  refine ⟨⟨by omega, by unfold bigN; omega⟩, ?_⟩
  refine comp_ind (fun rem acc ρ σ' => ∃ j, CDs σ' acc (List.replicate j (sem [])) ∧ j + rem.length = (r + 1).toNat ∧ Ext σ1 σ') ?_ ?_ _ _ _ _ ⟨0, .nil, by simp [rangeL], Ext.refl _⟩
  · rintro x rem acc ρ σ' PP ⟨j, hacc, hj, x'⟩ hPP
    refine g_Name ?_
    refine ts_nil ?_
    walk_at "aw"
    refine newD_ext fun d ep σ2 hd hd' x2 => ?_
    refine ⟨trivial, hPP _ _ _ ⟨j + 1, ?_, by rw [List.length_cons] at hj; omega, x'.trans x2⟩⟩
    rw [List.replicate_succ']
    exact (hacc.imm x2.imm).append (.cons ⟨[], ep, [], hd', .nil, .nil, rfl⟩ .nil)
  rintro acc ρ' σ2 ⟨j, hacc, hj, x2⟩
  have ej : j = (r + 1).toNat := by simpa using hj
  subst ej
  refine newW_ext fun ca σ3 hca hca' x3 => ?_
  have hl := hacc.length
  rw [List.length_replicate] at hl
  walk_at "aw"
  refine w_len hca' ?_
  walk_at "aw"
  refine props_new P (show (0 : Int) ≤ (acc.length : Int) by omega) fun σ4 pr tr R A hpr H hp hA ef hc _ x4 => ?_
  have hT : TSt σ4 tr (List.replicate (r + 1).toNat (sem [])) := ⟨R, A, H, hp, hA, by rw [ef, hl]; rfl, hc⟩
  have hv : CH σ4 (.ref ca) (List.replicate (r + 1).toNat (sem [])) := ⟨ca, acc, rfl, x4 _ _ hca', (hacc.imm x3.imm).imm x4.imm⟩
  have hd4 := hd1.ext ((x2.trans x3).trans x4)
  walk_at "aw"
  refine s_range ?_
  walk_at "aw"
  refine draw_ok P hd4 (by omega) (by omega) fun σ5 q q0 q8 hd5 k5 => ?_
  walk_at "aw"
  refine ⟨⟨by omega, by unfold bigN; omega⟩, ?_⟩
  refine for_ind (fun rem ρ σ' => ∃ n F v, DK σ' dk n ∧ n + 9 * rem.length ≤ 100 ∧ PR σ' pr tr ∧ TSt σ' tr F ∧ CH σ' v F ∧ F.length ≤ 16 ∧ ρ "deck" = some (.ref dk) ∧ ρ "props" = some (.ref pr) ∧ ρ "chars" = some v) ?_ ?_ _ _ _
    ⟨_, _, .ref ca, hd5, ?_, hpr.deck hd4 k5, hT.deck hd4 k5, hv.deck hd4 k5, by rw [List.length_replicate]; omega, by walk_at "lv", by walk_at "lv", by walk_at "lv"⟩
  · rintro x rem ρ σ' PP ⟨n, F, v, hd, hn, hpr, hT, hv, hF, q1, q2, q3⟩ hPP
    rw [List.length_cons] at hn
    push_cast at hn
    refine g_Name ?_
    walk_at "aw"
    refine law_done_ok P hd (by omega) hpr hT hv hF fun σ2 v2 F2 n2 hd2 hn2 hpr2 hT2 hv2 hF2 => ?_
    refine o2_3 (fun ca2 ds2 rf2_ _ _ => ?_) (id hv2); subst rf2_
    walk_at "aw"
    refine law_right_ok P hpr2 hT2 hv2 (by omega) fun σ3 x3 => ?_
    walk_at "aw"
    refine ⟨trivial, hPP _ _ ⟨n2, F2, .ref ca2, hd2.ext x3, by omega, hpr2.ext x3, hT2.ext x3, hv2.imm x3.imm, hF2, by walk_at "lv", by walk_at "lv", by walk_at "lv"⟩⟩
  · rintro ρ σ' _
    refine th_next ?_
    walk_at "aw"
    rfl
  · unfold rangeL
    rw [List.length_map, List.length_range]; omega

set_option Elab.async false
theorem lookup_mem {a : Addr} {o : Obj} : ∀ {l : Frag}, l.lookup a = some o → (a, o) ∈ l
  | [], h => by cases h
  | (b, x) :: l, h => by
    rw [List.lookup_cons] at h
    split at h
    · rename_i e; cases h; rw [eq_of_beq e]; exact .head _
    · exact .tail _ (lookup_mem h)
theorem frag_in (h : Heap) : (fragOf h).In h := fun a o e => by
  unfold fragOf at e
  obtain ⟨⟨x, i⟩, hp, e2⟩ := List.mem_filterMap.mp (lookup_mem e)
  have h2 := List.mem_zipIdx_iff_getElem?.mp hp
  obtain ⟨c, d, dt, sl⟩ := x
  unfold Heap.get?
  rw [Array.getElem?_toList] at h2
  unfold fragRow at e2
  dsimp only at e2 h2
  split at e2
  · cases e2
  · rename_i hne
    cases e2
    rw [h2]
    split
    · rename_i heq; cases heq; exact absurd rfl (hne _ _ _)
    · rfl
theorem good_of {s : Shared} (e : obs s = obsG) : Good (fragOf s.heap) := by
  have e1 : (fnsOk (fragOf s.heap) && bltFree (fragOf s.heap)) = true := congrArg Prod.fst e
  have e2 : defTab.map (fun r => fnD (fragOf s.heap) r.1) = defTab.map (fun r => some r.2) := congrArg (fun x => x.2.1) e
  have e3 : clsTab.map (fun r => (addrOf (fragOf s.heap) r.1, (clsInit (fragOf s.heap) r.2.1).bind (fnA (fragOf s.heap)))) = clsTab.map (fun r => (some r.2.1, some r.2.2)) := congrArg (fun x => x.2.2) e
  simp only [Bool.and_eq_true] at e1
  refine ⟨e1.1, e1.2, fun r hr => List.map_eq_map_iff.mp e2 r hr, fun r hr => ?_⟩
  have := List.map_eq_map_iff.mp e3 r hr
  exact Prod.mk.inj this
noncomputable def YP (_ : World) (h : Heap) : Prop := ∃ K : Frag, K.In h ∧ Good K
theorem no_cell {names : List (Str × NameKind)} (h : names.all (fun y => y.2 != .cell) = true) (x : Str) : names.lookup x ≠ some .cell := fun e => by
  have := List.all_eq_true.mp h _ (mem_of_lookup e)
  simp at this
theorem fnOk_of {K : Frag} {p : Program} {loose : List Str} {mean : ExcName → Option Value} {mg mb : Str → Option Value} {h₀ : Heap} {L : Addr} {A A₀ : Around} {fe : Env} {base : Heap} {outer : List Env} {lv : Nat}
    (B : Below A₀ base outer h₀) (hA : A.frames = some (fe :: outer)) (hf : fe.frame = some L) (hk : fe.scope.kind = .function) (X : K.In h₀) (T : Top p loose mean mg mb h₀) (hh : A.handled = none) (hd : A.depth + 4 * lv ≤ 500) (hu : A.units + 30 * lv ≤ 5000)
    (g1 : fe.globals = mainGlobals) (g2 : fe.builtins = builtinsNs) (g3 : fe.locals = L) (nc : ∀ x, fe.kindOf x ≠ some .cell) : FnOk K p loose mean mg mb h₀ L A fe lv :=
  ⟨⟨⟨A₀, base, outer, B, hA⟩, hf, hk, X, T, hh, hd, hu⟩, ⟨hk, g1, g2, fun x hx => absurd hx (nc x)⟩, g3, fun x y c hx _ _ _ => absurd hx (nc x)⟩
end Mine
open PySem PySem.W PySem.Calls PyProof.Rows PySem.Spec
theorem PySem.Challenge.cw_np0081_01_holds : PySem.Challenge.rw_np0081_01.Holds := by
  w_on
  refine holds_law Mine.said fun sd => ?_
  refine W.holds_open (q := Mine.theQ) (loose := Mine.loose) (Xt := Mine.xt) (XP := XL Mine.theQ []) (Yf := Mine.obs) (Ya := fun _ => Mine.obsG) (YP := Mine.YP) (N := 6000) Mine.left (fun w s e => ⟨_, Mine.frag_in _, Mine.good_of e⟩) (fun w h h' ⟨K, k1, k2⟩ hk => ⟨K, fun a o e => hk a o (k1 a o e), k2⟩) (fun s e => xl_of s (Bool.and_eq_true_iff.mp e).1) XL.keeps (by rfl) (by rfl) (by rfl) (fun s e => recFacts_of (Bool.and_eq_true_iff.mp e).2) rfl sd ?hok ⟨rfl, rfl, rfl, rfl, rfl, by decide +kernel⟩ ?hw ?hc
  case hok => kernel_rfl
  case hw => w_witness2
  case hc =>
    intro w s₀ s₁ mg mb G Y fa o pm cd doc dV kV ho hd hcd hD hmg hg args vals as hpre hlay hrd hwl hlo
    obtain ⟨K, KX, KG⟩ := Y
    refine Ground.open G ?_
    intro T B D TE TW
    (refine guard_noD D (by decide +kernel) ?_; clear D)
    obtain ⟨_, _, M⟩ := bmod_of_top T
    have TA := at_of_top T
    (obtain ⟨_, _, he, B0⟩ := based_of_top T rfl hmg ho hd; have he' : cd = _ := he; subst he'; clear he)
    clear hmg
    wrow_args hpre hlay hrd hwl hlo
    all_goals (
      refine enter_call ?_
      w_top on
      try refine codeAny_mono ?_ (fun _ _ g => GoodW.toG g)
      have K0 := below_caller (Top.heap T)
      w_call any ho hd hcd hD T F
      clear hd TA
      k_drop
      skip)
    all_goals try k_fold
    rename_i _ _ _ _ ns _ _ _ _ _ _ _ sl vs _ hL _ _ _ hI _ hlen _ h₁ N0
    refine Mine.law_execs (K := K) (Mine.fnOk_of K0 (Around.frames_deeper rfl) rfl rfl KX T rfl (show callerA.depth + 1 + 4 * 14 ≤ 500 by decide) (show callerA.units + 3 + 30 * 14 ≤ 5000 by decide) rfl rfl rfl (Mine.no_cell rfl)) KG.blt KG.fns hL hI (by omega) F N0 rfl rfl rfl rfl rfl rfl rfl (Mine.no_cell rfl) ?_ (Mine.lr_elim rfl (Mine.law_rest _ _ (Mine.prg_ok (w := w) KG))) ?_
    · kernel_rfl
    · intro s' hs hk
      obtain ⟨h', tk, rfl⟩ := hs
      dsimp only
      refine ⟨.inl ⟨.bool true, .bool true, [], rfl, fun _ => rfl, .bool true, ?_, fun _ => ⟨List.nodup_nil, fun _ hm => nomatch hm⟩⟩, hk, rfl, by assumption⟩
      (first | kernel_rfl | wrow_close | law_fin | decide)
