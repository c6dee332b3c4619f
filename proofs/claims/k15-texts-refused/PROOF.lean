import PyProof.Rows.All
import Wide.All
import OpenK.AllK
import Wide.FinOn
import KE.KStateDown
import Lean
import HandS.ForMost
import HandS.ForExc
import HandS.Defaults
import HandS.Lambda
import HandS.HeadHook1
import HandS.HeadHook2
import HandS.ExcInit
import HandS.ExcField
import HandS.ExcIs
import HandS.ClsMeth
import HandS.HeadHook3
import HandS.HeadHook4
import HandS.Head0
import HandS.Head1
import HandS.Head2
import HandS.HeadEnd
import HandS.MakeKwOnly
import HandS.IsInst
import HandS.Conv
import HandS.Flow
import KE.SortKeyHeap
import HandS.More
import HandS.SortKw
import KE.KItemsList
import HandS.ListItems
import HandS.TupAny
import HandS.Small
import HandS.Walk
import HandS.Star
import PyProof.EqAt
import PyProof.EqKinds
import PyProof.TupleCall
import HandS.Set
import HandS.SetFor
import HandS.Strs
import HandS.DictComp
import HandS.TryOnly
import HandS.Zip
import PyProof.CollectIter
import PyProof.WalksMore
import PyProof.ListRange
import HandS.Text
import HandS.RaiseMore
import HandS.Iter
import KE.GoesEnum
import KE.GoesMore
import KE.GoesZip
import PyProof.EnumIter
import PyProof.EnumMake
import PyProof.TupleIter
import HandS.WordsExc
import KE.SortKeyed
import KE.IntTextLaws
import KE.KIntText
import HandS.Wide
import HandS.Style
import HandS.Codes
import HandS.Deep
import KE.KExcIs
import HandS.ExcBuiltin
import HandS.Dict
import HandS.List
import PyProof.DictUpdate
import HandS.EndTab
import HandS.HeadWalk
import PySem.Challenge.RW_laterhouse_k15_texts_refused
section
set_option Elab.async false
set_option linter.all false
set_option maxRecDepth 100000
set_option maxHeartbeats 4000000
namespace LH
open PySem PySem.Spec PyProof.Rows L2
def topS (i : Nat) : Stmt := PySem.Challenge.pw_laterhouse_k15_texts_refused.main.body.getD i (.Pass ⟨0, 0, 0, 0⟩)
abbrev s_BadPlan___init__ : Stmt := inClass (topS 2) 0
abbrev s_BadLog___init__ : Stmt := inClass (topS 3) 0
abbrev s_BadText___init__ : Stmt := inClass (topS 4) 0
abbrev s_is_name : Stmt := topS 22
abbrev s_number_of : Stmt := topS 33
abbrev s_part_of : Stmt := topS 34
abbrev s_deed_of : Stmt := topS 35
abbrev s_read : Stmt := topS 36
abbrev s__law_begun : Stmt := topS 38
abbrev s__law_take : Stmt := topS 39
abbrev s__law_alike : Stmt := topS 40
abbrev s__law_told : Stmt := topS 41
abbrev s__law_spoilt : Stmt := topS 42
abbrev s__law_number : Stmt := topS 43
abbrev s__law_name : Stmt := topS 44
abbrev s__law_part : Stmt := topS 45
abbrev s__law_due : Stmt := topS 46
abbrev s_law : Stmt := topS 47
def d_BadPlan___init__ : He.DefD := ⟨("BadPlan", some "__init__"), "__init__", "BadPlan.__init__", defArgs s_BadPlan___init__, defBody s_BadPlan___init__, defScope s_BadPlan___init__, [], []⟩
def d_BadLog___init__ : He.DefD := ⟨("BadLog", some "__init__"), "__init__", "BadLog.__init__", defArgs s_BadLog___init__, defBody s_BadLog___init__, defScope s_BadLog___init__, [], []⟩
def d_BadText___init__ : He.DefD := ⟨("BadText", some "__init__"), "__init__", "BadText.__init__", defArgs s_BadText___init__, defBody s_BadText___init__, defScope s_BadText___init__, [], []⟩
def d_is_name : He.DefD := ⟨("is_name", none), "is_name", "is_name", defArgs s_is_name, defBody s_is_name, defScope s_is_name, [], []⟩
def d_number_of : He.DefD := ⟨("number_of", none), "number_of", "number_of", defArgs s_number_of, defBody s_number_of, defScope s_number_of, [], []⟩
def d_part_of : He.DefD := ⟨("part_of", none), "part_of", "part_of", defArgs s_part_of, defBody s_part_of, defScope s_part_of, [], []⟩
def d_deed_of : He.DefD := ⟨("deed_of", none), "deed_of", "deed_of", defArgs s_deed_of, defBody s_deed_of, defScope s_deed_of, [], []⟩
def d_read : He.DefD := ⟨("read", none), "read", "read", defArgs s_read, defBody s_read, defScope s_read, [], []⟩
def d__law_begun : He.DefD := ⟨("_law_begun", none), "_law_begun", "_law_begun", defArgs s__law_begun, defBody s__law_begun, defScope s__law_begun, [], []⟩
def d__law_take : He.DefD := ⟨("_law_take", none), "_law_take", "_law_take", defArgs s__law_take, defBody s__law_take, defScope s__law_take, [], []⟩
def d__law_alike : He.DefD := ⟨("_law_alike", none), "_law_alike", "_law_alike", defArgs s__law_alike, defBody s__law_alike, defScope s__law_alike, [], []⟩
def d__law_told : He.DefD := ⟨("_law_told", none), "_law_told", "_law_told", defArgs s__law_told, defBody s__law_told, defScope s__law_told, [], []⟩
def d__law_spoilt : He.DefD := ⟨("_law_spoilt", none), "_law_spoilt", "_law_spoilt", defArgs s__law_spoilt, defBody s__law_spoilt, defScope s__law_spoilt, [], []⟩
def d__law_number : He.DefD := ⟨("_law_number", none), "_law_number", "_law_number", defArgs s__law_number, defBody s__law_number, defScope s__law_number, [], []⟩
def d__law_name : He.DefD := ⟨("_law_name", none), "_law_name", "_law_name", defArgs s__law_name, defBody s__law_name, defScope s__law_name, [], []⟩
def d__law_part : He.DefD := ⟨("_law_part", none), "_law_part", "_law_part", defArgs s__law_part, defBody s__law_part, defScope s__law_part, [], []⟩
def d__law_due : He.DefD := ⟨("_law_due", none), "_law_due", "_law_due", defArgs s__law_due, defBody s__law_due, defScope s__law_due, [], []⟩
def d_law : He.DefD := ⟨("law", none), "law", "law", defArgs s_law, defBody s_law, defScope s_law, [], []⟩
def fnL : List He.DefD := [d_BadPlan___init__, d_BadLog___init__, d_BadText___init__, d_is_name, d_number_of, d_part_of, d_deed_of, d_read, d__law_begun, d__law_take, d__law_alike, d__law_told, d__law_spoilt, d__law_number, d__law_name, d__law_part, d__law_due, d_law]
def faL : List He.Fa := [.glo "LaterError",
  .glo "BadPlan",
  .glo "BadLog",
  .glo "BadText",
  .glo "BadCount",
  .glo "BadTick",
  .glo "BadRank",
  .glo "BadSteps",
  .glo "BadNeeds",
  .glo "BadTries",
  .glo "BadPart",
  .glo "BadName",
  .glo "BadKinds",
  .glo "Taken",
  .glo "NoWorker",
  .glo "NoKind",
  .glo "NoJob",
  .glo "NoLease",
  .str "LETTERS" "abcdefghijklmnopqrstuvwxyz",
  .int "MOST_LETTERS" 8,
  .glo "is_name",
  .str "FIGURES" "0123456789",
  .int "MOST_FIGURES" 5,
  .str "LINE" "\n",
  .str "COMMA" ",",
  .str "NONE" "-",
  .str "NUMBER" "n",
  .str "NAME" "w",
  .str "NUMBERS" "j",
  .glo "FORMS",
  .glo "number_of",
  .glo "part_of",
  .glo "deed_of",
  .glo "read",
  .glo "_law_begun",
  .glo "_law_take",
  .glo "_law_alike",
  .glo "_law_told",
  .glo "_law_spoilt",
  .glo "_law_number",
  .glo "_law_name",
  .glo "_law_part",
  .glo "_law_due",
  .glo "law",
  .free "ValueError",
  .free "all",
  .free "bool",
  .free "enumerate",
  .free "int",
  .free "isinstance",
  .free "len",
  .free "list",
  .free "max",
  .free "range",
  .free "str",
  .free "tuple",
  .free "zip",
  .exc "LaterError",
  .exm "BadPlan" "LaterError" true,
  .exm "BadLog" "LaterError" true,
  .exm "BadText" "LaterError" true,
  .exc "BadCount",
  .exm "BadCount" "LaterError" true,
  .exc "BadTick",
  .exm "BadTick" "LaterError" true,
  .exc "BadRank",
  .exm "BadRank" "LaterError" true,
  .exc "BadSteps",
  .exm "BadSteps" "LaterError" true,
  .exc "BadNeeds",
  .exm "BadNeeds" "LaterError" true,
  .exc "BadTries",
  .exm "BadTries" "LaterError" true,
  .exc "BadPart",
  .exm "BadPart" "LaterError" true,
  .exc "BadName",
  .exm "BadName" "LaterError" true,
  .exc "BadKinds",
  .exm "BadKinds" "LaterError" true,
  .exc "Taken",
  .exm "Taken" "LaterError" true,
  .exc "NoWorker",
  .exm "NoWorker" "LaterError" true,
  .exc "NoKind",
  .exm "NoKind" "LaterError" true,
  .exc "NoJob",
  .exm "NoJob" "LaterError" true,
  .exc "NoLease",
  .exm "NoLease" "LaterError" true]
def tfL : List He.Defn := [("law", none)]
def tsL : List (Str × List (Str × He.Dv)) := [("FORMS", [("add", .str "nnkjn"), ("clock", .str "nknnnn"), ("join", .str "wk"), ("leave", .str "w"), ("limit", .str "wnn"), ("turn", .str "n"), ("take", .str "w"), ("done", .str "n"), ("fail", .str "n"), ("beat", .str "n"), ("tell", .str "nn"), ("drop", .str "n"), ("again", .str "n")])]
/-! own exceptions with an own __init__; what isinstance says of a caught one -/
def oexB (K : PySem.W.Frag) (C : Addr) : Bool := match K.lookup C with
  | some ⟨.type "type", _, .cls cd, sl⟩ => (match cd.mro, sl.toList with
    | .ref C' :: bm, [_, _, _, _, some (.builtin n), _] => C' == C && (n == "ValueError.__new__" && (!cd.hasDel && (cd.hasDict && PySem.HandSPX.refsVE bm)))
    | _, _ => false)
  | _ => false
def initB (K : PySem.W.Frag) (p : Str × Str) : Bool :=
  oexB K (He.ga K p.1) && (He.eqO (PySem.W.findIn K (.ref (He.ga K p.1)) "__setattr__") (some (some (.builtin "object.__setattr__"))) && (decide (PySem.W.subIn K (.ref (He.ga K p.1)) (.type "BaseException") = some true) && (decide (PySem.W.typeIn K (.ref (He.ga K p.1)) = some (.type "type")) && (PySem.W.keepIn K (.ref (He.ga K p.1)) &&
    (He.eqO (PySem.W.findIn K (.ref (He.ga K p.1)) "__init__") (some (some (.ref (He.ma K (He.ga K p.1) "__init__")))) && (decide (PySem.W.typeIn K (.ref (He.ma K (He.ga K p.1) "__init__")) = some (.type "function")) && (He.eqO (PySem.W.findIn K (.ref (He.ga K p.1)) p.2) (some none) && xfB K (He.ga K p.1))))))))
def isB (K : PySem.W.Frag) (L : List Str) (c : Str) : Bool :=
  He.eqO (PySem.W.findIn K (.ref (He.ga K c)) "__getattribute__") (some (some (.builtin "BaseException.__getattribute__"))) && (He.eqO (PySem.W.findIn K (.ref (He.ga K c)) "__getattr__") (some none) && (decide (PySem.W.subIn K (.ref (He.ga K c)) (.type "BaseException") = some true) && (PySem.W.hasDictIn K (He.ga K c) &&
    (He.eqO (PySem.W.findIn K (.ref (He.ga K c)) "__class__") (some (some (.builtin "object.__class__"))) && (He.eqO (PySem.W.specialIn K (.builtin "object.__class__") "__get__") (some (some (.builtin "getset_descriptor.__get__"))) && (decide (PySem.W.takesIn K (.builtin "object.__class__") = some true) && (decide (PySem.W.mroIn K (He.ga K c) (.type "object") = some true) &&
    (decide (PySem.W.kitOne K (.ref (He.ga K c)) (.type "ValueError") = some true) && L.all fun x => decide (PySem.W.kitOne K (.ref (He.ga K c)) (.ref (He.ga K x)) = some (decide (c = x)))))))))))
def leB (K : PySem.W.Frag) : Bool := PySem.W.readsIn K (He.ga K "LaterError") (.type "type") && (He.eqO (PySem.W.specialIn K (.ref (He.ga K "LaterError")) "__getattribute__") (some (some (.builtin "type.__getattribute__"))) && (match PySem.W.findCls K (.ref (He.ga K "LaterError")) (.type "type") "__init__" with
  | some (.val v) => decide (v = .builtin "ValueError.__init__")
  | _ => false))
def tinitL : List (Str × Str) := [("BadPlan", "number"), ("BadLog", "number"), ("BadText", "row")]
def tkindL : List Str := ["BadCount", "BadKinds", "BadLog", "BadName", "Taken", "BadNeeds", "BadPart", "BadPlan", "BadRank", "BadSteps", "BadText", "BadTick", "BadTries", "NoJob", "NoKind", "NoLease", "NoWorker"]
def xB (K : PySem.W.Frag) : Bool := tinitL.all (initB K) && (tkindL.all (isB K tkindL) && leB K)
/-- the tables, with the names of the code objects that they will tell -/
def TT (K : PySem.W.Frag) : List (Addr × Str) := [((He.cT K ("law", none)).2, "law.<locals>.<lambda>")]
/-- what a walk may lean on -/
structure Tp (P : Program) (w : World) (K : PySem.W.Frag) (mg : Str → Option Value) (base : Heap) : Prop where
  c : He.SaysD faL fnL K
  glo : ∀ {x : Str}, (He.Fa.glo x).ok K = true → mg x = some (.ref (He.ga K x))
  free : ∀ {x : Str}, (He.Fa.free x).ok K = true → mg x = none
  int : ∀ {x : Str} {i : Int}, (He.Fa.int x i).ok K = true → ∃ t, mg x = some (.int i t)
  str : ∀ {x z : Str}, (He.Fa.str x z).ok K = true → ∃ t, mg x = some (.str z t)
  tab : ∀ p ∈ tfL, LamX.TabB base mg (He.cT K p).1 (He.cT K p).2
  uniq : (tfL.map fun p => (He.cT K p).2).Nodup
  dic : ∀ t ∈ tsL, He.dicW K (He.ga K t.1) = some (He.keysIn w.params (t.2.map (·.1)))
  vals : ∀ t ∈ tsL, He.valsB K (He.ga K t.1) t.2 = true
  x : xB K = true
section
variable {P : Program} {w : World} {K : PySem.W.Frag} {mg : Str → Option Value} {base : Heap}
theorem Tp.g_LaterError (T : Tp P w K mg base) : mg "LaterError" = some (.ref (He.ga K "LaterError")) := T.glo (T.c.fact 0 (f := .glo "LaterError") rfl)
theorem Tp.g_BadPlan (T : Tp P w K mg base) : mg "BadPlan" = some (.ref (He.ga K "BadPlan")) := T.glo (T.c.fact 1 (f := .glo "BadPlan") rfl)
theorem Tp.g_BadLog (T : Tp P w K mg base) : mg "BadLog" = some (.ref (He.ga K "BadLog")) := T.glo (T.c.fact 2 (f := .glo "BadLog") rfl)
theorem Tp.g_BadText (T : Tp P w K mg base) : mg "BadText" = some (.ref (He.ga K "BadText")) := T.glo (T.c.fact 3 (f := .glo "BadText") rfl)
theorem Tp.g_BadCount (T : Tp P w K mg base) : mg "BadCount" = some (.ref (He.ga K "BadCount")) := T.glo (T.c.fact 4 (f := .glo "BadCount") rfl)
theorem Tp.g_BadTick (T : Tp P w K mg base) : mg "BadTick" = some (.ref (He.ga K "BadTick")) := T.glo (T.c.fact 5 (f := .glo "BadTick") rfl)
theorem Tp.g_BadRank (T : Tp P w K mg base) : mg "BadRank" = some (.ref (He.ga K "BadRank")) := T.glo (T.c.fact 6 (f := .glo "BadRank") rfl)
theorem Tp.g_BadSteps (T : Tp P w K mg base) : mg "BadSteps" = some (.ref (He.ga K "BadSteps")) := T.glo (T.c.fact 7 (f := .glo "BadSteps") rfl)
theorem Tp.g_BadNeeds (T : Tp P w K mg base) : mg "BadNeeds" = some (.ref (He.ga K "BadNeeds")) := T.glo (T.c.fact 8 (f := .glo "BadNeeds") rfl)
theorem Tp.g_BadTries (T : Tp P w K mg base) : mg "BadTries" = some (.ref (He.ga K "BadTries")) := T.glo (T.c.fact 9 (f := .glo "BadTries") rfl)
theorem Tp.g_BadPart (T : Tp P w K mg base) : mg "BadPart" = some (.ref (He.ga K "BadPart")) := T.glo (T.c.fact 10 (f := .glo "BadPart") rfl)
theorem Tp.g_BadName (T : Tp P w K mg base) : mg "BadName" = some (.ref (He.ga K "BadName")) := T.glo (T.c.fact 11 (f := .glo "BadName") rfl)
theorem Tp.g_BadKinds (T : Tp P w K mg base) : mg "BadKinds" = some (.ref (He.ga K "BadKinds")) := T.glo (T.c.fact 12 (f := .glo "BadKinds") rfl)
theorem Tp.g_Taken (T : Tp P w K mg base) : mg "Taken" = some (.ref (He.ga K "Taken")) := T.glo (T.c.fact 13 (f := .glo "Taken") rfl)
theorem Tp.g_NoWorker (T : Tp P w K mg base) : mg "NoWorker" = some (.ref (He.ga K "NoWorker")) := T.glo (T.c.fact 14 (f := .glo "NoWorker") rfl)
theorem Tp.g_NoKind (T : Tp P w K mg base) : mg "NoKind" = some (.ref (He.ga K "NoKind")) := T.glo (T.c.fact 15 (f := .glo "NoKind") rfl)
theorem Tp.g_NoJob (T : Tp P w K mg base) : mg "NoJob" = some (.ref (He.ga K "NoJob")) := T.glo (T.c.fact 16 (f := .glo "NoJob") rfl)
theorem Tp.g_NoLease (T : Tp P w K mg base) : mg "NoLease" = some (.ref (He.ga K "NoLease")) := T.glo (T.c.fact 17 (f := .glo "NoLease") rfl)
theorem Tp.v_LETTERS (T : Tp P w K mg base) : ∃ t, mg "LETTERS" = some (.str "abcdefghijklmnopqrstuvwxyz" t) := T.str (T.c.fact 18 (f := .str "LETTERS" "abcdefghijklmnopqrstuvwxyz") rfl)
theorem Tp.v_MOST_LETTERS (T : Tp P w K mg base) : ∃ t, mg "MOST_LETTERS" = some (.int 8 t) := T.int (T.c.fact 19 (f := .int "MOST_LETTERS" 8) rfl)
theorem Tp.g_is_name (T : Tp P w K mg base) : mg "is_name" = some (.ref (He.ga K "is_name")) := T.glo (T.c.fact 20 (f := .glo "is_name") rfl)
theorem Tp.v_FIGURES (T : Tp P w K mg base) : ∃ t, mg "FIGURES" = some (.str "0123456789" t) := T.str (T.c.fact 21 (f := .str "FIGURES" "0123456789") rfl)
theorem Tp.v_MOST_FIGURES (T : Tp P w K mg base) : ∃ t, mg "MOST_FIGURES" = some (.int 5 t) := T.int (T.c.fact 22 (f := .int "MOST_FIGURES" 5) rfl)
theorem Tp.v_LINE (T : Tp P w K mg base) : ∃ t, mg "LINE" = some (.str "\n" t) := T.str (T.c.fact 23 (f := .str "LINE" "\n") rfl)
theorem Tp.v_COMMA (T : Tp P w K mg base) : ∃ t, mg "COMMA" = some (.str "," t) := T.str (T.c.fact 24 (f := .str "COMMA" ",") rfl)
theorem Tp.v_NONE (T : Tp P w K mg base) : ∃ t, mg "NONE" = some (.str "-" t) := T.str (T.c.fact 25 (f := .str "NONE" "-") rfl)
theorem Tp.v_NUMBER (T : Tp P w K mg base) : ∃ t, mg "NUMBER" = some (.str "n" t) := T.str (T.c.fact 26 (f := .str "NUMBER" "n") rfl)
theorem Tp.v_NAME (T : Tp P w K mg base) : ∃ t, mg "NAME" = some (.str "w" t) := T.str (T.c.fact 27 (f := .str "NAME" "w") rfl)
theorem Tp.v_NUMBERS (T : Tp P w K mg base) : ∃ t, mg "NUMBERS" = some (.str "j" t) := T.str (T.c.fact 28 (f := .str "NUMBERS" "j") rfl)
theorem Tp.g_FORMS (T : Tp P w K mg base) : mg "FORMS" = some (.ref (He.ga K "FORMS")) := T.glo (T.c.fact 29 (f := .glo "FORMS") rfl)
theorem Tp.g_number_of (T : Tp P w K mg base) : mg "number_of" = some (.ref (He.ga K "number_of")) := T.glo (T.c.fact 30 (f := .glo "number_of") rfl)
theorem Tp.g_part_of (T : Tp P w K mg base) : mg "part_of" = some (.ref (He.ga K "part_of")) := T.glo (T.c.fact 31 (f := .glo "part_of") rfl)
theorem Tp.g_deed_of (T : Tp P w K mg base) : mg "deed_of" = some (.ref (He.ga K "deed_of")) := T.glo (T.c.fact 32 (f := .glo "deed_of") rfl)
theorem Tp.g_read (T : Tp P w K mg base) : mg "read" = some (.ref (He.ga K "read")) := T.glo (T.c.fact 33 (f := .glo "read") rfl)
theorem Tp.g__law_begun (T : Tp P w K mg base) : mg "_law_begun" = some (.ref (He.ga K "_law_begun")) := T.glo (T.c.fact 34 (f := .glo "_law_begun") rfl)
theorem Tp.g__law_take (T : Tp P w K mg base) : mg "_law_take" = some (.ref (He.ga K "_law_take")) := T.glo (T.c.fact 35 (f := .glo "_law_take") rfl)
theorem Tp.g__law_alike (T : Tp P w K mg base) : mg "_law_alike" = some (.ref (He.ga K "_law_alike")) := T.glo (T.c.fact 36 (f := .glo "_law_alike") rfl)
theorem Tp.g__law_told (T : Tp P w K mg base) : mg "_law_told" = some (.ref (He.ga K "_law_told")) := T.glo (T.c.fact 37 (f := .glo "_law_told") rfl)
theorem Tp.g__law_spoilt (T : Tp P w K mg base) : mg "_law_spoilt" = some (.ref (He.ga K "_law_spoilt")) := T.glo (T.c.fact 38 (f := .glo "_law_spoilt") rfl)
theorem Tp.g__law_number (T : Tp P w K mg base) : mg "_law_number" = some (.ref (He.ga K "_law_number")) := T.glo (T.c.fact 39 (f := .glo "_law_number") rfl)
theorem Tp.g__law_name (T : Tp P w K mg base) : mg "_law_name" = some (.ref (He.ga K "_law_name")) := T.glo (T.c.fact 40 (f := .glo "_law_name") rfl)
theorem Tp.g__law_part (T : Tp P w K mg base) : mg "_law_part" = some (.ref (He.ga K "_law_part")) := T.glo (T.c.fact 41 (f := .glo "_law_part") rfl)
theorem Tp.g__law_due (T : Tp P w K mg base) : mg "_law_due" = some (.ref (He.ga K "_law_due")) := T.glo (T.c.fact 42 (f := .glo "_law_due") rfl)
theorem Tp.g_law (T : Tp P w K mg base) : mg "law" = some (.ref (He.ga K "law")) := T.glo (T.c.fact 43 (f := .glo "law") rfl)
theorem Tp.f_ValueError (T : Tp P w K mg base) : mg "ValueError" = none := T.free (T.c.fact 44 (f := .free "ValueError") rfl)
theorem Tp.f_all (T : Tp P w K mg base) : mg "all" = none := T.free (T.c.fact 45 (f := .free "all") rfl)
theorem Tp.f_bool (T : Tp P w K mg base) : mg "bool" = none := T.free (T.c.fact 46 (f := .free "bool") rfl)
theorem Tp.f_enumerate (T : Tp P w K mg base) : mg "enumerate" = none := T.free (T.c.fact 47 (f := .free "enumerate") rfl)
theorem Tp.f_int (T : Tp P w K mg base) : mg "int" = none := T.free (T.c.fact 48 (f := .free "int") rfl)
theorem Tp.f_isinstance (T : Tp P w K mg base) : mg "isinstance" = none := T.free (T.c.fact 49 (f := .free "isinstance") rfl)
theorem Tp.f_len (T : Tp P w K mg base) : mg "len" = none := T.free (T.c.fact 50 (f := .free "len") rfl)
theorem Tp.f_list (T : Tp P w K mg base) : mg "list" = none := T.free (T.c.fact 51 (f := .free "list") rfl)
theorem Tp.f_max (T : Tp P w K mg base) : mg "max" = none := T.free (T.c.fact 52 (f := .free "max") rfl)
theorem Tp.f_range (T : Tp P w K mg base) : mg "range" = none := T.free (T.c.fact 53 (f := .free "range") rfl)
theorem Tp.f_str (T : Tp P w K mg base) : mg "str" = none := T.free (T.c.fact 54 (f := .free "str") rfl)
theorem Tp.f_tuple (T : Tp P w K mg base) : mg "tuple" = none := T.free (T.c.fact 55 (f := .free "tuple") rfl)
theorem Tp.f_zip (T : Tp P w K mg base) : mg "zip" = none := T.free (T.c.fact 56 (f := .free "zip") rfl)
theorem Tp.x_LaterError (T : Tp P w K mg base) : PySem.W.excIn K (He.ga K "LaterError") He.veBase "ValueError.__new__" = true ∧ PySem.W.keepIn K (.ref (He.ga K "LaterError")) = true ∧ PySem.W.subIn K (.ref (He.ga K "LaterError")) (.type "BaseException") = some true ∧ PySem.W.typeIn K (.ref (He.ga K "LaterError")) = some (.type "type") := He.exc_ok (T.c.fact 57 (f := .exc "LaterError") rfl)
theorem Tp.e_BadPlan (T : Tp P w K mg base) : PySem.W.exmOne K (.ref (He.ga K "BadPlan")) (.ref (He.ga K "LaterError")) = some true := He.exm_ok (T.c.fact 58 (f := .exm "BadPlan" "LaterError" true) rfl)
theorem Tp.e_BadLog (T : Tp P w K mg base) : PySem.W.exmOne K (.ref (He.ga K "BadLog")) (.ref (He.ga K "LaterError")) = some true := He.exm_ok (T.c.fact 59 (f := .exm "BadLog" "LaterError" true) rfl)
theorem Tp.e_BadText (T : Tp P w K mg base) : PySem.W.exmOne K (.ref (He.ga K "BadText")) (.ref (He.ga K "LaterError")) = some true := He.exm_ok (T.c.fact 60 (f := .exm "BadText" "LaterError" true) rfl)
theorem Tp.x_BadCount (T : Tp P w K mg base) : PySem.W.excIn K (He.ga K "BadCount") He.veBase "ValueError.__new__" = true ∧ PySem.W.keepIn K (.ref (He.ga K "BadCount")) = true ∧ PySem.W.subIn K (.ref (He.ga K "BadCount")) (.type "BaseException") = some true ∧ PySem.W.typeIn K (.ref (He.ga K "BadCount")) = some (.type "type") := He.exc_ok (T.c.fact 61 (f := .exc "BadCount") rfl)
theorem Tp.e_BadCount (T : Tp P w K mg base) : PySem.W.exmOne K (.ref (He.ga K "BadCount")) (.ref (He.ga K "LaterError")) = some true := He.exm_ok (T.c.fact 62 (f := .exm "BadCount" "LaterError" true) rfl)
theorem Tp.x_BadTick (T : Tp P w K mg base) : PySem.W.excIn K (He.ga K "BadTick") He.veBase "ValueError.__new__" = true ∧ PySem.W.keepIn K (.ref (He.ga K "BadTick")) = true ∧ PySem.W.subIn K (.ref (He.ga K "BadTick")) (.type "BaseException") = some true ∧ PySem.W.typeIn K (.ref (He.ga K "BadTick")) = some (.type "type") := He.exc_ok (T.c.fact 63 (f := .exc "BadTick") rfl)
theorem Tp.e_BadTick (T : Tp P w K mg base) : PySem.W.exmOne K (.ref (He.ga K "BadTick")) (.ref (He.ga K "LaterError")) = some true := He.exm_ok (T.c.fact 64 (f := .exm "BadTick" "LaterError" true) rfl)
theorem Tp.x_BadRank (T : Tp P w K mg base) : PySem.W.excIn K (He.ga K "BadRank") He.veBase "ValueError.__new__" = true ∧ PySem.W.keepIn K (.ref (He.ga K "BadRank")) = true ∧ PySem.W.subIn K (.ref (He.ga K "BadRank")) (.type "BaseException") = some true ∧ PySem.W.typeIn K (.ref (He.ga K "BadRank")) = some (.type "type") := He.exc_ok (T.c.fact 65 (f := .exc "BadRank") rfl)
theorem Tp.e_BadRank (T : Tp P w K mg base) : PySem.W.exmOne K (.ref (He.ga K "BadRank")) (.ref (He.ga K "LaterError")) = some true := He.exm_ok (T.c.fact 66 (f := .exm "BadRank" "LaterError" true) rfl)
theorem Tp.x_BadSteps (T : Tp P w K mg base) : PySem.W.excIn K (He.ga K "BadSteps") He.veBase "ValueError.__new__" = true ∧ PySem.W.keepIn K (.ref (He.ga K "BadSteps")) = true ∧ PySem.W.subIn K (.ref (He.ga K "BadSteps")) (.type "BaseException") = some true ∧ PySem.W.typeIn K (.ref (He.ga K "BadSteps")) = some (.type "type") := He.exc_ok (T.c.fact 67 (f := .exc "BadSteps") rfl)
theorem Tp.e_BadSteps (T : Tp P w K mg base) : PySem.W.exmOne K (.ref (He.ga K "BadSteps")) (.ref (He.ga K "LaterError")) = some true := He.exm_ok (T.c.fact 68 (f := .exm "BadSteps" "LaterError" true) rfl)
theorem Tp.x_BadNeeds (T : Tp P w K mg base) : PySem.W.excIn K (He.ga K "BadNeeds") He.veBase "ValueError.__new__" = true ∧ PySem.W.keepIn K (.ref (He.ga K "BadNeeds")) = true ∧ PySem.W.subIn K (.ref (He.ga K "BadNeeds")) (.type "BaseException") = some true ∧ PySem.W.typeIn K (.ref (He.ga K "BadNeeds")) = some (.type "type") := He.exc_ok (T.c.fact 69 (f := .exc "BadNeeds") rfl)
theorem Tp.e_BadNeeds (T : Tp P w K mg base) : PySem.W.exmOne K (.ref (He.ga K "BadNeeds")) (.ref (He.ga K "LaterError")) = some true := He.exm_ok (T.c.fact 70 (f := .exm "BadNeeds" "LaterError" true) rfl)
theorem Tp.x_BadTries (T : Tp P w K mg base) : PySem.W.excIn K (He.ga K "BadTries") He.veBase "ValueError.__new__" = true ∧ PySem.W.keepIn K (.ref (He.ga K "BadTries")) = true ∧ PySem.W.subIn K (.ref (He.ga K "BadTries")) (.type "BaseException") = some true ∧ PySem.W.typeIn K (.ref (He.ga K "BadTries")) = some (.type "type") := He.exc_ok (T.c.fact 71 (f := .exc "BadTries") rfl)
theorem Tp.e_BadTries (T : Tp P w K mg base) : PySem.W.exmOne K (.ref (He.ga K "BadTries")) (.ref (He.ga K "LaterError")) = some true := He.exm_ok (T.c.fact 72 (f := .exm "BadTries" "LaterError" true) rfl)
theorem Tp.x_BadPart (T : Tp P w K mg base) : PySem.W.excIn K (He.ga K "BadPart") He.veBase "ValueError.__new__" = true ∧ PySem.W.keepIn K (.ref (He.ga K "BadPart")) = true ∧ PySem.W.subIn K (.ref (He.ga K "BadPart")) (.type "BaseException") = some true ∧ PySem.W.typeIn K (.ref (He.ga K "BadPart")) = some (.type "type") := He.exc_ok (T.c.fact 73 (f := .exc "BadPart") rfl)
theorem Tp.e_BadPart (T : Tp P w K mg base) : PySem.W.exmOne K (.ref (He.ga K "BadPart")) (.ref (He.ga K "LaterError")) = some true := He.exm_ok (T.c.fact 74 (f := .exm "BadPart" "LaterError" true) rfl)
theorem Tp.x_BadName (T : Tp P w K mg base) : PySem.W.excIn K (He.ga K "BadName") He.veBase "ValueError.__new__" = true ∧ PySem.W.keepIn K (.ref (He.ga K "BadName")) = true ∧ PySem.W.subIn K (.ref (He.ga K "BadName")) (.type "BaseException") = some true ∧ PySem.W.typeIn K (.ref (He.ga K "BadName")) = some (.type "type") := He.exc_ok (T.c.fact 75 (f := .exc "BadName") rfl)
theorem Tp.e_BadName (T : Tp P w K mg base) : PySem.W.exmOne K (.ref (He.ga K "BadName")) (.ref (He.ga K "LaterError")) = some true := He.exm_ok (T.c.fact 76 (f := .exm "BadName" "LaterError" true) rfl)
theorem Tp.x_BadKinds (T : Tp P w K mg base) : PySem.W.excIn K (He.ga K "BadKinds") He.veBase "ValueError.__new__" = true ∧ PySem.W.keepIn K (.ref (He.ga K "BadKinds")) = true ∧ PySem.W.subIn K (.ref (He.ga K "BadKinds")) (.type "BaseException") = some true ∧ PySem.W.typeIn K (.ref (He.ga K "BadKinds")) = some (.type "type") := He.exc_ok (T.c.fact 77 (f := .exc "BadKinds") rfl)
theorem Tp.e_BadKinds (T : Tp P w K mg base) : PySem.W.exmOne K (.ref (He.ga K "BadKinds")) (.ref (He.ga K "LaterError")) = some true := He.exm_ok (T.c.fact 78 (f := .exm "BadKinds" "LaterError" true) rfl)
theorem Tp.x_Taken (T : Tp P w K mg base) : PySem.W.excIn K (He.ga K "Taken") He.veBase "ValueError.__new__" = true ∧ PySem.W.keepIn K (.ref (He.ga K "Taken")) = true ∧ PySem.W.subIn K (.ref (He.ga K "Taken")) (.type "BaseException") = some true ∧ PySem.W.typeIn K (.ref (He.ga K "Taken")) = some (.type "type") := He.exc_ok (T.c.fact 79 (f := .exc "Taken") rfl)
theorem Tp.e_Taken (T : Tp P w K mg base) : PySem.W.exmOne K (.ref (He.ga K "Taken")) (.ref (He.ga K "LaterError")) = some true := He.exm_ok (T.c.fact 80 (f := .exm "Taken" "LaterError" true) rfl)
theorem Tp.x_NoWorker (T : Tp P w K mg base) : PySem.W.excIn K (He.ga K "NoWorker") He.veBase "ValueError.__new__" = true ∧ PySem.W.keepIn K (.ref (He.ga K "NoWorker")) = true ∧ PySem.W.subIn K (.ref (He.ga K "NoWorker")) (.type "BaseException") = some true ∧ PySem.W.typeIn K (.ref (He.ga K "NoWorker")) = some (.type "type") := He.exc_ok (T.c.fact 81 (f := .exc "NoWorker") rfl)
theorem Tp.e_NoWorker (T : Tp P w K mg base) : PySem.W.exmOne K (.ref (He.ga K "NoWorker")) (.ref (He.ga K "LaterError")) = some true := He.exm_ok (T.c.fact 82 (f := .exm "NoWorker" "LaterError" true) rfl)
theorem Tp.x_NoKind (T : Tp P w K mg base) : PySem.W.excIn K (He.ga K "NoKind") He.veBase "ValueError.__new__" = true ∧ PySem.W.keepIn K (.ref (He.ga K "NoKind")) = true ∧ PySem.W.subIn K (.ref (He.ga K "NoKind")) (.type "BaseException") = some true ∧ PySem.W.typeIn K (.ref (He.ga K "NoKind")) = some (.type "type") := He.exc_ok (T.c.fact 83 (f := .exc "NoKind") rfl)
theorem Tp.e_NoKind (T : Tp P w K mg base) : PySem.W.exmOne K (.ref (He.ga K "NoKind")) (.ref (He.ga K "LaterError")) = some true := He.exm_ok (T.c.fact 84 (f := .exm "NoKind" "LaterError" true) rfl)
theorem Tp.x_NoJob (T : Tp P w K mg base) : PySem.W.excIn K (He.ga K "NoJob") He.veBase "ValueError.__new__" = true ∧ PySem.W.keepIn K (.ref (He.ga K "NoJob")) = true ∧ PySem.W.subIn K (.ref (He.ga K "NoJob")) (.type "BaseException") = some true ∧ PySem.W.typeIn K (.ref (He.ga K "NoJob")) = some (.type "type") := He.exc_ok (T.c.fact 85 (f := .exc "NoJob") rfl)
theorem Tp.e_NoJob (T : Tp P w K mg base) : PySem.W.exmOne K (.ref (He.ga K "NoJob")) (.ref (He.ga K "LaterError")) = some true := He.exm_ok (T.c.fact 86 (f := .exm "NoJob" "LaterError" true) rfl)
theorem Tp.x_NoLease (T : Tp P w K mg base) : PySem.W.excIn K (He.ga K "NoLease") He.veBase "ValueError.__new__" = true ∧ PySem.W.keepIn K (.ref (He.ga K "NoLease")) = true ∧ PySem.W.subIn K (.ref (He.ga K "NoLease")) (.type "BaseException") = some true ∧ PySem.W.typeIn K (.ref (He.ga K "NoLease")) = some (.type "type") := He.exc_ok (T.c.fact 87 (f := .exc "NoLease") rfl)
theorem Tp.e_NoLease (T : Tp P w K mg base) : PySem.W.exmOne K (.ref (He.ga K "NoLease")) (.ref (He.ga K "LaterError")) = some true := He.exm_ok (T.c.fact 88 (f := .exm "NoLease" "LaterError" true) rfl)
theorem Tp.fd_BadPlan___init__ (T : Tp P w K mg base) : ∃ fd, FunD K "__init__" "BadPlan.__init__" (defArgs s_BadPlan___init__) (defBody s_BadPlan___init__) (defScope s_BadPlan___init__) (He.DefD.dvs K d_BadPlan___init__) (He.DefD.kws K d_BadPlan___init__) (He.ma K (He.ga K "BadPlan") "__init__") fd := T.c.def_ 0 (d := d_BadPlan___init__) rfl
theorem Tp.fd_BadLog___init__ (T : Tp P w K mg base) : ∃ fd, FunD K "__init__" "BadLog.__init__" (defArgs s_BadLog___init__) (defBody s_BadLog___init__) (defScope s_BadLog___init__) (He.DefD.dvs K d_BadLog___init__) (He.DefD.kws K d_BadLog___init__) (He.ma K (He.ga K "BadLog") "__init__") fd := T.c.def_ 1 (d := d_BadLog___init__) rfl
theorem Tp.fd_BadText___init__ (T : Tp P w K mg base) : ∃ fd, FunD K "__init__" "BadText.__init__" (defArgs s_BadText___init__) (defBody s_BadText___init__) (defScope s_BadText___init__) (He.DefD.dvs K d_BadText___init__) (He.DefD.kws K d_BadText___init__) (He.ma K (He.ga K "BadText") "__init__") fd := T.c.def_ 2 (d := d_BadText___init__) rfl
theorem Tp.fd_is_name (T : Tp P w K mg base) : ∃ fd, FunD K "is_name" "is_name" (defArgs s_is_name) (defBody s_is_name) (defScope s_is_name) (He.DefD.dvs K d_is_name) (He.DefD.kws K d_is_name) (He.ga K "is_name") fd := T.c.def_ 3 (d := d_is_name) rfl
theorem Tp.fd_number_of (T : Tp P w K mg base) : ∃ fd, FunD K "number_of" "number_of" (defArgs s_number_of) (defBody s_number_of) (defScope s_number_of) (He.DefD.dvs K d_number_of) (He.DefD.kws K d_number_of) (He.ga K "number_of") fd := T.c.def_ 4 (d := d_number_of) rfl
theorem Tp.fd_part_of (T : Tp P w K mg base) : ∃ fd, FunD K "part_of" "part_of" (defArgs s_part_of) (defBody s_part_of) (defScope s_part_of) (He.DefD.dvs K d_part_of) (He.DefD.kws K d_part_of) (He.ga K "part_of") fd := T.c.def_ 5 (d := d_part_of) rfl
theorem Tp.fd_deed_of (T : Tp P w K mg base) : ∃ fd, FunD K "deed_of" "deed_of" (defArgs s_deed_of) (defBody s_deed_of) (defScope s_deed_of) (He.DefD.dvs K d_deed_of) (He.DefD.kws K d_deed_of) (He.ga K "deed_of") fd := T.c.def_ 6 (d := d_deed_of) rfl
theorem Tp.fd_read (T : Tp P w K mg base) : ∃ fd, FunD K "read" "read" (defArgs s_read) (defBody s_read) (defScope s_read) (He.DefD.dvs K d_read) (He.DefD.kws K d_read) (He.ga K "read") fd := T.c.def_ 7 (d := d_read) rfl
theorem Tp.fd__law_begun (T : Tp P w K mg base) : ∃ fd, FunD K "_law_begun" "_law_begun" (defArgs s__law_begun) (defBody s__law_begun) (defScope s__law_begun) (He.DefD.dvs K d__law_begun) (He.DefD.kws K d__law_begun) (He.ga K "_law_begun") fd := T.c.def_ 8 (d := d__law_begun) rfl
theorem Tp.fd__law_take (T : Tp P w K mg base) : ∃ fd, FunD K "_law_take" "_law_take" (defArgs s__law_take) (defBody s__law_take) (defScope s__law_take) (He.DefD.dvs K d__law_take) (He.DefD.kws K d__law_take) (He.ga K "_law_take") fd := T.c.def_ 9 (d := d__law_take) rfl
theorem Tp.fd__law_alike (T : Tp P w K mg base) : ∃ fd, FunD K "_law_alike" "_law_alike" (defArgs s__law_alike) (defBody s__law_alike) (defScope s__law_alike) (He.DefD.dvs K d__law_alike) (He.DefD.kws K d__law_alike) (He.ga K "_law_alike") fd := T.c.def_ 10 (d := d__law_alike) rfl
theorem Tp.fd__law_told (T : Tp P w K mg base) : ∃ fd, FunD K "_law_told" "_law_told" (defArgs s__law_told) (defBody s__law_told) (defScope s__law_told) (He.DefD.dvs K d__law_told) (He.DefD.kws K d__law_told) (He.ga K "_law_told") fd := T.c.def_ 11 (d := d__law_told) rfl
theorem Tp.fd__law_spoilt (T : Tp P w K mg base) : ∃ fd, FunD K "_law_spoilt" "_law_spoilt" (defArgs s__law_spoilt) (defBody s__law_spoilt) (defScope s__law_spoilt) (He.DefD.dvs K d__law_spoilt) (He.DefD.kws K d__law_spoilt) (He.ga K "_law_spoilt") fd := T.c.def_ 12 (d := d__law_spoilt) rfl
theorem Tp.fd__law_number (T : Tp P w K mg base) : ∃ fd, FunD K "_law_number" "_law_number" (defArgs s__law_number) (defBody s__law_number) (defScope s__law_number) (He.DefD.dvs K d__law_number) (He.DefD.kws K d__law_number) (He.ga K "_law_number") fd := T.c.def_ 13 (d := d__law_number) rfl
theorem Tp.fd__law_name (T : Tp P w K mg base) : ∃ fd, FunD K "_law_name" "_law_name" (defArgs s__law_name) (defBody s__law_name) (defScope s__law_name) (He.DefD.dvs K d__law_name) (He.DefD.kws K d__law_name) (He.ga K "_law_name") fd := T.c.def_ 14 (d := d__law_name) rfl
theorem Tp.fd__law_part (T : Tp P w K mg base) : ∃ fd, FunD K "_law_part" "_law_part" (defArgs s__law_part) (defBody s__law_part) (defScope s__law_part) (He.DefD.dvs K d__law_part) (He.DefD.kws K d__law_part) (He.ga K "_law_part") fd := T.c.def_ 15 (d := d__law_part) rfl
theorem Tp.fd__law_due (T : Tp P w K mg base) : ∃ fd, FunD K "_law_due" "_law_due" (defArgs s__law_due) (defBody s__law_due) (defScope s__law_due) (He.DefD.dvs K d__law_due) (He.DefD.kws K d__law_due) (He.ga K "_law_due") fd := T.c.def_ 16 (d := d__law_due) rfl
theorem Tp.fd_law (T : Tp P w K mg base) : ∃ fd, FunD K "law" "law" (defArgs s_law) (defBody s_law) (defScope s_law) (He.DefD.dvs K d_law) (He.DefD.kws K d_law) (He.ga K "law") fd := T.c.def_ 17 (d := d_law) rfl
end
end LH
end

section
set_option Elab.async false
set_option linter.all false
set_option maxRecDepth 100000
set_option maxHeartbeats 0
namespace LH
open PySem PySem.Spec PyProof.Rows L2
def nms0 : List Str := ["LaterError", "BadPlan", "BadLog", "BadText", "BadCount", "BadTick", "BadRank", "BadSteps", "BadNeeds", "BadTries", "BadPart", "BadName", "BadKinds", "Taken", "NoWorker", "NoKind", "NoJob", "NoLease", "LETTERS", "MOST_LETTERS", "is_name", "FIGURES", "MOST_FIGURES", "LINE", "COMMA", "NONE", "NUMBER", "NAME", "NUMBERS", "FORMS"]
def nms1 : List Str := ["number_of", "part_of", "deed_of", "read", "_law_begun", "_law_take", "_law_alike", "_law_told", "_law_spoilt", "_law_number", "_law_name", "_law_part", "_law_due"]
def nms : List Str := nms0 ++ nms1
/-! ### the part of the heap that the facts are read off: the module's names, then three steps down; empty tables are left out -/
def refsF (o : Obj) : List Addr := match o.data with
  | .dict es _ => es.toList.flatMap fun e => He.refV e.val
  | .func fd => He.refV fd.code ++ (He.refV fd.defaults ++ He.refV fd.kwdefaults)
  | .cls cd => [cd.ns]
  | .seq its _ => its.toList.flatMap He.refV
  | _ => []
def stepF (g : Addr → Option Obj) (as : List Addr) : List Addr := as.flatMap fun a => match g a with
  | some o => refsF o
  | none => []
def asF (g : Addr → Option Obj) : Nat → List Addr → List Addr
  | 0, l => l
  | n + 1, l => l ++ asF g n (stepF g l)
def KF (g : Addr → Option Obj) : PySem.W.Frag := He.frG g (cStatics :: asF g 4 [mainGlobals])
/-- a def's table of code objects is empty, is told by its code object, is no part of K -/
def tabOne (g : Addr → Option Obj) (K : PySem.W.Frag) (p : He.Defn) : Bool := PySem.W.codeHdIn K (He.cT K p).1 (He.cT K p).2 && ((K.lookup (He.cT K p).2).isNone && (match g (He.cT K p).2 with
  | some o => He.emptyTab o
  | none => false))
def tabAll (g : Addr → Option Obj) (K : PySem.W.Frag) (tf : List He.Defn) : Bool := (tf.all (tabOne g K)) && decide ((tf.map fun p => (He.cT K p).2).Nodup)
def obF (fa : List He.Fa) (fn : List He.DefD) (tf : List He.Defn) (g : Addr → Option Obj) : He.AlD × Bool := (He.obsD fa fn (KF g), tabAll g (KF g) tf)
/-- what the head says of K -/
structure SaysF (fa : List He.Fa) (fn : List He.DefD) (tf : List He.Defn) (h : Heap) (K : PySem.W.Frag) : Prop where
  d : He.SaysD fa fn K
  hd : ∀ p ∈ tf, PySem.W.codeHdIn K (He.cT K p).1 (He.cT K p).2 = true
  out : ∀ p ∈ tf, K.lookup (He.cT K p).2 = none
  empty : ∀ p ∈ tf, h.get? (He.cT K p).2 = some { cls := .none, data := .fields #[] }
  uniq : (tf.map fun p => (He.cT K p).2).Nodup
theorem saysF_of {fa : List He.Fa} {fn : List He.DefD} {tf : List He.Defn} {h : Heap} (e : obF fa fn tf h.get? = (He.valD fn, true)) : SaysF fa fn tf h (KF h.get?) := by
  have e1 : He.SaysD fa fn (KF h.get?) := congrArg Prod.fst e
  have e2 : tabAll h.get? (KF h.get?) tf = true := congrArg Prod.snd e
  obtain ⟨h1, h2⟩ := He.ba e2
  have one : ∀ p ∈ tf, tabOne h.get? (KF h.get?) p = true := List.all_eq_true.mp h1
  refine ⟨e1, fun p hp => (He.ba (one p hp)).1, fun p hp => ?_, fun p hp => ?_, of_decide_eq_true h2⟩
  · exact Option.isNone_iff_eq_none.mp (He.ba (He.ba (one p hp)).2).1
  · have z := (He.ba (He.ba (one p hp)).2).2
    cases q : h.get? (He.cT (KF h.get?) p).2 with
    | none =>
      rw [q] at z
      cases z
    | some o =>
      rw [q] at z
      rw [He.emptyTab_eq (show He.emptyTab o = true from z)]
def hookF (fa : List He.Fa) (fn : List He.DefD) (tf : List He.Defn) : PySem.W.Hook where
  α := He.AlD × Bool
  obs := fun s => obF fa fn tf s.heap.get?
  val := fun _ => (He.valD fn, true)
  says := fun _ h => ∃ K : PySem.W.Frag, K.In h ∧ SaysF fa fn tf h K
  of := fun _ _ e => ⟨_, He.frG_in, saysF_of e⟩
  keeps := fun _ _ _ ⟨K, hK, c⟩ k => ⟨K, PySem.W.Frag.In.keeps hK k, ⟨c.d, c.hd, c.out, fun p hp => k _ _ (c.empty p hp), c.uniq⟩⟩
theorem obF_eq {fa : List He.Fa} {fn : List He.DefD} {tf : List He.Defn} {g : Addr → Option Obj} {s : Shared} (h : ∀ a, g a = s.heap.get? a) : obF fa fn tf g = (hookF fa fn tf).obs s := by
  rw [show g = s.heap.get? from funext h]
  rfl

/-! with tables that have text keys, and own exceptions -/
abbrev AlX : Type := (He.AlD × Bool) × ((Bool × Bool) × List (Option (List (Option (Str × Int)))))
def obX (fa : List He.Fa) (fn : List He.DefD) (tf : List He.Defn) (ts : List (Str × List (Str × He.Dv))) (g : Addr → Option Obj) : AlX :=
  (obF fa fn tf g, ((ts.all (fun t => He.valsB (KF g) (He.ga (KF g) t.1) t.2), xB (KF g)), ts.map fun t => He.dicW (KF g) (He.ga (KF g) t.1)))
structure SaysX (fa : List He.Fa) (fn : List He.DefD) (tf : List He.Defn) (ts : List (Str × List (Str × He.Dv))) (w : World) (h : Heap) (K : PySem.W.Frag) : Prop extends SaysF fa fn tf h K where
  dic : ∀ t ∈ ts, He.dicW K (He.ga K t.1) = some (He.keysIn w.params (t.2.map (·.1)))
  vals : ∀ t ∈ ts, He.valsB K (He.ga K t.1) t.2 = true
  x : xB K = true
theorem map_eq_at {α β : Type} {f g : α → β} : ∀ {l : List α}, l.map f = l.map g → ∀ a ∈ l, f a = g a
  | [], _, a, h => nomatch h
  | x :: l, e, a, h => by
    rw [List.map_cons, List.map_cons] at e
    injection e with e1 e2
    rcases List.mem_cons.mp h with z | z
    · rw [z]
      exact e1
    · exact map_eq_at e2 a z
theorem saysX_of {fa : List He.Fa} {fn : List He.DefD} {tf : List He.Defn} {ts : List (Str × List (Str × He.Dv))} {w : World} {h : Heap} (e : obX fa fn tf ts h.get? = ((He.valD fn, true), ((true, true), ts.map fun t => some (He.keysIn w.params (t.2.map (·.1)))))) : SaysX fa fn tf ts w h (KF h.get?) := by
  have e1 : obF fa fn tf h.get? = (He.valD fn, true) := congrArg Prod.fst e
  have e2 : ts.all (fun t => He.valsB (KF h.get?) (He.ga (KF h.get?) t.1) t.2) = true := congrArg (fun z : AlX => z.2.1.1) e
  have e4 : xB (KF h.get?) = true := congrArg (fun z : AlX => z.2.1.2) e
  have e3 : (ts.map fun t => He.dicW (KF h.get?) (He.ga (KF h.get?) t.1)) = ts.map fun t => some (He.keysIn w.params (t.2.map (·.1))) := congrArg (fun z : AlX => z.2.2) e
  exact ⟨saysF_of e1, map_eq_at e3, List.all_eq_true.mp e2, e4⟩
def hookX (fa : List He.Fa) (fn : List He.DefD) (tf : List He.Defn) (ts : List (Str × List (Str × He.Dv))) : PySem.W.Hook where
  α := AlX
  obs := fun s => obX fa fn tf ts s.heap.get?
  val := fun w => ((He.valD fn, true), ((true, true), ts.map fun t => some (He.keysIn w.params (t.2.map (·.1)))))
  says := fun w h => ∃ K : PySem.W.Frag, K.In h ∧ SaysX fa fn tf ts w h K
  of := fun _ _ e => ⟨_, He.frG_in, saysX_of e⟩
  keeps := fun _ _ _ ⟨K, hK, c⟩ k => ⟨K, PySem.W.Frag.In.keeps hK k, ⟨⟨c.d, c.hd, c.out, fun p hp => k _ _ (c.empty p hp), c.uniq⟩, c.dic, c.vals, c.x⟩⟩
theorem obX_eq {fa : List He.Fa} {fn : List He.DefD} {tf : List He.Defn} {ts : List (Str × List (Str × He.Dv))} {g : Addr → Option Obj} {s : Shared} (h : ∀ a, g a = s.heap.get? a) : obX fa fn tf ts g = (hookX fa fn tf ts).obs s := by
  rw [show g = s.heap.get? from funext h]
  rfl
def wF (w : World) (b : Bool) : World := { w with params := { w.params with followText := fun s => match decide (s = "special-get-raises") with | true => b | false => w.params.followText s } }
theorem wF_eq (w : World) : wF w (w.params.followText "special-get-raises") = w := by
  have e : (fun s => match decide (s = "special-get-raises") with | true => w.params.followText "special-get-raises" | false => w.params.followText s) = w.params.followText := by
    funext s
    by_cases h : s = "special-get-raises"
    · rw [h]
      rfl
    · rw [decide_eq_false h]
  show ({ w with params := { w.params with followText := fun s => match decide (s = "special-get-raises") with | true => w.params.followText "special-get-raises" | false => w.params.followText s } } : World) = w
  rw [e]

abbrev R : PySem.W.OpenRow := PySem.W.OpenLaw.row PySem.Challenge.rw_laterhouse_k15_texts_refused
abbrev hk : PySem.W.Hook := hookX faL fnL tfL tsL
def ob (s : PySem.W.SharedT) : AlX := obX faL fnL tfL tsL (HandSHeadRun.getT s)
theorem ob_eq (s : PySem.W.SharedT) : ob s = hk.obs s.abs := obX_eq (HandSHeadRun.getT_eq s)
theorem runT (w : World) : HandSHeadRun.RunEq R (PySem.W.view R.prog [47]) hk ob 20000 nms (wF w true) := by
  intro os
  kernel_rfl
theorem runN (w : World) : HandSHeadRun.RunEq R (PySem.W.view R.prog [47]) hk ob 20000 nms (wF w false) := by
  intro os
  kernel_rfl
theorem run (w : World) : HandSHeadRun.RunEq R (PySem.W.view R.prog [47]) hk ob 20000 nms w := by
  rw [← wF_eq w]
  cases w.params.followText "special-get-raises" with
  | true => exact runT w
  | false => exact runN w
end LH
end

section
set_option Elab.async false
set_option linter.all false
set_option maxRecDepth 100000
set_option maxHeartbeats 4000000
/-! rules of our own over the hand layer -/
namespace LH
open PySem PySem.Spec PyProof.Rows L2

/-! ### what a def lets out goes on outside -/
/-- a body's context, as FunD.ok makes it -/
abbrev XB (P : Program) (w : World) (K : PySem.W.Frag) (mg : Str → Option Value) (base : Heap) (N : List Str) (q : Str) (sc : Scope) (f : Addr) (cd : Value) (A : Around) (outer : List Env) (s : Shared) (H : Hp) (E : XK) : Cx :=
  cxOf (L2.CX P w) P w K mg base N q sc f cd A outer s H E
theorem passE {P : Program} {w : World} {K : PySem.W.Frag} {mg : Str → Option Value} {base : Heap} {N : List Str} {q : Str} {sc : Scope} {f : Addr} {cd : Value} {A : Around} {outer : List Env} {s : Shared} {H : Hp} {E : XK} :
    Passes (L2.CX P w) (XB P w K mg base N q sc f cd A outer s H E) E :=
  passes_call (X := XB P w K mg base N q sc f cd A outer s H E) (W := fun cls d _ H => E cls d H) (takes_of rfl rfl rfl rfl) fun _ _ _ _ h => h
theorem takesE {P : Program} {w : World} {K : PySem.W.Frag} {mg : Str → Option Value} {base : Heap} {N : List Str} {q : Str} {sc : Scope} {f : Addr} {cd : Value} {A : Around} {outer : List Env} {s : Shared} {H : Hp} {E : XK} :
    Takes (XB P w K mg base N q sc f cd A outer s H E) (fun cls d _ H => E cls d H) := takes_of rfl rfl rfl rfl
theorem passOwnE {P : Program} {w : World} {K : PySem.W.Frag} {mg : Str → Option Value} {base : Heap} {N : List Str} {q : Str} {sc : Scope} {f : Addr} {cd : Value} {A : Around} {outer : List Env} {s : Shared} {H : Hp} {E : XK} :
    PassesOwn (model P w) (XB P w K mg base N q sc f cd A outer s H E).A (XB P w K mg base N q sc f cd A outer s H E).env (XB P w K mg base N q sc f cd A outer s H E).xe := passes_of (X := XB P w K mg base N q sc f cd A outer s H E) rfl
section
variable {X : Cx} {CX : CXT} {k n : Nat} {f C : Addr} {fd : FuncData} {ps ks : List Str} {sp : Sp} {E : XK} {m : Str} {p pos apos : Pos} {e o : Expr} {es : List Expr} {kws : List Keyword} {ta : TE} {t tk : TA} {g : List Value → List Value → List Value} {gV : List V → List V → List V}
/-- o.m(e, .., k = v, ..) -/
def tMethN (C : Addr) (m : Str) (n j : Nat) (sp : Sp) (gV : List V → List V → List V) (E : XK) (ta : TE) (t tk : TA) : TE := fun σ H Q => ta σ H fun x H0 => ∃ a dx fs, x = .ref a ∧ H0 a = some (.ins C dx fs) ∧ fs.lookup m = none ∧
  t σ H0 fun vs H1 => tk σ H1 fun zs H2 => vs.length = n ∧ zs.length = j ∧ sp (gV (x :: vs) zs) H2 Q E
theorem pe_methN {pl : Sem Bool} (he : PE X o ta) (c : Cls X.K C) (hm : Meth X.K C m f) (F : FnOk X.prog X.w X.K X.mg X.base CX k f fd ps sp) (hr : Room k X.A) (hb : KBn X.K fd ps (n + 1) ks g gV) (hx : Passes CX X E) (ha : PA X (e :: es) t) (hkw : PK X kws tk)
    (hall : (backToKw pos (keywordEach kws X.env)).all (·.1.isSome) = true := by rfl) (hks : (backToKw pos (keywordEach kws X.env)).filterMap (·.1) = ks := by rfl)
    (hst : starEach (e :: es) X.env = (false, eval e X.env) :: starEach es X.env := by rfl) (hpl : ((backTo pos (starEach (e :: es) X.env)).any (·.1) || (backToKw pos (keywordEach kws X.env)).any (·.1.isNone)) = false := by rfl)
    (ht : eval (.Call (.Attribute o m apos) (e :: es) kws pos) X.env = (do
      let ov ← eval o X.env
      standAt apos.atName
      let (f, first) ← holding [ov] (getMethod ov m pl)
      callWith pos f first (backTo pos (starEach (e :: es) X.env)) (backToKw pos (keywordEach kws X.env))) := by rfl) :
    PE X (.Call (.Attribute o m apos) (e :: es) kws pos) (tMethN C m n ks.length sp gV E ta t tk) := by
  refine ⟨fun pins s σ H Q I h => ?_⟩
  refine PySem.W.methodCall_KW (pl := pl) (thn (he.run pins s σ H _ I h) fun u s0 ⟨x, H0, I0, rx, a, dx, fs, ex, ea, l, q0⟩ => ?_) ht
  subst ex
  obtain rfl : u = Value.ref a := rx
  refine getmeth_ok I0 ea c hm l ?_
  refine PySem.W.callWith_KW (first := [.ref a]) (h₀ := X.base) I0.ok.mod.kin hm.kp hall (thn (ha.run pos pins s0 σ H0 _ I0 q0) fun us s1 ⟨vs, H1, I1, r1, q1⟩ => ?_) hpl hst
  refine thn (hkw.run pos pins s1 σ H1 _ I1 q1) fun ws s2 ⟨zs, H2, I2, r2, l1, l2, q2⟩ => ⟨I2.kIn, ?_⟩
  rw [hks]
  exact run_fnN (us := .ref a :: us) (vs := V.ref a :: vs) F hr hb hx I2 (.cons rfl r1) r2 (by rw [List.length_cons, l1]) l2 q2
/-- xs[i] op= e, xs a list, i not below 0 -/
theorem pget_list : PGet X (fun x y H Q => ∃ (a : Addr) (xs : List V) (i : Nat) (v : V), x = .ref a ∧ y = .int (i : Int) ∧ SqL X.K H a xs ∧ xs[i]? = some v ∧ Q v H) := by
  intro pins s σ H o i ov iv Q I ro ri h
  obtain ⟨a, xs, j, v, rfl, rfl, hs, hv, q⟩ := h
  cases ro
  obtain ⟨t, rfl⟩ := ri
  obtain ⟨its, r, pl, hz⟩ := I.list hs
  obtain ⟨u, eu, ru⟩ := r.get hv
  have hl := r.length
  have hj := (List.getElem?_eq_some_iff.mp hv).1
  have hn := line63
  refine wpAny_getItem_list pl.isList (by omega) (by omega) (by simpa using eu) ?_
  exact ⟨v, H, I, ru, q⟩
end
end LH
end

section
set_option Elab.async false
set_option linter.all false
set_option maxRecDepth 100000
set_option maxHeartbeats 4000000
/-! sorted(xs, key=f), f a def of our own that may make tuples -/
namespace LH
open PySem PySem.Spec PyProof.Rows L2 PySem.W

/-! ### data that never change: None, truth values, numbers, texts, tuples of these -/
mutual
inductive Dt (K : PySem.W.Frag) (H : Hp) : V → PyData → Prop
  | non : Dt K H .non .none
  | bl (b : Bool) : Dt K H (.bl b) (.bool b)
  | int (i : Int) : Dt K H (.int i) (.int i)
  | str (x : Str) : Dt K H (.str x) (.str x)
  | tup {a : Addr} {xs : List V} {ds : List PyData} : SqT K H a xs → Dts K H xs ds → Dt K H (.ref a) (.tuple ds)
inductive Dts (K : PySem.W.Frag) (H : Hp) : List V → List PyData → Prop
  | nil : Dts K H [] []
  | cons {v : V} {vs : List V} {d : PyData} {ds : List PyData} : Dt K H v d → Dts K H vs ds → Dts K H (v :: vs) (d :: ds)
end
/-- tuples stay -/
def KeepT (K : PySem.W.Frag) (H H' : Hp) : Prop := ∀ a xs, SqT K H a xs → SqT K H' a xs
theorem KeepT.of {K : PySem.W.Frag} {H H' : Hp} (h : ∀ b o, H b = some o → (∀ xs, o ≠ .lst xs) → H' b = some o) : KeepT K H H' := fun a xs z => by
  rcases z with (z | ⟨o, z⟩) | z
  · exact .inl (.inl (h a _ z (fun _ q => nomatch q)))
  · exact .inl (.inr ⟨o, h a _ z (fun _ q => nomatch q)⟩)
  · exact .inr z
theorem KeepT.same {K : PySem.W.Frag} {H H' : Hp} (h : Same H H') : KeepT K H H' := KeepT.of fun b o e _ => h b o e
mutual
theorem Dt.keep {K : PySem.W.Frag} {H H' : Hp} (k : KeepT K H H') : ∀ {v : V} {d : PyData}, Dt K H v d → Dt K H' v d
  | _, _, .non => .non
  | _, _, .bl b => .bl b
  | _, _, .int i => .int i
  | _, _, .str x => .str x
  | _, _, .tup h hs => .tup (k _ _ h) (Dts.keep k hs)
theorem Dts.keep {K : PySem.W.Frag} {H H' : Hp} (k : KeepT K H H') : ∀ {vs : List V} {ds : List PyData}, Dts K H vs ds → Dts K H' vs ds
  | _, _, .nil => .nil
  | _, _, .cons h hs => .cons (Dt.keep k h) (Dts.keep k hs)
end
mutual
theorem Dt.dp {K : PySem.W.Frag} {H : Hp} : ∀ {v : V} {d : PyData}, Dt K H v d → Dp K H v d
  | _, _, .non => .non
  | _, _, .bl b => .bl b
  | _, _, .int i => .int i
  | _, _, .str x => .str x
  | _, _, .tup h hs => .tup h (Dts.dp hs)
theorem Dts.dp {K : PySem.W.Frag} {H : Hp} : ∀ {vs : List V} {ds : List PyData}, Dts K H vs ds → DpAll K H vs ds
  | _, _, .nil => .nil
  | _, _, .cons h hs => .cons (Dt.dp h) (Dts.dp hs)
end

/-! ### two calls of built-ins deeper, nothing let out -/
abbrev in2 (X : Cx) : Cx := { X with A := X.A.in1.in1, xe := fun _ _ => False }
theorem ok_in2 {X : Cx} (ok : X.Ok) : (in2 X).Ok :=
  ⟨ok.mod, ok.kind, ok.glob, ok.blt, ok.above, ok.inj, ok.has, ok.cab, ok.hd, ok.frames, ok.stk, ok.exf, ok.bs, ok.bsz, ok.noex, ok.exfs, ok.funs, ok.frf⟩
theorem ok_out2 {X : Cx} (ok : (in2 X).Ok) : X.Ok :=
  ⟨ok.mod, ok.kind, ok.glob, ok.blt, ok.above, ok.inj, ok.has, ok.cab, ok.hd, ok.frames, ok.stk, ok.exf, ok.bs, ok.bsz, ok.noex, ok.exfs, ok.funs, ok.frf⟩
section
variable {X : Cx} {pins : List (Addr × Obj)} {σ : L2.St} {H : Hp} {s : Shared}
theorem inv_in2 (I : Inv X pins σ H s) : Inv (in2 X) pins σ H s := ⟨ok_in2 I.ok, I.os, I.bare, I.base, I.loc, I.cell, I.free, I.freeC, I.pin, I.hok, I.len⟩
theorem inv_out2 (I : Inv (in2 X) pins σ H s) : Inv X pins σ H s := ⟨ok_out2 I.ok, I.os, I.bare, I.base, I.loc, I.cell, I.free, I.freeC, I.pin, I.hok, I.len⟩

/-- an untracked record of ours at a: it is no frame, no cell, no pin -/
theorem fp_drop {a : Addr} {o : Obj} (I : Inv X ((a, o) :: pins) σ H s) (f : FpOk X pins H a) : Inv X pins σ H s := I.pins_of fun p hp => I.pin p (List.mem_append_right _ (List.mem_cons_of_mem _ hp))
theorem pin_hd {a : Addr} {o : Obj} (I : Inv X ((a, o) :: pins) σ H s) : s.heap.get? a = some o := (I.pin (a, o) (List.mem_append_right _ List.mem_cons_self)).1
theorem pin_none {a : Addr} {o : Obj} (I : Inv X ((a, o) :: pins) σ H s) : H a = none := (I.pin (a, o) (List.mem_append_right _ List.mem_cons_self)).2.1
theorem pin_add {a : Addr} {o : Obj} (I : Inv X pins σ H s) (f : FpOk X pins H a) (e : s.heap.get? a = some o) (d : ∀ v, o.data ≠ .cell v) : Inv X ((a, o) :: pins) σ H s := I.pins_of fun p hp => by
  rcases List.mem_cons.mp hp with q | q
  · rw [q]
    exact ⟨e, f.1, f.2.1, f.2.2.1, d⟩
  · exact I.pin p (List.mem_append_right _ q)
/-- what is said of a record besides: it holds of any heap that doesn't track it -/
structure Rec (X : Cx) (pins : List (Addr × Obj)) (b : Addr) : Prop where
  nl : b ≠ X.env.locals
  nf : b ∉ X.fs
  new : b ∈ X.ex ∨ X.s_0.heap.objs.size ≤ b
  nc : ∀ x c, X.env.cells.lookup x = some c → c ≠ b
  np : ∀ p ∈ X.pn ++ pins, p.1 ≠ b
theorem Rec.fp {b : Addr} (r : Rec X pins b) (h : H b = none) : FpOk X pins H b := ⟨h, r.nl, r.nf, r.new, r.nc, r.np⟩
theorem Rec.of {b : Addr} (f : FpOk X pins H b) : Rec X pins b := ⟨f.2.1, f.2.2.1, f.2.2.2.1, f.2.2.2.2.1, f.2.2.2.2.2⟩
/-- the record at a is written -/
theorem rec_put {a : Addr} {o o' : Obj} {h' : Heap} {t' : Nat} (I : Inv X ((a, o) :: pins) σ H s) (r : Rec X pins a) (k : ∀ b u, b ≠ a → s.heap.get? b = some u → h'.get? b = some u) (e : h'.get? a = some o') (d : ∀ v, o'.data ≠ .cell v) :
    Inv X ((a, o') :: pins) σ H { s with heap := h', toks := t' } := by
  have n := pin_none I
  have J := fp_drop I (r.fp n)
  exact pin_add (J.turned (t' := t') (fun b u hb q => k b u hb q) n r.nl r.new r.nc r.np) (r.fp n) e d
end
section
variable {X : Cx} {pins : List (Addr × Obj)} {σ : L2.St} {H : Hp} {s : Shared}
theorem each_of {K : PySem.W.Frag} {H : Hp} {Y : Cx} (I : Inv Y pins σ H s) : ∀ {ys : List V} {us : List Value} {ds : List PyData}, Vals ys us → Dts Y.K H ys ds → EachIs (fun v d => ∃ as, Reads s.heap v d as) us ds
  | _, _, _, .nil, .nil => .nil
  | _, _, _, .cons r rs, .cons h hs => .cons (Dp.reads I _ _ _ h.dp r) (each_of (K := K) (H := H) I rs hs)
theorem Dts.len {K : PySem.W.Frag} {H : Hp} : ∀ {vs : List V} {ds : List PyData}, Dts K H vs ds → vs.length = ds.length
  | _, _, .nil => rfl
  | _, _, .cons _ t => congrArg Nat.succ (Dts.len t)
theorem dts_snoc {K : PySem.W.Frag} {H : Hp} : ∀ {ys : List V} {ds : List PyData} {y : V} {d : PyData}, Dts K H ys ds → Dt K H y d → Dts K H (ys ++ [y]) (ds ++ [d])
  | _, _, _, _, .nil, h => .cons h .nil
  | _, _, _, _, .cons a as, h => .cons a (dts_snoc as h)
theorem vals_perm {β : Type} {v : β → V} : ∀ {bs : List β} {us : List Value}, Vals (bs.map v) us → EachIs (fun (u : Value) (b : β) => RelV (v b) u) us bs
  | [], us, h => by
    rw [List.map_nil] at h
    cases h
    exact .nil
  | b :: bs, us, h => by
    rw [List.map_cons] at h
    cases h with
    | cons r rs => exact .cons r (vals_perm rs)
theorem vals_each {β : Type} {v : β → V} : ∀ {bs : List β} {us : List Value}, EachIs (fun (u : Value) (b : β) => RelV (v b) u) us bs → Vals (bs.map v) us
  | _, _, .nil => .nil
  | _, _, .cons r rs => .cons r (vals_each rs)
/-- the end: the record at a is a tracked list from now on, the one at c is let go -/
theorem rec_show {a c : Addr} {oa oc : Obj} {out : List Value} {xs : List V} {n : Nat} {h' : Heap} {t' : Nat} (I : Inv X ((c, oc) :: (a, oa) :: pins) σ H s) (ra : Rec X pins a) (rc : Rec X pins c) (hac : c ≠ a)
    (k : ∀ b u, b ≠ a → b ≠ c → s.heap.get? b = some u → h'.get? b = some u) (e : h'.get? a = some (seqObj "list" out.toArray n)) (rv : Vals xs out) (hz : xs.length ≤ sizeLine) :
    H a = none ∧ Inv X pins σ (upd H a (.lst xs)) { s with heap := h', toks := t' } := by
  have nc := pin_none I
  have I1 : Inv X ((a, oa) :: pins) σ H s := I.pins_of fun p hp => I.pin p (List.mem_append_right _ (List.mem_cons_of_mem _ hp))
  have na := pin_none I1
  have J := fp_drop I1 (ra.fp na)
  have tk : ∀ b o, H b = some o → b ≠ a ∧ b ≠ c := fun b o q => ⟨ne_of_none q na, ne_of_none q nc⟩
  refine ⟨na, J.step (g' := s.gens) (d' := s.drawn) (ch := [c, a]) (fun b hb => ?_) (fun b o _ _ hc q _ => k b o (fun z => hc (by simp [z])) (fun z => hc (by simp [z])) q) (fun b o _ _ hc q _ => ⟨o.slots, k b o (fun z => hc (by simp [z])) (fun z => hc (by simp [z])) q⟩)
    (fun b o hc _ q => by rw [upd_ne (fun z => hc (by simp [z]))]; exact q) (fun b o hc q => ⟨o, k b o (fun z => hc (by simp [z])) (fun z => hc (by simp [z])) q⟩) (fun b xs q => by rw [upd_ne (tk _ _ q).1]; exact q) (fun b o u q => by rw [upd_ne (tk _ _ q).1]; exact q)
    (fun b ps q => ⟨#[], by rw [upd_ne (tk _ _ q).1, q]; simp⟩) (fun m hm => ?_) (fun b o q => ?_) J.bare⟩
  · rcases List.mem_cons.mp hb with q | q
    · rw [q]
      exact ⟨rc.new, rc.nl, rc.nc, rc.np⟩
    · rw [List.mem_singleton.mp q]
      exact ⟨ra.new, ra.nl, ra.nc, ra.np⟩
  · obtain ⟨o, es, ep, ho, r⟩ := hm
    exact ⟨o, es, ep, k _ _ (Ne.symm ra.nl) (Ne.symm rc.nl) ho, r⟩
  · by_cases hb : b = a
    · rw [hb, upd_same] at q
      cases q
      rw [hb]
      exact ⟨hz, out, n, rv, e⟩
    · rw [upd_ne hb] at q
      refine (J.hok b o q).stay (fun d u hd z => ?_) (fun d z => by rw [upd_ne (tk _ _ z).1]; exact z) (fun d xs z => by rw [upd_ne (tk _ _ z).1]; exact z)
      rcases hd with y | y
      · rw [y] at z ⊢
        exact k b u (tk _ _ q).1 (tk _ _ q).2 z
      · exact k d u (tk _ _ y).1 (tk _ _ y).2 z
theorem same_upd {H : Hp} {p : Addr} {o : HO} (h : H p = none) : Same H (upd H p o) := fun b u e => by rw [upd_ne (ne_of_none e h)]; exact e
/-- the key is asked of an item -/
def KeyTurn (X : Cx) (σ : L2.St) (H : Hp) (pins : List (Addr × Obj)) (f : Value) (x : V) (d : PyData) : Prop := ∀ (pins1 : List (Addr × Obj)) (H1 : Hp) (s1 : Shared) (u : Value), (∀ p ∈ pins, p ∈ pins1) → Inv (in2 X) pins1 σ H1 s1 → Same H H1 → RelV x u →
  wpAny (model X.prog X.w) X.A.in1.in1 (call f [u]) (EP (in2 X) pins1 σ (fun y H2 => Same H1 H2 ∧ Dt X.K H2 y d)) (fun _ _ => False) s1
/-- the sort itself: the list at a is new and holds the items -/
theorem srt_core {β : Type} (k : β → PyData) (v : β → V) (bs : List β) {f a n : Nat} {vs : List Value} {Q : VK} {E' : Value → Shared → Prop} (I0 : Inv X pins σ H s) (ra0 : Rec X pins a) (nA : H a = none) (hoA : s.heap.get? a = some (seqObj "list" vs.toArray n)) (rv : Vals (bs.map v) vs)
    (hvl : vs.length = bs.length) (hZ : vs.length ≤ sizeLine) (hal : AllAlike (bs.map k)) (hs : Sortable (bs.map k)) (hu : ∀ b ∈ bs, X.A.units + 2 + (k b).depth < cLine)
    (turn : ∀ b ∈ bs, KeyTurn X σ H pins (.ref f) (v b) (k b)) (q : ∀ p H1, Same H H1 → H1 p = none → Q (.ref p) (upd H1 p (.lst ((bs.mergeSort (dataLe false k)).map v)))) :
    wpAny (model X.prog X.w) X.A.in1.in1 (ksk_tree a (.ref f) false) (fun r s' => r = .done (.ret .none) ∧ EP X pins σ Q (.ref a) s') E' s := by
  obtain ⟨hp, g, d, tk, os⟩ := s
  unfold ksk_tree
  refine wpAny_bind (listItems_at hoA rfl ?_)
  refine wpAny_bind (listUpdate_at hoA rfl ?_ (by rw [List.size_toArray]; exact hZ) (Nat.zero_le _))
  obtain ⟨e1, ho1⟩ : ∃ e1, (hp.update a (Obj.mapSeq fun _ => (#[] : Array Value))).get? a = some (seqObj "list" #[] e1) := ⟨_, get?_update_seq hoA fun _ => #[]⟩
  refine wpAny_bind (seqEpoch_at ho1 rfl (wpAny_bind (wpAny_newTuple ?_ (by show vs.length ≤ _; exact hZ))))
  refine wpAny_bind (wpAny_newList ?_ (Nat.zero_le _))
  refine wpAny_holding ?_
  -- the two records: the list that is sorted, the keys
  have k1 : ∀ b u, b ≠ a → hp.get? b = some u → (hp.update a (Obj.mapSeq fun _ => (#[] : Array Value))).get? b = some u := fun b u hb e => ((Heap.SameBut.update hp a (Obj.mapSeq fun _ => (#[] : Array Value))).2 b hb).trans e
  generalize eh2 : hp.update a (Obj.mapSeq fun _ => (#[] : Array Value)) = h2 at ho1 k1 ⊢
  have I1 : Inv X ((a, seqObj "list" vs.toArray n) :: pins) σ H ⟨hp, g, d, tk, os⟩ := pin_add I0 (ra0.fp nA) hoA (fun _ z => nomatch z)
  have I2 : Inv X ((a, seqObj "list" #[] e1) :: pins) σ H ⟨h2, g, d, tk, os⟩ := rec_put (t' := tk) I1 ra0 k1 ho1 (fun _ z => nomatch z)
  have I3 : Inv X ((a, seqObj "list" #[] e1) :: pins) σ H ⟨h2.push (seqObj "tuple" vs.toArray 0), g, d, tk, os⟩ := I2.kept (t' := tk) fun b o e => Heap.get?_push_of_some _ e
  have rS0 : Rec X ((a, seqObj "list" #[] e1) :: pins) (h2.push (seqObj "tuple" vs.toArray 0)).objs.size := Rec.of (I3.fpOk (H' := H) (Nat.le_refl _) (I3.hok.fresh (Nat.le_refl _)))
  have I4 : Inv X (((h2.push (seqObj "tuple" vs.toArray 0)).objs.size, seqObj "list" #[] 0) :: (a, seqObj "list" #[] e1) :: pins) σ H ⟨(h2.push (seqObj "tuple" vs.toArray 0)).push (seqObj "list" #[] 0), g, d, tk, os⟩ :=
    ClX.pin_new (t' := tk) I3 (fun b o e => Heap.get?_push_of_some _ e) (Nat.le_refl _) (Heap.get?_push_size _ rfl) (fun _ z => nomatch z)
  show wpAny _ _ (ksk_rest a (.ref f) false vs.toArray e1 (.ref (h2.push (seqObj "tuple" vs.toArray 0)).objs.size)) _ E' ⟨(h2.push (seqObj "tuple" vs.toArray 0)).push (seqObj "list" #[] 0), g, d, tk, os⟩
  generalize eS : (h2.push (seqObj "tuple" vs.toArray 0)).objs.size = c at rS0 I4 ⊢
  generalize (h2.push (seqObj "tuple" vs.toArray 0)).push (seqObj "list" #[] 0) = h4 at I4 ⊢
  have hca : c ≠ a := fun z => rS0.np (a, seqObj "list" #[] e1) (List.mem_append_right _ List.mem_cons_self) z.symm
  have rS : Rec X pins c := ⟨rS0.nl, rS0.nf, rS0.new, rS0.nc, fun p hp => rS0.np p ((List.mem_append.mp hp).elim (fun z => List.mem_append_left _ z) fun z => List.mem_append_right _ (List.mem_cons_of_mem _ z))⟩
  have hA : a ≠ X.env.locals := ra0.nl
  unfold ksk_rest
  refine wpAny_bind (wpAny_rule ?_)
  rw [← Array.forIn_toList]
  simp only [List.toList_toArray]
  refine wpAny_bind (ksk_fold (fun i s' => ∃ (H1 : Hp) (kA : Array Value) (e : Nat) (ys : List V), Inv X ((c, seqObj "list" kA e) :: (a, seqObj "list" #[] e1) :: pins) σ H1 s' ∧ Same H H1 ∧ Vals ys kA.toList ∧ Dts X.K H1 ys ((bs.map k).take i)) vs 0 _
    ⟨H, #[], 0, [], I4, Same.refl _, .nil, by rw [List.take_zero]; exact .nil⟩ ?step ?done)
  case step =>
    rintro j x s' hx ⟨H1, kA, e, ys, J, hS, rk, hk⟩
    simp only [Nat.zero_add] at hk ⊢
    have hj : j < bs.length := by rw [← hvl]; exact (List.getElem?_eq_some_iff.mp hx).1
    obtain ⟨u', hu', ru⟩ := Vals.get (i := j) (x := v bs[j]) rv (by rw [List.getElem?_map, List.getElem?_eq_getElem hj]; rfl)
    obtain rfl : u' = x := Option.some.inj (hu'.symm.trans hx)
    have hzk : kA.size ≤ vs.length := by
      have l1 := hk.len
      have l2 := rk.length
      rw [List.length_take] at l1
      have l3 : kA.toList.length = kA.size := Array.length_toList
      omega
    refine wpAny_bind (wpAny_attempt (wpAny_mono (turn bs[j] (List.getElem_mem hj) _ H1 s' u' (fun p hp => List.mem_cons_of_mem _ (List.mem_cons_of_mem _ hp)) (inv_in2 J) hS ru) (fun w' s2 he => ?_) fun _ _ z => z.elim))
    obtain ⟨y, H2, J2', ry, hS2, hy⟩ := he
    have J2 := inv_out2 J2'
    try dsimp only
    have nk := pin_hd J2
    obtain ⟨c2, hc2⟩ : ∃ c2, (s2.heap.update c (Obj.mapSeq (·.push w'))).get? c = some (seqObj "list" (kA.push w') c2) := ⟨_, get?_update_seq nk (·.push w')⟩
    refine wpAny_bind (listUpdate_at nk rfl ?_ (Nat.le_trans hzk hZ) (Nat.le_trans (Nat.le_of_eq (Array.size_push ..)) (Nat.succ_le_succ (Nat.le_trans hzk hZ))))
    have rS' : Rec X ((a, seqObj "list" #[] e1) :: pins) c := rS0
    refine wpAny_pure ⟨rfl, H2, kA.push w', c2, ys ++ [y], rec_put (t' := s2.toks) J2 rS' (fun b u hb z => ((Heap.SameBut.update s2.heap c (Obj.mapSeq (·.push w'))).2 b hb).trans z) hc2 (fun _ z => nomatch z), hS.trans hS2, ?_, ?_⟩
    · rw [Array.toList_push]
      exact rk.append (.cons ry .nil)
    · rw [List.take_add_one, List.getElem?_map, List.getElem?_eq_getElem hj]
      exact dts_snoc (hk.keep (KeepT.same hS2)) hy
  case done =>
    rintro s' ⟨H1, kA, e, ys, J, hS, rk, hk⟩
    simp only [Nat.zero_add] at hk
    rw [List.take_of_length_le (by rw [List.length_map, hvl]; exact Nat.le_refl _)] at hk
    have hsz : kA.size = vs.length := by
      have l1 := hk.len
      have l2 := rk.length
      rw [List.length_map] at l1
      have l3 : kA.toList.length = kA.size := Array.length_toList
      omega
    have nk := pin_hd J
    have J1 : Inv X ((a, seqObj "list" #[] e1) :: pins) σ H1 s' := J.pins_of fun p hp => J.pin p (List.mem_append_right _ (List.mem_cons_of_mem _ hp))
    have na := pin_hd J1
    try dsimp only
    refine wpAny_bind (listItems_at nk rfl ?_)
    obtain ⟨G, g1, g2⟩ := restrict s'.heap fun b => decide (b ≠ c)
    have gk : ∀ b, b ≠ c → G.get? b = s'.heap.get? b := fun b hb => g1 b (decide_eq_true hb)
    have ge : G.get? c = none := g2 c (by simp)
    have hEach := each_of (K := X.K) (H := H1) J rk hk
    refine keyH_end (κ := dataKind s'.heap (bs.map k)) (h₁ := G) (fun b o hb z => by
        by_cases hbc : b = c
        · rw [hbc, ge] at z
          cases z
        · exact (gk b hbc).symm.trans z) ge nk na hca (SortsAt.data (A := X.A.in1.in1) (s := s') hEach hal hs (fun d hd => ?_)) hsz hZ fun h3 tk3 c3 kp3 n3 => ⟨rfl, ?_⟩
    · obtain ⟨b, hb, rfl⟩ := List.mem_map.mp hd
      exact hu b hb
    · have hOut : EachIs (fun (u : Value) (b : β) => RelV (v b) u) (sortVals (dataKind s'.heap (bs.map k)) false kA.toList vs) (bs.mergeSort (dataLe false k)) :=
        keyedOut_each k ⟨s'.heap, kA.toList, hal, rfl, hEach⟩ (vals_perm rv)
      have rOut := vals_each hOut
      have hol : ((bs.mergeSort (dataLe false k)).map v).length ≤ sizeLine := by
        rw [List.length_map, (List.mergeSort_perm _ _).length_eq, ← hvl]
        exact hZ
      obtain ⟨nA1, fin⟩ := rec_show (t' := tk3) J ra0 rS hca (fun b u h1 h2 z => kp3 b u h1 ((gk b h2).trans z)) n3 rOut hol
      exact ⟨.ref a, _, fin, rfl, q a H1 hS nA1⟩
/-- the list that sorted makes is sorted, whatever was collected -/
theorem srt_shell {f r : Addr} {vs : List Value} {Q : Value → Shared → Prop} {A : Around} {E : Value → Shared → Prop} {P : Program} {w : World} (hZ : vs.length ≤ sizeLine)
    (hcol : ∀ {R : List Value → Shared → Prop} {E' : Value → Shared → Prop}, (∀ (h' : Heap) (tk : Nat), (∀ b o, s.heap.get? b = some o → h'.get? b = some o) → R vs { s with heap := h', toks := tk }) → wpAny (model P w) A.in1 (collect (.ref r)) R E' s)
    (h : ∀ (h' : Heap) (tk : Nat) (E' : Value → Shared → Prop), (∀ b o, s.heap.get? b = some o → h'.get? b = some o) → wpAny (model P w) A.in1.in1 (ksk_tree h'.objs.size (.ref f) false) (fun z s' => z = .done (.ret .none) ∧ Q (.ref h'.objs.size) s') E' { s with heap := h'.push (seqObj "list" vs.toArray 0), toks := tk }) :
    wpAny (model P w) A (call (.builtin "sorted") [.ref r] [(Str.ofString "key", .ref f)]) Q E s := by
  refine call_function_entry_kw kind_sorted plain_sorted entry_sorted (ksk_s1 _ _) ?_
  unfold Builtin.«sorted»
  refine wpAny_bind (m := checkCount "sorted" 1 1 _) (wpAny_pure (wpAny_bind (hcol fun h' tk kp => wpAny_bind (wpAny_newList ?_ hZ))))
  refine wpAny_bind (wpAny_holding (wpAny_call_entry_kw slot_list_sort ⟨_, Heap.get?_push_size _ rfl, rfl⟩ entry_list_sort ?body (ksk_l1 _ _)))
  case body =>
    rw [ksk_t1]
    refine wpAny_mono (h h' tk _ kp) (fun z s' hz => ?_) fun _ _ e => e
    obtain ⟨rfl, hq⟩ := hz
    exact ⟨_, rfl, wpAny_pure ⟨_, rfl, hq⟩⟩
/-- .. with what the layer knows -/
theorem srt_any {β : Type} (k : β → PyData) (v : β → V) (bs : List β) {r f : Addr} {vs : List Value} {Q : VK} (I : Inv X pins σ H s) (rv : Vals (bs.map v) vs) (hz : (bs.map v).length ≤ sizeLine)
    (hcol : ∀ {R : List Value → Shared → Prop} {E' : Value → Shared → Prop}, (∀ (h' : Heap) (tk : Nat), (∀ b o, s.heap.get? b = some o → h'.get? b = some o) → R vs { s with heap := h', toks := tk }) → wpAny (model X.prog X.w) X.A.in1 (collect (.ref r)) R E' s)
    (hal : AllAlike (bs.map k)) (hs : Sortable (bs.map k)) (hu : ∀ b ∈ bs, X.A.units + 2 + (k b).depth < cLine)
    (turn : ∀ b ∈ bs, KeyTurn X σ H pins (.ref f) (v b) (k b)) (q : ∀ p H1, Same H H1 → H1 p = none → Q (.ref p) (upd H1 p (.lst ((bs.mergeSort (dataLe false k)).map v)))) :
    wpAny (model X.prog X.w) X.A (call (.builtin "sorted") [.ref r] [(Str.ofString "key", .ref f)]) (EP X pins σ Q) X.xe s := by
  have hvl : vs.length = bs.length := by rw [← rv.length, List.length_map]
  have hZ : vs.length ≤ sizeLine := by rw [← rv.length]; exact hz
  refine srt_shell hZ hcol fun h' tk E' kp => ?_
  have I1 : Inv X pins σ H { s with heap := h', toks := tk } := I.kept kp
  have nA : H h'.objs.size = none := I1.hok.fresh (Nat.le_refl _)
  have ra : Rec X pins h'.objs.size := Rec.of (I1.fpOk (H' := H) (Nat.le_refl _) nA)
  exact srt_core k v bs (s := { s with heap := h'.push (seqObj "list" vs.toArray 0), toks := tk }) (I1.kept (t' := tk) fun b o e => Heap.get?_push_of_some _ e) ra nA (Heap.get?_push_size _ rfl) rv hvl hZ hal hs hu turn q
/-- sorted(l, key=f) -/
theorem srt_key {β : Type} (k : β → PyData) (v : β → V) (bs : List β) {l f : Addr} {Q : VK} (I : Inv X pins σ H s) (hl : SqL X.K H l (bs.map v)) (hal : AllAlike (bs.map k)) (hs : Sortable (bs.map k)) (hu : ∀ b ∈ bs, X.A.units + 2 + (k b).depth < cLine)
    (turn : ∀ b ∈ bs, KeyTurn X σ H pins (.ref f) (v b) (k b)) (q : ∀ p H1, Same H H1 → H1 p = none → Q (.ref p) (upd H1 p (.lst ((bs.mergeSort (dataLe false k)).map v)))) :
    wpAny (model X.prog X.w) X.A (call (.builtin "sorted") [.ref l] [(Str.ofString "key", .ref f)]) (EP X pins σ Q) X.xe s := by
  obtain ⟨vs, rv, pl, hz⟩ := I.list hl
  refine srt_any k v bs I rv hz (fun {R E'} h => collect_list pl.isList ?_ (by rw [← rv.length]; exact hz)) hal hs hu turn q
  refine h _ _ fun b o e => ?_
  rw [Heap.get?_update_ne _ _ _ _ (Nat.ne_of_lt (Heap.lt_size e))]
  exact Heap.get?_push_of_some _ e
/-- sorted(v, key=f), v a dict's values -/
theorem srt_vals {β : Type} (k : β → PyData) (v : β → V) (bs : List β) {r d f : Addr} {kvs : List (Key × V)} {Q : VK} (hc : X.calm = true) (I : Inv X pins σ H s) (hd : H d = some (.dK kvs)) (hv : s.heap.IsValuesView r d) (hb : kvs.map (·.2) = bs.map v) (hal : AllAlike (bs.map k)) (hs : Sortable (bs.map k))
    (hu : ∀ b ∈ bs, X.A.units + 2 + (k b).depth < cLine) (turn : ∀ b ∈ bs, KeyTurn X σ H pins (.ref f) (v b) (k b)) (q : ∀ p H1, Same H H1 → H1 p = none → Q (.ref p) (upd H1 p (.lst ((bs.mergeSort (dataLe false k)).map v)))) :
    wpAny (model X.prog X.w) X.A (call (.builtin "sorted") [.ref r] [(Str.ofString "key", .ref f)]) (EP X pins σ Q) X.xe s := by
  obtain ⟨z, lo, vs, rel, dd⟩ := dk_rd I.hok (Rd.of hd)
  obtain ⟨ep, hat⟩ := dd.dictAt
  have hrel : Vals (bs.map v) (vs.map (·.2)) := by
    rw [← hb]
    clear hat dd z hb hd
    induction rel with
    | nil => exact .nil
    | cons r _ ih => exact .cons r.2 ih
  have hl : (vs.map (·.2)).length = vs.length := List.length_map ..
  have hz2 : vs.length ≤ sizeLine := by rw [← Paired.length rel]; exact z
  refine srt_any k v bs I hrel (by rw [hrel.length, hl]; exact hz2) (fun {R E'} h => PySem.W.kdu_collect (A := X.A.in1) (PySem.W.kdl_values (knd := mixKind X.prog X.w) (r := r) (d := d) (kvs := vs) (ep := ep)) (I.ok.hd hc) ⟨hv, hat⟩ hz2 fun h' tk acc hk hacc => ?_) hal hs hu turn q
  have e : acc.toList = vs.map (·.2) := kdl_vals_eq acc.toList (by rw [Array.length_toList]; exact hacc.1) fun j u hj => hacc.2 j u (by rw [← Array.getElem?_toList]; exact hj)
  rw [e]
  exact h h' tk hk
end
end LH
end

section
set_option Elab.async false
set_option linter.all false
set_option maxRecDepth 100000
set_option maxHeartbeats 4000000
/-! sorted(e, key=lambda a: body) -/
namespace LH
open PySem PySem.Spec PyProof.Rows L2 PySem.W LamX

/-- the lambda's names: its one parameter, captured ones, globals -/
structure Lam1 (sc scope : Scope) (a : Str) : Prop where
  kind : scope.kind = .function
  co : scope.isCoroutine = false
  gen : scope.isGenerator = false
  par : scope.names.lookup a = some .local
  own : ∀ y ∈ scope.names, y.2 ≠ .cell ∧ (y.2 = .local → y.1 = a)
  free : ∀ y ∈ scope.names, y.2 = .free → sc.names.lookup y.1 = some .cell ∨ sc.names.lookup y.1 = some .free
def lam1B (sc scope : Scope) (a : Str) : Bool :=
  decide (scope.kind = .function) && !scope.isCoroutine && !scope.isGenerator && decide (scope.names.lookup a = some .local) && (scope.names.all fun y => !decide (y.2 = .cell) && (!decide (y.2 = .local) || decide (y.1 = a)) &&
    (!decide (y.2 = .free) || (decide (sc.names.lookup y.1 = some .cell) || decide (sc.names.lookup y.1 = some .free))))
theorem lam1_by {sc scope : Scope} {a : Str} (h : lam1B sc scope a = true) : Lam1 sc scope a := by
  unfold lam1B at h
  simp only [Bool.and_eq_true, Bool.or_eq_true, Bool.not_eq_true', decide_eq_true_eq, decide_eq_false_iff_not, List.all_eq_true] at h
  obtain ⟨⟨⟨⟨h1, h2⟩, h3⟩, h5⟩, h4⟩ := h
  refine ⟨h1, h2, h3, h5, fun y hy => ⟨(h4 y hy).1.1, fun e => ?_⟩, fun y hy e => ?_⟩
  · rcases (h4 y hy).1.2 with z | z
    · exact absurd e z
    · exact z
  · rcases (h4 y hy).2 with z | z
    · exact absurd e z
    · exact z
theorem Lam1.has {X : Cx} {scope : Scope} {a : Str} (L : Lam1 X.env.scope scope a) (ok : X.Ok) : ∀ y ∈ scope.names, y.2 = .free → ∃ c, X.env.cells.lookup y.1 = some c := fun y hy e => by
  rcases L.free y hy e with z | z
  · exact ok.has _ (Or.inl z)
  · exact ok.has _ (Or.inr z)
section
variable {X : Cx} {pins : List (Addr × Obj)} {σ : L2.St} {H HZ : Hp} {s s1 : Shared}
theorem clo_cell {scope : Scope} {a : Str} (L : Lam1 X.env.scope scope a) (ok : X.Ok) {y : Str} {c : Addr} (e : (cloFrom X.env.cells scope.names []).lookup y = some c) : X.env.cells.lookup y = some c := by
  rcases cloFrom_mem (PySem.mem_of_lookup e) with q | ⟨h1, h2⟩
  · exact nomatch q
  · obtain ⟨d, hd⟩ := L.has ok _ h1 rfl
    have hd : X.env.cells.lookup y = some d := hd
    rw [h2, hd]
    rfl
theorem clo_has {scope : Scope} {y : Str} (hl : scope.names.lookup y = some .free) : ∃ c, (cloFrom X.env.cells scope.names []).lookup y = some c :=
  mem_lookup (cloFrom_has (cells := X.env.cells) (acc := []) (PySem.mem_of_lookup hl : (y, NameKind.free) ∈ scope.names))
/-- the body's frame stands, its parameter in slot i -/
theorem lam_in {A : Around} {outer : List Env} {E : XK} {scope : Scope} {a : Str} {i : Nat} {x : V} {u : Value} {f c' : Addr} {h₁ : Heap} {tk : Nat} (I : Inv X pins σ H s) (hN : X.N.Nodup) (L : Lam1 X.env.scope scope a) (hi : X.N[i]? = some a) (rx : RelV x u)
    (e0 : Env0 X.prog X.w X.K X.mg X.base A outer s1 HZ) (hd : A.handled = none) (un : Un (frs X.stack) [] H HZ s.heap s1.heap) (hns : h₁.Ns s1.heap.objs.size fun y => ([(a, u)] : List (Str × Value)).reverse.lookup y)
    (kp : ∀ b o, s1.heap.get? b = some o → h₁.get? b = some o) : Inv (lamCx X A outer s1 HZ E scope f c') [] (σ.set i (some x)) HZ { s1 with heap := h₁, toks := tk } := by
  have cm := fun {y c} e => clo_cell (X := X) L I.ok (y := y) (c := c) e
  have stay : ∀ {c : Addr} {z : Option Value}, H c = none → s.heap.IsCell c z → h₁.IsCell c z := fun {c z} n q => by
    obtain ⟨o, ho, q⟩ := q
    obtain ⟨sl, y⟩ := un.any ho n (by simp)
    exact ⟨_, kp _ _ y, q⟩
  have nil : ∀ b : Addr, ¬ b ∈ (lamCx X A outer s1 HZ E scope f c').ex := fun b z => nomatch (show b ∈ ([] : List Addr) from z)
  have ok' : (lamCx X A outer s1 HZ E scope f c').Ok := {
    mod := e0.mod
    kind := L.kind
    glob := rfl
    blt := rfl
    above := Nat.le_refl _
    inj := fun y z c e1 e2 => I.ok.inj y z c (cm e1) (cm e2)
    has := fun y hy => by
      rcases (show scope.names.lookup y = some .cell ∨ scope.names.lookup y = some .free from hy) with q | q
      · exact absurd rfl (L.own _ (PySem.mem_of_lookup q)).1
      · exact clo_has q
    cab := fun y c z _ => nomatch (show false = true from z)
    hd := fun _ => hd
    frames := Around.frames_deeper e0.frames
    stk := .inr ⟨rfl, rfl⟩
    exf := fun b z => absurd z (nil b)
    bs := e0.bs
    bsz := e0.bsz
    noex := fun b _ _ => nil b
    exfs := fun b z => absurd z (nil b)
    funs := e0.funs
    frf := e0.frf }
  obtain ⟨m, hn, hl⟩ := I.loc
  refine ⟨ok', rfl, e0.bare, Un.kept kp, ⟨_, hns, fun j y z e1 e2 e3 => ?_⟩, fun y c e => ?_, e0.hok.fresh (Nat.le_refl _), fun y c e => ?_, fun q hq => absurd (show q ∈ ([] : List (Addr × Obj)) ++ [] from hq) (by simp), e0.hok.kept kp, by rw [List.length_set]; exact I.len⟩
  · have e1 : X.N[j]? = some y := e1
    rcases (show Vis scope y from e3) with q | q | q
    · have ya : y = a := (L.own _ (PySem.mem_of_lookup q)).2 rfl
      have ij : j = i := nodup_ix hN e1 (by rw [ya]; exact hi)
      have hlt : i < σ.length := by
        rw [I.len]
        exact (List.getElem?_eq_some_iff.mp hi).1
      rw [ij, List.getElem?_set_self hlt] at e2
      have exz : x = z := Option.some.inj (Option.some.inj e2)
      refine ⟨u, by rw [← exz]; exact rx, .inl ⟨q, ?_⟩⟩
      rw [ya]
      simp [List.lookup]
    · exact absurd rfl (L.own _ (PySem.mem_of_lookup q)).1
    · have ji : i ≠ j := fun z => by
        rw [← z, hi] at e1
        rw [← Option.some.inj e1, L.par] at q
        cases q
      rw [List.getElem?_set_ne ji] at e2
      obtain ⟨w', r, l⟩ := hl j y z e1 e2 ((L.free _ (PySem.mem_of_lookup q) rfl).elim (fun k => .inr (.inl k)) fun k => .inr (.inr k))
      obtain ⟨c2, h2⟩ := clo_has (X := X) q
      refine ⟨w', r, .inr ⟨.inr q, c2, h2, ?_⟩⟩
      have c1 := cm h2
      rcases l with ⟨k', _⟩ | ⟨_, c3, e', t⟩
      · have k' : X.env.scope.names.lookup y = some .local := k'
        rcases L.free _ (PySem.mem_of_lookup q) rfl with k2 | k2
        · rw [show X.env.scope.names.lookup y = _ from k2] at k'
          cases k'
        · rw [show X.env.scope.names.lookup y = _ from k2] at k'
          cases k'
      · rw [c1] at e'
        cases e'
        exact stay (I.freeC y _ c1) t
  · obtain ⟨w', z⟩ := I.cell y c (cm e)
    exact ⟨w', stay (I.freeC y c (cm e)) z⟩
  · obtain ⟨z, o, ho, _⟩ := I.cell y c (cm e)
    exact un.free c o ho (I.freeC y c (cm e)) (by simp)
theorem Room.twice {k : Nat} {A : Around} (r : Room (k + 2) A) : Room k A.in1.in1 := Room.in1 (Room.in1 r)
/-- the lambda's object, as it is made -/
abbrev lamO (X : Cx) (params : Arguments) (body : Expr) (scope : Scope) (pm ctv : Value) (c' : Addr) : Obj := PySem.W.kla_obj "<lambda>" (X.env.qual ++ "<lambda>") params body scope (cloFrom X.env.cells scope.names []) pm c' ctv
/-- the lambda asked of an item, two built-ins deep -/
theorem lam_turn {params : Arguments} {body : Expr} {scope : Scope} {pm ctv : Value} {f c' : Addr} {a : Str} {i k : Nat} {x : V} {u : Value} {tb : TE} {Q : VK} (I : Inv (in2 X) pins σ H s) (hN : X.N.Nodup) (L : Lam1 X.env.scope scope a) (hi : X.N[i]? = some a)
    (hf : s.heap.get? f = some (lamO X params body scope pm ctv c')) (hco : H c' = some (CodeO c' (X.env.qual ++ "<lambda>"))) (hr : Room (k + 3) X.A) (rx : RelV x u)
    (hbind : bindArgs (PySem.W.kla_fn "<lambda>" (X.env.qual ++ "<lambda>") params body scope (cloFrom X.env.cells scope.names []) pm (.ref c') ctv) ⟨[u], []⟩ = pure [(a, u)])
    (hbody : ∀ (A : Around) (outer : List Env) (s : Shared) (H : Hp), Room k (A.deeper (lamEnv X scope s.heap.objs.size f c')) → PE (lamCx X A outer s H (fun _ _ _ => False) scope f c') body tb) (ht : tb (σ.set i (some x)) H Q) :
    wpAny (model X.prog X.w) X.A.in1.in1 (call (.ref f) [u]) (EP (in2 X) pins σ Q) (fun _ _ => False) s := by
  have J := inv_out2 I
  obtain ⟨⟨oc, vs, t, hoc, hdc, hvc⟩, _, _⟩ := I.hok c' _ hco
  have hr1 : Room (k + 1) X.A.in1.in1 := Room.twice (k := k + 1) hr
  have rc : codeAny (model X.prog X.w) X.A.in1.in1 (.call (.ref f) ⟨[u], []⟩) (CR (L2.CX X.prog X.w) X.stack X.prog X.w H s Q fun _ _ _ => False) s := by
    refine PySem.W.kla_callFunE hr1.depth hf rfl L.co L.gen rfl ⟨c', oc, vs, t, rfl, hoc, hdc, hvc⟩ ?_
    rw [hbind]
    refine wpAny_pure (wpAny_newFunctionEnv (fun y hy => (L.own y hy).1) (fun y hy => by rw [List.mem_singleton.mp hy]; exact L.par) (fun h₁ hns hsb => ⟨I.nolimit.fresh _ hsb, ?_⟩) L.kind)
    show codeAny _ _ (.expr body (lamEnv X scope s.heap.objs.size f c')) _ _
    have kp : ∀ b o, s.heap.get? b = some o → h₁.get? b = some o := fun b o e => hsb.extBut b o (Nat.ne_of_lt (Heap.lt_size e)) (Heap.get?_push_of_some _ e)
    have B := lam_in (tk := s.toks + ([(a, u)] : List (Str × Value)).length) (A := X.A.in1.in1) (outer := X.stack) (E := fun _ _ _ => False) (f := f) (c' := c') J hN L hi rx (s1 := s) (HZ := H) J.env0.in1.in1 hr1.hd Un.refl hns kp
    refine PySem.W.kla_codeExpr (wpAny_mono ((hbody _ _ s H (hr1.deeper _)).run [] _ _ H Q B ht) (fun v s' hq => ?_) fun e s' hq => hq)
    obtain ⟨w', H', J', rv, q⟩ := hq
    exact ⟨w', H', J'.os, J'.bare, J'.base, J'.hok, rv, q⟩
  refine wpAny_call (codeAny_mono rc fun r s' hq => ?_)
  cases r with
  | error e =>
    obtain ⟨_, _, _, _, _, _, _, _, _, _, _, _, z⟩ := hq
    exact z.elim
  | ok fl =>
    cases fl with
    | ret w' =>
      obtain ⟨v, H', I', rv, q⟩ := J.after hq
      exact ⟨v, H', inv_in2 I', rv, q⟩
    | next => exact hq.elim
    | brk => exact hq.elim
    | cont => exact hq.elim
/-- a wish for one value -/
def one (q : V → Hp → Prop) : List V → Hp → Prop
  | [x], H => q x H
  | _, _ => False
theorem one_of {q : V → Hp → Prop} {vs : List V} {H : Hp} (h : one q vs H) : ∃ x, vs = [x] ∧ q x H := by
  match vs, h with
  | [x], h => exact ⟨x, rfl, h⟩
/-- what is asked of a sort by a lambda, behind what is sorted: tables T, slot i the parameter's, tb the body's reading -/
def SrtAsk (K : PySem.W.Frag) (T : List (Addr × Str)) (i : Nat) (tb : TE) (β : Type) (k : β → PyData) (v : β → V) (bs : List β) (σ : L2.St) (H : Hp) (Q : VK) : Prop :=
  AllAlike (bs.map k) ∧ Sortable (bs.map k) ∧ (∀ b ∈ bs, (k b).depth ≤ 32) ∧ Tabs T H ∧ ∀ H2, ExtN H H2 → Tabs T H2 →
    (∀ b ∈ bs, ∀ H3, Same H2 H3 → tb (σ.set i (some (v b))) H3 fun y H4 => Same H3 H4 ∧ Dt K H4 y (k b)) ∧ ∀ p H3, Same H2 H3 → H3 p = none → Q (.ref p) (upd H3 p (.lst ((bs.mergeSort (dataLe false k)).map v)))
def tSortL (K : PySem.W.Frag) (T : List (Addr × Str)) (i : Nat) (te tb : TE) : TE := fun σ H Q => te σ H fun x H1 => ∃ (l : Addr) (β : Type) (k : β → PyData) (v : β → V) (bs : List β), x = .ref l ∧ SqL K H1 l (bs.map v) ∧ SrtAsk K T i tb β k v bs σ H1 Q
def tSortV (K : PySem.W.Frag) (T : List (Addr × Str)) (i : Nat) (te tb : TE) : TE := fun σ H Q => te σ H fun x H1 => ∃ (d : Addr) (kvs : List (Key × V)) (β : Type) (k : β → PyData) (v : β → V) (bs : List β), x = .ref d ∧ H1 d = some (.dK kvs) ∧ kvs.map (·.2) = bs.map v ∧ SrtAsk K T i tb β k v bs σ H1 Q
theorem _root_.L2.SqL.extN {K : PySem.W.Frag} {H H' : Hp} {a : Addr} {xs : List V} (e : ExtN H H') (h : SqL K H a xs) : SqL K H' a xs := by
  rcases h with (h | ⟨o, h⟩) | h
  · exact .inl (.inl (e _ _ h fun _ z => nomatch z))
  · exact .inl (.inr ⟨o, e _ _ h fun _ z => nomatch z⟩)
  · exact .inr h
/-- the lambda is made, the sort goes by it -/
theorem srt_lam {T : List (Addr × Str)} {c P : Addr} {params : Arguments} {body : Expr} {scope : Scope} {lpos : Pos} {a : Str} {i kk : Nat} {tb : TE} {β : Type} {k : β → PyData} {v : β → V} {bs : List β} {Q : VK} {Z : Value → Shared → Prop} (I : Inv X pins σ H s) (hN : X.N.Nodup) (hi : X.N[i]? = some a)
    (TB : TabB X.base X.mg c P) (hcode : X.env.code = .ref c) (hmT : (P, X.env.qual ++ "<lambda>") ∈ T) (hu : ∀ p ∈ T, p.1 = P → p.2 = X.env.qual ++ "<lambda>") (hr : Room (kk + 3) X.A) (L : Lam1 X.env.scope scope a) (hdef : defaultsOf params X.env = ([], []))
    (hbind : ∀ (q : Str) (cl : List (Str × Addr)) (pm cv ctv u : Value), bindArgs (PySem.W.kla_fn "<lambda>" q params body scope cl pm cv ctv) ⟨[u], []⟩ = pure [(a, u)])
    (hbody : ∀ (A : Around) (outer : List Env) (s : Shared) (H : Hp) (f c' : Addr), Room kk (A.deeper (lamEnv X scope s.heap.objs.size f c')) → PE (lamCx X A outer s H (fun _ _ _ => False) scope f c') body tb)
    (ask : SrtAsk X.K T i tb β k v bs σ H Q)
    (go : ∀ (f : Addr) (fo : Obj) (H1 : Hp) (s' : Shared), Inv X ((f, fo) :: pins) σ H1 s' → ExtN H H1 → (∀ b ∈ bs, X.A.units + 2 + (k b).depth < cLine) → (∀ b ∈ bs, KeyTurn X σ H1 ((f, fo) :: pins) (.ref f) (v b) (k b)) →
      (∀ p H3, Same H1 H3 → H3 p = none → Q (.ref p) (upd H3 p (.lst ((bs.mergeSort (dataLe false k)).map v)))) → Z (.ref f) s') : wpAny (model X.prog X.w) X.A (eval (.Lambda params body scope lpos) X.env) Z X.xe s := by
  obtain ⟨h1, h2, h3, h4, h5⟩ := ask
  refine lam_make2 I TB hcode hmT hu h4 hdef (L.has I.ok) fun f c' pm ctv H1 s' I1 eN T1 hf hfn hfr hco => ?_
  obtain ⟨hb, hq⟩ := h5 H1 eN T1
  have hst : ∀ b ∈ frs X.stack, f ≠ b := fun b hb z => hfr (by rw [z]; exact hb)
  have nl : f ≠ X.env.locals ∧ f ∉ X.fs := by
    rcases I1.ok.stk with e | ⟨e, hfl⟩
    · refine ⟨fun z => ?_, fun z => hfr (by rw [e]; exact z)⟩
      obtain ⟨m, ⟨o, es, ep, ho, hd, _⟩, _⟩ := I1.loc
      rw [← z, hf] at ho
      rw [← Option.some.inj ho] at hd
      cases hd
    · refine ⟨fun z => hst X.env.locals ?_ z, fun z => hfr ?_⟩
      · rw [e]
        exact List.mem_filterMap.mpr ⟨X.env, List.mem_cons_self, hfl⟩
      · rw [e]
        obtain ⟨y, hy, q⟩ := List.mem_filterMap.mp z
        exact List.mem_filterMap.mpr ⟨y, List.mem_cons_of_mem _ hy, q⟩
  have I2 : Inv X ((f, lamO X params body scope pm ctv c') :: pins) σ H1 s' := I1.pins_of fun p hp => by
    rcases List.mem_cons.mp hp with z | z
    · rw [z]
      exact ⟨hf, hfn, nl.1, nl.2, fun w z => nomatch z⟩
    · exact I1.pin p (List.mem_append_right _ z)
  refine go f _ H1 s' I2 eN (fun b hbm => ?_) (fun b hbm pins1 H2 s1 u hp J hS ru => ?_) hq
  · have := hr.units
    have := h3 b hbm
    omega
  · have hfp := (J.pin (f, lamO X params body scope pm ctv c') (List.mem_append_right _ (hp _ List.mem_cons_self))).1
    exact lam_turn J hN L hi hfp (hS _ _ hco) hr ru (hbind _ _ _ _ _ _) (fun A outer s H hr2 => hbody A outer s H f c' hr2) (hb b hbm H2 hS)
theorem ep_unpin {p : Addr × Obj} {Q : VK} {u : Value} {s' : Shared} (h : EP X (p :: pins) σ Q u s') : EP X pins σ Q u s' :=
  let ⟨v, H', J, r, q⟩ := h
  ⟨v, H', J.pins_of fun y hy => J.pin y (List.mem_append_right _ (List.mem_cons_of_mem _ hy)), r, q⟩
/-- sorted(e, key=lambda a: body), e a list -/
theorem pe_sortL {T : List (Addr × Str)} {c P : Addr} {e : Expr} {te : TE} {params : Arguments} {body : Expr} {scope : Scope} {p pos kpos lpos : Pos} {a : Str} {i kk : Nat} {tb : TE} (hg : Gl X "sorted") (hm : X.mg "sorted" = none) (ha : PA X [e] (tCons te tNil)) (hN : X.N.Nodup) (hi : X.N[i]? = some a)
    (TB : TabB X.base X.mg c P) (hcode : X.env.code = .ref c) (hmT : (P, X.env.qual ++ "<lambda>") ∈ T) (hu : ∀ p ∈ T, p.1 = P → p.2 = X.env.qual ++ "<lambda>") (hr : Room (kk + 3) X.A) (L : Lam1 X.env.scope scope a) (hdef : defaultsOf params X.env = ([], []))
    (hbind : ∀ (q : Str) (cl : List (Str × Addr)) (pm cv ctv u : Value), bindArgs (PySem.W.kla_fn "<lambda>" q params body scope cl pm cv ctv) ⟨[u], []⟩ = pure [(a, u)])
    (hbody : ∀ (A : Around) (outer : List Env) (s : Shared) (H : Hp) (f c' : Addr), Room kk (A.deeper (lamEnv X scope s.heap.objs.size f c')) → PE (lamCx X A outer s H (fun _ _ _ => False) scope f c') body tb)
    (hst : backTo pos (starEach [e] X.env) = (false, eval e X.env) :: backTo pos (starEach [] X.env) := by rfl) :
    PE X (.Call (.Name "sorted" p) [e] [⟨some "key", .Lambda params body scope lpos, kpos⟩] pos) (tSortL X.K T i te tb) := by
  refine ⟨fun pins s σ H Q I h => ?_⟩
  refine wpAny_Call_Name_kw (ld_blt I hg hm PyProof.Rows.boot_sorted ?_)
  refine PyProof.Rows.callWith_kw (thn (ha.run pos pins s σ H (one fun x H1 => ∃ (l : Addr) (β : Type) (k : β → PyData) (v : β → V) (bs : List β), x = .ref l ∧ SqL X.K H1 l (bs.map v) ∧ SrtAsk X.K T i tb β k v bs σ H1 Q) I h) fun us s1 hq => ?_) hst (by rw [hst]; rfl) rfl rfl
  obtain ⟨vs, H1, I1, r1, q1⟩ := hq
  obtain ⟨x, rfl, l, β, k, v, bs, rfl, hl, ask⟩ := one_of q1
  obtain ⟨u, rfl, ru⟩ := vals1 r1
  obtain rfl : u = Value.ref l := ru
  refine wpAny_evalAll_cons (wpAny_bind (srt_lam I1 hN hi TB hcode hmT hu hr L hdef hbind hbody ask fun f fo H2 s2 I2 eN hd turn q2 => wpAny_bind (wpAny_standAt (wpAny_pure (wpAny_evalAll_nil ?_)))))
  exact thn (srt_key k v bs I2 (L2.SqL.extN eN hl) ask.1 ask.2.1 hd turn q2) fun _ _ y => ep_unpin y
/-- sorted(e.values(), key=lambda a: body), e a dict -/
theorem pe_sortV {T : List (Addr × Str)} {c P : Addr} {e : Expr} {te : TE} {params : Arguments} {body : Expr} {scope : Scope} {p pos kpos lpos apos cpos : Pos} {a : Str} {i kk : Nat} {tb : TE} (hcalm : X.calm = true) (hg : Gl X "sorted") (hm : X.mg "sorted" = none) (he : PE X e te) (hN : X.N.Nodup) (hi : X.N[i]? = some a)
    (TB : TabB X.base X.mg c P) (hcode : X.env.code = .ref c) (hmT : (P, X.env.qual ++ "<lambda>") ∈ T) (hu : ∀ p ∈ T, p.1 = P → p.2 = X.env.qual ++ "<lambda>") (hr : Room (kk + 3) X.A) (L : Lam1 X.env.scope scope a) (hdef : defaultsOf params X.env = ([], []))
    (hbind : ∀ (q : Str) (cl : List (Str × Addr)) (pm cv ctv u : Value), bindArgs (PySem.W.kla_fn "<lambda>" q params body scope cl pm cv ctv) ⟨[u], []⟩ = pure [(a, u)])
    (hbody : ∀ (A : Around) (outer : List Env) (s : Shared) (H : Hp) (f c' : Addr), Room kk (A.deeper (lamEnv X scope s.heap.objs.size f c')) → PE (lamCx X A outer s H (fun _ _ _ => False) scope f c') body tb)
    (hbase : attributeBase e "values" X.env (eval e X.env) = eval e X.env := by rfl) (hline : (apos.endLine == cpos.line) = true := by rfl)
    (hst : backTo pos (starEach [.Call (.Attribute e "values" apos) [] [] cpos] X.env) = (false, eval (.Call (.Attribute e "values" apos) [] [] cpos) X.env) :: backTo pos (starEach [] X.env) := by rfl) :
    PE X (.Call (.Name "sorted" p) [.Call (.Attribute e "values" apos) [] [] cpos] [⟨some "key", .Lambda params body scope lpos, kpos⟩] pos) (tSortV X.K T i te tb) := by
  refine ⟨fun pins s σ H Q I h => ?_⟩
  refine wpAny_Call_Name_kw (ld_blt I hg hm PyProof.Rows.boot_sorted ?_)
  refine PyProof.Rows.callWith_kw ?_ hst rfl rfl rfl
  show wpAny _ _ (spliced ((false, eval (.Call (.Attribute e "values" apos) [] [] cpos) X.env) :: backTo pos (starEach [] X.env))) _ _ s
  refine Calls.spliced_cons (wpAny_Call_method (T := "dict") (id := "dict.values") hbase rfl hline F.plainAttrs_dict F.slot_dict_values F.type_dict_values (thn (he.run pins s σ H _ I h) fun u s1 hq => ?_))
  obtain ⟨x, H1, I1, rx, d, kvs, β, k, v, bs, rfl, hd, hkv, ask⟩ := hq
  obtain rfl : u = Value.ref d := rx
  obtain ⟨z, lo, vs, rel, dd⟩ := dk_rd I1.hok (Rd.of hd)
  have I2 : Inv X ((s1.heap.objs.size, { cls := .type "dict_values", data := .fields #[.ref d] }) :: pins) σ H1 { s1 with heap := s1.heap.push { cls := .type "dict_values", data := .fields #[.ref d] } } :=
    ClX.pin_new (t' := s1.toks) I1 (fun b o q => Heap.get?_push_of_some _ q) (Nat.le_refl _) (Heap.get?_push_size _ rfl) fun _ q => nomatch q
  refine ⟨dd.typeIs, dd.mapOf.noDict, ?_⟩
  refine method_meetsIn F.slot_dict_values F.entry_dict_values rfl (PySem.evalArgs_none ⟨rfl, dd.typeIs, F.args_dict_values_1 _, _, meets_dict_values (mixKind X.prog X.w) d lo, ⟨vs, dd⟩, ?_⟩)
  refine Calls.spliced_nil ?_
  refine wpAny_evalAll_cons (wpAny_bind (srt_lam I2 hN hi TB hcode hmT hu hr L hdef hbind hbody ask fun f fo H2 s2 I3 eN hd2 turn q2 => wpAny_bind (wpAny_standAt (wpAny_pure (wpAny_evalAll_nil ?_)))))
  have hv : s2.heap.IsValuesView s1.heap.objs.size d := ⟨_, (I3.pin (s1.heap.objs.size, { cls := .type "dict_values", data := .fields #[.ref d] }) (List.mem_append_right _ (List.mem_cons_of_mem _ List.mem_cons_self))).1, rfl, rfl⟩
  exact thn (srt_vals k v bs hcalm I3 (eN _ _ hd fun _ z => nomatch z) hv hkv ask.1 ask.2.1 hd2 turn q2) fun _ _ y => ep_unpin (ep_unpin y)
end
end LH
end

section
set_option Elab.async false
set_option linter.all false
set_option maxRecDepth 100000
set_option maxHeartbeats 4000000
/-! sorted of data; of a dict's items -/
namespace LH
open PySem PySem.Spec PyProof.Rows L2 PySem.W
section
variable {X : Cx} {pins : List (Addr × Obj)} {σ : L2.St} {H : Hp} {s : Shared}
/-- the collected values are data -/
def DatV (K : PySem.W.Frag) (H : Hp) {β : Type} (v : β → V) (enc : β → PyData) (bs : List β) : Prop := ∀ b ∈ bs, Dt K H (v b) (enc b)
theorem each_dat {β : Type} {v : β → V} {enc : β → PyData} (I : Inv X pins σ H s) : ∀ {bs : List β} {us : List Value}, EachIs (fun (u : Value) (b : β) => RelV (v b) u) us bs → DatV X.K H v enc bs → EachIs (fun u b => ∃ as, Reads s.heap u (enc b) as) us bs
  | _, _, .nil, _ => .nil
  | b :: bs, _, .cons r rs, h => .cons (Dp.reads I _ _ _ (h b List.mem_cons_self).dp r) (each_dat I rs fun c hc => h c (List.mem_cons_of_mem _ hc))
/-- the sort without a key, of a new list at the heap's end -/
theorem srt_plain {β : Type} (v : β → V) (enc : β → PyData) (bs : List β) {vs : List Value} {Q : VK} {E' : Value → Shared → Prop} (I : Inv X pins σ H s) (rv : Vals (bs.map v) vs) (hZ : vs.length ≤ sizeLine) (hd : DatV X.K H v enc bs) (hal : AllAlike (bs.map enc)) (hs : Sortable (bs.map enc)) (hu : ∀ b ∈ bs, X.A.units + 2 + (enc b).depth < cLine)
    (q : ∀ p, H p = none → Q (.ref p) (upd H p (.lst ((bs.mergeSort (dataLe false enc)).map v)))) :
    wpAny (model X.prog X.w) X.A.in1.in1 (Builtin.«list.sort» ⟨[.ref s.heap.objs.size], []⟩) (fun z s' => z = .done (.ret .none) ∧ EP X pins σ Q (.ref s.heap.objs.size) s') E' { s with heap := s.heap.push (seqObj "list" vs.toArray 0) } := by
  have nA : H s.heap.objs.size = none := I.hok.fresh (Nat.le_refl _)
  have ho : (s.heap.push (seqObj "list" vs.toArray 0)).get? s.heap.objs.size = some (seqObj "list" vs.toArray 0) := Heap.get?_push_size _ rfl
  have k1 : ∀ b o, s.heap.get? b = some o → (sortingHeap (s.heap.push (seqObj "list" vs.toArray 0)) s.heap.objs.size vs).get? b = some o := fun b o e => sortingHeap_old (Nat.ne_of_lt (Heap.lt_size e)) (Heap.get?_push_of_some _ e)
  have I1 : Inv X pins σ H { s with heap := sortingHeap (s.heap.push (seqObj "list" vs.toArray 0)) s.heap.objs.size vs } := I.kept (t' := s.toks) k1
  have e0 := vals_perm rv
  have er := each_dat I1 e0 hd
  have er0 : EachIs (fun u b => ∃ as, Reads (sortingHeap (s.heap.push (seqObj "list" vs.toArray 0)) s.heap.objs.size vs) u (enc b) as) vs bs := er
  refine list_sort_vals ho (SortsAt.data (s := { s with heap := sortingHeap (s.heap.push (seqObj "list" vs.toArray 0)) s.heap.objs.size vs }) (each_map (R := fun u d => ∃ as, Reads (sortingHeap (s.heap.push (seqObj "list" vs.toArray 0)) s.heap.objs.size vs) u d as) enc er0) hal hs fun d hd => ?_) hZ ⟨rfl, ?_⟩
  · obtain ⟨b, hb, rfl⟩ := List.mem_map.mp hd
    exact hu b hb
  · have eo := sortVals_data false e0 er0 hal
    have hol : ((bs.mergeSort (dataLe false enc)).map v).length ≤ sizeLine := by
      rw [List.length_map, (List.mergeSort_perm _ _).length_eq, ← List.length_map (f := v), rv.length]
      exact hZ
    obtain ⟨c, hc⟩ := sortedHeap_at (out := (sortVals (dataKind (sortingHeap (s.heap.push (seqObj "list" vs.toArray 0)) s.heap.objs.size vs) (bs.map enc)) false vs vs).toArray) ho
    refine ⟨.ref _, upd H s.heap.objs.size (.lst ((bs.mergeSort (dataLe false enc)).map v)), I.laid (t' := s.toks) (fun b o e => ?_) (Nat.le_refl _) ⟨hol, _, c, vals_each eo, hc⟩, rfl, q _ nA⟩
    have hb : b ≠ s.heap.objs.size := Nat.ne_of_lt (Heap.lt_size e)
    have z := k1 b o e
    unfold sortedHeap
    rw [Heap.get?_update_ne _ _ _ _ hb]
    exact z
/-- sorted of a list of data -/
def rSortD (K : PySem.W.Frag) : List V → Hp → VK → Prop := fun xs H Q => ∃ (l : Addr) (β : Type) (v : β → V) (enc : β → PyData) (bs : List β), xs = [.ref l] ∧ SqL K H l (bs.map v) ∧ DatV K H v enc bs ∧ AllAlike (bs.map enc) ∧ Sortable (bs.map enc) ∧ (∀ b ∈ bs, (enc b).depth ≤ 32) ∧
  ∀ p, H p = none → Q (.ref p) (upd H p (.lst ((bs.mergeSort (dataLe false enc)).map v)))
theorem cr_sortD {k : Nat} (hr : Room k X.A) : CallR X (.builtin "sorted") (rSortD X.K) := by
  intro pins s σ H xs us Q I r h
  obtain ⟨l, β, v, enc, bs, rfl, hl, hd, hal, hs, hdp, q⟩ := h
  obtain rfl := Vals.ref1 r
  obtain ⟨vs, rv, pl, hz⟩ := I.list hl
  have hZ : vs.length ≤ sizeLine := by rw [← rv.length]; exact hz
  have e0 := vals_perm rv
  refine sorted_data (R := fun (u : Value) (b : β) => RelV (v b) u) (enc := enc) (bs := bs) pl.isList e0 (each_dat I e0 hd) hal hs (by rw [← e0.length]; exact hZ) (fun b hb => ?_) fun out ho eo => ?_
  · have := hr.units
    have := hdp b hb
    omega
  · have hol : ((bs.mergeSort (dataLe false enc)).map v).length ≤ sizeLine := by
      rw [List.length_map, (List.mergeSort_perm _ _).length_eq, ← e0.length]
      exact hZ
    obtain ⟨c, hc⟩ := sortedAll_at s.heap vs (List.toArray out)
    exact ⟨.ref _, upd H (s.heap.objs.size + 1) (.lst ((bs.mergeSort (dataLe false enc)).map v)), I.laid (t' := s.toks) (fun _ _ => sortedAll_old) (Nat.le_succ _) ⟨hol, _, c, vals_each eo, hc⟩, rfl, q _ (I.hok.fresh (Nat.le_succ _))⟩
/-- sorted(e.items()) -/
def tSortI (K : PySem.W.Frag) (te : TE) : TE := fun σ H Q => te σ H fun x H1 => ∃ (d : Addr) (kvs : List (Key × V)) (enc : Key × V → PyData × PyData), x = .ref d ∧ H1 d = some (.dK kvs) ∧ (∀ p ∈ kvs, Dt K H1 (kV p.1) (enc p).1 ∧ Dt K H1 p.2 (enc p).2) ∧
  AllAlike (kvs.map fun p => .tuple [(enc p).1, (enc p).2]) ∧ (∀ p ∈ kvs, (PyData.tuple [(enc p).1, (enc p).2]).depth ≤ 32) ∧
  ∀ H2 p zs, Same H1 H2 → H1 p = none → H2 p = some (.lst zs) → Dts K H2 zs ((kvs.mergeSort (dataLe false fun p => .tuple [(enc p).1, (enc p).2])).map fun p => .tuple [(enc p).1, (enc p).2]) → Q (.ref p) H2
theorem dts_of {K : PySem.W.Frag} {H : Hp} {β : Type} {v : β → V} {enc : β → PyData} : ∀ {bs : List β}, (∀ b ∈ bs, Dt K H (v b) (enc b)) → Dts K H (bs.map v) (bs.map enc)
  | [], _ => .nil
  | b :: bs, h => .cons (h b List.mem_cons_self) (dts_of fun c hc => h c (List.mem_cons_of_mem _ hc))
theorem pe_sortI {e : Expr} {te : TE} {p pos apos cpos : Pos} {kr : Nat} (hr : Room kr X.A) (hcalm : X.calm = true) (hg : Gl X "sorted") (hm : X.mg "sorted" = none) (he : PE X e te)
    (hbase : attributeBase e "items" X.env (eval e X.env) = eval e X.env := by rfl) (hline : (apos.endLine == cpos.line) = true := by rfl)
    (hst : starEach [.Call (.Attribute e "items" apos) [] [] cpos] X.env = (false, eval (.Call (.Attribute e "items" apos) [] [] cpos) X.env) :: starEach [] X.env := by rfl) (hpl : (backTo pos (starEach [] X.env)).any (·.1) = false := by rfl) :
    PE X (.Call (.Name "sorted" p) [.Call (.Attribute e "items" apos) [] [] cpos] [] pos) (tSortI X.K te) := by
  refine ⟨fun pins s σ H Q I h => ?_⟩
  refine wpAny_Call_Name_kw (ld_blt I hg hm PyProof.Rows.boot_sorted (PyProof.Rows.callWith_builtin1 ?_ hst hpl))
  rw [hst]
  show wpAny _ _ (spliced ((false, eval (.Call (.Attribute e "items" apos) [] [] cpos) X.env) :: backTo pos (starEach [] X.env))) _ _ s
  refine Calls.spliced_cons (wpAny_Call_method (T := "dict") (id := "dict.items") hbase rfl hline F.plainAttrs_dict F.slot_dict_items F.type_dict_items (thn (he.run pins s σ H _ I h) fun u s1 hq => ?_))
  obtain ⟨x, H1, I1, rx, d, kvs, enc, rfl, hd, hdat, hal, hdp, q⟩ := hq
  obtain rfl : u = Value.ref d := rx
  obtain ⟨z, lo, vs, rel, dd⟩ := dk_rd I1.hok (Rd.of hd)
  obtain ⟨ep, hat⟩ := dd.dictAt
  have I2 : Inv X pins σ H1 { s1 with heap := s1.heap.push { cls := .type "dict_items", data := .fields #[.ref d] } } := I1.kept (t' := s1.toks) fun b ob y => Heap.get?_push_of_some _ y
  refine ⟨dd.typeIs, dd.mapOf.noDict, ?_⟩
  refine method_meetsIn F.slot_dict_items F.entry_dict_items rfl (PySem.evalArgs_none ⟨rfl, dd.typeIs, F.args_dict_items_1 _, _, meets_dict_items (mixKind X.prog X.w) d lo, ⟨vs, dd⟩, ?_⟩)
  refine Calls.spliced_nil ?_
  have lk : kvs.length = vs.length := Paired.length rel
  refine Calls.call_function_entry kind_sorted plain_sorted entry_sorted (args_sorted1 _) ?_
  unfold Builtin.«sorted»
  refine wpAny_bind (m := checkCount "sorted" 1 1 _) (wpAny_pure (wpAny_bind ?_))
  refine kdx_collect (A := X.A.in1) (knd := mixKind X.prog X.w) (kvs := vs) (ep := ep) (I1.ok.hd hcalm) ⟨_, Heap.get?_push_size _ rfl, rfl, rfl⟩ (hat.push _) (by omega) fun h' tk as hk hl hG => ?_
  refine wpAny_bind (wpAny_newList ?_ (by rw [List.length_map]; omega))
  -- the pairs are tracked
  have nd : as.Nodup := List.Pairwise.imp (fun {a b} (h : a < b) => Nat.ne_of_lt h) hG.rise
  have new : ∀ t ∈ as, H1 t = none := fun t ht => I2.hok.fresh (Nat.le_of_lt (hG.above t ht))
  have atP := LiI.putT_at as kvs H1 (by omega) nd
  have sm : Same H1 (LiI.putT H1 as kvs) := fun b u y => by
    rw [LiI.putT_off as kvs _ (fun m => by rw [new b m] at y; cases y)]
    exact y
  have J : Inv X pins σ (LiI.putT H1 as kvs) ⟨h', s1.gens, s1.drawn, tk, s1.os⟩ := by
    refine I2.call' (ch := []) rfl ⟨fun b o y _ _ _ => hk b o y, fun b o y _ _ _ => ⟨o.slots, hk b o y⟩, fun b o y n _ => ?_, fun b o y _ => ⟨o, hk b o y⟩, fun b xs y => sm b _ y, fun b o u y => sm b _ y, fun b ps y => ⟨#[], by rw [sm b _ y]; simp⟩⟩ (fun b u y => ?_) I2.bare fun b m => by simp at m
    · rw [LiI.putT_off as kvs _ fun m => absurd (Heap.lt_size y) (Nat.not_lt.mpr (Nat.le_of_lt (hG.above b m)))]
      exact n
    · by_cases hb : b ∈ as
      · obtain ⟨j, pk, e1, e2, e3⟩ := LiI.paired_ix atP hb
        rw [e3] at y
        cases y
        obtain ⟨key, k, x, f1, f2, f3⟩ := hG.pairs j b e1
        obtain ⟨qv, g1, g2, g3⟩ := LiI.paired_get rel e2
        rw [f1] at g1
        cases g1
        have rk : RelV (kV pk.1) key := by
          rw [g2]
          exact relV_key (show keyIs k key = true from f2)
        exact ⟨by show 2 ≤ sizeLine; decide, [key, x], .cons rk (.cons g3 .nil), ⟨_, f3, rfl, _, rfl⟩⟩
      · rw [LiI.putT_off as kvs _ hb] at y
        exact (I2.hok b u y).stay (fun d v _ m => hk d v m) (fun d m => sm d _ m) fun d xs m => sm d _ m
  have key : ∀ (as : List Addr) (kvs : List (Key × V)) (G : Hp), Paired (fun (t : Addr) (p : Key × V) => G t = some (.tup [kV p.1, p.2])) as kvs → ∃ ps : List (Addr × (Key × V)), ps.map (·.1) = as ∧ ps.map (·.2) = kvs ∧ ∀ r ∈ ps, G r.1 = some (.tup [kV r.2.1, r.2.2]) := by
    intro as kvs G h
    induction h with
    | nil => exact ⟨[], rfl, rfl, fun r m => nomatch m⟩
    | @cons a b l₁ l₂ h0 _ ih =>
      obtain ⟨ps, e1, e2, e3⟩ := ih
      refine ⟨(a, b) :: ps, by rw [List.map_cons, e1], by rw [List.map_cons, e2], fun r m => ?_⟩
      rcases List.mem_cons.mp m with y | y
      · rw [y]
        exact h0
      · exact e3 r y
  obtain ⟨ps, e1, e2, e3⟩ := key as kvs _ atP
  have dat : DatV X.K (LiI.putT H1 as kvs) (fun r : Addr × (Key × V) => V.ref r.1) (fun r => .tuple [(enc r.2).1, (enc r.2).2]) ps := fun r m => by
    have m2 : r.2 ∈ kvs := by
      rw [← e2]
      exact List.mem_map.mpr ⟨r, m, rfl⟩
    obtain ⟨d1, d2⟩ := hdat r.2 m2
    exact .tup (SqT.of (e3 r m)) (.cons (d1.keep (KeepT.same sm)) (.cons (d2.keep (KeepT.same sm)) .nil))
  have em : ps.map (fun r => PyData.tuple [(enc r.2).1, (enc r.2).2]) = kvs.map fun p => PyData.tuple [(enc p).1, (enc p).2] := by
    rw [← e2, List.map_map]
    rfl
  have rv : Vals (ps.map fun r => V.ref r.1) (as.map Value.ref) := by
    have z := LiI.vals_refs as
    rw [← e1, List.map_map] at z
    rw [← e1]
    exact z
  refine wpAny_bind (wpAny_holding (wpAny_call_entry slot_list_sort ⟨_, Heap.get?_push_size _ rfl, rfl⟩ entry_list_sort ?body (args_list_sort _)))
  case body =>
    have fin := srt_plain (s := ⟨h', s1.gens, s1.drawn, tk, s1.os⟩) (Q := Q) (E' := X.xe) (fun r : Addr × (Key × V) => V.ref r.1) (fun r => .tuple [(enc r.2).1, (enc r.2).2]) ps J rv (by rw [List.length_map]; omega) dat (by rw [em]; exact hal) (.inl fun d hd => ?_) (fun b hb => ?_) fun p hp => ?_
    · refine wpAny_mono fin (fun z s' hz => ?_) fun _ _ y => y
      obtain ⟨rfl, hq⟩ := hz
      exact ⟨_, rfl, wpAny_pure ⟨_, rfl, hq⟩⟩
    · obtain ⟨r, _, rfl⟩ := List.mem_map.mp hd
      exact ⟨_, _, rfl⟩
    · have m2 : b.2 ∈ kvs := by
        rw [← e2]
        exact List.mem_map.mpr ⟨b, hb, rfl⟩
      have := hr.units
      have := hdp b.2 m2
      omega
    · have es : (ps.mergeSort (dataLe false fun r => PyData.tuple [(enc r.2).1, (enc r.2).2])).map (fun r => PyData.tuple [(enc r.2).1, (enc r.2).2]) = (kvs.mergeSort (dataLe false fun p => .tuple [(enc p).1, (enc p).2])).map fun p => .tuple [(enc p).1, (enc p).2] := by
        have z := List.map_mergeSort (r := dataLe false fun r : Addr × (Key × V) => PyData.tuple [(enc r.2).1, (enc r.2).2]) (s := dataLe false fun p : Key × V => PyData.tuple [(enc p).1, (enc p).2]) (f := fun r : Addr × (Key × V) => r.2) (l := ps) (fun a _ b _ => rfl)
        rw [← e2, ← z, List.map_map]
        rfl
      refine q _ p _ (sm.trans (same_upd hp)) ((sm.free hp)) upd_same ?_
      rw [← es]
      exact dts_of fun r m => (dat r ((List.mergeSort_perm _ _).mem_iff.mp m)).keep (KeepT.same (same_upd hp))
end
end LH
end

section
set_option Elab.async false
set_option linter.all false
set_option maxRecDepth 100000
set_option maxHeartbeats 4000000
/-! a house in the heap -/
namespace LH
open PySem PySem.Spec PyProof.Rows L2
/-! ### what stands in a house, with the places of its objects -/
structure JobS where
  rank : Int
  til : Int
  steps : List Str
  needs : List Nat
  most : Int
  fin : Nat
  tries : Nat
  share : Int
  ended : Option Str
  held : Option Nat
  free : Int
structure JobG extends JobS where
  a : Addr
  dx : Addr
  t : Addr
  n : Addr
structure LeaseS where
  num : Nat
  work : Nat
  step : Nat
  worker : Str
  til : Int
structure LeaseG extends LeaseS where
  a : Addr
  dx : Addr
structure ClockS where
  rank : Int
  steps : List Str
  tries : Int
  coming : Int
  every : Int
  left : Int
structure ClockG extends ClockS where
  a : Addr
  dx : Addr
  t : Addr
structure RowS where
  kind : Str
  most : Int
  rate : Int
  cnt : Int
  ticks : List Int
structure RowG extends RowS where
  a : Addr
  tk : Addr
structure StaffG where
  name : Str
  kinds : List Str
  t : Addr
structure HG where
  p : Addr
  dx : Addr
  lim : Addr
  ldx : Addr
  rd : Addr
  jl : Addr
  cd : Addr
  sd : Addr
  cl : Addr
  el : Addr
  here : Int
  hold : Int
  pause : Int
  hands : Int
  age : Int
  rows : List RowG
  jobs : List JobG
  given : Nat
  cnt : List LeaseG
  staff : List StaffG
  clks : List ClockG
  log : List (V × PyData)
def optS : Option Str → V
  | none => .non
  | some x => .str x
def optN : Option Nat → V
  | none => .non
  | some n => .int n
def jobFs (g : JobG) : List (Str × V) := [("rank", .int g.rank), ("until", .int g.til), ("steps", .ref g.t), ("needed", .ref g.n), ("most", .int g.most), ("done_steps", .int g.fin), ("tries", .int g.tries), ("share", .int g.share), ("ended", optS g.ended), ("held", optN g.held), ("free_at", .int g.free)]
def leaseFs (g : LeaseG) : List (Str × V) := [("number", .int g.num), ("work", .int g.work), ("step", .int g.step), ("worker", .str g.worker), ("until", .int g.til)]
def clockFs (g : ClockG) : List (Str × V) := [("rank", .int g.rank), ("steps", .ref g.t), ("tries", .int g.tries), ("coming", .int g.coming), ("every", .int g.every), ("left", .int g.left)]
def houseFs (G : HG) : List (Str × V) := [("here", .int G.here), ("hold", .int G.hold), ("pause", .int G.pause), ("hands", .int G.hands), ("age", .int G.age), ("limits", .ref G.lim), ("jobs", .ref G.jl), ("given", .int G.given), ("counting", .ref G.cd), ("staff", .ref G.sd), ("clocks", .ref G.cl), ("entries", .ref G.el)]
theorem job_rank (g : JobG) : (jobFs g).lookup ("rank" : Str) = some (V.int g.rank) := by kernel_rfl
theorem job_until (g : JobG) : (jobFs g).lookup ("until" : Str) = some (V.int g.til) := by kernel_rfl
theorem job_steps (g : JobG) : (jobFs g).lookup ("steps" : Str) = some (V.ref g.t) := by kernel_rfl
theorem job_needed (g : JobG) : (jobFs g).lookup ("needed" : Str) = some (V.ref g.n) := by kernel_rfl
theorem job_most (g : JobG) : (jobFs g).lookup ("most" : Str) = some (V.int g.most) := by kernel_rfl
theorem job_done_steps (g : JobG) : (jobFs g).lookup ("done_steps" : Str) = some (V.int (g.fin : Nat)) := by kernel_rfl
theorem job_tries (g : JobG) : (jobFs g).lookup ("tries" : Str) = some (V.int (g.tries : Nat)) := by kernel_rfl
theorem job_share (g : JobG) : (jobFs g).lookup ("share" : Str) = some (V.int g.share) := by kernel_rfl
theorem job_ended (g : JobG) : (jobFs g).lookup ("ended" : Str) = some (optS g.ended) := by kernel_rfl
theorem job_held (g : JobG) : (jobFs g).lookup ("held" : Str) = some (optN g.held) := by kernel_rfl
theorem job_free_at (g : JobG) : (jobFs g).lookup ("free_at" : Str) = some (V.int g.free) := by kernel_rfl
theorem job_put_until (g : JobG) (z : Int) : putF ("until" : Str) (V.int z) (jobFs g) = jobFs { g with til := z } := by kernel_rfl
theorem job_put_done_steps (g : JobG) (z : Nat) : putF ("done_steps" : Str) (V.int (z : Nat)) (jobFs g) = jobFs { g with fin := z } := by kernel_rfl
theorem job_put_tries (g : JobG) (z : Nat) : putF ("tries" : Str) (V.int (z : Nat)) (jobFs g) = jobFs { g with tries := z } := by kernel_rfl
theorem job_put_share (g : JobG) (z : Int) : putF ("share" : Str) (V.int z) (jobFs g) = jobFs { g with share := z } := by kernel_rfl
theorem job_put_ended (g : JobG) (z : Option Str) : putF ("ended" : Str) (optS z) (jobFs g) = jobFs { g with ended := z } := by kernel_rfl
theorem job_put_held (g : JobG) (z : Option Nat) : putF ("held" : Str) (optN z) (jobFs g) = jobFs { g with held := z } := by kernel_rfl
theorem job_put_free_at (g : JobG) (z : Int) : putF ("free_at" : Str) (V.int z) (jobFs g) = jobFs { g with free := z } := by kernel_rfl
theorem lease_number (g : LeaseG) : (leaseFs g).lookup ("number" : Str) = some (V.int (g.num : Nat)) := by kernel_rfl
theorem lease_work (g : LeaseG) : (leaseFs g).lookup ("work" : Str) = some (V.int (g.work : Nat)) := by kernel_rfl
theorem lease_step (g : LeaseG) : (leaseFs g).lookup ("step" : Str) = some (V.int (g.step : Nat)) := by kernel_rfl
theorem lease_worker (g : LeaseG) : (leaseFs g).lookup ("worker" : Str) = some (V.str g.worker) := by kernel_rfl
theorem lease_until (g : LeaseG) : (leaseFs g).lookup ("until" : Str) = some (V.int g.til) := by kernel_rfl
theorem lease_put_until (g : LeaseG) (z : Int) : putF ("until" : Str) (V.int z) (leaseFs g) = leaseFs { g with til := z } := by kernel_rfl
theorem clock_rank (g : ClockG) : (clockFs g).lookup ("rank" : Str) = some (V.int g.rank) := by kernel_rfl
theorem clock_steps (g : ClockG) : (clockFs g).lookup ("steps" : Str) = some (V.ref g.t) := by kernel_rfl
theorem clock_tries (g : ClockG) : (clockFs g).lookup ("tries" : Str) = some (V.int g.tries) := by kernel_rfl
theorem clock_coming (g : ClockG) : (clockFs g).lookup ("coming" : Str) = some (V.int g.coming) := by kernel_rfl
theorem clock_every (g : ClockG) : (clockFs g).lookup ("every" : Str) = some (V.int g.every) := by kernel_rfl
theorem clock_left (g : ClockG) : (clockFs g).lookup ("left" : Str) = some (V.int g.left) := by kernel_rfl
theorem clock_put_coming (g : ClockG) (z : Int) : putF ("coming" : Str) (V.int z) (clockFs g) = clockFs { g with coming := z } := by kernel_rfl
theorem clock_put_left (g : ClockG) (z : Int) : putF ("left" : Str) (V.int z) (clockFs g) = clockFs { g with left := z } := by kernel_rfl
theorem house_here (g : HG) : (houseFs g).lookup ("here" : Str) = some (V.int g.here) := by kernel_rfl
theorem house_hold (g : HG) : (houseFs g).lookup ("hold" : Str) = some (V.int g.hold) := by kernel_rfl
theorem house_pause (g : HG) : (houseFs g).lookup ("pause" : Str) = some (V.int g.pause) := by kernel_rfl
theorem house_hands (g : HG) : (houseFs g).lookup ("hands" : Str) = some (V.int g.hands) := by kernel_rfl
theorem house_age (g : HG) : (houseFs g).lookup ("age" : Str) = some (V.int g.age) := by kernel_rfl
theorem house_limits (g : HG) : (houseFs g).lookup ("limits" : Str) = some (V.ref g.lim) := by kernel_rfl
theorem house_jobs (g : HG) : (houseFs g).lookup ("jobs" : Str) = some (V.ref g.jl) := by kernel_rfl
theorem house_given (g : HG) : (houseFs g).lookup ("given" : Str) = some (V.int (g.given : Nat)) := by kernel_rfl
theorem house_counting (g : HG) : (houseFs g).lookup ("counting" : Str) = some (V.ref g.cd) := by kernel_rfl
theorem house_staff (g : HG) : (houseFs g).lookup ("staff" : Str) = some (V.ref g.sd) := by kernel_rfl
theorem house_clocks (g : HG) : (houseFs g).lookup ("clocks" : Str) = some (V.ref g.cl) := by kernel_rfl
theorem house_entries (g : HG) : (houseFs g).lookup ("entries" : Str) = some (V.ref g.el) := by kernel_rfl
theorem house_put_here (g : HG) (z : Int) : putF ("here" : Str) (V.int z) (houseFs g) = houseFs { g with here := z } := by kernel_rfl
theorem house_put_given (g : HG) (z : Nat) : putF ("given" : Str) (V.int (z : Nat)) (houseFs g) = houseFs { g with given := z } := by kernel_rfl
/-! ### the classes -/
abbrev cH (K : PySem.W.Frag) : Addr := He.ga K "House"
abbrev cJ (K : PySem.W.Frag) : Addr := He.ga K "Job"
abbrev cE (K : PySem.W.Frag) : Addr := He.ga K "Lease"
abbrev cC (K : PySem.W.Frag) : Addr := He.ga K "Clock"
abbrev cM (K : PySem.W.Frag) : Addr := He.ga K "Limits"
def refs {α : Type} (f : α → Addr) (l : List α) : List V := l.map fun x => V.ref (f x)
def vstrs (l : List Str) : List V := l.map V.str
def vnats (l : List Nat) : List V := l.map fun n => V.int (n : Nat)
def vints (l : List Int) : List V := l.map V.int
def rowsD (l : List RowG) : List (Key × V) := l.map fun r => (Sum.inr r.kind, V.ref r.a)
def cntD (l : List LeaseG) : List (Key × V) := l.map fun r => (Sum.inl (r.num : Int), V.ref r.a)
def staffD (l : List StaffG) : List (Key × V) := l.map fun r => (Sum.inr r.name, V.ref r.t)
def rowL (r : RowG) : List V := [.int r.most, .int r.rate, .int r.cnt, .ref r.tk]
/-! ### the places -/
def pa0 (G : HG) : List Addr := [G.p, G.lim, G.rd, G.jl, G.cd, G.sd, G.cl, G.el]
def pa1 (l : List RowG) : List Addr := l.flatMap fun r => [r.a, r.tk]
def pa2 (l : List JobG) : List Addr := l.map (·.a)
def pa3 (l : List LeaseG) : List Addr := l.map (·.a)
def pa4 (l : List ClockG) : List Addr := l.map (·.a)
def adr (G : HG) : List Addr := pa0 G ++ (pa1 G.rows ++ (pa2 G.jobs ++ (pa3 G.cnt ++ pa4 G.clks)))
structure JobAt (K : PySem.W.Frag) (H : Hp) (g : JobG) : Prop where
  ob : H g.a = some (.ins (cJ K) g.dx (jobFs g))
  st : SqT K H g.t (vstrs g.steps)
  ne : SqT K H g.n (vnats g.needs)
structure LeaseAt (K : PySem.W.Frag) (H : Hp) (g : LeaseG) : Prop where
  ob : H g.a = some (.ins (cE K) g.dx (leaseFs g))
structure ClockAt (K : PySem.W.Frag) (H : Hp) (g : ClockG) : Prop where
  ob : H g.a = some (.ins (cC K) g.dx (clockFs g))
  st : SqT K H g.t (vstrs g.steps)
structure RowAt (H : Hp) (r : RowG) : Prop where
  ob : H r.a = some (.lst (rowL r))
  tk : H r.tk = some (.lst (vints r.ticks))
/-- a house stands at G.p -/
structure HouseAt (K : PySem.W.Frag) (H : Hp) (G : HG) : Prop where
  ob : H G.p = some (.ins (cH K) G.dx (houseFs G))
  lim : H G.lim = some (.ins (cM K) G.ldx [("rows", .ref G.rd)])
  rd : H G.rd = some (.dK (rowsD G.rows))
  jl : H G.jl = some (.lst (refs (·.a) G.jobs))
  cd : H G.cd = some (.dK (cntD G.cnt))
  sd : H G.sd = some (.dK (staffD G.staff))
  cl : H G.cl = some (.lst (refs (·.a) G.clks))
  el : H G.el = some (.lst (G.log.map (·.1)))
  rows : ∀ r ∈ G.rows, RowAt H r
  jobs : ∀ g ∈ G.jobs, JobAt K H g
  cnt : ∀ l ∈ G.cnt, LeaseAt K H l
  clks : ∀ c ∈ G.clks, ClockAt K H c
  staff : ∀ s ∈ G.staff, SqT K H s.t (vstrs s.kinds)
  log : ∀ e ∈ G.log, Dt K H e.1 e.2
  nd : (adr G).Nodup
/-- a place of a house: a list, a dict, an instance -/
def Wr : HO → Prop
  | .lst _ => True
  | .dK _ => True
  | .ins _ _ _ => True
  | _ => False
theorem KeepT.upd {K : PySem.W.Frag} {H : Hp} {a : Addr} {u o : HO} (h : H a = some u) (w : Wr u) : KeepT K H (upd H a o) := fun b xs z => by
  have ne : ∀ v, H b = some v → ¬ Wr v → b ≠ a := fun v e d q => by
    rw [q, h] at e
    rw [← Option.some.inj e] at d
    exact d w
  rcases z with (z | ⟨ob, z⟩) | z
  · exact .inl (.inl (by rw [upd_ne (ne _ z fun q => q)]; exact z))
  · exact .inl (.inr ⟨ob, by rw [upd_ne (ne _ z fun q => q)]; exact z⟩)
  · exact .inr z
theorem KeepT.new {K : PySem.W.Frag} {H : Hp} {a : Addr} {o : HO} (h : H a = none) : KeepT K H (L2.upd H a o) := KeepT.same (same_upd h)
/-! ### what lies apart -/
section
variable {G : HG}
structure Apart (G : HG) : Prop where
  b : (pa0 G).Nodup
  r : (pa1 G.rows).Nodup
  j : (pa2 G.jobs).Nodup
  c : (pa3 G.cnt).Nodup
  k : (pa4 G.clks).Nodup
  br : ∀ x ∈ pa0 G, ∀ y ∈ pa1 G.rows, x ≠ y
  bj : ∀ x ∈ pa0 G, ∀ y ∈ pa2 G.jobs, x ≠ y
  bc : ∀ x ∈ pa0 G, ∀ y ∈ pa3 G.cnt, x ≠ y
  bk : ∀ x ∈ pa0 G, ∀ y ∈ pa4 G.clks, x ≠ y
  rj : ∀ x ∈ pa1 G.rows, ∀ y ∈ pa2 G.jobs, x ≠ y
  rc : ∀ x ∈ pa1 G.rows, ∀ y ∈ pa3 G.cnt, x ≠ y
  rk : ∀ x ∈ pa1 G.rows, ∀ y ∈ pa4 G.clks, x ≠ y
  jc : ∀ x ∈ pa2 G.jobs, ∀ y ∈ pa3 G.cnt, x ≠ y
  jk : ∀ x ∈ pa2 G.jobs, ∀ y ∈ pa4 G.clks, x ≠ y
  ck : ∀ x ∈ pa3 G.cnt, ∀ y ∈ pa4 G.clks, x ≠ y
theorem apart_of (h : (adr G).Nodup) : Apart G := by
  unfold adr at h
  simp only [List.nodup_append, List.mem_append] at h
  obtain ⟨b, ⟨r, ⟨j, ⟨c, k, ck⟩, jx⟩, rx⟩, bx⟩ := h
  exact ⟨b, r, j, c, k, fun x hx y hy => bx x hx y (.inl hy), fun x hx y hy => bx x hx y (.inr (.inl hy)), fun x hx y hy => bx x hx y (.inr (.inr (.inl hy))), fun x hx y hy => bx x hx y (.inr (.inr (.inr hy))),
    fun x hx y hy => rx x hx y (.inl hy), fun x hx y hy => rx x hx y (.inr (.inl hy)), fun x hx y hy => rx x hx y (.inr (.inr hy)), fun x hx y hy => jx x hx y (.inl hy), fun x hx y hy => jx x hx y (.inr hy), ck⟩
theorem Apart.nd (h : Apart G) : (adr G).Nodup := by
  unfold adr
  simp only [List.nodup_append, List.mem_append]
  exact ⟨h.b, ⟨h.r, ⟨h.j, ⟨h.c, h.k, h.ck⟩, fun x hx y hy => hy.elim (h.jc x hx y) (h.jk x hx y)⟩, fun x hx y hy => hy.elim (h.rj x hx y) fun hy => hy.elim (h.rc x hx y) (h.rk x hx y)⟩,
    fun x hx y hy => hy.elim (h.br x hx y) fun hy => hy.elim (h.bj x hx y) fun hy => hy.elim (h.bc x hx y) (h.bk x hx y)⟩
/-- two of the eight base places -/
theorem Apart.ne (h : Apart G) {i j : Nat} {x y : Addr} (hij : i ≠ j) (hx : (pa0 G)[i]? = some x := by rfl) (hy : (pa0 G)[j]? = some y := by rfl) : x ≠ y := fun e => by
  rw [← e] at hy
  exact hij ((List.getElem_inj h.b).mp ((List.getElem?_eq_some_iff.mp hx).2.trans (List.getElem?_eq_some_iff.mp hy).2.symm))
theorem mi0 {i : Nat} {x : Addr} (hx : (pa0 G)[i]? = some x := by rfl) : x ∈ pa0 G := List.mem_of_getElem? hx
theorem mi1 {r : RowG} (h : r ∈ G.rows) : r.a ∈ pa1 G.rows := List.mem_flatMap.mpr ⟨r, h, by simp⟩
theorem mi1t {r : RowG} (h : r ∈ G.rows) : r.tk ∈ pa1 G.rows := List.mem_flatMap.mpr ⟨r, h, by simp⟩
theorem mi2 {g : JobG} (h : g ∈ G.jobs) : g.a ∈ pa2 G.jobs := List.mem_map.mpr ⟨g, h, rfl⟩
theorem mi3 {g : LeaseG} (h : g ∈ G.cnt) : g.a ∈ pa3 G.cnt := List.mem_map.mpr ⟨g, h, rfl⟩
theorem mi4 {g : ClockG} (h : g ∈ G.clks) : g.a ∈ pa4 G.clks := List.mem_map.mpr ⟨g, h, rfl⟩
end
/-- all that G's house leans on stands in H' as in H -/
theorem HouseAt.mono {K : PySem.W.Frag} {H H' : Hp} {G : HG} (h : HouseAt K H G) (k : ∀ b ∈ adr G, ∀ o, H b = some o → H' b = some o) (t : KeepT K H H') : HouseAt K H' G := by
  have m0 : ∀ {x}, x ∈ pa0 G → x ∈ adr G := fun hx => List.mem_append_left _ hx
  have m1 : ∀ {x}, x ∈ pa1 G.rows → x ∈ adr G := fun hx => List.mem_append_right _ (List.mem_append_left _ hx)
  have m2 : ∀ {x}, x ∈ pa2 G.jobs → x ∈ adr G := fun hx => List.mem_append_right _ (List.mem_append_right _ (List.mem_append_left _ hx))
  have m3 : ∀ {x}, x ∈ pa3 G.cnt → x ∈ adr G := fun hx => List.mem_append_right _ (List.mem_append_right _ (List.mem_append_right _ (List.mem_append_left _ hx)))
  have m4 : ∀ {x}, x ∈ pa4 G.clks → x ∈ adr G := fun hx => List.mem_append_right _ (List.mem_append_right _ (List.mem_append_right _ (List.mem_append_right _ hx)))
  exact ⟨k _ (m0 (mi0 (i := 0))) _ h.ob, k _ (m0 (mi0 (i := 1))) _ h.lim, k _ (m0 (mi0 (i := 2))) _ h.rd, k _ (m0 (mi0 (i := 3))) _ h.jl, k _ (m0 (mi0 (i := 4))) _ h.cd, k _ (m0 (mi0 (i := 5))) _ h.sd, k _ (m0 (mi0 (i := 6))) _ h.cl, k _ (m0 (mi0 (i := 7))) _ h.el,
    fun r hr => ⟨k _ (m1 (mi1 hr)) _ (h.rows r hr).ob, k _ (m1 (mi1t hr)) _ (h.rows r hr).tk⟩, fun g hg => ⟨k _ (m2 (mi2 hg)) _ (h.jobs g hg).ob, t _ _ (h.jobs g hg).st, t _ _ (h.jobs g hg).ne⟩,
    fun l hl => ⟨k _ (m3 (mi3 hl)) _ (h.cnt l hl).ob⟩, fun c hc => ⟨k _ (m4 (mi4 hc)) _ (h.clks c hc).ob, t _ _ (h.clks c hc).st⟩, fun s hs => t _ _ (h.staff s hs), fun e he => (h.log e he).keep t, h.nd⟩
theorem HouseAt.same {K : PySem.W.Frag} {H H' : Hp} {G : HG} (h : HouseAt K H G) (s : Same H H') : HouseAt K H' G := h.mono (fun b _ o e => s b o e) (KeepT.same s)
end LH
end

section
set_option Elab.async false
set_option linter.all false
set_option maxRecDepth 100000
set_option maxHeartbeats 4000000
/-! a house is changed -/
namespace LH
open PySem PySem.Spec PyProof.Rows L2 LamX
section
variable {K : PySem.W.Frag} {H H' : Hp} {G G' : HG}
theorem HouseAt.wr (h : HouseAt K H G) {b : Addr} (hb : b ∈ adr G) : ∃ u, H b = some u ∧ Wr u := by
  unfold adr pa0 pa1 pa2 pa3 pa4 at hb
  simp only [List.mem_append, List.mem_cons, List.mem_flatMap, List.mem_map, List.not_mem_nil, or_false] at hb
  rcases hb with (rfl | rfl | rfl | rfl | rfl | rfl | rfl | rfl) | ⟨r, hr, rfl | rfl⟩ | ⟨g, hg, rfl⟩ | ⟨l, hl, rfl⟩ | ⟨c, hc, rfl⟩
  · exact ⟨_, h.ob, trivial⟩
  · exact ⟨_, h.lim, trivial⟩
  · exact ⟨_, h.rd, trivial⟩
  · exact ⟨_, h.jl, trivial⟩
  · exact ⟨_, h.cd, trivial⟩
  · exact ⟨_, h.sd, trivial⟩
  · exact ⟨_, h.cl, trivial⟩
  · exact ⟨_, h.el, trivial⟩
  · exact ⟨_, (h.rows r hr).ob, trivial⟩
  · exact ⟨_, (h.rows r hr).tk, trivial⟩
  · exact ⟨_, (h.jobs g hg).ob, trivial⟩
  · exact ⟨_, (h.cnt l hl).ob, trivial⟩
  · exact ⟨_, (h.clks c hc).ob, trivial⟩
/-- all but the house's places, and the tables, stays; what is no place of it doesn't become one -/
structure FrH (T : List (Addr × Str)) (H : Hp) (G : HG) (H' : Hp) (G' : HG) : Prop where
  keep : ∀ b o, H b = some o → (∀ ps, o ≠ .tbl ps) → b ∉ adr G → H' b = some o ∧ b ∉ adr G'
  tabs : Tabs T H → Tabs T H'
variable {T : List (Addr × Str)}
theorem FrH.refl : FrH T H G H G := ⟨fun b o e _ n => ⟨e, n⟩, fun t => t⟩
theorem FrH.trans {H2 : Hp} {G2 : HG} (a : FrH T H G H' G') (b : FrH T H' G' H2 G2) : FrH T H G H2 G2 :=
  ⟨fun x o e n m => let ⟨e1, m1⟩ := a.keep x o e n m; b.keep x o e1 n m1, fun t => b.tabs (a.tabs t)⟩
theorem KeepT.mk2 (h1 : ∀ b xs, H b = some (.tup xs) → H' b = some (.tup xs)) (h2 : ∀ b o xs, H b = some (.frz o (.tup xs)) → H' b = some (.frz o (.tup xs))) : KeepT K H H' := fun a xs z => by
  rcases z with (z | ⟨o, z⟩) | z
  · exact .inl (.inl (h1 a _ z))
  · exact .inl (.inr ⟨o, h2 a _ _ z⟩)
  · exact .inr z
theorem HouseAt.out (h : HouseAt K H G) {b : Addr} {o : HO} (e : H b = some o) (w : ¬ Wr o) : b ∉ adr G := fun m => by
  obtain ⟨u, e2, w2⟩ := h.wr m
  rw [e] at e2
  rw [Option.some.inj e2] at w
  exact w w2
theorem HouseAt.outN (h : HouseAt K H G) {b : Addr} (e : H b = none) : b ∉ adr G := fun m => by
  obtain ⟨u, e2, w2⟩ := h.wr m
  rw [e] at e2
  cases e2
theorem FrH.keepT (f : FrH T H G H' G') (h : HouseAt K H G) : KeepT K H H' :=
  KeepT.mk2 (fun b xs e => (f.keep b _ e (fun _ z => nomatch z) (h.out e fun z => z)).1) fun b o xs e => (f.keep b _ e (fun _ z => nomatch z) (h.out e fun z => z)).1
theorem tabs_upd {a : Addr} {u o : HO} (ha : H a = some u) (w : Wr u) (t : Tabs T H) : Tabs T (upd H a o) := fun p hp => by
  have ne : ∀ {b v}, H b = some v → ¬ Wr v → b ≠ a := fun {b v} e d q => by
    rw [q, ha] at e
    rw [← Option.some.inj e] at d
    exact d w
  obtain ⟨ps, h1, h2, h3⟩ := t p hp
  refine ⟨ps, by rw [upd_ne (ne h1 fun z => z)]; exact h1, h2, fun pos cv hc => ?_⟩
  obtain ⟨c, e1, e2⟩ := h3 pos cv hc
  exact ⟨c, e1, by rw [upd_ne (ne e2 fun z => z)]; exact e2⟩
/-- a place of the house is written -/
theorem FrH.put {a : Addr} {o : HO} (h : HouseAt K H G) (ha : a ∈ adr G) (hs : ∀ b ∈ adr G', b ∈ adr G) : FrH T H G (upd H a o) G' := by
  obtain ⟨u, e, w⟩ := h.wr ha
  exact ⟨fun b o' e' _ m => ⟨by rw [upd_ne fun z => m (by rw [z]; exact ha)]; exact e', fun z => m (hs b z)⟩, tabs_upd e w⟩
/-- a new object is laid; the house may have it -/
theorem FrH.new {a : Addr} {o : HO} (ha : H a = none) (hs : ∀ b ∈ adr G', b ∈ adr G ∨ H b = none) : FrH T H G (upd H a o) G' :=
  ⟨fun b o' e _ m => ⟨same_upd ha b o' e, fun z => (hs b z).elim m fun q => by rw [e] at q; cases q⟩, fun t => t.ext (same_upd ha)⟩
/-- a new place comes to the house with no change of the heap -/
theorem FrH.same (s : Same H H') (hs : ∀ b ∈ adr G', b ∈ adr G ∨ H b = none) : FrH T H G H' G' :=
  ⟨fun b o e _ m => ⟨s b o e, fun z => (hs b z).elim m fun q => by rw [e] at q; cases q⟩, fun t => t.ext s⟩
/-! ### one place changes -/
theorem st {a b : Addr} {o u : HO} (e : H b = some u) (n : b ≠ a) : upd H a o b = some u := (upd_ne n).trans e
theorem HouseAt.ap (h : HouseAt K H G) : Apart G := apart_of h.nd
theorem b0 {i : Nat} {x : Addr} (hx : (pa0 G)[i]? = some x := by rfl) : x ∈ adr G := List.mem_append_left _ (mi0 hx)
theorem b1 {x : Addr} (hx : x ∈ pa1 G.rows) : x ∈ adr G := List.mem_append_right _ (List.mem_append_left _ hx)
theorem b2 {x : Addr} (hx : x ∈ pa2 G.jobs) : x ∈ adr G := List.mem_append_right _ (List.mem_append_right _ (List.mem_append_left _ hx))
theorem b3 {x : Addr} (hx : x ∈ pa3 G.cnt) : x ∈ adr G := List.mem_append_right _ (List.mem_append_right _ (List.mem_append_right _ (List.mem_append_left _ hx)))
theorem b4 {x : Addr} (hx : x ∈ pa4 G.clks) : x ∈ adr G := List.mem_append_right _ (List.mem_append_right _ (List.mem_append_right _ (List.mem_append_right _ hx)))
/-- the house itself: its ints -/
theorem HouseAt.putP (h : HouseAt K H G) (e : houseFs G' = houseFs G' := by rfl) (hp : G' = { G with here := G'.here, given := G'.given }) : HouseAt K (upd H G.p (.ins (cH K) G.dx (houseFs G'))) G' := by
  obtain ⟨here, given, rfl⟩ : ∃ here given, G' = { G with here := here, given := given } := ⟨_, _, hp⟩
  have A := h.ap
  have t : KeepT K H (upd H G.p (.ins (cH K) G.dx (houseFs { G with here := here, given := given }))) := KeepT.upd h.ob trivial
  exact ⟨upd_same, st h.lim (A.ne (i := 1) (j := 0) (by decide)), st h.rd (A.ne (i := 2) (j := 0) (by decide)), st h.jl (A.ne (i := 3) (j := 0) (by decide)), st h.cd (A.ne (i := 4) (j := 0) (by decide)), st h.sd (A.ne (i := 5) (j := 0) (by decide)),
    st h.cl (A.ne (i := 6) (j := 0) (by decide)), st h.el (A.ne (i := 7) (j := 0) (by decide)), fun r hr => ⟨st (h.rows r hr).ob (A.br _ (mi0 (i := 0)) _ (mi1 hr)).symm, st (h.rows r hr).tk (A.br _ (mi0 (i := 0)) _ (mi1t hr)).symm⟩,
    fun g hg => ⟨st (h.jobs g hg).ob (A.bj _ (mi0 (i := 0)) _ (mi2 hg)).symm, t _ _ (h.jobs g hg).st, t _ _ (h.jobs g hg).ne⟩, fun l hl => ⟨st (h.cnt l hl).ob (A.bc _ (mi0 (i := 0)) _ (mi3 hl)).symm⟩,
    fun c hc => ⟨st (h.clks c hc).ob (A.bk _ (mi0 (i := 0)) _ (mi4 hc)).symm, t _ _ (h.clks c hc).st⟩, fun s hs => t _ _ (h.staff s hs), fun e he => (h.log e he).keep t, h.nd⟩
/-- an entry more -/
theorem HouseAt.putE (h : HouseAt K H G) {v : V} {d : PyData} (hd : Dt K H v d) : HouseAt K (upd H G.el (.lst (G.log.map (·.1) ++ [v]))) { G with log := G.log ++ [(v, d)] } := by
  have A := h.ap
  have t : KeepT K H (upd H G.el (.lst (G.log.map (·.1) ++ [v]))) := KeepT.upd h.el trivial
  refine ⟨st h.ob (A.ne (i := 0) (j := 7) (by decide)), st h.lim (A.ne (i := 1) (j := 7) (by decide)), st h.rd (A.ne (i := 2) (j := 7) (by decide)), st h.jl (A.ne (i := 3) (j := 7) (by decide)), st h.cd (A.ne (i := 4) (j := 7) (by decide)), st h.sd (A.ne (i := 5) (j := 7) (by decide)),
    st h.cl (A.ne (i := 6) (j := 7) (by decide)), ?_, fun r hr => ⟨st (h.rows r hr).ob (A.br _ (mi0 (i := 7)) _ (mi1 hr)).symm, st (h.rows r hr).tk (A.br _ (mi0 (i := 7)) _ (mi1t hr)).symm⟩,
    fun g hg => ⟨st (h.jobs g hg).ob (A.bj _ (mi0 (i := 7)) _ (mi2 hg)).symm, t _ _ (h.jobs g hg).st, t _ _ (h.jobs g hg).ne⟩, fun l hl => ⟨st (h.cnt l hl).ob (A.bc _ (mi0 (i := 7)) _ (mi3 hl)).symm⟩,
    fun c hc => ⟨st (h.clks c hc).ob (A.bk _ (mi0 (i := 7)) _ (mi4 hc)).symm, t _ _ (h.clks c hc).st⟩, fun s hs => t _ _ (h.staff s hs), fun e he => ?_, h.nd⟩
  · show upd H G.el (.lst (G.log.map (·.1) ++ [v])) G.el = some (.lst ((G.log ++ [(v, d)]).map (·.1)))
    rw [upd_same, List.map_append]
    rfl
  · rcases List.mem_append.mp he with q | q
    · exact (h.log e q).keep t
    · rw [List.mem_singleton.mp q]
      exact hd.keep t
theorem set_mem {α : Type} {l : List α} {i : Nat} {x y : α} (h : y ∈ l.set i x) : y = x ∨ ∃ j, j ≠ i ∧ l[j]? = some y := by
  obtain ⟨j, hj⟩ := List.mem_iff_getElem?.mp h
  by_cases e : i = j
  · subst e
    rw [List.getElem?_set] at hj
    simp only [if_true] at hj
    split at hj
    · exact .inl (Option.some.inj hj).symm
    · cases hj
  · rw [List.getElem?_set_ne e] at hj
    exact .inr ⟨j, fun q => e q.symm, hj⟩
theorem map_set' {α β : Type} {f : α → β} {l : List α} {i : Nat} {x y : α} (hy : l[i]? = some y) (e : f x = f y) : (l.set i x).map f = l.map f := by
  rw [List.map_set, e]
  apply List.ext_getElem?
  intro j
  by_cases q : i = j
  · subst q
    rw [List.getElem?_set]
    simp only [if_true]
    rw [List.getElem?_map, hy]
    split
    · rfl
    · rename_i n
      exact absurd (by rw [List.length_map]; exact (List.getElem?_eq_some_iff.mp hy).1) n
  · rw [List.getElem?_set_ne q]
/-- by their places unlike -/
theorem apart_ix {α : Type} {f : α → Addr} {l : List α} (nd : (l.map f).Nodup) {i j : Nat} {x y : α} (hx : l[i]? = some x) (hy : l[j]? = some y) (ij : j ≠ i) : f y ≠ f x := fun e => by
  have h1 : (l.map f)[i]? = some (f x) := by rw [List.getElem?_map, hx]; rfl
  have h2 : (l.map f)[j]? = some (f x) := by rw [List.getElem?_map, hy, ← e]; rfl
  exact ij ((List.getElem_inj nd).mp ((List.getElem?_eq_some_iff.mp h2).2.trans (List.getElem?_eq_some_iff.mp h1).2.symm))
theorem nd_ins {A B : List Addr} {x : Addr} (h : (A ++ B).Nodup) (n : x ∉ A ++ B) : (A ++ x :: B).Nodup :=
  (List.perm_middle.nodup_iff).mpr (List.nodup_cons.mpr ⟨n, h⟩)
theorem pa1_set {l : List RowG} {i : Nat} {r r' : RowG} (hr : l[i]? = some r) (e1 : r'.a = r.a) (e2 : r'.tk = r.tk) : pa1 (l.set i r') = pa1 l := by
  unfold pa1
  rw [List.flatMap_def, List.flatMap_def, map_set' hr (by rw [e1, e2])]
theorem row_ne {l : List RowG} (nd : (pa1 l).Nodup) : ∀ {i j : Nat} {r r' : RowG}, l[i]? = some r → l[j]? = some r' → j ≠ i → r'.a ≠ r.a ∧ r'.a ≠ r.tk ∧ r'.tk ≠ r.a ∧ r'.tk ≠ r.tk := by
  induction l with
  | nil =>
    intro i j r r' h
    simp at h
  | cons x l ih =>
    have nd : (x.a :: x.tk :: pa1 l).Nodup := nd
    obtain ⟨n1, nd2⟩ := List.nodup_cons.mp nd
    obtain ⟨n2, nd3⟩ := List.nodup_cons.mp nd2
    have m1 : ∀ {j : Nat} {r : RowG}, l[j]? = some r → r.a ∈ pa1 l ∧ r.tk ∈ pa1 l := fun {j r} h => ⟨List.mem_flatMap.mpr ⟨r, List.mem_of_getElem? h, by simp⟩, List.mem_flatMap.mpr ⟨r, List.mem_of_getElem? h, by simp⟩⟩
    intro i j r r' hi hj ij
    cases i with
    | zero =>
      cases j with
      | zero => exact absurd rfl ij
      | succ j =>
        have e : x = r := Option.some.inj hi
        subst e
        obtain ⟨a1, a2⟩ := m1 (show l[j]? = some r' from hj)
        exact ⟨fun z => n1 (List.mem_cons_of_mem _ (z ▸ a1)), fun z => n2 (z ▸ a1), fun z => n1 (List.mem_cons_of_mem _ (z ▸ a2)), fun z => n2 (z ▸ a2)⟩
    | succ i =>
      cases j with
      | zero =>
        have e : x = r' := Option.some.inj hj
        subst e
        obtain ⟨a1, a2⟩ := m1 (show l[i]? = some r from hi)
        exact ⟨fun z => n1 (List.mem_cons_of_mem _ (z.symm ▸ a1)), fun z => n1 (List.mem_cons_of_mem _ (z.symm ▸ a2)), fun z => n2 (z.symm ▸ a1), fun z => n2 (z.symm ▸ a2)⟩
      | succ j => exact ih nd3 (show l[i]? = some r from hi) (show l[j]? = some r' from hj) fun z => ij (congrArg Nat.succ z)
theorem row_at {l : List RowG} (nd : (pa1 l).Nodup) : ∀ {r : RowG}, r ∈ l → r.a ≠ r.tk := by
  induction l with
  | nil =>
    intro r h
    cases h
  | cons x l ih =>
    have nd : (x.a :: x.tk :: pa1 l).Nodup := nd
    obtain ⟨n1, nd2⟩ := List.nodup_cons.mp nd
    obtain ⟨n2, nd3⟩ := List.nodup_cons.mp nd2
    intro r h
    rcases List.mem_cons.mp h with e | e
    · subst e
      exact fun z => n1 (z ▸ List.mem_cons_self)
    · exact ih nd3 e

theorem HouseAt.putJ (h : HouseAt K H G) {g : JobG} (hg0 : JobAt K H g) (hn : g.a ∉ adr G) : HouseAt K (upd H G.jl (.lst (refs (·.a) G.jobs ++ [.ref g.a]))) ({ G with jobs := G.jobs ++ [g] }) := by
  have A := h.ap
  have t : KeepT K H (upd H G.jl (.lst (refs (·.a) G.jobs ++ [.ref g.a]))) := KeepT.upd h.jl trivial
  exact ⟨st h.ob (A.ne (i := 0) (j := 3) (by decide)),
    st h.lim (A.ne (i := 1) (j := 3) (by decide)),
    st h.rd (A.ne (i := 2) (j := 3) (by decide)),
    by show upd H G.jl (.lst (refs (·.a) G.jobs ++ [.ref g.a])) G.jl = some (.lst (refs (·.a) (G.jobs ++ [g]))); rw [upd_same]; unfold refs; rw [List.map_append]; rfl,
    st h.cd (A.ne (i := 4) (j := 3) (by decide)),
    st h.sd (A.ne (i := 5) (j := 3) (by decide)),
    st h.cl (A.ne (i := 6) (j := 3) (by decide)),
    st h.el (A.ne (i := 7) (j := 3) (by decide)),
    fun r hr => ⟨st (h.rows r hr).ob ((A.br _ (mi0 (i := 3)) _ (mi1 hr)).symm), st (h.rows r hr).tk ((A.br _ (mi0 (i := 3)) _ (mi1t hr)).symm)⟩,
    fun x hx => by
      rcases List.mem_append.mp hx with q | q
      · exact ⟨st (h.jobs x q).ob (A.bj _ (mi0 (i := 3)) _ (mi2 q)).symm, t _ _ (h.jobs x q).st, t _ _ (h.jobs x q).ne⟩
      · rw [List.mem_singleton.mp q]
        exact ⟨st hg0.ob fun z => hn (by rw [z]; exact b0 (i := 3)), t _ _ hg0.st, t _ _ hg0.ne⟩,
    fun l hl => ⟨st (h.cnt l hl).ob ((A.bc _ (mi0 (i := 3)) _ (mi3 hl)).symm)⟩,
    fun c hc => ⟨st (h.clks c hc).ob ((A.bk _ (mi0 (i := 3)) _ (mi4 hc)).symm), t _ _ (h.clks c hc).st⟩,
    fun s hs => t _ _ (h.staff s hs),
    fun e he => (h.log e he).keep t,
    by
      have e : adr { G with jobs := G.jobs ++ [g] } = (pa0 G ++ (pa1 G.rows ++ pa2 G.jobs)) ++ g.a :: (pa3 G.cnt ++ pa4 G.clks) := by
        unfold adr pa2
        simp [List.append_assoc, pa0]
      have e2 : adr G = (pa0 G ++ (pa1 G.rows ++ pa2 G.jobs)) ++ (pa3 G.cnt ++ pa4 G.clks) := by
        unfold adr
        simp [List.append_assoc]
      rw [e]
      exact nd_ins (by rw [← e2]; exact h.nd) (by rw [← e2]; exact hn)⟩

theorem HouseAt.setJ (h : HouseAt K H G) {g g' : JobG} {i : Nat} (hi : G.jobs[i]? = some g) (ea : g'.a = g.a) (et : g'.t = g.t) (en : g'.n = g.n) (es : g'.steps = g.steps) (ed : g'.needs = g.needs) : HouseAt K (upd H g.a (HO.ins (cJ K) g'.dx (jobFs g'))) ({ G with jobs := G.jobs.set i g' }) := by
  have A := h.ap
  have hx : g.a ∈ pa2 G.jobs := mi2 (List.mem_of_getElem? hi)
  have t : KeepT K H (upd H g.a (HO.ins (cJ K) g'.dx (jobFs g'))) := KeepT.upd (h.jobs g (List.mem_of_getElem? hi)).ob trivial
  exact ⟨st h.ob (A.bj _ (mi0 (i := 0)) _ hx),
    st h.lim (A.bj _ (mi0 (i := 1)) _ hx),
    st h.rd (A.bj _ (mi0 (i := 2)) _ hx),
    by show _ = some (HO.lst (refs (·.a) (G.jobs.set i g'))); unfold refs; rw [map_set' hi (congrArg V.ref ea)]; exact st h.jl (A.bj _ (mi0 (i := 3)) _ hx),
    st h.cd (A.bj _ (mi0 (i := 4)) _ hx),
    st h.sd (A.bj _ (mi0 (i := 5)) _ hx),
    st h.cl (A.bj _ (mi0 (i := 6)) _ hx),
    st h.el (A.bj _ (mi0 (i := 7)) _ hx),
    fun r hr => ⟨st (h.rows r hr).ob (A.rj _ (mi1 hr) _ hx), st (h.rows r hr).tk (A.rj _ (mi1t hr) _ hx)⟩,
    fun x hx' => by
      rcases set_mem hx' with q | ⟨j, ji, q⟩
      · rw [q]
        exact ⟨by rw [ea]; exact upd_same, by rw [et, es]; exact t _ _ (h.jobs g (List.mem_of_getElem? hi)).st, by rw [en, ed]; exact t _ _ (h.jobs g (List.mem_of_getElem? hi)).ne⟩
      · have m := List.mem_of_getElem? q
        exact ⟨st (h.jobs x m).ob (apart_ix A.j hi q ji), t _ _ (h.jobs x m).st, t _ _ (h.jobs x m).ne⟩,
    fun l hl => ⟨st (h.cnt l hl).ob ((A.jc _ hx _ (mi3 hl)).symm)⟩,
    fun c hc => ⟨st (h.clks c hc).ob ((A.jk _ hx _ (mi4 hc)).symm), t _ _ (h.clks c hc).st⟩,
    fun s hs => t _ _ (h.staff s hs),
    fun e he => (h.log e he).keep t,
    by
      have e : pa2 (G.jobs.set i g') = pa2 G.jobs := map_set' hi ea
      show (pa0 G ++ (pa1 G.rows ++ (pa2 (G.jobs.set i g') ++ _))).Nodup
      rw [e]
      exact h.nd⟩

theorem HouseAt.putC (h : HouseAt K H G) {l : LeaseG} (hl0 : LeaseAt K H l) (hn : l.a ∉ adr G) : HouseAt K (upd H G.cd (.dK (cntD (G.cnt ++ [l])))) ({ G with cnt := G.cnt ++ [l] }) := by
  have A := h.ap
  have t : KeepT K H (upd H G.cd (.dK (cntD (G.cnt ++ [l])))) := KeepT.upd h.cd trivial
  exact ⟨st h.ob (A.ne (i := 0) (j := 4) (by decide)),
    st h.lim (A.ne (i := 1) (j := 4) (by decide)),
    st h.rd (A.ne (i := 2) (j := 4) (by decide)),
    st h.jl (A.ne (i := 3) (j := 4) (by decide)),
    upd_same,
    st h.sd (A.ne (i := 5) (j := 4) (by decide)),
    st h.cl (A.ne (i := 6) (j := 4) (by decide)),
    st h.el (A.ne (i := 7) (j := 4) (by decide)),
    fun r hr => ⟨st (h.rows r hr).ob ((A.br _ (mi0 (i := 4)) _ (mi1 hr)).symm), st (h.rows r hr).tk ((A.br _ (mi0 (i := 4)) _ (mi1t hr)).symm)⟩,
    fun g hg => ⟨st (h.jobs g hg).ob ((A.bj _ (mi0 (i := 4)) _ (mi2 hg)).symm), t _ _ (h.jobs g hg).st, t _ _ (h.jobs g hg).ne⟩,
    fun x hx => by
      rcases List.mem_append.mp hx with q | q
      · exact ⟨st (h.cnt x q).ob (A.bc _ (mi0 (i := 4)) _ (mi3 q)).symm⟩
      · rw [List.mem_singleton.mp q]
        exact ⟨st hl0.ob fun z => hn (by rw [z]; exact b0 (i := 4))⟩,
    fun c hc => ⟨st (h.clks c hc).ob ((A.bk _ (mi0 (i := 4)) _ (mi4 hc)).symm), t _ _ (h.clks c hc).st⟩,
    fun s hs => t _ _ (h.staff s hs),
    fun e he => (h.log e he).keep t,
    by
      have e : adr { G with cnt := G.cnt ++ [l] } = (pa0 G ++ (pa1 G.rows ++ (pa2 G.jobs ++ pa3 G.cnt))) ++ l.a :: pa4 G.clks := by
        unfold adr pa3
        simp [List.append_assoc, pa0]
      have e2 : adr G = (pa0 G ++ (pa1 G.rows ++ (pa2 G.jobs ++ pa3 G.cnt))) ++ pa4 G.clks := by
        unfold adr
        simp [List.append_assoc]
      rw [e]
      exact nd_ins (by rw [← e2]; exact h.nd) (by rw [← e2]; exact hn)⟩

theorem HouseAt.dropC (h : HouseAt K H G) (p : LeaseG → Bool) : HouseAt K (upd H G.cd (.dK (cntD (G.cnt.filter p)))) ({ G with cnt := G.cnt.filter p }) := by
  have A := h.ap
  have t : KeepT K H (upd H G.cd (.dK (cntD (G.cnt.filter p)))) := KeepT.upd h.cd trivial
  exact ⟨st h.ob (A.ne (i := 0) (j := 4) (by decide)),
    st h.lim (A.ne (i := 1) (j := 4) (by decide)),
    st h.rd (A.ne (i := 2) (j := 4) (by decide)),
    st h.jl (A.ne (i := 3) (j := 4) (by decide)),
    upd_same,
    st h.sd (A.ne (i := 5) (j := 4) (by decide)),
    st h.cl (A.ne (i := 6) (j := 4) (by decide)),
    st h.el (A.ne (i := 7) (j := 4) (by decide)),
    fun r hr => ⟨st (h.rows r hr).ob ((A.br _ (mi0 (i := 4)) _ (mi1 hr)).symm), st (h.rows r hr).tk ((A.br _ (mi0 (i := 4)) _ (mi1t hr)).symm)⟩,
    fun g hg => ⟨st (h.jobs g hg).ob ((A.bj _ (mi0 (i := 4)) _ (mi2 hg)).symm), t _ _ (h.jobs g hg).st, t _ _ (h.jobs g hg).ne⟩,
    fun x hx => by
      have q := (List.mem_filter.mp hx).1
      exact ⟨st (h.cnt x q).ob (A.bc _ (mi0 (i := 4)) _ (mi3 q)).symm⟩,
    fun c hc => ⟨st (h.clks c hc).ob ((A.bk _ (mi0 (i := 4)) _ (mi4 hc)).symm), t _ _ (h.clks c hc).st⟩,
    fun s hs => t _ _ (h.staff s hs),
    fun e he => (h.log e he).keep t,
    by
      refine List.Nodup.sublist ?_ h.nd
      exact (List.Sublist.refl _).append ((List.Sublist.refl _).append ((List.Sublist.refl _).append ((List.filter_sublist.map _).append (List.Sublist.refl _))))⟩

theorem HouseAt.setC (h : HouseAt K H G) {l l' : LeaseG} {i : Nat} (hi : G.cnt[i]? = some l) (ea : l'.a = l.a) (en : l'.num = l.num) : HouseAt K (upd H l.a (HO.ins (cE K) l'.dx (leaseFs l'))) ({ G with cnt := G.cnt.set i l' }) := by
  have A := h.ap
  have hx : l.a ∈ pa3 G.cnt := mi3 (List.mem_of_getElem? hi)
  have t : KeepT K H (upd H l.a (HO.ins (cE K) l'.dx (leaseFs l'))) := KeepT.upd (h.cnt l (List.mem_of_getElem? hi)).ob trivial
  exact ⟨st h.ob (A.bc _ (mi0 (i := 0)) _ hx),
    st h.lim (A.bc _ (mi0 (i := 1)) _ hx),
    st h.rd (A.bc _ (mi0 (i := 2)) _ hx),
    st h.jl (A.bc _ (mi0 (i := 3)) _ hx),
    by show _ = some (HO.dK (cntD (G.cnt.set i l'))); unfold cntD; rw [map_set' hi (by rw [ea, en])]; exact st h.cd (A.bc _ (mi0 (i := 4)) _ hx),
    st h.sd (A.bc _ (mi0 (i := 5)) _ hx),
    st h.cl (A.bc _ (mi0 (i := 6)) _ hx),
    st h.el (A.bc _ (mi0 (i := 7)) _ hx),
    fun r hr => ⟨st (h.rows r hr).ob (A.rc _ (mi1 hr) _ hx), st (h.rows r hr).tk (A.rc _ (mi1t hr) _ hx)⟩,
    fun g hg => ⟨st (h.jobs g hg).ob (A.jc _ (mi2 hg) _ hx), t _ _ (h.jobs g hg).st, t _ _ (h.jobs g hg).ne⟩,
    fun x hx' => by
      rcases set_mem hx' with q | ⟨j, ji, q⟩
      · rw [q]
        exact ⟨by rw [ea]; exact upd_same⟩
      · exact ⟨st (h.cnt x (List.mem_of_getElem? q)).ob (apart_ix A.c hi q ji)⟩,
    fun c hc => ⟨st (h.clks c hc).ob ((A.ck _ hx _ (mi4 hc)).symm), t _ _ (h.clks c hc).st⟩,
    fun s hs => t _ _ (h.staff s hs),
    fun e he => (h.log e he).keep t,
    by
      have e : pa3 (G.cnt.set i l') = pa3 G.cnt := map_set' hi ea
      show (pa0 G ++ (pa1 G.rows ++ (pa2 G.jobs ++ (pa3 (G.cnt.set i l') ++ _)))).Nodup
      rw [e]
      exact h.nd⟩

theorem HouseAt.setR (h : HouseAt K H G) {r r' : RowG} {i : Nat} (hi : G.rows[i]? = some r) (ea : r'.a = r.a) (et : r'.tk = r.tk) (ek : r'.kind = r.kind) (ec : r'.ticks = r.ticks) : HouseAt K (upd H r.a (HO.lst (rowL r'))) ({ G with rows := G.rows.set i r' }) := by
  have A := h.ap
  have hm := List.mem_of_getElem? hi
  have hx : r.a ∈ pa1 G.rows := mi1 hm
  have t : KeepT K H (upd H r.a (HO.lst (rowL r'))) := KeepT.upd (h.rows r hm).ob trivial
  exact ⟨st h.ob (A.br _ (mi0 (i := 0)) _ hx),
    st h.lim (A.br _ (mi0 (i := 1)) _ hx),
    by show _ = some (HO.dK (rowsD (G.rows.set i r'))); unfold rowsD; rw [map_set' hi (by rw [ea, ek])]; exact st h.rd (A.br _ (mi0 (i := 2)) _ hx),
    st h.jl (A.br _ (mi0 (i := 3)) _ hx),
    st h.cd (A.br _ (mi0 (i := 4)) _ hx),
    st h.sd (A.br _ (mi0 (i := 5)) _ hx),
    st h.cl (A.br _ (mi0 (i := 6)) _ hx),
    st h.el (A.br _ (mi0 (i := 7)) _ hx),
    fun x hx' => by
      rcases set_mem hx' with q | ⟨j, ji, q⟩
      · rw [q]
        exact ⟨by rw [ea]; exact upd_same, by rw [et, ec]; exact st (h.rows r hm).tk (row_at A.r hm).symm⟩
      · have m := List.mem_of_getElem? q
        have z := row_ne A.r hi q ji
        exact ⟨st (h.rows x m).ob z.1, st (h.rows x m).tk z.2.2.1⟩,
    fun g hg => ⟨st (h.jobs g hg).ob ((A.rj _ hx _ (mi2 hg)).symm), t _ _ (h.jobs g hg).st, t _ _ (h.jobs g hg).ne⟩,
    fun l hl => ⟨st (h.cnt l hl).ob ((A.rc _ hx _ (mi3 hl)).symm)⟩,
    fun c hc => ⟨st (h.clks c hc).ob ((A.rk _ hx _ (mi4 hc)).symm), t _ _ (h.clks c hc).st⟩,
    fun s hs => t _ _ (h.staff s hs),
    fun e he => (h.log e he).keep t,
    by
      show (pa0 G ++ (pa1 (G.rows.set i r') ++ _)).Nodup
      rw [pa1_set hi ea et]
      exact h.nd⟩

theorem HouseAt.setT (h : HouseAt K H G) {r r' : RowG} {i : Nat} (hi : G.rows[i]? = some r) (er : r' = { r with ticks := r'.ticks }) : HouseAt K (upd H r.tk (HO.lst (vints r'.ticks))) ({ G with rows := G.rows.set i r' }) := by
  have A := h.ap
  have hm := List.mem_of_getElem? hi
  have hx : r.tk ∈ pa1 G.rows := mi1t hm
  have ea : r'.a = r.a := by rw [er]
  have et : r'.tk = r.tk := by rw [er]
  have ek : r'.kind = r.kind := by rw [er]
  have el : rowL r' = rowL r := by rw [er]; rfl
  have t : KeepT K H (upd H r.tk (HO.lst (vints r'.ticks))) := KeepT.upd (h.rows r hm).tk trivial
  exact ⟨st h.ob (A.br _ (mi0 (i := 0)) _ hx),
    st h.lim (A.br _ (mi0 (i := 1)) _ hx),
    by show _ = some (HO.dK (rowsD (G.rows.set i r'))); unfold rowsD; rw [map_set' hi (by rw [ea, ek])]; exact st h.rd (A.br _ (mi0 (i := 2)) _ hx),
    st h.jl (A.br _ (mi0 (i := 3)) _ hx),
    st h.cd (A.br _ (mi0 (i := 4)) _ hx),
    st h.sd (A.br _ (mi0 (i := 5)) _ hx),
    st h.cl (A.br _ (mi0 (i := 6)) _ hx),
    st h.el (A.br _ (mi0 (i := 7)) _ hx),
    fun x hx' => by
      rcases set_mem hx' with q | ⟨j, ji, q⟩
      · rw [q]
        exact ⟨by rw [ea, el]; exact st (h.rows r hm).ob (row_at A.r hm), by rw [et]; exact upd_same⟩
      · have m := List.mem_of_getElem? q
        have z := row_ne A.r hi q ji
        exact ⟨st (h.rows x m).ob z.2.1, st (h.rows x m).tk z.2.2.2⟩,
    fun g hg => ⟨st (h.jobs g hg).ob ((A.rj _ hx _ (mi2 hg)).symm), t _ _ (h.jobs g hg).st, t _ _ (h.jobs g hg).ne⟩,
    fun l hl => ⟨st (h.cnt l hl).ob ((A.rc _ hx _ (mi3 hl)).symm)⟩,
    fun c hc => ⟨st (h.clks c hc).ob ((A.rk _ hx _ (mi4 hc)).symm), t _ _ (h.clks c hc).st⟩,
    fun s hs => t _ _ (h.staff s hs),
    fun e he => (h.log e he).keep t,
    by
      show (pa0 G ++ (pa1 (G.rows.set i r') ++ _)).Nodup
      rw [pa1_set hi ea et]
      exact h.nd⟩

theorem pa1_new {l : List RowG} {i : Nat} {r r' : RowG} (hr : l[i]? = some r) (ea : r'.a = r.a) : ∃ A B, pa1 l = A ++ r.tk :: B ∧ pa1 (l.set i r') = A ++ r'.tk :: B := by
  induction l generalizing i with
  | nil => simp at hr
  | cons x l ih =>
    cases i with
    | zero =>
      have e : x = r := Option.some.inj hr
      subst e
      refine ⟨[x.a], pa1 l, rfl, ?_⟩
      show r'.a :: r'.tk :: pa1 l = _
      rw [ea]
      rfl
    | succ i =>
      obtain ⟨A, B, e1, e2⟩ := ih (show l[i]? = some r from hr)
      refine ⟨x.a :: x.tk :: A, B, ?_, ?_⟩
      · show x.a :: x.tk :: pa1 l = _
        rw [e1]
        rfl
      · show x.a :: x.tk :: pa1 (l.set i r') = _
        rw [e2]
        rfl

theorem HouseAt.newT (h : HouseAt K H G) {r r' : RowG} {i : Nat} (hi : G.rows[i]? = some r) (er : r' = { r with tk := r'.tk, ticks := r'.ticks }) (hq : H r'.tk = some (.lst (vints r'.ticks))) (hn : r'.tk ∉ adr G) : HouseAt K (upd H r.a (HO.lst (rowL r'))) ({ G with rows := G.rows.set i r' }) := by
  have A := h.ap
  have hm := List.mem_of_getElem? hi
  have hx : r.a ∈ pa1 G.rows := mi1 hm
  have ea : r'.a = r.a := by rw [er]
  have ek : r'.kind = r.kind := by rw [er]
  have t : KeepT K H (upd H r.a (HO.lst (rowL r'))) := KeepT.upd (h.rows r hm).ob trivial
  exact ⟨st h.ob (A.br _ (mi0 (i := 0)) _ hx),
    st h.lim (A.br _ (mi0 (i := 1)) _ hx),
    by show _ = some (HO.dK (rowsD (G.rows.set i r'))); unfold rowsD; rw [map_set' hi (by rw [ea, ek])]; exact st h.rd (A.br _ (mi0 (i := 2)) _ hx),
    st h.jl (A.br _ (mi0 (i := 3)) _ hx),
    st h.cd (A.br _ (mi0 (i := 4)) _ hx),
    st h.sd (A.br _ (mi0 (i := 5)) _ hx),
    st h.cl (A.br _ (mi0 (i := 6)) _ hx),
    st h.el (A.br _ (mi0 (i := 7)) _ hx),
    fun x hx' => by
      rcases set_mem hx' with q | ⟨j, ji, q⟩
      · rw [q]
        exact ⟨by rw [ea]; exact upd_same, st hq fun z => hn (by rw [z]; exact b1 hx)⟩
      · have m := List.mem_of_getElem? q
        have z := row_ne A.r hi q ji
        exact ⟨st (h.rows x m).ob z.1, st (h.rows x m).tk z.2.2.1⟩,
    fun g hg => ⟨st (h.jobs g hg).ob ((A.rj _ hx _ (mi2 hg)).symm), t _ _ (h.jobs g hg).st, t _ _ (h.jobs g hg).ne⟩,
    fun l hl => ⟨st (h.cnt l hl).ob ((A.rc _ hx _ (mi3 hl)).symm)⟩,
    fun c hc => ⟨st (h.clks c hc).ob ((A.rk _ hx _ (mi4 hc)).symm), t _ _ (h.clks c hc).st⟩,
    fun s hs => t _ _ (h.staff s hs),
    fun e he => (h.log e he).keep t,
    by
      obtain ⟨B1, B2, e1, e2⟩ := pa1_new hi ea
      have n0 := h.nd
      have hn0 := hn
      unfold adr at n0 hn0
      show (pa0 G ++ (pa1 (G.rows.set i r') ++ (pa2 G.jobs ++ (pa3 G.cnt ++ pa4 G.clks)))).Nodup
      rw [e2]
      rw [e1] at n0 hn0
      have n1 : ((pa0 G ++ B1) ++ r.tk :: (B2 ++ (pa2 G.jobs ++ (pa3 G.cnt ++ pa4 G.clks)))).Nodup := by simpa [List.append_assoc] using n0
      have n2 := (List.nodup_cons.mp ((List.perm_middle.nodup_iff).mp n1)).2
      have z : ((pa0 G ++ B1) ++ r'.tk :: (B2 ++ (pa2 G.jobs ++ (pa3 G.cnt ++ pa4 G.clks)))).Nodup := nd_ins n2 fun m => hn0 (by
        simp only [List.mem_append, List.mem_cons] at m ⊢
        rcases m with (m | m) | m | m
        · exact .inl m
        · exact .inr (.inl (.inl m))
        · exact .inr (.inl (.inr (.inr m)))
        · exact .inr (.inr m))
      simpa [List.append_assoc] using z⟩

theorem HouseAt.putS (h : HouseAt K H G) (L : List StaffG) (hL : ∀ s ∈ L, SqT K H s.t (vstrs s.kinds)) : HouseAt K (upd H G.sd (.dK (staffD L))) ({ G with staff := L }) := by
  have A := h.ap
  have t : KeepT K H (upd H G.sd (.dK (staffD L))) := KeepT.upd h.sd trivial
  exact ⟨st h.ob (A.ne (i := 0) (j := 5) (by decide)),
    st h.lim (A.ne (i := 1) (j := 5) (by decide)),
    st h.rd (A.ne (i := 2) (j := 5) (by decide)),
    st h.jl (A.ne (i := 3) (j := 5) (by decide)),
    st h.cd (A.ne (i := 4) (j := 5) (by decide)),
    upd_same,
    st h.cl (A.ne (i := 6) (j := 5) (by decide)),
    st h.el (A.ne (i := 7) (j := 5) (by decide)),
    fun r hr => ⟨st (h.rows r hr).ob ((A.br _ (mi0 (i := 5)) _ (mi1 hr)).symm), st (h.rows r hr).tk ((A.br _ (mi0 (i := 5)) _ (mi1t hr)).symm)⟩,
    fun g hg => ⟨st (h.jobs g hg).ob ((A.bj _ (mi0 (i := 5)) _ (mi2 hg)).symm), t _ _ (h.jobs g hg).st, t _ _ (h.jobs g hg).ne⟩,
    fun l hl => ⟨st (h.cnt l hl).ob ((A.bc _ (mi0 (i := 5)) _ (mi3 hl)).symm)⟩,
    fun c hc => ⟨st (h.clks c hc).ob ((A.bk _ (mi0 (i := 5)) _ (mi4 hc)).symm), t _ _ (h.clks c hc).st⟩,
    fun s hs => t _ _ (hL s hs),
    fun e he => (h.log e he).keep t,
    h.nd⟩

theorem HouseAt.putK (h : HouseAt K H G) {c : ClockG} (hc0 : ClockAt K H c) (hn : c.a ∉ adr G) : HouseAt K (upd H G.cl (.lst (refs (·.a) G.clks ++ [.ref c.a]))) ({ G with clks := G.clks ++ [c] }) := by
  have A := h.ap
  have t : KeepT K H (upd H G.cl (.lst (refs (·.a) G.clks ++ [.ref c.a]))) := KeepT.upd h.cl trivial
  exact ⟨st h.ob (A.ne (i := 0) (j := 6) (by decide)),
    st h.lim (A.ne (i := 1) (j := 6) (by decide)),
    st h.rd (A.ne (i := 2) (j := 6) (by decide)),
    st h.jl (A.ne (i := 3) (j := 6) (by decide)),
    st h.cd (A.ne (i := 4) (j := 6) (by decide)),
    st h.sd (A.ne (i := 5) (j := 6) (by decide)),
    by show upd H G.cl (.lst (refs (·.a) G.clks ++ [.ref c.a])) G.cl = some (.lst (refs (·.a) (G.clks ++ [c]))); rw [upd_same]; unfold refs; rw [List.map_append]; rfl,
    st h.el (A.ne (i := 7) (j := 6) (by decide)),
    fun r hr => ⟨st (h.rows r hr).ob ((A.br _ (mi0 (i := 6)) _ (mi1 hr)).symm), st (h.rows r hr).tk ((A.br _ (mi0 (i := 6)) _ (mi1t hr)).symm)⟩,
    fun g hg => ⟨st (h.jobs g hg).ob ((A.bj _ (mi0 (i := 6)) _ (mi2 hg)).symm), t _ _ (h.jobs g hg).st, t _ _ (h.jobs g hg).ne⟩,
    fun l hl => ⟨st (h.cnt l hl).ob ((A.bc _ (mi0 (i := 6)) _ (mi3 hl)).symm)⟩,
    fun x hx => by
      rcases List.mem_append.mp hx with q | q
      · exact ⟨st (h.clks x q).ob (A.bk _ (mi0 (i := 6)) _ (mi4 q)).symm, t _ _ (h.clks x q).st⟩
      · rw [List.mem_singleton.mp q]
        exact ⟨st hc0.ob fun z => hn (by rw [z]; exact b0 (i := 6)), t _ _ hc0.st⟩,
    fun s hs => t _ _ (h.staff s hs),
    fun e he => (h.log e he).keep t,
    by
      have e : adr { G with clks := G.clks ++ [c] } = (pa0 G ++ (pa1 G.rows ++ (pa2 G.jobs ++ (pa3 G.cnt ++ pa4 G.clks)))) ++ c.a :: [] := by
        unfold adr pa4
        simp [List.append_assoc, pa0]
      have e2 : adr G = (pa0 G ++ (pa1 G.rows ++ (pa2 G.jobs ++ (pa3 G.cnt ++ pa4 G.clks)))) ++ [] := by
        unfold adr
        simp [List.append_assoc]
      rw [e]
      exact nd_ins (by rw [← e2]; exact h.nd) (by rw [← e2]; exact hn)⟩

theorem HouseAt.setK (h : HouseAt K H G) {c c' : ClockG} {i : Nat} (hi : G.clks[i]? = some c) (ea : c'.a = c.a) (et : c'.t = c.t) (es : c'.steps = c.steps) : HouseAt K (upd H c.a (HO.ins (cC K) c'.dx (clockFs c'))) ({ G with clks := G.clks.set i c' }) := by
  have A := h.ap
  have hx : c.a ∈ pa4 G.clks := mi4 (List.mem_of_getElem? hi)
  have t : KeepT K H (upd H c.a (HO.ins (cC K) c'.dx (clockFs c'))) := KeepT.upd (h.clks c (List.mem_of_getElem? hi)).ob trivial
  exact ⟨st h.ob (A.bk _ (mi0 (i := 0)) _ hx),
    st h.lim (A.bk _ (mi0 (i := 1)) _ hx),
    st h.rd (A.bk _ (mi0 (i := 2)) _ hx),
    st h.jl (A.bk _ (mi0 (i := 3)) _ hx),
    st h.cd (A.bk _ (mi0 (i := 4)) _ hx),
    st h.sd (A.bk _ (mi0 (i := 5)) _ hx),
    by show _ = some (HO.lst (refs (·.a) (G.clks.set i c'))); unfold refs; rw [map_set' hi (congrArg V.ref ea)]; exact st h.cl (A.bk _ (mi0 (i := 6)) _ hx),
    st h.el (A.bk _ (mi0 (i := 7)) _ hx),
    fun r hr => ⟨st (h.rows r hr).ob (A.rk _ (mi1 hr) _ hx), st (h.rows r hr).tk (A.rk _ (mi1t hr) _ hx)⟩,
    fun g hg => ⟨st (h.jobs g hg).ob (A.jk _ (mi2 hg) _ hx), t _ _ (h.jobs g hg).st, t _ _ (h.jobs g hg).ne⟩,
    fun l hl => ⟨st (h.cnt l hl).ob (A.ck _ (mi3 hl) _ hx)⟩,
    fun x hx' => by
      rcases set_mem hx' with q | ⟨j, ji, q⟩
      · rw [q]
        exact ⟨by rw [ea]; exact upd_same, by rw [et, es]; exact t _ _ (h.clks c (List.mem_of_getElem? hi)).st⟩
      · have m := List.mem_of_getElem? q
        exact ⟨st (h.clks x m).ob (apart_ix A.k hi q ji), t _ _ (h.clks x m).st⟩,
    fun s hs => t _ _ (h.staff s hs),
    fun e he => (h.log e he).keep t,
    by
      have e : pa4 (G.clks.set i c') = pa4 G.clks := map_set' hi ea
      show (pa0 G ++ (pa1 G.rows ++ (pa2 G.jobs ++ (pa3 G.cnt ++ pa4 (G.clks.set i c'))))).Nodup
      rw [e]
      exact h.nd⟩

end
end LH
end

section
set_option Elab.async false
set_option linter.all false
set_option maxRecDepth 100000
set_option maxHeartbeats 4000000
/-! small rules -/
namespace LH
open PySem PySem.Spec PyProof.Rows L2
theorem bt_len : bootBuiltins "len" = some (.builtin "len") := by decide +kernel
theorem bt_isinstance : bootBuiltins "isinstance" = some (.builtin "isinstance") := by decide +kernel
theorem bt_min : bootBuiltins "min" = some (.builtin "min") := by decide +kernel
theorem bt_max : bootBuiltins "max" = some (.builtin "max") := by decide +kernel
theorem bt_all : bootBuiltins "all" = some (.builtin "all") := by decide +kernel
theorem bt_sorted : bootBuiltins "sorted" = some (.builtin "sorted") := by decide +kernel
theorem bt_int : bootBuiltins "int" = some (.type "int") := by decide +kernel
theorem bt_bool : bootBuiltins "bool" = some (.type "bool") := by decide +kernel
theorem bt_str : bootBuiltins "str" = some (.type "str") := by decide +kernel
theorem bt_tuple : bootBuiltins "tuple" = some (.type "tuple") := by decide +kernel
theorem bt_list : bootBuiltins "list" = some (.type "list") := by decide +kernel
theorem bt_set : bootBuiltins "set" = some (.type "set") := by decide +kernel
theorem pe_gi {X : Cx} {x : Str} {i : Int} {pos : Pos} (hg : Gl X x) (h : ∃ t, X.mg x = some (.int i t)) (hd : (x == ("__debug__" : Str)) = false := by decide) : PE X (.Name x pos) (tC (.int i)) := by
  obtain ⟨t, h⟩ := h
  exact pe_glob hg h ⟨t, rfl⟩ hd
theorem pe_gs {X : Cx} {x z : Str} {pos : Pos} (hg : Gl X x) (h : ∃ t, X.mg x = some (.str z t)) (hd : (x == ("__debug__" : Str)) = false := by decide) : PE X (.Name x pos) (tC (.str z)) := by
  obtain ⟨t, h⟩ := h
  exact pe_glob hg h ⟨t, rfl⟩ hd
theorem pe_gr {X : Cx} {x : Str} {a : Addr} {pos : Pos} (hg : Gl X x) (h : X.mg x = some (.ref a)) (hd : (x == ("__debug__" : Str)) = false := by decide) : PE X (.Name x pos) (tC (.ref a)) := pe_glob hg h rfl hd
theorem rm {k j : Nat} {A : Around} (h : Room k A) (hj : j ≤ k := by omega) : Room j A := h.mono hj
section
variable {P : Program} {w : World} {K : PySem.W.Frag} {mg : Str → Option Value} {base : Heap}
/-- a def of positional parameters without defaults, as a promise to its callers -/
theorem fnr {N ps : List Str} {x qual : Str} {params : Arguments} {body : List Stmt} {scope : Scope} {f : Addr} {k : Nat} {sp : Sp} (F : ∃ fd, FunD K x qual params body scope [] [] f fd) (S : FnScope N ps scope)
    (hb : ∀ (kV doc pm : Value) (an : Option Addr) (cdv ct : Value) (us : List Value), us.length = ps.length → bindArgs (PySem.W.fnOf x qual params body scope .none kV doc pm an cdv ct) ⟨us, []⟩ = pure (ps.zip us))
    (len : ∀ vs H Q E, sp vs H Q E → vs.length = ps.length)
    (hbody : ∀ (cdv : Value) (A : Around) (outer : List Env) (s : Shared) (H : Hp) (vs : List V) (Q : VK) (E : XK), Room k (A.deeper (envOfC qual scope s.heap.objs.size f cdv)) → sp vs H Q E →
      ∃ t, PSs (XB P w K mg base N qual scope f cdv A outer s H E) body t ∧ t { nx := fun _ H' => Q .non H', rt := Q } (start N vs) H) : FnR P w K mg base (L2.CX P w) (k + 1) f sp := by
  obtain ⟨fd, F⟩ := F
  have h := (FunD.ok (P := P) (w := w) (mg := mg) (base := base) F S len hbody).raw (F.bindsN hb) .nil
  simpa only [List.append_nil] using h
theorem kp_of {x qual : Str} {params : Arguments} {body : List Stmt} {scope : Scope} {f : Addr} {dvs : List V} {kws : List (Str × V)} (F : ∃ fd, FunD K x qual params body scope dvs kws f fd) : PySem.W.keepIn K (.ref f) = true := by
  obtain ⟨fd, F⟩ := F
  exact F.kp
end
/-- o.m() by the positional promise -/
theorem pe_methR0 {X : Cx} {CX : CXT} {k : Nat} {C f : Addr} {m : Str} {sp : Sp} {E : XK} {o : Expr} {ta : TE} {apos pos : Pos} {pl : Sem Bool} (he : PE X o ta) (c : Cls X.K C) (hm : Meth X.K C m f)
    (F : FnR X.prog X.w X.K X.mg X.base CX k f sp) (hr : Room k X.A) (hx : Passes CX X E)
    (ht : eval (.Call (.Attribute o m apos) [] [] pos) X.env = (do
      let ov ← eval o X.env
      standAt apos.atName
      let (f, first) ← holding [ov] (getMethod ov m pl)
      callWith pos f first (backTo pos (starEach [] X.env)) (backToKw pos (keywordEach [] X.env))) := by rfl) :
    PE X (.Call (.Attribute o m apos) [] [] pos) (tMethR C m sp E ta tNil) := by
  refine ⟨fun pins s σ H Q I h => ?_⟩
  refine PySem.W.methodCall_KW (pl := pl) (thn (he.run pins s σ H _ I h) fun u s1 ⟨x, H1, I1, rx, a, dx, fs, ex, ea, l, q⟩ => ?_) ht
  subst ex
  obtain rfl : u = Value.ref a := rx
  refine getmeth_ok I1 ea c hm l ?_
  exact PySem.W.callWith_K0 (first := [.ref a]) I1.kIn hm.kp (wpAny_call (run_fnR (us := [.ref a]) (vs := [.ref a]) F hr hx I1 (.cons rfl .nil) q))
/-- the rules that name the written part, said of a K that is known (within a comprehension or a lambda) -/
theorem pe_fldK {X : Cx} (K : PySem.W.Frag) (hK : X.K = K) {e : Expr} {f : Str} {pos : Pos} {ta : TE} (he : PE X e ta) (hb : attributeBase e f X.env (eval e X.env) = eval e X.env) : PE X (.Attribute e f pos) (tFld K ta f) := by
  subst hK
  exact pe_fld he hb
theorem ix_tupK {X : Cx} (K : PySem.W.Frag) (hK : X.K = K) : IxR X (rIxT K) := by
  subst hK
  exact ix_tup
theorem ix_listK {X : Cx} (K : PySem.W.Frag) (hK : X.K = K) : IxR X (rIxL K) := by
  subst hK
  exact ix_list
theorem op_eqDK {X : Cx} (K : PySem.W.Frag) (hK : X.K = K) (hu : X.A.units + 64 < cLine) : OpR X (compareOp .Eq) (rEqD K) := by
  subst hK
  exact op_eqD hu
/-- x(e, ..), x a def of the module, by the positional promise -/
theorem pe_callP {X : Cx} {CX : CXT} {k : Nat} {f : Addr} {sp : Sp} {E : XK} {x : Str} {e : Expr} {es : List Expr} {t : TA} {p pos : Pos} (F : FnR X.prog X.w X.K X.mg X.base CX k f sp) (hr : Room k X.A) (hk : PySem.W.keepIn X.K (.ref f) = true) (hg : Gl X x)
    (hm : X.mg x = some (.ref f)) (hx : Passes CX X E) (ha : PA X (e :: es) t) (hd : (x == ("__debug__" : Str)) = false := by decide)
    (he : starEach (e :: es) X.env = (false, eval e X.env) :: starEach es X.env := by rfl) (hpl : (backTo pos (starEach es X.env)).any (·.1) = false := by rfl) :
    PE X (.Call (.Name x p) (e :: es) [] pos) (fun σ H Q => t σ H fun vs H1 => sp vs H1 Q E) := by
  refine ⟨fun pins s σ H Q I h => ?_⟩
  refine wpAny_Call_Name_kw (ld_glob I hg hm ?_ hd)
  refine PySem.W.callWith_K (h₀ := X.base) I.ok.mod.kin hk (thn (ha.run pos pins s σ H _ I h) fun us s1 ⟨vs, H1, I1, r, q⟩ => ⟨I1.kIn, ?_⟩) he hpl
  exact wpAny_call (run_fnR F hr hx I1 r q)
theorem pe_callP0 {X : Cx} {CX : CXT} {k : Nat} {f : Addr} {sp : Sp} {E : XK} {x : Str} {p pos : Pos} (F : FnR X.prog X.w X.K X.mg X.base CX k f sp) (hr : Room k X.A) (hk : PySem.W.keepIn X.K (.ref f) = true) (hg : Gl X x)
    (hm : X.mg x = some (.ref f)) (hx : Passes CX X E) (hd : (x == ("__debug__" : Str)) = false := by decide) :
    PE X (.Call (.Name x p) [] [] pos) (fun σ H Q => sp [] H Q E) := by
  refine ⟨fun pins s σ H Q I h => ?_⟩
  refine wpAny_Call_Name_kw (ld_glob I hg hm ?_ hd)
  exact PySem.W.callWith_K0 I.kIn hk (wpAny_call (run_fnR (us := []) (vs := []) F hr hx I .nil h))
/-- reading a field -/
theorem pe_ty {X : Cx} {x : Str} {n : String} {pos : Pos} (hg : Gl X x) (hm : X.mg x = none) (hv : bootBuiltins x = some (.type n)) (hn : x ≠ "__name__" := by decide) (hd : (x == ("__debug__" : Str)) = false := by decide) : PE X (.Name x pos) (tC (.ty n)) :=
  pe_bltn hg hm hv rfl hn hd
section
variable {P : Program} {w : World} {K : PySem.W.Frag} {mg : Str → Option Value} {base : Heap}
def JobG.W (g : JobG) (j : JobS) : JobG := ⟨j, g.a, g.dx, g.t, g.n⟩
def LeaseG.W (g : LeaseG) (j : LeaseS) : LeaseG := ⟨j, g.a, g.dx⟩
def ClockG.W (g : ClockG) (j : ClockS) : ClockG := ⟨j, g.a, g.dx, g.t⟩
theorem JobG.W_W (g : JobG) (j i : JobS) : (g.W j).W i = g.W i := rfl
theorem JobG.W_a (g : JobG) (j : JobS) : (g.W j).a = g.a := rfl
theorem JobG.W_dx (g : JobG) (j : JobS) : (g.W j).dx = g.dx := rfl
theorem JobG.W_S (g : JobG) (j : JobS) : (g.W j).toJobS = j := rfl
theorem JobAt.put {H : Hp} {g : JobG} (hg : JobAt K H g) {j : JobS} (es : j.steps = g.steps) (en : j.needs = g.needs) : JobAt K (upd H g.a (.ins (cJ K) g.dx (jobFs (g.W j)))) (g.W j) := by
  have k := KeepT.upd (K := K) (o := .ins (cJ K) g.dx (jobFs (g.W j))) hg.ob trivial
  refine ⟨upd_same, ?_, ?_⟩
  · show SqT K _ g.t (vstrs j.steps)
    rw [es]
    exact k _ _ hg.st
  · show SqT K _ g.n (vnats j.needs)
    rw [en]
    exact k _ _ hg.ne
theorem jp_tries {K : PySem.W.Frag} {H : Hp} {g : JobG} (hg : JobAt K H g) {i : Int} (z : Nat) (e : i = (z : Int)) {R : Hp → Prop} (q : R (upd H g.a (.ins (cJ K) g.dx (jobFs (g.W { g.toJobS with tries := z }))))) : ∃ dx fs, H g.a = some (.ins (cJ K) dx fs) ∧ fs.length < 1000 ∧ R (upd H g.a (.ins (cJ K) dx (putF ("tries" : Str) (V.int i) fs))) :=
  ⟨_, _, hg.ob, by show 11 < 1000; decide, by rw [e, job_put_tries]; exact q⟩
theorem jp_done_steps {K : PySem.W.Frag} {H : Hp} {g : JobG} (hg : JobAt K H g) {i : Int} (z : Nat) (e : i = (z : Int)) {R : Hp → Prop} (q : R (upd H g.a (.ins (cJ K) g.dx (jobFs (g.W { g.toJobS with fin := z }))))) : ∃ dx fs, H g.a = some (.ins (cJ K) dx fs) ∧ fs.length < 1000 ∧ R (upd H g.a (.ins (cJ K) dx (putF ("done_steps" : Str) (V.int i) fs))) :=
  ⟨_, _, hg.ob, by show 11 < 1000; decide, by rw [e, job_put_done_steps]; exact q⟩
theorem cp_coming {K : PySem.W.Frag} {H : Hp} {g : ClockG} (hg : ClockAt K H g) {i : Int} (z : Int) (e : i = (z : Int)) {R : Hp → Prop} (q : R (upd H g.a (.ins (cC K) g.dx (clockFs (g.W { g.toClockS with coming := z }))))) : ∃ dx fs, H g.a = some (.ins (cC K) dx fs) ∧ fs.length < 1000 ∧ R (upd H g.a (.ins (cC K) dx (putF ("coming" : Str) (V.int i) fs))) :=
  ⟨_, _, hg.ob, by show 6 < 1000; decide, by rw [e, clock_put_coming]; exact q⟩
theorem cp_left {K : PySem.W.Frag} {H : Hp} {g : ClockG} (hg : ClockAt K H g) {i : Int} (z : Int) (e : i = (z : Int)) {R : Hp → Prop} (q : R (upd H g.a (.ins (cC K) g.dx (clockFs (g.W { g.toClockS with left := z }))))) : ∃ dx fs, H g.a = some (.ins (cC K) dx fs) ∧ fs.length < 1000 ∧ R (upd H g.a (.ins (cC K) dx (putF ("left" : Str) (V.int i) fs))) :=
  ⟨_, _, hg.ob, by show 6 < 1000; decide, by rw [e, clock_put_left]; exact q⟩
theorem hp_given {K : PySem.W.Frag} {H : Hp} {g : HG} (hg : HouseAt K H g) {i : Int} (z : Nat) (e : i = (z : Int)) {R : Hp → Prop} (q : R (upd H g.p (.ins (cH K) g.dx (houseFs { g with given := z })))) : ∃ dx fs, H g.p = some (.ins (cH K) dx fs) ∧ fs.length < 1000 ∧ R (upd H g.p (.ins (cH K) dx (putF ("given" : Str) (V.int i) fs))) :=
  ⟨_, _, hg.ob, by show 12 < 1000; decide, by rw [e, house_put_given]; exact q⟩
/-- a call's beginning: the method of a thing of ours -/
theorem jm {H : Hp} {g : JobG} (hg : JobAt K H g) {m : Str} {R : Prop} (hm : (jobFs g).lookup m = none) (q : R) : ∃ a dx fs, V.ref g.a = .ref a ∧ H a = some (.ins (cJ K) dx fs) ∧ fs.lookup m = none ∧ R := ⟨_, _, _, rfl, hg.ob, hm, q⟩
theorem em {H : Hp} {g : LeaseG} (hg : LeaseAt K H g) {m : Str} {R : Prop} (hm : (leaseFs g).lookup m = none) (q : R) : ∃ a dx fs, V.ref g.a = .ref a ∧ H a = some (.ins (cE K) dx fs) ∧ fs.lookup m = none ∧ R := ⟨_, _, _, rfl, hg.ob, hm, q⟩
theorem hm {H : Hp} {g : HG} (hg : HouseAt K H g) {m : Str} {R : Prop} (hm : (houseFs g).lookup m = none) (q : R) : ∃ a dx fs, V.ref g.p = .ref a ∧ H a = some (.ins (cH K) dx fs) ∧ fs.lookup m = none ∧ R := ⟨_, _, _, rfl, hg.ob, hm, q⟩
theorem mm {H : Hp} {g : HG} (hg : HouseAt K H g) {m : Str} {R : Prop} (hm : ([("rows", .ref g.rd)] : List (Str × V)).lookup m = none) (q : R) : ∃ a dx fs, V.ref g.lim = .ref a ∧ H a = some (.ins (cM K) dx fs) ∧ fs.lookup m = none ∧ R := ⟨_, _, _, rfl, hg.lim, hm, q⟩
end
end LH
end

section
set_option Elab.async false
set_option linter.all false
set_option maxRecDepth 100000
set_option maxHeartbeats 4000000
/-! comprehensions that read -/
namespace LH
open PySem PySem.Spec PyProof.Rows L2
theorem opI {r : R2} {ta tb : TE} {σ : L2.St} {H : Hp} {Q : VK} (h : ta σ H fun x H1 => tb σ H1 fun y H2 => r x y H2 Q) : tOp r ta tb σ H Q := h
theorem gnI {i : Nat} {x : V} {σ : L2.St} {H : Hp} {Q : L2.St → Hp → Prop} (h : Q (σ.set i (some x)) H) : gName i x σ H Q := h
theorem rtI {te : TE} {D : Ends} {σ : L2.St} {H : Hp} (h : te σ H D.rt) : tRet te D σ H := h
theorem Same.rfl' {H : Hp} : Same H H := fun _ _ e => e
theorem Same.trans' {H1 H2 H3 : Hp} (a : Same H1 H2) (b : Same H2 H3) : Same H1 H3 := fun c o e => b c o (a c o e)
theorem same_new {H : Hp} {a : Addr} {o : HO} (n : H a = none) : Same H (upd H a o) := same_upd n
theorem Same.put {H1 H : Hp} {a : Addr} {o : HO} (s : Same H1 H) (n : H1 a = none) : Same H1 (upd H a o) := fun b u e => by
  have ne : b ≠ a := fun z => by rw [z, n] at e; cases e
  rw [upd_ne ne]
  exact s b u e
theorem sqL_same {K : PySem.W.Frag} {H H' : Hp} {a : Addr} {xs : List V} (q : SqL K H a xs) (s : Same H H') : SqL K H' a xs := by
  rcases q with (e | ⟨ob, e⟩) | q
  · exact .inl (.inl (s _ _ e))
  · exact .inl (.inr ⟨ob, s _ _ e⟩)
  · exact .inr q
theorem take_fm {α β : Type} (h : α → Option β) (l : List α) {i : Nat} {a : α} (e : l[i]? = some a) : (l.take (i + 1)).filterMap h = (l.take i).filterMap h ++ (h a).toList := by
  rw [List.take_succ, e, List.filterMap_append]
  cases hh : h a <;> simp [hh]
section
variable {α : Type} {J : It} {n : Nat} {G : Hp → Prop} {Y : Nat → Hp → V → Hp → Prop}
/-- a comprehension whose turns change nothing that stood -/
theorem lcS (w : Walk J n G Y) {g : TG} {tt : L2.TT} {te : TE} {vs : List Nat} {σ : L2.St} {H1 : Hp} {D : Addr} {Qd : Hp → Prop} (l : List α) (h : α → Option V) (el : l.length = n) (hz : n < sizeLine) (hn : H1 D = none) (hG : ∀ H, Same H1 H → G H)
    (hs : ∀ (i : Nat) (a : α) (x : V) (H H' : Hp) (R : VK) (R0 : Hp → Prop), l[i]? = some a → Same H1 H → Y i H x H' → (∀ y H4, h a = some y → Same H H4 → R y H4) → (∀ H3, h a = none → Same H H3 → R0 H3) →
      g x (wipe σ vs) H' fun σ2 H2 => wipe σ2 vs = wipe σ vs ∧ tt σ2 H2 fun b H3 => if b = true then te σ2 H3 R else R0 H3)
    (hd : ∀ H, Same H1 H → H D = some (.lst (l.filterMap h)) → Qd H) :
    ∃ W : Nat → Nat → Hp → Prop, (∃ m, W 0 m (upd H1 D (.lst []))) ∧ ∀ i m H, W i m H →
      (J.stop i H ∧ Qd H) ∨ (J.go i H ∧ ∃ Nx : Hp → Prop, (∀ H', Nx H' → ∃ m', m' < m ∧ W (i + 1) m' H') ∧ ∀ x H', J.yld i H x H' → g x (wipe σ vs) H' fun σ2 H2 => wipe σ2 vs = wipe σ vs ∧ tt σ2 H2 fun b H3 =>
        if b = true then te σ2 H3 fun y H4 => ∃ acc, H4 D = some (.lst acc) ∧ acc.length < sizeLine ∧ Nx (upd H4 D (.lst (acc ++ [y]))) else Nx H3) := by
  refine lc_it w (fun i H => Same H1 H ∧ H D = some (.lst ((l.take i).filterMap h))) ⟨same_new hn, by rw [upd_same]; simp⟩ (fun i H _ q => hG H q.1) ?_ ?_
  · intro i x H H' hi ⟨q1, q2⟩ y
    obtain ⟨a, ea⟩ : ∃ a, l[i]? = some a := ⟨l[i]'(by omega), by simp [show i < l.length by omega]⟩
    have e1 := take_fm h l ea
    refine hs i a x H H' _ _ ea q1 y (fun y H4 hh s4 => ?_) fun H3 hh s3 => ?_
    · refine ⟨_, s4 _ _ q2, ?_, Same.put (Same.trans' q1 s4) hn, ?_⟩
      · have h1 := List.length_filterMap_le h (l.take i)
        have h2 := List.length_take_le i l
        omega
      · rw [upd_same, e1, hh]
        rfl
    · refine ⟨Same.trans' q1 s3, ?_⟩
      rw [e1, hh, Option.toList, List.append_nil]
      exact s3 _ _ q2
  · intro H ⟨q1, q2⟩
    refine hd H q1 ?_
    rw [← el, List.take_length] at q2
    exact q2
end
section
variable {α : Type} {K : PySem.W.Frag} {a : Addr} {g : TG} {tt : L2.TT} {te : TE} {vs : List Nat} {σ : L2.St} {H : Hp} {Q : VK}
/-- over a list -/
theorem lcL {Qd : Addr → Hp → Prop} {xs : List V} (l : List α) (val : α → V) (h : α → Option V) (ex : xs = l.map val) (hx : SqL K H a xs) (hz : l.length < sizeLine)
    (hs : ∀ (i : Nat) (b : α) (Hc : Hp) (R : VK) (R0 : Hp → Prop), l[i]? = some b → Same H Hc → (∀ y H4, h b = some y → Same Hc H4 → R y H4) → (∀ H3, h b = none → Same Hc H3 → R0 H3) →
      g (val b) (wipe σ vs) Hc fun σ2 H2 => wipe σ2 vs = wipe σ vs ∧ tt σ2 H2 fun b H3 => if b = true then te σ2 H3 R else R0 H3)
    (hd : ∀ D H', H D = none → Same H H' → H' D = some (.lst (l.filterMap h)) → Qd D H') :
    ∀ D, H D = none → ∃ W : Nat → Nat → Hp → Prop, (∃ m, W 0 m (upd H D (.lst []))) ∧ ∀ i m H, W i m H →
      ((Itl K a).stop i H ∧ Qd D H) ∨ ((Itl K a).go i H ∧ ∃ Nx : Hp → Prop, (∀ H', Nx H' → ∃ m', m' < m ∧ W (i + 1) m' H') ∧ ∀ x H', (Itl K a).yld i H x H' → g x (wipe σ vs) H' fun σ2 H2 => wipe σ2 vs = wipe σ vs ∧ tt σ2 H2 fun b H3 =>
        if b = true then te σ2 H3 fun y H4 => ∃ acc, H4 D = some (.lst acc) ∧ acc.length < sizeLine ∧ Nx (upd H4 D (.lst (acc ++ [y]))) else Nx H3) := by
  intro D hn
  subst ex
  refine lcS (walk_list (xs := l.map val)) l h (by simp) (by simpa using hz) hn (fun H' s => sqL_same hx s) ?_ fun H' s e => hd D H' hn s e
  rintro i b x Hc Hc' R R0 eb s ⟨rfl, ey⟩ h1 h2
  rw [List.getElem?_map, eb] at ey
  obtain rfl : val b = x := Option.some.inj ey
  exact hs i b _ R R0 eb s h1 h2
/-- over a tuple -/
theorem lcT {Qd : Addr → Hp → Prop} {xs : List V} (l : List α) (val : α → V) (h : α → Option V) (ex : xs = l.map val) (hx : SqT K H a xs) (hz : l.length < sizeLine)
    (hs : ∀ (i : Nat) (b : α) (Hc : Hp) (R : VK) (R0 : Hp → Prop), l[i]? = some b → Same H Hc → (∀ y H4, h b = some y → Same Hc H4 → R y H4) → (∀ H3, h b = none → Same Hc H3 → R0 H3) →
      g (val b) (wipe σ vs) Hc fun σ2 H2 => wipe σ2 vs = wipe σ vs ∧ tt σ2 H2 fun b H3 => if b = true then te σ2 H3 R else R0 H3)
    (hd : ∀ D H', H D = none → Same H H' → H' D = some (.lst (l.filterMap h)) → Qd D H') :
    ∀ D, H D = none → ∃ W : Nat → Nat → Hp → Prop, (∃ m, W 0 m (upd H D (.lst []))) ∧ ∀ i m H, W i m H →
      ((Itt K a).stop i H ∧ Qd D H) ∨ ((Itt K a).go i H ∧ ∃ Nx : Hp → Prop, (∀ H', Nx H' → ∃ m', m' < m ∧ W (i + 1) m' H') ∧ ∀ x H', (Itt K a).yld i H x H' → g x (wipe σ vs) H' fun σ2 H2 => wipe σ2 vs = wipe σ vs ∧ tt σ2 H2 fun b H3 =>
        if b = true then te σ2 H3 fun y H4 => ∃ acc, H4 D = some (.lst acc) ∧ acc.length < sizeLine ∧ Nx (upd H4 D (.lst (acc ++ [y]))) else Nx H3) := by
  intro D hn
  subst ex
  refine lcS (walk_tup (xs := l.map val)) l h (by simp) (by simpa using hz) hn (fun H' s => KeepT.same s _ _ hx) ?_ fun H' s e => hd D H' hn s e
  rintro i b x Hc Hc' R R0 eb s ⟨rfl, ey⟩ h1 h2
  rw [List.getElem?_map, eb] at ey
  obtain rfl : val b = x := Option.some.inj ey
  exact hs i b _ R R0 eb s h1 h2
/-- over the values of a dict, locked meanwhile -/
theorem lcV {d : Addr} {kvs : List (Key × V)} {td : TE} (l : List α) (val : α → V) (h : α → Option V) (ex : kvs.map (·.2) = l.map val) (hd0 : H d = some (.dK kvs)) (hz : l.length < sizeLine)
    (htd : ∀ od R, R (.ref d) (upd H d (.frz od (.dK kvs))) → td σ (upd H d (.frz od (.dK kvs))) R)
    (hs : ∀ (od : Obj) (i : Nat) (b : α) (Hc : Hp) (R : VK) (R0 : Hp → Prop), l[i]? = some b → Same (upd H d (.frz od (.dK kvs))) Hc → (∀ y H4, h b = some y → Same Hc H4 → R y H4) → (∀ H3, h b = none → Same Hc H3 → R0 H3) →
      g (val b) (wipe σ vs) Hc fun σ2 H2 => wipe σ2 vs = wipe σ vs ∧ tt σ2 H2 fun b H3 => if b = true then te σ2 H3 R else R0 H3)
    (hd : ∀ D H', H D = none → Same H H' → H' D = some (.lst (l.filterMap h)) → Q (.ref D) H') : tLockE (tLc (iVals td) g tt te vs) σ H Q := by
  refine ⟨d, .dK kvs, hd0, trivial, fun od => htd od _ ⟨d, od, kvs, rfl, upd_same, fun D hn => ?_⟩⟩
  have hl : kvs.length = l.length := by simpa using congrArg List.length ex
  have hnd : D ≠ d := fun z => by rw [z, upd_same] at hn; cases hn
  have hn' : H D = none := by rw [upd_ne hnd] at hn; exact hn
  refine lcS (walk_values (kvs := kvs)) l h hl.symm (by omega) hn (fun H' s => s _ _ upd_same) ?_ fun H' s e => ⟨s _ _ upd_same, hd D _ hn' ?_ ?_⟩
  · rintro i b x Hc Hc' R R0 eb s ⟨rfl, k, ey⟩ h1 h2
    have e2 : (kvs.map (·.2))[i]? = some x := by rw [List.getElem?_map, ey]; rfl
    rw [ex, List.getElem?_map, eb] at e2
    obtain rfl : val b = x := Option.some.inj e2
    exact hs od i b _ R R0 eb s h1 h2
  · intro b o e
    by_cases z : b = d
    · subst z
      rw [hd0] at e
      rw [upd_same, e]
    · rw [upd_ne z]
      exact s _ _ (by rw [upd_ne z]; exact e)
  · rw [upd_ne hnd]
    exact e
end
end LH
end

section
set_option Elab.async false
set_option linter.all false
set_option maxRecDepth 100000
set_option maxHeartbeats 4000000
/-! len(set(t)) of a tuple of texts -/
namespace LH
open PySem PySem.Spec PyProof.Rows L2
/-- how many unlike ones stand among the first i -/
def dcnt (xs : List Str) : Nat → Nat
  | 0 => 0
  | i + 1 => if decide (xs.getD i Str.empty ∈ xs.take i) = true then dcnt xs i else dcnt xs i + 1
theorem dcnt_le (xs : List Str) : ∀ i, dcnt xs i ≤ i
  | 0 => Nat.le_refl 0
  | i + 1 => by
    have z := dcnt_le xs i
    unfold dcnt
    split <;> omega
theorem dcnt_nodup {xs : List Str} (h : xs.Nodup) : ∀ i, i ≤ xs.length → dcnt xs i = i
  | 0, _ => rfl
  | i + 1, hi => by
    have z := dcnt_nodup h i (by omega)
    have hlt : i < xs.length := hi
    unfold dcnt
    rw [if_neg, z]
    rw [decide_eq_true_eq, List.getD_eq_getElem?_getD, List.getElem?_eq_getElem hlt]
    intro m
    obtain ⟨j, hj⟩ := List.mem_iff_getElem?.mp m
    rw [List.getElem?_take] at hj
    by_cases hji : j < i
    · rw [if_pos hji] at hj
      obtain ⟨hjl, ej⟩ := List.getElem?_eq_some_iff.mp hj
      exact absurd ej (List.pairwise_iff_getElem.mp h j i hjl hlt hji)
    · rw [if_neg hji] at hj
      cases hj
section
variable {prog : Program} {w : World} {A : Around} {R : Result → Shared → Prop} {I : Addr} {fp wr : List Addr} {G : Array GenState → Array GenState → Prop} {n : Nat} {Pv : Nat → Value → Prop} {St : Nat → Shared → Prop}
theorem updTexts (W : WalksS prog w A.in1 I fp wr G n Pv St) (S : Addr) (hSf : S ∉ fp) (xs : List Str) (hsz : n = xs.length) (hb : xs.length + 1 < scanBound)
    (hval : ∀ i v, Pv i v → ∃ t, v = .str (xs.getD i Str.empty) t) :
    ∀ (k i : Nat) (s : Shared), n - i = k → i ≤ n → St i s → s.heap.SetOf (PySem.strKind prog w) S (fun k' => decide (k' ∈ xs.take i)) (dcnt xs i) →
      (∀ s', Moved (S :: wr) G s s' → s'.heap.SetOf (PySem.strKind prog w) S (fun k' => decide (k' ∈ xs)) (dcnt xs n) → R (.ok (.ret .none)) s') →
      codeAny (model prog w) A (.builtin "set.update.loop" ⟨[.ref S, .ref I], []⟩) R s := by
  have nw : S ∉ wr := fun h => hSf (W.sub _ h)
  have up : ∀ b ∈ wr, b ∈ S :: wr := fun b hb => List.mem_cons_of_mem _ hb
  intro k
  induction k with
  | zero =>
    intro i s hk hi hst hS hR
    obtain rfl : i = n := by omega
    refine codeAny_builtin F.entry_set_update_loop ?_
    rw [Around.under_plainId F.plain_set_update_loop _]
    show wpAny _ A.in1 (pyNext (.ref I) >>= _) _ _ s
    refine wpAny_bind (W.done s _ _ hst fun s' hm => ?_)
    show wpAny _ A.in1 (ret Value.none) _ _ s'
    rw [List.take_of_length_le (by omega)] at hS
    exact wpAny_pure (hR s' (hm.mono up) (by
      obtain ⟨o, es, ep, t, ho, rest⟩ := hS
      exact ⟨o, es, ep, t, hm.heap S _ nw ho, rest⟩))
  | succ k ih =>
    intro i s hk hi hst hS hR
    have hlt : i < n := by omega
    refine codeAny_builtin F.entry_set_update_loop ?_
    rw [Around.under_plainId F.plain_set_update_loop _]
    show wpAny _ A.in1 (pyNext (.ref I) >>= _) _ _ s
    refine wpAny_bind (W.item i s _ _ hlt hst fun v s' hP hst' hm => ?_)
    obtain ⟨t, rfl⟩ := hval i v hP
    have hS' : s'.heap.SetOf (PySem.strKind prog w) S (fun k' => decide (k' ∈ xs.take i)) (dcnt xs i) := by
      obtain ⟨o, es, ep, tb, ho, rest⟩ := hS
      exact ⟨o, es, ep, tb, hm.heap S _ nw ho, rest⟩
    show wpAny _ A.in1 (holding [Value.str (xs.getD i Str.empty) t] (setAdd S (.str (xs.getD i Str.empty) t)) >>= _) _ _ s'
    refine wpAny_bind (wpAny_holding ?_)
    unfold setAdd
    refine wpAny_holding ?_
    refine wpAny_bind ((PySem.strKind prog w).pyHash (k := xs.getD i Str.empty) (strKind_is _ _ _ _) ?_)
    have hdl := dcnt_le xs i
    refine wpAny_setAddHashed_of (knd := PySem.strKind prog w) (s := { s' with toks := s'.toks + 1 }) (strKind_is _ _ _ _) rfl hS' (by omega) fun h' hsb hS2 => ?_
    have hSi : h'.SetOf (PySem.strKind prog w) S (fun k' => decide (k' ∈ xs.take (i + 1))) (dcnt xs (i + 1)) := by
      refine SetOf_congr hS2 (fun k' => ?_) (by rw [dcnt])
      have hx : i < xs.length := by omega
      have et : xs.take (i + 1) = xs.take i ++ [xs[i]] := by rw [List.take_add_one, List.getElem?_eq_getElem hx] <;> rfl
      rw [et, List.getD_eq_getElem?_getD, List.getElem?_eq_getElem hx, Bool.eq_iff_iff]
      simp only [Bool.or_eq_true, decide_eq_true_eq, List.mem_append, List.mem_singleton, Option.getD_some]
    refine wpAny_pure ⟨plainId_quiet F.plain_set_update_loop _, ih (i + 1) _ (by omega) hlt (W.frame _ s' _ _ hst' (Nat.le_succ _) fun b hb o e => ?_) hSi fun s'' hm'' hS'' => ?_⟩
    · rw [hsb.2 b (fun h : b = S => hSf (by rw [← h]; exact hb))]
      exact e
    · refine hR s'' (Moved.trans W.gtrans ((hm.mono up).then_heap (Nat.le_succ _) fun b o hb e => ?_) hm'') hS''
      rw [hsb.2 b (fun h : b = S => hb (by rw [h]; exact List.mem_cons_self))]
      exact e
end
section
variable {prog : Program} {w : World} {A : Around} {E : Value → Shared → Prop} {s : Shared}
set_option maxHeartbeats 8000000 in
theorem call_setTexts {l : Addr} {items : Array Value} {xs : List Str} {Q : Value → Shared → Prop}
    (hh : A.handled = none) (hl : s.heap.IsTuple l items) (hi : StrsAre items.toList xs) (hb : xs.length + 1 < scanBound)
    (h : ∀ (h' : Heap) (tk : Nat), h'.SetOf (PySem.strKind prog w) s.heap.objs.size (fun k' => decide (k' ∈ xs)) (dcnt xs xs.length) →
      (∀ b o, b < s.heap.objs.size → s.heap.get? b = some o → h'.get? b = some o) → Q (.ref s.heap.objs.size) { s with heap := h', toks := tk }) :
    wpAny (model prog w) A (call (.type "set") [.ref l]) Q E s := by
  have hsz : items.size = xs.length := by rw [← StrsAre.len_eq hi, Array.length_toList]
  obtain ⟨c, tl, hmro⟩ := F.called_set.mro
  have hmade := F.called_set.made
  have hsub := F.called_set.sub
  refine wpAny_call (codeAny_of_tree ?_)
  show wpAny _ _ (callAny (.type "set") _) _ _ _
  refine wpAny_pure ⟨Code.quiet_builtin _ (by decide +kernel), codeAny_builtin F.entry_type_call ?_⟩
  rw [Around.under_plain (weight_type_call_type "set" [.ref l] []) rfl]
  have h1 := F.called_set.notType
  have h2 := F.called_set.canCreate
  have hct := F.typeCall_set_1 (.ref l)
  repeat (any_goals (first | assumption | wp_step))

  refine codeAny_mono (code_set_new_1 (.ref l) (E := E) (Q₁ := fun obj s₁ => ∃ led : Bool, obj = .ref s.heap.objs.size ∧ s₁ = { s with heap := s.heap.push { cls := .type "set", dict := none, data := .set #[] 0 (.fresh 0 0 led) } }) fun led => ⟨led, rfl, rfl⟩) fun r s₁ hr => ?_
  cases r with
  | error e => exact hr
  | ok fl =>
    cases fl with
    | ret obj =>
      obtain ⟨led, rfl, rfl⟩ := hr
      have hS : (s.heap.push { cls := .type "set", dict := none, data := .set #[] 0 (.fresh 0 0 led) }).get? s.heap.objs.size = some { cls := .type "set", dict := none, data := .set #[] 0 (.fresh 0 0 led) } := Heap.get?_push_size _ rfl
      have hT : Shared.TypeIs { s with heap := s.heap.push { cls := .type "set", dict := none, data := .set #[] 0 (.fresh 0 0 led) } } (.ref s.heap.objs.size) "set" := ⟨_, hS, rfl⟩
      have hli := F.called_set.init.lookup
      have hbi := F.called_set.init.bind (.ref s.heap.objs.size)
      repeat (any_goals (first | assumption | wp_step))

      refine codeAny_mono (codeAny_call_builtin (R := wants (fun r s₂ => r = .none ∧ ∃ h' tk, s₂ = { s with heap := h', toks := tk } ∧
          h'.SetOf (PySem.strKind prog w) s.heap.objs.size (fun k' => decide (k' ∈ xs)) (dcnt xs xs.length) ∧
          (∀ b o, b < s.heap.objs.size → s.heap.get? b = some o → h'.get? b = some o)) E) F.called_set.init.plain F.entry_set_init (check_set_init_1 hT ?_)) fun r₂ s₂ hr₂ => ?_
      · obtain ⟨ol, hol, hcl, nl, hdl⟩ := hl
        obtain ⟨ocls, odict, odata, oslots⟩ := ol
        simp only at hcl hdl
        subst hcl; subst hdl
        have hol' : (s.heap.push { cls := .type "set", dict := none, data := .set #[] 0 (.fresh 0 0 led) }).get? l = some { cls := .type "tuple", dict := odict, data := .seq items nl, slots := oslots } := Heap.get?_push_of_some _ hol
        have hsls := F.sub_tuple_set
        have hslf := F.sub_tuple_frozenset
        have hne : (Value.type "tuple" == Value.type "dict") = false := by decide
        have hl1 : (s.heap.push { cls := .type "set", dict := none, data := .set #[] 0 (.fresh 0 0 led) }).IsTuple l items := ⟨_, hol', rfl, nl, rfl⟩
        unfold Builtin.«set.__init__» noKeywords Builtin.Frozenset.updateFrom
        generalize hPI : pyIter = PI
        wp_walk
        subst hPI

        refine wpAny_pyIter_tuple hl1 ?_
        refine wpAny_bind (wpAny_runValue ?_)
        have hlS : l < s.heap.objs.size := Heap.lt_size hol
        have hh3 : A.in1.in1.in1.handled = none := by simp [hh]
        have hneI : l ≠ (s.heap.push { cls := .type "set", dict := none, data := .set #[] 0 (.fresh 0 0 led) }).objs.size := by
          rw [Heap.size_push]; exact Nat.ne_of_lt (Nat.lt_succ_of_lt hlS)
        have hSf : s.heap.objs.size ∉ [(s.heap.push { cls := .type "set", dict := none, data := .set #[] 0 (.fresh 0 0 led) }).objs.size, l] := by
          rw [Heap.size_push]; simp only [List.mem_cons, List.mem_singleton, List.not_mem_nil, or_false, not_or]
          exact ⟨Nat.ne_of_lt (Nat.lt_succ_self _), Nat.ne_of_gt hlS⟩
        have hval : ∀ (i : Nat) (v : Value), items[i]? = some v → ∃ t, v = .str (xs.getD i Str.empty) t := fun i v hv => SS.strs_at hi i v (by rw [Array.getElem?_toList]; exact hv)
        refine updTexts ((Walks.tuple hh3 _ l hneI items).toS) s.heap.objs.size
          hSf xs hsz hb hval (items.size - 0) 0 _ (by omega) (Nat.zero_le _)
          ⟨⟨_, Heap.get?_push_size _ rfl, rfl, rfl⟩, (hl1.push _)⟩ ?hS0 ?hR
        case hS0 =>
          have hget : ((s.heap.push { cls := .type "set", dict := none, data := .set #[] 0 (.fresh 0 0 led) }).push { cls := .type "tuple_iterator", data := .fields #[.ref l, .int 0 0] }).get? s.heap.objs.size
              = some { cls := .type "set", dict := none, data := .set #[] 0 (.fresh 0 0 led) } := Heap.get?_push_of_some _ hS
          exact PyProof.Rows.SetOf_congr ((PyProof.Rows.setObjOf_fresh (knd := PySem.strKind prog w) led).setOf hget (by unfold scanBound; omega)) (fun _ => by simp) rfl
        case hR =>
          intro s' hm hS'
          obtain ⟨h', g', d', tk', os'⟩ := s'
          have eg : g' = s.gens := hm.gens
          have ed : d' = s.drawn := hm.drawn
          have eo : os' = s.os := hm.os
          subst eg; subst ed; subst eo
          show wpAny _ _ _ _ _ _
          refine wpAny_pure ?_
          show wpAny _ _ (ret Value.none) _ _ _
          rw [hsz] at hS'
          refine wpAny_pure ⟨rfl, h', tk', rfl, hS', fun b o hb e => ?_⟩
          have hb1 : b ≠ s.heap.objs.size := Nat.ne_of_lt hb
          have hb2 : b ≠ (s.heap.push { cls := .type "set", dict := none, data := .set #[] 0 (.fresh 0 0 led) }).objs.size := by
            rw [Heap.size_push]; exact Nat.ne_of_lt (Nat.lt_succ_of_lt hb)
          exact hm.heap b o (by simp only [List.mem_cons, List.mem_singleton, List.not_mem_nil, or_false, not_or]; exact ⟨hb1, hb2⟩) (Heap.get?_push_of_some _ (Heap.get?_push_of_some _ e))

      · cases r₂ with
        | error e => exact hr₂
        | ok fl₂ =>
          cases fl₂ with
          | ret r =>
            obtain ⟨rfl, h', tk, rfl, hS', hk'⟩ := hr₂
            repeat (any_goals (first | assumption | wp_step))
            exact h _ _ hS' hk'
          | _ => exact hr₂.elim
    | _ => exact hr.elim
end
section
variable {X : Cx}
def tLenSetT (K : PySem.W.Frag) (ta : TE) : TE := fun σ H Q => ta σ H fun x H1 => ∃ (l : Addr) (xs : List Str), x = .ref l ∧ SqT K H1 l (xs.map V.str) ∧ xs.length ≤ 4000 ∧ Q (.int (dcnt xs xs.length : Nat)) H1
theorem pe_lenSetT {a : Expr} {ta : TE} {p p2 q pos : Pos} (hg : Gl X "len") (hm : X.mg "len" = none) (hg2 : Gl X "set") (hm2 : X.mg "set" = none) (ha : PE X a ta) (hc : X.calm = true := by rfl)
    (na : starEach [a] X.env = (false, eval a X.env) :: starEach [] X.env := by rfl) : PE X (.Call (.Name "len" p) [.Call (.Name "set" p2) [a] [] q] [] pos) (tLenSetT X.K ta) := by
  refine ⟨fun pins s σ H Q I h => ?_⟩
  refine Call_ (ld_blt I hg hm boot_len ?_)
  refine PyProof.Rows.callWith_builtin1 (PyProof.Rows.args_cons ?_ rfl) rfl rfl
  refine Call_ (ld_blt I hg2 hm2 boot_set ?_)
  refine PyProof.Rows.callWith_type1 (PyProof.Rows.args_cons (thn (ha.run pins s σ H _ I h) fun v s1 ⟨x, H1, I1, r1, q1⟩ => PyProof.Rows.args_nil ?_) na) na rfl
  obtain ⟨l, xs, rfl, hq, hl, q1⟩ := q1
  cases r1
  obtain ⟨its, r, pl, hz⟩ := I1.tuple hq
  refine call_setTexts (I1.ok.hd hc) pl (xs := xs) (by simpa using strsAre_of r) (by unfold scanBound; omega) fun h' tk hS hk => ?_
  refine PyProof.Rows.args_nil ?_
  obtain ⟨o, es, ep, t, ho, hex, hd, _, _, _, hf, hn⟩ := hS
  have I2 : Inv X pins σ H1 { s1 with heap := h', toks := tk } := I1.kept fun b o e => hk b o (Heap.lt_size e) e
  have hdl := dcnt_le xs xs.length
  exact call_len_set ho hex hd hf (by rw [hn] <;> omega) ⟨.int (dcnt xs xs.length : Nat), H1, I2.tok _, ⟨_, by rw [hn]⟩, q1⟩
end
end LH
end

section
set_option Elab.async false
set_option linter.all false
set_option maxRecDepth 100000
set_option maxHeartbeats 4000000
/-! xs[:c] = ys -/
namespace LH
open PySem PySem.Spec PyProof.Rows L2
theorem bounds_head {c n : Nat} (hc : c ≤ n) : sliceBounds none (some (c : Int)) none n = (((0 : Nat) : Int), (c : Int), (1 : Int)) := by
  simp only [sliceBounds, Option.getD_none]
  have h2 : ¬ ((c : Int) < 0) := by omega
  simp only [h2, if_false, show (1 : Int) > 0 by decide, if_true]
  congr 1
  congr 1
  omega
section
variable {prog : Program} {w : World} {A : Around} {E : Value → Shared → Prop} {s : Shared}
theorem setItem_head {l b sl : Addr} {items new : Array Value} {n n2 : Nat} {vl vu : Value} {c : Nat} {Q : Unit → Shared → Prop}
    (e : s.heap.get? l = some { cls := .type "list", data := .seq items n }) (e2 : s.heap.get? b = some { cls := .type "list", data := .seq new n2 }) (hne : l ≠ b)
    (hs : s.heap.IsSliceOf sl vl vu .none) (pl : IsPart vl none) (pu : IsPart vu (some (c : Int))) (hc : c ≤ items.size)
    (hsz : items.size + new.size ≤ sizeLine) (h : Q () { s with heap := s.heap.update l (Obj.mapSeq fun xs => xs.extract 0 0 ++ new ++ xs.extract c xs.size) }) :
    wpAny (model prog w) A (setItem (.ref l) (.ref sl) (.ref b)) Q E s := by
  have hl : s.heap.IsList l items := PySem.IsL.isList e
  have hb : s.heap.IsList b new := PySem.IsL.isList e2
  obtain ⟨os, hos, hcs, hds⟩ := id hs
  have hTs : s.TypeIs (.ref sl) "slice" := ⟨os, hos, hcs⟩
  have hstep : ¬ ((rawPart none == rawInt 0) = true) := Bool.false_ne_true
  have hsame : Builtin.List.listSameRef (.ref l) (.ref b) = false := by
    unfold Builtin.List.listSameRef
    exact beq_eq_false_iff_ne.mpr hne
  have hmax : (max ((0 : Nat) : Int) (c : Int)).toNat = c := by omega
  have hz' : ((fun xs : Array Value => xs.extract 0 0 ++ new ++ xs.extract c xs.size) items).size ≤ sizeLine + 1 := by
    simp only [Array.size_append, Array.size_extract]
    omega
  unfold setItem
  try with_reducible refine wpAny_holding ?_
  first | refine wpAny_bind (wpAny_pure ?_) | skip
  refine wpAny_bind (wpAny_sequenceKey hl.typeIs (by decide) ?_)
  refine wpAny_bind (wpAny_callSpecial?_slot (name := Str.ofString "__setitem__") hl.typeIs slot_list_setitem
    (wpAny_call_entry slot_list_setitem hl.typeIs entry_list_setitem ?_ (args_list_setitem _ _ _)))
  show wpAny _ _ (Builtin.List.listSubscript? (.ref sl) >>= _) _ _ s
  refine wpAny_bind ?_
  unfold Builtin.List.listSubscript?
  refine wpAny_bind (wpAny_specialOf hTs slice_no_index ?_)
  simp only [Option.isNone_none, if_true]
  refine wpAny_pure ?_
  show wpAny _ _ (typeOf (.ref sl) >>= _) _ _ s
  refine wpAny_bind (wpAny_typeOf hTs ?_)
  first
    | rw [if_neg (by decide)]
    | refine PySem.W.KFB.if_not (by decide) ?_
  rw [listSliceParts_eq]
  refine wpAny_bind (wpAny_bind (wpAny_field hos hds (x := .none) rfl (wpAny_bind (wpAny_listPart .none ?_))))
  rw [if_neg hstep]
  refine wpAny_bind (wpAny_field hos hds (x := vl) rfl (wpAny_bind (wpAny_listPart pl ?_)))
  refine wpAny_bind (wpAny_field hos hds (x := vu) rfl (wpAny_bind (wpAny_listPart pu (wpAny_pure ?_))))
  first
    | simp only [hsame, Bool.false_eq_true, if_false]
    | refine PySem.W.KFB.if_not hsame ?_
    | (dsimp only
       rw [if_neg (by rw [hsame]; exact Bool.false_ne_true)])
  refine wpAny_bind (m := Builtin.List.listAllItems (.ref b) "must assign iterable to extended slice") ?_
  unfold Builtin.List.listAllItems
  refine wpAny_bind (wpAny_typeOf hb.typeIs ?_)
  first
    | refine PySem.W.KFB.if_so (by decide) ?_
    | rw [if_pos (by decide)]
    | simp only [beq_self_eq_true, Bool.true_or, if_true]
  unfold Builtin.List.listItems
  refine wpAny_bind (wpAny_seqItems e2 rfl (wpAny_pure ?_))
  refine wpAny_bind (wpAny_bind (wpAny_seqItems e rfl (wpAny_pure ?_)))
  refine wpAny_bind (wpAny_of_eq ((sliceIndices_raw none (some (c : Int)) none items.size (by simp)).trans (congrArg (pure : Int × Int × Int → Sem (Int × Int × Int)) (bounds_head hc))) ?_)
  show wpAny _ _ (if ((1 : Int) == 1) = true then _ else _) _ _ s
  rw [if_pos (by decide)]
  refine wpAny_bind (wpAny_rule ?_)
  first
    | simp only [notLongL hsz, Bool.false_eq_true, if_false]
    | refine PySem.W.KFB.if_not (notLongL hsz) ?_
  first | refine wpAny_bind (wpAny_pure ?_) | skip
  show wpAny _ _ (updateSeq l (fun xs => xs.extract 0 (((0 : Nat) : Int)).toNat ++ new ++ xs.extract (max ((0 : Nat) : Int) (c : Int)).toNat xs.size) >>= _) _ _ s
  rw [hmax, Int.toNat_natCast]
  refine wpAny_bind (wpAny_updateSeq (hz := Nat.le_trans (Nat.le_add_right _ _) hsz) (_hz' := hz') e rfl ?_)
  refine wpAny_bind (wpAny_letGo ?_)
  first
    | exact wpAny_bind (wpAny_pure (wpAny_pure ⟨.none, rfl, wpAny_pure h⟩))
    | exact wpAny_pure ⟨.none, rfl, wpAny_pure h⟩
end
section
variable {X : Cx} {pos p2 : Pos}
/-- o[:c] = a list, o another list of c items or more -/
def gHead (K : PySem.W.Frag) (to : TE) (th : TO) : TG := fun v σ H Q => to σ H fun o H1 => th σ H1 fun u H2 => ∃ (a b : Addr) (xs ys : List V) (c : Nat), o = .ref a ∧ v = .ref b ∧ u = some (c : Int) ∧ a ≠ b ∧ H2 a = some (.lst xs) ∧ H2 b = some (.lst ys) ∧ c ≤ xs.length ∧
  xs.length + ys.length ≤ sizeLine ∧ Q σ (upd H2 a (.lst (ys ++ xs.drop c)))
theorem pg_head {o : Expr} {hi : Option Expr} {to : TE} {th : TO} (ho : PE X o to) (hh : PO X hi th)
    (ha : ∀ v, assign (.Subscript o (.Slice none hi none p2) pos) X.env v = (do
      let ov ← holding [v] (eval o X.env)
      let iv ← holding [v, ov] (eval (.Slice none hi none p2) X.env)
      standAt pos
      holding [v, ov, iv] (setItem ov iv v)
      release [iv, v, ov] []) := by intro _; rfl) : PG X (.Subscript o (.Slice none hi none p2) pos) (gHead X.K to th) := by
  refine ⟨fun pins s σ H v u Q I r h => ?_⟩
  rw [ha]
  refine wpAny_bind (wpAny_holding (thn (ho.run pins s σ H _ I h) fun ov s1 ⟨x, H1, I1, r1, q1⟩ => ?_))
  refine wpAny_bind (wpAny_holding (wpAny_Slice (thn (po_none.run pins s1 σ H1 (fun o H2 => o = none ∧ H2 = H1) I1 ⟨rfl, rfl⟩) fun vl s2 ⟨l, H2, I2, pl, el, e2⟩ => ?_)))
  subst el e2
  refine thn (hh.run pins s2 σ _ _ I2 q1) fun vu s3 ⟨m, H3, I3, pu, a, b, xs, ys, c, ex, ev, em, hne, hxa, hyb, hc, hz, q⟩ => ?_
  subst ex ev em
  rw [evalPart_none]
  refine wpAny_pure ?_
  obtain rfl : ov = Value.ref a := r1
  obtain rfl : u = Value.ref b := r
  have I4 : Inv X pins σ H3 { s3 with heap := s3.heap.push { cls := .type "slice", data := .fields #[vl, vu, .none] } } := I3.kept (t' := s3.toks) fun b ob q => Heap.get?_push_of_some _ q
  refine wpAny_bind (wpAny_standAt (wpAny_bind (wpAny_holding ?_)))
  obtain ⟨z, its, n, rv, hl, e⟩ := I4.lstM hxa
  obtain ⟨z2, its2, n2, rv2, hl2, e2⟩ := I4.lstM hyb
  refine setItem_head (c := c) e e2 hne (Heap.IsSliceOf.new ..) pl pu (by rw [List.size_toArray]; omega) (by rw [List.size_toArray, List.size_toArray]; omega) ?_
  refine wpAny_release ⟨σ, _, I4.lset (its' := its2 ++ its.drop c) (t' := s3.toks) hxa e ?_ (Vals.append rv2 (rv.drop _)) ?_, q⟩
  · have z3 := splice_eq its its2 0 c
    simpa using z3
  · rw [List.length_append, List.length_drop]
    omega
end
end LH
end

section
set_option Elab.async false
set_option linter.all false
set_option maxRecDepth 100000
set_option maxHeartbeats 4000000
/-! two clauses: over a dict's values, over a list of each -/
namespace LH
open PySem PySem.Spec PyProof.Rows L2
theorem flat_take {α β : Type} (F : α → List β) (l : List α) {i : Nat} {a : α} (e : l[i]? = some a) : (l.take (i + 1)).flatMap F = (l.take i).flatMap F ++ F a := by
  rw [List.take_succ, e, List.flatMap_append]
  simp
theorem flat_len {α β : Type} (ys : α → List β) (F : α → List V) (hF : ∀ b, (F b).length ≤ (ys b).length) (l : List α) : (l.flatMap F).length ≤ (l.flatMap ys).length := by
  induction l with
  | nil => simp
  | cons a l ih =>
    rw [List.flatMap_cons, List.flatMap_cons, List.length_append, List.length_append]
    have := hF a
    omega
theorem lc2V {α β : Type} {K : PySem.W.Frag} {g g1 : TG} {tt tt1 : L2.TT} {wi1 : TI} {te : TE} {vs vs1 : List Nat} {σ : L2.St} {H : Hp} {Q : VK} {d : Addr} {kvs : List (Key × V)} {td : TE} (l : List α) (val : α → V) (pl : α → Addr) (ys : α → List β) (val1 : β → V) (h : α → β → Option V) (s2 : α → L2.St)
    (ex : kvs.map (·.2) = l.map val) (hd0 : H d = some (.dK kvs)) (hz : (l.flatMap ys).length < sizeLine)
    (htd : ∀ od R, R (.ref d) (upd H d (.frz od (.dK kvs))) → td σ (upd H d (.frz od (.dK kvs))) R)
    (hy : ∀ od Hc b, b ∈ l → Same (upd H d (.frz od (.dK kvs))) Hc → SqL K Hc (pl b) ((ys b).map val1))
    (hs : ∀ (od : Obj) (i : Nat) (b : α) (Hc : Hp) (R1 : L2.St → It → Hp → Prop) (R0 : Hp → Prop), l[i]? = some b → Same (upd H d (.frz od (.dK kvs))) Hc → R1 (s2 b) (Itl K (pl b)) Hc →
      g (val b) (wipe σ vs) Hc fun σ2 H2 => wipe σ2 vs = wipe σ vs ∧ tt σ2 H2 fun c H3 => if c = true then wi1 σ2 H3 (R1 σ2) else R0 H3)
    (hs1 : ∀ (od : Obj) (i : Nat) (b : α) (j : Nat) (x : β) (Hc : Hp) (R : VK) (R0 : Hp → Prop), l[i]? = some b → (ys b)[j]? = some x → Same (upd H d (.frz od (.dK kvs))) Hc → (∀ y H4, h b x = some y → Same Hc H4 → R y H4) → (∀ H3, h b x = none → Same Hc H3 → R0 H3) →
      g1 (val1 x) (wipe (s2 b) vs1) Hc fun σ3 H5 => wipe σ3 vs1 = wipe (s2 b) vs1 ∧ tt1 σ3 H5 fun c H6 => if c = true then te σ3 H6 R else R0 H6)
    (hd : ∀ D H', H D = none → Same H H' → H' D = some (.lst (l.flatMap fun b => (ys b).filterMap (h b))) → Q (.ref D) H') : tLockE (tLc2 (iVals td) g tt wi1 g1 tt1 te vs vs1) σ H Q := by
  refine ⟨d, .dK kvs, hd0, trivial, fun od => htd od _ ⟨d, od, kvs, rfl, upd_same, fun D hn => ?_⟩⟩
  have hl : kvs.length = l.length := by simpa using congrArg List.length ex
  have hnd : D ≠ d := fun z => by rw [z, upd_same] at hn; cases hn
  have hn' : H D = none := by rw [upd_ne hnd] at hn; exact hn
  have w := walk_values (d := d) (o := od) (kvs := kvs)
  have hF : ∀ b, ((ys b).filterMap (h b)).length ≤ (ys b).length := fun b => List.length_filterMap_le _ _
  refine ⟨fun i m Hc => m = l.length - i ∧ i ≤ l.length ∧ Same (upd H d (.frz od (.dK kvs))) Hc ∧ Hc D = some (.lst ((l.take i).flatMap fun b => (ys b).filterMap (h b))), ⟨l.length, by simp, Nat.zero_le _, same_new hn, by rw [upd_same]; simp⟩, ?_⟩
  rintro i m Hc ⟨rfl, hi, q1, q2⟩
  by_cases hlt : i < l.length
  · refine .inr ⟨w.goes i Hc (by omega) (q1 _ _ upd_same), fun H' => Same (upd H d (.frz od (.dK kvs))) H' ∧ H' D = some (.lst ((l.take (i + 1)).flatMap fun b => (ys b).filterMap (h b))), fun H' p => ⟨l.length - (i + 1), by omega, rfl, hlt, p⟩, fun x H' y => ?_⟩
    obtain ⟨rfl, k, ey⟩ := w.yields i Hc x H' (by omega) (q1 _ _ upd_same) y
    obtain ⟨b, eb⟩ : ∃ b, l[i]? = some b := ⟨_, List.getElem?_eq_getElem hlt⟩
    have e2 : (kvs.map (·.2))[i]? = some x := by rw [List.getElem?_map, ey]; rfl
    rw [ex, List.getElem?_map, eb] at e2
    obtain rfl : val b = x := Option.some.inj e2
    have eF := flat_take (fun b => (ys b).filterMap (h b)) l eb
    have eY := flat_take ys l eb
    have lY : ((l.take i).flatMap ys).length + (ys b).length ≤ (l.flatMap ys).length := by
      have z : (l.flatMap ys).length = ((l.take (i + 1)).flatMap ys).length + ((l.drop (i + 1)).flatMap ys).length := by
        rw [← List.length_append, ← List.flatMap_append, List.take_append_drop]
      rw [eY, List.length_append] at z
      omega
    have lF := flat_len ys (fun b => (ys b).filterMap (h b)) hF (l.take i)
    refine hs od i b H' (fun σ2 J1 H4 => _) _ eb q1 ?_
    refine ⟨fun j k Hj => k = (ys b).length - j ∧ j ≤ (ys b).length ∧ Same (upd H d (.frz od (.dK kvs))) Hj ∧ Hj D = some (.lst ((l.take i).flatMap (fun b => (ys b).filterMap (h b)) ++ ((ys b).take j).filterMap (h b))),
      ⟨(ys b).length, by simp, Nat.zero_le _, q1, by rw [q2]; simp⟩, ?_⟩
    rintro j k Hj ⟨rfl, hj, p1, p2⟩
    have w1 := walk_list (K := K) (a := pl b) (xs := (ys b).map val1)
    have hyj := hy od Hj b (List.mem_of_getElem? eb) p1
    by_cases hjt : j < (ys b).length
    · refine .inr ⟨w1.goes j Hj (by simpa using hjt) hyj, fun H' => Same (upd H d (.frz od (.dK kvs))) H' ∧ H' D = some (.lst ((l.take i).flatMap (fun b => (ys b).filterMap (h b)) ++ ((ys b).take (j + 1)).filterMap (h b))),
        fun H' p => ⟨(ys b).length - (j + 1), by omega, rfl, hjt, p⟩, fun x H2 y2 => ?_⟩
      obtain ⟨rfl, ey2⟩ := w1.yields j Hj x H2 (by simpa using hjt) hyj y2
      obtain ⟨z, ez⟩ : ∃ z, (ys b)[j]? = some z := ⟨_, List.getElem?_eq_getElem hjt⟩
      rw [List.getElem?_map, ez] at ey2
      obtain rfl : val1 z = x := Option.some.inj ey2
      have e1 := take_fm (h b) (ys b) ez
      refine hs1 od i b j z H2 _ _ eb ez p1 (fun y H4 hh s4 => ?_) fun H3 hh s3 => ?_
      · refine ⟨_, s4 _ _ p2, ?_, Same.put (Same.trans' p1 s4) hn, ?_⟩
        · rw [List.length_append]
          have h1 := List.length_filterMap_le (h b) ((ys b).take j)
          have h2 := List.length_take_le j (ys b)
          omega
        · rw [upd_same, e1, hh, List.append_assoc]
          rfl
      · refine ⟨Same.trans' p1 s3, ?_⟩
        rw [e1, hh, Option.toList, List.append_nil]
        exact s3 _ _ p2
    · obtain rfl : j = (ys b).length := by omega
      refine .inl ⟨?_, p1, ?_⟩
      · have z := w1.stops Hj hyj
        rw [List.length_map] at z
        exact z
      · rw [p2, List.take_length, eF]
  · obtain rfl : i = l.length := by omega
    refine .inl ⟨by rw [← hl]; exact w.stops Hc (q1 _ _ upd_same), q1 _ _ upd_same, hd D _ hn' ?_ ?_⟩
    · intro b o e
      by_cases z : b = d
      · subst z
        rw [hd0] at e
        rw [upd_same, e]
      · rw [upd_ne z]
        exact q1 _ _ (by rw [upd_ne z]; exact e)
    · rw [upd_ne hnd, q2, List.take_length]
end LH
end

section
set_option Elab.async false
set_option linter.all false
set_option maxRecDepth 100000
set_option maxHeartbeats 4000000
/-! o.f as a target among others -/
namespace LH
open PySem PySem.Spec PyProof.Rows L2
section
variable {X : Cx} {pos : Pos}
def gFldT (K : PySem.W.Frag) (to : TE) (f : Str) : TG := fun v σ H Q => to σ H fun x H1 => ∃ a C dx fs, x = .ref a ∧ H1 a = some (.ins C dx fs) ∧ Cls K C ∧ NoAttr K C f ∧ fs.length < 1000 ∧ Q σ (upd H1 a (.ins C dx (putF f v fs)))
theorem pg_fldT {o : Expr} {f : Str} {to : TE} (ho : PE X o to)
    (ha : ∀ v, assign (.Attribute o f pos) X.env v = (do
      let ov ← holding [v] (eval o X.env)
      standAt pos.atName
      holding [v, ov] (setAttr ov f v)
      release [v, ov] []) := by intro _; rfl) : PG X (.Attribute o f pos) (gFldT X.K to f) := by
  refine ⟨fun pins s σ H v u Q I r h => ?_⟩
  rw [ha]
  refine wpAny_bind (wpAny_holding (thn (ho.run pins s σ H _ I h) fun ov s1 ⟨x, H1, I1, rx, a, C, dx, fs, ex, ea, c, n, l, q⟩ => ?_))
  subst ex
  obtain rfl : ov = Value.ref a := rx
  refine wpAny_bind (wpAny_standAt (wpAny_bind (wpAny_holding ?_)))
  exact setattr_ok I1 ea c n l r fun s3 I3 => wpAny_release ⟨σ, _, I3, q⟩
end
end LH
end

section
set_option Elab.async false
set_option linter.all false
set_option maxRecDepth 100000
set_option maxHeartbeats 4000000
/-! calls within a try: what they let out hangs on the slots -/
namespace LH
open PySem PySem.Spec PyProof.Rows L2
theorem FnR.or {P : Program} {w : World} {K : PySem.W.Frag} {mg : Str → Option Value} {base : Heap} {CX : CXT} {k : Nat} {f : Addr} {sp sp' : Sp} (F : FnR P w K mg base CX k f sp) (F' : FnR P w K mg base CX k f sp') :
    FnR P w K mg base CX k f (fun vs H Q E => sp vs H Q E ∨ sp' vs H Q E) := fun A outer s H us vs Q E hr e0 r hs => hs.elim (F A outer s H us vs Q E hr e0 r) (F' A outer s H us vs Q E hr e0 r)
section
variable {X : Cx} {pins : List (Addr × Obj)} {σ : L2.St} {H : Hp} {s : Shared}
theorem run_fnRS {CX : CXT} {k : Nat} {f : Addr} {sp : Sp} {E : L2.St → XK} {Q : VK} {us : List Value} {vs : List V} (F : FnR X.prog X.w X.K X.mg X.base CX k f sp) (hr : Room k X.A) (hx : PassesAt CX X σ (E σ)) (I : Inv X pins σ H s) (r : Vals vs us) (h : sp vs H Q (E σ)) :
    codeAny (model X.prog X.w) X.A (.call (.ref f) ⟨us, []⟩) (fun r s' => match r with | .ok (.ret v) => EP X pins σ Q v s' | .ok _ => False | .error e => X.xe e s') s := by
  refine codeAny_mono (F X.A X.stack s H us vs Q (E σ) hr I.env0 r h) fun r s' hq => ?_
  cases r with
  | error e => exact hx pins H s e s' I hq
  | ok fl =>
    cases fl with
    | ret u => exact I.after hq
    | next => exact False.elim hq
    | brk => exact False.elim hq
    | cont => exact False.elim hq
end
section
variable {X : Cx} {CX : CXT} {k n : Nat} {f C : Addr} {fd : FuncData} {ps ks : List Str} {sp : Sp} {E : L2.St → XK} {m : Str} {p pos apos : Pos} {e o : Expr} {es : List Expr} {kws : List Keyword} {ta : TE} {t tk : TA} {g : List Value → List Value → List Value} {gV : List V → List V → List V}
theorem run_fnNS {pins : List (Addr × Obj)} {σ : L2.St} {H : Hp} {s : Shared} {Q : VK} {us ws : List Value} {vs zs : List V} (F : FnOk X.prog X.w X.K X.mg X.base CX k f fd ps sp) (hr : Room k X.A) (hb : KBn X.K fd ps n ks g gV) (hx : PassesAt CX X σ (E σ))
    (I : Inv X pins σ H s) (r : Vals vs us) (rz : Vals zs ws) (l1 : vs.length = n) (l2 : zs.length = ks.length) (h : sp (gV vs zs) H Q (E σ)) : wpAny (model X.prog X.w) X.A (call (.ref f) us (ks.zip ws)) (EP X pins σ Q) X.xe s := by
  have r2 := hb.rel r rz
  refine wpAny_call (codeAny_mono (F.run X.A X.stack s H ⟨us, ks.zip ws⟩ (g us ws) (gV vs zs) Q (E σ) hr I.env0 (hb.to s us ws I.kIn (r.length.symm.trans l1) (rz.length.symm.trans l2)) r2 h) fun r s' hq => ?_)
  cases r with
  | error e => exact hx pins H s e s' I hq
  | ok fl =>
    cases fl with
    | ret u => exact I.after hq
    | next => exact False.elim hq
    | brk => exact False.elim hq
    | cont => exact False.elim hq
/-- o.m(e, ..) in a try, by a positional promise -/
def tMethRS (C : Addr) (m : Str) (sp : Sp) (E : L2.St → XK) (ta : TE) (t : TA) : TE := fun σ H Q => ta σ H fun x H1 => ∃ a dx fs, x = .ref a ∧ H1 a = some (.ins C dx fs) ∧ fs.lookup m = none ∧ t σ H1 fun vs H2 => sp (x :: vs) H2 Q (E σ)
theorem pe_methRS {pl : Sem Bool} (he : PE X o ta) (c : Cls X.K C) (hm : Meth X.K C m f)
    (F : FnR X.prog X.w X.K X.mg X.base CX k f sp) (hr : Room k X.A) (hx : ∀ σ, PassesAt CX X σ (E σ)) (ha : PA X (e :: es) t)
    (hst : starEach (e :: es) X.env = (false, eval e X.env) :: starEach es X.env := by rfl) (hpl : (backTo pos (starEach es X.env)).any (·.1) = false := by rfl)
    (ht : eval (.Call (.Attribute o m apos) (e :: es) [] pos) X.env = (do
      let ov ← eval o X.env
      standAt apos.atName
      let (f, first) ← holding [ov] (getMethod ov m pl)
      callWith pos f first (backTo pos (starEach (e :: es) X.env)) (backToKw pos (keywordEach [] X.env))) := by rfl) :
    PE X (.Call (.Attribute o m apos) (e :: es) [] pos) (tMethRS C m sp E ta t) := by
  refine ⟨fun pins s σ H Q I h => ?_⟩
  refine PySem.W.methodCall_KW (pl := pl) (thn (he.run pins s σ H _ I h) fun u s1 ⟨x, H1, I1, rx, a, dx, fs, ex, ea, l, q⟩ => ?_) ht
  subst ex
  obtain rfl : u = Value.ref a := rx
  refine getmeth_ok I1 ea c hm l ?_
  refine PySem.W.callWith_K (first := [.ref a]) (h₀ := X.base) I.ok.mod.kin hm.kp (thn (ha.run pos pins s1 σ H1 _ I1 q) fun us s2 ⟨vs, H2, I2, r, q2⟩ => ⟨I2.kIn, ?_⟩) hst hpl
  exact wpAny_call (run_fnRS (us := .ref a :: us) (vs := .ref a :: vs) F hr (hx σ) I2 (.cons rfl r) q2)
/-- o.m(e, .., k = v, ..) in a try -/
def tMethNS (C : Addr) (m : Str) (n j : Nat) (sp : Sp) (gV : List V → List V → List V) (E : L2.St → XK) (ta : TE) (t tk : TA) : TE := fun σ H Q => ta σ H fun x H0 => ∃ a dx fs, x = .ref a ∧ H0 a = some (.ins C dx fs) ∧ fs.lookup m = none ∧
  t σ H0 fun vs H1 => tk σ H1 fun zs H2 => vs.length = n ∧ zs.length = j ∧ sp (gV (x :: vs) zs) H2 Q (E σ)
theorem pe_methNS {pl : Sem Bool} (he : PE X o ta) (c : Cls X.K C) (hm : Meth X.K C m f) (F : FnOk X.prog X.w X.K X.mg X.base CX k f fd ps sp) (hr : Room k X.A) (hb : KBn X.K fd ps (n + 1) ks g gV) (hx : ∀ σ, PassesAt CX X σ (E σ)) (ha : PA X (e :: es) t) (hkw : PK X kws tk)
    (hall : (backToKw pos (keywordEach kws X.env)).all (·.1.isSome) = true := by rfl) (hks : (backToKw pos (keywordEach kws X.env)).filterMap (·.1) = ks := by rfl)
    (hst : starEach (e :: es) X.env = (false, eval e X.env) :: starEach es X.env := by rfl) (hpl : ((backTo pos (starEach (e :: es) X.env)).any (·.1) || (backToKw pos (keywordEach kws X.env)).any (·.1.isNone)) = false := by rfl)
    (ht : eval (.Call (.Attribute o m apos) (e :: es) kws pos) X.env = (do
      let ov ← eval o X.env
      standAt apos.atName
      let (f, first) ← holding [ov] (getMethod ov m pl)
      callWith pos f first (backTo pos (starEach (e :: es) X.env)) (backToKw pos (keywordEach kws X.env))) := by rfl) :
    PE X (.Call (.Attribute o m apos) (e :: es) kws pos) (tMethNS C m n ks.length sp gV E ta t tk) := by
  refine ⟨fun pins s σ H Q I h => ?_⟩
  refine PySem.W.methodCall_KW (pl := pl) (thn (he.run pins s σ H _ I h) fun u s0 ⟨x, H0, I0, rx, a, dx, fs, ex, ea, l, q0⟩ => ?_) ht
  subst ex
  obtain rfl : u = Value.ref a := rx
  refine getmeth_ok I0 ea c hm l ?_
  refine PySem.W.callWith_KW (first := [.ref a]) (h₀ := X.base) I0.ok.mod.kin hm.kp hall (thn (ha.run pos pins s0 σ H0 _ I0 q0) fun us s1 ⟨vs, H1, I1, r1, q1⟩ => ?_) hpl hst
  refine thn (hkw.run pos pins s1 σ H1 _ I1 q1) fun ws s2 ⟨zs, H2, I2, r2, l1, l2, q2⟩ => ⟨I2.kIn, ?_⟩
  rw [hks]
  exact run_fnNS (us := .ref a :: us) (vs := V.ref a :: vs) F hr hb (hx σ) I2 (.cons rfl r1) r2 (by rw [List.length_cons, l1]) l2 q2
end
end LH
end

section
set_option Elab.async false
set_option linter.all false
set_option maxRecDepth 100000
set_option maxHeartbeats 4000000
/-! set(l) of a list of whole numbers -/
namespace LH
open PySem PySem.Spec PyProof.Rows L2
abbrev setO0 (w : World) : Obj := { cls := .type "set", dict := none, data := .set #[] 0 (.fresh 0 0 (!w.params.followText "set-order")) }
section
variable {prog : Program} {w : World} {A : Around} {E : Value → Shared → Prop} {s : Shared}
set_option maxHeartbeats 8000000 in
theorem call_setInts {l : Addr} {items : Array Value} {xs : List Int} {Q : Value → Shared → Prop}
    (hh : A.handled = none) (hl : s.heap.IsList l items) (hi : IntsAre items.toList xs) (hb : xs.length + 1 < scanBound)
    (h : ∀ (h' : Heap) (tk c : Nat), SetR w h' s.heap.objs.size (fun k' => decide (k' ∈ xs)) c → c ≤ xs.length →
      (∀ b o, b < s.heap.objs.size → s.heap.get? b = some o → h'.get? b = some o) → Q (.ref s.heap.objs.size) { s with heap := h', toks := tk }) :
    wpAny (model prog w) A (call (.type "set") [.ref l]) Q E s := by
  have hsz : items.size = xs.length := by rw [← IntsAre.length hi, Array.length_toList]
  obtain ⟨c, tl, hmro⟩ := F.called_set.mro
  have hmade := F.called_set.made
  have hsub := F.called_set.sub
  refine wpAny_call (codeAny_of_tree ?_)
  show wpAny _ _ (callAny (.type "set") _) _ _ _
  refine wpAny_pure ⟨Code.quiet_builtin _ (by decide +kernel), codeAny_builtin F.entry_type_call ?_⟩
  rw [Around.under_plain (weight_type_call_type "set" [.ref l] []) rfl]
  have h1 := F.called_set.notType
  have h2 := F.called_set.canCreate
  have hct := F.typeCall_set_1 (.ref l)
  repeat (any_goals (first | assumption | wp_step))

  refine codeAny_mono (code_set_led1 (.ref l) (E := E) (Q₁ := fun obj s₁ => obj = .ref s.heap.objs.size ∧ s₁ = { s with heap := s.heap.push (setO0 w) }) ⟨rfl, rfl⟩) fun r s₁ hr => ?_
  cases r with
  | error e => exact hr
  | ok fl =>
    cases fl with
    | ret obj =>
      obtain ⟨rfl, rfl⟩ := hr
      have hS : (s.heap.push (setO0 w)).get? s.heap.objs.size = some (setO0 w) := Heap.get?_push_size _ rfl
      have hT : Shared.TypeIs { s with heap := s.heap.push (setO0 w) } (.ref s.heap.objs.size) "set" := ⟨_, hS, rfl⟩
      have hli := F.called_set.init.lookup
      have hbi := F.called_set.init.bind (.ref s.heap.objs.size)
      repeat (any_goals (first | assumption | wp_step))

      refine codeAny_mono (codeAny_call_builtin (R := wants (fun r s₂ => r = .none ∧ ∃ h' tk c, s₂ = { s with heap := h', toks := tk } ∧
          SetR w h' s.heap.objs.size (fun k' => decide (k' ∈ xs)) c ∧ c ≤ xs.length ∧
          (∀ b o, b < s.heap.objs.size → s.heap.get? b = some o → h'.get? b = some o)) E) F.called_set.init.plain F.entry_set_init (check_set_init_1 hT ?_)) fun r₂ s₂ hr₂ => ?_
      · obtain ⟨ol, hol, hcl, nl, hdl⟩ := hl
        obtain ⟨ocls, odict, odata, oslots⟩ := ol
        simp only at hcl hdl
        subst hcl; subst hdl
        have hol' : (s.heap.push (setO0 w)).get? l = some { cls := .type "list", dict := odict, data := .seq items nl, slots := oslots } := Heap.get?_push_of_some _ hol
        have hsls := F.sub_list_set
        have hslf := F.sub_list_frozenset
        have hne : (Value.type "list" == Value.type "dict") = false := by decide
        have hl1 : (s.heap.push (setO0 w)).IsList l items := ⟨_, hol', rfl, nl, rfl⟩
        unfold Builtin.«set.__init__» noKeywords Builtin.Frozenset.updateFrom
        generalize hPI : pyIter = PI
        wp_walk
        subst hPI

        refine wpAny_pyIter_list hl1 ?_
        refine wpAny_bind (wpAny_runValue ?_)
        have hlS : l < s.heap.objs.size := Heap.lt_size hol
        have hh3 : A.in1.in1.in1.handled = none := by simp [hh]
        have hneI : l ≠ (s.heap.push (setO0 w)).objs.size := by
          rw [Heap.size_push]; exact Nat.ne_of_lt (Nat.lt_succ_of_lt hlS)
        have hSf : s.heap.objs.size ∉ [(s.heap.push (setO0 w)).objs.size, l] := by
          rw [Heap.size_push]; simp only [List.mem_cons, List.mem_singleton, List.not_mem_nil, or_false, not_or]
          exact ⟨Nat.ne_of_lt (Nat.lt_succ_self _), Nat.ne_of_gt hlS⟩
        have hval : ∀ (i : Nat) (v : Value), items[i]? = some v → ∃ k t, xs[i]? = some k ∧ v = .int k t := fun i v hv => by
          have hlt : i < xs.length := by rw [← hsz]; exact (Array.getElem?_eq_some_iff.mp hv).1
          obtain ⟨t, e⟩ := PyProof.Rows.IntsAre.int_at hi i v (by rw [Array.getElem?_toList]; exact hv)
          exact ⟨xs[i], t, List.getElem?_eq_getElem hlt, by rw [e, List.getD_eq_getElem?_getD, List.getElem?_eq_getElem hlt] <;> rfl⟩
        refine set_update_ints ((Walks.list hh3 _ l hneI items).toS) s.heap.objs.size
          hSf xs hsz hb hval (items.size - 0) 0 _ (by omega) (Nat.zero_le _)
          ⟨⟨_, Heap.get?_push_size _ rfl, rfl, rfl⟩, (hl1.push _)⟩ ?hS0 ?hR
        case hS0 =>
          have hget : ((s.heap.push (setO0 w)).push { cls := .type "list_iterator", data := .fields #[.ref l, .int 0 0] }).get? s.heap.objs.size
              = some (setO0 w) := Heap.get?_push_of_some _ hS
          exact ⟨0, Nat.le_refl 0, setR_new_at hget⟩
        case hR =>
          intro s' c2 hm hc2 hS'
          obtain ⟨h', g', d', tk', os'⟩ := s'
          have eg : g' = s.gens := hm.gens
          have ed : d' = s.drawn := hm.drawn
          have eo : os' = s.os := hm.os
          subst eg; subst ed; subst eo
          show wpAny _ _ _ _ _ _
          refine wpAny_pure ?_
          show wpAny _ _ (ret Value.none) _ _ _
          rw [hsz] at hc2
          refine wpAny_pure ⟨rfl, h', tk', c2, rfl, hS', hc2, fun b o hb e => ?_⟩
          have hb1 : b ≠ s.heap.objs.size := Nat.ne_of_lt hb
          have hb2 : b ≠ (s.heap.push (setO0 w)).objs.size := by
            rw [Heap.size_push]; exact Nat.ne_of_lt (Nat.lt_succ_of_lt hb)
          exact hm.heap b o (by simp only [List.mem_cons, List.mem_singleton, List.not_mem_nil, or_false, not_or]; exact ⟨hb1, hb2⟩) (Heap.get?_push_of_some _ (Heap.get?_push_of_some _ e))

      · cases r₂ with
        | error e => exact hr₂
        | ok fl₂ =>
          cases fl₂ with
          | ret r =>
            obtain ⟨rfl, h', tk, c2, rfl, hS', hc2, hk'⟩ := hr₂
            repeat (any_goals (first | assumption | wp_step))
            exact h _ _ _ hS' hc2 hk'
          | _ => exact hr₂.elim
    | _ => exact hr.elim
end
section
variable {X : Cx}
theorem bt_set' : bootBuiltins "set" = some (.type "set") := by decide +kernel
def rSetI (K : PySem.W.Frag) (w : World) : List V → Hp → VK → Prop := fun xs H Q => ∃ (l : Addr) (ns : List Int), xs = [.ref l] ∧ SqL K H l (ns.map V.int) ∧ ns.length ≤ 60 ∧ ∀ p c, H p = none → c ≤ ns.length → Q (.ref p) (upd H p (SetO w p (fun k => decide (k ∈ ns)) c))
theorem cr_setI (hc : X.calm = true) : CallR X (.type "set") (rSetI X.K X.w) := by
  intro pins s σ H xs us Q I r h
  obtain ⟨l, ns, rfl, hl, hn, q⟩ := h
  rw [Vals.ref1 r]
  obtain ⟨its, rv, pl, hz⟩ := I.list hl
  refine call_setInts (I.ok.hd hc) pl.isList (xs := ns) (by simpa using RZ.intsAre_vals rv) (by unfold scanBound; omega) fun h' tk c hS hc2 hk => ?_
  exact ⟨.ref _, upd H s.heap.objs.size (SetO X.w s.heap.objs.size (fun k => decide (k ∈ ns)) c), I.laid (t' := tk) (fun b u e => hk b u (Heap.lt_size e) e) (Nat.le_refl _) (setO_new hS), rfl, q _ c (I.hok.fresh (Nat.le_refl _)) hc2⟩
end
end LH
end

section
set_option Elab.async false
set_option linter.all false
set_option maxRecDepth 100000
set_option maxHeartbeats 4000000
/-! len(set(l)) of a list of unlike whole numbers -/
namespace LH
open PySem PySem.Spec PyProof.Rows L2
theorem setR_card {w : World} {h : Heap} {a : Addr} {ns : List Int} {c : Nat} (R : SetR w h a (fun k => decide (k ∈ ns)) c) (nd : ns.Nodup) : c = ns.length := by
  obtain ⟨o, es, ep, t, _, _, _, _, hn, hm, _, _, hc, _, _⟩ := R
  have p : (es.toList.map L2.keyOf).Perm ns := (List.perm_ext_iff_of_nodup hn nd).mpr fun k => by rw [← hm k, decide_eq_true_eq]
  have e := p.length_eq
  rw [List.length_map, Array.length_toList, hc] at e
  exact e
section
variable {X : Cx}
def tLenSetL (K : PySem.W.Frag) (ta : TE) : TE := fun σ H Q => ta σ H fun x H1 => ∃ (l : Addr) (ns : List Int), x = .ref l ∧ SqL K H1 l (ns.map V.int) ∧ ns.Nodup ∧ ns.length ≤ 4000 ∧ Q (.int (ns.length : Nat)) H1
theorem pe_lenSetL {a : Expr} {ta : TE} {p p2 q pos : Pos} (hg : Gl X "len") (hm : X.mg "len" = none) (hg2 : Gl X "set") (hm2 : X.mg "set" = none) (ha : PE X a ta) (hc : X.calm = true := by rfl)
    (na : starEach [a] X.env = (false, eval a X.env) :: starEach [] X.env := by rfl) : PE X (.Call (.Name "len" p) [.Call (.Name "set" p2) [a] [] q] [] pos) (tLenSetL X.K ta) := by
  refine ⟨fun pins s σ H Q I h => ?_⟩
  refine Call_ (ld_blt I hg hm boot_len ?_)
  refine PyProof.Rows.callWith_builtin1 (PyProof.Rows.args_cons ?_ rfl) rfl rfl
  refine Call_ (ld_blt I hg2 hm2 boot_set ?_)
  refine PyProof.Rows.callWith_type1 (PyProof.Rows.args_cons (thn (ha.run pins s σ H _ I h) fun v s1 ⟨x, H1, I1, r1, q1⟩ => PyProof.Rows.args_nil ?_) na) na rfl
  obtain ⟨l, ns, rfl, hq, nd, hl, q1⟩ := q1
  cases r1
  obtain ⟨its, rv, pl, hz⟩ := I1.list hq
  refine call_setInts (I1.ok.hd hc) pl.isList (xs := ns) (by simpa using RZ.intsAre_vals rv) (by unfold scanBound; omega) fun h' tk c hS hc2 hk => ?_
  have ec := setR_card hS nd
  refine PyProof.Rows.args_nil ?_
  obtain ⟨o, es, ep, t, ho, hex, hd, _, _, _, _, hf, hn, _, _⟩ := hS
  have I2 : Inv X pins σ H1 { s1 with heap := h', toks := tk } := I1.kept fun b o e => hk b o (Heap.lt_size e) e
  exact call_len_set ho hex hd hf (by rw [hn] <;> omega) ⟨.int (ns.length : Nat), H1, I2.tok _, ⟨_, by rw [hn, ec]⟩, q1⟩
end
end LH
end

section
set_option Elab.async false
set_option linter.all false
set_option maxRecDepth 100000
set_option maxHeartbeats 4000000
/-! xs.count(y) of texts; dict(ps) -/
namespace LH
open PySem PySem.Spec PyProof.Rows L2
theorem bt_dict' : bootBuiltins "dict" = some (.type "dict") := by decide +kernel
def eqkS (k : Str) (v : Value) : Bool := match v with
  | .str n _ => n.cps.toList == k.cps.toList
  | _ => false
theorem eqkS_gives {k : Str} {t : Tok} : ∀ {us : List Value} {ns : List Str}, StrsAre us ns → ∀ y ∈ us, MeetsSeq.EqGives y (.str k t) (eqkS k y)
  | _, _, .nil => fun y hy => by cases hy
  | _, _, .cons n t' h => fun y hy => by
    rcases List.mem_cons.mp hy with e | e
    · rw [e]
      exact SeqRoads2.EqGives.str n k t' t
    · exact eqkS_gives h y e
theorem eqkS_count {k : Str} : ∀ {us : List Value} {ns : List Str}, StrsAre us ns → us.countP (eqkS k) = ns.countP fun n => decide (n = k)
  | _, _, .nil => rfl
  | _, _, .cons n t h => by
    have ih := eqkS_count (k := k) h
    rw [List.countP_cons, List.countP_cons, ih]
    have e : eqkS k (.str n t) = decide (n = k) := by
      show (n.cps.toList == k.cps.toList) = _
      rw [PySem.SeqAt.str_beq]
      by_cases z : n = k
      · rw [z]
        simp
      · simp [z]
    rw [e]
section
variable {X : Cx}
def rCntS (K : PySem.W.Frag) : V → List V → Hp → VK → Prop := fun x xs H Q => ∃ (p : Addr) (ns : List Str) (k : Str), x = .ref p ∧ xs = [.str k] ∧ SqL K H p (ns.map V.str) ∧ Q (.int ((ns.countP fun n => decide (n = k)) : Nat)) H
theorem mt_lcountS (K : PySem.W.Frag) (hK : X.K = K) : MtR X "list.count" (rCntS K) := by
  subst hK
  intro pins s σ H x xs v us Q I rx rxs h
  obtain ⟨p, ns, k, rfl, rfl, hs, q⟩ := h
  cases rx
  obtain ⟨u, rfl, ru⟩ := rxs.one
  obtain ⟨t, rfl⟩ := ru
  obtain ⟨its, rv, ⟨⟨cls, dd, data, sl⟩, n, ho, hc, hdn, hd⟩, hlen⟩ := I.list hs
  simp only at hc hd
  subst hc hd
  have hi := strsAre_of rv
  refine call_meets PySem.F.slot_list_count ⟨_, ho, rfl⟩ PySem.F.entry_list_count (PySem.F.args_list_count_2 _ _)
    (SeqAt.list_countAt p its.toArray n dd sl (.str k t) (eqkS k)) ⟨ho, fun y hy => (eqkS_gives hi y (by simpa using hy)).at _ _, ?_⟩
  have ec : its.toArray.toList.countP (eqkS k) = ns.countP fun n => decide (n = k) := eqkS_count hi
  refine ⟨.int ((ns.countP fun n => decide (n = k)) : Nat), H, I.tok _, ⟨s.toks, ?_⟩, q⟩
  show Value.int ((its.toArray.toList.countP (eqkS k) : Nat) : Int) s.toks = Value.int ((ns.countP fun n => decide (n = k) : Nat) : Int) s.toks
  rw [ec]
theorem pe_bmK {T name id : String} {o e : Expr} {es : List Expr} {apos cpos : Pos} {r : V → List V → Hp → VK → Prop} {to : TE} {t : TA} (K : PySem.W.Frag) (hK : X.K = K) (pa : PlainAttrs T) (slot : Slot T name id) (hty : typeOf (.builtin id) = pure (.type "method_descriptor")) (hm : MtR X id r) (ho : PE X o to) (ha : PA X (e :: es) t)
    (hbase : attributeBase o name X.env (eval o X.env) = eval o X.env := by rfl)
    (hfew : ((backTo cpos (starEach (e :: es) X.env)).all (fun x => !x.1) && (backToKw cpos (keywordEach [] X.env)).all (fun x => x.1.isSome)
      && decide ((e :: es).length + ([] : List Keyword).length + (if ([] : List Keyword).isEmpty then 0 else 1) < 30)) = true := by rfl)
    (hline : (apos.endLine == cpos.line) = true := by rfl) (hs : starEach (e :: es) X.env = (false, eval e X.env) :: starEach es X.env := by rfl) (hplain : (backTo cpos (starEach es X.env)).any (·.1) = false := by rfl) :
    PE X (.Call (.Attribute o name apos) (e :: es) [] cpos) (tBM K T r to t) := by
  subst hK
  exact pe_bm pa slot hty hm ho ha hbase hfew hline hs hplain
end
end LH
end

section
set_option Elab.async false
set_option linter.all false
set_option maxRecDepth 100000
set_option maxHeartbeats 4000000
/-! tables of the top with text keys: what stands at a key; d.get(k, x) -/
namespace LH
open PySem PySem.Spec PyProof.Rows L2
theorem key_isStr {e : DictEntry} {x : Str} {i : Int} (h : He.keyOf e = some (x, i)) (k : Str) : e.key.isStr k = (x == k) := by
  unfold He.keyOf at h
  split at h
  · rename_i y t q
    have h := Option.some.inj h
    rw [q]
    rw [← (Prod.mk.inj h).1]
    rfl
  · cases h
theorem key_noRef {e : DictEntry} {x : Str} {i : Int} (h : He.keyOf e = some (x, i)) : e.refKey = false := by
  unfold He.keyOf at h
  split at h
  · rename_i y t q
    unfold DictEntry.refKey
    rw [q]
  · cases h
theorem keys_find {P : Params} (k : Str) : ∀ {l : List DictEntry} {ks : List Str}, l.map He.keyOf = He.keysIn P ks → (k ∉ ks → l.find? (·.key.isStr k) = none) ∧ l.any (·.refKey) = false
  | [], _, _ => ⟨fun _ => rfl, rfl⟩
  | e :: r, [], h => by cases h
  | e :: r, y :: ks, h => by
    have h1 : He.keyOf e :: r.map He.keyOf = some (y, PyData.keyHash P y) :: He.keysIn P ks := h
    injection h1 with h2 h3
    obtain ⟨a, b⟩ := keys_find k h3
    refine ⟨fun hk => ?_, ?_⟩
    · rw [List.find?_cons, key_isStr h2]
      have : (y == k) = false := by
        rw [beq_eq_false_iff_ne]
        intro z
        exact hk (by rw [z]; exact List.mem_cons_self)
      rw [this]
      exact a fun z => hk (List.mem_cons_of_mem _ z)
    · rw [List.any_cons, key_noRef h2, b]
      rfl
/-- what stands at a key -/
theorem tab_at {K : PySem.W.Frag} {P : Params} {a : Addr} {kvs : List (Str × He.Dv)} (h : He.dicW K a = some (He.keysIn P (kvs.map (·.1)))) (hv : He.valsB K a kvs = true) (k : Str) :
    (∃ q ∈ kvs, q.1 = k ∧ ∃ u, PySem.W.nsIn K a k = some (some u) ∧ RelV (q.2.v K) u) ∨ (k ∉ kvs.map (·.1) ∧ PySem.W.nsIn K a k = some none) := by
  by_cases hk : k ∈ kvs.map (·.1)
  · obtain ⟨q, hq, rfl⟩ := List.mem_map.mp hk
    obtain ⟨u, e, r⟩ := He.valsB_ok hv hq
    exact .inl ⟨q, hq, rfl, u, e, r⟩
  · refine .inr ⟨hk, ?_⟩
    unfold He.dicW at h
    cases q : K.lookup a with
    | none =>
      rw [q] at h
      cases h
    | some o =>
      obtain ⟨oc, od, dt, osl⟩ := o
      rw [q] at h
      cases oc with
      | type c =>
        cases od with
        | none =>
          cases dt with
          | dict es n =>
            have h1 : (match decide (c = "dict") && (osl.isEmpty && !(a == sysModules)) with
              | true => some (es.toList.map He.keyOf)
              | false => none) = some (He.keysIn P (kvs.map (·.1))) := h
            cases z : decide (c = "dict") && (osl.isEmpty && !(a == sysModules)) with
            | false =>
              rw [z] at h1
              cases h1
            | true =>
              rw [z] at h1
              obtain ⟨a1, a2⟩ := keys_find k (Option.some.inj h1)
              unfold PySem.W.nsIn
              rw [q]
              simp only
              rw [a1 hk]
              simp only
              rw [a2]
              rfl
          | _ => cases h
        | some b => cases dt <;> cases h
      | _ => cases od <;> cases dt <;> cases h
def tKGet2 (K : PySem.W.Frag) (d : Addr) (td ty tx : TE) : TE := fun σ H Q => td σ H fun x H1 => x = .ref d ∧ ty σ H1 fun y H2 => tx σ H2 fun z H3 => ∃ (k : Str) (r : Option Value) (v : V), y = .str k ∧ PySem.W.nsIn K d k = some r ∧ (∀ u, r = some u → RelV v u) ∧ (r = none → v = z) ∧ Q v H3
section
variable {X : Cx} {o e f : Expr} {apos cpos : Pos} {td ty tx : TE} {d : Addr}
theorem pe_kget2 (D0 : ∃ es n, KDict X.K X.w d es n) (ho : PE X o td) (he : PE X e ty) (hf : PE X f tx) (m : M2 X o "get" apos e f cpos) : PE X (.Call (.Attribute o "get" apos) [e, f] [] cpos) (tKGet2 X.K d td ty tx) := by
  obtain ⟨es, n, D⟩ := D0
  refine ⟨fun pins s σ H Q I h => ?_⟩
  refine wpAny_Call_method m.base m.few m.line PySem.F.plainAttrs_dict PySem.F.slot_dict_get PySem.F.type_dict_get (thn (ho.run pins s σ H _ I h) fun u s1 ⟨x, H1, I1, rx, ex, q1⟩ => ?_)
  subst ex
  obtain rfl : u = Value.ref d := rx
  refine ⟨kd_type D I1, fun b z => ?_, ?_⟩
  · cases z
    exact ⟨_, I1.kIn _ _ D.at_, rfl⟩
  rw [m.trees]
  refine Calls.callWith_builtin rfl (Calls.evalArgs_plain (Calls.spliced_cons (thn (he.run pins s1 σ H1 _ I1 q1) fun iv s2 ⟨y, H2, I2, ry, q2⟩ =>
    Calls.spliced_cons (thn (hf.run pins s2 σ H2 _ I2 q2) fun fv s3 ⟨z, H3, I3, rz, k, r, v, ey, en, h1, h2, q3⟩ => Calls.spliced_nil ?_))))
  subst ey
  obtain ⟨t, rfl⟩ := ry
  refine call_meetsIn PySem.F.slot_dict_get (kd_type D I3) PySem.F.entry_dict_get (PySem.F.args_dict_get_3 _ _ _) (meets_dict_get_default (PySem.strKind X.prog X.w) d (PySem.strKind_is X.prog X.w k t) D.low fv) ⟨_, PySem.W.mapOf_K (prog := X.prog) I3.kIn D.at_ D.lit, ?_⟩
  rw [PySem.W.find_K D.at_ en]
  refine ⟨v, H3, I3.tok _, ?_, q3⟩
  cases r with
  | none =>
    rw [h2 rfl]
    exact rz
  | some u => exact h1 u rfl
end
end LH
end

section
set_option Elab.async false
set_option linter.all false
set_option maxRecDepth 100000
set_option maxHeartbeats 4000000
/-! a, *b = a tuple -/
namespace LH
open PySem PySem.Spec PyProof.Rows L2
section
variable {prog : Program} {w : World} {A : Around} {E : Value → Shared → Prop} {s : Shared}
theorem walks_shift {I : Addr} {fp wr : List Addr} {G : Array GenState → Array GenState → Prop} {n : Nat} {P : Nat → Value → Prop} {St : Nat → Shared → Prop} (W : WalksS prog w A I fp wr G (n + 1) P St) :
    WalksS prog w A I fp wr G n (fun i => P (i + 1)) (fun i => St (i + 1)) where
  sub := W.sub
  grefl := W.grefl
  gtrans := W.gtrans
  frame := fun i => W.frame (i + 1)
  item := fun i s Q E hi st hQ => W.item (i + 1) s Q E (by omega) st hQ
  done := fun s Q E st hQ => W.done s Q E st hQ
  self := fun i => W.self (i + 1)
theorem unpack_star {t : Addr} {x0 : Value} {its : List Value} {Q : List Value → Shared → Prop} (hh : A.handled = none) (ht : IsTup s.heap t (x0 :: its).toArray) (hz : its.length ≤ sizeLine)
    (hQ : ∀ (h' : Heap) (tk : Nat), (∀ b o, s.heap.get? b = some o → h'.get? b = some o) → Q [x0, .ref h'.objs.size] { s with heap := h'.push { cls := .type "list", data := .seq its.toArray }, toks := tk }) :
    wpAny (model prog w) A (unpackItems (.ref t) 2 (some 1)) Q E s := by
  have hlt : t ≠ s.heap.objs.size := by obtain ⟨o, ho, _⟩ := ht; exact Nat.ne_of_lt (Heap.lt_size ho)
  unfold unpackItems
  refine wpAny_bind ?_
  unfold notIterableAtAll
  refine wpAny_bind (wpAny_specialOf ht.typeIs slot_tuple_iter.lookup ?_)
  refine wpAny_pure ?_
  simp only [Bool.false_eq_true, if_false]
  refine wpAny_bind (wpAny_holding (iter_tuple ht ?_))
  refine wpAny_bind (wpAny_holding (draw_tuple hlt 1 0 _ _ ⟨_, Heap.get?_push_size _ rfl, rfl, rfl⟩ (ht.push _) (by simp) fun h₁ hit₁ hs₁ => ?_))
  have hall : List.take 1 (List.drop 0 (x0 :: its).toArray.toList) = [x0] := by simp
  rw [hall]
  rw [if_neg (by simp)]
  have ht₁ : IsTup h₁ t (x0 :: its).toArray := (ht.push _).extBut hs₁.extBut hlt
  have k1 : ∀ b o, s.heap.get? b = some o → h₁.get? b = some o := fun b o e => hs₁.extBut b o (Nat.ne_of_lt (Heap.lt_size e)) (Heap.get?_push_of_some _ e)
  have hsz : s.heap.objs.size < h₁.objs.size := by
    obtain ⟨o, ho, _⟩ := hit₁
    exact Heap.lt_size ho
  have W := walks_shift (n := its.length) (Walks.tuple (prog := prog) (w := w) (A := A.in1) hh s.heap.objs.size t hlt (x0 :: its).toArray).toS
  refine wpAny_bind (wpAny_holding (wpAny_collect_iter (T := "tuple_iterator") (.inr (.inr (.inr rfl))) W (fun i s st => let ⟨o, ho, hc, _⟩ := st.1; ⟨o, ho, hc⟩) ⟨hit₁, ht₁⟩ (fun b hb => ?_) (by simp) (fun s' acc mv ia => ?_) hz))
  · simp only [List.mem_cons, List.not_mem_nil, or_false] at hb
    rcases hb with rfl | rfl
    · exact hsz
    · obtain ⟨o, ho, _⟩ := ht₁
      exact Heap.lt_size ho
  have eacc : acc.toList = its := by
    apply List.ext_getElem?
    intro i
    by_cases hi : i < its.length
    · have h1 : i < acc.size := by rw [ia.1]; exact hi
      have h2 := ia.2 i acc[i] (by simp [h1])
      have h3 : (x0 :: its)[i + 1]? = some acc[i] := by simpa using h2
      rw [List.getElem?_cons_succ] at h3
      rw [h3]
      simp [h1]
    · have h1 : acc.toList[i]? = none := List.getElem?_eq_none (by rw [Array.length_toList, ia.1]; omega)
      have h2 : its[i]? = none := List.getElem?_eq_none (by omega)
      rw [h1, h2]
  rw [eacc]
  rw [if_neg (by simp)]
  have et : List.take (its.length - (2 - 1 - 1)) its = its := List.take_of_length_le (by simp)
  have ed : List.drop (its.length - (2 - 1 - 1)) its = [] := List.drop_of_length_le (by simp)
  rw [et, ed]
  rw [Moved.eq_with mv]
  have k2 : ∀ b o, s.heap.get? b = some o → s'.heap.get? b = some o := fun b o e => mv.heap b o (fun hb => by
    rw [List.mem_singleton.mp hb] at e
    exact absurd (Heap.lt_size e) (Nat.lt_irrefl _)) (k1 b o e)
  refine wpAny_bind (wpAny_newObj_type ?_ ?_)
  · exact wpAny_pure (hQ _ _ k2)
  · exact hz
/-- a, *b = .. -/
def gStar (K : PySem.W.Frag) (t : TGs) : TG := fun v σ H Q => ∃ a x xs, v = .ref a ∧ SqT K H a (x :: xs) ∧ ∀ p, H p = none → t [x, .ref p] σ (upd H p (.lst xs)) Q
theorem pg_star {X : Cx} {e1 e2 : Expr} {q pos : Pos} {k : Nat} {t : TGs} (hc : X.calm = true) (h : PGs X [e1, e2] t)
    (hn : (assignEach [e1, .Starred e2 q] X.env).map (·.2) = (assignEach [e1, e2] X.env).map (·.2) := by rfl) (hl : (assignEach [e1, .Starred e2 q] X.env).length = 2 := by rfl) (hst : (assignEach [e1, .Starred e2 q] X.env).findIdx? (·.1) = some 1 := by rfl) : PG X (.Tuple [e1, .Starred e2 q] k pos) (gStar X.K t) := by
  refine ⟨fun pins s σ H v u Q I r hw => ?_⟩
  obtain ⟨a, x, xs, ev, hq, hw⟩ := hw
  subst ev
  cases r
  obtain ⟨its, rv, ht, hz⟩ := I.tuple hq
  cases rv with
  | @cons _ y _ ys ry rys =>
    rw [assign_Tuple]
    refine wpAny_bind (wpAny_standAt ?_)
    unfold unpack
    rw [hl, hst, hn]
    have hz2 : ys.length ≤ sizeLine := by
      have := rys.length
      rw [List.length_cons] at hz
      omega
    refine wpAny_bind (wpAny_holding (unpack_star (I.ok.hd hc) ht hz2 fun h' tk kp => ?_))
    have I1 : Inv X pins σ H { s with heap := h', toks := tk } := I.kept kp
    have I2 : Inv X pins σ (upd H h'.objs.size (.lst xs)) { s with heap := h'.push { cls := .type "list", data := .seq ys.toArray }, toks := tk } :=
      I1.laid (t' := tk) (a := h'.objs.size) (o := .lst xs) (fun b ob q => Heap.get?_push_of_some _ q) (Nat.le_refl _) ⟨by rw [List.length_cons] at hz; omega, ys, 0, rys, Heap.get?_push_size _ rfl⟩
    exact h.run pins _ σ _ [x, .ref h'.objs.size] _ Q I2 (.cons ry (.cons rfl .nil)) (hw _ (I1.hok.fresh (Nat.le_refl _)))
end
end LH
end

section
set_option Elab.async false
set_option linter.all false
set_option maxRecDepth 100000
set_option maxHeartbeats 4000000
/-! calls of functions within a try -/
namespace LH
open PySem PySem.Spec PyProof.Rows L2
section
variable {X : Cx} {CX : CXT} {k n : Nat} {f : Addr} {fd : FuncData} {ps ks : List Str} {sp : Sp} {E : L2.St → XK} {x : Str} {p pos : Pos} {e : Expr} {es : List Expr} {kws : List Keyword} {t tk : TA} {g : List Value → List Value → List Value} {gV : List V → List V → List V}
theorem pe_callPS (F : FnR X.prog X.w X.K X.mg X.base CX k f sp) (hr : Room k X.A) (hk : PySem.W.keepIn X.K (.ref f) = true) (hg : Gl X x)
    (hm : X.mg x = some (.ref f)) (hx : ∀ σ, PassesAt CX X σ (E σ)) (ha : PA X (e :: es) t) (hd : (x == ("__debug__" : Str)) = false := by decide)
    (he : starEach (e :: es) X.env = (false, eval e X.env) :: starEach es X.env := by rfl) (hpl : (backTo pos (starEach es X.env)).any (·.1) = false := by rfl) :
    PE X (.Call (.Name x p) (e :: es) [] pos) (fun σ H Q => t σ H fun vs H1 => sp vs H1 Q (E σ)) := by
  refine ⟨fun pins s σ H Q I h => ?_⟩
  refine wpAny_Call_Name_kw (ld_glob I hg hm ?_ hd)
  refine PySem.W.callWith_K (h₀ := X.base) I.ok.mod.kin hk (thn (ha.run pos pins s σ H _ I h) fun us s1 ⟨vs, H1, I1, r, q⟩ => ⟨I1.kIn, ?_⟩) he hpl
  exact wpAny_call (run_fnRS F hr (hx σ) I1 r q)
def tCallNS (n m : Nat) (sp : Sp) (gV : List V → List V → List V) (E : L2.St → XK) (t tk : TA) : TE := fun σ H Q => t σ H fun vs H1 => tk σ H1 fun zs H2 => vs.length = n ∧ zs.length = m ∧ sp (gV vs zs) H2 Q (E σ)
theorem pe_callNS (F : FnOk X.prog X.w X.K X.mg X.base CX k f fd ps sp) (hr : Room k X.A) (hg : Gl X x) (hm : X.mg x = some (.ref f)) (hk : PySem.W.keepIn X.K (.ref f) = true) (hb : KBn X.K fd ps n ks g gV) (hx : ∀ σ, PassesAt CX X σ (E σ))
    (ha : PA X (e :: es) t) (hkw : PK X kws tk) (hall : (backToKw pos (keywordEach kws X.env)).all (·.1.isSome) = true := by rfl) (hks : (backToKw pos (keywordEach kws X.env)).filterMap (·.1) = ks := by rfl)
    (hdb : (x == ("__debug__" : Str)) = false := by decide) (he : starEach (e :: es) X.env = (false, eval e X.env) :: starEach es X.env := by rfl)
    (hpl : ((backTo pos (starEach (e :: es) X.env)).any (·.1) || (backToKw pos (keywordEach kws X.env)).any (·.1.isNone)) = false := by rfl) :
    PE X (.Call (.Name x p) (e :: es) kws pos) (tCallNS n ks.length sp gV E t tk) := by
  refine ⟨fun pins s σ H Q I h => ?_⟩
  refine wpAny_Call_Name_kw (ld_glob I hg hm ?_ hdb)
  refine PySem.W.callWith_KW (h₀ := X.base) I.ok.mod.kin hk hall (thn (ha.run pos pins s σ H _ I h) fun us s1 ⟨vs, H1, I1, r, q⟩ => ?_) hpl he
  refine thn (hkw.run pos pins s1 σ H1 _ I1 q) fun ws s2 ⟨zs, H2, I2, rz, l1, l2, q2⟩ => ⟨I2.kIn, ?_⟩
  rw [hks]
  exact run_fnNS F hr hb (hx σ) I2 r rz l1 l2 q2
end
end LH
end

section
set_option Elab.async false
set_option linter.all false
set_option maxRecDepth 100000
set_option maxHeartbeats 4000000
/-! str(x) of an int or a text; sep.join(xs) with a written K -/
namespace LH
open PySem PySem.Spec PyProof.Rows L2
theorem call_str_any {X : Cx} : CallR X (.type "str") (fun xs H Q => (∃ i : Int, xs = [.int i] ∧ i.natAbs.log2 < 1920 ∧ Q (.str (toString i)) H) ∨ ∃ a, xs = [.str a] ∧ Q (.str a) H) := by
  intro pins s σ H xs us Q I r h
  rcases h with h | h
  · exact call_str_int pins s σ H xs us Q I r h
  · exact SkE.call_str_str pins s σ H xs us Q I r h
theorem pi_tupK {X : Cx} (K : PySem.W.Frag) (hK : X.K = K) {tg l : Expr} {tl : TE} (hl : PE X l tl) : PI X tg l (iTup K tl) := by
  subst hK
  exact pi_tup hl
section
variable {X : Cx} {o e : Expr} {apos pos : Pos} {to te : TE}
theorem pe_joinK (K : PySem.W.Frag) (hK : X.K = K) (ho : PE X o to) (he : PE X e te) (hs : starEach [e] X.env = [(false, eval e X.env)] := by rfl) (hbase : attributeBase o "join" X.env (eval o X.env) = eval o X.env := by rfl) (hline : (apos.endLine == pos.line) = true := by rfl) :
    PE X (.Call (.Attribute o "join" apos) [e] [] pos) (tM1 (fun x xs H Q => ∃ a p, ∃ ys : List Str, x = .str a ∧ xs = [.ref p] ∧ (SqL K H p (ys.map V.str) ∨ SqT K H p (ys.map V.str)) ∧
      (ys.map (·.length)).sum + ys.length * a.length ≤ 16777216 ∧ Q (.str (Txt.join a ys)) H) to te) := by
  subst hK
  exact pe_join ho he hs hbase hline
end
end LH
end

section
set_option Elab.async false
set_option linter.all false
set_option maxRecDepth 100000
set_option maxHeartbeats 4000000
/-! zip(a text, a list) -/
namespace LH
open PySem PySem.Spec PyProof.Rows L2
/-- the signs of x with the items of the list at b, in new pairs -/
def ItzS (K : PySem.W.Frag) (x : Str) (b : Addr) : It :=
  ⟨fun i H => ∃ (ys : List V) (y : V), SqL K H b ys ∧ ys[i]? = some y ∧ i < x.cps.size,
    fun i H v H' => ∃ T c y, v = .ref T ∧ H T = none ∧ H' = upd H T (.tup [.str ⟨#[c]⟩, y]) ∧ x.cps[i]? = some c ∧ ∀ ys, SqL K H b ys → ys[i]? = some y,
    fun i H => ∃ ys : List V, SqL K H b ys ∧ i ≤ x.cps.size ∧ i ≤ ys.length ∧ (i = x.cps.size ∨ i = ys.length)⟩
theorem turn_zipS {P : Program} {w : World} {K : PySem.W.Frag} {elts : List Expr} {kk : Nat} {tpos : Pos} {x : Str} {t : Tok} {b z TI TO i1 i2 : Addr} (S : ZipSep2 z TI TO i1 i2 [i1] [i2, b]) :
    Turn P w K (.Tuple elts kk tpos) (ItzS K x b) [z, TI, TO, i1, i2] z (fun i h => IsZip h z TI TO .none ∧ IsTupOf2 h TI (.ref i1) (.ref i2) ∧ (∃ x y, IsTupOf2 h TO x y) ∧ h.IsStrIter i1 (strIterType x) x t i ∧ h.IsListIter i2 b i) where
  mem := by simp
  obj := fun i h st c hc => by
    obtain ⟨hz, hTI, ⟨x, y, hTO⟩, ⟨o1, e1, _, d1⟩, ⟨o2, e2, _, d2⟩⟩ := st
    have e' : c = z ∨ c = TI ∨ c = TO ∨ c = i1 ∨ c = i2 := by simpa using hc
    rcases e' with q | q | q | q | q
    · rw [q]; exact ⟨_, hz, fun v q => nomatch q⟩
    · rw [q]; exact ⟨_, hTI, fun v q => nomatch q⟩
    · rw [q]; exact ⟨_, hTO, fun v q => nomatch q⟩
    · rw [q]; exact ⟨o1, e1, fun v q => by rw [d1] at q; cases q⟩
    · rw [q]; exact ⟨o2, e2, fun v q => by rw [d2] at q; cases q⟩
  keep := fun i h h' st k => by
    obtain ⟨hz, hTI, ⟨x, y, hTO⟩, ⟨o1, e1, r1⟩, h2⟩ := st
    exact ⟨k z (by simp) _ hz, k TI (by simp) _ hTI, ⟨x, y, k TO (by simp) _ hTO⟩, ⟨o1, k i1 (by simp) _ e1, r1⟩, h2.at fun o q => k i2 (by simp) o q⟩
  item := by
    intro X hP hw hK hc i pins s σ H E I hf st hg
    subst hP hw hK
    obtain ⟨hz, hTI, ⟨x0, y0, hTO⟩, h1, h2⟩ := st
    obtain ⟨ys, y, hqy, hy, hx⟩ := hg
    obtain ⟨its2, rv2, p2, _⟩ := I.list hqy
    have hi2 : i < its2.toArray.size := by
      have l1 := (List.getElem?_eq_some_iff.mp hy).1
      have l2 := rv2.length
      simp
      omega
    have hzl : z < s.heap.objs.size := Heap.lt_size hz
    have hh : X.A.in1.handled = none := I.ok.hd hc
    have hbi : b ≠ i2 := fun e => by
      obtain ⟨o1, e1, c1, _⟩ := h2
      obtain ⟨o2, e2, c2, _⟩ := p2.isList
      rw [e, e1] at e2
      rw [← Option.some.inj e2, c1] at c2
      exact absurd c2 (by decide)
    refine wpAny_pyNext_zipD2_item S (.text hh i1 x t) (.list hh i2 b hbi its2.toArray) hz hTI hTO h1 ⟨h2, p2.isList⟩ hx hi2 fun v1 v2 h' tk hv1 hv2 z' TO' h1' h2' hT hsz hk => ?_
    obtain ⟨c, u, ec, rfl⟩ := hv1
    have rv2' : RelV y v2 := by
      obtain ⟨u2, hu2, ru2⟩ := rv2.get hy
      have : its2.toArray[i]? = some u2 := by simpa using hu2
      rw [this] at hv2
      rw [← Option.some.inj hv2]
      exact ru2
    refine ⟨_, rfl, wpAny_letOwnedTupleGo_zip (s := { s with heap := h', toks := tk }) z' fun h'' z'' sb => ?_⟩
    have hT2 : h''.get? s.heap.objs.size = some { cls := .type "tuple", data := .seq #[.str ⟨#[c]⟩ u, v2] } := (sb.2 _ (Nat.ne_of_gt hzl)).trans hT
    have new : ObjOk X.prog X.w (upd H s.heap.objs.size (.tup [.str ⟨#[c]⟩, y])) h'' s.heap.objs.size (.tup [.str ⟨#[c]⟩, y]) :=
      ⟨by show 2 ≤ sizeLine; decide, [.str ⟨#[c]⟩ u, v2], .cons ⟨u, rfl⟩ (.cons rv2' .nil), ⟨_, hT2, rfl, _, rfl⟩⟩
    have I1 : Inv X pins σ (upd H s.heap.objs.size (.tup [.str ⟨#[c]⟩, y])) { s with heap := h'', toks := tk } :=
      I.turnedNew (t' := tk) (ch := [z, TI, TO, i1, i2]) (fun c o hb q => (sb.2 c (fun q' => hb (by simp [q']))).trans (hk c o (fun q' => hb (by simp [q'])) (fun q' => hb (by simp [q'])) (fun q' => hb (by simp [q'])) (fun q' => hb (by simp [q'])) q)) hf (Nat.le_refl _) new
    refine ⟨.ref s.heap.objs.size, _, I1, rfl, ⟨_, c, y, rfl, I.hok.fresh (Nat.le_refl _), rfl, ec, fun l hl => by rw [I.list_inj hl hqy]; exact hy⟩, ⟨z'', ?_, ⟨.str ⟨#[c]⟩ u, v2, ?_⟩, ?_, ?_⟩, fun c hcm => ?_⟩
    · exact (sb.2 _ S.TIz).trans (hk _ _ S.TIz S.TITO S.TIi1 S.TIi2 hTI)
    · exact (sb.2 _ S.TOz).trans TO'
    · obtain ⟨o1, e1, r1⟩ := h1'
      exact ⟨o1, (sb.2 _ S.zi1.symm).trans e1, r1⟩
    · exact h2'.1.at fun o q => (sb.2 _ S.zi2.symm).trans q
    · have hlt : c < s.heap.objs.size := by
        have e' : c = z ∨ c = TI ∨ c = TO ∨ c = i1 ∨ c = i2 := by simpa using hcm
        rcases e' with q | q | q | q | q
        · rw [q]; exact hzl
        · rw [q]; exact Heap.lt_size hTI
        · rw [q]; exact Heap.lt_size hTO
        · rw [q]; obtain ⟨_, e1, _⟩ := h1; exact Heap.lt_size e1
        · rw [q]; obtain ⟨_, e2, _⟩ := h2; exact Heap.lt_size e2
      rw [upd_ne (Nat.ne_of_lt hlt)]
      exact (hf c hcm).1
  done := by
    intro X hP hw hK hc i pins s σ H E I hf st hg
    subst hP hw hK
    obtain ⟨hz, hTI, ⟨x0, y0, hTO⟩, h1, h2⟩ := st
    obtain ⟨ys, hqy, hle1, hle2, hend⟩ := hg
    obtain ⟨its2, rv2, p2, _⟩ := I.list hqy
    have l2 := rv2.length
    have hsz : its2.toArray.size = ys.length := by simp [l2]
    have hh : X.A.in1.handled = none := I.ok.hd hc
    have hbi : b ≠ i2 := fun e => by
      obtain ⟨o1, e1, c1, _⟩ := h2
      obtain ⟨o2, e2, c2, _⟩ := p2.isList
      rw [e, e1] at e2
      rw [← Option.some.inj e2, c1] at c2
      exact absurd c2 (by decide)
    exact wpAny_pyNext_zipD2_end S (.text hh i1 x t) (.list hh i2 b hbi its2.toArray) hz hTI hTO h1 ⟨h2, p2.isList⟩ hle1 (by rw [hsz]; exact hle2) (by rw [hsz]; exact hend) fun h' tk hk => ⟨rfl, I.turnedL (t' := tk) (ch := [z, TI, TO, i1, i2]) (fun c o hb q =>
      hk c o (fun q' => hb (by simp [q'])) (fun q' => hb (by simp [q'])) (fun q' => hb (by simp [q'])) (fun q' => hb (by simp [q'])) q) hf⟩
  self := fun A i s Q E st h => wpAny_pyIter_zip st.1 h
def iZipS (K : PySem.W.Frag) (ta : TA) : TI := fun σ H R => ta σ H fun vs H1 => ∃ x b ys, vs = [.str x, .ref b] ∧ SqL K H1 b ys ∧ R (ItzS K x b) H1
theorem pi_zipS {X : Cx} {e e2 : Expr} {ta : TA} {p pos tpos : Pos} {elts : List Expr} {kk : Nat} (hg : Gl X "zip") (hm : X.mg "zip" = none) (ha : PA X [e, e2] ta)
    (hs : starEach [e, e2] X.env = (false, eval e X.env) :: starEach [e2] X.env := by rfl) (hpl : (backTo pos (starEach [e2] X.env)).any (·.1) = false := by rfl) :
    PI X (.Tuple elts kk tpos) (.Call (.Name "zip" p) [e, e2] [] pos) (iZipS X.K ta) := by
  refine ⟨fun pins s σ H R I h => ?_⟩
  refine Call_ (ld_blt I hg hm PyProof.Rows.boot_zip (PyProof.Rows.callWith_type1 (thn (ha.run pos pins s σ H _ I h) fun us s1 ⟨vs, H1, I1, r1, q1⟩ => ?_) hs hpl))
  obtain ⟨x, b, ys, ex, hqy, q⟩ := q1
  subst ex
  cases r1 with
  | cons r rr =>
    cases rr with
    | cons r' rr =>
      cases rr
      obtain ⟨t, rfl⟩ := r
      cases r'
      obtain ⟨its2, rv2, p2, _⟩ := I1.list hqy
      have lb : b < s1.heap.objs.size := p2.lt
      refine zip_begins2 (begins_text x t) (begins_list b its2.toArray) trivial p2.isList fun h' hz hTI hTO h1 h2 hsz hk => wpAny_pyIter_zip hz ?_
      have I2 : Inv X pins σ H1 { s1 with heap := h' } := I1.kept (t' := s1.toks) hk
      refine ⟨s1.heap.objs.size + 4, [s1.heap.objs.size + 4, s1.heap.objs.size + 2, s1.heap.objs.size + 3, s1.heap.objs.size, s1.heap.objs.size + 1], _, _, H1, rfl, I2, turn_zipS (x := x) (t := t) (zip_sep2 (N := s1.heap.objs.size) (fp1 := []) (fp2 := [b]) (fun _ z => nomatch z) (fun c hc => by rw [List.mem_singleton.mp hc]; exact lb)), ⟨hz, hTI, ⟨_, _, hTO⟩, ⟨_, h1, rfl, rfl⟩, ⟨_, h2, rfl, rfl⟩⟩, fun c hcm => ?_, q⟩
      have e' : c = s1.heap.objs.size + 4 ∨ c = s1.heap.objs.size + 2 ∨ c = s1.heap.objs.size + 3 ∨ c = s1.heap.objs.size ∨ c = s1.heap.objs.size + 1 := by simpa using hcm
      have hle : s1.heap.objs.size ≤ c := by
        rcases e' with z | z | z | z | z
        · rw [z]; exact Nat.le_add_right _ _
        · rw [z]; exact Nat.le_add_right _ _
        · rw [z]; exact Nat.le_add_right _ _
        · rw [z]; exact Nat.le_refl _
        · rw [z]; exact Nat.le_add_right _ _
      exact I1.fpOk hle (I1.hok.fresh hle)
theorem walk_zipS {K : PySem.W.Frag} {x : Str} {b : Addr} {ys : List V} {n : Nat} (h1 : x.cps.size = n) (h2 : ys.length = n) : Walk (ItzS K x b) n (fun H => SqL K H b ys) (YPair (fun i => x.cps[i]?.map fun c => V.str ⟨#[c]⟩) (fun i => ys[i]?)) := by
  refine ⟨fun i _ hi q => ⟨ys, ys[i]'(by omega), q, by simp, by omega⟩, fun _ q => ⟨ys, q, by omega, by omega, by omega⟩, fun i H v H' _ q y => ?_⟩
  obtain ⟨T, c, z, e1, e2, e3, e4, e5⟩ := y
  exact ⟨T, _, z, e1, e2, e3, by show Option.map _ _ = _; rw [e4]; rfl, e5 ys q⟩
end LH
end

section
set_option Elab.async false
set_option linter.all false
/-! the house as plain data: what the program's defs reckon -/
namespace LH
open PySem PySem.Spec PyProof.Rows L2
structure HouseS where
  here : Int
  hold : Int
  pause : Int
  hands : Int
  age : Int
  rows : List RowS
  jobs : List JobS
  given : Nat
  cnt : List LeaseS
  staff : List (Str × List Str)
  clks : List ClockS
  log : List PyData
abbrev tDone : Str := Str.ofString "done"
abbrev tDead : Str := Str.ofString "dead"
abbrev tDropped : Str := Str.ofString "dropped"
def JobS.kind (j : JobS) : Str := j.steps.getD (min j.fin (j.steps.length - 1)) ""
def JobS.since (j : JobS) : Int := if j.free > j.til then j.free else j.til
def twice (w : Int) : Int := if w * 2 < 999 then w * 2 else 999
def dbl : Nat → Int → Int
  | 0, w => w
  | n + 1, w => dbl n (twice w)
def JobS.letGo (j : JobS) (tick : Int) : JobS := { j with held := none, share := 0, til := tick }
def JobS.again (j : JobS) (tick : Int) : JobS := { j with ended := none, tries := 0, til := tick }
def JobS.stepDone (j : JobS) (tick : Int) : JobS := { j with held := none, tries := 0, share := 0, til := tick, fin := j.fin + 1, ended := if j.fin + 1 = j.steps.length then some tDone else j.ended }
def JobS.stepFailed (j : JobS) (tick pause : Int) : JobS :=
  if ((j.tries + 1 : Nat) : Int) ≥ j.most then { j with held := none, share := 0, tries := j.tries + 1, ended := some tDead } else { j with held := none, share := 0, tries := j.tries + 1, til := tick + dbl j.tries pause }
end LH
end

section
set_option Elab.async false
set_option linter.all false
set_option maxRecDepth 100000
set_option maxHeartbeats 4000000
namespace LH
open PySem PySem.Spec PyProof.Rows L2 StX
variable {P : Program} {w : World} {K : PySem.W.Frag} {mg : Str → Option Value} {base : Heap}
def isName (s : Str) : Bool := decide (1 ≤ s.length ∧ s.length ≤ 8) && s.cps.toList.all fun c => decide (c ∈ (Str.ofString "abcdefghijklmnopqrstuvwxyz").cps.toList)
@[irreducible] def sp_is_name (K : PySem.W.Frag) : Sp := fun vs H Q E => ∃ x : Str, vs = [.str x] ∧ x.length ≤ sizeLine ∧ ∀ H', Same H H' → Q (.bl (isName x)) H'
theorem sc_is_name : FnScope ["part", "sign"] ["part"] (defScope s_is_name) := ⟨rfl, rfl, rfl, by decide +kernel, rfl, by decide +kernel, by decide +kernel⟩
theorem Tp.ok_is_name (T : Tp P w K mg base) : FnR P w K mg base (L2.CX P w) (0 + 1) (He.ga K "is_name") (sp_is_name K) := by
  refine fnr (N := ["part", "sign"]) (ps := ["part"]) (k := 0) T.fd_is_name sc_is_name (fun _ _ _ _ _ _ us hl => match us, hl with | [_], _ => rfl) (fun vs H Q E h => ?_) fun cdv A outer s H vs Q E hr h => ?_
  · unfold sp_is_name at h
    obtain ⟨_, rfl, _⟩ := h
    rfl
  unfold sp_is_name at h
  obtain ⟨x, rfl, hz, q⟩ := h
  refine ⟨_, (pss_one (ps_ret (pe_and (pe_callB call_isi rfl T.f_isinstance bt_isinstance (pa_cons (pv 0) (pa_cons (pe_ty rfl T.f_str bt_str) pa_nil))) (pe_and (pe_chain op_le op_le pe_int (pe_callB call_len_str rfl T.f_len bt_len (pa_cons (pv 0) pa_nil)) (pe_gi rfl T.v_MOST_LETTERS)) (pe_one (pe_callB (cr_all rfl) rfl T.f_all bt_all (pa_cons (pe_lc (own := [("sign", 1)]) rfl sc_is_name.nd (pi_str (pv 0)) (blkOk_by (own := [("sign", 1)]) (N := ["part", "sign"]) (sc := defScope s_is_name) (by decide +kernel)) (fun _ _ _ _ _ => (pg_name (i := 1) sc_is_name.nd rfl (by first | exact .inl rfl | exact .inr rfl))) (fun _ _ _ _ _ => pts_nil) (fun _ _ _ _ _ => (pe_cmpR op_in_sign (pv 1) (pe_gs rfl T.v_LETTERS) (by rfl)))) pa_nil))))))), ?_⟩
  refine ⟨_, rfl, ⟨_, _, _, _, true, rfl, .ty _, .base (.str _), kit_ty (by decide +kernel), ⟨_, rfl, iteT ?_⟩⟩⟩
  have last : ∀ b : Bool, (isName x = b) → Q (.bl b) H := fun b e => by rw [← e]; exact q H Same.rfl'
  refine ⟨_, rfl, x, rfl, hz, _, _, rfl, rfl, _, rfl, ?_⟩
  by_cases h1 : 1 ≤ x.length
  · refine (if_pos (by simp; omega)).mpr ⟨_, _, rfl, rfl, _, rfl, ?_⟩
    by_cases h2 : x.length ≤ 8
    · refine (if_pos (by simp; omega)).mpr ⟨_, rfl, ?_⟩
      refine ⟨x, rfl, fun D hn => lcS (walk_str (z := x)) x.cps.toList (fun c => some (.bl (decide (c ∈ (Str.ofString "abcdefghijklmnopqrstuvwxyz").cps.toList)))) (by simp) ?_ hn (fun _ _ => trivial) ?_ ?_⟩
      · have : x.cps.size = x.length := rfl
        have : (8 : Nat) < sizeLine := by decide
        omega
      · rintro i c v H1 H' R R0 ec s ⟨rfl, c', ec', rfl⟩ k1 k2
        have e : c = c' := by
          rw [Array.getElem?_toList] at ec
          rw [ec] at ec'
          exact Option.some.inj ec'
        subst e
        exact ⟨rfl, ⟨_, rfl, c, _, rfl, rfl, k1 _ _ rfl Same.rfl'⟩⟩
      · intro H' s e
        refine ⟨_, x.cps.toList.map fun c => decide (c ∈ (Str.ofString "abcdefghijklmnopqrstuvwxyz").cps.toList), rfl, .inl (.inl ?_), ?_⟩
        · rw [e, List.map_map, List.filterMap_eq_map']
          rfl
        · have := q H' s
          rw [show isName x = (x.cps.toList.map fun c => decide (c ∈ (Str.ofString "abcdefghijklmnopqrstuvwxyz").cps.toList)).all id from ?_] at this
          · exact this
          · unfold isName
            rw [decide_eq_true ⟨h1, h2⟩, Bool.true_and, List.all_map]
            rfl
    · refine (if_neg (by simp; omega)).mpr (last _ ?_)
      unfold isName
      rw [decide_eq_false (by omega), Bool.false_and]
  · refine (if_neg (by simp; omega)).mpr ⟨_, rfl, iteF (last _ ?_)⟩
    unfold isName
    rw [decide_eq_false (by omega), Bool.false_and]
end LH
end

section
set_option Elab.async false
set_option linter.all false
set_option maxRecDepth 100000
set_option maxHeartbeats 4000000
namespace LH
open PySem PySem.Spec PyProof.Rows L2 StX
variable {P : Program} {w : World} {K : PySem.W.Frag} {mg : Str → Option Value} {base : Heap}
theorem dT {p A B : Prop} [Decidable p] (h : p) (q : A) : if decide p = true then A else B := by rw [if_pos (decide_eq_true h)]; exact q
theorem dF {p A B : Prop} [Decidable p] (h : ¬ p) (q : B) : if decide p = true then A else B := by rw [if_neg (by simpa using h)]; exact q
theorem nT {p A B : Prop} [Decidable p] (h : ¬ p) (q : A) : if (!decide p) = true then A else B := by rw [if_pos (by simpa using h)]; exact q
theorem nF {p A B : Prop} [Decidable p] (h : p) (q : B) : if (!decide p) = true then A else B := by rw [if_neg (by simpa using h)]; exact q
@[irreducible] def sp_is_kind (K : PySem.W.Frag) : Sp := fun vs H Q E => ∃ (t : Addr) (x : Str) (m r : Int), vs = [.ref t] ∧ SqT K H t [.str x, .int m, .int r] ∧ isName x = true ∧ (1 ≤ m ∧ m ≤ 9) ∧ (1 ≤ r ∧ r ≤ 99) ∧ ∀ H', Same H H' → Q (.bl true) H'
end LH
end

section
set_option Elab.async false
set_option linter.all false
set_option maxRecDepth 100000
set_option maxHeartbeats 4000000
namespace LH
open PySem PySem.Spec PyProof.Rows L2 StX
variable {P : Program} {w : World} {K : PySem.W.Frag} {mg : Str → Option Value} {base : Heap}
/-- a row that is never reached -/
theorem ps_dead {X : Cx} {st : Stmt} : PS X st (fun _ _ _ => False) := ⟨fun _ _ _ _ _ _ h => h.elim⟩
structure PlanG where
  a : Addr
  kind : Str
  most : Int
  rate : Int
def PlanAt (K : PySem.W.Frag) (H : Hp) (t : Addr) (l : List PlanG) : Prop := SqT K H t (refs (·.a) l) ∧ ∀ r ∈ l, SqT K H r.a [.str r.kind, .int r.most, .int r.rate]
theorem PlanAt.same {H H' : Hp} {t : Addr} {l : List PlanG} (h : PlanAt K H t l) (s : Same H H') : PlanAt K H' t l := ⟨KeepT.same s _ _ h.1, fun r hr => KeepT.same s _ _ (h.2 r hr)⟩
structure PlanOk (l : List PlanG) : Prop where
  ne : l ≠ []
  len : l.length ≤ 6
  row : ∀ r ∈ l, isName r.kind = true ∧ (1 ≤ r.most ∧ r.most ≤ 9) ∧ (1 ≤ r.rate ∧ r.rate ≤ 99)
  nd : (l.map (·.kind)).Nodup
theorem kind_ok {t : Addr} {x : Str} {m r : Int} {H : Hp} {Q : VK} {E : XK} (ht : SqT K H t [.str x, .int m, .int r]) (h : isName x = true ∧ (1 ≤ m ∧ m ≤ 9) ∧ (1 ≤ r ∧ r ≤ 99)) (q : ∀ H', Same H H' → Q (.bl true) H') : sp_is_kind K [.ref t] H Q E := by
  unfold sp_is_kind
  exact ⟨t, x, m, r, rfl, ht, h.1, h.2.1, h.2.2, q⟩
end LH
end

section
set_option Elab.async false
set_option linter.all false
/-! the house as plain data: what each of its defs does -/
namespace LH
open PySem PySem.Spec PyProof.Rows L2 PySem.W
abbrev S' (s : String) : PyData := .str (Str.ofString s)
abbrev I' (i : Int) : PyData := .int i
abbrev N' (n : Nat) : PyData := .int (n : Int)
def RowS.trim (r : RowS) (tick : Int) : RowS := { r with ticks := r.ticks.filter fun o => decide (o > tick - 10) }
def ins {α : Type} (le : α → α → Bool) (a : α) : List α → List α
  | [] => [a]
  | b :: l => if le a b = true then a :: b :: l else b :: ins le a l
def isort {α : Type} (le : α → α → Bool) : List α → List α
  | [] => []
  | a :: l => ins le a (isort le l)
theorem ins_split {α : Type} {le : α → α → Bool} {a : α} : ∀ {l1 l2 : List α}, (∀ b ∈ l1, (!le a b) = true) → (∀ b ∈ l2, le a b = true) → ins le a (l1 ++ l2) = l1 ++ a :: l2
  | [], [], _, _ => rfl
  | [], b :: l2, _, h => by
    show (if le a b = true then a :: b :: l2 else b :: ins le a l2) = _
    rw [if_pos (h b List.mem_cons_self)]
    rfl
  | b :: l1, l2, h1, h2 => by
    show (if le a b = true then a :: b :: (l1 ++ l2) else b :: ins le a (l1 ++ l2)) = _
    have := h1 b List.mem_cons_self
    rw [if_neg (by simpa using this), ins_split (fun c hc => h1 c (List.mem_cons_of_mem _ hc)) h2]
    rfl
theorem msort_eq {α : Type} {le : α → α → Bool} (tl : TotalLe le) : ∀ l : List α, l.mergeSort le = isort le l
  | [] => by simp [isort]
  | a :: l => by
    have tt : ∀ a b : α, (le a b || le b a) = true := fun a b => by rcases tl.total a b with h | h <;> simp [h]
    obtain ⟨l1, l2, h1, h2, h3⟩ := List.mergeSort_cons (le := le) (fun a b c => tl.trans a b c) tt a l
    have hp := List.pairwise_mergeSort (le := le) (fun a b c => tl.trans a b c) tt (a :: l)
    rw [h1, List.pairwise_append] at hp
    show _ = ins le a (isort le l)
    rw [← msort_eq tl l, h2, h1, ins_split h3 fun b hb => (List.pairwise_cons.mp hp.2.1).1 b hb]
theorem dsort_eq {β : Type} (k : β → PyData) (l : List β) : isort (dataLe false k) l = l.mergeSort (dataLe false k) := (msort_eq (sortLe_total _ _ _) l).symm
namespace HouseS
def rowUp (h : HouseS) (k : Str) (f : RowS → RowS) : HouseS := { h with rows := h.rows.map fun r => if r.kind = k then f r else r }
def row (h : HouseS) (k : Str) : Option RowS := h.rows.find? fun r => decide (r.kind = k)
def jobUp (h : HouseS) (i : Nat) (f : JobS → JobS) : HouseS := match h.jobs[i]? with
  | none => h
  | some j => { h with jobs := h.jobs.set i (f j) }
def ended (h : HouseS) (n : Nat) : Option Str := (h.jobs[n]?).bind (·.ended)
def lease (h : HouseS) (n : Nat) : Option LeaseS := h.cnt.find? fun l => decide (l.num = n)
def note (h : HouseS) (e : PyData) : HouseS := { h with log := h.log ++ [e] }
def missing (h : HouseS) (j : JobS) : List Nat := j.needs.filter fun n => decide (h.ended n ≠ some tDone)
def isReady (h : HouseS) (j : JobS) : Bool := decide (j.ended = none) && decide (j.held = none) && decide (j.til ≤ h.here) && decide (h.missing j = [])
def rankOf (h : HouseS) (j : JobS) : Int := if h.age > 0 then j.rank + (h.here - j.since) / h.age else j.rank
def turnKey (h : HouseS) (n : Nat) : PyData := match h.jobs[n]? with
  | none => .none
  | some j => .tuple [I' (0 - h.rankOf j), I' j.since, N' n]
def ready (h : HouseS) : List Nat := (List.range h.jobs.length).filter fun n => match h.jobs[n]? with
  | none => false
  | some j => h.isReady j
def order (h : HouseS) : List Nat := isort (dataLe false h.turnKey) h.ready
theorem order_eq (h : HouseS) : h.order = h.ready.mergeSort (dataLe false h.turnKey) := dsort_eq _ _
def handsOf (h : HouseS) (w : Str) : Nat := (h.cnt.filter fun l => decide (l.worker = w)).length
def kindsOf (h : HouseS) (w : Str) : List Str := ((h.staff.find? fun s => decide (s.1 = w)).map (·.2)).getD []
def lately (h : HouseS) (k : Str) : Int × HouseS := match h.row k with
  | none => (0, h)
  | some r => (((r.trim h.here).ticks.length : Nat), h.rowUp k fun r => r.trim h.here)
def hindrance (h : HouseS) (w : Str) (j : JobS) : Option Str × HouseS :=
  match h.row j.kind with
  | none => (none, h)
  | some r =>
    if ¬ j.kind ∈ h.kindsOf w then (some (Str.ofString "kind"), h)
    else if ¬ r.cnt < r.most then (some (Str.ofString "most"), h)
    else if ¬ (h.lately j.kind).1 < r.rate then (some (Str.ofString "rate"), (h.lately j.kind).2)
    else (if (h.handsOf w : Int) ≥ h.hands then some (Str.ofString "hands") else none, (h.lately j.kind).2)
def takeOne (h : HouseS) (w : Str) (n : Nat) (j : JobS) : HouseS :=
  (((({ h with given := h.given + 1, cnt := h.cnt ++ [⟨h.given, n, j.fin, w, h.here + h.hold⟩] } : HouseS).rowUp j.kind fun r => { r with cnt := r.cnt + 1, ticks := r.ticks ++ [h.here] }).jobUp n fun j => { j with held := some h.given }).note
    (.tuple [S' "take", .str w, N' n, N' j.fin, N' h.given]))
def takeIn (w : Str) : List Nat → HouseS → PyData × HouseS
  | [], h => (.none, h)
  | n :: ns, h => match h.jobs[n]? with
    | none => (.none, h)
    | some j => if (h.hindrance w j).1 = none then (.tuple [N' n, N' j.fin, N' h.given, I' (h.here + h.hold)], (h.hindrance w j).2.takeOne w n j) else takeIn w ns (h.hindrance w j).2
def take (h : HouseS) (w : Str) : PyData × HouseS := takeIn w h.order h
def closed (h : HouseS) (l : LeaseS) : HouseS := match h.jobs[l.work]? with
  | none => h
  | some j => { h.rowUp j.kind fun r => { r with cnt := r.cnt - 1 } with cnt := h.cnt.filter fun o => decide (o.num ≠ l.num) }
def failOne (h : HouseS) (l : LeaseS) : HouseS := (h.closed l).jobUp l.work fun j => j.stepFailed h.here h.pause
def goOne (h : HouseS) (l : LeaseS) : HouseS := (h.closed l).jobUp l.work fun j => j.letGo h.here
def fail (h : HouseS) (n : Nat) : Bool × HouseS := match h.lease n with
  | none => (false, h)
  | some l => (true, (h.note (.tuple [S' "fail", N' n])).failOne l)
def done (h : HouseS) (n : Nat) : Bool × HouseS := match h.lease n with
  | none => (false, h)
  | some l =>
    let h2 := ((h.note (.tuple [S' "done", N' n])).closed l).jobUp l.work fun j => j.stepDone h.here
    (true, if h2.ended l.work = some tDone then { h2 with jobs := h2.jobs.map fun o => if l.work ∈ o.needs then { o with free := h.here } else o } else h2)
def beat (h : HouseS) (n : Nat) : Bool × HouseS := match h.lease n with
  | none => (false, h)
  | some _ => (true, { h.note (.tuple [S' "beat", N' n]) with cnt := h.cnt.map fun l => if l.num = n then { l with til := h.here + h.hold } else l })
def tell (h : HouseS) (n : Nat) (share : Int) : Bool × HouseS := match h.lease n with
  | none => (false, h)
  | some l => match h.jobs[l.work]? with
    | none => (false, h)
    | some j => if share < j.share then (false, h) else (true, (h.note (.tuple [S' "tell", N' n, I' share])).jobUp l.work fun j => { j with share := share })
def drop (h : HouseS) (n : Nat) : Bool × HouseS := match h.jobs[n]? with
  | none => (false, h)
  | some j =>
    if j.ended ≠ none then (false, h)
    else
      let h1 := h.note (.tuple [S' "drop", N' n])
      let h2 := match j.held with
        | none => h1
        | some m => match h1.lease m with
          | none => h1
          | some l => h1.goOne l
      (true, h2.jobUp n fun j => { j with ended := some tDropped })
def again (h : HouseS) (n : Nat) : Bool × HouseS := match h.jobs[n]? with
  | none => (false, h)
  | some j => if j.ended ≠ some tDead then (false, h) else (true, (h.note (.tuple [S' "again", N' n])).jobUp n fun j => j.again h.here)
def newJob (h : HouseS) (rank til : Int) (steps : List Str) (needs : List Nat) (most : Int) : HouseS := { h with jobs := h.jobs ++ [⟨rank, til, steps, needs, most, 0, 0, 0, none, none, h.here⟩] }
def add (h : HouseS) (rank time : Int) (steps : List Str) (needs : List Nat) (tries : Int) : HouseS :=
  (h.note (.tuple [S' "add", I' rank, I' time, .tuple (steps.map .str), .tuple (needs.map N'), I' tries])).newJob rank time steps needs tries
def strikeAt (tick : Int) (h : HouseS) (i : Nat) : HouseS := match h.clks[i]? with
  | none => h
  | some c => if c.left > 0 ∧ c.coming = tick then { h.newJob c.rank tick c.steps [] c.tries with clks := h.clks.set i { c with left := c.left - 1, coming := c.coming + c.every } } else h
def strike (h : HouseS) (tick : Int) : HouseS := (List.range h.clks.length).foldl (strikeAt tick) h
def clock (h : HouseS) (rank : Int) (steps : List Str) (first every many tries : Int) : HouseS :=
  let h1 := h.note (.tuple [S' "clock", I' rank, .tuple (steps.map .str), I' first, I' every, I' many, I' tries])
  ({ h1 with clks := h1.clks ++ [⟨rank, steps, tries, first, every, many⟩] } : HouseS).strike h.here
def join (h : HouseS) (w : Str) (kinds : List Str) : HouseS := { h.note (.tuple [S' "join", .str w, .tuple (kinds.map .str)]) with staff := h.staff ++ [(w, kinds)] }
def leave (h : HouseS) (w : Str) : HouseS :=
  let h1 := h.note (.tuple [S' "leave", .str w])
  (h.cnt.filter fun l => decide (l.worker = w)).foldl goOne { h1 with staff := h1.staff.filter fun s => decide (s.1 ≠ w) }
def limit (h : HouseS) (k : Str) (most rate : Int) : HouseS := (h.note (.tuple [S' "limit", .str k, I' most, I' rate])).rowUp k fun r => { r with most := most, rate := rate }
def nextTicks (h : HouseS) : List Int := h.cnt.map (·.til) ++ ((h.clks.filter fun c => decide (c.left > 0)).map (·.coming))
def minOf : List Int → Option Int
  | [] => none
  | x :: xs => some (xs.foldl min x)
/-- the leases that end now, by number -/
def byNum (h : HouseS) : List LeaseS := isort (dataLe false fun l => N' l.num) h.cnt
theorem byNum_eq (h : HouseS) : h.byNum = h.cnt.mergeSort (dataLe false fun l => N' l.num) := dsort_eq _ _
def turnTo (h : HouseS) (t : Int) : HouseS :=
  let h1 : HouseS := { h with here := t }
  (h1.byNum.foldl (fun h l => if l.til = t then h.failOne l else h) h1).strike t
def turnIn (tick : Int) : Nat → HouseS → HouseS
  | 0, h => { h with here := tick }
  | f + 1, h => match minOf h.nextTicks with
    | none => { h with here := tick }
    | some t => if t ≤ tick then turnIn tick f (h.turnTo t) else { h with here := tick }
def turn (h : HouseS) (tick : Int) : HouseS := turnIn tick (tick - h.here).toNat (h.note (.tuple [S' "turn", I' tick]))
def leaseD (l : LeaseS) : PyData := .tuple [N' l.num, N' l.work, N' l.step, .str l.worker, I' l.til]
def leases (h : HouseS) : PyData := .list ((isort (dataLe false leaseD) h.cnt).map leaseD)
end HouseS
/-- what the program keeps of a house -/
structure HouseOk (h : HouseS) : Prop where
  rows : (h.rows.map (·.kind)).Nodup
  jobs : ∀ (i : Nat) (j : JobS), h.jobs[i]? = some j → j.steps ≠ [] ∧ (∀ s ∈ j.steps, ∃ r, h.row s = some r) ∧ (∀ n ∈ j.needs, n < i) ∧ j.needs.length ≤ 6 ∧ j.steps.length ≤ 5 ∧ j.tries ≤ 900
  cnt : ∀ l ∈ h.cnt, l.num < h.given ∧ ∃ j : JobS, h.jobs[l.work]? = some j ∧ j.held = some l.num
  nums : (h.cnt.map (·.num)).Nodup
  held : ∀ (i : Nat) (j : JobS) (m : Nat), h.jobs[i]? = some j → j.held = some m → ∃ l ∈ h.cnt, l.num = m ∧ l.work = i
  staff : (h.staff.map (·.1)).Nodup
  pause : 0 ≤ h.pause ∧ h.pause ≤ 999
  needy : (h.jobs.filter fun j => decide (j.needs ≠ [])).length ≤ 120
  sizes : h.jobs.length ≤ 1000000 ∧ h.cnt.length ≤ 1000000 ∧ h.log.length ≤ 1000000 ∧ h.clks.length ≤ 1000000 ∧ h.staff.length ≤ 1000000 ∧ h.rows.length ≤ 8 ∧ ∀ r ∈ h.rows, r.ticks.length ≤ 1000000
  alive : ∀ (i : Nat) (j : JobS), h.jobs[i]? = some j → (1 ≤ j.most ∧ j.most ≤ 9) ∧ (j.tries : Int) ≤ j.most ∧ (j.ended = none → (j.tries : Int) < j.most) ∧ (j.held ≠ none → j.ended = none)
  clks : ∀ c ∈ h.clks, c.steps ≠ [] ∧ (∀ s ∈ c.steps, ∃ r, h.row s = some r) ∧ c.steps.length ≤ 5 ∧ (1 ≤ c.tries ∧ c.tries ≤ 9) ∧ 1 ≤ c.every
  pot : h.jobs.length + h.clks.length + (h.clks.map fun c => c.left.toNat).sum ≤ 900000
end LH
end

section
set_option Elab.async false
set_option linter.all false
set_option maxRecDepth 100000
set_option maxHeartbeats 4000000
namespace LH
open PySem PySem.Spec PyProof.Rows L2 StX
variable {P : Program} {w : World} {K : PySem.W.Frag} {mg : Str → Option Value} {base : Heap}
/-! ### from the ghost to the plain house -/
theorem find_map {α β : Type} (f : α → β) (p : β → Bool) (l : List α) : (l.map f).find? p = (l.find? fun a => p (f a)).map f := by
  induction l with
  | nil => rfl
  | cons a l ih =>
    rw [List.map_cons, List.find?_cons, List.find?_cons]
    cases p (f a) with
    | true => rfl
    | false => exact ih
/-! ### the small defs -/
/-! ### what a job waits for -/
end LH
end

section
set_option Elab.async false
set_option linter.all false
set_option maxRecDepth 100000
set_option maxHeartbeats 4000000
namespace LH
open PySem PySem.Spec PyProof.Rows L2 StX
variable {P : Program} {w : World} {K : PySem.W.Frag} {mg : Str → Option Value} {base : Heap}
theorem none_same {H H' : Hp} {p : Addr} (s : Same H H') (h : H' p = none) : H p = none := by
  cases e : H p with
  | none => rfl
  | some o => rw [s _ _ e] at h; cases h
end LH
end

section
set_option Elab.async false
set_option linter.all false
set_option maxRecDepth 100000
set_option maxHeartbeats 4000000
namespace LH
open PySem PySem.Spec PyProof.Rows L2 StX
variable {P : Program} {w : World} {K : PySem.W.Frag} {mg : Str → Option Value} {base : Heap}
/-- the house stands anew, its places and its jobs' places as they were; the rest of the heap too -/
structure Stp (K : PySem.W.Frag) (H : Hp) (G : HG) (H' : Hp) (G' : HG) : Prop where
  at_ : HouseAt K H' G'
  fr : FrH (TT K) H G H' G'
  base : pa0 G' = pa0 G
  jobs : ∀ (i : Nat) (g : JobG), G.jobs[i]? = some g → ∃ g' : JobG, G'.jobs[i]? = some g' ∧ g'.a = g.a
theorem Stp.p {H H' : Hp} {G G' : HG} (s : Stp K H G H' G') : G'.p = G.p := by
  have := s.base
  simp only [pa0, List.cons.injEq] at this
  exact this.1
theorem Stp.lim {H H' : Hp} {G G' : HG} (s : Stp K H G H' G') : G'.lim = G.lim := by
  have := s.base
  simp only [pa0, List.cons.injEq] at this
  exact this.2.1
theorem Stp.trans {H H1 H2 : Hp} {G G1 G2 : HG} (a : Stp K H G H1 G1) (b : Stp K H1 G1 H2 G2) : Stp K H G H2 G2 :=
  ⟨b.at_, a.fr.trans b.fr, b.base.trans a.base, fun i g h => by
    obtain ⟨g1, e1, a1⟩ := a.jobs i g h
    obtain ⟨g2, e2, a2⟩ := b.jobs i g1 e1
    exact ⟨g2, e2, a2.trans a1⟩⟩
theorem Stp.same {H H' : Hp} {G : HG} (hg : HouseAt K H G) (s : Same H H') : Stp K H G H' G := ⟨hg.same s, .same s fun b hb => .inl hb, rfl, fun i g h => ⟨g, h, rfl⟩⟩
theorem Stp.refl {H : Hp} {G : HG} (hg : HouseAt K H G) : Stp K H G H G := .same hg Same.rfl'
/-- nothing but a table stood there -/
def Fresh0 (H0 : Hp) (a : Addr) : Prop := ∀ o, H0 a = some o → ∃ ps, o = .tbl ps
theorem Fresh0.of {H0 H : Hp} {a : Addr} (old : ∀ o, H0 a = some o → (∀ ps, o ≠ .tbl ps) → H a = some o) (ha : H a = none) : Fresh0 H0 a := fun o e => by
  cases o with
  | tbl ps => exact ⟨ps, rfl⟩
  | _ =>
    have := old _ e (fun _ z => nomatch z)
    rw [ha] at this
    cases this
end LH
end

section
set_option Elab.async false
set_option linter.all false
set_option maxRecDepth 100000
set_option maxHeartbeats 4000000
namespace LH
open PySem PySem.Spec PyProof.Rows L2 StX PySem.W LamX
variable {P : Program} {w : World} {K : PySem.W.Frag} {mg : Str → Option Value} {base : Heap}
theorem pg_tupK {X : Cx} (K : PySem.W.Frag) (hK : X.K = K) (n : Nat) (hc : X.calm = true) {es : List Expr} {k : Nat} {t : TGs} {pos : Pos} (h : PGs X es t)
    (hn : (assignEach es X.env).length = n := by rfl) (hst : (assignEach es X.env).findIdx? (·.1) = none := by rfl) : PG X (.Tuple es k pos) (gTup K n t) := by
  subst hK
  exact pg_tup hc h hn hst
end LH
end

section
set_option Elab.async false
set_option linter.all false
set_option maxRecDepth 100000
set_option maxHeartbeats 4000000
namespace LH
open PySem PySem.Spec PyProof.Rows L2 StX
variable {P : Program} {w : World} {K : PySem.W.Frag} {mg : Str → Option Value} {base : Heap}
/-! ### new things -/
theorem w0 {H : Hp} {a C dx : Addr} {fs : List (Str × V)} {f : Str} {v : V} (h : H a = some (.ins C dx fs)) (c : Cls K C) (n : NoAttr K C f) (hl : fs.length < 1000) {R : Hp → Prop} (q : R (upd H a (.ins C dx (putF f v fs)))) :
    ∃ a' C' dx' fs', V.ref a = .ref a' ∧ H a' = some (.ins C' dx' fs') ∧ Cls K C' ∧ NoAttr K C' f ∧ fs'.length < 1000 ∧ R (upd H a' (.ins C' dx' (putF f v fs'))) := ⟨_, _, _, _, rfl, h, c, n, hl, q⟩
end LH
end

section
set_option Elab.async false
set_option linter.all false
set_option maxRecDepth 100000
set_option maxHeartbeats 4000000
set_option pp.maxSteps 1500
namespace LH
open PySem PySem.Spec PyProof.Rows L2 StX LamX
variable {P : Program} {w : World} {K : PySem.W.Frag} {mg : Str → Option Value} {base : Heap}
theorem stepFailed_steps (j : JobS) (t p : Int) : (j.stepFailed t p).steps = j.steps ∧ (j.stepFailed t p).needs = j.needs := by
  unfold JobS.stepFailed
  split <;> exact ⟨rfl, rfl⟩
end LH
end

section
set_option Elab.async false
set_option linter.all false
set_option maxRecDepth 100000
set_option maxHeartbeats 4000000
set_option pp.maxSteps 1500
namespace LH
open PySem PySem.Spec PyProof.Rows L2 StX LamX
variable {P : Program} {w : World} {K : PySem.W.Frag} {mg : Str → Option Value} {base : Heap}
theorem half_get {α : Type} {f : α → α} {l : List α} {i : Nat} : ((l.take i).map f ++ l.drop i)[i]? = l[i]? := by
  rw [List.getElem?_append_right (by rw [List.length_map, List.length_take]; omega)]
  rw [List.length_map, List.length_take, List.getElem?_drop]
  by_cases h : i < l.length
  · congr 1
    omega
  · rw [List.getElem?_eq_none (by omega), List.getElem?_eq_none (by omega)]
theorem half_next {α : Type} {f : α → α} {l : List α} {i : Nat} {x : α} (h : l[i]? = some x) : (l.take (i + 1)).map f ++ l.drop (i + 1) = ((l.take i).map f ++ l.drop i).set i (f x) := by
  obtain ⟨hi, he⟩ := List.getElem?_eq_some_iff.mp h
  rw [List.set_append, if_neg (by rw [List.length_map, List.length_take]; omega), List.length_map, List.length_take, List.drop_eq_getElem_cons hi, List.take_succ, h, Nat.min_eq_left (Nat.le_of_lt hi), Nat.sub_self]
  simp
  rw [List.drop_eq_getElem_cons hi]
  rfl
theorem half_same {α : Type} {f : α → α} {l : List α} {i : Nat} {x : α} (h : l[i]? = some x) (e : f x = x) : (l.take (i + 1)).map f ++ l.drop (i + 1) = (l.take i).map f ++ l.drop i := by
  obtain ⟨hi, he⟩ := List.getElem?_eq_some_iff.mp h
  rw [List.drop_eq_getElem_cons hi, List.take_succ, h, he]
  simp [e]
end LH
end

section
set_option Elab.async false
set_option linter.all false
set_option maxRecDepth 100000
set_option maxHeartbeats 4000000
/-! the plain house stays well formed -/
namespace LH
open PySem PySem.Spec PyProof.Rows L2
theorem filter_set_len {α : Type} (p : α → Bool) {l : List α} {i : Nat} {x y : α} (h : l[i]? = some x) (e : p y = p x) : ((l.set i y).filter p).length = (l.filter p).length := by
  induction l generalizing i with
  | nil => cases h
  | cons a l ih =>
    cases i with
    | zero =>
      obtain rfl : a = x := Option.some.inj h
      rw [List.set_cons_zero, List.filter_cons, List.filter_cons, e]
      split <;> rfl
    | succ i =>
      have z := ih (i := i) (by simpa using h)
      rw [List.set_cons_succ, List.filter_cons, List.filter_cons]
      split
      · rw [List.length_cons, List.length_cons, z]
      · exact z
theorem set_get {α : Type} {l : List α} {i k : Nat} {y z : α} (h : (l.set i y)[k]? = some z) : (k = i ∧ z = y ∧ i < l.length) ∨ (k ≠ i ∧ l[k]? = some z) := by
  rw [List.getElem?_set] at h
  by_cases e : i = k
  · rw [if_pos e] at h
    by_cases hl : i < l.length
    · rw [if_pos hl] at h
      exact .inl ⟨e.symm, (Option.some.inj h).symm, hl⟩
    · rw [if_neg hl] at h
      cases h
  · rw [if_neg e] at h
    exact .inr ⟨fun z => e z.symm, h⟩
end LH
end

section
set_option Elab.async false
set_option linter.all false
set_option maxRecDepth 100000
set_option maxHeartbeats 4000000
namespace LH
open PySem PySem.Spec PyProof.Rows L2
theorem lease_jobS {h : HouseS} (ok : HouseOk h) {l : LeaseS} (hl : l ∈ h.cnt) : ∃ j, h.jobs[l.work]? = some j ∧ j.held = some l.num ∧ j.ended = none ∧ (j.tries : Int) < j.most ∧ (1 ≤ j.most ∧ j.most ≤ 9) := by
  obtain ⟨_, j, ej, hj⟩ := ok.cnt l hl
  obtain ⟨a, _, c, d⟩ := ok.alive _ _ ej
  have e := d (by rw [hj]; simp)
  exact ⟨j, ej, hj, e, c e, a⟩
end LH
end

section
set_option Elab.async false
set_option linter.all false
set_option maxRecDepth 100000
set_option maxHeartbeats 4000000
set_option pp.maxSteps 1500
namespace LH
open PySem PySem.Spec PyProof.Rows L2 StX LamX
variable {P : Program} {w : World} {K : PySem.W.Frag} {mg : Str → Option Value} {base : Heap}
theorem name_strOk {x : Str} (h : isName x = true) : PyData.strOk x = true := by
  unfold isName at h
  obtain ⟨_, h2⟩ := Bool.and_eq_true_iff.mp h
  unfold PyData.strOk
  rw [← Array.all_toList, List.all_eq_true]
  intro c hc
  have h3 := List.all_eq_true.mp h2 c hc
  have h4 : ∀ c ∈ (Str.ofString "abcdefghijklmnopqrstuvwxyz").cps.toList, decide (c < 0x110000) = true := by decide +kernel
  exact h4 c (by simpa using h3)
end LH
end

section
set_option Elab.async false
set_option linter.all false
set_option maxRecDepth 100000
set_option maxHeartbeats 4000000
/-! what texts write: words, parts, deeds -/
namespace LH
open PySem PySem.Spec PyProof.Rows L2 NumText
abbrev figS : Str := Str.ofString "0123456789"
def isFig (w : Str) : Bool := w.cps.toList.all fun c => decide (c ∈ figS.cps.toList)
def okFig (w : Str) : Bool := decide (1 ≤ w.length ∧ w.length ≤ 5) && isFig w
/-- a word that is "0", or begins with another sign -/
def headOk (w : Str) : Bool := decide (w = Str.ofString "0") || decide (w.cps[0]? ≠ some 48)
def numW (w : Str) : Option Nat := if (okFig w && headOk w) = true then some (digitsVal w.cps.toList) else none
def numD (w : Str) : PyData := match numW w with
  | some n => N' n
  | none => .none
def namD (w : Str) : PyData := if isName w = true then .str w else .none
def isNo : PyData → Bool
  | .none => true
  | _ => false
def partsD (f : Str → PyData) (ws : List Str) : PyData := if (ws.map f).any isNo = true then .none else .tuple (ws.map f)
def partD (form w : Str) : PyData :=
  if form = Str.ofString "n" then numD w
  else if form = Str.ofString "w" then namD w
  else if form = Str.ofString "j" ∧ w = Str.ofString "-" then .tuple []
  else partsD (if form = Str.ofString "j" then numD else namD) (Txt.split w (Str.ofString ","))
def formsL : List (Str × Str) := [("add", "nnkjn"), ("clock", "nknnnn"), ("join", "wk"), ("leave", "w"), ("limit", "wnn"), ("turn", "n"), ("take", "w"), ("done", "n"), ("fail", "n"), ("beat", "n"), ("tell", "nn"), ("drop", "n"), ("again", "n")]
def formOf (k : Str) : Str := match formsL.find? fun q => decide (q.1 = k) with
  | some q => q.2
  | none => Str.empty
/-- the parts that words write, each of its form -/
def partsOf (fs : Str) (ws : List Str) : List PyData := (fs.cps.toList.zip ws).map fun q => partD ⟨#[q.1]⟩ q.2
def deedD : List Str → PyData
  | [] => .none
  | w :: ws => if formOf w = Str.empty ∨ ws.length ≠ (formOf w).length then .none
    else if (partsOf (formOf w) ws).any isNo = true then .none else .tuple (.str w :: partsOf (formOf w) ws)
def rowsOf (x : Str) : List Str := if x = Str.empty then [] else Txt.split x (Str.ofString "\n")
def lineD (l : Str) : PyData := deedD (Txt.split l (Str.ofString " "))
def readD (x : Str) : List PyData := (rowsOf x).map lineD
theorem figs_dig {c : Nat} (h : c ∈ figS.cps.toList) : 48 ≤ c ∧ c ≤ 57 := by
  have e : figS.cps.toList = [48, 49, 50, 51, 52, 53, 54, 55, 56, 57] := by decide +kernel
  rw [e] at h
  simp only [List.mem_cons, List.not_mem_nil, or_false] at h
  omega
theorem fig_all {w : Str} (h : isFig w = true) : AllDigits w.cps.toList := fun c hc => figs_dig (of_decide_eq_true (List.all_eq_true.mp h c hc))
theorem fig_text {w : Str} (h : okFig w = true) : PySem.intText? w = some ((digitsVal w.cps.toList : Nat) : Int) ∧ w.length ≤ 640 := by
  obtain ⟨h1, h2⟩ := Bool.and_eq_true_iff.mp h
  have h1 := of_decide_eq_true h1
  have hl : w.cps.toList.length = w.length := Array.length_toList
  refine ⟨intText_digits (fig_all h2) (fun e => ?_) (by omega), by omega⟩
  rw [e] at hl
  simp at hl
  omega
theorem join_ge (y : Str) (hy : 1 ≤ y.length) : ∀ ps : List Str, (∀ p ∈ ps, p.length ≤ (Str.join y ps).length) ∧ ps.length ≤ (Str.join y ps).length + 1
  | [] => ⟨(fun _ h => nomatch h), Nat.zero_le _⟩
  | [x] => ⟨(fun p h => by rw [List.mem_singleton.mp h]; exact Nat.le_refl _), (by show 1 ≤ _; omega)⟩
  | x :: z :: r => by
    obtain ⟨a, b⟩ := join_ge y hy (z :: r)
    have e : (Str.join y (x :: z :: r)).length = x.length + y.length + (Str.join y (z :: r)).length := by
      show (x ++ y ++ Str.join y (z :: r)).length = _
      rw [Str.length_append, Str.length_append]
    rw [e]
    refine ⟨fun p h => ?_, ?_⟩
    · rcases List.mem_cons.mp h with q | q
      · rw [q]
        omega
      · have := a p q
        omega
    · rw [List.length_cons]
      omega
theorem split_le {x y : Str} (hy : 1 ≤ y.length) : (∀ p ∈ Txt.split x y, p.length ≤ x.length) ∧ (Txt.split x y).length ≤ x.length + 1 := by
  have h := join_ge y hy (Txt.split x y)
  rw [StrLaws.join_split] at h
  exact h
theorem spl_ne (S : List Nat) : ∀ (k : Nat) (acc l : List Nat), TL.spl S k acc l ≠ []
  | _, _, [] => by unfold TL.spl; simp
  | 0, acc, c :: r => by
    unfold TL.spl
    split
    · simp
    · exact spl_ne S 0 (acc ++ [c]) r
  | k + 1, acc, _ :: r => by
    unfold TL.spl
    exact spl_ne S k acc r
theorem split_ne (x : Str) {y : Str} (hy : TL.tl y ≠ []) (hk : y.cps.all (· < 256) = true) : Txt.split x y ≠ [] := fun e => by
  have h := TL.split_spl x y hy (TL.kind_ok hk)
  rw [e] at h
  exact spl_ne _ _ _ _ h.symm
end LH
end

section
set_option Elab.async false
set_option linter.all false
set_option maxRecDepth 100000
set_option maxHeartbeats 4000000
/-! the table FORMS -/
namespace LH
open PySem PySem.Spec PyProof.Rows L2
variable {P : Program} {w : World} {K : PySem.W.Frag} {mg : Str → Option Value} {base : Heap}
def formsKv : List (Str × He.Dv) := [("add", .str "nnkjn"), ("clock", .str "nknnnn"), ("join", .str "wk"), ("leave", .str "w"), ("limit", .str "wnn"), ("turn", .str "n"), ("take", .str "w"), ("done", .str "n"), ("fail", .str "n"), ("beat", .str "n"), ("tell", .str "nn"), ("drop", .str "n"), ("again", .str "n")]
theorem forms_in : (("FORMS", formsKv) : Str × List (Str × He.Dv)) ∈ tsL := by
  unfold tsL formsKv
  simp
theorem Tp.kd_FORMS (T : Tp P w K mg base) : ∃ es n, KDict K w (He.ga K "FORMS") es n := He.dicW_ok (T.dic _ forms_in)
theorem formOf_in {k f : Str} (h : (k, f) ∈ formsL) : formOf k = f := by
  unfold formsL at h
  simp only [List.mem_cons, List.not_mem_nil, or_false, Prod.mk.injEq] at h
  rcases h with ⟨rfl, rfl⟩ | ⟨rfl, rfl⟩ | ⟨rfl, rfl⟩ | ⟨rfl, rfl⟩ | ⟨rfl, rfl⟩ | ⟨rfl, rfl⟩ | ⟨rfl, rfl⟩ | ⟨rfl, rfl⟩ | ⟨rfl, rfl⟩ | ⟨rfl, rfl⟩ | ⟨rfl, rfl⟩ | ⟨rfl, rfl⟩ | ⟨rfl, rfl⟩ <;> kernel_rfl
theorem formOf_out {k : Str} (h : k ∉ formsKv.map (·.1)) : formOf k = Str.empty := by
  unfold formOf
  have e : formsL.map (·.1) = formsKv.map (·.1) := by kernel_rfl
  rw [← e] at h
  cases ef : formsL.find? fun q => decide (q.1 = k) with
  | none => rfl
  | some q =>
    have h1 := List.mem_of_find?_eq_some ef
    have h2 : q.1 = k := by simpa using List.find?_some ef
    exact absurd (by rw [← h2]; exact List.mem_map_of_mem (f := fun x : Str × Str => x.1) h1) h
/-- FORMS.get(k, "") -/
theorem Tp.form_get (T : Tp P w K mg base) {k : Str} {z : V} (hz : z = .str Str.empty) : ∃ (r : Option Value), PySem.W.nsIn K (He.ga K "FORMS") k = some r ∧ (∀ u, r = some u → RelV (.str (formOf k)) u) ∧ (r = none → V.str (formOf k) = z) := by
  rcases tab_at (T.dic _ forms_in) (T.vals _ forms_in) k with ⟨q, hq, e, u, h1, h2⟩ | ⟨hk, h1⟩
  · refine ⟨some u, h1, fun v hv => ?_, fun z => nomatch z⟩
    rw [← Option.some.inj hv]
    have : q.2.v K = .str (formOf k) := by
      rw [← e]
      unfold formsKv at hq
      simp only [List.mem_cons, List.not_mem_nil, or_false] at hq
      rcases hq with rfl | rfl | rfl | rfl | rfl | rfl | rfl | rfl | rfl | rfl | rfl | rfl | rfl
      all_goals exact congrArg V.str (formOf_in (by unfold formsL; simp)).symm
    rw [← this]
    exact h2
  · refine ⟨none, h1, (fun _ h => nomatch h), fun _ => ?_⟩
    rw [hz, formOf_out hk]
end LH
end

section
set_option Elab.async false
set_option linter.all false
set_option maxRecDepth 100000
set_option maxHeartbeats 4000000
set_option pp.maxSteps 1500
namespace LH
open PySem PySem.Spec PyProof.Rows L2 StX LamX
variable {P : Program} {w : World} {K : PySem.W.Frag} {mg : Str → Option Value} {base : Heap}
theorem dts_ints {H : Hp} : ∀ (l : List Int), Dts K H (vints l) (l.map I')
  | [] => .nil
  | n :: l => .cons (.int _) (dts_ints l)
theorem shaped_ints (l : List Int) : SeqAt.shaped (.list (l.map I')) = true := by
  have h1 : PyData.canLayAll0 (l.map I') = true := by
    induction l with
    | nil => rfl
    | cons a l ih =>
      rw [List.map_cons]
      unfold PyData.canLayAll0
      rw [ih, Bool.and_true]
      rfl
  have h2 : ∀ l : List Int, PyData.depthAll (l.map I') ≤ 1 := fun l => by
    induction l with
    | nil => simp [PyData.depthAll]
    | cons a l ih =>
      simp only [List.map_cons, PyData.depthAll, PyData.depth]
      omega
  unfold SeqAt.shaped
  have h3 : PyData.canLay0 (.list (l.map I')) = true := by unfold PyData.canLay0; exact h1
  rw [h3, Bool.true_and, decide_eq_true_eq]
  have := h2 l
  simp only [PyData.depth]
  omega
theorem dp_ints {H : Hp} {t : Addr} {l : List Int} (h : H t = some (.lst (vints l))) : Dp K H (.ref t) (.list (l.map I')) := .lst (SqL.of h) (dts_ints l).dp
theorem eqv_ints0 (l : List Int) : PyData.eqv (.list (l.map I')) (.list []) = decide (l = []) := by
  cases l with
  | nil => rfl
  | cons a l => rfl
end LH
end

section
set_option Elab.async false
set_option linter.all false
set_option maxRecDepth 100000
set_option maxHeartbeats 4000000
namespace LH
open PySem PySem.Spec PyProof.Rows L2
/-! ### strike as one step -/
def dueC (t : Int) (c : ClockS) : Bool := decide (c.left > 0 ∧ c.coming = t)
def bumpC (t : Int) (c : ClockS) : ClockS := if dueC t c = true then { c with left := c.left - 1, coming := c.coming + c.every } else c
def bornC (t here : Int) (c : ClockS) : JobS := ⟨c.rank, t, c.steps, [], c.tries, 0, 0, 0, none, none, here⟩
theorem strike_eq (h : HouseS) (t : Int) : h.strike t = { h with jobs := h.jobs ++ (h.clks.filter (dueC t)).map (bornC t h.here), clks := h.clks.map (bumpC t) } := by
  have z : ∀ i, i ≤ h.clks.length → (List.range i).foldl (HouseS.strikeAt t) h = { h with jobs := h.jobs ++ ((h.clks.take i).filter (dueC t)).map (bornC t h.here), clks := (h.clks.take i).map (bumpC t) ++ h.clks.drop i } := by
    intro i
    induction i with
    | zero => intro _; simp
    | succ i ih =>
      intro hi
      rw [List.range_succ, List.foldl_append, ih (by omega), List.foldl_cons, List.foldl_nil]
      have hlt : i < h.clks.length := hi
      have e : h.clks[i]? = some h.clks[i] := List.getElem?_eq_getElem hlt
      unfold HouseS.strikeAt
      simp only [half_get, e]
      have ef : (h.clks.take (i + 1)).filter (dueC t) = (h.clks.take i).filter (dueC t) ++ if dueC t h.clks[i] = true then [h.clks[i]] else [] := by
        rw [List.take_succ, e, List.filter_append]
        simp [List.filter_cons]
      by_cases hd : h.clks[i].left > 0 ∧ h.clks[i].coming = t
      · have hd' : dueC t h.clks[i] = true := by unfold dueC; exact decide_eq_true hd
        rw [if_pos hd, half_next e, ef, if_pos hd']
        unfold bumpC
        simp only [hd', if_true]
        unfold HouseS.newJob
        simp [bornC]
      · have hd' : dueC t h.clks[i] = false := by unfold dueC; exact decide_eq_false hd
        have eb : bumpC t h.clks[i] = h.clks[i] := by unfold bumpC; rw [hd']; rfl
        rw [if_neg hd, half_same e eb, ef, hd']
        simp
  unfold HouseS.strike
  rw [z _ (Nat.le_refl _), List.take_length, List.drop_length, List.append_nil]
theorem bump_sum (t : Int) : ∀ l : List ClockS, ((l.map (bumpC t)).map fun c => c.left.toNat).sum + (l.filter (dueC t)).length = (l.map fun c => c.left.toNat).sum
  | [] => rfl
  | c :: l => by
    have ih := bump_sum t l
    rw [List.map_cons, List.map_cons, List.sum_cons, List.map_cons, List.sum_cons, List.filter_cons]
    by_cases hd : dueC t c = true
    · rw [if_pos hd, List.length_cons]
      have h1 : (bumpC t c).left = c.left - 1 := by unfold bumpC; rw [if_pos hd]
      rw [h1]
      unfold dueC at hd
      have := (of_decide_eq_true hd).1
      omega
    · rw [if_neg hd]
      have h1 : bumpC t c = c := by unfold bumpC; rw [if_neg hd]
      rw [h1]
      omega
/-! ### what holds of the ticks, when nothing is under way -/
structure Timely (h : HouseS) : Prop where
  lease : ∀ l ∈ h.cnt, h.here < l.til
  clock : ∀ c ∈ h.clks, c.left > 0 → h.here < c.coming
  hold : 1 ≤ h.hold
/-! ### the leases that are over -/
def overAt (t : Int) (h : HouseS) (l : LeaseS) : HouseS := if l.til = t then h.failOne l else h
theorem failOne_rest {h : HouseS} (ok : HouseOk h) {l : LeaseS} (hl : l ∈ h.cnt) : (h.failOne l).cnt = (h.cnt.filter fun o => decide (o.num ≠ l.num)) ∧ (h.failOne l).here = h.here ∧ (h.failOne l).clks = h.clks ∧ (h.failOne l).hold = h.hold ∧ (h.failOne l).pause = h.pause ∧ (h.failOne l).staff = h.staff ∧ (h.failOne l).log = h.log ∧ (h.failOne l).given = h.given ∧ (h.failOne l).jobs.length = h.jobs.length ∧ (h.failOne l).hands = h.hands ∧ (h.failOne l).age = h.age := by
  obtain ⟨j, ej, _⟩ := lease_jobS ok hl
  unfold HouseS.failOne HouseS.closed
  rw [ej]
  unfold HouseS.jobUp
  show (match h.jobs[l.work]? with | none => _ | some j => _ : HouseS).cnt = _ ∧ (match h.jobs[l.work]? with | none => _ | some j => _ : HouseS).here = _ ∧ (match h.jobs[l.work]? with | none => _ | some j => _ : HouseS).clks = _ ∧ (match h.jobs[l.work]? with | none => _ | some j => _ : HouseS).hold = _ ∧ (match h.jobs[l.work]? with | none => _ | some j => _ : HouseS).pause = _ ∧ (match h.jobs[l.work]? with | none => _ | some j => _ : HouseS).staff = _ ∧ (match h.jobs[l.work]? with | none => _ | some j => _ : HouseS).log = _ ∧ (match h.jobs[l.work]? with | none => _ | some j => _ : HouseS).given = _ ∧ (match h.jobs[l.work]? with | none => _ | some j => _ : HouseS).jobs.length = _ ∧ (match h.jobs[l.work]? with | none => _ | some j => _ : HouseS).hands = _ ∧ (match h.jobs[l.work]? with | none => _ | some j => _ : HouseS).age = _
  rw [ej]
  refine ⟨rfl, rfl, rfl, rfl, rfl, rfl, rfl, rfl, ?_, rfl, rfl⟩
  show (h.jobs.set l.work _).length = _
  rw [List.length_set]
theorem byNum_mem (h : HouseS) (l : LeaseS) : l ∈ h.byNum ↔ l ∈ h.cnt := by rw [HouseS.byNum_eq]; exact List.mem_mergeSort
theorem byNum_nodup {h : HouseS} (ok : HouseOk h) : (h.byNum.map (·.num)).Nodup := by
  have p : h.byNum.Perm h.cnt := by rw [HouseS.byNum_eq]; exact List.mergeSort_perm _ _
  exact ((p.map (·.num)).nodup_iff).mpr ok.nums
end LH
end

section
set_option Elab.async false
set_option linter.all false
set_option maxRecDepth 100000
set_option maxHeartbeats 4000000
set_option pp.maxSteps 1500
namespace LH
open PySem PySem.Spec PyProof.Rows L2 StX LamX
variable {P : Program} {w : World} {K : PySem.W.Frag} {mg : Str → Option Value} {base : Heap}
def planRow (r : PlanG) : RowS := ⟨r.kind, r.most, r.rate, 0, []⟩
/-- all that stood stands, but one place -/
def SameX (x : Addr) (H H' : Hp) : Prop := ∀ b o, b ≠ x → H b = some o → H' b = some o
theorem SameX.tup {x : Addr} {H H' : Hp} {C dx : Addr} {fs : List (Str × V)} (hx : H x = some (.ins C dx fs)) (s : SameX x H H') : KeepT K H H' :=
  KeepT.mk2 (fun b xs e => s b _ (fun z => by rw [z, hx] at e; cases e) e) fun b o xs e => s b _ (fun z => by rw [z, hx] at e; cases e) e
theorem m1a {l : List RowG} {r : RowG} (h : r ∈ l) : r.a ∈ pa1 l := List.mem_flatMap.mpr ⟨r, h, by simp⟩
theorem m1k {l : List RowG} {r : RowG} (h : r ∈ l) : r.tk ∈ pa1 l := List.mem_flatMap.mpr ⟨r, h, by simp⟩
structure NewRows (H H' : Hp) (D : Addr) (l : List PlanG) (rows : List RowG) : Prop where
  er : rows.map (·.toRowS) = l.map planRow
  fresh : ∀ a ∈ D :: pa1 rows, H a = none
  nd : (D :: pa1 rows).Nodup
  at_ : ∀ r ∈ rows, RowAt H' r
theorem NewRows.keep {H H1 H2 : Hp} {D : Addr} {l : List PlanG} {rows : List RowG} (n : NewRows H H1 D l rows) (k : ∀ b ∈ pa1 rows, H2 b = H1 b) : NewRows H H2 D l rows :=
  ⟨n.er, n.fresh, n.nd, fun r hr => ⟨(k _ (m1a hr)).trans (n.at_ r hr).ob, (k _ (m1k hr)).trans (n.at_ r hr).tk⟩⟩
end LH
end

section
set_option Elab.async false
set_option linter.all false
set_option maxRecDepth 100000
set_option maxHeartbeats 4000000
set_option pp.maxSteps 1500
namespace LH
open PySem PySem.Spec PyProof.Rows L2 StX LamX
variable {P : Program} {w : World} {K : PySem.W.Frag} {mg : Str → Option Value} {base : Heap}
/-- new objects beside one that is filled -/
structure Kn (x : Addr) (H H' : Hp) (l : List (Addr × HO)) : Prop where
  same : SameX x H H'
  at_ : ∀ p ∈ l, H' p.1 = some p.2
  nd : (l.map (·.1)).Nodup
  fresh : ∀ p ∈ l, H p.1 = none
theorem Kn.new {x : Addr} {H H' : Hp} {l : List (Addr × HO)} {a : Addr} {o : HO} (k : Kn x H H' l) (hx : H' x ≠ none) (ha : H' a = none) : Kn x H (upd H' a o) ((a, o) :: l) := by
  have ne : ∀ p ∈ l, p.1 ≠ a := fun p hp z => by
    have := k.at_ p hp
    rw [z, ha] at this
    cases this
  have ax : a ≠ x := fun z => hx (by rw [← z]; exact ha)
  have hn : H a = none := by
    cases e : H a with
    | none => rfl
    | some u =>
      have := k.same a u ax e
      rw [ha] at this
      cases this
  refine ⟨fun b u hb e => ?_, fun p hp => ?_, ?_, fun p hp => ?_⟩
  · rw [upd_ne fun z => by rw [z, hn] at e; cases e]
    exact k.same b u hb e
  · rcases List.mem_cons.mp hp with z | z
    · rw [z, upd_same]
    · rw [upd_ne (ne p z)]
      exact k.at_ p z
  · rw [List.map_cons, List.nodup_cons]
    refine ⟨fun m => ?_, k.nd⟩
    obtain ⟨p, hp, e⟩ := List.mem_map.mp m
    exact ne p hp e
  · rcases List.mem_cons.mp hp with z | z
    · rw [z]
      exact hn
    · exact k.fresh p z
end LH
end

section
set_option Elab.async false
set_option linter.all false
set_option maxRecDepth 100000
set_option maxHeartbeats 4000000
namespace LH
open PySem PySem.Spec PyProof.Rows L2
/-! ### what holds of a house between two calls; n, m: how many calls, jobs with needs there is room for -/
structure Good (n m : Nat) (h : HouseS) : Prop where
  ok : HouseOk h
  ti : Timely h
  log : h.log.length + n ≤ 1000000
  cnt : h.cnt.length + n ≤ 999999
  ticks : ∀ r ∈ h.rows, r.ticks.length + n ≤ 1000000
  staff : h.staff.length + n ≤ 1000000
  pot : h.jobs.length + h.clks.length + (h.clks.map fun c => c.left.toNat).sum + 101 * n ≤ 900000
  needy : (h.jobs.filter fun j => decide (j.needs ≠ [])).length + m ≤ 120
  hold : 1 ≤ h.hold ∧ h.hold ≤ 99
  age : 0 ≤ h.age ∧ h.age ≤ 99
  here : 0 ≤ h.here ∧ h.here ≤ 99999
  names : ∀ s ∈ h.staff, isName s.1 = true
  kinds : ∀ r ∈ h.rows, isName r.kind = true
/-! ### one job changes -/
/-! ### the calls -/
/-- what closing a lease and changing its job leaves -/
theorem close_rest {h : HouseS} {l : LeaseS} {j : JobS} (ej : h.jobs[l.work]? = some j) (f : JobS → JobS) :
    (h.closed l).jobUp l.work f = { h.rowUp j.kind (fun r => { r with cnt := r.cnt - 1 }) with cnt := h.cnt.filter fun o => decide (o.num ≠ l.num), jobs := h.jobs.set l.work (f j) } := by
  unfold HouseS.closed
  rw [ej]
  unfold HouseS.jobUp
  show (match h.jobs[l.work]? with | none => _ | some j => _) = _
  rw [ej]
  rfl
theorem rowUp_ticks {h : HouseS} {k : Str} {f : RowS → RowS} {p : RowS → Prop} (hp : ∀ r ∈ h.rows, p r) (hf : ∀ r, p r → p (f r)) : ∀ r ∈ (h.rowUp k f).rows, p r := fun r hr => by
  unfold HouseS.rowUp at hr
  obtain ⟨q, hq, rfl⟩ := List.mem_map.mp hr
  by_cases z : q.kind = k
  · rw [if_pos z]
    exact hf q (hp q hq)
  · rw [if_neg z]
    exact hp q hq
end LH
end

section
set_option Elab.async false
set_option linter.all false
set_option maxRecDepth 100000
set_option maxHeartbeats 4000000
namespace LH
open PySem PySem.Spec PyProof.Rows L2
theorem takeOne_eq {h : HouseS} {x : Str} {i : Nat} {j : JobS} (ej : h.jobs[i]? = some j) : h.takeOne x i j = { h.rowUp j.kind (fun r => { r with cnt := r.cnt + 1, ticks := r.ticks ++ [h.here] }) with
    given := h.given + 1, cnt := h.cnt ++ [⟨h.given, i, j.fin, x, h.here + h.hold⟩], jobs := h.jobs.set i { j with held := some h.given }, log := h.log ++ [.tuple [S' "take", .str x, N' i, N' j.fin, N' h.given]] } := by
  unfold HouseS.takeOne HouseS.jobUp
  show (match h.jobs[i]? with | none => _ | some j => _ : HouseS).note _ = _
  rw [ej]
  rfl
end LH
end

section
set_option Elab.async false
set_option linter.all false
set_option maxRecDepth 100000
set_option maxHeartbeats 4000000
namespace LH
open PySem PySem.Spec PyProof.Rows L2
/-! ### turn -/
/-- as Good, the leases and clocks aside -/
structure Fair (n m : Nat) (h : HouseS) : Prop where
  ok : HouseOk h
  log : h.log.length + n ≤ 1000000
  cnt : h.cnt.length + n ≤ 999999
  ticks : ∀ r ∈ h.rows, r.ticks.length + n ≤ 1000000
  staff : h.staff.length + n ≤ 1000000
  pot : h.jobs.length + h.clks.length + (h.clks.map fun c => c.left.toNat).sum + 101 * n ≤ 900000
  needy : (h.jobs.filter fun j => decide (j.needs ≠ [])).length + m ≤ 120
  hold : 1 ≤ h.hold ∧ h.hold ≤ 99
  age : 0 ≤ h.age ∧ h.age ≤ 99
  names : ∀ s ∈ h.staff, isName s.1 = true
  kinds : ∀ r ∈ h.rows, isName r.kind = true
end LH
end

section
set_option Elab.async false
set_option linter.all false
set_option maxRecDepth 100000
set_option maxHeartbeats 4000000
/-! a law's own heap: a house, the law's own things, what stood before -/
namespace LH
open PySem PySem.Spec PyProof.Rows L2 StX LamX
abbrev Cells := List (Addr × (HO → Prop))
/-- no house: H0 is what stood at first, F the law's own things -/
structure LB (K : PySem.W.Frag) (H0 H : Hp) (F : Cells) : Prop where
  tabs : Tabs (TT K) H
  old : ∀ c o, H0 c = some o → (∀ ps, o ≠ .tbl ps) → H c = some o
  fr : ∀ q ∈ F, Fresh0 H0 q.1 ∧ ∃ o, H q.1 = some o ∧ q.2 o ∧ (∀ ps, o ≠ .tbl ps)
  nd : (F.map (·.1)).Nodup
section
variable {P : Program} {w : World} {K : PySem.W.Frag} {mg : Str → Option Value} {base : Heap} {H0 H H' : Hp} {G G' : HG} {n m n' m' : Nat} {F : Cells}
theorem tabs_same {H H' : Hp} (s : Same H H') {T : List (Addr × Str)} (t : Tabs T H) : Tabs T H' := t.ext s
theorem LB.same (s : LB K H0 H F) (e : Same H H') : LB K H0 H' F :=
  ⟨tabs_same e s.tabs, fun c o h1 h2 => e _ _ (s.old c o h1 h2), fun q hq => let ⟨a, o, h1, h2⟩ := s.fr q hq; ⟨a, o, e _ _ h1, h2⟩, s.nd⟩
theorem LB.extN (s : LB K H0 H F) : ExtN H0 H := fun c o h1 h2 => s.old c o h1 h2
/-- what stood keeps standing, but the tables, and some cells -/
def FrW (W : List Addr) (H H' : Hp) : Prop := ∀ c o, c ∉ W → H c = some o → (∀ ps, o ≠ .tbl ps) → H' c = some o
theorem FrW.refl {W : List Addr} : FrW W H H := fun _ _ _ e _ => e
theorem FrW.same {W : List Addr} (e : Same H H') : FrW W H H' := fun c o _ h _ => e c o h
theorem FrW.trans {W : List Addr} {H2 : Hp} (a : FrW W H H') (b : FrW W H' H2) : FrW W H H2 := fun c o n e t => b c o n (a c o n e t) t
theorem FrW.more {W W' : List Addr} (a : FrW W H H') (h : ∀ c ∈ W, c ∈ W') : FrW W' H H' := fun c o n e t => a c o (fun z => n (h c z)) e t
theorem FrW.keepT {W : List Addr} (a : FrW W H H') (hw : ∀ c ∈ W, ∃ o, H c = some o ∧ Wr o) : KeepT K H H' := KeepT.mk2 (fun b xs e => a b _ (fun z => by
    obtain ⟨o, e2, wo⟩ := hw b z
    rw [e] at e2
    rw [← Option.some.inj e2] at wo
    exact wo) e (fun _ z => nomatch z)) fun b o xs e => a b _ (fun z => by
    obtain ⟨o2, e2, wo⟩ := hw b z
    rw [e] at e2
    rw [← Option.some.inj e2] at wo
    exact wo) e (fun _ z => nomatch z)
/-- the law's own cells change -/
theorem LB.cells (s : LB K H0 H F) {W : List Addr} (a : FrW W H H') (t : Tabs (TT K) H') (hW : ∀ c ∈ W, c ∈ F.map (·.1)) (hc : ∀ q ∈ F, q.1 ∈ W → ∃ o, H' q.1 = some o ∧ q.2 o ∧ (∀ ps, o ≠ .tbl ps)) : LB K H0 H' F := by
  refine ⟨t, fun c o h1 h2 => a c o (fun z => ?_) (s.old c o h1 h2) h2, fun q hq => ?_, s.nd⟩
  · obtain ⟨q, hq, e⟩ := List.mem_map.mp (hW c z)
    obtain ⟨ps, z2⟩ := (s.fr q hq).1 o (by rw [e]; exact h1)
    exact h2 ps z2
  · obtain ⟨z, o, h1, h2, h3⟩ := s.fr q hq
    refine ⟨z, ?_⟩
    by_cases m : q.1 ∈ W
    · exact hc q hq m
    · exact ⟨o, a _ o m h1 h3, h2, h3⟩
/-- a new thing of the law's own -/
theorem LB.new (s : LB K H0 H F) {a : Addr} {o : HO} {p : HO → Prop} (ha : H a = none) (hp : p o) (ho : ∀ ps, o ≠ .tbl ps) : LB K H0 (upd H a o) ((a, p) :: F) := by
  have s1 := s.same (same_new (o := o) ha)
  refine ⟨s1.tabs, s1.old, fun q hq => ?_, ?_⟩
  · rcases List.mem_cons.mp hq with z | z
    · rw [z]
      exact ⟨Fresh0.of (fun o h1 h2 => s.old a o h1 h2) ha, o, upd_same, hp, ho⟩
    · exact s1.fr q z
  · rw [List.map_cons, List.nodup_cons]
    refine ⟨fun z => ?_, s.nd⟩
    obtain ⟨q, hq, e⟩ := List.mem_map.mp z
    obtain ⟨_, o2, e2, _⟩ := s.fr q hq
    rw [e, ha] at e2
    cases e2
/-! ### the calls -/
variable {Q : VK} {E : XK}
end
end LH
end

section
set_option Elab.async false
set_option linter.all false
set_option maxRecDepth 100000
set_option maxHeartbeats 4000000
set_option pp.maxSteps 1500
namespace LH
open PySem PySem.Spec PyProof.Rows L2 StX LamX
variable {P : Program} {w : World} {K : PySem.W.Frag} {mg : Str → Option Value} {base : Heap}
/-! ### draws -/
def boxC (l : Addr) (o : HO) : Prop := ∃ r : Int, o = .lst [.ref l, .int r]
def drawC (o : HO) : Prop := ∃ ns : List Int, o = .lst (vints ns) ∧ ns.length ≤ 1000
/-- the box of draws at b, its numbers at l -/
structure BoxAt (H : Hp) (b l : Addr) : Prop where
  box : ∃ r : Int, H b = some (.lst [.ref l, .int r])
  nums : ∃ ns : List Int, H l = some (.lst (vints ns)) ∧ ns.length ≤ 1000
  ne : b ≠ l
@[irreducible] def sp__law_begun (K : PySem.W.Frag) : Sp := fun vs H Q E => ∃ (a : Addr) (ns : List Int), vs = [.ref a] ∧ SqL K H a (vints ns) ∧ ns.length ≤ 63 ∧ ∀ H' b l r, Same H H' → H b = none → H l = none → b ≠ l → H' b = some (.lst [.ref l, .int r]) → H' l = some (.lst (vints ns)) → Q (.ref b) H'
theorem sc__law_begun : FnScope ["_law_script", "_law_stirred", "_law_cell"] ["_law_script"] (defScope s__law_begun) := ⟨rfl, rfl, rfl, by decide +kernel, rfl, by decide +kernel, by decide +kernel⟩
theorem Tp.ok__law_begun (T : Tp P w K mg base) : FnR P w K mg base (L2.CX P w) (0 + 1) (He.ga K "_law_begun") (sp__law_begun K) := by
  refine fnr (N := ["_law_script", "_law_stirred", "_law_cell"]) (ps := ["_law_script"]) (k := 0) T.fd__law_begun sc__law_begun (fun _ _ _ _ _ _ us hl => match us, hl with | [_], _ => rfl) (fun vs H Q E h => ?_) fun cdv A outer s H vs Q E hr h => ?_
  · unfold sp__law_begun at h
    obtain ⟨_, _, rfl, _⟩ := h
    rfl
  unfold sp__law_begun at h
  obtain ⟨a, ns, rfl, ha, hl, q⟩ := h
  refine ⟨_, (pss_cons (ps_set (i := 1) sc__law_begun.nd rfl (by first | exact .inl rfl | exact .inr rfl) pe_int)
      (pss_cons (ps_for passOwnE rfl (pi_list (pv 0)) (pg_name (i := 2) sc__law_begun.nd rfl (by first | exact .inl rfl | exact .inr rfl)) (pss_one (ps_set (i := 1) sc__law_begun.nd rfl (by first | exact .inl rfl | exact .inr rfl) (pe_op op_mod (pe_op op_add (pe_op op_add (pe_op op_mul (pv 1) pe_int) (pe_op op_mul (pv 2) pe_int)) pe_int) pe_int))))
      (pss_one (ps_ret (pe_lst (pa_cons (pe_callTy call_list_of rfl T.f_list bt_list (pa_cons (pv 0) pa_nil)) (pa_cons (pe_op op_mul (pv 1) (pe_callTy call_int1 rfl T.f_int bt_int (pa_cons (pe_cmpR op_gt (pe_callB call_len_seq rfl T.f_len bt_len (pa_cons (pv 0) pa_nil)) pe_int (nomark _)) pa_nil))) pa_nil))))))), ?_⟩
  refine ⟨_, rfl, a, rfl, ⟨_, ha⟩, for_list (xs := vints ns) (fun i σ H' => H' = H ∧ ∃ (r : Int) (x : Option V), (0 ≤ r ∧ r < 2147483647) ∧ σ = [some (.ref a), some (.int r), x]) ⟨rfl, 0, _, by omega, rfl⟩ ?_ ?_ ?_⟩
  · rintro i σ H' _ ⟨rfl, _⟩
    exact ha
  · rintro i v σ H' ev ⟨rfl, r, x, hr1, rfl⟩
    obtain ⟨c, hc, rfl⟩ : ∃ c, c ∈ ns ∧ V.int c = v := by
      obtain ⟨c, hc, e⟩ := List.mem_map.mp (List.mem_of_getElem? ev)
      exact ⟨c, hc, e⟩
    refine ⟨_, rfl, _, _, rfl, rfl, .inr ⟨by decide, by decide⟩, _, rfl, _, _, rfl, rfl, .inr ⟨by decide, by decide⟩, _, _, rfl, rfl, _, _, rfl, rfl, _, _, rfl, rfl, by show (0 : Int) < 2147483647; decide, ?_⟩
    exact ⟨rfl, _, _, ⟨Int.emod_nonneg _ (by decide), Int.emod_lt_of_pos _ (by decide)⟩, rfl⟩
  · rintro σ H' ⟨rfl, r, x, hr1, rfl⟩
    refine ⟨_, rfl, a, _, rfl, .inl ha, fun l hl' => ?_⟩
    refine ⟨_, rfl, _, rfl, a, _, rfl, .inl (sqL_same ha (same_new hl')), _, _, rfl, rfl, ?_⟩
    have hb : ∀ k : Int, (r * k = r * k) := fun _ => rfl
    refine .inr ⟨_, rfl, _, _, rfl, rfl, .inl ⟨by omega, by omega⟩, by show 2 ≤ sizeLine; decide, fun b hb => ?_⟩
    have hne : b ≠ l := fun z => by rw [z, upd_same] at hb; cases hb
    exact q _ b l _ (Same.trans' (same_new hl') (same_new hb)) (none_same (same_new hl') hb) hl' hne upd_same ((upd_ne hne.symm).trans upd_same)
theorem ix0 {x : V} {xs : List V} : ixN (x :: xs).length 0 = some 0 := by
  unfold ixN
  simp
theorem at0 {x : V} {xs : List V} : atI (x :: xs) 0 = some x := atI_nat (j := 0) rfl
/-- some cells change, the rest stands, the tables too -/
structure Frw (K : PySem.W.Frag) (W : List Addr) (H H' : Hp) : Prop where
  fr : FrW W H H'
  tabs : Tabs (TT K) H → Tabs (TT K) H'
theorem Frw.refl {W : List Addr} {H : Hp} : Frw K W H H := ⟨.refl, fun t => t⟩
theorem Frw.same {W : List Addr} {H H' : Hp} (e : Same H H') : Frw K W H H' := ⟨.same e, fun t => tabs_same e t⟩
theorem Frw.trans {W : List Addr} {H H1 H2 : Hp} (a : Frw K W H H1) (b : Frw K W H1 H2) : Frw K W H H2 := ⟨a.fr.trans b.fr, fun t => b.tabs (a.tabs t)⟩
theorem Frw.upd {W : List Addr} {H : Hp} {c : Addr} {o u : HO} (hc : c ∈ W) (h : H c = some u) (w : Wr u) : Frw K W H (upd H c o) := ⟨fun d x hd e _ => (upd_ne fun z => hd (by rw [z]; exact hc)).trans e, fun t => tabs_upd h w t⟩
theorem Frw.more {W W' : List Addr} {H H' : Hp} (a : Frw K W H H') (h : ∀ c ∈ W, c ∈ W') : Frw K W' H H' := ⟨a.fr.more h, a.tabs⟩
/-- a draw: some number below many -/
@[irreducible] def sp__law_take (K : PySem.W.Frag) : Sp := fun vs H Q E => ∃ (b l : Addr) (many : Int), vs = [.ref b, .int many] ∧ BoxAt H b l ∧ (0 < many ∧ many < 2 ^ 100) ∧ ∀ H' i, Frw K [b, l] H H' → BoxAt H' b l → 0 ≤ i → i < many → Q (.int i) H'
theorem sc__law_take : FnScope ["_law_box", "_law_many", "_law_drawn"] ["_law_box", "_law_many"] (defScope s__law_take) := ⟨rfl, rfl, rfl, by decide +kernel, rfl, by decide +kernel, by decide +kernel⟩
theorem Tp.ok__law_take (T : Tp P w K mg base) : FnR P w K mg base (L2.CX P w) (0 + 1) (He.ga K "_law_take") (sp__law_take K) := by
  refine fnr (N := ["_law_box", "_law_many", "_law_drawn"]) (ps := ["_law_box", "_law_many"]) (k := 0) T.fd__law_take sc__law_take (fun _ _ _ _ _ _ us hl => match us, hl with | [_, _], _ => rfl) (fun vs H Q E h => ?_) fun cdv A outer s H vs Q E hr h => ?_
  · unfold sp__law_take at h
    obtain ⟨_, _, _, rfl, _⟩ := h
    rfl
  unfold sp__law_take at h
  obtain ⟨b, l, many, rfl, hx, hm, q⟩ := h
  refine ⟨_, (pss_cons (ps_if (pt_cmpR (op_eqD hr.units) (pe_ix ix_list (pv 0) pe_int (fun _ _ => rfl)) (pe_lst pa_nil) (nomark _)) (pss_cons (ps_asg (pe_op op_mod (pe_op op_mul (pe_ix ix_list (pv 0) pe_int (fun _ _ => rfl)) pe_int) pe_int) (pg_sub (pv 0) pe_int set_list))
      (pss_one (ps_ret (pe_op op_mod (pe_op op_fdiv (pe_ix ix_list (pv 0) pe_int (fun _ _ => rfl)) pe_int) (pv 1))))) pss_nil)
      (pss_cons (ps_set (i := 2) sc__law_take.nd rfl (by first | exact .inl rfl | exact .inr rfl) (pe_ix ix_list (pe_ix ix_list (pv 0) pe_int (fun _ _ => rfl)) pe_int (fun _ _ => rfl)))
      (pss_cons (ps_asg (pe_op op_fdivW (pv 2) (pv 1)) (pg_sub (pe_ix ix_list (pv 0) pe_int (fun _ _ => rfl)) pe_int set_list))
      (pss_cons (ps_if (PW.pt (pw_or (pt_cmpR op_eq (pe_ix ix_list (pe_ix ix_list (pv 0) pe_int (fun _ _ => rfl)) pe_int (fun _ _ => rfl)) pe_int (nomark _)) (pw_or1 (pt_cmpR op_eq (pe_ix ix_list (pe_ix ix_list (pv 0) pe_int (fun _ _ => rfl)) pe_int (fun _ _ => rfl)) (pe_un un_neg pe_int) (nomark _))))) (pss_one (ps_expr (pe_bm PySem.F.plainAttrs_list PySem.F.slot_list_pop PySem.F.type_list_pop mt_popAt (pe_ix ix_list (pv 0) pe_int (fun _ _ => rfl)) (pa_cons pe_int pa_nil)))) pss_nil)
      (pss_one (ps_ret (pe_op op_mod (pv 2) (pv 1)))))))), ?_⟩
  obtain ⟨r, eb⟩ := hx.box
  obtain ⟨ns, el, hl⟩ := hx.nums
  have hne := hx.ne
  refine ⟨_, rfl, b, _, 0, _, rfl, rfl, SqL.of eb, rfl, by show 0 ≤ sizeLine; decide, fun e he => ?_⟩
  have s1 := same_new (o := .lst []) he
  have f1 : Frw K [b, l] H (upd H e (.lst [])) := .same s1
  refine ⟨_, _, dp_ints (s1 _ _ el), .lst (SqL.of upd_same) .nil, shaped_ints ns, by decide +kernel, _, rfl, ?_⟩
  rw [eqv_ints0]
  have eb1 := s1 _ _ eb
  have el1 := s1 _ _ el
  generalize upd H e (.lst []) = H1 at f1 eb1 el1 ⊢
  by_cases hn : ns = []
  · refine dT hn ?_
    refine ⟨_, rfl, b, _, 1, _, rfl, rfl, SqL.of eb1, rfl, _, _, rfl, rfl, .inr ⟨by decide, by decide⟩, _, _, rfl, rfl, by show (0 : Int) < 2147483647; decide, ?_⟩
    refine ⟨_, rfl, b, _, 1, 1, rfl, rfl, eb1, by show ixN 2 1 = some 1; decide, ?_⟩
    have f2 := f1.trans (Frw.upd (K := K) (W := [b, l]) (o := .lst [.ref l, .int (r * 48271 % 2147483647)]) (by simp) eb1 trivial)
    refine ⟨_, rfl, b, _, 1, _, rfl, rfl, SqL.of upd_same, rfl, _, _, rfl, rfl, ⟨by decide, by decide⟩, _, rfl, _, _, rfl, rfl, hm.1, ?_⟩
    exact q _ _ f2 ⟨⟨_, upd_same⟩, ⟨ns, (upd_ne hne.symm).trans el1, hl⟩, hne⟩ (Int.emod_nonneg _ (by omega)) (Int.emod_lt_of_pos _ hm.1)
  · refine dF hn ?_
    obtain ⟨d, ns', rfl⟩ : ∃ d ns', ns = d :: ns' := by
      cases ns with
      | nil => exact absurd rfl hn
      | cons d ns' => exact ⟨d, ns', rfl⟩
    refine ⟨_, rfl, b, _, 0, _, rfl, rfl, SqL.of eb1, rfl, l, _, 0, _, rfl, rfl, SqL.of el1, at0, ?_⟩
    refine ⟨_, rfl, _, rfl, _, _, rfl, rfl, wide_div hm.1 (b := 100) (by omega) (by omega) (by omega), ?_⟩
    refine ⟨_, rfl, b, _, 0, _, rfl, rfl, SqL.of eb1, rfl, l, _, 0, 0, rfl, rfl, el1, ix0, ?_⟩
    have f2 := f1.trans (Frw.upd (K := K) (W := [b, l]) (o := .lst ((vints (d :: ns')).set 0 (.int (d / many)))) (by simp) el1 trivial)
    have eb2 : upd H1 l (.lst ((vints (d :: ns')).set 0 (.int (d / many)))) b = some (.lst [.ref l, .int r]) := (upd_ne hne).trans eb1
    have el2 : upd H1 l (.lst ((vints (d :: ns')).set 0 (.int (d / many)))) l = some (.lst (vints (d / many :: ns'))) := upd_same
    generalize upd H1 l (.lst ((vints (d :: ns')).set 0 (.int (d / many)))) = H2 at f2 eb2 el2 ⊢
    have last : ∀ H3 : Hp, Frw K [b, l] H H3 → BoxAt H3 b l → Q (.int (d % many)) H3 := fun H3 f b3 => q _ _ f b3 (Int.emod_nonneg _ (by omega)) (Int.emod_lt_of_pos _ hm.1)
    refine ⟨_, rfl, b, _, 0, _, rfl, rfl, SqL.of eb2, rfl, l, _, 0, _, rfl, rfl, SqL.of el2, at0, rfl, _, rfl, ?_⟩
    have pop : ∀ D : Prop, (∀ H3 : Hp, Frw K [b, l] H H3 → BoxAt H3 b l → D) → D := fun D h => h (upd H2 l (.lst ((vints (d / many :: ns')).eraseIdx 0))) (f2.trans (Frw.upd (K := K) (W := [b, l]) (by simp) el2 trivial)) ⟨⟨r, (upd_ne hne).trans eb2⟩, ⟨ns', upd_same, by simp at hl; omega⟩, hne⟩
    have fin1 := last _ (f2.trans (Frw.upd (K := K) (W := [b, l]) (o := .lst ((vints (d / many :: ns')).eraseIdx 0)) (by simp) el2 trivial)) ⟨⟨r, (upd_ne hne).trans eb2⟩, ⟨ns', upd_same, by simp at hl; omega⟩, hne⟩
    have fin0 := last H2 f2 ⟨⟨r, eb2⟩, ⟨_, el2, by simpa using hl⟩, hne⟩
    have go : ∀ (D : VK), (∀ v, Q (.int (d % many)) (upd H2 l (.lst ((vints (d / many :: ns')).eraseIdx 0))) → D v (upd H2 l (.lst ((vints (d / many :: ns')).eraseIdx 0)))) → rPopAt (.ref l) [.int 0] H2 D := fun D h => ⟨l, _, 0, 0, .int (d / many), rfl, rfl, el2, by decide, by decide, by simp [seqIndex?, vints], rfl, h _ fin1⟩
    by_cases h1 : d / many = 0
    · refine dT (by rw [h1]) (iteT ?_)
      refine ⟨_, rfl, b, _, 0, _, rfl, rfl, SqL.of eb2, rfl, .inl ⟨rfl, _, SqL.of el2⟩, go _ fun v hq => ?_⟩
      exact ⟨_, rfl, _, rfl, _, _, rfl, rfl, hm.1, hq⟩
    · refine dF (by simpa using h1) ?_
      refine ⟨_, rfl, b, _, 0, _, rfl, rfl, SqL.of eb2, rfl, l, _, 0, _, rfl, rfl, SqL.of el2, at0, _, rfl, rfl, _, rfl, ?_⟩
      by_cases h2 : d / many = -1
      · refine dT (by rw [h2]) ?_
        refine ⟨_, rfl, b, _, 0, _, rfl, rfl, SqL.of eb2, rfl, .inl ⟨rfl, _, SqL.of el2⟩, go _ fun v hq => ?_⟩
        exact ⟨_, rfl, _, rfl, _, _, rfl, rfl, hm.1, hq⟩
      · refine dF (by simpa using h2) ?_
        exact ⟨_, rfl, _, rfl, _, _, rfl, rfl, hm.1, fin0⟩
end LH
end

section
set_option Elab.async false
set_option linter.all false
set_option maxRecDepth 100000
set_option maxHeartbeats 4000000
set_option pp.maxSteps 1500
namespace LH
open PySem PySem.Spec PyProof.Rows L2 StX LamX
variable {P : Program} {w : World} {K : PySem.W.Frag} {mg : Str → Option Value} {base : Heap}
mutual
/-- no list in it is too long -/
def small : PyData → Bool
  | .none | .bool _ | .int _ | .str _ | .dict _ => true
  | .list xs | .tuple xs => decide (xs.length ≤ 1000000) && smallAll xs
def smallAll : List PyData → Bool
  | [] => true
  | x :: xs => small x && smallAll xs
end
/-- of the same data at such a depth it tells True -/
@[irreducible] def sp__law_alike (D : Nat) (K : PySem.W.Frag) : Sp := fun vs H Q E => ∃ (v u : V) (d : PyData), vs = [v, u] ∧ Dp K H v d ∧ Dp K H u d ∧ d.depth ≤ D ∧ small d = true ∧ ∀ H', Same H H' → Q (.bl true) H'
end LH
end

section
set_option Elab.async false
set_option linter.all false
set_option maxRecDepth 100000
set_option maxHeartbeats 4000000
namespace LH
open PySem PySem.Spec PyProof.Rows L2 StX LamX
variable {P : Program} {w : World} {K : PySem.W.Frag} {mg : Str → Option Value} {base : Heap}
end LH
end

section
set_option Elab.async false
set_option linter.all false
set_option maxRecDepth 100000
set_option maxHeartbeats 4000000
/-! a law's heap by the plain house alone -/
namespace LH
open PySem PySem.Spec PyProof.Rows L2 StX LamX
section
variable {K : PySem.W.Frag} {H0 H H' : Hp} {p : Addr} {h : HouseS} {n m n' m' : Nat} {F : Cells} {Q : VK} {E : XK}
end
/-! ### comparing data -/

section
variable {K : PySem.W.Frag} {H : Hp} {Q : VK}
end
end LH
end

section
set_option Elab.async false
set_option linter.all false
set_option maxRecDepth 100000
set_option maxHeartbeats 4000000
/-! draws, comparisons, as rules -/
namespace LH
open PySem PySem.Spec PyProof.Rows L2 StX LamX
section
variable {K : PySem.W.Frag} {H0 H H' : Hp} {p : Addr} {h : HouseS} {n m : Nat} {F : Cells} {Q : VK} {E : XK}
theorem lawbegun_ok {a : Addr} {ns : List Int} (ha : SqL K H a (vints ns)) (hl : ns.length ≤ 63) (q : ∀ H' b l r, Same H H' → H b = none → H l = none → b ≠ l → H' b = some (.lst [.ref l, .int r]) → H' l = some (.lst (vints ns)) → Q (.ref b) H') : sp__law_begun K [.ref a] H Q E := by
  unfold sp__law_begun
  exact ⟨a, ns, rfl, ha, hl, q⟩
def BoxF (b l : Addr) : Cells := [(b, boxC l), (l, drawC)]
/-- the box stands with its own cells, others behind -/
theorem lb_box {b l : Addr} {r : Int} {ns : List Int} (t : Tabs (TT K) H) (e : Same H H') (nb : H b = none) (nl : H l = none) (ne : b ≠ l) (eb : H' b = some (.lst [.ref l, .int r])) (el : H' l = some (.lst (vints ns))) (hl : ns.length ≤ 63) : LB K H H' (BoxF b l) := by
  refine ⟨tabs_same e t, fun c o h _ => e _ _ h, fun q hq => ?_, ?_⟩
  · unfold BoxF at hq
    simp only [List.mem_cons, List.not_mem_nil, or_false] at hq
    rcases hq with rfl | rfl
    · exact ⟨fun o e => by rw [nb] at e; (cases e), _, eb, ⟨r, rfl⟩, fun _ z => nomatch z⟩
    · exact ⟨fun o e => by rw [nl] at e; (cases e), _, el, ⟨ns, rfl, by omega⟩, fun _ z => nomatch z⟩
  · simp [BoxF, ne]
theorem cell_uniq {F : Cells} (nd : (F.map (·.1)).Nodup) {q r : Addr × (HO → Prop)} (hq : q ∈ F) (hr : r ∈ F) (e : q.1 = r.1) : q = r := by
  obtain ⟨i, hi, ei⟩ := List.getElem_of_mem hq
  obtain ⟨j, hj, ej⟩ := List.getElem_of_mem hr
  have z : (F.map (·.1))[i]'(by simpa using hi) = (F.map (·.1))[j]'(by simpa using hj) := by simp [ei, ej, e]
  have := (List.getElem_inj nd).mp z
  subst this
  exact ei.symm.trans ej
theorem box_of {b l : Addr} (hne : b ≠ l) (f1 : ∃ o, H b = some o ∧ boxC l o) (f2 : ∃ o, H l = some o ∧ drawC o) : BoxAt H b l := by
  obtain ⟨o, e1, r, rfl⟩ := f1
  obtain ⟨o, e2, ns, rfl, hl⟩ := f2
  exact ⟨⟨r, e1⟩, ⟨ns, e2, hl⟩, hne⟩
theorem box_cells {b l : Addr} (nd : (F.map (·.1)).Nodup) (hb : (b, boxC l) ∈ F) (hl : (l, drawC) ∈ F) (bx : BoxAt H' b l) : ∀ q ∈ F, q.1 ∈ [b, l] → ∃ o, H' q.1 = some o ∧ q.2 o ∧ (∀ ps, o ≠ .tbl ps) := fun q hq hm => by
  simp only [List.mem_cons, List.not_mem_nil, or_false] at hm
  rcases hm with z | z
  · obtain rfl := cell_uniq nd hq hb z
    obtain ⟨r, e⟩ := bx.box
    exact ⟨_, e, ⟨r, rfl⟩, fun _ z => nomatch z⟩
  · obtain rfl := cell_uniq nd hq hl z
    obtain ⟨ns, e, h⟩ := bx.nums
    exact ⟨_, e, ⟨ns, rfl, h⟩, fun _ z => nomatch z⟩
theorem box_wr {b l : Addr} (bx : BoxAt H b l) : ∀ c ∈ [b, l], ∃ o, H c = some o ∧ Wr o := fun c hc => by
  simp only [List.mem_cons, List.not_mem_nil, or_false] at hc
  rcases hc with rfl | rfl
  · obtain ⟨r, e⟩ := bx.box
    exact ⟨_, e, trivial⟩
  · obtain ⟨ns, e, _⟩ := bx.nums
    exact ⟨_, e, trivial⟩
theorem box_in {b l : Addr} (hb : (b, boxC l) ∈ F) (hl : (l, drawC) ∈ F) : ∀ c ∈ [b, l], c ∈ F.map (·.1) := fun c hc => by
  simp only [List.mem_cons, List.not_mem_nil, or_false] at hc
  rcases hc with rfl | rfl
  · exact List.mem_map_of_mem (f := (·.1)) hb
  · exact List.mem_map_of_mem (f := (·.1)) hl
theorem LB.draw {b l : Addr} (s : LB K H0 H F) (hb : (b, boxC l) ∈ F) (hl : (l, drawC) ∈ F) (hne : b ≠ l) {many : Int} (hm : 0 < many ∧ many < 2 ^ 100) (q : ∀ H' i, LB K H0 H' F → KeepT K H H' → 0 ≤ i → i < many → Q (.int i) H') : sp__law_take K [.ref b, .int many] H Q E := by
  have f1 := s.fr _ hb
  have f2 := s.fr _ hl
  have bx : BoxAt H b l := box_of hne (let ⟨_, o, a, b, _⟩ := f1; ⟨o, a, b⟩) (let ⟨_, o, a, b, _⟩ := f2; ⟨o, a, b⟩)
  unfold sp__law_take
  exact ⟨b, l, many, rfl, bx, hm, fun H' i f bx' h1 h2 => q H' i (s.cells f.fr (f.tabs s.tabs) (box_in hb hl) (box_cells s.nd hb hl bx')) (f.fr.keepT (box_wr bx)) h1 h2⟩
theorem alike_ok {D : Nat} {v u : V} {d : PyData} (hv : Dp K H v d) (hu : Dp K H u d) (hd : d.depth ≤ D) (hs : small d = true) (q : ∀ H', Same H H' → Q (.bl true) H') : sp__law_alike D K [v, u] H Q E := by
  unfold sp__law_alike
  exact ⟨v, u, d, rfl, hv, hu, hd, hs, q⟩
/-! ### side conditions as checks -/
def hasB (h : HouseS) (x : Str) : Bool := (h.staff.find? fun s => decide (s.1 = x)).isSome
def rowsB (h : HouseS) (ks : List Str) : Bool := ks.all fun k => (h.row k).isSome
theorem rowsB_of {h : HouseS} {ks : List Str} (e : rowsB h ks = true) : ∀ k ∈ ks, ∃ r, h.row k = some r := fun k hk => Option.isSome_iff_exists.mp (List.all_eq_true.mp e k hk)
theorem row_of {h : HouseS} {k : Str} (e : (h.row k).isSome = true) : ∃ r, h.row k = some r := Option.isSome_iff_exists.mp e
theorem plan_one {t u : Addr} {k : Str} {a b : Int} (ht : SqT K H t [.ref u]) (hu : SqT K H u [.str k, .int a, .int b]) : PlanAt K H t [⟨u, k, a, b⟩] := ⟨ht, fun r hr => by
  rw [List.mem_singleton.mp hr]
  exact hu⟩
end
end LH
end

section
set_option Elab.async false
set_option linter.all false
set_option maxRecDepth 100000
set_option maxHeartbeats 4000000
set_option pp.maxSteps 1500
/-! the draws of days -/
namespace LH
open PySem PySem.Spec PyProof.Rows L2 StX LamX
theorem pe_imp {X : Cx} {e : Expr} {t t' : TE} (h : PE X e t) (w : ∀ σ H Q, t' σ H Q → t σ H Q) : PE X e t' := ⟨fun pins s σ H Q I q => h.run pins s σ H Q I (w _ _ _ q)⟩
variable {P : Program} {w : World} {K : PySem.W.Frag} {mg : Str → Option Value} {base : Heap}
theorem draw_ok {b l : Addr} {many : Int} {H : Hp} {Q : VK} {E : XK} (hx : BoxAt H b l) (hm : 0 < many ∧ many < 2 ^ 100) (q : ∀ H' i, Frw K [b, l] H H' → BoxAt H' b l → 0 ≤ i → i < many → Q (.int i) H') : sp__law_take K [.ref b, .int many] H Q E := by
  unfold sp__law_take
  exact ⟨b, l, many, rfl, hx, hm, q⟩
theorem BoxAt.same {b l : Addr} {H H' : Hp} (h : BoxAt H b l) (s : Same H H') : BoxAt H' b l := ⟨let ⟨r, e⟩ := h.box; ⟨r, s _ _ e⟩, let ⟨ns, e, z⟩ := h.nums; ⟨ns, s _ _ e, z⟩, h.ne⟩
theorem Frw.keepT {b l : Addr} {H H' : Hp} (f : Frw K [b, l] H H') (hx : BoxAt H b l) : KeepT K H H' := f.fr.keepT (box_wr hx)
/-- one of some constants -/
def tPick (K : PySem.W.Frag) (i : Nat) (vs : List V) : TE := fun σ H Q => ∃ b l, σ[i]? = some (some (.ref b)) ∧ BoxAt H b l ∧ ∀ H' v, Frw K [b, l] H H' → BoxAt H' b l → v ∈ vs → Q v H'
theorem pick_w {i : Nat} {vs : List V} {ta : TA} {td : TE} {E : XK} (ha : ∀ σ H Q, Q vs H → ta σ H Q) (hd : ∀ σ H Q b, σ[i]? = some (some (.ref b)) → sp__law_take K [.ref b, .int (vs.length : Int)] H Q E → td σ H Q) (hl : 0 < vs.length ∧ vs.length ≤ 16 := by decide) : ∀ σ H Q, tPick K i vs σ H Q → tOp (rIxL K) (tLst ta) td σ H Q := by
  rintro σ H Q ⟨b, l, hb, bx, q⟩
  have h16 : 16 ≤ sizeLine := by decide
  refine ha _ _ _ ⟨by omega, fun p hp => hd _ _ _ b hb (draw_ok (l := l) (bx.same (same_new hp)) ⟨by omega, by omega⟩ fun H' j f bx' h1 h2 => ?_)⟩
  have ne : p ∉ [b, l] := fun z => by
    obtain ⟨r, e1⟩ := bx.box
    obtain ⟨ns, e2, _⟩ := bx.nums
    simp only [List.mem_cons, List.not_mem_nil, or_false] at z
    rcases z with rfl | rfl
    · rw [hp] at e1
      cases e1
    · rw [hp] at e2
      cases e2
  obtain ⟨n, rfl⟩ : ∃ n : Nat, j = n := ⟨j.toNat, by omega⟩
  have hn : n < vs.length := by omega
  refine ⟨p, vs, n, vs[n], rfl, rfl, SqL.of (f.fr p _ ne upd_same fun _ z => nomatch z), atI_nat (List.getElem?_eq_getElem hn), q H' _ ((Frw.same (same_new hp)).trans f) bx' (List.getElem_mem hn)⟩
structure PlanL (pl : List PlanG) : Prop where
  ok : PlanOk pl
  len : 1 ≤ pl.length ∧ pl.length ≤ 3
  kinds : pl.map (·.kind) = ([Str.ofString "a", Str.ofString "bb", Str.ofString "ccc"]).take pl.length
@[irreducible] def sp__law_plan (K : PySem.W.Frag) : Sp := fun vs H Q E => ∃ (b l : Addr), vs = [.ref b] ∧ BoxAt H b l ∧ ∀ H' t pl, Frw K [b, l] H H' → BoxAt H' b l → PlanAt K H' t pl → PlanL pl → Q (.ref t) H'
theorem planL_of {pl : List PlanG} {k : Nat} (hk : k < 3) (hl : pl.length = k + 1) (e : pl.map (·.kind) = ([Str.ofString "a", Str.ofString "bb", Str.ofString "ccc"]).take (k + 1)) (hb : ∀ r ∈ pl, (1 ≤ r.most ∧ r.most ≤ 4) ∧ (1 ≤ r.rate ∧ r.rate ≤ 9)) : PlanL pl := by
  refine ⟨⟨fun z => ?_, by omega, fun r hr => ⟨?_, ?_, ?_⟩, ?_⟩, by omega, by rw [hl]; exact e⟩
  · rw [z] at hl
    cases hl
  · have : r.kind ∈ pl.map (·.kind) := List.mem_map_of_mem hr
    rw [e] at this
    have := List.mem_of_mem_take this
    simp only [List.mem_cons, List.not_mem_nil, or_false] at this
    rcases this with z | z | z <;> (rw [z]; kernel_rfl)
  · have := (hb r hr).1
    omega
  · have := (hb r hr).2
    omega
  · rw [e]
    have : ([Str.ofString "a", Str.ofString "bb", Str.ofString "ccc"]).Nodup := by decide
    exact this.sublist (List.take_sublist _ _)
/-- a reading under a name -/
def tTag (t : TE) : TE := t
theorem pe_tag {X : Cx} {e : Expr} {t : TE} (h : PE X e t) : PE X e (tTag t) := h
theorem call_len_seqK (K : PySem.W.Frag) {X : Cx} (hK : X.K = K) : CallR X (.builtin "len") (fun xs H Q => ∃ p ys, xs = [.ref p] ∧ (SqL K H p ys ∨ SqT K H p ys) ∧ Q (.int (ys.length : Nat)) H) := by
  subst hK
  exact call_len_seq
theorem op_in_seqK (K : PySem.W.Frag) {X : Cx} (hK : X.K = K) : OpR X (compareOp .In) (rIn K false) := by
  subst hK
  exact op_in_seq
theorem op_notIn_seqK (K : PySem.W.Frag) {X : Cx} (hK : X.K = K) : OpR X (compareOp .NotIn) (rIn K true) := by
  subst hK
  exact op_notIn_seq
theorem op_neDK {X : Cx} (K : PySem.W.Frag) (hK : X.K = K) (hu : X.A.units + 64 < cLine) : OpR X (compareOp .NotEq) (rNeD K) := by
  subst hK
  exact op_neD hu
theorem BoxAt.out {b l p : Addr} {H : Hp} (bx : BoxAt H b l) (hp : H p = none) : p ∉ [b, l] := fun z => by
  obtain ⟨r, e1⟩ := bx.box
  obtain ⟨ns, e2, _⟩ := bx.nums
  simp only [List.mem_cons, List.not_mem_nil, or_false] at z
  rcases z with rfl | rfl
  · rw [hp] at e1
    cases e1
  · rw [hp] at e2
    cases e2
/-- a cell that wasn't there ahead of it is written -/
theorem Frw.put {W : List Addr} {H H1 : Hp} {p : Addr} {o u : HO} (f : Frw K W H H1) (hp : Fresh0 H p) (h : H1 p = some u) (w : Wr u) : Frw K W H (L2.upd H1 p o) := ⟨fun c x hc e nt => by
  have ne : c ≠ p := fun z => by
    obtain ⟨ps, z2⟩ := hp x (by rw [← z]; exact e)
    exact nt ps z2
  rw [upd_ne ne]
  exact f.fr c x hc e nt, fun t => tabs_upd h w (f.tabs t)⟩
theorem Fresh0.frw {W : List Addr} {H H1 : Hp} {p : Addr} (f : Frw K W H H1) (hW : p ∉ W) (e : H1 p = none) : Fresh0 H p := Fresh0.of (fun o h1 h2 => f.fr p o hW h1 h2) e
theorem Frw.new {W : List Addr} {H H1 : Hp} {p : Addr} {o : HO} (f : Frw K W H H1) (hp : H1 p = none) : Frw K W H (L2.upd H1 p o) := f.trans (.same (same_new hp))
theorem BoxAt.put {b l p : Addr} {H : Hp} {o : HO} (bx : BoxAt H b l) (hp : p ∉ [b, l]) : BoxAt (L2.upd H p o) b l := by
  simp only [List.mem_cons, List.not_mem_nil, or_false, not_or] at hp
  exact ⟨let ⟨r, e⟩ := bx.box; ⟨r, (upd_ne (Ne.symm hp.1)).trans e⟩, let ⟨ns, e, z⟩ := bx.nums; ⟨ns, (upd_ne (Ne.symm hp.2)).trans e, z⟩, bx.ne⟩
theorem of_two {v : V} {a c : Int} (h : v ∈ [V.int a, V.int c]) : ∃ i : Int, v = .int i ∧ (i = a ∨ i = c) := by
  simp only [List.mem_cons, List.not_mem_nil, or_false] at h
  rcases h with rfl | rfl
  · exact ⟨_, rfl, .inl rfl⟩
  · exact ⟨_, rfl, .inr rfl⟩
abbrev kn3 : List Str := [Str.ofString "a", Str.ofString "bb", Str.ofString "ccc"]
end LH
end

section
set_option Elab.async false
set_option linter.all false
set_option maxRecDepth 100000
set_option maxHeartbeats 4000000
set_option pp.maxSteps 1500
namespace LH
open PySem PySem.Spec PyProof.Rows L2 StX LamX
/-- what a day tells a house -/
inductive Deed where
  | add (rank time : Int) (steps : List Str) (needs : List Nat) (tries : Int)
  | clock (rank : Int) (steps : List Str) (first every many tries : Int)
  | join (x : Str) (ks : List Str)
  | limit (k : Str) (most rate : Int)
  | take (x : Str)
  | leave (x : Str)
  | turn (t : Int)
  | done (n : Nat)
  | fail (n : Nat)
  | beat (n : Nat)
  | tell (n : Nat) (z : Int)
  | drop (n : Nat)
  | again (n : Nat)
namespace Deed
def data : Deed → PyData
  | .add r t ks ns tr => .tuple [S' "add", I' r, I' t, .tuple (ks.map .str), .tuple (ns.map N'), I' tr]
  | .clock r ks f e m tr => .tuple [S' "clock", I' r, .tuple (ks.map .str), I' f, I' e, I' m, I' tr]
  | .join x ks => .tuple [S' "join", .str x, .tuple (ks.map .str)]
  | .limit k m r => .tuple [S' "limit", .str k, I' m, I' r]
  | .take x => .tuple [S' "take", .str x]
  | .leave x => .tuple [S' "leave", .str x]
  | .turn t => .tuple [S' "turn", I' t]
  | .done n => .tuple [S' "done", N' n]
  | .fail n => .tuple [S' "fail", N' n]
  | .beat n => .tuple [S' "beat", N' n]
  | .tell n z => .tuple [S' "tell", N' n, I' z]
  | .drop n => .tuple [S' "drop", N' n]
  | .again n => .tuple [S' "again", N' n]
end Deed
variable {P : Program} {w : World} {K : PySem.W.Frag} {mg : Str → Option Value} {base : Heap}
theorem PlanL.sub {pl : List PlanG} (po : PlanL pl) {k : Str} (h : k ∈ pl.map (·.kind)) : k ∈ kn3 := by
  rw [po.kinds] at h
  exact List.mem_of_mem_take h
theorem PlanAt.keep {H H' : Hp} {t : Addr} {l : List PlanG} (h : PlanAt K H t l) (k : KeepT K H H') : PlanAt K H' t l := ⟨k _ _ h.1, fun r hr => k _ _ (h.2 r hr)⟩
end LH
end

section
set_option Elab.async false
set_option linter.all false
set_option maxRecDepth 100000
set_option maxHeartbeats 4000000
set_option pp.maxSteps 1500
/-! number_of, part_of -/
namespace LH
open PySem PySem.Spec PyProof.Rows L2 StX LamX NumText
variable {P : Program} {w : World} {K : PySem.W.Frag} {mg : Str → Option Value} {base : Heap}
@[irreducible] def sp_number_of (K : PySem.W.Frag) : Sp := fun vs H Q E => ∃ x : Str, vs = [.str x] ∧ x.length ≤ sizeLine ∧ ∀ H' v, Same H H' → Dt K H' v (numD x) → Q v H'
theorem sc_number_of : FnScope ["word", "sign"] ["word"] (defScope s_number_of) := ⟨rfl, rfl, rfl, by decide +kernel, rfl, by decide +kernel, by decide +kernel⟩
theorem Tp.ok_number_of (T : Tp P w K mg base) : FnR P w K mg base (L2.CX P w) (0 + 1) (He.ga K "number_of") (sp_number_of K) := by
  refine fnr (N := ["word", "sign"]) (ps := ["word"]) (k := 0) T.fd_number_of sc_number_of (fun _ _ _ _ _ _ us hl => match us, hl with | [_], _ => rfl) (fun vs H Q E h => ?_) fun cdv A outer s H vs Q E hr h => ?_
  · unfold sp_number_of at h
    obtain ⟨_, rfl, _⟩ := h
    rfl
  unfold sp_number_of at h
  obtain ⟨x, rfl, hz, q⟩ := h
  refine ⟨_, (pss_cons (ps_if (PW.pt (pw_or (pt_not (pt_chain op_le op_le pe_int (pe_callB call_len_str rfl T.f_len bt_len (pa_cons (pv 0) pa_nil)) (pe_gi rfl T.v_MOST_FIGURES))) (pw_or1 (pt_not (pt_val (pe_callB (cr_all rfl) rfl T.f_all bt_all (pa_cons (pe_lc (own := [("sign", 1)]) rfl sc_number_of.nd (pi_str (pv 0)) (blkOk_by (own := [("sign", 1)]) (N := ["word", "sign"]) (sc := defScope s_number_of) (by decide +kernel)) (fun _ _ _ _ _ => (pg_name (i := 1) sc_number_of.nd rfl (by first | exact .inl rfl | exact .inr rfl))) (fun _ _ _ _ _ => pts_nil) (fun _ _ _ _ _ => (pe_cmpR op_in_sign (pv 1) (pe_gs rfl T.v_FIGURES) (by rfl)))) pa_nil))))))) (pss_one (ps_ret pe_non)) pss_nil)
      (pss_one (ps_ret (pe_ifExp (PW.pt (pw_or (pt_cmpR op_eq (pv 0) pe_str (nomark _)) (pw_or1 (pt_cmpR op_ne (pe_ix ix_str (pv 0) pe_int (fun _ _ => rfl)) pe_str (nomark _))))) (pe_callTy call_int_str rfl T.f_int bt_int (pa_cons (pv 0) pa_nil)) pe_non)))), ?_⟩
  have no : ¬ (okFig x && headOk x) = true → ∀ H', Same H H' → Q .non H' := fun h H' s => q H' _ s (by
    unfold numD numW
    rw [if_neg h]
    exact .non)
  refine ⟨_, rfl, x, rfl, hz, _, _, rfl, rfl, _, rfl, ?_⟩
  by_cases h1 : 1 ≤ x.length
  · refine (if_pos (by simp; omega)).mpr ⟨_, _, rfl, rfl, _, rfl, ?_⟩
    by_cases h2 : x.length ≤ 5
    · rw [decide_eq_true (show (x.length : Int) ≤ 5 by omega)]
      refine iteF ⟨_, rfl, x, rfl, fun D hn => lcS (walk_str (z := x)) x.cps.toList (fun c => some (.bl (decide (c ∈ figS.cps.toList)))) (by simp) ?_ hn (fun _ _ => trivial) ?_ ?_⟩
      · have : x.cps.size = x.length := rfl
        have : (5 : Nat) < sizeLine := by decide
        omega
      · rintro i c v H1 H' R R0 ec s ⟨rfl, c', ec', rfl⟩ k1 k2
        have e : c = c' := by
          rw [Array.getElem?_toList] at ec
          rw [ec] at ec'
          exact Option.some.inj ec'
        subst e
        exact ⟨rfl, ⟨_, rfl, c, _, rfl, rfl, k1 _ _ rfl Same.rfl'⟩⟩
      · intro H' s e
        refine ⟨_, x.cps.toList.map fun c => decide (c ∈ figS.cps.toList), rfl, .inl (.inl ?_), ?_⟩
        · rw [e, List.map_map, List.filterMap_eq_map']
          rfl
        · have ea : (x.cps.toList.map fun c => decide (c ∈ figS.cps.toList)).all id = isFig x := by
            unfold isFig
            rw [List.all_map]
            rfl
          rw [ea]
          have eo : okFig x = isFig x := by
            unfold okFig
            rw [decide_eq_true ⟨h1, h2⟩, Bool.true_and]
          refine ⟨_, rfl, ?_⟩
          cases hf : isFig x with
          | false => exact iteT (no (by rw [eo, hf]; simp) H' s)
          | true =>
            refine iteF ?_
            have ok : okFig x = true := by rw [eo, hf]
            obtain ⟨ft, fl⟩ := fig_text ok
            have yes : headOk x = true → ∀ H', Same H H' → Q (.int ((digitsVal x.cps.toList : Nat) : Int)) H' := fun h H' s => q H' _ s (by
              unfold numD numW
              rw [if_pos (by rw [ok, h]; rfl)]
              exact .int _)
            refine ⟨_, rfl, rfl, _, rfl, ?_⟩
            have e0 : Str.ofString "0" = ⟨#[48]⟩ := by decide +kernel
            by_cases h0 : x = Str.ofString "0"
            · refine dT (by rw [h0]) ?_
              exact ⟨_, rfl, x, _, rfl, ft, fl, yes (by unfold headOk; rw [decide_eq_true h0]; rfl) H' s⟩
            · refine dF (fun z => h0 (V.str.inj z)) ?_
              obtain ⟨c, cs, ec⟩ : ∃ c cs, x.cps.toList = c :: cs := by
                cases e : x.cps.toList with
                | nil =>
                  have : x.cps.toList.length = x.length := Array.length_toList
                  rw [e] at this
                  simp at this
                  omega
                | cons c cs => exact ⟨c, cs, rfl⟩
              have e1 : x.cps[0]? = some c := by
                rw [← Array.getElem?_toList, ec]
                rfl
              refine ⟨_, rfl, x, 0, c, rfl, rfl, hz, by rw [ec]; unfold atI ixN; simp, rfl, _, rfl, ?_⟩
              by_cases hc : c = 48
              · refine nF (by rw [hc, e0]) ?_
                refine no ?_ H' s
                unfold headOk
                rw [ok, decide_eq_false h0, e1, hc]
                simp
              · refine nT (fun z => hc (by rw [e0] at z; have := congrArg (fun s : Str => s.cps.toList) (V.str.inj z); simpa using this)) ?_
                refine ⟨_, rfl, x, _, rfl, ft, fl, yes ?_ H' s⟩
                unfold headOk
                rw [e1]
                simp [hc]
    · rw [decide_eq_false (show ¬ (x.length : Int) ≤ 5 by omega)]
      refine iteT (no ?_ H Same.rfl')
      unfold okFig
      rw [decide_eq_false (by omega)]
      simp
  · refine (if_neg (by simp; omega)).mpr ?_
    refine ⟨_, rfl, iteT (no ?_ H Same.rfl')⟩
    unfold okFig
    rw [decide_eq_false (by omega)]
    simp
end LH
end

section
set_option Elab.async false
set_option linter.all false
set_option maxRecDepth 100000
set_option maxHeartbeats 4000000
set_option pp.maxSteps 1500
namespace LH
open PySem PySem.Spec PyProof.Rows L2 StX LamX
variable {P : Program} {w : World} {K : PySem.W.Frag} {mg : Str → Option Value} {base : Heap}
/-- an entry of a log, by its word -/
def entW : PyData → Option Str
  | .tuple (.str w :: _) => some w
  | _ => none
def LogOk (l : List PyData) : Prop := ∀ e ∈ l, ∃ w, entW e = some w
end LH
end

section
set_option Elab.async false
set_option linter.all false
set_option maxRecDepth 100000
set_option maxHeartbeats 4000000
/-! what days keep of the plain house -/
namespace LH
open PySem PySem.Spec PyProof.Rows L2
/-- only ticks that are past are gone from the rows -/
def Tr (h h' : HouseS) : Prop := ∃ f : RowS → RowS, (∀ r, f r = r ∨ f r = r.trim h.here) ∧ h' = { h with rows := h.rows.map f }
/-! ### what stays -/
section
variable {ks0 : List Str} {i : Nat} {h h' : HouseS}
theorem LogOk.snoc {l : List PyData} {d : PyData} {w : Str} (h : LogOk l) (e : entW d = some w) : LogOk (l ++ [d]) := fun x hx => by
  rcases List.mem_append.mp hx with z | z
  · exact h x z
  · rw [List.mem_singleton.mp z]
    exact ⟨w, e⟩
end
end LH
end

section
set_option Elab.async false
set_option linter.all false
set_option maxRecDepth 100000
set_option maxHeartbeats 4000000
set_option pp.maxSteps 1500
/-! the box, cells of a law's own -/
namespace LH
open PySem PySem.Spec PyProof.Rows L2 StX LamX
section
variable {K : PySem.W.Frag} {H0 H H' : Hp} {p b l : Addr} {h : HouseS} {n m : Nat} {F : Cells} {Q : VK} {E : XK}
/-- a list of the law's own -/
abbrev isL (zs : List V) (o : HO) : Prop := o = .lst zs
end
/-! ### days -/
end LH
end

section
set_option Elab.async false
set_option linter.all false
set_option maxRecDepth 100000
set_option maxHeartbeats 4000000
/-! comprehensions that make data; dicts of pairs -/
namespace LH
open PySem PySem.Spec PyProof.Rows L2 StX LamX
section
variable {α : Type} {K : PySem.W.Frag} {J : It} {n : Nat} {G : Hp → Prop} {Y : Nat → Hp → V → Hp → Prop}
/-- a comprehension whose turns change nothing that stood, and make data -/
theorem lcD (w : Walk J n G Y) {g : TG} {tt : L2.TT} {te : TE} {vs : List Nat} {σ : L2.St} {H1 : Hp} {Qd : Addr → Hp → Prop} (l : List α) (out : α → Option PyData) (el : l.length = n) (hz : n < sizeLine) (hG : ∀ H, Same H1 H → G H)
    (hs : ∀ (i : Nat) (a : α) (x : V) (H H' : Hp) (R : VK) (R0 : Hp → Prop), l[i]? = some a → Same H1 H → Y i H x H' → (∀ y H4 d, out a = some d → Same H H4 → Dt K H4 y d → R y H4) → (∀ H3, out a = none → Same H H3 → R0 H3) →
      g x (wipe σ vs) H' fun σ2 H2 => wipe σ2 vs = wipe σ vs ∧ tt σ2 H2 fun b H3 => if b = true then te σ2 H3 R else R0 H3)
    (hd : ∀ D H zs, H1 D = none → Same H1 H → H D = some (.lst zs) → Dts K H zs (l.filterMap out) → Qd D H) :
    ∀ D, H1 D = none → ∃ W : Nat → Nat → Hp → Prop, (∃ m, W 0 m (upd H1 D (.lst []))) ∧ ∀ i m H, W i m H →
      (J.stop i H ∧ Qd D H) ∨ (J.go i H ∧ ∃ Nx : Hp → Prop, (∀ H', Nx H' → ∃ m', m' < m ∧ W (i + 1) m' H') ∧ ∀ x H', J.yld i H x H' → g x (wipe σ vs) H' fun σ2 H2 => wipe σ2 vs = wipe σ vs ∧ tt σ2 H2 fun b H3 =>
        if b = true then te σ2 H3 fun y H4 => ∃ acc, H4 D = some (.lst acc) ∧ acc.length < sizeLine ∧ Nx (upd H4 D (.lst (acc ++ [y]))) else Nx H3) := by
  intro D hn
  refine lc_it w (Qd := fun H => Qd D H) (fun i H => Same H1 H ∧ ∃ zs, H D = some (.lst zs) ∧ Dts K H zs ((l.take i).filterMap out)) ⟨same_new hn, [], upd_same, .nil⟩ (fun i H _ q => hG H q.1) ?_ ?_
  · rintro i x H H' hi ⟨q1, zs, q2, q3⟩ y
    obtain ⟨a, ea⟩ : ∃ a, l[i]? = some a := ⟨l[i]'(by omega), by simp [show i < l.length by omega]⟩
    have e1 := take_fm out l ea
    refine hs i a x H H' _ _ ea q1 y (fun y H4 d hh s4 dy => ?_) fun H3 hh s3 => ?_
    · have e4 := s4 _ _ q2
      have kp : KeepT K H4 (upd H4 D (.lst (zs ++ [y]))) := KeepT.upd e4 trivial
      refine ⟨_, e4, ?_, Same.put (Same.trans' q1 s4) hn, _, upd_same, ?_⟩
      · have h1 := List.length_filterMap_le out (l.take i)
        have h2 := List.length_take_le i l
        rw [Dts.len q3]
        omega
      · rw [e1, hh]
        exact dts_snoc (q3.keep fun b xs z => kp _ _ (KeepT.same s4 _ _ z)) (dy.keep kp)
    · refine ⟨Same.trans' q1 s3, zs, s3 _ _ q2, ?_⟩
      rw [e1, hh, Option.toList, List.append_nil]
      exact q3.keep (KeepT.same s3)
  · rintro H ⟨q1, zs, q2, q3⟩
    rw [← el, List.take_length] at q3
    exact hd D H zs hn q1 q2 q3
end
/-! ### dict(ps) -/
end LH
end

section
set_option Elab.async false
set_option linter.all false
set_option maxRecDepth 100000
set_option maxHeartbeats 4000000
set_option pp.maxSteps 1500
/-! part_of -/
namespace LH
open PySem PySem.Spec PyProof.Rows L2 StX LamX NumText
open C8 (pss_cut tCut)
variable {P : Program} {w : World} {K : PySem.W.Frag} {mg : Str → Option Value} {base : Heap}
def Flat (d : PyData) : Prop := d = .none ∨ (∃ i, d = .int i) ∨ ∃ x, d = .str x
theorem flat_num (x : Str) : Flat (numD x) := by
  unfold numD
  split
  · exact .inr (.inl ⟨_, rfl⟩)
  · exact .inl rfl
theorem flat_nam (x : Str) : Flat (namD x) := by
  unfold namD
  split
  · exact .inr (.inr ⟨_, rfl⟩)
  · exact .inl rfl
theorem flat_in {H : Hp} : ∀ {zs : List V} {ds : List PyData}, Dts K H zs ds → (∀ d ∈ ds, Flat d) → zs.all flatV = true ∧ inV .non zs = ds.any isNo
  | _, _, .nil, _ => ⟨rfl, rfl⟩
  | _, _, .cons (v := v) (d := d) a b, h => by
    obtain ⟨x, y⟩ := flat_in b fun e he => h e (List.mem_cons_of_mem _ he)
    have h1 : flatV v = true ∧ eqV v .non = isNo d := by
      rcases h d List.mem_cons_self with rfl | ⟨i, rfl⟩ | ⟨s, rfl⟩ <;> (cases a; exact ⟨rfl, rfl⟩)
    refine ⟨by rw [List.all_cons, h1.1, x]; rfl, ?_⟩
    unfold inV at y ⊢
    rw [List.any_cons, List.any_cons, h1.2, y]
@[irreducible] def sp_part_of (n : Nat) (K : PySem.W.Frag) : Sp := fun vs H Q E => ∃ form x : Str, vs = [.str form, .str x] ∧ (n = 0 → form = Str.ofString "w") ∧ x.length + 2 ≤ sizeLine ∧ ∀ H' v, Same H H' → Dt K H' v (partD form x) → Q v H'
theorem sc_part_of : FnScope ["form", "word", "parts", "one"] ["form", "word"] (defScope s_part_of) := ⟨rfl, rfl, rfl, by decide +kernel, rfl, by decide +kernel, by decide +kernel⟩
theorem part_lv (T : Tp P w K mg base) (n : Nat) (ih : FnR P w K mg base (L2.CX P w) (n + 3) (He.ga K "part_of") (fun vs H Q E => 0 < n ∧ sp_part_of (n - 1) K vs H Q E)) : FnR P w K mg base (L2.CX P w) (n + 3 + 1) (He.ga K "part_of") (sp_part_of n K) := by
  refine fnr (N := ["form", "word", "parts", "one"]) (ps := ["form", "word"]) (k := n + 3) T.fd_part_of sc_part_of (fun _ _ _ _ _ _ us hl => match us, hl with | [_, _], _ => rfl) (fun vs H Q E h => ?_) fun cdv A outer s H vs Q E hr h => ?_
  · unfold sp_part_of at h
    obtain ⟨_, _, rfl, _⟩ := h
    rfl
  unfold sp_part_of at h
  obtain ⟨form, x, rfl, hn, hx, q⟩ := h
  refine ⟨_, (pss_cons (ps_if (pt_cmpR op_eq (pv 0) (pe_gs rfl T.v_NUMBER) (nomark _)) (pss_one (ps_ret (pe_callP T.ok_number_of (rm hr) (kp_of T.fd_number_of) rfl T.g_number_of passE (pa_cons (pv 1) pa_nil)))) pss_nil)
      (pss_cons (ps_if (pt_cmpR op_eq (pv 0) (pe_gs rfl T.v_NAME) (nomark _)) (pss_one (ps_ret (pe_ifExp (pt_val (pe_callP T.ok_is_name (rm hr) (kp_of T.fd_is_name) rfl T.g_is_name passE (pa_cons (pv 1) pa_nil))) (pv 1) pe_non))) pss_nil)
      (pss_cut (ps_if (PW.pt (pw_and (pt_cmpR op_eq (pv 0) (pe_gs rfl T.v_NUMBERS) (nomark _)) (pw_and1 (pt_cmpR op_eq (pv 1) (pe_gs rfl T.v_NONE) (nomark _))))) (pss_one (ps_ret (pe_tup pa_nil))) pss_nil)
      (pss_cons (ps_setLc (i := 2) (own := [("one", 3)]) rfl sc_part_of.nd rfl rfl rfl (pi_list (pe_split (pv 1) (pe_gs rfl T.v_COMMA))) (blkOk_by (own := [("one", 3)]) (N := ["form", "word", "parts", "one"]) (sc := defScope s_part_of) (by decide +kernel)) (fun _ _ _ _ _ => (pg_name (i := 3) sc_part_of.nd rfl (by first | exact .inl rfl | exact .inr rfl))) (fun _ _ _ _ _ => pts_nil) (fun _ _ _ _ _ => (pe_ifExp (pt_cmpR op_eq (pv 0) (pe_gs rfl T.v_NUMBERS) (nomark _)) (pe_callP T.ok_number_of (rm hr) (kp_of T.fd_number_of) rfl T.g_number_of passL (pa_cons (pv 3) pa_nil)) (pe_callP ih (rm hr) (kp_of T.fd_part_of) rfl T.g_part_of passL (pa_cons (pe_gs rfl T.v_NAME) (pa_cons (pv 3) pa_nil))))))
      (pss_one (ps_ret (pe_ifExp (pt_cmpR op_in_seq pe_non (pv 2) (by rfl)) pe_non (pe_callTy call_tuple_of rfl T.f_tuple bt_tuple (pa_cons (pv 2) pa_nil))))))))), ?_⟩
  refine ⟨_, rfl, rfl, _, rfl, ?_⟩
  by_cases fn : form = Str.ofString "n"
  · refine dT (by rw [fn]) ⟨_, rfl, ?_⟩
    unfold sp_number_of
    refine ⟨x, rfl, by omega, fun H' v s d => q H' v s ?_⟩
    unfold partD
    rw [if_pos fn]
    exact d
  refine dF (fun z => fn (V.str.inj z)) ⟨_, rfl, rfl, _, rfl, ?_⟩
  by_cases fw : form = Str.ofString "w"
  · refine dT (by rw [fw]) ⟨_, rfl, ?_⟩
    unfold sp_is_name
    refine ⟨x, rfl, by omega, fun H' s => ⟨_, rfl, ?_⟩⟩
    have e : partD form x = namD x := by
      unfold partD
      rw [if_neg fn, if_pos fw]
    rw [e] at q
    unfold namD at q
    cases hn : isName x with
    | true =>
      rw [hn] at q
      exact iteT ⟨_, rfl, q H' _ s (.str _)⟩
    | false =>
      rw [hn] at q
      exact iteF (q H' _ s .non)
  refine dF (fun z => fw (V.str.inj z)) ?_
  have n1 : 0 < n := Nat.pos_of_ne_zero fun z => fw (hn z)
  have e3 : ¬ (form = Str.ofString "j" ∧ x = Str.ofString "-") → partD form x = partsD (if form = Str.ofString "j" then numD else namD) (Txt.split x (Str.ofString ",")) := fun h => by
    unfold partD
    rw [if_neg fn, if_neg fw, if_neg h]
  refine ⟨fun σ' H' => H' = H ∧ σ' = [some (.str form), some (.str x), none, none] ∧ ¬ (form = Str.ofString "j" ∧ x = Str.ofString "-"), ?_, ?_⟩
  · refine ⟨_, rfl, rfl, _, rfl, ?_⟩
    by_cases fj : form = Str.ofString "j"
    · refine dT (by rw [fj]) ⟨_, rfl, rfl, _, rfl, ?_⟩
      by_cases xm : x = Str.ofString "-"
      · refine dT (by rw [xm]) ⟨by show 0 ≤ sizeLine; decide, fun t ht => ?_⟩
        refine q _ _ (same_new ht) ?_
        unfold partD
        rw [if_neg fn, if_neg fw, if_pos ⟨fj, xm⟩]
        exact .tup (SqT.of upd_same) .nil
      · refine dF (fun z => xm (V.str.inj z)) ?_
        exact ⟨rfl, rfl, fun z => xm z.2⟩
    · refine dF (fun z => fj (V.str.inj z)) ?_
      exact ⟨rfl, rfl, fun z => fj z.1⟩
  · rintro σ' H' ⟨rfl, rfl, hj⟩
    rw [e3 hj] at q
    clear e3 hj
    obtain ⟨sl, sn⟩ := split_le (x := x) (y := Str.ofString ",") (by decide +kernel)
    refine ⟨_, rfl, ⟨_, rfl⟩, x, _, rfl, rfl, by decide +kernel, hx, fun p hp => ?_⟩
    have s1 := same_new (o := .lst ((Txt.split x (Str.ofString ",")).map V.str)) hp
    have e1 : L2.upd H' p (.lst ((Txt.split x (Str.ofString ",")).map V.str)) p = some (.lst ((Txt.split x (Str.ofString ",")).map V.str)) := upd_same
    generalize L2.upd H' p (.lst ((Txt.split x (Str.ofString ",")).map V.str)) = H1 at s1 e1 ⊢
    have big : 100 < sizeLine := by decide
    refine ⟨p, rfl, ⟨_, SqL.of e1⟩, lcD (K := K) (walk_list (xs := (Txt.split x (Str.ofString ",")).map V.str)) (Txt.split x (Str.ofString ",")) (fun w => some ((if form = Str.ofString "j" then numD else namD) w)) (by simp) (by rw [List.length_map]; omega) (fun H' s => sqL_same (SqL.of e1) s) ?_ ?_⟩
    · intro i wd v H2 H3 R R0 ew s y k1 k2
      obtain ⟨rfl, ey⟩ := y
      rw [List.getElem?_map, ew] at ey
      obtain rfl := Option.some.inj ey
      have hl := sl wd (List.mem_of_getElem? ew)
      refine ⟨rfl, _, rfl, rfl, _, rfl, ?_⟩
      by_cases fj : form = Str.ofString "j"
      · refine dT (by rw [fj]) ⟨_, rfl, ?_⟩
        unfold sp_number_of
        exact ⟨wd, rfl, by omega, fun H4 v4 s4 d4 => k1 _ _ _ (by rw [if_pos fj]) s4 d4⟩
      · refine dF (fun z => fj (V.str.inj z)) ⟨_, rfl, n1, ?_⟩
        unfold sp_part_of
        refine ⟨Str.ofString "w", wd, rfl, fun _ => rfl, by omega, fun H4 v4 s4 d4 => k1 _ _ _ rfl s4 ?_⟩
        rw [if_neg fj]
        exact d4
    · intro D H2 zs hD s2 eD dz
      rw [List.filterMap_eq_map'] at dz
      have fl : ∀ d ∈ (Txt.split x (Str.ofString ",")).map fun w => (if form = Str.ofString "j" then numD else namD) w, Flat d := fun d hd => by
        obtain ⟨w, _, rfl⟩ := List.mem_map.mp hd
        split
        · exact flat_num w
        · exact flat_nam w
      obtain ⟨f1, f2⟩ := flat_in dz fl
      unfold partsD at q
      refine ⟨_, rfl, D, zs, rfl, .inl (SqL.of eD), rfl, f1, _, rfl, ?_⟩
      rw [f2]
      cases ha : ((Txt.split x (Str.ofString ",")).map fun w => (if form = Str.ofString "j" then numD else namD) w).any isNo with
      | true =>
        rw [if_pos ha] at q
        exact iteT (q H2 _ (Same.trans' s1 s2) .non)
      | false =>
        rw [if_neg (by rw [ha]; simp)] at q
        refine iteF ⟨_, rfl, D, zs, rfl, .inl ⟨SqL.of eD, fun t ht => ?_⟩⟩
        exact q _ _ (Same.trans' (Same.trans' s1 s2) (same_new ht)) (.tup (SqT.of upd_same) (dz.keep (KeepT.same (same_new ht))))
theorem Tp.ok_part_of0 (T : Tp P w K mg base) : FnR P w K mg base (L2.CX P w) (0 + 3 + 1) (He.ga K "part_of") (sp_part_of 0 K) := part_lv T 0 fun A outer s H us vs Q E hr e0 r h => absurd h.1 (Nat.lt_irrefl 0)
theorem Tp.ok_part_of (T : Tp P w K mg base) : FnR P w K mg base (L2.CX P w) (1 + 3 + 1) (He.ga K "part_of") (sp_part_of 1 K) := part_lv T 1 ((Tp.ok_part_of0 T).imp fun vs H Q E h => h.2)
theorem part_ok {form x : Str} {H : Hp} {Q : VK} {E : XK} (hx : x.length + 2 ≤ sizeLine) (q : ∀ H' v, Same H H' → Dt K H' v (partD form x) → Q v H') : sp_part_of 1 K [.str form, .str x] H Q E := by
  unfold sp_part_of
  exact ⟨form, x, rfl, (fun z => by cases z), hx, q⟩
end LH
end

section
set_option Elab.async false
set_option linter.all false
set_option maxRecDepth 100000
set_option maxHeartbeats 4000000
/-! k12: needs -/
namespace LH
open PySem PySem.Spec PyProof.Rows L2
def EJ (js : List JobS) (n : Nat) : Option Str := (js[n]?).bind (·.ended)
structure J12 (js : List JobS) : Prop where
  need : ∀ (i : Nat) (j : JobS), js[i]? = some j → (j.held ≠ none ∨ j.ended = some tDone) → ∀ n ∈ j.needs, EJ js n = some tDone
  ends : ∀ (i : Nat) (j : JobS), js[i]? = some j → j.ended = none ∨ j.ended = some tDone ∨ j.ended = some tDead ∨ j.ended = some tDropped
theorem stay_set {js : List JobS} {i : Nat} {j k : JobS} (ej : js[i]? = some j) (hd : j.ended = some tDone → k.ended = some tDone) {n : Nat} (h : EJ js n = some tDone) : EJ (js.set i k) n = some tDone := by
  unfold EJ at h ⊢
  rw [List.getElem?_set]
  by_cases e : i = n
  · subst e
    rw [ej] at h
    rw [if_pos rfl, if_pos (List.getElem?_eq_some_iff.mp ej).1]
    exact hd h
  · rw [if_neg e]
    exact h
theorem stay_map {js : List JobS} {f : JobS → JobS} (he : ∀ j, (f j).ended = j.ended) {n : Nat} : EJ (js.map f) n = EJ js n := by
  unfold EJ
  rw [List.getElem?_map]
  cases js[n]? with
  | none => rfl
  | some j => exact he j
theorem J12.set {js : List JobS} (I : J12 js) {i : Nat} {j k : JobS} (ej : js[i]? = some j) (hn : k.needs = j.needs) (hd : j.ended = some tDone → k.ended = some tDone) (h1 : k.held ≠ none ∨ k.ended = some tDone → ∀ n ∈ j.needs, EJ js n = some tDone)
    (h2 : k.ended = none ∨ k.ended = some tDone ∨ k.ended = some tDead ∨ k.ended = some tDropped) : J12 (js.set i k) := by
  refine ⟨fun m q e hq n hm => stay_set ej hd ?_, fun m q e => ?_⟩
  · rcases set_get e with ⟨rfl, rfl, _⟩ | ⟨_, e⟩
    · exact h1 hq n (by rw [← hn]; exact hm)
    · exact I.need m q e hq n hm
  · rcases set_get e with ⟨rfl, rfl, _⟩ | ⟨_, e⟩
    · exact h2
    · exact I.ends m q e
theorem J12.map {js : List JobS} (I : J12 js) {f : JobS → JobS} (hn : ∀ j, (f j).needs = j.needs) (hh : ∀ j, (f j).held = j.held) (he : ∀ j, (f j).ended = j.ended) : J12 (js.map f) := by
  have get : ∀ {i : Nat} {q : JobS}, (js.map f)[i]? = some q → ∃ j, js[i]? = some j ∧ f j = q := fun {i q} e => by
    rw [List.getElem?_map] at e
    cases ej : js[i]? with
    | none => rw [ej] at e; cases e
    | some j => rw [ej] at e; exact ⟨j, rfl, Option.some.inj e⟩
  refine ⟨fun m q e hq n hm => ?_, fun m q e => ?_⟩
  · obtain ⟨j, ej, rfl⟩ := get e
    rw [stay_map he]
    rw [hn] at hm
    rw [hh, he] at hq
    exact I.need m j ej hq n hm
  · obtain ⟨j, ej, rfl⟩ := get e
    rw [he]
    exact I.ends m j ej
end LH
end

section
set_option Elab.async false
set_option linter.all false
set_option maxRecDepth 100000
set_option maxHeartbeats 4000000
/-! needs of jobs, where no clock is -/
namespace LH
open PySem PySem.Spec PyProof.Rows L2
structure KN (h h' : HouseS) : Prop where
  clks : h'.clks = h.clks
  needs : h'.jobs.map (·.needs) = h.jobs.map (·.needs)
theorem KN.refl (h : HouseS) : KN h h := ⟨rfl, rfl⟩
theorem KN.trans {h h1 h2 : HouseS} (a : KN h h1) (b : KN h1 h2) : KN h h2 := ⟨b.clks.trans a.clks, b.needs.trans a.needs⟩
theorem KN.jobUp (h : HouseS) (i : Nat) (f : JobS → JobS) (hf : ∀ j, (f j).needs = j.needs) : KN h (h.jobUp i f) := by
  unfold HouseS.jobUp
  split
  · exact .refl h
  · rename_i j ej
    exact ⟨rfl, map_set' (f := fun j : JobS => j.needs) ej (hf j)⟩
theorem KN.closed (h : HouseS) (l : LeaseS) : KN h (h.closed l) := by
  unfold HouseS.closed
  split <;> exact ⟨rfl, rfl⟩
theorem KN.foldl {α : Type} (f : HouseS → α → HouseS) (hf : ∀ h a, KN h (f h a)) : ∀ (l : List α) (h : HouseS), KN h (l.foldl f h)
  | [], h => .refl h
  | a :: l, h => (hf h a).trans (KN.foldl f hf l (f h a))
theorem KN.failOne (h : HouseS) (l : LeaseS) : KN h (h.failOne l) := (KN.closed h l).trans (KN.jobUp _ _ _ fun j => (stepFailed_steps j _ _).2)
theorem KN.goOne (h : HouseS) (l : LeaseS) : KN h (h.goOne l) := (KN.closed h l).trans (KN.jobUp _ _ _ fun _ => rfl)
theorem KN.strike {h : HouseS} (hc : h.clks = []) (t : Int) : KN h (h.strike t) := by
  rw [strike_eq, hc]
  refine ⟨hc.symm, ?_⟩
  simp
theorem KN.turnTo {h : HouseS} (hc : h.clks = []) (t : Int) : KN h (h.turnTo t) := by
  unfold HouseS.turnTo
  have k := KN.foldl (fun h l => if l.til = t then h.failOne l else h) (fun h l => by
    split
    · exact KN.failOne h l
    · exact .refl h) (HouseS.byNum { h with here := t }) { h with here := t }
  have k : KN h _ := KN.trans (h1 := { h with here := t }) ⟨rfl, rfl⟩ k
  exact k.trans (KN.strike (k.clks.trans hc) t)
def Deed.more : Deed → List (List Nat)
  | .add _ _ _ ns _ => [ns]
  | _ => []
end LH
end

section
set_option Elab.async false
set_option linter.all false
set_option maxRecDepth 100000
set_option maxHeartbeats 4000000
/-! k04: limits -/
namespace LH
open PySem PySem.Spec PyProof.Rows L2
def kindL (h : HouseS) (l : LeaseS) : Option Str := (h.jobs[l.work]?).bind fun j => j.steps[l.step]?
def runs (h : HouseS) (k : Str) : Nat := (h.cnt.filter fun l => decide (kindL h l = some k)).length
structure C04 (h : HouseS) : Prop where
  nums : (h.cnt.map (·.num)).Nodup
  lt : ∀ l ∈ h.cnt, l.num < h.given
  step : ∀ l ∈ h.cnt, ∃ j, h.jobs[l.work]? = some j ∧ j.held = some l.num ∧ l.step = j.fin ∧ j.fin < j.steps.length
  live : ∀ (i : Nat) (j : JobS), h.jobs[i]? = some j → j.ended ≠ some tDone → j.fin < j.steps.length
  kinds : (h.rows.map (·.kind)).Nodup
  cnt : ∀ r ∈ h.rows, r.cnt = (runs h r.kind : Int)
theorem runs_congr {h h' : HouseS} (hc : h'.cnt = h.cnt) (hk : ∀ l ∈ h.cnt, kindL h' l = kindL h l) (k : Str) : runs h' k = runs h k := by
  unfold runs
  rw [hc]
  congr 1
  exact List.filter_congr fun l hl => by rw [hk l hl]
theorem C04.mono {h h' : HouseS} (c : C04 h) (hj : ∀ (i : Nat) (j : JobS), h.jobs[i]? = some j → ∃ k, h'.jobs[i]? = some k ∧ k.held = j.held ∧ k.fin = j.fin ∧ k.steps = j.steps ∧ (k.ended ≠ some tDone → j.ended ≠ some tDone))
    (hn : ∀ (i : Nat) (k : JobS), h'.jobs[i]? = some k → h.jobs[i]? = none → k.fin = 0 ∧ k.steps ≠ []) (hc : h'.cnt = h.cnt) (hg : h'.given = h.given) (hr : h'.rows.map (fun r => (r.kind, r.cnt)) = h.rows.map (fun r => (r.kind, r.cnt))) : C04 h' := by
  have hk : ∀ l ∈ h.cnt, kindL h' l = kindL h l := fun l hl => by
    obtain ⟨j, ej, _⟩ := c.step l hl
    obtain ⟨k, ek, _, _, es, _⟩ := hj _ j ej
    unfold kindL
    rw [ej, ek]
    show k.steps[l.step]? = j.steps[l.step]?
    rw [es]
  have hkd : h'.rows.map (·.kind) = h.rows.map (·.kind) := by
    have := congrArg (List.map Prod.fst) hr
    simpa [List.map_map, Function.comp_def] using this
  refine ⟨by rw [hc]; exact c.nums, by rw [hc, hg]; exact c.lt, fun l hl => ?_, fun i k ek ne => ?_, by rw [hkd]; exact c.kinds, fun r hr' => ?_⟩
  · rw [hc] at hl
    obtain ⟨j, ej, e1, e2, e3⟩ := c.step l hl
    obtain ⟨k, ek, f1, f2, f3, _⟩ := hj _ j ej
    exact ⟨k, ek, f1.trans e1, e2.trans f2.symm, by rw [f2, f3]; exact e3⟩
  · cases ej : h.jobs[i]? with
    | none =>
      obtain ⟨a, b⟩ := hn i k ek ej
      rw [a]
      exact List.length_pos_iff.mpr b
    | some j =>
      obtain ⟨k', ek', _, f2, f3, f4⟩ := hj i j ej
      rw [ek] at ek'
      obtain rfl := Option.some.inj ek'
      rw [f2, f3]
      exact c.live i j ej (f4 ne)
  · have : (r.kind, r.cnt) ∈ h.rows.map (fun r => (r.kind, r.cnt)) := by
      rw [← hr]
      exact List.mem_map_of_mem (f := fun r : RowS => (r.kind, r.cnt)) hr'
    obtain ⟨r0, h0, e0⟩ := List.mem_map.mp this
    have e1 : r0.kind = r.kind := congrArg Prod.fst e0
    have e2 : r0.cnt = r.cnt := congrArg Prod.snd e0
    rw [← e2, c.cnt r0 h0, e1, runs_congr hc hk]
theorem C04.set {h : HouseS} (c : C04 h) {i : Nat} {j k : JobS} (ej : h.jobs[i]? = some j) (h1 : k.held = j.held) (h2 : k.fin = j.fin) (h3 : k.steps = j.steps) (h4 : k.ended ≠ some tDone → j.ended ≠ some tDone) : C04 { h with jobs := h.jobs.set i k } := by
  refine c.mono (fun n q e => ?_) (fun n q e z => ?_) rfl rfl rfl
  · show ∃ k', (h.jobs.set i k)[n]? = some k' ∧ _
    rw [List.getElem?_set]
    by_cases hn : i = n
    · subst hn
      rw [ej] at e
      obtain rfl := Option.some.inj e
      rw [if_pos rfl, if_pos (List.getElem?_eq_some_iff.mp ej).1]
      exact ⟨k, rfl, h1, h2, h3, h4⟩
    · rw [if_neg hn]
      exact ⟨q, e, rfl, rfl, rfl, id⟩
  · have e : (h.jobs.set i k)[n]? = some q := e
    rcases set_get e with ⟨rfl, rfl, hl⟩ | ⟨_, e⟩
    · rw [ej] at z
      cases z
    · rw [e] at z
      cases z
theorem C04.map {h : HouseS} (c : C04 h) {f : JobS → JobS} (hf : ∀ j, (f j).held = j.held ∧ (f j).fin = j.fin ∧ (f j).steps = j.steps ∧ (f j).ended = j.ended) : C04 { h with jobs := h.jobs.map f } := by
  refine c.mono (fun n q e => ⟨f q, ?_, (hf q).1, (hf q).2.1, (hf q).2.2.1, by rw [(hf q).2.2.2]; exact id⟩) (fun n q e z => ?_) rfl rfl rfl
  · show (h.jobs.map f)[n]? = _
    rw [List.getElem?_map, e]
    rfl
  · have e : (h.jobs.map f)[n]? = some q := e
    rw [List.getElem?_map, z] at e
    cases e
theorem C04.rows {h : HouseS} (c : C04 h) {f : RowS → RowS} (hf : ∀ r, (f r).kind = r.kind ∧ (f r).cnt = r.cnt) : C04 { h with rows := h.rows.map f } := by
  refine c.mono (fun n q e => ⟨q, e, rfl, rfl, rfl, id⟩) (fun n q e z => ?_) rfl rfl ?_
  · have e : h.jobs[n]? = some q := e
    rw [e] at z
    cases z
  · show (h.rows.map f).map _ = _
    rw [List.map_map]
    refine List.map_congr_left fun r _ => ?_
    simp only [Function.comp]
    rw [(hf r).1, (hf r).2]
end LH
end

section
set_option Elab.async false
set_option linter.all false
set_option maxRecDepth 100000
set_option maxHeartbeats 4000000
/-! k04: what no take and no limit changes -/
namespace LH
open PySem PySem.Spec PyProof.Rows L2
def tkR (r : RowS) : Str × Int × Int × List Int := (r.kind, r.most, r.rate, r.ticks)
structure KR (h h' : HouseS) : Prop where
  rows : h'.rows.map tkR = h.rows.map tkR
  hands : h'.hands = h.hands
  given : h'.given = h.given
  few : ∀ x, h'.handsOf x ≤ h.handsOf x
theorem KR.refl (h : HouseS) : KR h h := ⟨rfl, rfl, rfl, fun _ => Nat.le_refl _⟩
theorem KR.trans {h h1 h2 : HouseS} (a : KR h h1) (b : KR h1 h2) : KR h h2 := ⟨b.rows.trans a.rows, b.hands.trans a.hands, b.given.trans a.given, fun x => Nat.le_trans (b.few x) (a.few x)⟩
theorem KR.jobUp (h : HouseS) (i : Nat) (f : JobS → JobS) : KR h (h.jobUp i f) := by
  unfold HouseS.jobUp
  split <;> exact ⟨rfl, rfl, rfl, fun _ => Nat.le_refl _⟩
theorem KR.closed (h : HouseS) (l : LeaseS) : KR h (h.closed l) := by
  unfold HouseS.closed
  split
  · exact .refl h
  · rename_i j _
    refine ⟨?_, rfl, rfl, fun x => ?_⟩
    · show (h.rows.map fun r => if r.kind = j.kind then { r with cnt := r.cnt - 1 } else r).map tkR = _
      rw [List.map_map]
      refine List.map_congr_left fun r _ => ?_
      simp only [Function.comp]
      split <;> rfl
    · show ((h.cnt.filter fun o => decide (o.num ≠ l.num)).filter fun l => decide (l.worker = x)).length ≤ _
      exact (List.filter_sublist.filter _).length_le
theorem KR.foldl {α : Type} (f : HouseS → α → HouseS) (hf : ∀ h a, KR h (f h a)) : ∀ (l : List α) (h : HouseS), KR h (l.foldl f h)
  | [], h => .refl h
  | a :: l, h => (hf h a).trans (KR.foldl f hf l (f h a))
theorem KR.failOne (h : HouseS) (l : LeaseS) : KR h (h.failOne l) := (KR.closed h l).trans (KR.jobUp _ _ _)
theorem KR.goOne (h : HouseS) (l : LeaseS) : KR h (h.goOne l) := (KR.closed h l).trans (KR.jobUp _ _ _)
theorem KR.strike (h : HouseS) (t : Int) : KR h (h.strike t) := by
  rw [strike_eq]
  exact ⟨rfl, rfl, rfl, fun _ => Nat.le_refl _⟩
theorem KR.turnTo (h : HouseS) (t : Int) : KR h (h.turnTo t) := by
  unfold HouseS.turnTo
  have k := KR.foldl (fun h l => if l.til = t then h.failOne l else h) (fun h l => by
    split
    · exact KR.failOne h l
    · exact .refl h) (HouseS.byNum { h with here := t }) { h with here := t }
  have k : KR h _ := KR.trans (h1 := { h with here := t }) ⟨rfl, rfl, rfl, fun _ => Nat.le_refl _⟩ k
  exact k.trans (KR.strike _ t)
/-- what is told of takes -/
structure T04 (h : HouseS) (T : List (Int × Str)) : Prop where
  len : T.length = h.given
  past : ∀ q ∈ T, q.1 ≤ h.here
  ticks : ∀ r ∈ h.rows, r.ticks.filter (fun o => decide (o > h.here - 10)) = ((T.filter fun q => decide (q.2 = r.kind)).map (·.1)).filter fun o => decide (o > h.here - 10)
  hands : ∀ x, (h.handsOf x : Int) ≤ h.hands
theorem T04.limit {h : HouseS} {T : List (Int × Str)} (t : T04 h T) (k : Str) (m r : Int) : T04 (h.limit k m r) T := by
  refine ⟨t.len, t.past, fun q hq => ?_, t.hands⟩
  obtain ⟨r0, h0, rfl⟩ := List.mem_map.mp hq
  have e := t.ticks r0 h0
  split <;> exact e
end LH
end

section
set_option Elab.async false
set_option linter.all false
set_option maxRecDepth 100000
set_option maxHeartbeats 4000000
/-! two houses that are alike but for old ticks and logs -/
namespace LH
open PySem PySem.Spec PyProof.Rows L2
def win (c : Int) (l : List Int) : List Int := l.filter fun o => decide (o > c - 10)
theorem win_late {c d : Int} (h : c ≤ d) (l : List Int) : win d (win c l) = win d l := by
  unfold win
  rw [List.filter_filter]
  refine List.filter_congr fun o _ => ?_
  by_cases z : o > d - 10
  · have : o > c - 10 := by omega
    simp [z, this]
  · simp [z]
theorem win_eq {c d : Int} (h : c ≤ d) {l l' : List Int} (e : win c l = win c l') : win d l = win d l' := by rw [← win_late h, e, win_late h]
theorem win_app (c : Int) (l l' : List Int) : win c (l ++ l') = win c l ++ win c l' := List.filter_append _ _
def setTk (z : RowS × List Int) : RowS := { z.1 with ticks := z.2 }
/-- h and t: the logs begin with a and b, the ticks from c on are the same -/
def EH (a b : List PyData) (c : Int) (h t : HouseS) : Prop := ∃ (zs : List (RowS × List Int)) (sfx : List PyData), h.rows = zs.map (·.1) ∧ h.log = a ++ sfx ∧ t = { h with rows := zs.map setTk, log := b ++ sfx } ∧ ∀ z ∈ zs, win c z.1.ticks = win c z.2
section
variable {a b : List PyData} {c : Int} {h t : HouseS}
theorem EH.refl (h : HouseS) (c : Int) : EH h.log h.log c h h := by
  refine ⟨h.rows.map fun r => (r, r.ticks), [], ?_, by simp, ?_, fun z hz => ?_⟩
  · rw [List.map_map]
    exact (List.map_id _).symm
  · rw [List.map_map, List.append_nil]
    have : (setTk ∘ fun r : RowS => (r, r.ticks)) = id := by
      funext r
      rfl
    rw [this, List.map_id]
  · obtain ⟨r, _, rfl⟩ := List.mem_map.mp hz
    rfl
theorem EH.here_eq (e : EH a b c h t) : t.here = h.here := by obtain ⟨zs, sfx, _, _, rfl, _⟩ := e; rfl
theorem EH.jobs_eq (e : EH a b c h t) : t.jobs = h.jobs := by obtain ⟨zs, sfx, _, _, rfl, _⟩ := e; rfl
theorem EH.given_eq (e : EH a b c h t) : t.given = h.given := by obtain ⟨zs, sfx, _, _, rfl, _⟩ := e; rfl
theorem EH.cnt_eq (e : EH a b c h t) : t.cnt = h.cnt := by obtain ⟨zs, sfx, _, _, rfl, _⟩ := e; rfl
theorem EH.staff_eq (e : EH a b c h t) : t.staff = h.staff := by obtain ⟨zs, sfx, _, _, rfl, _⟩ := e; rfl
theorem EH.clks_eq (e : EH a b c h t) : t.clks = h.clks := by obtain ⟨zs, sfx, _, _, rfl, _⟩ := e; rfl
theorem EH.trans {b' : List PyData} {u : HouseS} (e : EH a b c h t) (f : EH b b' c t u) : EH a b' c h u := by
  obtain ⟨zs, sfx, e1, e2, rfl, e4⟩ := e
  obtain ⟨ys, sfy, f1, f2, rfl, f4⟩ := f
  have es : sfy = sfx := (List.append_cancel_left f2).symm
  subst es
  have f1 : zs.map setTk = ys.map (·.1) := f1
  have hl : zs.length = ys.length := by
    have := congrArg List.length f1
    simpa using this
  refine ⟨(zs.zip ys).map fun p => (p.1.1, p.2.2), sfy, ?_, e2, ?_, fun z hz => ?_⟩
  · rw [e1, List.map_map]
    have : (fun z : RowS × List Int => z.1) ∘ (fun p : (RowS × List Int) × (RowS × List Int) => (p.1.1, p.2.2)) = (fun z : RowS × List Int => z.1) ∘ Prod.fst := rfl
    rw [this, ← List.map_map, List.map_fst_zip (by omega)]
  · have key : ys.map setTk = ((zs.zip ys).map fun p => (p.1.1, p.2.2)).map setTk := by
      rw [List.map_map]
      have e0 : ys.map setTk = ((zs.zip ys).map Prod.snd).map setTk := by rw [List.map_snd_zip (by omega)]
      rw [e0, List.map_map]
      refine List.map_congr_left fun p hp => ?_
      simp only [Function.comp]
      obtain ⟨i, hi, ei⟩ := List.mem_iff_getElem.mp hp
      have hz : i < zs.length := by simp at hi; omega
      have hy : i < ys.length := by omega
      have ep : p = (zs[i], ys[i]) := by rw [← ei]; simp
      have := congrArg (·[i]?) f1
      simp only [List.getElem?_map, List.getElem?_eq_getElem hz, List.getElem?_eq_getElem hy, Option.map_some] at this
      have this := Option.some.inj this
      rw [ep]
      show setTk ys[i] = setTk (zs[i].1, ys[i].2)
      unfold setTk at this ⊢
      rw [← this]
    rw [key]
  · obtain ⟨p, hp, rfl⟩ := List.mem_map.mp hz
    obtain ⟨i, hi, ei⟩ := List.mem_iff_getElem.mp hp
    have hz : i < zs.length := by simp at hi; omega
    have hy : i < ys.length := by omega
    have ep : p = (zs[i], ys[i]) := by rw [← ei]; simp
    have := congrArg (·[i]?) f1
    simp only [List.getElem?_map, List.getElem?_eq_getElem hz, List.getElem?_eq_getElem hy, Option.map_some] at this
    have this := Option.some.inj this
    rw [ep]
    have x := e4 zs[i] (List.getElem_mem hz)
    have y := f4 ys[i] (List.getElem_mem hy)
    show win c zs[i].1.ticks = win c ys[i].2
    rw [x, ← y, ← this]
    rfl
theorem EH.note (e : EH a b c h t) (d : PyData) : EH a b c (h.note d) (t.note d) := by
  obtain ⟨zs, sfx, e1, e2, rfl, e4⟩ := e
  refine ⟨zs, sfx ++ [d], e1, ?_, ?_, e4⟩
  · show h.log ++ [d] = _
    rw [e2, List.append_assoc]
  · unfold HouseS.note
    simp only [List.append_assoc]
theorem EH.jobUp (e : EH a b c h t) (i : Nat) (f : JobS → JobS) : EH a b c (h.jobUp i f) (t.jobUp i f) := by
  obtain ⟨zs, sfx, e1, e2, rfl, e4⟩ := e
  unfold HouseS.jobUp
  show EH a b c (match h.jobs[i]? with | none => h | some j => { h with jobs := h.jobs.set i (f j) }) (match h.jobs[i]? with | none => _ | some j => _)
  cases h.jobs[i]? with
  | none => exact ⟨zs, sfx, e1, e2, rfl, e4⟩
  | some j => exact ⟨zs, sfx, e1, e2, rfl, e4⟩
theorem EH.rowUp (e : EH a b c h t) (k : Str) (f : RowS → RowS) (hf : ∀ (r : RowS) (x : List Int), f { r with ticks := x } = { f r with ticks := x }) (ht : ∀ r, (f r).ticks = r.ticks) : EH a b c (h.rowUp k f) (t.rowUp k f) := by
  obtain ⟨zs, sfx, e1, e2, rfl, e4⟩ := e
  refine ⟨zs.map fun z => (if z.1.kind = k then f z.1 else z.1, z.2), sfx, ?_, e2, ?_, fun z hz => ?_⟩
  · show h.rows.map _ = _
    rw [e1, List.map_map, List.map_map]
    rfl
  · unfold HouseS.rowUp
    simp only [List.map_map]
    congr 1
    refine List.map_congr_left fun z _ => ?_
    simp only [Function.comp]
    show (if z.1.kind = k then f (setTk z) else setTk z) = setTk (if z.1.kind = k then f z.1 else z.1, z.2)
    split
    · exact hf z.1 z.2
    · rfl
  · obtain ⟨y, hy, rfl⟩ := List.mem_map.mp hz
    have := e4 y hy
    show win c (if y.1.kind = k then f y.1 else y.1).ticks = win c y.2
    split
    · rw [ht]
      exact this
    · exact this
theorem EH.cnt (e : EH a b c h t) (L : List LeaseS) : EH a b c { h with cnt := L } { t with cnt := L } := by
  obtain ⟨zs, sfx, e1, e2, rfl, e4⟩ := e
  exact ⟨zs, sfx, e1, e2, rfl, e4⟩
theorem EH.jobs (e : EH a b c h t) (L : List JobS) : EH a b c { h with jobs := L } { t with jobs := L } := by
  obtain ⟨zs, sfx, e1, e2, rfl, e4⟩ := e
  exact ⟨zs, sfx, e1, e2, rfl, e4⟩
theorem EH.staff (e : EH a b c h t) (L : List (Str × List Str)) : EH a b c { h with staff := L } { t with staff := L } := by
  obtain ⟨zs, sfx, e1, e2, rfl, e4⟩ := e
  exact ⟨zs, sfx, e1, e2, rfl, e4⟩
theorem EH.clks (e : EH a b c h t) (L : List ClockS) : EH a b c { h with clks := L } { t with clks := L } := by
  obtain ⟨zs, sfx, e1, e2, rfl, e4⟩ := e
  exact ⟨zs, sfx, e1, e2, rfl, e4⟩
theorem EH.here (e : EH a b c h t) (x : Int) : EH a b c { h with here := x } { t with here := x } := by
  obtain ⟨zs, sfx, e1, e2, rfl, e4⟩ := e
  exact ⟨zs, sfx, e1, e2, rfl, e4⟩
theorem EH.closed (e : EH a b c h t) (l : LeaseS) : EH a b c (h.closed l) (t.closed l) := by
  have ej := e.jobs_eq
  have ec := e.cnt_eq
  unfold HouseS.closed
  rw [ej, ec]
  cases h.jobs[l.work]? with
  | none => exact e
  | some j => exact (e.rowUp j.kind (fun r => { r with cnt := r.cnt - 1 }) (fun _ _ => rfl) fun _ => rfl).cnt (h.cnt.filter fun o => decide (o.num ≠ l.num))
theorem EH.failOne (e : EH a b c h t) (l : LeaseS) : EH a b c (h.failOne l) (t.failOne l) := by
  unfold HouseS.failOne
  rw [e.here_eq, show t.pause = h.pause from by obtain ⟨zs, sfx, _, _, rfl, _⟩ := e; rfl]
  exact (e.closed l).jobUp _ _
theorem EH.goOne (e : EH a b c h t) (l : LeaseS) : EH a b c (h.goOne l) (t.goOne l) := by
  unfold HouseS.goOne
  rw [e.here_eq]
  exact (e.closed l).jobUp _ _
theorem EH.foldl {α : Type} {f : HouseS → α → HouseS} (hf : ∀ {h t : HouseS} (x : α), EH a b c h t → EH a b c (f h x) (f t x)) : ∀ (l : List α) {h t : HouseS}, EH a b c h t → EH a b c (l.foldl f h) (l.foldl f t)
  | [], _, _, e => e
  | x :: l, _, _, e => EH.foldl hf l (hf x e)
theorem EH.strike (e : EH a b c h t) (x : Int) : EH a b c (h.strike x) (t.strike x) := by
  have key : ({ t with jobs := t.jobs ++ (t.clks.filter (dueC x)).map (bornC x t.here), clks := t.clks.map (bumpC x) } : HouseS) = { t with jobs := h.jobs ++ (h.clks.filter (dueC x)).map (bornC x h.here), clks := h.clks.map (bumpC x) } := by
    rw [e.jobs_eq, e.clks_eq, e.here_eq]
  rw [strike_eq, strike_eq, key]
  exact (e.jobs (h.jobs ++ (h.clks.filter (dueC x)).map (bornC x h.here))).clks (h.clks.map (bumpC x))
theorem EH.byNum_eq (e : EH a b c h t) : t.byNum = h.byNum := by
  unfold HouseS.byNum
  rw [e.cnt_eq]
theorem EH.turnTo (e : EH a b c h t) (x : Int) : EH a b c (h.turnTo x) (t.turnTo x) := by
  unfold HouseS.turnTo
  simp only
  have e1 := e.here x
  rw [e1.byNum_eq]
  refine EH.strike (EH.foldl (fun {h t} l e => ?_) _ e1) x
  split
  · exact e.failOne l
  · exact e
theorem EH.row_eq (e : EH a b c h t) (k : Str) : (h.row k = none ∧ t.row k = none) ∨ ∃ r x, h.row k = some r ∧ t.row k = some { r with ticks := x } ∧ win c r.ticks = win c x := by
  obtain ⟨zs, sfx, e1, e2, rfl, e4⟩ := e
  unfold HouseS.row
  rw [e1]
  show _ ∨ ∃ r x, _ ∧ List.find? _ (zs.map setTk) = _ ∧ _
  rw [find_map, find_map]
  have : (fun z : RowS × List Int => decide ((setTk z).kind = k)) = fun z => decide (z.1.kind = k) := rfl
  rw [this]
  cases ef : zs.find? fun z => decide (z.1.kind = k) with
  | none => exact .inl ⟨rfl, rfl⟩
  | some z => exact .inr ⟨z.1, z.2, rfl, rfl, e4 z (List.mem_of_find?_eq_some ef)⟩
theorem EH.trim (e : EH a b c h t) (hc : c ≤ h.here) (k : Str) : EH a b c (h.rowUp k fun r => r.trim h.here) (t.rowUp k fun r => r.trim t.here) := by
  rw [e.here_eq]
  obtain ⟨zs, sfx, e1, e2, rfl, e4⟩ := e
  refine ⟨zs.map fun z => if z.1.kind = k then (z.1.trim h.here, win h.here z.2) else z, sfx, ?_, e2, ?_, fun z hz => ?_⟩
  · show h.rows.map _ = _
    rw [e1, List.map_map, List.map_map]
    refine List.map_congr_left fun z _ => ?_
    simp only [Function.comp]
    split <;> rfl
  · unfold HouseS.rowUp
    simp only [List.map_map]
    congr 1
    refine List.map_congr_left fun z _ => ?_
    simp only [Function.comp]
    show (if z.1.kind = k then (setTk z).trim h.here else setTk z) = setTk (if z.1.kind = k then (z.1.trim h.here, win h.here z.2) else z)
    split <;> rfl
  · obtain ⟨y, hy, rfl⟩ := List.mem_map.mp hz
    have := e4 y hy
    split
    · show win c (win h.here y.1.ticks) = win c (win h.here y.2)
      rw [win_eq hc this]
    · exact this
theorem EH.lately (e : EH a b c h t) (hc : c ≤ h.here) (k : Str) : (t.lately k).1 = (h.lately k).1 ∧ EH a b c (h.lately k).2 (t.lately k).2 := by
  have et := e.trim hc k
  unfold HouseS.lately
  rcases e.row_eq k with ⟨e1, e2⟩ | ⟨r, x, e1, e2, e3⟩
  · rw [e1, e2]
    exact ⟨rfl, e⟩
  · rw [e1, e2]
    refine ⟨?_, et⟩
    rw [e.here_eq]
    show ((win h.here x).length : Int) = ((win h.here r.ticks).length : Int)
    rw [win_eq hc e3]
theorem EH.hind (e : EH a b c h t) (hc : c ≤ h.here) (x : Str) (j : JobS) : (t.hindrance x j).1 = (h.hindrance x j).1 ∧ EH a b c (h.hindrance x j).2 (t.hindrance x j).2 := by
  obtain ⟨l1, l2⟩ := e.lately hc j.kind
  have k1 : t.kindsOf x = h.kindsOf x := by unfold HouseS.kindsOf; rw [e.staff_eq]
  have k2 : t.handsOf x = h.handsOf x := by unfold HouseS.handsOf; rw [e.cnt_eq]
  have k3 : t.hands = h.hands := by obtain ⟨zs, sfx, _, _, rfl, _⟩ := e; rfl
  unfold HouseS.hindrance
  rcases e.row_eq j.kind with ⟨e1, e2⟩ | ⟨r, y, e1, e2, e3⟩
  · rw [e1, e2]
    exact ⟨rfl, e⟩
  · rw [e1, e2]
    simp only [k1, k2, k3, l1]
    by_cases z1 : j.kind ∈ h.kindsOf x
    · by_cases z2 : r.cnt < r.most
      · by_cases z3 : (h.lately j.kind).1 < r.rate
        · constructor
          · simp only [z1, z2, z3, not_true_eq_false, if_false]
          · simp only [z1, z2, z3, not_true_eq_false, if_false]
            exact l2
        · constructor
          · simp only [z1, z2, z3, not_true_eq_false, not_false_eq_true, if_false, if_true]
          · simp only [z1, z2, z3, not_true_eq_false, not_false_eq_true, if_false, if_true]
            exact l2
      · constructor
        · simp only [z1, z2, not_true_eq_false, not_false_eq_true, if_false, if_true]
        · simp only [z1, z2, not_true_eq_false, not_false_eq_true, if_false, if_true]
          exact e
    · constructor
      · simp only [z1, not_false_eq_true, if_true]
      · simp only [z1, not_false_eq_true, if_true]
        exact e
theorem EH.order_eq (e : EH a b c h t) : t.order = h.order := by obtain ⟨zs, sfx, _, _, rfl, _⟩ := e; rfl
theorem EH.takeOne (e : EH a b c h t) (x : Str) (i : Nat) {j : JobS} (ej : h.jobs[i]? = some j) : EH a b c (h.takeOne x i j) (t.takeOne x i j) := by
  have ej' : t.jobs[i]? = some j := by rw [e.jobs_eq]; exact ej
  rw [takeOne_eq ej, takeOne_eq ej']
  obtain ⟨zs, sfx, e1, e2, rfl, e4⟩ := e
  refine ⟨zs.map fun z => if z.1.kind = j.kind then ({ z.1 with cnt := z.1.cnt + 1, ticks := z.1.ticks ++ [h.here] }, z.2 ++ [h.here]) else z, sfx ++ [.tuple [S' "take", .str x, N' i, N' j.fin, N' h.given]], ?_, ?_, ?_, fun z hz => ?_⟩
  · show h.rows.map _ = _
    rw [e1, List.map_map, List.map_map]
    refine List.map_congr_left fun z _ => ?_
    simp only [Function.comp]
    split <;> rfl
  · show h.log ++ [_] = _
    rw [e2, List.append_assoc]
  · unfold HouseS.rowUp
    simp only [List.map_map, List.append_assoc]
    congr 1
    refine List.map_congr_left fun z _ => ?_
    simp only [Function.comp]
    show (if z.1.kind = j.kind then ({ setTk z with cnt := z.1.cnt + 1, ticks := z.2 ++ [h.here] } : RowS) else setTk z) = setTk (if z.1.kind = j.kind then _ else z)
    split <;> rfl
  · obtain ⟨y, hy, rfl⟩ := List.mem_map.mp hz
    have := e4 y hy
    split
    · show win c (y.1.ticks ++ [h.here]) = win c (y.2 ++ [h.here])
      rw [win_app, win_app, this]
    · exact this
/-! questions -/
end
end LH
end

section
set_option Elab.async false
set_option linter.all false
set_option maxRecDepth 100000
set_option maxHeartbeats 4000000
/-! what deeds note; what counts -/
namespace LH
open PySem PySem.Spec PyProof.Rows L2
/-! alike houses -/
section
variable {a b : List PyData} {c : Int} {h t : HouseS}
theorem EH.symm (e : EH a b c h t) : EH b a c t h := by
  obtain ⟨zs, sfx, e1, e2, rfl, e4⟩ := e
  refine ⟨zs.map fun z => (setTk z, z.1.ticks), sfx, ?_, rfl, ?_, fun z hz => ?_⟩
  · show zs.map setTk = _
    rw [List.map_map]
    rfl
  · rw [← e2, List.map_map]
    have : (setTk ∘ fun z : RowS × List Int => (setTk z, z.1.ticks)) = fun z => z.1 := by
      funext z
      rfl
    rw [this, ← e1]
  · obtain ⟨y, hy, rfl⟩ := List.mem_map.mp hz
    exact (e4 y hy).symm
end
end LH
end

section
set_option Elab.async false
set_option linter.all false
set_option maxRecDepth 100000
set_option maxHeartbeats 4000000
set_option pp.maxSteps 1500
/-! k08: notes, further -/
namespace LH
open PySem PySem.Spec PyProof.Rows L2
section
variable {ks0 : List Str} {h0 h h' : HouseS} {gs : List Deed} {d : Deed}
end
theorem lay_tup {ds : List PyData} (h : PyData.canLayAll0 ds = true) : PyData.canLay0 (.tuple ds) = true := by
  unfold PyData.canLay0
  exact h
theorem lay_cons {d : PyData} {ds : List PyData} (h1 : PyData.canLay0 d = true) (h2 : PyData.canLayAll0 ds = true) : PyData.canLayAll0 (d :: ds) = true := by
  unfold PyData.canLayAll0
  rw [h1, h2]
  rfl
end LH
end

section
set_option Elab.async false
set_option linter.all false
set_option maxRecDepth 100000
set_option maxHeartbeats 4000000
set_option pp.maxSteps 1500
/-! deed_of -/
namespace LH
open PySem PySem.Spec PyProof.Rows L2 StX LamX NumText
variable {P : Program} {w : World} {K : PySem.W.Frag} {mg : Str → Option Value} {base : Heap}
theorem Room65 {k : Nat} {A : Around} (hr : Room k A) : A.units + 65 < cLine := by have := hr.un; omega
theorem lay_num (x : Str) : PyData.canLay0 (numD x) = true ∧ (numD x).depth ≤ 1 := by
  unfold numD
  split <;> exact ⟨rfl, by simp [PyData.depth]⟩
theorem lay_nam (x : Str) : PyData.canLay0 (namD x) = true ∧ (namD x).depth ≤ 1 := by
  unfold namD
  split
  · rename_i h
    exact ⟨name_strOk h, by simp [PyData.depth]⟩
  · exact ⟨rfl, by simp [PyData.depth]⟩
theorem lay_map {f : Str → PyData} (h : ∀ x, PyData.canLay0 (f x) = true ∧ (f x).depth ≤ 1) : ∀ ws : List Str, PyData.canLayAll0 (ws.map f) = true ∧ PyData.depthAll (ws.map f) ≤ 1
  | [] => ⟨rfl, by simp [PyData.depthAll]⟩
  | w :: ws => by
    obtain ⟨a, b⟩ := lay_map h ws
    obtain ⟨c, d⟩ := h w
    refine ⟨lay_cons c a, ?_⟩
    simp only [List.map_cons, PyData.depthAll]
    omega
theorem lay_part (form x : Str) : PyData.canLay0 (partD form x) = true ∧ (partD form x).depth ≤ 2 := by
  unfold partD
  split
  · have := lay_num x
    exact ⟨this.1, by omega⟩
  · split
    · have := lay_nam x
      exact ⟨this.1, by omega⟩
    · split
      · exact ⟨rfl, by simp [PyData.depth, PyData.depthAll]⟩
      · have h : ∀ y, PyData.canLay0 ((if form = Str.ofString "j" then numD else namD) y) = true ∧ ((if form = Str.ofString "j" then numD else namD) y).depth ≤ 1 := fun y => by
          split
          · exact lay_num y
          · exact lay_nam y
        generalize (if form = Str.ofString "j" then numD else namD) = f at h ⊢
        obtain ⟨a, b⟩ := lay_map h (Txt.split x (Str.ofString ","))
        unfold partsD
        split
        · exact ⟨rfl, by simp [PyData.depth]⟩
        · refine ⟨lay_tup a, ?_⟩
          simp only [PyData.depth]
          omega
theorem lay_all {ds : List PyData} {n : Nat} (h : ∀ d ∈ ds, PyData.canLay0 d = true ∧ d.depth ≤ n) : PyData.canLayAll0 ds = true ∧ PyData.depthAll ds ≤ n := by
  induction ds with
  | nil => exact ⟨rfl, by simp [PyData.depthAll]⟩
  | cons d ds ih =>
    obtain ⟨a, b⟩ := ih fun e he => h e (List.mem_cons_of_mem _ he)
    obtain ⟨c, e⟩ := h d List.mem_cons_self
    refine ⟨lay_cons c a, ?_⟩
    simp only [PyData.depthAll]
    omega
theorem parts_shaped (fs : Str) (ws : List Str) : SeqAt.shaped (.list (partsOf fs ws)) = true := by
  obtain ⟨a, b⟩ := lay_all (ds := partsOf fs ws) (n := 2) fun d hd => by
    unfold partsOf at hd
    obtain ⟨q, _, rfl⟩ := List.mem_map.mp hd
    exact lay_part _ _
  unfold SeqAt.shaped
  have h2 : PyData.canLay0 (.list (partsOf fs ws)) = true := by unfold PyData.canLay0; exact a
  rw [h2, Bool.true_and, decide_eq_true_eq]
  simp only [PyData.depth]
  omega
theorem eqv_no (d : PyData) : PyData.eqv d .none = isNo d := by cases d <;> simp [PyData.eqv, isNo]
theorem deed_eq (w : Str) (ws : List Str) : deedD (w :: ws) = if formOf w = Str.empty ∨ ws.length ≠ (formOf w).length then .none else if (partsOf (formOf w) ws).any isNo = true then .none else .tuple (.str w :: partsOf (formOf w) ws) := rfl
@[irreducible] def sp_deed_of (K : PySem.W.Frag) : Sp := fun vs H Q E => ∃ (p : Addr) (w : Str) (ws : List Str), vs = [.ref p] ∧ H p = some (.lst ((w :: ws).map V.str)) ∧ (∀ x ∈ w :: ws, x.length + 2 ≤ sizeLine) ∧ ∀ H' v, Same H H' → Dt K H' v (deedD (w :: ws)) → Q v H'
theorem sc_deed_of : FnScope ["words", "forms", "parts", "form", "word"] ["words"] (defScope s_deed_of) := ⟨rfl, rfl, rfl, by decide +kernel, rfl, by decide +kernel, by decide +kernel⟩
theorem Tp.ok_deed_of (T : Tp P w K mg base) : FnR P w K mg base (L2.CX P w) (6 + 1) (He.ga K "deed_of") (sp_deed_of K) := by
  refine fnr (N := ["words", "forms", "parts", "form", "word"]) (ps := ["words"]) (k := 6) T.fd_deed_of sc_deed_of (fun _ _ _ _ _ _ us hl => match us, hl with | [_], _ => rfl) (fun vs H Q E h => ?_) fun cdv A outer s H vs Q E hr h => ?_
  · unfold sp_deed_of at h
    obtain ⟨_, _, _, rfl, _⟩ := h
    rfl
  unfold sp_deed_of at h
  obtain ⟨p, w0, ws, rfl, ep, hw, q⟩ := h
  refine ⟨_, (pss_cons (ps_set (i := 1) sc_deed_of.nd rfl (by first | exact .inl rfl | exact .inr rfl) (pe_kget2 (T.kd_FORMS) (pe_gr rfl T.g_FORMS) (pe_ix ix_list (pv 0) pe_int (fun _ _ => rfl)) pe_str ⟨rfl, rfl, rfl, rfl⟩))
      (pss_cons (ps_if (PW.pt (pw_or (pt_cmpR op_eq (pv 1) pe_str (nomark _)) (pw_or1 (pt_cmpR op_ne (pe_callB call_len_seq rfl T.f_len bt_len (pa_cons (pv 0) pa_nil)) (pe_op op_add pe_int (pe_callB call_len_str rfl T.f_len bt_len (pa_cons (pv 1) pa_nil))) (nomark _))))) (pss_one (ps_ret pe_non)) pss_nil)
      (pss_cons (ps_setLc (i := 2) (own := [("form", 3), ("word", 4)]) rfl sc_deed_of.nd rfl rfl rfl (pi_zipS rfl T.f_zip (pa_cons (pv 1) (pa_cons (pe_slice sl_list (pv 0) (po_some pe_int) po_none) pa_nil))) (blkOk_by (own := [("form", 3), ("word", 4)]) (N := ["words", "forms", "parts", "form", "word"]) (sc := defScope s_deed_of) (by decide +kernel)) (fun _ _ _ _ _ => (pg_tupK K rfl 2 rfl (pgs_cons (pg_name (i := 3) sc_deed_of.nd rfl (by first | exact .inl rfl | exact .inr rfl)) (pgs_cons (pg_name (i := 4) sc_deed_of.nd rfl (by first | exact .inl rfl | exact .inr rfl)) pgs_nil)))) (fun _ _ _ _ _ => pts_nil) (fun _ _ _ _ _ => (pe_tag (pe_callP T.ok_part_of (rm hr) (kp_of T.fd_part_of) rfl T.g_part_of passL (pa_cons (pv 3) (pa_cons (pv 4) pa_nil))))))
      (pss_one (ps_ret (pe_ifExp (pt_cmpR (op_inD (Room65 hr)) pe_non (pv 2) (by rfl)) pe_non (pe_callTy call_tuple_of rfl T.f_tuple bt_tuple (pa_cons (pe_op op_cat (pe_lst (pa_cons (pe_ix ix_list (pv 0) pe_int (fun _ _ => rfl)) pa_nil)) (pv 2)) pa_nil)))))))), ?_⟩
  obtain ⟨r, h1, h2, h3⟩ := T.form_get (k := w0) (z := .str Str.empty) rfl
  refine ⟨rfl, _, rfl, p, _, 0, _, rfl, rfl, SqL.of ep, at0, w0, r, .str (formOf w0), rfl, h1, h2, h3, ?_⟩
  refine gnI ⟨_, rfl, rfl, _, rfl, ?_⟩
  generalize ef : formOf w0 = f
  have q0 : (f = Str.empty ∨ ws.length ≠ f.length) → Q .non H := fun h => q H _ Same.rfl' (by
    rw [deed_eq, ef, if_pos h]
    exact .non)
  have lw : (((w0 :: ws).map V.str).length : Nat) = ws.length + 1 := by simp
  have e00 : Str.empty = Str.ofString "" := by decide +kernel
  by_cases f0 : f = Str.ofString ""
  · refine dT (by rw [f0]) ?_
    exact q0 (.inl (by rw [f0, e00]))
  refine dF (fun z => f0 (V.str.inj z)) ?_
  have fl6 : f.length ≤ 6 := by
    by_cases z : (w0, f) ∈ formsL
    · unfold formsL at z
      simp only [List.mem_cons, List.not_mem_nil, or_false, Prod.mk.injEq] at z
      rcases z with ⟨_, rfl⟩ | ⟨_, rfl⟩ | ⟨_, rfl⟩ | ⟨_, rfl⟩ | ⟨_, rfl⟩ | ⟨_, rfl⟩ | ⟨_, rfl⟩ | ⟨_, rfl⟩ | ⟨_, rfl⟩ | ⟨_, rfl⟩ | ⟨_, rfl⟩ | ⟨_, rfl⟩ | ⟨_, rfl⟩ <;> exact (by decide +kernel)
    · exfalso
      unfold formOf at ef
      cases eq : formsL.find? fun q => decide (q.1 = w0) with
      | none =>
        rw [eq] at ef
        exact f0 (by rw [← ef, e00])
      | some q =>
        rw [eq] at ef
        have m1 := List.mem_of_find?_eq_some eq
        have m2 : q.1 = w0 := by simpa using List.find?_some eq
        exact z (by rw [← m2, ← ef]; exact m1)
  have fl : f.length ≤ sizeLine := Nat.le_trans fl6 (by decide)
  refine ⟨_, rfl, p, _, rfl, .inl (SqL.of ep), _, rfl, f, rfl, fl, _, _, rfl, rfl, rfl, _, rfl, ?_⟩
  rw [lw]
  by_cases hl : ws.length = f.length
  · refine nF (by rw [hl]; exact congrArg V.int (by push_cast; omega)) ?_
    have hn : ¬ (f = Str.empty ∨ ws.length ≠ f.length) := fun h => by
      rcases h with h | h
      · exact f0 (by rw [h, e00])
      · exact h hl
    rw [deed_eq, ef, if_neg hn] at q
    have hc : f.cps.toList.length = ws.length := by rw [hl]; exact Array.length_toList
    have ec : cutV ((w0 :: ws).map V.str) (some 1) none = ws.map V.str := by
      unfold cutV
      rw [show (some (1 : Int)) = some ((1 : Nat) : Int) from rfl, HT.sIx_nat, HT.sIx_none, lw, show min 1 (ws.length + 1) = 1 from by omega, List.map_cons, List.drop_succ_cons, List.drop_zero]
      exact List.take_of_length_le (by simp)
    refine ⟨_, rfl, _, rfl, _, rfl, p, _, rfl, SqL.of ep, fun p1 hp1 => ?_⟩
    rw [ec]
    have s1 := same_new (o := .lst (ws.map V.str)) hp1
    have e1 : L2.upd H p1 (.lst (ws.map V.str)) p1 = some (.lst (ws.map V.str)) := upd_same
    generalize L2.upd H p1 (.lst (ws.map V.str)) = H1 at s1 e1 ⊢
    have lz : (f.cps.toList.zip ws).length = ws.length := by rw [List.length_zip, hc]; omega
    have big : 100 < sizeLine := by decide
    have hws : ws.length ≤ 100 := by omega
    refine ⟨f, p1, ws.map V.str, rfl, SqL.of e1, lcD (K := K) (walk_zipS (x := f) (b := p1) (ys := ws.map V.str) (n := ws.length) hl.symm (by simp)) (f.cps.toList.zip ws) (fun q => some (partD ⟨#[q.1]⟩ q.2)) lz (by omega) (fun H' s => sqL_same (SqL.of e1) s) ?_ ?_⟩
    · rintro i ⟨c, wd⟩ v H2 H3 R R0 ew s ⟨T2, xx, yy, rfl, hT, rfl, ex, ey⟩ k1 k2
      obtain ⟨ec1, ew1⟩ : f.cps.toList[i]? = some c ∧ ws[i]? = some wd := by
        have := List.getElem?_zip_eq_some.mp ew
        exact this
      have ex : Option.map (fun c => V.str ⟨#[c]⟩) f.cps[i]? = some xx := ex
      have ey : (ws.map V.str)[i]? = some yy := ey
      rw [← Array.getElem?_toList, ec1] at ex
      rw [List.getElem?_map, ew1] at ey
      obtain rfl := Option.some.inj ex
      obtain rfl := Option.some.inj ey
      have hwd := hw wd (List.mem_cons_of_mem _ (List.mem_of_getElem? ew1))
      refine ⟨T2, _, rfl, SqT.of upd_same, rfl, _, _, rfl, _, _, rfl, rfl, ?_⟩
      exact ⟨rfl, _, rfl, _, rfl, part_ok hwd fun H4 v4 s4 d4 => k1 _ _ _ rfl (Same.trans' (same_new hT) s4) d4⟩
    · intro D H2 zs hD s2 eD dz
      rw [List.filterMap_eq_map'] at dz
      have dz : Dts K H2 zs (partsOf f ws) := dz
      have sh := parts_shaped f ws
      have an : ((partsOf f ws).any fun z => PyData.eqv z .none) = (partsOf f ws).any isNo := by
        congr 1
        funext d
        exact eqv_no d
      have s12 := Same.trans' s1 s2
      refine ⟨_, rfl, .none, partsOf f ws, .non, .lst (SqL.of eD) dz.dp, by decide +kernel, sh, _, rfl, ?_⟩
      rw [an]
      cases ha : (partsOf f ws).any isNo with
      | true =>
        rw [if_pos ha] at q
        exact iteT (q H2 _ s12 .non)
      | false =>
        rw [if_neg (by rw [ha]; simp)] at q
        have lzs := Dts.len dz
        have lp : (partsOf f ws).length = ws.length := by unfold partsOf; rw [List.length_map, lz]
        refine iteF ⟨_, rfl, p, _, 0, _, rfl, rfl, SqL.of (s12 _ _ ep), at0, by show 1 ≤ sizeLine; decide, fun L hL => ?_⟩
        refine ⟨_, rfl, L, D, _, zs, rfl, rfl, upd_same, same_new hL _ _ eD, by rw [lzs, lp]; show 1 + _ ≤ _; omega, fun p3 hp3 => ?_⟩
        refine ⟨p3, _, rfl, .inl ⟨SqL.of upd_same, fun t ht => ?_⟩⟩
        have s3 := Same.trans' (same_new (o := .lst [V.str w0]) hL) (Same.trans' (same_new (o := .lst ([V.str w0] ++ zs)) hp3) (same_new (o := .tup ([V.str w0] ++ zs)) ht))
        exact q _ _ (Same.trans' s12 s3) (.tup (SqT.of upd_same) (.cons (.str _) (dz.keep (KeepT.same s3))))
  · refine nT (fun z => hl (by have := V.int.inj z; omega)) ?_
    exact q0 (.inr hl)
end LH
end

section
set_option Elab.async false
set_option linter.all false
set_option maxRecDepth 100000
set_option maxHeartbeats 4000000
/-! k16: data with new lists -/
namespace LH
open PySem PySem.Spec PyProof.Rows L2 StX LamX
variable {K : PySem.W.Frag}
theorem pi_or {X : Cx} {tg l : Expr} {w1 w2 : TI} (h1 : PI X tg l w1) (h2 : PI X tg l w2) : PI X tg l (fun σ H R => w1 σ H R ∨ w2 σ H R) := ⟨fun pins s σ H R I h => by
  rcases h with h | h
  · exact h1.run pins s σ H R I h
  · exact h2.run pins s σ H R I h⟩
mutual
/-- data, its lists new since H0 -/
inductive DpN (K : PySem.W.Frag) (H0 H : Hp) : V → PyData → Prop
  | non : DpN K H0 H .non .none
  | bl (b : Bool) : DpN K H0 H (.bl b) (.bool b)
  | int (i : Int) : DpN K H0 H (.int i) (.int i)
  | str (x : Str) : DpN K H0 H (.str x) (.str x)
  | tup {a : Addr} {xs : List V} {ds : List PyData} : SqT K H a xs → DpNs K H0 H xs ds → DpN K H0 H (.ref a) (.tuple ds)
  | lst {a : Addr} {xs : List V} {ds : List PyData} : H0 a = none → H a = some (.lst xs) → DpNs K H0 H xs ds → DpN K H0 H (.ref a) (.list ds)
inductive DpNs (K : PySem.W.Frag) (H0 H : Hp) : List V → List PyData → Prop
  | nil : DpNs K H0 H [] []
  | cons {v : V} {vs : List V} {d : PyData} {ds : List PyData} : DpN K H0 H v d → DpNs K H0 H vs ds → DpNs K H0 H (v :: vs) (d :: ds)
end
mutual
theorem DpN.same {H0 H H' : Hp} (s : Same H H') : ∀ {v : V} {d : PyData}, DpN K H0 H v d → DpN K H0 H' v d
  | _, _, .non => .non
  | _, _, .bl b => .bl b
  | _, _, .int i => .int i
  | _, _, .str x => .str x
  | _, _, .tup h hs => .tup (KeepT.same s _ _ h) (DpNs.same s hs)
  | _, _, .lst h0 h hs => .lst h0 (s _ _ h) (DpNs.same s hs)
theorem DpNs.same {H0 H H' : Hp} (s : Same H H') : ∀ {vs : List V} {ds : List PyData}, DpNs K H0 H vs ds → DpNs K H0 H' vs ds
  | _, _, .nil => .nil
  | _, _, .cons a b => .cons (DpN.same s a) (DpNs.same s b)
end
mutual
theorem DpN.since {H0 H1 H : Hp} (s : ∀ a, H1 a = none → H0 a = none) : ∀ {v : V} {d : PyData}, DpN K H1 H v d → DpN K H0 H v d
  | _, _, .non => .non
  | _, _, .bl b => .bl b
  | _, _, .int i => .int i
  | _, _, .str x => .str x
  | _, _, .tup h hs => .tup h (DpNs.since s hs)
  | _, _, .lst h0 h hs => .lst (s _ h0) h (DpNs.since s hs)
theorem DpNs.since {H0 H1 H : Hp} (s : ∀ a, H1 a = none → H0 a = none) : ∀ {vs : List V} {ds : List PyData}, DpNs K H1 H vs ds → DpNs K H0 H vs ds
  | _, _, .nil => .nil
  | _, _, .cons a b => .cons (DpN.since s a) (DpNs.since s b)
end
mutual
theorem DpN.put {H1 H : Hp} {D : Addr} {o1 : HO} {acc zs : List V} (e1 : H1 D = some o1) (e : H D = some (.lst acc)) : ∀ {v : V} {d : PyData}, DpN K H1 H v d → DpN K H1 (upd H D (.lst zs)) v d
  | _, _, .non => .non
  | _, _, .bl b => .bl b
  | _, _, .int i => .int i
  | _, _, .str x => .str x
  | _, _, .tup h hs => .tup (KeepT.upd e trivial _ _ h) (DpNs.put e1 e hs)
  | _, _, .lst h0 h hs => .lst h0 (by rw [upd_ne (fun z => by rw [z, e1] at h0; cases h0)]; exact h) (DpNs.put e1 e hs)
theorem DpNs.put {H1 H : Hp} {D : Addr} {o1 : HO} {acc zs : List V} (e1 : H1 D = some o1) (e : H D = some (.lst acc)) : ∀ {vs : List V} {ds : List PyData}, DpNs K H1 H vs ds → DpNs K H1 (upd H D (.lst zs)) vs ds
  | _, _, .nil => .nil
  | _, _, .cons a b => .cons (DpN.put e1 e a) (DpNs.put e1 e b)
end
theorem DpNs.snoc {H0 H : Hp} : ∀ {vs : List V} {ds : List PyData} {v : V} {d : PyData}, DpNs K H0 H vs ds → DpN K H0 H v d → DpNs K H0 H (vs ++ [v]) (ds ++ [d])
  | _, _, _, _, .nil, h => .cons h .nil
  | _, _, _, _, .cons a b, h => .cons a (DpNs.snoc b h)
theorem DpNs.len {H0 H : Hp} : ∀ {vs : List V} {ds : List PyData}, DpNs K H0 H vs ds → vs.length = ds.length
  | _, _, .nil => rfl
  | _, _, .cons _ b => by rw [List.length_cons, List.length_cons, DpNs.len b]
end LH
end

section
set_option Elab.async false
set_option linter.all false
set_option maxRecDepth 100000
set_option maxHeartbeats 4000000
/-! what was told stands, whatever the house does -/
namespace LH
open PySem PySem.Spec PyProof.Rows L2 StX LamX
variable {K : PySem.W.Frag}
section
variable {H0 H H' : Hp} {p t : Addr} {h : HouseS} {n m : Nat} {F : Cells} {Q : VK} {E : XK} {o : HO}
/-- told data: a flat thing, or a list that stands in B -/
def El (K : PySem.W.Frag) (B H : Hp) (z : V) (d : PyData) : Prop := Dt K H z d ∨ ∃ (a : Addr) (ys : List V) (es : List PyData), z = .ref a ∧ B a = some (.lst ys) ∧ d = .list es ∧ Dts K H ys es
inductive Els (K : PySem.W.Frag) (B H : Hp) : List V → List PyData → Prop
  | nil : Els K B H [] []
  | cons {z : V} {zs : List V} {d : PyData} {ds : List PyData} : El K B H z d → Els K B H zs ds → Els K B H (z :: zs) (d :: ds)
def LAt (K : PySem.W.Frag) (B H : Hp) (v : V) (ds : List PyData) : Prop := ∃ (D : Addr) (zs : List V), v = .ref D ∧ B D = some (.lst zs) ∧ Els K B H zs ds
variable {B B' : Hp}
theorem El.keep (b : ExtN B B') (k : KeepT K H H') {z : V} {d : PyData} : El K B H z d → El K B' H' z d
  | .inl x => .inl (x.keep k)
  | .inr ⟨a, ys, es, h1, h2, h3, h4⟩ => .inr ⟨a, ys, es, h1, b _ _ h2 (fun _ z => nomatch z), h3, h4.keep k⟩
theorem Els.keep (b : ExtN B B') (k : KeepT K H H') : ∀ {zs : List V} {ds : List PyData}, Els K B H zs ds → Els K B' H' zs ds
  | _, _, .nil => .nil
  | _, _, .cons x y => .cons (x.keep b k) (y.keep b k)
theorem Els.len : ∀ {zs : List V} {ds : List PyData}, Els K B H zs ds → zs.length = ds.length
  | _, _, .nil => rfl
  | _, _, .cons _ y => congrArg (· + 1) y.len
theorem El.dp (b : ∀ c o, B c = some o → (∀ ps, o ≠ .tbl ps) → H c = some o) {z : V} {d : PyData} : El K B H z d → Dp K H z d
  | .inl x => x.dp
  | .inr ⟨a, ys, es, h1, h2, h3, h4⟩ => by
    rw [h1, h3]
    exact .lst (SqL.of (b _ _ h2 fun _ z => nomatch z)) h4.dp
theorem Els.dp (b : ∀ c o, B c = some o → (∀ ps, o ≠ .tbl ps) → H c = some o) : ∀ {zs : List V} {ds : List PyData}, Els K B H zs ds → DpAll K H zs ds
  | _, _, .nil => .nil
  | _, _, .cons x y => .cons (x.dp b) (y.dp b)
theorem LAt.keep (b : ExtN B B') (k : KeepT K H H') {v : V} {ds : List PyData} : LAt K B H v ds → LAt K B' H' v ds
  | ⟨D, zs, h1, h2, h3⟩ => ⟨D, zs, h1, b _ _ h2 (fun _ z => nomatch z), h3.keep b k⟩
theorem LAt.dp (b : ExtN B H) {v : V} {ds : List PyData} : LAt K B H v ds → Dp K H v (.list ds)
  | ⟨D, zs, h1, h2, h3⟩ => by
    rw [h1]
    exact .lst (SqL.of (b _ _ h2 fun _ z => nomatch z)) (h3.dp b)
end
/-! ### what all is told -/
end LH
end

section
set_option Elab.async false
set_option linter.all false
set_option maxRecDepth 100000
set_option maxHeartbeats 4000000
set_option pp.maxSteps 1500
namespace LH
open PySem PySem.Spec PyProof.Rows L2 StX LamX
variable {P : Program} {w : World} {K : PySem.W.Frag} {mg : Str → Option Value} {base : Heap}
/-- needs, as the law has them -/
structure NeedsAt (K : PySem.W.Frag) (H : Hp) (nl : Addr) (W : List (Addr × List Nat)) (h : HouseS) : Prop where
  at_ : H nl = some (.lst (refs (·.1) W))
  rows : ∀ q ∈ W, SqT K H q.1 (vnats q.2)
  eq : W.map (·.2) = h.jobs.map (·.needs)
theorem NeedsAt.same {H H' : Hp} {nl : Addr} {W : List (Addr × List Nat)} {h : HouseS} (n : NeedsAt K H nl W h) (s : Same H H') : NeedsAt K H' nl W h := ⟨s _ _ n.at_, fun q hq => KeepT.same s _ _ (n.rows q hq), n.eq⟩
theorem NeedsAt.len {H : Hp} {nl : Addr} {W : List (Addr × List Nat)} {h : HouseS} (n : NeedsAt K H nl W h) : W.length = h.jobs.length := by
  have := congrArg List.length n.eq
  simpa using this
end LH
end

section
set_option Elab.async false
set_option linter.all false
set_option maxRecDepth 100000
set_option maxHeartbeats 4000000
/-! data whose lists lie in a set; cells of them; the base grows by all that is new -/
namespace LH
open PySem PySem.Spec PyProof.Rows L2 StX LamX
variable {K : PySem.W.Frag}
mutual
inductive DpC (K : PySem.W.Frag) (S : Addr → Prop) (H : Hp) : V → PyData → Prop
  | non : DpC K S H .non .none
  | bl (b : Bool) : DpC K S H (.bl b) (.bool b)
  | int (i : Int) : DpC K S H (.int i) (.int i)
  | str (x : Str) : DpC K S H (.str x) (.str x)
  | tup {a : Addr} {xs : List V} {ds : List PyData} : SqT K H a xs → DpCs K S H xs ds → DpC K S H (.ref a) (.tuple ds)
  | lst {a : Addr} {xs : List V} {ds : List PyData} : S a → H a = some (.lst xs) → DpCs K S H xs ds → DpC K S H (.ref a) (.list ds)
inductive DpCs (K : PySem.W.Frag) (S : Addr → Prop) (H : Hp) : List V → List PyData → Prop
  | nil : DpCs K S H [] []
  | cons {v : V} {vs : List V} {d : PyData} {ds : List PyData} : DpC K S H v d → DpCs K S H vs ds → DpCs K S H (v :: vs) (d :: ds)
end
mutual
theorem DpC.mono {S S' : Addr → Prop} {H : Hp} (s : ∀ a, S a → S' a) : ∀ {v : V} {d : PyData}, DpC K S H v d → DpC K S' H v d
  | _, _, .non => .non
  | _, _, .bl b => .bl b
  | _, _, .int i => .int i
  | _, _, .str x => .str x
  | _, _, .tup h hs => .tup h (DpCs.mono s hs)
  | _, _, .lst m h hs => .lst (s _ m) h (DpCs.mono s hs)
theorem DpCs.mono {S S' : Addr → Prop} {H : Hp} (s : ∀ a, S a → S' a) : ∀ {vs : List V} {ds : List PyData}, DpCs K S H vs ds → DpCs K S' H vs ds
  | _, _, .nil => .nil
  | _, _, .cons a b => .cons (DpC.mono s a) (DpCs.mono s b)
end
mutual
theorem DpC.to {S : Addr → Prop} {H H' : Hp} (k : KeepT K H H') (s : ∀ a xs, S a → H a = some (.lst xs) → H' a = some (.lst xs)) : ∀ {v : V} {d : PyData}, DpC K S H v d → DpC K S H' v d
  | _, _, .non => .non
  | _, _, .bl b => .bl b
  | _, _, .int i => .int i
  | _, _, .str x => .str x
  | _, _, .tup h hs => .tup (k _ _ h) (DpCs.to k s hs)
  | _, _, .lst m h hs => .lst m (s _ _ m h) (DpCs.to k s hs)
theorem DpCs.to {S : Addr → Prop} {H H' : Hp} (k : KeepT K H H') (s : ∀ a xs, S a → H a = some (.lst xs) → H' a = some (.lst xs)) : ∀ {vs : List V} {ds : List PyData}, DpCs K S H vs ds → DpCs K S H' vs ds
  | _, _, .nil => .nil
  | _, _, .cons a b => .cons (DpC.to k s a) (DpCs.to k s b)
end
mutual
theorem DpC.dp {S : Addr → Prop} {H : Hp} : ∀ {v : V} {d : PyData}, DpC K S H v d → Dp K H v d
  | _, _, .non => .non
  | _, _, .bl b => .bl b
  | _, _, .int i => .int i
  | _, _, .str x => .str x
  | _, _, .tup h hs => .tup h (DpCs.dp hs)
  | _, _, .lst m h hs => .lst (SqL.of h) (DpCs.dp hs)
theorem DpCs.dp {S : Addr → Prop} {H : Hp} : ∀ {vs : List V} {ds : List PyData}, DpCs K S H vs ds → DpAll K H vs ds
  | _, _, .nil => .nil
  | _, _, .cons a b => .cons (DpC.dp a) (DpCs.dp b)
end
mutual
theorem DpN.to {S : Addr → Prop} {H0 H : Hp} (s : ∀ a xs, H0 a = none → H a = some (.lst xs) → S a) : ∀ {v : V} {d : PyData}, DpN K H0 H v d → DpC K S H v d
  | _, _, .non => .non
  | _, _, .bl b => .bl b
  | _, _, .int i => .int i
  | _, _, .str x => .str x
  | _, _, .tup h hs => .tup h (DpNs.to s hs)
  | _, _, .lst m h hs => .lst (s _ _ m h) h (DpNs.to s hs)
theorem DpNs.to {S : Addr → Prop} {H0 H : Hp} (s : ∀ a xs, H0 a = none → H a = some (.lst xs) → S a) : ∀ {vs : List V} {ds : List PyData}, DpNs K H0 H vs ds → DpCs K S H vs ds
  | _, _, .nil => .nil
  | _, _, .cons a b => .cons (DpN.to s a) (DpNs.to s b)
end
section
variable {H0 H H' : Hp} {p : Addr} {h : HouseS} {n m : Nat} {F : Cells}
theorem LB.put {a : Addr} {P P' : HO → Prop} {o o' : HO} (s : LB K H0 H ((a, P) :: F)) (e : H a = some o) (w : Wr o) (hp : P' o') (ho : ∀ ps, o' ≠ .tbl ps) : LB K H0 (upd H a o') ((a, P') :: F) := by
  obtain ⟨f0, _⟩ := s.fr _ List.mem_cons_self
  have nd := s.nd
  rw [List.map_cons, List.nodup_cons] at nd
  refine ⟨tabs_upd e w s.tabs, fun c x h1 h2 => ?_, fun q hq => ?_, by rw [List.map_cons, List.nodup_cons]; exact nd⟩
  · refine (upd_ne fun z => ?_).trans (s.old c x h1 h2)
    obtain ⟨ps, z2⟩ := f0 x (by rw [← z]; exact h1)
    exact h2 ps z2
  · rcases List.mem_cons.mp hq with z | z
    · rw [z]
      exact ⟨f0, o', upd_same, hp, ho⟩
    · obtain ⟨x, u, h1, h2, h3⟩ := s.fr q (List.mem_cons_of_mem _ z)
      exact ⟨x, u, (upd_ne fun y => nd.1 (by rw [← y]; exact List.mem_map_of_mem (f := (·.1)) z)).trans h1, h2, h3⟩
theorem LB.cell {a : Addr} {zs : List V} (s : LB K H0 H F) (hm : (a, isL zs) ∈ F) : H a = some (.lst zs) := by
  obtain ⟨_, o, e, z, _⟩ := s.fr _ hm
  rw [e, z]
end
end LH
end

section
set_option Elab.async false
set_option linter.all false
set_option maxRecDepth 100000
set_option maxHeartbeats 4000000
set_option pp.maxSteps 1500
/-! read, of texts that write deeds -/
namespace LH
open PySem PySem.Spec PyProof.Rows L2 StX LamX NumText
variable {P : Program} {w : World} {K : PySem.W.Frag} {mg : Str → Option Value} {base : Heap}
def tRows (i : Nat) : TE := fun σ H Q => ∃ x : Str, σ[i]? = some (some (.str x)) ∧ x.length + 2 ≤ sizeLine ∧ ∀ p H', Same H H' → H p = none → H' p = some (.lst ((rowsOf x).map V.str)) → Q (.ref p) H'
theorem empty_str : Str.empty = Str.ofString "" := by decide +kernel
theorem rows_w {x : Str} {i : Nat} {σ : L2.St} {H : Hp} {Q : VK} (hx : σ[i]? = some (some (.str x))) (hl : x.length + 2 ≤ sizeLine) (q : ∀ p H', Same H H' → H p = none → H' p = some (.lst ((rowsOf x).map V.str)) → Q (.ref p) H') :
    tIf (tTest (tOp rNe (tVar i) (tC (V.str (Str.ofString ""))))) (tM1 (fun x xs H Q => ∃ a b, x = .str a ∧ xs = [.str b] ∧ (b.length == 0) = false ∧ a.length + 2 ≤ sizeLine ∧ rNewStrs (Txt.split a b) H Q) (tVar i) (tC (V.str (Str.ofString "\n")))) (tLst tNil) σ H Q := by
  refine ⟨_, hx, rfl, _, rfl, ?_⟩
  by_cases h : x = Str.ofString ""
  · refine nF (by rw [h]) ⟨by show 0 ≤ sizeLine; decide, fun p hp => ?_⟩
    refine q p _ (same_new hp) hp ?_
    rw [upd_same]
    unfold rowsOf
    rw [if_pos (by rw [h, empty_str])]
    rfl
  · refine nT (fun z => h (V.str.inj z)) ⟨_, hx, ⟨_, rfl⟩, x, _, rfl, rfl, by decide +kernel, hl, fun p hp => ?_⟩
    refine q p _ (same_new hp) hp ?_
    rw [upd_same]
    unfold rowsOf
    rw [if_neg (by rw [empty_str]; exact h)]
theorem deedof_ok {p : Addr} {l : Str} {H : Hp} {Q : VK} {E : XK} (ep : H p = some (.lst ((Txt.split l (Str.ofString " ")).map V.str))) (hl : l.length + 2 ≤ sizeLine) (q : ∀ H' v, Same H H' → Dt K H' v (lineD l) → Q v H') : sp_deed_of K [.ref p] H Q E := by
  unfold sp_deed_of
  have hn := split_ne l (y := Str.ofString " ") (by decide +kernel) (by decide +kernel)
  obtain ⟨a, _⟩ := split_le (x := l) (y := Str.ofString " ") (by decide +kernel)
  unfold lineD at q
  generalize Txt.split l (Str.ofString " ") = ws at ep q hn a
  cases ws with
  | nil => exact absurd rfl hn
  | cons w ws => exact ⟨p, w, ws, rfl, ep, fun x hx => by have := a x hx; omega, q⟩
@[irreducible] def sp_read (K : PySem.W.Frag) : Sp := fun vs H Q E => ∃ x : Str, vs = [.str x] ∧ x.length + 2 ≤ sizeLine ∧ (∀ d ∈ readD x, isNo d = false) ∧ ∀ H' L zs, Same H H' → H L = none → H' L = some (.lst zs) → Dts K H' zs (readD x) → Q (.ref L) H'
theorem sc_read : FnScope ["text", "found", "row", "line", "deed"] ["text"] (defScope s_read) := ⟨rfl, rfl, rfl, by decide +kernel, rfl, by decide +kernel, by decide +kernel⟩
theorem Tp.ok_read (T : Tp P w K mg base) : FnR P w K mg base (L2.CX P w) (7 + 1) (He.ga K "read") (sp_read K) := by
  refine fnr (N := ["text", "found", "row", "line", "deed"]) (ps := ["text"]) (k := 7) T.fd_read sc_read (fun _ _ _ _ _ _ us hl => match us, hl with | [_], _ => rfl) (fun vs H Q E h => ?_) fun cdv A outer s H vs Q E hr h => ?_
  · unfold sp_read at h
    obtain ⟨_, rfl, _⟩ := h
    rfl
  unfold sp_read at h
  obtain ⟨x, rfl, hx, good, q⟩ := h
  refine ⟨_, (pss_cons (ps_set (i := 1) sc_read.nd rfl (by first | exact .inl rfl | exact .inr rfl) (pe_lst pa_nil))
      (pss_cons (ps_for passOwnE rfl (pi_enum rfl T.f_enumerate (pa_cons (pe_imp (t' := tRows 0) (pe_ifExp (pt_cmpR op_ne (pv 0) pe_str (nomark _)) (pe_split (pv 0) (pe_gs rfl T.v_LINE)) (pe_lst pa_nil)) (fun σ H Q ⟨_, h1, h2, h3⟩ => rows_w h1 h2 h3)) pa_nil)) (pg_tup rfl (pgs_cons (pg_name (i := 2) sc_read.nd rfl (by first | exact .inl rfl | exact .inr rfl)) (pgs_cons (pg_name (i := 3) sc_read.nd rfl (by first | exact .inl rfl | exact .inr rfl)) pgs_nil))) (pss_cons (ps_set (i := 4) sc_read.nd rfl (by first | exact .inl rfl | exact .inr rfl) (pe_callP T.ok_deed_of (rm hr) (kp_of T.fd_deed_of) rfl T.g_deed_of passE (pa_cons (pe_split (pv 3) pe_str) pa_nil)))
      (pss_cons (ps_if (pt_cmpR op_isN (pv 4) pe_non (nomark _)) (pss_one ps_dead) pss_nil)
      (pss_one (ps_expr (pe_bm PySem.F.plainAttrs_list PySem.F.slot_list_append PySem.F.type_list_append mt_append (pv 1) (pa_cons (pv 4) pa_nil)))))))
      (pss_one (ps_ret (pv 1))))), ?_⟩
  have big : 100 < sizeLine := by decide
  refine ⟨by show 0 ≤ sizeLine; decide, fun L hL => ?_⟩
  have s1 := same_new (o := .lst ([] : List V)) hL
  have e1 : L2.upd H L (.lst []) L = some (.lst []) := upd_same
  refine gnI ⟨x, rfl, hx, fun p H2 s2 hp e2 => ?_⟩
  have s12 := Same.trans' s1 s2
  have eL := s2 _ _ e1
  have nLp : L ≠ p := fun z => by rw [z, upd_same] at e1; rw [← z, upd_same] at hp; cases hp
  have rl : ∀ l ∈ rowsOf x, l.length + 2 ≤ sizeLine ∧ isNo (lineD l) = false := fun l hl => by
    refine ⟨?_, good _ (List.mem_map_of_mem (f := lineD) hl)⟩
    unfold rowsOf at hl
    split at hl
    · cases hl
    · have := (split_le (x := x) (y := Str.ofString "\n") (by decide +kernel)).1 l hl
      omega
  have rn : (rowsOf x).length ≤ x.length + 1 := by
    unfold rowsOf
    split
    · simp
    · exact (split_le (x := x) (y := Str.ofString "\n") (by decide +kernel)).2
  unfold readD at q
  clear good s1 e1 hp s2
  generalize rowsOf x = rows at q e2 rl rn
  refine ⟨p, _, rfl, SqL.of e2, ?_⟩
  refine for_it (walk_enum (a := p) (xs := rows.map V.str)) (fun i σ H' => ∃ (zs : List V) (y2 y3 y4 : Option V), σ = [some (.str x), some (.ref L), y2, y3, y4] ∧ Same H H' ∧ H' p = some (.lst (rows.map V.str)) ∧ H' L = some (.lst zs) ∧ Dts K H' zs ((rows.take i).map lineD)) ?_ ?_ ?_ ?_
  · exact ⟨[], none, none, none, rfl, s12, e2, eL, .nil⟩
  · rintro i σ H' _ ⟨_, _, _, _, _, _, e, _⟩
    exact SqL.of e
  · rintro i v σ H3 H4 hi ⟨zs, y2, y3, y4, rfl, s3, e3, eL3, dz⟩ ⟨tp, x1, x2, rfl, htp, rfl, q1, q2⟩
    cases q1
    have hi : i < rows.length := by simpa using hi
    have er : rows[i]? = some rows[i] := List.getElem?_eq_getElem hi
    have q2 : (rows.map V.str)[i]? = some x2 := q2
    rw [List.getElem?_map, er] at q2
    obtain rfl := Option.some.inj q2
    obtain ⟨rl1, rl2⟩ := rl _ (List.mem_of_getElem? er)
    have st := same_new (o := .tup [V.int (i : Nat), V.str rows[i]]) htp
    refine ⟨tp, _, rfl, SqT.of upd_same, rfl, _, _, rfl, gnI ⟨_, _, rfl, gnI ⟨rfl, ?_⟩⟩⟩
    obtain ⟨sl, sn⟩ := split_le (x := rows[i]) (y := Str.ofString " ") (by decide +kernel)
    refine ⟨_, rfl, ⟨_, rfl⟩, rows[i], _, rfl, rfl, by decide +kernel, rl1, fun p5 hp5 => ?_⟩
    have s5 := same_new (o := .lst ((Txt.split rows[i] (Str.ofString " ")).map V.str)) hp5
    refine deedof_ok upd_same rl1 fun H6 v6 s6 d6 => gnI ?_
    have s36 := Same.trans' st (Same.trans' s5 s6)
    have eL6 := s36 _ _ eL3
    have nn : v6 ≠ V.non := fun z => by
      rw [z] at d6
      generalize lineD rows[i] = d at d6 rl2
      cases d6
      cases rl2
    refine ⟨_, rfl, rfl, _, rfl, ?_⟩
    rw [decide_eq_false nn]
    refine iteF ?_
    have lz := Dts.len dz
    rw [List.length_map, List.length_take] at lz
    refine ⟨_, rfl, .inl ⟨rfl, _, SqL.of eL6⟩, _, rfl, L, _, _, rfl, rfl, eL6, by omega, ?_⟩
    have kp : KeepT K H6 (L2.upd H6 L (.lst (zs ++ [v6]))) := KeepT.upd eL6 trivial
    refine ⟨zs ++ [v6], _, _, _, rfl, Same.put (Same.trans' s3 s36) hL, (upd_ne nLp.symm).trans (s36 _ _ e3), upd_same, ?_⟩
    rw [List.take_add_one, er, List.map_append]
    exact dts_snoc ((dz.keep (KeepT.same s36)).keep kp) (d6.keep kp)
  · rintro σ H' ⟨zs, y2, y3, y4, rfl, s3, e3, eL3, dz⟩
    rw [List.length_map, List.take_of_length_le (Nat.le_refl _)] at dz
    exact ⟨_, rfl, q H' L zs s3 hL eL3 dz⟩
end LH
end

section
set_option Elab.async false
set_option linter.all false
set_option maxRecDepth 100000
set_option maxHeartbeats 4000000
/-! own exceptions with an own __init__: what the head says of them -/
namespace LH
open PySem PySem.Spec PyProof.Rows L2
theorem oexB_ok {K : PySem.W.Frag} {C : Addr} (q : oexB K C = true) : ∃ nm qn N bs bm sn sub ab col dd k0 k1 k2 k3 k5, K.lookup C = some (excClassObj nm qn C N bs bm true sn sub ab col dd k0 k1 k2 k3 k5 "ValueError.__new__") ∧ PySem.HandSPX.refsVE bm = true := by
  unfold oexB at q
  split at q
  · rename_i dd cd sl ho
    split at q
    · rename_i C' bm k0 k1 k2 k3 n k5 hm hs
      simp only [Bool.and_eq_true, beq_iff_eq, Bool.not_eq_true'] at q
      obtain ⟨rfl, rfl, hdel, hd, ht⟩ := q
      obtain ⟨nm, bs, mro, ns, qn, hd', sn, sub, ab, col, del⟩ := cd
      dsimp only at hm hdel hd
      subst hm hdel hd
      have hsl : sl = #[k0, k1, k2, k3, some (.builtin "ValueError.__new__"), k5] := by
        obtain ⟨l⟩ := sl
        simp only at hs
        rw [hs]
      subst hsl
      exact ⟨nm, qn, ns, bs, bm, sn, sub, ab, col, dd, k0, k1, k2, k3, k5, ho, ht⟩
    · cases q
  · cases q
structure InitC (K : PySem.W.Frag) (c f : Str) : Prop where
  oex : OexC K (He.ga K c)
  init : PySem.W.findIn K (.ref (He.ga K c)) "__init__" = some (some (.ref (He.ma K (He.ga K c) "__init__")))
  ty : PySem.W.typeIn K (.ref (He.ma K (He.ga K c) "__init__")) = some (.type "function")
  no : PySem.W.findIn K (.ref (He.ga K c)) f = some none
  xf : XfC K (He.ga K c)
theorem initB_ok {K : PySem.W.Frag} {c f : Str} (h : initB K (c, f) = true) : InitC K c f := by
  unfold initB at h
  obtain ⟨h1, h⟩ := He.ba h
  obtain ⟨h2, h⟩ := He.ba h
  obtain ⟨h3, h⟩ := He.ba h
  obtain ⟨h4, h⟩ := He.ba h
  obtain ⟨h5, h⟩ := He.ba h
  obtain ⟨h6, h⟩ := He.ba h
  obtain ⟨h7, h⟩ := He.ba h
  obtain ⟨h8, h9⟩ := He.ba h
  exact ⟨⟨oexB_ok h1, He.eqO_ok h2, of_decide_eq_true h3, of_decide_eq_true h4, h5⟩, He.eqO_ok h6, of_decide_eq_true h7, He.eqO_ok h8, xfB_ok h9⟩
structure IsC (K : PySem.W.Frag) (L : List Str) (c : Str) : Prop where
  ex : ExcC K (He.ga K c)
  ve : PySem.W.kitOne K (.ref (He.ga K c)) (.type "ValueError") = some true
  kit : ∀ x ∈ L, PySem.W.kitOne K (.ref (He.ga K c)) (.ref (He.ga K x)) = some (decide (c = x))
theorem isB_ok {K : PySem.W.Frag} {L : List Str} {c : Str} (h : isB K L c = true) : IsC K L c := by
  unfold isB at h
  obtain ⟨h1, h⟩ := He.ba h
  obtain ⟨h2, h⟩ := He.ba h
  obtain ⟨h3, h⟩ := He.ba h
  obtain ⟨h4, h⟩ := He.ba h
  obtain ⟨h5, h⟩ := He.ba h
  obtain ⟨h6, h⟩ := He.ba h
  obtain ⟨h7, h⟩ := He.ba h
  obtain ⟨h8, h⟩ := He.ba h
  obtain ⟨h9, h10⟩ := He.ba h
  exact ⟨⟨He.eqO_ok h1, He.eqO_ok h2, of_decide_eq_true h3, h4, He.eqO_ok h5, He.eqO_ok h6, of_decide_eq_true h7, of_decide_eq_true h8⟩, of_decide_eq_true h9, fun x hx => of_decide_eq_true (List.all_eq_true.mp h10 x hx)⟩
structure LeC (K : PySem.W.Frag) : Prop where
  rd : PySem.W.readsIn K (He.ga K "LaterError") (.type "type") = true
  ga : PySem.W.specialIn K (.ref (He.ga K "LaterError")) "__getattribute__" = some (some (.builtin "type.__getattribute__"))
  at_ : PySem.W.findCls K (.ref (He.ga K "LaterError")) (.type "type") "__init__" = some (.val (.builtin "ValueError.__init__"))
theorem leB_ok {K : PySem.W.Frag} (h : leB K = true) : LeC K := by
  unfold leB at h
  obtain ⟨h1, h⟩ := He.ba h
  obtain ⟨h2, h3⟩ := He.ba h
  refine ⟨h1, He.eqO_ok h2, ?_⟩
  split at h3
  · rename_i v e
    rw [e, of_decide_eq_true h3]
  · cases h3
section
variable {P : Program} {w : World} {K : PySem.W.Frag} {mg : Str → Option Value} {base : Heap}
theorem Tp.initC (T : Tp P w K mg base) {c f : Str} (h : (c, f) ∈ tinitL) : InitC K c f := by
  have x := T.x
  unfold xB at x
  exact initB_ok (List.all_eq_true.mp (He.ba x).1 _ h)
theorem Tp.isC (T : Tp P w K mg base) {c : Str} (h : c ∈ tkindL) : IsC K tkindL c := by
  have x := T.x
  unfold xB at x
  exact isB_ok (List.all_eq_true.mp (He.ba (He.ba x).2).1 _ h)
theorem Tp.leC (T : Tp P w K mg base) : LeC K := by
  have x := T.x
  unfold xB at x
  exact leB_ok (He.ba (He.ba x).2).2
end
/-- C.__init__(self, ..), C an own class over ValueError without an own __init__ -/
theorem pe_leinit {X : Cx} {LE : Addr} {x : Str} {e : Expr} {es : List Expr} {ta : TA} {p1 p2 pos : Pos} {pl : Sem Bool} (hg : Gl X x) (hm : X.mg x = some (.ref LE)) (rd : PySem.W.readsIn X.K LE (.type "type") = true) (ga : PySem.W.specialIn X.K (.ref LE) "__getattribute__" = some (some (.builtin "type.__getattribute__")))
    (vV : PySem.W.findCls X.K (.ref LE) (.type "type") "__init__" = some (.val (.builtin "ValueError.__init__"))) (ha : PA X (e :: es) ta) (hdb : (x == ("__debug__" : Str)) = false := by decide)
    (hc : eval (.Call (.Attribute (.Name x p1) "__init__" p2) (e :: es) [] pos) X.env = (do
      let ov ← eval (.Name x p1) X.env
      standAt p2.atName
      let (f, first) ← holding [ov] (getMethod ov "__init__" pl)
      callWith pos f first (backTo pos (starEach (e :: es) X.env)) (backToKw pos (keywordEach [] X.env))) := by rfl)
    (he : starEach (e :: es) X.env = (false, eval e X.env) :: starEach es X.env := by rfl) (hpl : (backTo pos (starEach es X.env)).any (·.1) = false := by rfl) :
    PE X (.Call (.Attribute (.Name x p1) "__init__" p2) (e :: es) [] pos) (tVeI X.K ta) := by
  refine ⟨fun pins s σ H Q I h => ?_⟩
  refine PySem.W.methodCall_KW (ld_glob I hg hm ?_ hdb) hc
  refine PySem.W.method_cls I.kIn ga (PySem.W.cls_value I.kIn rd vV (by decide +kernel) ?_)
  show wpAny _ _ (callWith pos (Value.builtin "ValueError.__init__") [] (backTo pos (starEach (e :: es) X.env)) []) _ _ _
  refine PyProof.Rows.callWith_method1 (thn (ha.run pos pins _ σ H _ (I.tok _) h) fun us s1 ⟨vs, H1, I1, r1, a, C, ws, ev, hl, T, ea, q⟩ => ?_) he hpl
  subst ev
  cases r1 with
  | @cons _ u0 _ ur ra rw' =>
    obtain rfl : u0 = Value.ref a := ra
    have hlen : ur.length ≤ sizeLine := by
      rw [← Paired.length rw', sizeLine_eq]
      omega
    exact oinit_ok T I1 ea hlen fun s' J => ⟨.non, H1, J, rfl, q⟩
end LH
end

section
set_option Elab.async false
set_option linter.all false
set_option maxRecDepth 100000
set_option maxHeartbeats 4000000
set_option pp.maxSteps 1500
/-! BadText(row) -/
namespace LH
open PySem PySem.Spec PyProof.Rows L2 LamX
variable {P : Program} {w : World} {K : PySem.W.Frag} {mg : Str → Option Value} {base : Heap}
@[irreducible] def sp_BadText___init__ (K : PySem.W.Frag) : Sp := fun vs H Q E => ∃ (a : Addr) (v : V), vs = [.ref a, v] ∧ OexC K (He.ga K "BadText") ∧ PySem.W.findIn K (.ref (He.ga K "BadText")) "row" = some none ∧ H a = some (exo a (He.ga K "BadText") none) ∧ ∀ dx, H dx = none → dx ≠ a → Q .non (upd (upd H dx (exd dx [("row", v)])) a (exo a (He.ga K "BadText") (some dx)))
theorem sc_BadText___init__ : FnScope ["self", "row"] ["self", "row"] (defScope s_BadText___init__) := ⟨rfl, rfl, rfl, by decide +kernel, rfl, by decide +kernel, by decide +kernel⟩
theorem Tp.okF_BadText___init__ (T : Tp P w K mg base) {fd : FuncData} (F : FunD K "__init__" "BadText.__init__" (defArgs s_BadText___init__) (defBody s_BadText___init__) (defScope s_BadText___init__) (He.DefD.dvs K d_BadText___init__) (He.DefD.kws K d_BadText___init__) (He.ma K (He.ga K "BadText") "__init__") fd) : FnOk P w K mg base (L2.CX P w) (0 + 1) (He.ma K (He.ga K "BadText") "__init__") fd ["self", "row"] (sp_BadText___init__ K) := by
  refine FunD.ok (N := ["self", "row"]) (k := 0) F sc_BadText___init__ (fun vs H Q E h => ?_) fun cdv A outer s H vs Q E hr h => ?_
  · unfold sp_BadText___init__ at h
    obtain ⟨_, _, rfl, _⟩ := h
    rfl
  unfold sp_BadText___init__ at h
  obtain ⟨a, v, rfl, oc, no, ha, q⟩ := h
  refine ⟨_, (pss_cons (ps_expr (pe_leinit rfl T.g_LaterError T.leC.rd T.leC.ga T.leC.at_ (pa_cons (pv 0) (pa_cons pe_str pa_nil))))
      (pss_one (ps_ost (pv 0) (pv 1)))), ?_⟩
  refine ⟨_, rfl, a, _, [.str (Str.ofString "no such thing")], rfl, by decide, oc, ha, ?_⟩
  exact ⟨_, rfl, _, rfl, a, _, rfl, oc, no, .inl ⟨ha, q⟩⟩
/-- BadText(e): the exception, its dict -/
theorem Tp.mk_BadText (T : Tp P w K mg base) : ∃ fd, FnOk P w K mg base (L2.CX P w) (0 + 1) (He.ma K (He.ga K "BadText") "__init__") fd ["self", "row"] (sp_BadText___init__ K) ∧ Binds K fd ["self", "row"] [] := by
  obtain ⟨fd, F⟩ := T.fd_BadText___init__
  exact ⟨fd, T.okF_BadText___init__ F, FunD.bindsN (ps := ["self", "row"]) F fun _ _ _ _ _ _ us hl => match us, hl with | [_, _], _ => rfl⟩
/-- what is raised: BadText with a row -/
theorem bad_text (T : Tp P w K mg base) {v : V} {H : Hp} {Q : XK} (q : ∀ (d : Addr) H', Same H H' → H d = none → H' d = some (.xd [("row", v)]) → Q (.ref (He.ga K "BadText")) (some d) H') : ∀ a, H a = none → sp_BadText___init__ K (.ref a :: ([v] ++ [])) (upd H a (exo a (He.ga K "BadText") none))
    (fun x H2 => x = .non ∧ ∃ (d : Addr) (fs : List (Str × V)), H2 a = some (exo a (He.ga K "BadText") (some d)) ∧ H2 d = some (exd d fs) ∧ H d = none ∧ Q (.ref (He.ga K "BadText")) (some d) (upd (del H2 a) d (.xd fs))) (fun _ _ _ => False) := fun a ha => by
  have ic := T.initC (c := "BadText") (f := "row") (by simp [tinitL])
  unfold sp_BadText___init__
  refine ⟨a, v, rfl, ic.oex, ic.no, upd_same, fun dx hd hne => ⟨rfl, dx, [("row", v)], upd_same, ?_, ?_, ?_⟩⟩
  · rw [upd_ne hne, upd_same]
  · rw [upd_ne hne] at hd
    exact hd
  · have hd0 : H dx = none := by rw [upd_ne hne] at hd; exact hd
    refine q dx _ (fun b o e => ?_) hd0 upd_same
    have h1 : b ≠ dx := fun z => by rw [z, hd0] at e; cases e
    have h2 : b ≠ a := fun z => by rw [z, ha] at e; cases e
    rw [upd_ne h1, del_ne h2, upd_ne h2, upd_ne h1, upd_ne h2]
    exact e
end LH
end

section
set_option Elab.async false
set_option linter.all false
set_option maxRecDepth 100000
set_option maxHeartbeats 4000000
set_option pp.maxSteps 1500
/-! read, of any text -/
namespace LH
open PySem PySem.Spec PyProof.Rows L2 StX LamX NumText
variable {P : Program} {w : World} {K : PySem.W.Frag} {mg : Str → Option Value} {base : Heap}
theorem passF {N : List Str} {q : Str} {sc : Scope} {f : Addr} {cd : Value} {A : Around} {outer : List Env} {s : Shared} {H : Hp} {E : XK} : Passes (L2.CX P w) (XB P w K mg base N q sc f cd A outer s H E) (fun _ _ _ => False) :=
  passes_call (X := XB P w K mg base N q sc f cd A outer s H E) (W := fun cls d _ H => E cls d H) (takes_of rfl rfl rfl rfl) fun _ _ _ _ h => h.elim
def FirstNo (ds : List PyData) (k : Nat) : Prop := (∃ d, ds[k]? = some d ∧ isNo d = true) ∧ ∀ (j : Nat) (e : PyData), j < k → ds[j]? = some e → isNo e = false
@[irreducible] def spG_read (K : PySem.W.Frag) : Sp := fun vs H Q E => ∃ x : Str, vs = [.str x] ∧ x.length + 2 ≤ sizeLine ∧ ((∀ d ∈ readD x, isNo d = false) → ∀ H' L zs, Same H H' → H L = none → H' L = some (.lst zs) → Dts K H' zs (readD x) → Q (.ref L) H') ∧
  (∀ k, FirstNo (readD x) k → ∀ d H', Same H H' → H d = none → H' d = some (.xd [("row", .int (k : Int))]) → E (.ref (He.ga K "BadText")) (some d) H')
theorem Tp.okG_read (T : Tp P w K mg base) : FnR P w K mg base (L2.CX P w) (7 + 1) (He.ga K "read") (spG_read K) := by
  refine fnr (N := ["text", "found", "row", "line", "deed"]) (ps := ["text"]) (k := 7) T.fd_read sc_read (fun _ _ _ _ _ _ us hl => match us, hl with | [_], _ => rfl) (fun vs H Q E h => ?_) fun cdv A outer s H vs Q E hr h => ?_
  · unfold spG_read at h
    obtain ⟨_, rfl, _⟩ := h
    rfl
  obtain ⟨fdB, FB, BB⟩ := T.mk_BadText
  have IC := T.initC (c := "BadText") (f := "row") (by simp [tinitL])
  unfold spG_read at h
  obtain ⟨x, rfl, hx, q, er⟩ := h
  refine ⟨_, (pss_cons (ps_set (i := 1) sc_read.nd rfl (by first | exact .inl rfl | exact .inr rfl) (pe_lst pa_nil))
      (pss_cons (ps_for passOwnE rfl (pi_enum rfl T.f_enumerate (pa_cons (pe_imp (t' := tRows 0) (pe_ifExp (pt_cmpR op_ne (pv 0) pe_str (nomark _)) (pe_split (pv 0) (pe_gs rfl T.v_LINE)) (pe_lst pa_nil)) (fun σ H Q ⟨_, h1, h2, h3⟩ => rows_w h1 h2 h3)) pa_nil)) (pg_tup rfl (pgs_cons (pg_name (i := 2) sc_read.nd rfl (by first | exact .inl rfl | exact .inr rfl)) (pgs_cons (pg_name (i := 3) sc_read.nd rfl (by first | exact .inl rfl | exact .inr rfl)) pgs_nil))) (pss_cons (ps_set (i := 4) sc_read.nd rfl (by first | exact .inl rfl | exact .inr rfl) (pe_callP T.ok_deed_of (rm hr) (kp_of T.fd_deed_of) rfl T.g_deed_of passE (pa_cons (pe_split (pv 3) pe_str) pa_nil)))
      (pss_cons (ps_if (pt_cmpR op_isN (pv 4) pe_non (nomark _)) (pss_one (ps_raise rfl takesE (pmk_oex IC.oex IC.init IC.ty FB (rm hr) BB .nil passF rfl T.g_BadText (pa_cons (pv 2) pa_nil)))) pss_nil)
      (pss_one (ps_expr (pe_bm PySem.F.plainAttrs_list PySem.F.slot_list_append PySem.F.type_list_append mt_append (pv 1) (pa_cons (pv 4) pa_nil)))))))
      (pss_one (ps_ret (pv 1))))), ?_⟩
  have big : 100 < sizeLine := by decide
  refine ⟨by show 0 ≤ sizeLine; decide, fun L hL => ?_⟩
  have s1 := same_new (o := .lst ([] : List V)) hL
  have e1 : L2.upd H L (.lst []) L = some (.lst []) := upd_same
  refine gnI ⟨x, rfl, hx, fun p H2 s2 hp e2 => ?_⟩
  have s12 := Same.trans' s1 s2
  have eL := s2 _ _ e1
  have nLp : L ≠ p := fun z => by rw [z, upd_same] at e1; rw [← z, upd_same] at hp; cases hp
  have rl : ∀ l ∈ rowsOf x, l.length + 2 ≤ sizeLine := fun l hl => by
    unfold rowsOf at hl
    split at hl
    · cases hl
    · have := (split_le (x := x) (y := Str.ofString "\n") (by decide +kernel)).1 l hl
      omega
  have rn : (rowsOf x).length ≤ x.length + 1 := by
    unfold rowsOf
    split
    · simp
    · exact (split_le (x := x) (y := Str.ofString "\n") (by decide +kernel)).2
  have nd : ∀ {b : Addr} {H' : Hp}, Same H H' → H' b = none → H b = none := fun {b H'} s z => by
    cases e : H b with
    | none => rfl
    | some o => rw [s _ _ e] at z; cases z
  unfold readD at q er
  clear s1 e1 hp s2
  generalize rowsOf x = rows at q er e2 rl rn
  refine ⟨p, _, rfl, SqL.of e2, ?_⟩
  refine for_it (walk_enum (a := p) (xs := rows.map V.str)) (fun i σ H' => ∃ (zs : List V) (y2 y3 y4 : Option V), σ = [some (.str x), some (.ref L), y2, y3, y4] ∧ Same H H' ∧ H' p = some (.lst (rows.map V.str)) ∧ H' L = some (.lst zs) ∧ Dts K H' zs ((rows.take i).map lineD) ∧ ∀ (j : Nat) (e : PyData), j < i → (rows.map lineD)[j]? = some e → isNo e = false) ?_ ?_ ?_ ?_
  · exact ⟨[], none, none, none, rfl, s12, e2, eL, .nil, fun j _ h => absurd h (Nat.not_lt_zero j)⟩
  · rintro i σ H' _ ⟨_, _, _, _, _, _, e, _⟩
    exact SqL.of e
  · rintro i v σ H3 H4 hi ⟨zs, y2, y3, y4, rfl, s3, e3, eL3, dz, gd⟩ ⟨tp, x1, x2, rfl, htp, rfl, q1, q2⟩
    cases q1
    have hi : i < rows.length := by simpa using hi
    have er1 : rows[i]? = some rows[i] := List.getElem?_eq_getElem hi
    have q2 : (rows.map V.str)[i]? = some x2 := q2
    rw [List.getElem?_map, er1] at q2
    obtain rfl := Option.some.inj q2
    have rl1 := rl _ (List.mem_of_getElem? er1)
    have st := same_new (o := .tup [V.int (i : Nat), V.str rows[i]]) htp
    refine ⟨tp, _, rfl, SqT.of upd_same, rfl, _, _, rfl, gnI ⟨_, _, rfl, gnI ⟨rfl, ?_⟩⟩⟩
    obtain ⟨sl, sn⟩ := split_le (x := rows[i]) (y := Str.ofString " ") (by decide +kernel)
    refine ⟨_, rfl, ⟨_, rfl⟩, rows[i], _, rfl, rfl, by decide +kernel, rl1, fun p5 hp5 => ?_⟩
    have s5 := same_new (o := .lst ((Txt.split rows[i] (Str.ofString " ")).map V.str)) hp5
    refine deedof_ok upd_same rl1 fun H6 v6 s6 d6 => gnI ?_
    have s36 := Same.trans' st (Same.trans' s5 s6)
    have eL6 := s36 _ _ eL3
    refine ⟨_, rfl, rfl, _, rfl, ?_⟩
    have emr : (rows.map lineD)[i]? = some (lineD rows[i]) := by rw [List.getElem?_map, er1]; rfl
    cases hno : isNo (lineD rows[i]) with
    | true =>
      have ev : v6 = V.non := by
        generalize lineD rows[i] = d at d6 hno
        cases d <;> cases hno
        cases d6
        rfl
      rw [ev, decide_eq_true rfl]
      refine iteT ⟨_, rfl, by show 1 ≤ 1000; omega, bad_text T fun d H' s7 hd7 e7 => ?_⟩
      exact er i ⟨⟨_, emr, hno⟩, gd⟩ d H' (Same.trans' s3 (Same.trans' s36 s7)) (nd (Same.trans' s3 s36) hd7) e7
    | false =>
    have nn : v6 ≠ V.non := fun z => by
      rw [z] at d6
      generalize lineD rows[i] = d at d6 hno
      cases d6
      cases hno
    rw [decide_eq_false nn]
    refine iteF ?_
    have lz := Dts.len dz
    rw [List.length_map, List.length_take] at lz
    refine ⟨_, rfl, .inl ⟨rfl, _, SqL.of eL6⟩, _, rfl, L, _, _, rfl, rfl, eL6, by omega, ?_⟩
    have kp : KeepT K H6 (L2.upd H6 L (.lst (zs ++ [v6]))) := KeepT.upd eL6 trivial
    refine ⟨zs ++ [v6], _, _, _, rfl, Same.put (Same.trans' s3 s36) hL, (upd_ne nLp.symm).trans (s36 _ _ e3), upd_same, ?_, fun j e hj ej => ?_⟩
    rotate_left
    · by_cases z : j = i
      · rw [z, emr] at ej
        rw [← Option.some.inj ej]
        exact hno
      · exact gd j e (by omega) ej
    rw [List.take_add_one, er1, List.map_append]
    exact dts_snoc ((dz.keep (KeepT.same s36)).keep kp) (d6.keep kp)
  · rintro σ H' ⟨zs, y2, y3, y4, rfl, s3, e3, eL3, dz, gd⟩
    rw [List.length_map, List.take_of_length_le (Nat.le_refl _)] at dz
    refine ⟨_, rfl, q (fun d hd => ?_) H' L zs s3 hL eL3 dz⟩
    obtain ⟨j, ej⟩ := List.mem_iff_getElem?.mp hd
    have hj := (List.getElem?_eq_some_iff.mp ej).1
    exact gd j d (by rw [List.length_map] at hj ⊢; exact hj) ej
end LH
end

section
set_option Elab.async false
set_option linter.all false
set_option maxRecDepth 100000
set_option maxHeartbeats 4000000
/-! a caught own error: isinstance, its fields; a suite's slots; xs.count of bools -/
namespace LH
open PySem PySem.Spec PyProof.Rows L2 LamX
theorem bt_ValueError : bootBuiltins "ValueError" = some (.type "ValueError") := by decide +kernel
/-- isinstance(e, c), e the exception that the suite holds, with a dict or without -/
@[irreducible] def rIsX (K : PySem.W.Frag) (cls : Value) (d : Option Addr) (a : Addr) : List V → Hp → VK → Prop := fun xs H Q => ∃ (D : Addr) (c : V) (cv : Value) (b : Bool), cls = .ref D ∧ ExcC K D ∧ (∀ dd, d = some dd → ∃ fs, H dd = some (.xd fs)) ∧ xs = [.ref a, c] ∧ (∀ u, RelV c u → u = cv) ∧ PySem.W.kitOne K (.ref D) cv = some b ∧ Q (.bl b) H
theorem call_isX {X : Cx} {a : Addr} {oe : Obj} {cls : Value} {d : Option Addr} {pn : List (Addr × Obj)} (hz : Zc cls d oe) (hf : ∃ vs, oe.data = .fields vs) : CallR (X.suite a ((a, oe) :: pn)) (.builtin "isinstance") (rIsX X.K cls d a) := by
  intro pins s σ H xs us Q I r h
  unfold rIsX at h
  obtain ⟨D, c, cv, b, rfl, C, hd, rfl, hcv, e, q⟩ := h
  cases r with
  | cons rx rr =>
    cases rr with
    | cons rt rr =>
      rename_i ub ut
      cases rr
      cases rx
      have ec := hcv _ rt
      subst ec
      obtain ⟨hget, _⟩ := I.pin (a, oe) (List.mem_append.mpr (.inl List.mem_cons_self))
      obtain ⟨vs, hv⟩ := hf
      obtain ⟨h1, h2⟩ := hz
      have hno : PySem.W.notCls oe = true := by unfold PySem.W.notCls; rw [hv] <;> rfl
      have hcl : (PySem.W.clsIn X.K D).isSome = true := by
        obtain ⟨cd, hc, _⟩ := PySem.W.any_some C.hd
        rw [hc]
        rfl
      have fin : ∀ od, PySem.W.InstAt s.heap a oe D od → wpAny (model X.prog X.w) (X.suite a ((a, oe) :: pn)).A (call (.builtin "isinstance") [.ref a, ub]) (EP (X.suite a ((a, oe) :: pn)) pins σ Q) (X.suite a ((a, oe) :: pn)).xe s := fun od J =>
        PySem.W.kia_one (PySem.W.kitx_exc hcl C.hg C.hk C.hs C.ha C.hn C.ht C.hm) I.kIn J e (fun z => nomatch z) fun tk => ⟨.bl b, H, I.kept (t' := tk) fun _ _ z => z, rfl, q⟩
      cases d with
      | none => exact fin none ⟨hget, h1, hno, by rw [h2]; trivial⟩
      | some dd =>
        obtain ⟨fs, ed⟩ := hd dd rfl
        have hx : ObjOk X.prog X.w H s.heap dd (.xd fs) := I.hok dd _ ed
        obtain ⟨mA, hns, hr⟩ := hx
        obtain ⟨od, ho, hl⟩ := lookIn_ns hns
        exact fin (some od) ⟨hget, h1, hno, by rw [h2]; exact ho⟩
/-- e.f, of a class that is told then -/
def tXfX (K : PySem.W.Frag) (a : Addr) (cls : Value) (d : Option Addr) (f : Str) (te : TE) : TE := fun σ H Q => ∃ C : Addr, XfC K C ∧ PySem.W.findIn K (.ref C) f = some none ∧ tXf a cls d C f te σ H Q
theorem pe_xfX {X : Cx} {a : Addr} {oe : Obj} {cls : Value} {d : Option Addr} {pn : List (Addr × Obj)} {e : Expr} {te : TE} {pos : Pos} {n : Str} (hz : Zc cls d oe) (hf : ∃ vs, oe.data = .fields vs) (he : PE (X.suite a ((a, oe) :: pn)) e te) (hb : attributeBase e n X.env (eval e X.env) = eval e X.env := by rfl) :
    PE (X.suite a ((a, oe) :: pn)) (.Attribute e n pos) (tXfX X.K a cls d n te) := by
  refine ⟨fun pins s σ H Q I h => ?_⟩
  obtain ⟨C, xc, hno, h⟩ := h
  exact (pe_xf xc hno hz hf he hb).run pins s σ H Q I h
/-- a suite's slots are as many as its def's names -/
theorem pss_len {X : Cx} {b : List Stmt} {t : TS} (h : PSs X b t) : PSs X b (fun D σ H => σ.length = X.N.length → t D σ H) := ⟨fun pins s σ H D I z => h.run pins s σ H D I (z I.len)⟩
/-! ### xs.count(y), flat items -/
def rCountF (K : PySem.W.Frag) : V → List V → Hp → VK → Prop := fun x xs H Q => ∃ (a : Addr) (ys : List V) (y : V), x = .ref a ∧ xs = [y] ∧ SqL K H a ys ∧ flatV y = true ∧ ys.all flatV = true ∧ Q (.int ((ys.countP fun z => eqV z y : Nat) : Int)) H
theorem count_rel {y : V} {uy : Value} (ry : RelV y uy) (fy : flatV y = true) : ∀ {ys : List V} {us : List Value}, Vals ys us → ys.all flatV = true → us.countP (eqU y) = ys.countP fun z => eqV z y
  | _, _, .nil, _ => rfl
  | _, _, .cons r rs, f => by
    rw [List.all_cons, Bool.and_eq_true] at f
    rw [List.countP_cons, List.countP_cons, count_rel ry fy rs f.2, eqU_of r f.1]
theorem mt_countF {X : Cx} : MtR X "list.count" (rCountF X.K) := by
  intro pins s σ H x xs v us Q I rx rxs h
  obtain ⟨a, ys, y, rfl, rfl, hs, fy, fys, q⟩ := h
  cases rx
  cases rxs with
  | cons ry rt =>
    rename_i uy ut
    cases rt
    obtain ⟨its, rv, ⟨⟨cls, dd, data, sl⟩, n, ho, hc, hdn, hd⟩, hlen⟩ := I.list hs
    simp only at hc hd
    subst hc hd
    refine call_meets PySem.F.slot_list_count ⟨_, ho, rfl⟩ PySem.F.entry_list_count (PySem.F.args_list_count_2 _ _)
      (SeqAt.list_countAt a its.toArray n dd sl uy (eqU y)) ⟨ho, fun u' hu' => mem_eqAt ry fy rv fys u' (by simpa using hu'), ?_⟩
    have ec : its.toArray.toList.countP (eqU y) = ys.countP fun z => eqV z y := count_rel ry fy rv fys
    refine ⟨.int ((ys.countP fun z => eqV z y : Nat) : Int), H, I.tok _, ⟨s.toks, ?_⟩, q⟩
    rw [← ec]
/-! ### what _law_told tells of an error -/
def fieldOf (c : Str) : Option Str := if c = Str.ofString "BadText" then some (Str.ofString "row") else if c = Str.ofString "BadLog" ∨ c = Str.ofString "BadPlan" then some (Str.ofString "number") else none
/-- what stands by: the class's name, its field or 0 -/
def ResX (K : PySem.W.Frag) (c : Str) (d : Option Addr) (H : Hp) (v : V) : Prop := match fieldOf c with
  | some f => ∃ dd fs, d = some dd ∧ H dd = some (.xd fs) ∧ fs.lookup f = some v
  | none => d = none ∧ v = .int 0
/-- the wish: what is caught, and told -/
def WishT (K : PySem.W.Frag) (Q : VK) : XK := fun cls d H' => ∃ c ∈ tkindL, cls = .ref (He.ga K c) ∧ ∃ v, ResX K c d H' v ∧ ∀ H'' t, Same H' H'' → SqT K H'' t [.str c, v] → Q (.ref t) H''
def TTx (K : PySem.W.Frag) : (XK → Hp → VK → Prop) → Hp → VK → Prop := fun tl H Q => tl (WishT K Q) H Q
end LH
end

section
set_option Elab.async false
set_option linter.all false
set_option maxRecDepth 100000
set_option maxHeartbeats 4000000
set_option pp.maxSteps 1500
/-! _law_told: what it makes of a lambda -/
namespace LH
open PySem PySem.Spec PyProof.Rows L2 StX LamX
variable {P : Program} {w : World} {K : PySem.W.Frag} {mg : Str → Option Value} {base : Heap}
def suiteOf : List Stmt → List Stmt
  | [.Try _ [.ExceptHandler _ _ b _] _ _ _] => b
  | _ => []
theorem sc__law_told : FnScope ["_law_work", "e", "_law_kinds", "_law_words", "_law_word"] ["_law_work"] (defScope s__law_told) := ⟨rfl, rfl, rfl, by decide +kernel, rfl, by decide +kernel, by decide +kernel⟩
/-- the context of _law_told's body, called with a lambda -/
abbrev toldCx (P : Program) (w : World) (K : PySem.W.Frag) (mg : Str → Option Value) (base : Heap) (cdg : Value) (A : Around) (st : List Env) (s : Shared) (H : Hp) : Cx := (cxOf C8.CX0 P w K mg base ["_law_work", "e", "_law_kinds", "_law_words", "_law_word"] "_law_told" (defScope s__law_told) (He.ga K "_law_told") cdg A st s H C8.E0).nox
def tsT (K : PySem.W.Frag) (a : Addr) (cls : Value) (d : Option Addr) : TS := fun D σ H => (∃ σ0 : L2.St, σ = σ0.set 1 (some (.ref a))) ∧ ∃ c ∈ tkindL, cls = .ref (He.ga K c) ∧ ∃ v, ResX K c d H v ∧ ∀ H'' t, Same H H'' → SqT K H'' t [.str c, v] → D.rt (.ref t) H''
def XdOk (d : Option Addr) (H : Hp) : Prop := ∀ dd, d = some dd → ∃ fs, H dd = some (.xd fs)
theorem XdOk.same {d : Option Addr} {H H' : Hp} (x : XdOk d H) (s : Same H H') : XdOk d H' := fun dd e => let ⟨fs, h⟩ := x dd e; ⟨fs, s _ _ h⟩
theorem none_back {H H' : Hp} {p : Addr} (s : Same H H') (h : H' p = none) : H p = none := by
  cases e : H p with
  | none => rfl
  | some o => rw [s _ _ e] at h; cases h
theorem resX_xd {c : Str} {d : Option Addr} {H : Hp} {v : V} (r : ResX K c d H v) : XdOk d H := by
  unfold ResX at r
  cases e : fieldOf c with
  | none =>
    rw [e] at r
    intro dd z
    rw [r.1] at z
    cases z
  | some f =>
    rw [e] at r
    obtain ⟨dd, fs, e1, e2, _⟩ := r
    intro dd' z
    rw [e1] at z
    rw [← Option.some.inj z]
    exact ⟨fs, e2⟩
def koL : List Str := [Str.ofString "BadCount", Str.ofString "BadKinds", Str.ofString "BadLog", Str.ofString "BadName", Str.ofString "BadNeeds", Str.ofString "BadPart", Str.ofString "BadPlan", Str.ofString "BadRank", Str.ofString "BadSteps", Str.ofString "BadText", Str.ofString "BadTick", Str.ofString "BadTries", Str.ofString "NoJob", Str.ofString "NoKind", Str.ofString "NoLease", Str.ofString "NoWorker", Str.ofString "Taken"]
theorem ko_at {c : Str} (hc : c ∈ tkindL) : ((koL.map fun x => V.bl (decide (c = x))).countP fun z => eqV z (V.bl true)) = 1 ∧ (koL.map fun x => V.bl (decide (c = x))).all flatV = true ∧
    ∃ j : Nat, koL[j]? = some c ∧ (koL.map fun x => V.bl (decide (c = x)))[j]? = some (V.bl true) ∧ ∀ (m : Nat) (z' : V), m < j → (koL.map fun x => V.bl (decide (c = x)))[m]? = some z' → eqV z' (V.bl true) = false := by
  have at_ : ∀ j : Nat, (((koL.map fun x => V.bl (decide (c = x))).take j).all fun z => !eqV z (V.bl true)) = true → ∀ (m : Nat) (z' : V), m < j → (koL.map fun x => V.bl (decide (c = x)))[m]? = some z' → eqV z' (V.bl true) = false := fun j h m z' hm ez => by
    have h2 := List.all_eq_true.mp h z' (List.mem_of_getElem? (by rw [List.getElem?_take_of_lt hm]; exact ez))
    simpa using h2
  unfold tkindL at hc
  simp only [List.mem_cons, List.not_mem_nil, or_false] at hc
  rcases hc with rfl | rfl | rfl | rfl | rfl | rfl | rfl | rfl | rfl | rfl | rfl | rfl | rfl | rfl | rfl | rfl | rfl
  · exact ⟨by decide +kernel, by decide +kernel, 0, by decide +kernel, by decide +kernel, at_ _ (by decide +kernel)⟩
  · exact ⟨by decide +kernel, by decide +kernel, 1, by decide +kernel, by decide +kernel, at_ _ (by decide +kernel)⟩
  · exact ⟨by decide +kernel, by decide +kernel, 2, by decide +kernel, by decide +kernel, at_ _ (by decide +kernel)⟩
  · exact ⟨by decide +kernel, by decide +kernel, 3, by decide +kernel, by decide +kernel, at_ _ (by decide +kernel)⟩
  · exact ⟨by decide +kernel, by decide +kernel, 16, by decide +kernel, by decide +kernel, at_ _ (by decide +kernel)⟩
  · exact ⟨by decide +kernel, by decide +kernel, 4, by decide +kernel, by decide +kernel, at_ _ (by decide +kernel)⟩
  · exact ⟨by decide +kernel, by decide +kernel, 5, by decide +kernel, by decide +kernel, at_ _ (by decide +kernel)⟩
  · exact ⟨by decide +kernel, by decide +kernel, 6, by decide +kernel, by decide +kernel, at_ _ (by decide +kernel)⟩
  · exact ⟨by decide +kernel, by decide +kernel, 7, by decide +kernel, by decide +kernel, at_ _ (by decide +kernel)⟩
  · exact ⟨by decide +kernel, by decide +kernel, 8, by decide +kernel, by decide +kernel, at_ _ (by decide +kernel)⟩
  · exact ⟨by decide +kernel, by decide +kernel, 9, by decide +kernel, by decide +kernel, at_ _ (by decide +kernel)⟩
  · exact ⟨by decide +kernel, by decide +kernel, 10, by decide +kernel, by decide +kernel, at_ _ (by decide +kernel)⟩
  · exact ⟨by decide +kernel, by decide +kernel, 11, by decide +kernel, by decide +kernel, at_ _ (by decide +kernel)⟩
  · exact ⟨by decide +kernel, by decide +kernel, 12, by decide +kernel, by decide +kernel, at_ _ (by decide +kernel)⟩
  · exact ⟨by decide +kernel, by decide +kernel, 13, by decide +kernel, by decide +kernel, at_ _ (by decide +kernel)⟩
  · exact ⟨by decide +kernel, by decide +kernel, 14, by decide +kernel, by decide +kernel, at_ _ (by decide +kernel)⟩
  · exact ⟨by decide +kernel, by decide +kernel, 15, by decide +kernel, by decide +kernel, at_ _ (by decide +kernel)⟩
theorem isx (T : Tp P w K mg base) {c x : Str} (hc : c ∈ tkindL) (hx : x ∈ tkindL) {a : Addr} {d : Option Addr} {H : Hp} {Q : VK} (xd : XdOk d H) (q : Q (.bl (decide (c = x))) H) : rIsX K (.ref (He.ga K c)) d a [.ref a, .ref (He.ga K x)] H Q := by
  unfold rIsX
  exact ⟨_, _, .ref (He.ga K x), _, rfl, (T.isC hc).ex, xd, rfl, fun _ r => r, (T.isC hc).kit x hx, q⟩
theorem in_logs {c : Str} (hc : c ∈ tkindL) : inV (V.str c) [V.str (Str.ofString "BadLog"), V.str (Str.ofString "BadPlan")] = decide (c = Str.ofString "BadLog" ∨ c = Str.ofString "BadPlan") := by
  unfold tkindL at hc
  simp only [List.mem_cons, List.not_mem_nil, or_false] at hc
  rcases hc with rfl | rfl | rfl | rfl | rfl | rfl | rfl | rfl | rfl | rfl | rfl | rfl | rfl | rfl | rfl | rfl | rfl <;> decide +kernel
theorem isve (T : Tp P w K mg base) {c : Str} (hc : c ∈ tkindL) {a : Addr} {d : Option Addr} {H : Hp} {Q : VK} (xd : XdOk d H) (q : Q (.bl true) H) : rIsX K (.ref (He.ga K c)) d a [.ref a, .ty "ValueError"] H Q := by
  unfold rIsX
  exact ⟨_, _, .type "ValueError", _, rfl, (T.isC hc).ex, xd, rfl, fun _ r => r, (T.isC hc).ve, q⟩
theorem Tp.laterC (T : Tp P w K mg base) {c : Str} (hc : c ∈ tkindL) : PySem.W.exmOne K (.ref (He.ga K c)) (.ref (He.ga K "LaterError")) = some true := by
  unfold tkindL at hc
  simp only [List.mem_cons, List.not_mem_nil, or_false] at hc
  rcases hc with rfl | rfl | rfl | rfl | rfl | rfl | rfl | rfl | rfl | rfl | rfl | rfl | rfl | rfl | rfl | rfl | rfl
  · exact T.e_BadCount
  · exact T.e_BadKinds
  · exact T.e_BadLog
  · exact T.e_BadName
  · exact T.e_Taken
  · exact T.e_BadNeeds
  · exact T.e_BadPart
  · exact T.e_BadPlan
  · exact T.e_BadRank
  · exact T.e_BadSteps
  · exact T.e_BadText
  · exact T.e_BadTick
  · exact T.e_BadTries
  · exact T.e_NoJob
  · exact T.e_NoKind
  · exact T.e_NoLease
  · exact T.e_NoWorker
theorem told_suite (T : Tp P w K mg base) {cdg : Value} {A : Around} {st : List Env} {s0 : Shared} {H0 : Hp} {a : Addr} {oe : Obj} {cls : Value} {d : Option Addr} {pn : List (Addr × Obj)} (hz : Zc cls d oe) (hf : ∃ vs, oe.data = .fields vs) :
    PSs ((toldCx P w K mg base cdg A st s0 H0).suite a ((a, oe) :: pn)) (suiteOf (defBody s__law_told)) (tsT K a cls d) := by
  refine ⟨fun pins s σ H D I h => ?_⟩
  have len : σ.length = 5 := I.len
  have S : ∃ t, PSs ((toldCx P w K mg base cdg A st s0 H0).suite a ((a, oe) :: pn)) (suiteOf (defBody s__law_told)) t ∧ t D σ H := by
    refine ⟨_, (pss_cons (ps_set (i := 2) sc__law_told.nd rfl (by first | exact .inl rfl | exact .inr rfl) (pe_lst (pa_cons (pe_callB (call_isX hz hf) rfl T.f_isinstance bt_isinstance (pa_cons (pv 1) (pa_cons (pe_gr rfl T.g_BadCount) pa_nil))) (pa_cons (pe_callB (call_isX hz hf) rfl T.f_isinstance bt_isinstance (pa_cons (pv 1) (pa_cons (pe_gr rfl T.g_BadKinds) pa_nil))) (pa_cons (pe_callB (call_isX hz hf) rfl T.f_isinstance bt_isinstance (pa_cons (pv 1) (pa_cons (pe_gr rfl T.g_BadLog) pa_nil))) (pa_cons (pe_callB (call_isX hz hf) rfl T.f_isinstance bt_isinstance (pa_cons (pv 1) (pa_cons (pe_gr rfl T.g_BadName) pa_nil))) pa_nil))))))
      (pss_cons (ps_set (i := 2) sc__law_told.nd rfl (by first | exact .inl rfl | exact .inr rfl) (pe_op op_cat (pv 2) (pe_lst (pa_cons (pe_callB (call_isX hz hf) rfl T.f_isinstance bt_isinstance (pa_cons (pv 1) (pa_cons (pe_gr rfl T.g_BadNeeds) pa_nil))) (pa_cons (pe_callB (call_isX hz hf) rfl T.f_isinstance bt_isinstance (pa_cons (pv 1) (pa_cons (pe_gr rfl T.g_BadPart) pa_nil))) (pa_cons (pe_callB (call_isX hz hf) rfl T.f_isinstance bt_isinstance (pa_cons (pv 1) (pa_cons (pe_gr rfl T.g_BadPlan) pa_nil))) pa_nil))))))
      (pss_cons (ps_set (i := 2) sc__law_told.nd rfl (by first | exact .inl rfl | exact .inr rfl) (pe_op op_cat (pv 2) (pe_lst (pa_cons (pe_callB (call_isX hz hf) rfl T.f_isinstance bt_isinstance (pa_cons (pv 1) (pa_cons (pe_gr rfl T.g_BadRank) pa_nil))) (pa_cons (pe_callB (call_isX hz hf) rfl T.f_isinstance bt_isinstance (pa_cons (pv 1) (pa_cons (pe_gr rfl T.g_BadSteps) pa_nil))) (pa_cons (pe_callB (call_isX hz hf) rfl T.f_isinstance bt_isinstance (pa_cons (pv 1) (pa_cons (pe_gr rfl T.g_BadText) pa_nil))) pa_nil))))))
      (pss_cons (ps_set (i := 2) sc__law_told.nd rfl (by first | exact .inl rfl | exact .inr rfl) (pe_op op_cat (pv 2) (pe_lst (pa_cons (pe_callB (call_isX hz hf) rfl T.f_isinstance bt_isinstance (pa_cons (pv 1) (pa_cons (pe_gr rfl T.g_BadTick) pa_nil))) (pa_cons (pe_callB (call_isX hz hf) rfl T.f_isinstance bt_isinstance (pa_cons (pv 1) (pa_cons (pe_gr rfl T.g_BadTries) pa_nil))) pa_nil)))))
      (pss_cons (ps_set (i := 2) sc__law_told.nd rfl (by first | exact .inl rfl | exact .inr rfl) (pe_op op_cat (pv 2) (pe_lst (pa_cons (pe_callB (call_isX hz hf) rfl T.f_isinstance bt_isinstance (pa_cons (pv 1) (pa_cons (pe_gr rfl T.g_NoJob) pa_nil))) (pa_cons (pe_callB (call_isX hz hf) rfl T.f_isinstance bt_isinstance (pa_cons (pv 1) (pa_cons (pe_gr rfl T.g_NoKind) pa_nil))) (pa_cons (pe_callB (call_isX hz hf) rfl T.f_isinstance bt_isinstance (pa_cons (pv 1) (pa_cons (pe_gr rfl T.g_NoLease) pa_nil))) (pa_cons (pe_callB (call_isX hz hf) rfl T.f_isinstance bt_isinstance (pa_cons (pv 1) (pa_cons (pe_gr rfl T.g_NoWorker) pa_nil))) pa_nil)))))))
      (pss_cons (ps_expr (pe_bm PySem.F.plainAttrs_list PySem.F.slot_list_append PySem.F.type_list_append mt_append (pv 2) (pa_cons (pe_callB (call_isX hz hf) rfl T.f_isinstance bt_isinstance (pa_cons (pv 1) (pa_cons (pe_gr rfl T.g_Taken) pa_nil))) pa_nil)))
      (pss_cons (ps_if (PW.pt (pw_or (pt_cmpR op_ne (pe_bm PySem.F.plainAttrs_list PySem.F.slot_list_count PySem.F.type_list_count mt_countF (pv 2) (pa_cons pe_bl pa_nil)) pe_int (nomark _)) (pw_or1 (pt_not (pt_val (pe_callB (call_isX hz hf) rfl T.f_isinstance bt_isinstance (pa_cons (pv 1) (pa_cons (pe_ty rfl T.f_ValueError bt_ValueError) pa_nil)))))))) (pss_one (ps_ret (pe_tup (pa_cons pe_str (pa_cons pe_int pa_nil))))) pss_nil)
      (pss_cons (ps_set (i := 3) sc__law_told.nd rfl (by first | exact .inl rfl | exact .inr rfl) (pe_lst (pa_cons pe_str (pa_cons pe_str (pa_cons pe_str (pa_cons pe_str (pa_cons pe_str (pa_cons pe_str (pa_cons pe_str (pa_cons pe_str (pa_cons pe_str pa_nil)))))))))))
      (pss_cons (ps_set (i := 3) sc__law_told.nd rfl (by first | exact .inl rfl | exact .inr rfl) (pe_op op_cat (pv 3) (pe_lst (pa_cons pe_str (pa_cons pe_str (pa_cons pe_str (pa_cons pe_str (pa_cons pe_str (pa_cons pe_str (pa_cons pe_str (pa_cons pe_str pa_nil)))))))))))
      (pss_cons (ps_set (i := 4) sc__law_told.nd rfl (by first | exact .inl rfl | exact .inr rfl) (pe_ix ix_list (pv 3) (pe_bm PySem.F.plainAttrs_list PySem.F.slot_list_index PySem.F.type_list_index mt_index (pv 2) (pa_cons pe_bl pa_nil)) (fun _ _ => rfl)))
      (pss_cons (ps_if (pt_cmpR op_in_seq (pv 4) (pe_tup (pa_cons pe_str (pa_cons pe_str pa_nil))) (by rfl)) (pss_one (ps_ret (pe_tup (pa_cons (pv 4) (pa_cons (pe_xfX hz hf (pv 1)) pa_nil))))) pss_nil)
      (pss_one (ps_ret (pe_tup (pa_cons (pv 4) (pa_cons (pe_ifExp (pt_cmpR op_eq (pv 4) pe_str (nomark _)) (pe_xfX hz hf (pv 1)) pe_int) pa_nil)))))))))))))))), ?_⟩
    clear I
    obtain ⟨⟨σ0, rfl⟩, c, hc, rfl, v, hres, q⟩ := h
    rw [List.length_set] at len
    obtain ⟨x0, x1, x2, x3, x4, rfl⟩ : ∃ x0 x1 x2 x3 x4, σ0 = [x0, x1, x2, x3, x4] := by
      match σ0, len with
      | [x0, x1, x2, x3, x4], _ => exact ⟨x0, x1, x2, x3, x4, rfl⟩
    have xd0 := resX_xd hres
    have xd := xd0
    refine ⟨_, rfl, isx T (x := (Str.ofString "BadCount")) hc (by simp [tkindL]) xd ?_⟩
    refine ⟨_, rfl, isx T (x := (Str.ofString "BadKinds")) hc (by simp [tkindL]) xd ?_⟩
    refine ⟨_, rfl, isx T (x := (Str.ofString "BadLog")) hc (by simp [tkindL]) xd ?_⟩
    refine ⟨_, rfl, isx T (x := (Str.ofString "BadName")) hc (by simp [tkindL]) xd ?_⟩
    refine ⟨by show 4 ≤ sizeLine; decide, fun p1 hp1 => ?_⟩
    have s1 := same_new (o := .lst ([V.bl (decide (c = (Str.ofString "BadCount"))), V.bl (decide (c = (Str.ofString "BadKinds"))), V.bl (decide (c = (Str.ofString "BadLog"))), V.bl (decide (c = (Str.ofString "BadName")))] : List V)) hp1
    have e1 : L2.upd H p1 (.lst ([V.bl (decide (c = (Str.ofString "BadCount"))), V.bl (decide (c = (Str.ofString "BadKinds"))), V.bl (decide (c = (Str.ofString "BadLog"))), V.bl (decide (c = (Str.ofString "BadName")))] : List V)) p1 = some (.lst ([V.bl (decide (c = (Str.ofString "BadCount"))), V.bl (decide (c = (Str.ofString "BadKinds"))), V.bl (decide (c = (Str.ofString "BadLog"))), V.bl (decide (c = (Str.ofString "BadName")))] : List V)) := upd_same
    generalize L2.upd H p1 (.lst ([V.bl (decide (c = (Str.ofString "BadCount"))), V.bl (decide (c = (Str.ofString "BadKinds"))), V.bl (decide (c = (Str.ofString "BadLog"))), V.bl (decide (c = (Str.ofString "BadName")))] : List V)) = H1 at s1 e1 ⊢
    replace xd := xd.same s1
    clear hp1
    refine gnI ⟨_, rfl, ?_⟩
    refine ⟨_, rfl, isx T (x := (Str.ofString "BadNeeds")) hc (by simp [tkindL]) xd ?_⟩
    refine ⟨_, rfl, isx T (x := (Str.ofString "BadPart")) hc (by simp [tkindL]) xd ?_⟩
    refine ⟨_, rfl, isx T (x := (Str.ofString "BadPlan")) hc (by simp [tkindL]) xd ?_⟩
    refine ⟨by show 3 ≤ sizeLine; decide, fun p2 hp2 => ?_⟩
    have s2 := same_new (o := .lst ([V.bl (decide (c = (Str.ofString "BadNeeds"))), V.bl (decide (c = (Str.ofString "BadPart"))), V.bl (decide (c = (Str.ofString "BadPlan")))] : List V)) hp2
    have e2 : L2.upd H1 p2 (.lst ([V.bl (decide (c = (Str.ofString "BadNeeds"))), V.bl (decide (c = (Str.ofString "BadPart"))), V.bl (decide (c = (Str.ofString "BadPlan")))] : List V)) p2 = some (.lst ([V.bl (decide (c = (Str.ofString "BadNeeds"))), V.bl (decide (c = (Str.ofString "BadPart"))), V.bl (decide (c = (Str.ofString "BadPlan")))] : List V)) := upd_same
    generalize L2.upd H1 p2 (.lst ([V.bl (decide (c = (Str.ofString "BadNeeds"))), V.bl (decide (c = (Str.ofString "BadPart"))), V.bl (decide (c = (Str.ofString "BadPlan")))] : List V)) = H2 at s2 e2 ⊢
    replace xd := xd.same s2
    clear hp2
    refine ⟨p1, p2, _, _, rfl, rfl, s2 _ _ e1, e2, by show 7 ≤ sizeLine; decide, fun p3 hp3 => ?_⟩
    have s3 := same_new (o := .lst ([V.bl (decide (c = (Str.ofString "BadCount"))), V.bl (decide (c = (Str.ofString "BadKinds"))), V.bl (decide (c = (Str.ofString "BadLog"))), V.bl (decide (c = (Str.ofString "BadName")))] ++ [V.bl (decide (c = (Str.ofString "BadNeeds"))), V.bl (decide (c = (Str.ofString "BadPart"))), V.bl (decide (c = (Str.ofString "BadPlan")))] : List V)) hp3
    have e3 : L2.upd H2 p3 (.lst ([V.bl (decide (c = (Str.ofString "BadCount"))), V.bl (decide (c = (Str.ofString "BadKinds"))), V.bl (decide (c = (Str.ofString "BadLog"))), V.bl (decide (c = (Str.ofString "BadName")))] ++ [V.bl (decide (c = (Str.ofString "BadNeeds"))), V.bl (decide (c = (Str.ofString "BadPart"))), V.bl (decide (c = (Str.ofString "BadPlan")))] : List V)) p3 = some (.lst [V.bl (decide (c = (Str.ofString "BadCount"))), V.bl (decide (c = (Str.ofString "BadKinds"))), V.bl (decide (c = (Str.ofString "BadLog"))), V.bl (decide (c = (Str.ofString "BadName"))), V.bl (decide (c = (Str.ofString "BadNeeds"))), V.bl (decide (c = (Str.ofString "BadPart"))), V.bl (decide (c = (Str.ofString "BadPlan")))]) := upd_same
    generalize L2.upd H2 p3 (.lst ([V.bl (decide (c = (Str.ofString "BadCount"))), V.bl (decide (c = (Str.ofString "BadKinds"))), V.bl (decide (c = (Str.ofString "BadLog"))), V.bl (decide (c = (Str.ofString "BadName")))] ++ [V.bl (decide (c = (Str.ofString "BadNeeds"))), V.bl (decide (c = (Str.ofString "BadPart"))), V.bl (decide (c = (Str.ofString "BadPlan")))] : List V)) = H3 at s3 e3 ⊢
    replace xd := xd.same s3
    have n3 : H p3 = none := none_back ((Same.trans' s1 s2)) hp3
    clear hp3
    refine gnI ⟨_, rfl, ?_⟩
    refine ⟨_, rfl, isx T (x := (Str.ofString "BadRank")) hc (by simp [tkindL]) xd ?_⟩
    refine ⟨_, rfl, isx T (x := (Str.ofString "BadSteps")) hc (by simp [tkindL]) xd ?_⟩
    refine ⟨_, rfl, isx T (x := (Str.ofString "BadText")) hc (by simp [tkindL]) xd ?_⟩
    refine ⟨by show 3 ≤ sizeLine; decide, fun p4 hp4 => ?_⟩
    have s4 := same_new (o := .lst ([V.bl (decide (c = (Str.ofString "BadRank"))), V.bl (decide (c = (Str.ofString "BadSteps"))), V.bl (decide (c = (Str.ofString "BadText")))] : List V)) hp4
    have e4 : L2.upd H3 p4 (.lst ([V.bl (decide (c = (Str.ofString "BadRank"))), V.bl (decide (c = (Str.ofString "BadSteps"))), V.bl (decide (c = (Str.ofString "BadText")))] : List V)) p4 = some (.lst ([V.bl (decide (c = (Str.ofString "BadRank"))), V.bl (decide (c = (Str.ofString "BadSteps"))), V.bl (decide (c = (Str.ofString "BadText")))] : List V)) := upd_same
    generalize L2.upd H3 p4 (.lst ([V.bl (decide (c = (Str.ofString "BadRank"))), V.bl (decide (c = (Str.ofString "BadSteps"))), V.bl (decide (c = (Str.ofString "BadText")))] : List V)) = H4 at s4 e4 ⊢
    replace xd := xd.same s4
    clear hp4
    refine ⟨p3, p4, _, _, rfl, rfl, s4 _ _ e3, e4, by show 10 ≤ sizeLine; decide, fun p5 hp5 => ?_⟩
    have s5 := same_new (o := .lst ([V.bl (decide (c = (Str.ofString "BadCount"))), V.bl (decide (c = (Str.ofString "BadKinds"))), V.bl (decide (c = (Str.ofString "BadLog"))), V.bl (decide (c = (Str.ofString "BadName"))), V.bl (decide (c = (Str.ofString "BadNeeds"))), V.bl (decide (c = (Str.ofString "BadPart"))), V.bl (decide (c = (Str.ofString "BadPlan")))] ++ [V.bl (decide (c = (Str.ofString "BadRank"))), V.bl (decide (c = (Str.ofString "BadSteps"))), V.bl (decide (c = (Str.ofString "BadText")))] : List V)) hp5
    have e5 : L2.upd H4 p5 (.lst ([V.bl (decide (c = (Str.ofString "BadCount"))), V.bl (decide (c = (Str.ofString "BadKinds"))), V.bl (decide (c = (Str.ofString "BadLog"))), V.bl (decide (c = (Str.ofString "BadName"))), V.bl (decide (c = (Str.ofString "BadNeeds"))), V.bl (decide (c = (Str.ofString "BadPart"))), V.bl (decide (c = (Str.ofString "BadPlan")))] ++ [V.bl (decide (c = (Str.ofString "BadRank"))), V.bl (decide (c = (Str.ofString "BadSteps"))), V.bl (decide (c = (Str.ofString "BadText")))] : List V)) p5 = some (.lst [V.bl (decide (c = (Str.ofString "BadCount"))), V.bl (decide (c = (Str.ofString "BadKinds"))), V.bl (decide (c = (Str.ofString "BadLog"))), V.bl (decide (c = (Str.ofString "BadName"))), V.bl (decide (c = (Str.ofString "BadNeeds"))), V.bl (decide (c = (Str.ofString "BadPart"))), V.bl (decide (c = (Str.ofString "BadPlan"))), V.bl (decide (c = (Str.ofString "BadRank"))), V.bl (decide (c = (Str.ofString "BadSteps"))), V.bl (decide (c = (Str.ofString "BadText")))]) := upd_same
    generalize L2.upd H4 p5 (.lst ([V.bl (decide (c = (Str.ofString "BadCount"))), V.bl (decide (c = (Str.ofString "BadKinds"))), V.bl (decide (c = (Str.ofString "BadLog"))), V.bl (decide (c = (Str.ofString "BadName"))), V.bl (decide (c = (Str.ofString "BadNeeds"))), V.bl (decide (c = (Str.ofString "BadPart"))), V.bl (decide (c = (Str.ofString "BadPlan")))] ++ [V.bl (decide (c = (Str.ofString "BadRank"))), V.bl (decide (c = (Str.ofString "BadSteps"))), V.bl (decide (c = (Str.ofString "BadText")))] : List V)) = H5 at s5 e5 ⊢
    replace xd := xd.same s5
    have n5 : H p5 = none := none_back ((Same.trans' (Same.trans' (Same.trans' s1 s2) s3) s4)) hp5
    clear hp5
    refine gnI ⟨_, rfl, ?_⟩
    refine ⟨_, rfl, isx T (x := (Str.ofString "BadTick")) hc (by simp [tkindL]) xd ?_⟩
    refine ⟨_, rfl, isx T (x := (Str.ofString "BadTries")) hc (by simp [tkindL]) xd ?_⟩
    refine ⟨by show 2 ≤ sizeLine; decide, fun p6 hp6 => ?_⟩
    have s6 := same_new (o := .lst ([V.bl (decide (c = (Str.ofString "BadTick"))), V.bl (decide (c = (Str.ofString "BadTries")))] : List V)) hp6
    have e6 : L2.upd H5 p6 (.lst ([V.bl (decide (c = (Str.ofString "BadTick"))), V.bl (decide (c = (Str.ofString "BadTries")))] : List V)) p6 = some (.lst ([V.bl (decide (c = (Str.ofString "BadTick"))), V.bl (decide (c = (Str.ofString "BadTries")))] : List V)) := upd_same
    generalize L2.upd H5 p6 (.lst ([V.bl (decide (c = (Str.ofString "BadTick"))), V.bl (decide (c = (Str.ofString "BadTries")))] : List V)) = H6 at s6 e6 ⊢
    replace xd := xd.same s6
    clear hp6
    refine ⟨p5, p6, _, _, rfl, rfl, s6 _ _ e5, e6, by show 12 ≤ sizeLine; decide, fun p7 hp7 => ?_⟩
    have s7 := same_new (o := .lst ([V.bl (decide (c = (Str.ofString "BadCount"))), V.bl (decide (c = (Str.ofString "BadKinds"))), V.bl (decide (c = (Str.ofString "BadLog"))), V.bl (decide (c = (Str.ofString "BadName"))), V.bl (decide (c = (Str.ofString "BadNeeds"))), V.bl (decide (c = (Str.ofString "BadPart"))), V.bl (decide (c = (Str.ofString "BadPlan"))), V.bl (decide (c = (Str.ofString "BadRank"))), V.bl (decide (c = (Str.ofString "BadSteps"))), V.bl (decide (c = (Str.ofString "BadText")))] ++ [V.bl (decide (c = (Str.ofString "BadTick"))), V.bl (decide (c = (Str.ofString "BadTries")))] : List V)) hp7
    have e7 : L2.upd H6 p7 (.lst ([V.bl (decide (c = (Str.ofString "BadCount"))), V.bl (decide (c = (Str.ofString "BadKinds"))), V.bl (decide (c = (Str.ofString "BadLog"))), V.bl (decide (c = (Str.ofString "BadName"))), V.bl (decide (c = (Str.ofString "BadNeeds"))), V.bl (decide (c = (Str.ofString "BadPart"))), V.bl (decide (c = (Str.ofString "BadPlan"))), V.bl (decide (c = (Str.ofString "BadRank"))), V.bl (decide (c = (Str.ofString "BadSteps"))), V.bl (decide (c = (Str.ofString "BadText")))] ++ [V.bl (decide (c = (Str.ofString "BadTick"))), V.bl (decide (c = (Str.ofString "BadTries")))] : List V)) p7 = some (.lst [V.bl (decide (c = (Str.ofString "BadCount"))), V.bl (decide (c = (Str.ofString "BadKinds"))), V.bl (decide (c = (Str.ofString "BadLog"))), V.bl (decide (c = (Str.ofString "BadName"))), V.bl (decide (c = (Str.ofString "BadNeeds"))), V.bl (decide (c = (Str.ofString "BadPart"))), V.bl (decide (c = (Str.ofString "BadPlan"))), V.bl (decide (c = (Str.ofString "BadRank"))), V.bl (decide (c = (Str.ofString "BadSteps"))), V.bl (decide (c = (Str.ofString "BadText"))), V.bl (decide (c = (Str.ofString "BadTick"))), V.bl (decide (c = (Str.ofString "BadTries")))]) := upd_same
    generalize L2.upd H6 p7 (.lst ([V.bl (decide (c = (Str.ofString "BadCount"))), V.bl (decide (c = (Str.ofString "BadKinds"))), V.bl (decide (c = (Str.ofString "BadLog"))), V.bl (decide (c = (Str.ofString "BadName"))), V.bl (decide (c = (Str.ofString "BadNeeds"))), V.bl (decide (c = (Str.ofString "BadPart"))), V.bl (decide (c = (Str.ofString "BadPlan"))), V.bl (decide (c = (Str.ofString "BadRank"))), V.bl (decide (c = (Str.ofString "BadSteps"))), V.bl (decide (c = (Str.ofString "BadText")))] ++ [V.bl (decide (c = (Str.ofString "BadTick"))), V.bl (decide (c = (Str.ofString "BadTries")))] : List V)) = H7 at s7 e7 ⊢
    replace xd := xd.same s7
    have n7 : H p7 = none := none_back ((Same.trans' (Same.trans' (Same.trans' (Same.trans' (Same.trans' s1 s2) s3) s4) s5) s6)) hp7
    clear hp7
    refine gnI ⟨_, rfl, ?_⟩
    refine ⟨_, rfl, isx T (x := (Str.ofString "NoJob")) hc (by simp [tkindL]) xd ?_⟩
    refine ⟨_, rfl, isx T (x := (Str.ofString "NoKind")) hc (by simp [tkindL]) xd ?_⟩
    refine ⟨_, rfl, isx T (x := (Str.ofString "NoLease")) hc (by simp [tkindL]) xd ?_⟩
    refine ⟨_, rfl, isx T (x := (Str.ofString "NoWorker")) hc (by simp [tkindL]) xd ?_⟩
    refine ⟨by show 4 ≤ sizeLine; decide, fun p8 hp8 => ?_⟩
    have s8 := same_new (o := .lst ([V.bl (decide (c = (Str.ofString "NoJob"))), V.bl (decide (c = (Str.ofString "NoKind"))), V.bl (decide (c = (Str.ofString "NoLease"))), V.bl (decide (c = (Str.ofString "NoWorker")))] : List V)) hp8
    have e8 : L2.upd H7 p8 (.lst ([V.bl (decide (c = (Str.ofString "NoJob"))), V.bl (decide (c = (Str.ofString "NoKind"))), V.bl (decide (c = (Str.ofString "NoLease"))), V.bl (decide (c = (Str.ofString "NoWorker")))] : List V)) p8 = some (.lst ([V.bl (decide (c = (Str.ofString "NoJob"))), V.bl (decide (c = (Str.ofString "NoKind"))), V.bl (decide (c = (Str.ofString "NoLease"))), V.bl (decide (c = (Str.ofString "NoWorker")))] : List V)) := upd_same
    generalize L2.upd H7 p8 (.lst ([V.bl (decide (c = (Str.ofString "NoJob"))), V.bl (decide (c = (Str.ofString "NoKind"))), V.bl (decide (c = (Str.ofString "NoLease"))), V.bl (decide (c = (Str.ofString "NoWorker")))] : List V)) = H8 at s8 e8 ⊢
    replace xd := xd.same s8
    clear hp8
    refine ⟨p7, p8, _, _, rfl, rfl, s8 _ _ e7, e8, by show 16 ≤ sizeLine; decide, fun p9 hp9 => ?_⟩
    have s9 := same_new (o := .lst ([V.bl (decide (c = (Str.ofString "BadCount"))), V.bl (decide (c = (Str.ofString "BadKinds"))), V.bl (decide (c = (Str.ofString "BadLog"))), V.bl (decide (c = (Str.ofString "BadName"))), V.bl (decide (c = (Str.ofString "BadNeeds"))), V.bl (decide (c = (Str.ofString "BadPart"))), V.bl (decide (c = (Str.ofString "BadPlan"))), V.bl (decide (c = (Str.ofString "BadRank"))), V.bl (decide (c = (Str.ofString "BadSteps"))), V.bl (decide (c = (Str.ofString "BadText"))), V.bl (decide (c = (Str.ofString "BadTick"))), V.bl (decide (c = (Str.ofString "BadTries")))] ++ [V.bl (decide (c = (Str.ofString "NoJob"))), V.bl (decide (c = (Str.ofString "NoKind"))), V.bl (decide (c = (Str.ofString "NoLease"))), V.bl (decide (c = (Str.ofString "NoWorker")))] : List V)) hp9
    have e9 : L2.upd H8 p9 (.lst ([V.bl (decide (c = (Str.ofString "BadCount"))), V.bl (decide (c = (Str.ofString "BadKinds"))), V.bl (decide (c = (Str.ofString "BadLog"))), V.bl (decide (c = (Str.ofString "BadName"))), V.bl (decide (c = (Str.ofString "BadNeeds"))), V.bl (decide (c = (Str.ofString "BadPart"))), V.bl (decide (c = (Str.ofString "BadPlan"))), V.bl (decide (c = (Str.ofString "BadRank"))), V.bl (decide (c = (Str.ofString "BadSteps"))), V.bl (decide (c = (Str.ofString "BadText"))), V.bl (decide (c = (Str.ofString "BadTick"))), V.bl (decide (c = (Str.ofString "BadTries")))] ++ [V.bl (decide (c = (Str.ofString "NoJob"))), V.bl (decide (c = (Str.ofString "NoKind"))), V.bl (decide (c = (Str.ofString "NoLease"))), V.bl (decide (c = (Str.ofString "NoWorker")))] : List V)) p9 = some (.lst [V.bl (decide (c = (Str.ofString "BadCount"))), V.bl (decide (c = (Str.ofString "BadKinds"))), V.bl (decide (c = (Str.ofString "BadLog"))), V.bl (decide (c = (Str.ofString "BadName"))), V.bl (decide (c = (Str.ofString "BadNeeds"))), V.bl (decide (c = (Str.ofString "BadPart"))), V.bl (decide (c = (Str.ofString "BadPlan"))), V.bl (decide (c = (Str.ofString "BadRank"))), V.bl (decide (c = (Str.ofString "BadSteps"))), V.bl (decide (c = (Str.ofString "BadText"))), V.bl (decide (c = (Str.ofString "BadTick"))), V.bl (decide (c = (Str.ofString "BadTries"))), V.bl (decide (c = (Str.ofString "NoJob"))), V.bl (decide (c = (Str.ofString "NoKind"))), V.bl (decide (c = (Str.ofString "NoLease"))), V.bl (decide (c = (Str.ofString "NoWorker")))]) := upd_same
    generalize L2.upd H8 p9 (.lst ([V.bl (decide (c = (Str.ofString "BadCount"))), V.bl (decide (c = (Str.ofString "BadKinds"))), V.bl (decide (c = (Str.ofString "BadLog"))), V.bl (decide (c = (Str.ofString "BadName"))), V.bl (decide (c = (Str.ofString "BadNeeds"))), V.bl (decide (c = (Str.ofString "BadPart"))), V.bl (decide (c = (Str.ofString "BadPlan"))), V.bl (decide (c = (Str.ofString "BadRank"))), V.bl (decide (c = (Str.ofString "BadSteps"))), V.bl (decide (c = (Str.ofString "BadText"))), V.bl (decide (c = (Str.ofString "BadTick"))), V.bl (decide (c = (Str.ofString "BadTries")))] ++ [V.bl (decide (c = (Str.ofString "NoJob"))), V.bl (decide (c = (Str.ofString "NoKind"))), V.bl (decide (c = (Str.ofString "NoLease"))), V.bl (decide (c = (Str.ofString "NoWorker")))] : List V)) = H9 at s9 e9 ⊢
    replace xd := xd.same s9
    have n9 : H p9 = none := none_back ((Same.trans' (Same.trans' (Same.trans' (Same.trans' (Same.trans' (Same.trans' (Same.trans' s1 s2) s3) s4) s5) s6) s7) s8)) hp9
    clear hp9
    refine gnI ⟨_, rfl, .inl ⟨rfl, _, SqL.of e9⟩, _, rfl, isx T (x := (Str.ofString "Taken")) hc (by simp [tkindL]) xd ⟨p9, _, _, rfl, rfl, e9, by show 16 + 1 ≤ sizeLine; decide, ?_⟩⟩
    have eF : L2.upd H9 p9 (.lst ([V.bl (decide (c = (Str.ofString "BadCount"))), V.bl (decide (c = (Str.ofString "BadKinds"))), V.bl (decide (c = (Str.ofString "BadLog"))), V.bl (decide (c = (Str.ofString "BadName"))), V.bl (decide (c = (Str.ofString "BadNeeds"))), V.bl (decide (c = (Str.ofString "BadPart"))), V.bl (decide (c = (Str.ofString "BadPlan"))), V.bl (decide (c = (Str.ofString "BadRank"))), V.bl (decide (c = (Str.ofString "BadSteps"))), V.bl (decide (c = (Str.ofString "BadText"))), V.bl (decide (c = (Str.ofString "BadTick"))), V.bl (decide (c = (Str.ofString "BadTries"))), V.bl (decide (c = (Str.ofString "NoJob"))), V.bl (decide (c = (Str.ofString "NoKind"))), V.bl (decide (c = (Str.ofString "NoLease"))), V.bl (decide (c = (Str.ofString "NoWorker")))] ++ [V.bl (decide (c = (Str.ofString "Taken")))])) p9 = some (.lst (koL.map fun x => V.bl (decide (c = x)))) := upd_same
    have sF : Same H (L2.upd H9 p9 (.lst ([V.bl (decide (c = (Str.ofString "BadCount"))), V.bl (decide (c = (Str.ofString "BadKinds"))), V.bl (decide (c = (Str.ofString "BadLog"))), V.bl (decide (c = (Str.ofString "BadName"))), V.bl (decide (c = (Str.ofString "BadNeeds"))), V.bl (decide (c = (Str.ofString "BadPart"))), V.bl (decide (c = (Str.ofString "BadPlan"))), V.bl (decide (c = (Str.ofString "BadRank"))), V.bl (decide (c = (Str.ofString "BadSteps"))), V.bl (decide (c = (Str.ofString "BadText"))), V.bl (decide (c = (Str.ofString "BadTick"))), V.bl (decide (c = (Str.ofString "BadTries"))), V.bl (decide (c = (Str.ofString "NoJob"))), V.bl (decide (c = (Str.ofString "NoKind"))), V.bl (decide (c = (Str.ofString "NoLease"))), V.bl (decide (c = (Str.ofString "NoWorker")))] ++ [V.bl (decide (c = (Str.ofString "Taken")))]))) := Same.put (Same.trans' (Same.trans' (Same.trans' (Same.trans' (Same.trans' (Same.trans' (Same.trans' (Same.trans' s1 s2) s3) s4) s5) s6) s7) s8) s9) n9
    replace xd : XdOk d (L2.upd H9 p9 (.lst ([V.bl (decide (c = (Str.ofString "BadCount"))), V.bl (decide (c = (Str.ofString "BadKinds"))), V.bl (decide (c = (Str.ofString "BadLog"))), V.bl (decide (c = (Str.ofString "BadName"))), V.bl (decide (c = (Str.ofString "BadNeeds"))), V.bl (decide (c = (Str.ofString "BadPart"))), V.bl (decide (c = (Str.ofString "BadPlan"))), V.bl (decide (c = (Str.ofString "BadRank"))), V.bl (decide (c = (Str.ofString "BadSteps"))), V.bl (decide (c = (Str.ofString "BadText"))), V.bl (decide (c = (Str.ofString "BadTick"))), V.bl (decide (c = (Str.ofString "BadTries"))), V.bl (decide (c = (Str.ofString "NoJob"))), V.bl (decide (c = (Str.ofString "NoKind"))), V.bl (decide (c = (Str.ofString "NoLease"))), V.bl (decide (c = (Str.ofString "NoWorker")))] ++ [V.bl (decide (c = (Str.ofString "Taken")))]))) := xd0.same sF
    generalize L2.upd H9 p9 (.lst ([V.bl (decide (c = (Str.ofString "BadCount"))), V.bl (decide (c = (Str.ofString "BadKinds"))), V.bl (decide (c = (Str.ofString "BadLog"))), V.bl (decide (c = (Str.ofString "BadName"))), V.bl (decide (c = (Str.ofString "BadNeeds"))), V.bl (decide (c = (Str.ofString "BadPart"))), V.bl (decide (c = (Str.ofString "BadPlan"))), V.bl (decide (c = (Str.ofString "BadRank"))), V.bl (decide (c = (Str.ofString "BadSteps"))), V.bl (decide (c = (Str.ofString "BadText"))), V.bl (decide (c = (Str.ofString "BadTick"))), V.bl (decide (c = (Str.ofString "BadTries"))), V.bl (decide (c = (Str.ofString "NoJob"))), V.bl (decide (c = (Str.ofString "NoKind"))), V.bl (decide (c = (Str.ofString "NoLease"))), V.bl (decide (c = (Str.ofString "NoWorker")))] ++ [V.bl (decide (c = (Str.ofString "Taken")))])) = HF at eF sF xd ⊢
    obtain ⟨cnt, fl, j, wj, bj, nj⟩ := ko_at hc
    refine ⟨_, rfl, .inl ⟨rfl, _, SqL.of eF⟩, p9, _, _, rfl, rfl, SqL.of eF, rfl, fl, ?_⟩
    rw [cnt]
    refine ⟨rfl, _, rfl, nF rfl ⟨_, rfl, isve T hc xd ⟨_, rfl, ?_⟩⟩⟩
    refine ⟨by show 9 ≤ sizeLine; decide, fun pA hpA => gnI ⟨_, rfl, by show 8 ≤ sizeLine; decide, fun pB hpB => ?_⟩⟩
    have sA := same_new (o := .lst ([V.str (Str.ofString "BadCount"), V.str (Str.ofString "BadKinds"), V.str (Str.ofString "BadLog"), V.str (Str.ofString "BadName"), V.str (Str.ofString "BadNeeds"), V.str (Str.ofString "BadPart"), V.str (Str.ofString "BadPlan"), V.str (Str.ofString "BadRank"), V.str (Str.ofString "BadSteps")] : List V)) hpA
    have eA : L2.upd HF pA (.lst ([V.str (Str.ofString "BadCount"), V.str (Str.ofString "BadKinds"), V.str (Str.ofString "BadLog"), V.str (Str.ofString "BadName"), V.str (Str.ofString "BadNeeds"), V.str (Str.ofString "BadPart"), V.str (Str.ofString "BadPlan"), V.str (Str.ofString "BadRank"), V.str (Str.ofString "BadSteps")] : List V)) pA = some (.lst [V.str (Str.ofString "BadCount"), V.str (Str.ofString "BadKinds"), V.str (Str.ofString "BadLog"), V.str (Str.ofString "BadName"), V.str (Str.ofString "BadNeeds"), V.str (Str.ofString "BadPart"), V.str (Str.ofString "BadPlan"), V.str (Str.ofString "BadRank"), V.str (Str.ofString "BadSteps")]) := upd_same
    generalize L2.upd HF pA (.lst ([V.str (Str.ofString "BadCount"), V.str (Str.ofString "BadKinds"), V.str (Str.ofString "BadLog"), V.str (Str.ofString "BadName"), V.str (Str.ofString "BadNeeds"), V.str (Str.ofString "BadPart"), V.str (Str.ofString "BadPlan"), V.str (Str.ofString "BadRank"), V.str (Str.ofString "BadSteps")] : List V)) = HA at sA eA hpB ⊢
    have sB := same_new (o := .lst ([V.str (Str.ofString "BadText"), V.str (Str.ofString "BadTick"), V.str (Str.ofString "BadTries"), V.str (Str.ofString "NoJob"), V.str (Str.ofString "NoKind"), V.str (Str.ofString "NoLease"), V.str (Str.ofString "NoWorker"), V.str (Str.ofString "Taken")] : List V)) hpB
    refine ⟨pA, pB, _, _, rfl, rfl, sB _ _ eA, upd_same, by show 9 + 8 ≤ sizeLine; decide, fun pC hpC => ?_⟩
    have sC := same_new (o := .lst ([V.str (Str.ofString "BadCount"), V.str (Str.ofString "BadKinds"), V.str (Str.ofString "BadLog"), V.str (Str.ofString "BadName"), V.str (Str.ofString "BadNeeds"), V.str (Str.ofString "BadPart"), V.str (Str.ofString "BadPlan"), V.str (Str.ofString "BadRank"), V.str (Str.ofString "BadSteps")] ++ [V.str (Str.ofString "BadText"), V.str (Str.ofString "BadTick"), V.str (Str.ofString "BadTries"), V.str (Str.ofString "NoJob"), V.str (Str.ofString "NoKind"), V.str (Str.ofString "NoLease"), V.str (Str.ofString "NoWorker"), V.str (Str.ofString "Taken")] : List V)) hpC
    have eC : L2.upd (L2.upd HA pB (.lst ([V.str (Str.ofString "BadText"), V.str (Str.ofString "BadTick"), V.str (Str.ofString "BadTries"), V.str (Str.ofString "NoJob"), V.str (Str.ofString "NoKind"), V.str (Str.ofString "NoLease"), V.str (Str.ofString "NoWorker"), V.str (Str.ofString "Taken")] : List V))) pC (.lst ([V.str (Str.ofString "BadCount"), V.str (Str.ofString "BadKinds"), V.str (Str.ofString "BadLog"), V.str (Str.ofString "BadName"), V.str (Str.ofString "BadNeeds"), V.str (Str.ofString "BadPart"), V.str (Str.ofString "BadPlan"), V.str (Str.ofString "BadRank"), V.str (Str.ofString "BadSteps")] ++ [V.str (Str.ofString "BadText"), V.str (Str.ofString "BadTick"), V.str (Str.ofString "BadTries"), V.str (Str.ofString "NoJob"), V.str (Str.ofString "NoKind"), V.str (Str.ofString "NoLease"), V.str (Str.ofString "NoWorker"), V.str (Str.ofString "Taken")] : List V)) pC = some (.lst (koL.map V.str)) := upd_same
    have sG : Same HF _ := Same.trans' sA (Same.trans' sB sC)
    generalize L2.upd (L2.upd HA pB (.lst ([V.str (Str.ofString "BadText"), V.str (Str.ofString "BadTick"), V.str (Str.ofString "BadTries"), V.str (Str.ofString "NoJob"), V.str (Str.ofString "NoKind"), V.str (Str.ofString "NoLease"), V.str (Str.ofString "NoWorker"), V.str (Str.ofString "Taken")] : List V))) pC (.lst ([V.str (Str.ofString "BadCount"), V.str (Str.ofString "BadKinds"), V.str (Str.ofString "BadLog"), V.str (Str.ofString "BadName"), V.str (Str.ofString "BadNeeds"), V.str (Str.ofString "BadPart"), V.str (Str.ofString "BadPlan"), V.str (Str.ofString "BadRank"), V.str (Str.ofString "BadSteps")] ++ [V.str (Str.ofString "BadText"), V.str (Str.ofString "BadTick"), V.str (Str.ofString "BadTries"), V.str (Str.ofString "NoJob"), V.str (Str.ofString "NoKind"), V.str (Str.ofString "NoLease"), V.str (Str.ofString "NoWorker"), V.str (Str.ofString "Taken")] : List V)) = HG at eC sG ⊢
    have eG := sG _ _ eF
    replace xd := xd.same sG
    replace sF := Same.trans' sF sG
    refine gnI ⟨_, rfl, _, rfl, .inl ⟨rfl, _, SqL.of eG⟩, p9, _, _, j, _, rfl, rfl, SqL.of eG, rfl, fl, bj, rfl, nj, ?_⟩
    refine ⟨pC, _, (j : Int), V.str c, rfl, rfl, SqL.of eC, atI_nat (by rw [List.getElem?_map, wj]; rfl), ?_⟩
    refine gnI ⟨_, rfl, by show 2 ≤ sizeLine; decide, fun pD hpD => ⟨_, _, rfl, .inr (SqT.of upd_same), rfl, rfl, _, rfl, ?_⟩⟩
    have sD := same_new (o := .tup [V.str (Str.ofString "BadLog"), V.str (Str.ofString "BadPlan")]) hpD
    replace sF := Same.trans' sF sD
    generalize L2.upd HG pD (.tup [V.str (Str.ofString "BadLog"), V.str (Str.ofString "BadPlan")]) = HD at sF ⊢
    show (fun b H1 => if b = true then _ else _) (inV (V.str c) [V.str (Str.ofString "BadLog"), V.str (Str.ofString "BadPlan")]) HD
    rw [in_logs hc]
    have fin : ∀ u, u = v → ∀ pt, HD pt = none → D.rt (.ref pt) (L2.upd HD pt (.tup [V.str c, u])) := fun u hu pt hpt => by
      rw [hu]
      exact q _ pt (Same.trans' sF (same_new hpt)) (SqT.of upd_same)
    by_cases hl : c = Str.ofString "BadLog" ∨ c = Str.ofString "BadPlan"
    · have fo : fieldOf c = some (Str.ofString "number") := by rcases hl with rfl | rfl <;> decide +kernel
      have ic : InitC K c (Str.ofString "number") := T.initC (by rcases hl with rfl | rfl <;> simp [tinitL])
      unfold ResX at hres
      rw [fo] at hres
      obtain ⟨dd, fs, rfl, ed, el⟩ := hres
      refine dT hl ?_
      exact ⟨_, rfl, _, ic.xf, ic.no, _, rfl, rfl, rfl, dd, fs, v, rfl, sF _ _ ed, el, by show 2 ≤ sizeLine; decide, fin v rfl⟩
    · refine dF hl ?_
      refine ⟨_, rfl, _, rfl, rfl, _, rfl, ?_⟩
      by_cases ht : c = Str.ofString "BadText"
      · have fo : fieldOf c = some (Str.ofString "row") := by rw [ht]; decide +kernel
        have ic : InitC K c (Str.ofString "row") := T.initC (by rw [ht]; simp [tinitL])
        unfold ResX at hres
        rw [fo] at hres
        obtain ⟨dd, fs, rfl, ed, el⟩ := hres
        refine dT (by rw [ht]) ?_
        exact ⟨_, ic.xf, ic.no, _, rfl, rfl, rfl, dd, fs, v, rfl, sF _ _ ed, el, by show 2 ≤ sizeLine; decide, fin v rfl⟩
      · have fo : fieldOf c = none := by
          unfold fieldOf
          rw [if_neg ht, if_neg hl]
        unfold ResX at hres
        rw [fo] at hres
        refine dF (fun z => ht (V.str.inj z)) ?_
        exact ⟨by show 2 ≤ sizeLine; decide, fin _ hres.2.symm⟩
  obtain ⟨t, h1, h2⟩ := S
  exact h1.run pins s σ H D I h2
theorem Tp.told_gives (T : Tp P w K mg base) {N : List Str} {q q' : Str} {sc : Scope} {f0 : Addr} {cdv cdg : Value} {A : Around} {outer : List Env} {s0 : Shared} {H0 : Hp} {E : XK} : GivesTo (XB P w K mg base N q sc f0 cdv A outer s0 H0 E) ["_law_work", "e", "_law_kinds", "_law_words", "_law_word"] "_law_told" (defScope s__law_told) (He.ga K "_law_told") cdg (defBody s__law_told) "_law_work" q' (TTx K) := by
  intro f c' s H Q tl act hc h
  refine ⟨_, pss_one (ps_try_as (X := toldCx P w K mg base cdg (XB P w K mg base N q sc f0 cdv A outer s0 H0 E).A (XB P w K mg base N q sc f0 cdv A outer s0 H0 E).stack s H) (i := 1) (tb := fun W D σ H => ∃ Ech : XK, (∀ cls d σ' H', Ech cls d H' → W cls d σ' H') ∧ σ[0]? = some (some (.ref f)) ∧ H c' = some (CodeO c' q') ∧ tl Ech H D.rt) (ts := tsT K) rfl rfl sc__law_told.nd rfl rfl ⟨rfl, by decide, .inl T.g_LaterError⟩ L2.takes0 (fun W pn xe tk _ => ⟨fun pins s' σ H' D I h' => by obtain ⟨Ech, hW, h1, h2, h3⟩ := h'; exact (pss_one (ps_ret (act W pn xe Ech _ _ tk hW))).run pins s' σ H' D I ⟨h1, h2, h3⟩⟩) (fun a oe cls d pn hz hf => told_suite T hz hf)), ?_⟩
  refine ⟨WishT K Q, fun cls d σ' H' wish => ?_, rfl, hc, h⟩
  obtain ⟨c, hk, rfl, v, hres, qq⟩ := wish
  refine ⟨true, T.laterC hk, fun _ a ha => ⟨⟨σ', rfl⟩, c, hk, rfl, v, hres, qq⟩, fun z => nomatch z⟩
end LH
end

section
set_option Elab.async false
set_option linter.all false
set_option maxRecDepth 100000
set_option maxHeartbeats 4000000
/-! d.update(e), both dicts with keys that are numbers and texts -/
namespace LH
open PySem PySem.Spec PyProof.Rows L2
def rUpdate : V → List V → Hp → VK → Prop := fun x xs H Q => ∃ (a b : Addr) (kvs more : List (Key × V)), x = .ref a ∧ xs = [.ref b] ∧ H a = some (.dK kvs) ∧ H b = some (.dK more) ∧ a ≠ b ∧ kvs.length + more.length ≤ sizeLine ∧ Q .non (upd H a (.dK (mergeK kvs more)))
theorem mt_update {X : Cx} : MtR X "dict.update" rUpdate := by
  intro pins s σ H x xs v us Q I rx rxs h
  obtain ⟨a, b, kvs, more, rfl, rfl, ea, eb, ne, lz, q⟩ := h
  cases rx
  obtain ⟨u, rfl, ru⟩ := rxs.one
  obtain rfl : u = Value.ref b := ru
  obtain ⟨z, hd, vs, rel, dd⟩ := dk_of I.hok ea
  obtain ⟨z2, hd2, ws, rel2, dd2⟩ := dk_of I.hok eb
  refine call_meetsIn PySem.F.slot_dict_update dd.typeIs PySem.F.entry_dict_update (PySem.F.args_dict_update_2 _ _) (meets_dict_update (mixKind X.prog X.w) a b ne hd2) ⟨vs, ws, dd, dd2, by rw [← rel.length, ← rel2.length]; exact lz, fun h' dd' dd2' hs => ?_⟩
  have he : ∃ q, h'.get? a = some q := let ⟨q, _, _, hq, _⟩ := dd'; ⟨q, hq⟩
  have hl : (mergeK kvs more).length ≤ sizeLine := Nat.le_trans (length_mergeK more kvs) lz
  exact ⟨.non, _, d_write (t' := s.toks) I (by rw [ea]; exact True.intro) hs he (dk_new hl hd (KV.merge rel2 rel) dd'), rfl, q⟩
theorem valV_find {α : Type} (l : List α) (f : α → Str) (g : α → V) (k : Str) : valV (l.map fun a => ((Sum.inr (f a) : Key), g a)) (Sum.inr k) = (l.find? fun a => decide (f a = k)).map g := by
  unfold valV
  induction l with
  | nil => rfl
  | cons a l ih =>
    rw [List.map_cons, List.find?_cons, List.find?_cons]
    by_cases h : f a = k
    · simp [h]
    · simp only [h, decide_false, Sum.inr.injEq]
      exact ih
end LH
end

section
set_option Elab.async false
set_option linter.all false
set_option maxRecDepth 100000
set_option maxHeartbeats 4000000
set_option pp.maxSteps 1500
/-! the law's own reader: numbers, names, parts -/
namespace LH
open PySem PySem.Spec PyProof.Rows L2 StX LamX NumText
variable {P : Program} {w : World} {K : PySem.W.Frag} {mg : Str → Option Value} {base : Heap}
/-- plain signs -/
def Asc (x : Str) : Prop := ∀ c ∈ x.cps.toList, c < 128
/-- the signs of a text that are not among some -/
def badS (x z : Str) : List Str := x.cps.toList.filterMap fun c => if c ∈ z.cps.toList then none else some ⟨#[c]⟩
theorem badS_nil {x z : Str} : (badS x z).isEmpty = x.cps.toList.all fun c => decide (c ∈ z.cps.toList) := by
  unfold badS
  induction x.cps.toList with
  | nil => rfl
  | cons c cs ih =>
    rw [List.filterMap_cons, List.all_cons]
    by_cases h : c ∈ z.cps.toList
    · rw [if_pos h, decide_eq_true h, Bool.true_and]
      exact ih
    · rw [if_neg h, decide_eq_false h, Bool.false_and]
      rfl
theorem shaped_strs {ss : List Str} (h : ∀ s ∈ ss, PyData.strOk s = true) : SeqAt.shaped (.list (ss.map .str)) = true := by
  have key : ∀ l : List Str, (∀ s ∈ l, PyData.strOk s = true) → PyData.canLayAll0 (l.map .str) = true ∧ PyData.depthAll (l.map .str) ≤ 1 := by
    intro l
    induction l with
    | nil => exact fun _ => ⟨rfl, by simp [PyData.depthAll]⟩
    | cons s l ih =>
      intro h
      obtain ⟨a, b⟩ := ih fun t ht => h t (List.mem_cons_of_mem _ ht)
      refine ⟨lay_cons (h s List.mem_cons_self) a, ?_⟩
      simp only [List.map_cons, PyData.depthAll, PyData.depth]
      omega
  obtain ⟨a, b⟩ := key ss h
  unfold SeqAt.shaped
  have h2 : PyData.canLay0 (.list (ss.map .str)) = true := by unfold PyData.canLay0; exact a
  rw [h2, Bool.true_and, decide_eq_true_eq]
  simp only [PyData.depth]
  omega
theorem bad_shaped {x z : Str} (h : Asc x) : SeqAt.shaped (.list ((badS x z).map .str)) = true := shaped_strs fun s hs => by
  unfold badS at hs
  obtain ⟨c, hc, e⟩ := List.mem_filterMap.mp hs
  split at e
  · cases e
  · rw [← Option.some.inj e]
    have := h c hc
    unfold PyData.strOk
    simp
    omega
theorem eqv_nil (ss : List Str) : PyData.eqv (.list (ss.map .str)) (.list []) = ss.isEmpty := by
  cases ss <;> rfl
theorem strs_dts {H : Hp} : ∀ ss : List Str, Dts K H (ss.map V.str) (ss.map .str)
  | [] => .nil
  | s :: ss => .cons (.str s) (strs_dts ss)
theorem badS_v (x z : Str) : (x.cps.toList.filterMap fun c => if c ∈ z.cps.toList then none else some (V.str ⟨#[c]⟩)) = (badS x z).map V.str := by
  unfold badS
  rw [List.map_filterMap]
  congr 1
  funext c
  split <;> rfl
@[irreducible] def sp__law_number (K : PySem.W.Frag) : Sp := fun vs H Q E => ∃ x : Str, vs = [.str x] ∧ x.length ≤ sizeLine ∧ Asc x ∧ ∀ H' v, Same H H' → Dt K H' v (numD x) → Q v H'
theorem sc__law_number : FnScope ["_law_word", "_law_sign"] ["_law_word"] (defScope s__law_number) := ⟨rfl, rfl, rfl, by decide +kernel, rfl, by decide +kernel, by decide +kernel⟩
theorem Tp.ok__law_number (T : Tp P w K mg base) : FnR P w K mg base (L2.CX P w) (0 + 1) (He.ga K "_law_number") (sp__law_number K) := by
  refine fnr (N := ["_law_word", "_law_sign"]) (ps := ["_law_word"]) (k := 0) T.fd__law_number sc__law_number (fun _ _ _ _ _ _ us hl => match us, hl with | [_], _ => rfl) (fun vs H Q E h => ?_) fun cdv A outer s H vs Q E hr h => ?_
  · unfold sp__law_number at h
    obtain ⟨_, rfl, _⟩ := h
    rfl
  unfold sp__law_number at h
  obtain ⟨x, rfl, hz, asc, q⟩ := h
  refine ⟨_, (pss_cons (ps_if (PW.pt (pw_or (pt_not (pt_chain op_le op_le pe_int (pe_callB call_len_str rfl T.f_len bt_len (pa_cons (pv 0) pa_nil)) pe_int)) (pw_or1 (pt_cmpR (op_neD hr.units) (pe_lc (own := [("_law_sign", 1)]) rfl sc__law_number.nd (pi_str (pv 0)) (blkOk_by (own := [("_law_sign", 1)]) (N := ["_law_word", "_law_sign"]) (sc := defScope s__law_number) (by decide +kernel)) (fun _ _ _ _ _ => (pg_name (i := 1) sc__law_number.nd rfl (by first | exact .inl rfl | exact .inr rfl))) (fun _ _ _ _ _ => (pts_one (pt_cmpR op_notIn_sign (pv 1) pe_str (by rfl)))) (fun _ _ _ _ _ => (pv 1))) (pe_lst pa_nil) (nomark _))))) (pss_one (ps_ret pe_non)) pss_nil)
      (pss_one (ps_ret (pe_ifExp (PW.pt (pw_and (pt_cmpR op_eq (pe_ix ix_str (pv 0) pe_int (fun _ _ => rfl)) pe_str (nomark _)) (pw_and1 (pt_cmpR op_ne (pv 0) pe_str (nomark _))))) pe_non (pe_callTy call_int_str rfl T.f_int bt_int (pa_cons (pv 0) pa_nil)))))), ?_⟩
  have no : ¬ (okFig x && headOk x) = true → ∀ H', Same H H' → Q .non H' := fun h H' s => q H' _ s (by
    unfold numD numW
    rw [if_neg h]
    exact .non)
  refine ⟨_, rfl, x, rfl, hz, _, _, rfl, rfl, _, rfl, ?_⟩
  by_cases h1 : 1 ≤ x.length
  · refine (if_pos (by simp; omega)).mpr ⟨_, _, rfl, rfl, _, rfl, ?_⟩
    by_cases h2 : x.length ≤ 5
    · rw [decide_eq_true (show (x.length : Int) ≤ 5 by omega)]
      refine iteF ⟨_, rfl, x, rfl, fun D hn => lcS (walk_str (z := x)) x.cps.toList (fun c => if c ∈ figS.cps.toList then none else some (.str ⟨#[c]⟩)) (by simp) ?_ hn (fun _ _ => trivial) ?_ ?_⟩
      · have : x.cps.size = x.length := rfl
        have : (5 : Nat) < sizeLine := by decide
        omega
      · rintro i c v H1 H' R R0 ec s ⟨rfl, c', ec', rfl⟩ k1 k2
        have e : c = c' := by
          rw [Array.getElem?_toList] at ec
          rw [ec] at ec'
          exact Option.some.inj ec'
        subst e
        refine ⟨rfl, _, rfl, c, _, rfl, rfl, _, rfl, ?_⟩
        by_cases hc : c ∈ figS.cps.toList
        · exact nF hc (k2 _ (if_pos hc) Same.rfl')
        · exact nT hc ⟨_, rfl, k1 _ _ (if_neg hc) Same.rfl'⟩
      · intro H' s e
        rw [badS_v] at e
        refine ⟨by show 0 ≤ sizeLine; decide, fun p hp => ?_⟩
        have sp := same_new (o := .lst ([] : List V)) hp
        refine ⟨.list ((badS x figS).map .str), .list [], .lst (SqL.of (sp _ _ e)) (strs_dts _).dp, .lst (SqL.of upd_same) .nil, bad_shaped asc, by decide +kernel, _, rfl, ?_⟩
        rw [eqv_nil, show (badS x figS).isEmpty = isFig x from badS_nil]
        have s2 := Same.trans' s sp
        generalize L2.upd H' p (.lst ([] : List V)) = H2 at s2 ⊢
        have eo : okFig x = isFig x := by
          unfold okFig
          rw [decide_eq_true ⟨h1, h2⟩, Bool.true_and]
        cases hf : isFig x with
        | false => exact iteT (no (by rw [eo, hf]; simp) H2 s2)
        | true =>
          refine iteF ?_
          have ok : okFig x = true := by rw [eo, hf]
          obtain ⟨ft, fl⟩ := fig_text ok
          have yes : headOk x = true → ∀ H', Same H H' → Q (.int ((digitsVal x.cps.toList : Nat) : Int)) H' := fun h H' s => q H' _ s (by
            unfold numD numW
            rw [if_pos (by rw [ok, h]; rfl)]
            exact .int _)
          have e0 : Str.ofString "0" = ⟨#[48]⟩ := by decide +kernel
          obtain ⟨c, cs, ec⟩ : ∃ c cs, x.cps.toList = c :: cs := by
            cases e : x.cps.toList with
            | nil =>
              have : x.cps.toList.length = x.length := Array.length_toList
              rw [e] at this
              simp at this
              omega
            | cons c cs => exact ⟨c, cs, rfl⟩
          have e1 : x.cps[0]? = some c := by
            rw [← Array.getElem?_toList, ec]
            rfl
          refine ⟨_, rfl, x, 0, c, rfl, rfl, hz, by rw [ec]; unfold atI ixN; simp, rfl, _, rfl, ?_⟩
          by_cases hc : c = 48
          · refine dT (by rw [hc, e0]) ⟨_, rfl, rfl, _, rfl, ?_⟩
            by_cases h0 : x = Str.ofString "0"
            · refine nF (by rw [h0]) ?_
              exact ⟨_, rfl, x, _, rfl, ft, fl, yes (by unfold headOk; rw [decide_eq_true h0]; rfl) H2 s2⟩
            · refine nT (fun z => h0 (V.str.inj z)) ?_
              refine no ?_ H2 s2
              unfold headOk
              rw [ok, decide_eq_false h0, e1, hc]
              simp
          · refine dF (fun z => hc (by rw [e0] at z; have := congrArg (fun s : Str => s.cps.toList) (V.str.inj z); simpa using this)) ?_
            refine ⟨_, rfl, x, _, rfl, ft, fl, yes ?_ H2 s2⟩
            unfold headOk
            rw [e1]
            simp [hc]
    · rw [decide_eq_false (show ¬ (x.length : Int) ≤ 5 by omega)]
      refine iteT (no ?_ H Same.rfl')
      unfold okFig
      rw [decide_eq_false (by omega)]
      simp
  · refine (if_neg (by simp; omega)).mpr ?_
    refine ⟨_, rfl, iteT (no ?_ H Same.rfl')⟩
    unfold okFig
    rw [decide_eq_false (by omega)]
    simp
abbrev letS : Str := Str.ofString "abcdefghijklmnopqrstuvwxyz"
@[irreducible] def sp__law_name (K : PySem.W.Frag) : Sp := fun vs H Q E => ∃ x : Str, vs = [.str x] ∧ x.length + 2 ≤ sizeLine ∧ Asc x ∧ ∀ H' v, Same H H' → Dt K H' v (namD x) → Q v H'
theorem sc__law_name : FnScope ["_law_word", "_law_bad", "_law_sign"] ["_law_word"] (defScope s__law_name) := ⟨rfl, rfl, rfl, by decide +kernel, rfl, by decide +kernel, by decide +kernel⟩
theorem Tp.ok__law_name (T : Tp P w K mg base) : FnR P w K mg base (L2.CX P w) (0 + 1) (He.ga K "_law_name") (sp__law_name K) := by
  refine fnr (N := ["_law_word", "_law_bad", "_law_sign"]) (ps := ["_law_word"]) (k := 0) T.fd__law_name sc__law_name (fun _ _ _ _ _ _ us hl => match us, hl with | [_], _ => rfl) (fun vs H Q E h => ?_) fun cdv A outer s H vs Q E hr h => ?_
  · unfold sp__law_name at h
    obtain ⟨_, rfl, _⟩ := h
    rfl
  unfold sp__law_name at h
  obtain ⟨x, rfl, hz, asc, q⟩ := h
  refine ⟨_, (pss_cons (ps_setLc (i := 1) (own := [("_law_sign", 2)]) rfl sc__law_name.nd rfl rfl rfl (pi_str (pv 0)) (blkOk_by (own := [("_law_sign", 2)]) (N := ["_law_word", "_law_bad", "_law_sign"]) (sc := defScope s__law_name) (by decide +kernel)) (fun _ _ _ _ _ => (pg_name (i := 2) sc__law_name.nd rfl (by first | exact .inl rfl | exact .inr rfl))) (fun _ _ _ _ _ => (pts_one (pt_cmpR op_notIn_sign (pv 2) pe_str (by rfl)))) (fun _ _ _ _ _ => (pv 2)))
      (pss_one (ps_ret (pe_ifExp (PW.pt (pw_and (pt_chain op_le op_le pe_int (pe_callB call_len_str rfl T.f_len bt_len (pa_cons (pv 0) pa_nil)) pe_int) (pw_and1 (pt_cmpR (op_eqD hr.units) (pv 1) (pe_lst pa_nil) (nomark _))))) (pv 0) pe_non)))), ?_⟩
  refine ⟨_, rfl, x, rfl, fun D hn => lcS (walk_str (z := x)) x.cps.toList (fun c => if c ∈ letS.cps.toList then none else some (.str ⟨#[c]⟩)) (by simp) ?_ hn (fun _ _ => trivial) ?_ ?_⟩
  · have : x.cps.size = x.length := rfl
    omega
  · rintro i c v H1 H' R R0 ec s ⟨rfl, c', ec', rfl⟩ k1 k2
    have e : c = c' := by
      rw [Array.getElem?_toList] at ec
      rw [ec] at ec'
      exact Option.some.inj ec'
    subst e
    refine ⟨rfl, _, rfl, c, _, rfl, rfl, _, rfl, ?_⟩
    by_cases hc : c ∈ letS.cps.toList
    · exact nF hc (k2 _ (if_pos hc) Same.rfl')
    · exact nT hc ⟨_, rfl, k1 _ _ (if_neg hc) Same.rfl'⟩
  · intro H' s e
    rw [badS_v] at e
    have en : isName x = (decide (1 ≤ x.length ∧ x.length ≤ 8) && (badS x letS).isEmpty) := by
      unfold isName
      rw [badS_nil]
    have no : isName x = false → ∀ H', Same H H' → Q .non H' := fun h H' s => q H' _ s (by
      unfold namD
      rw [if_neg (by rw [h]; simp)]
      exact .non)
    refine gnI ⟨_, rfl, x, rfl, by omega, _, _, rfl, rfl, _, rfl, ?_⟩
    by_cases h1 : 1 ≤ x.length
    · refine (if_pos (by simp; omega)).mpr ⟨_, _, rfl, rfl, _, rfl, ?_⟩
      by_cases h2 : x.length ≤ 8
      · rw [decide_eq_true (show (x.length : Int) ≤ 8 by omega)]
        refine iteT ⟨_, rfl, by show 0 ≤ sizeLine; decide, fun p hp => ?_⟩
        have sp := same_new (o := .lst ([] : List V)) hp
        refine ⟨.list ((badS x letS).map .str), .list [], .lst (SqL.of (sp _ _ e)) (strs_dts _).dp, .lst (SqL.of upd_same) .nil, bad_shaped asc, by decide +kernel, _, rfl, ?_⟩
        rw [eqv_nil]
        rw [decide_eq_true ⟨h1, h2⟩, Bool.true_and] at en
        rw [← en]
        have s2 := Same.trans' s sp
        cases hn2 : isName x with
        | false => exact iteF (no hn2 _ s2)
        | true =>
          refine iteT ⟨_, rfl, q _ _ s2 ?_⟩
          unfold namD
          rw [if_pos hn2]
          exact .str _
      · rw [decide_eq_false (show ¬ (x.length : Int) ≤ 8 by omega)]
        refine iteF (no ?_ _ s)
        rw [en, decide_eq_false (by omega)]
        rfl
    · refine (if_neg (by simp; omega)).mpr ⟨_, rfl, iteF (no ?_ _ s)⟩
      rw [en, decide_eq_false (by omega)]
      rfl
theorem asc_join {y : Str} : ∀ {ps : List Str}, (∀ c ∈ (Str.join y ps).cps.toList, c < 128) → ∀ p ∈ ps, Asc p
  | [], _, p, h => nomatch h
  | [x], h, p, hp => by
    rw [List.mem_singleton.mp hp]
    exact h
  | x :: z :: r, h, p, hp => by
    have e : (Str.join y (x :: z :: r)).cps.toList = x.cps.toList ++ y.cps.toList ++ (Str.join y (z :: r)).cps.toList := by
      show TL.tl (x ++ y ++ Str.join y (z :: r)) = TL.tl x ++ TL.tl y ++ TL.tl (Str.join y (z :: r))
      rw [TL.tl_append, TL.tl_append]
    rcases List.mem_cons.mp hp with rfl | hp
    · exact fun c hc => h c (by rw [e]; simp [hc])
    · exact asc_join (y := y) (fun c hc => h c (by rw [e]; exact List.mem_append_right _ hc)) p hp
theorem asc_split {x y : Str} (h : Asc x) : ∀ p ∈ Txt.split x y, Asc p := asc_join (y := y) (by rw [StrLaws.join_split]; exact h)

@[irreducible] def sp__law_part (K : PySem.W.Frag) : Sp := fun vs H Q E => ∃ form x : Str, vs = [.str form, .str x] ∧ x.length + 2 ≤ sizeLine ∧ Asc x ∧ ∀ H' v, Same H H' → Dt K H' v (partD form x) → Q v H'
theorem sc__law_part : FnScope ["_law_form", "_law_word", "_law_parts", "_law_one"] ["_law_form", "_law_word"] (defScope s__law_part) := ⟨rfl, rfl, rfl, by decide +kernel, rfl, by decide +kernel, by decide +kernel⟩
theorem Tp.ok__law_part (T : Tp P w K mg base) : FnR P w K mg base (L2.CX P w) (2 + 1) (He.ga K "_law_part") (sp__law_part K) := by
  refine fnr (N := ["_law_form", "_law_word", "_law_parts", "_law_one"]) (ps := ["_law_form", "_law_word"]) (k := 2) T.fd__law_part sc__law_part (fun _ _ _ _ _ _ us hl => match us, hl with | [_, _], _ => rfl) (fun vs H Q E h => ?_) fun cdv A outer s H vs Q E hr h => ?_
  · unfold sp__law_part at h
    obtain ⟨_, _, rfl, _⟩ := h
    rfl
  unfold sp__law_part at h
  obtain ⟨form, x, rfl, hx, asc, q⟩ := h
  refine ⟨_, (pss_cons (ps_if (pt_cmpR op_eq (pv 0) pe_str (nomark _)) (pss_one (ps_ret (pe_callP T.ok__law_number (rm hr) (kp_of T.fd__law_number) rfl T.g__law_number passE (pa_cons (pv 1) pa_nil)))) pss_nil)
      (pss_cons (ps_if (pt_cmpR op_eq (pv 0) pe_str (nomark _)) (pss_one (ps_ret (pe_callP T.ok__law_name (rm hr) (kp_of T.fd__law_name) rfl T.g__law_name passE (pa_cons (pv 1) pa_nil)))) pss_nil)
      (C8.pss_cut (ps_if (PW.pt (pw_and (pt_cmpR op_eq (pv 0) pe_str (nomark _)) (pw_and1 (pt_cmpR op_eq (pv 1) pe_str (nomark _))))) (pss_one (ps_ret (pe_tup pa_nil))) pss_nil)
      (pss_cons (ps_setLc (i := 2) (own := [("_law_one", 3)]) rfl sc__law_part.nd rfl rfl rfl (pi_list (pe_split (pv 1) pe_str)) (blkOk_by (own := [("_law_one", 3)]) (N := ["_law_form", "_law_word", "_law_parts", "_law_one"]) (sc := defScope s__law_part) (by decide +kernel)) (fun _ _ _ _ _ => (pg_name (i := 3) sc__law_part.nd rfl (by first | exact .inl rfl | exact .inr rfl))) (fun _ _ _ _ _ => pts_nil) (fun _ _ _ _ _ => (pe_ifExp (pt_cmpR op_eq (pv 0) pe_str (nomark _)) (pe_callP T.ok__law_number (rm hr) (kp_of T.fd__law_number) rfl T.g__law_number passL (pa_cons (pv 3) pa_nil)) (pe_callP T.ok__law_name (rm hr) (kp_of T.fd__law_name) rfl T.g__law_name passL (pa_cons (pv 3) pa_nil)))))
      (pss_one (ps_ret (pe_ifExp (pt_cmpR op_in_seq pe_non (pv 2) (by rfl)) pe_non (pe_callTy call_tuple_of rfl T.f_tuple bt_tuple (pa_cons (pv 2) pa_nil))))))))), ?_⟩
  refine ⟨_, rfl, rfl, _, rfl, ?_⟩
  by_cases fn : form = Str.ofString "n"
  · refine dT (by rw [fn]) ⟨_, rfl, ?_⟩
    unfold sp__law_number
    refine ⟨x, rfl, by omega, asc, fun H' v s d => q H' v s ?_⟩
    unfold partD
    rw [if_pos fn]
    exact d
  refine dF (fun z => fn (V.str.inj z)) ⟨_, rfl, rfl, _, rfl, ?_⟩
  by_cases fw : form = Str.ofString "w"
  · refine dT (by rw [fw]) ⟨_, rfl, ?_⟩
    unfold sp__law_name
    refine ⟨x, rfl, by omega, asc, fun H' v s d => q H' v s ?_⟩
    unfold partD
    rw [if_neg fn, if_pos fw]
    exact d
  refine dF (fun z => fw (V.str.inj z)) ?_
  have e3 : ¬ (form = Str.ofString "j" ∧ x = Str.ofString "-") → partD form x = partsD (if form = Str.ofString "j" then numD else namD) (Txt.split x (Str.ofString ",")) := fun h => by
    unfold partD
    rw [if_neg fn, if_neg fw, if_neg h]
  refine ⟨fun σ' H' => H' = H ∧ σ' = [some (.str form), some (.str x), none, none] ∧ ¬ (form = Str.ofString "j" ∧ x = Str.ofString "-"), ?_, ?_⟩
  · refine ⟨_, rfl, rfl, _, rfl, ?_⟩
    by_cases fj : form = Str.ofString "j"
    · refine dT (by rw [fj]) ⟨_, rfl, rfl, _, rfl, ?_⟩
      by_cases xm : x = Str.ofString "-"
      · refine dT (by rw [xm]) ⟨by show 0 ≤ sizeLine; decide, fun t ht => ?_⟩
        refine q _ _ (same_new ht) ?_
        unfold partD
        rw [if_neg fn, if_neg fw, if_pos ⟨fj, xm⟩]
        exact .tup (SqT.of upd_same) .nil
      · refine dF (fun z => xm (V.str.inj z)) ?_
        exact ⟨rfl, rfl, fun z => xm z.2⟩
    · refine dF (fun z => fj (V.str.inj z)) ?_
      exact ⟨rfl, rfl, fun z => fj z.1⟩
  · rintro σ' H' ⟨rfl, rfl, hj⟩
    rw [e3 hj] at q
    clear e3 hj
    have hasc := asc_split (y := Str.ofString ",") asc
    obtain ⟨sl, sn⟩ := split_le (x := x) (y := Str.ofString ",") (by decide +kernel)
    refine ⟨_, rfl, ⟨_, rfl⟩, x, _, rfl, rfl, by decide +kernel, hx, fun p hp => ?_⟩
    have s1 := same_new (o := .lst ((Txt.split x (Str.ofString ",")).map V.str)) hp
    have e1 : L2.upd H' p (.lst ((Txt.split x (Str.ofString ",")).map V.str)) p = some (.lst ((Txt.split x (Str.ofString ",")).map V.str)) := upd_same
    generalize L2.upd H' p (.lst ((Txt.split x (Str.ofString ",")).map V.str)) = H1 at s1 e1 ⊢
    have big : 100 < sizeLine := by decide
    refine ⟨p, rfl, ⟨_, SqL.of e1⟩, lcD (K := K) (walk_list (xs := (Txt.split x (Str.ofString ",")).map V.str)) (Txt.split x (Str.ofString ",")) (fun w => some ((if form = Str.ofString "j" then numD else namD) w)) (by simp) (by rw [List.length_map]; omega) (fun H' s => sqL_same (SqL.of e1) s) ?_ ?_⟩
    · intro i wd v H2 H3 R R0 ew s y k1 k2
      obtain ⟨rfl, ey⟩ := y
      rw [List.getElem?_map, ew] at ey
      obtain rfl := Option.some.inj ey
      have hl := sl wd (List.mem_of_getElem? ew)
      refine ⟨rfl, _, rfl, rfl, _, rfl, ?_⟩
      by_cases fj : form = Str.ofString "j"
      · refine dT (by rw [fj]) ⟨_, rfl, ?_⟩
        unfold sp__law_number
        exact ⟨wd, rfl, by omega, hasc wd (List.mem_of_getElem? ew), fun H4 v4 s4 d4 => k1 _ _ _ (by rw [if_pos fj]) s4 d4⟩
      · refine dF (fun z => fj (V.str.inj z)) ⟨_, rfl, ?_⟩
        unfold sp__law_name
        refine ⟨wd, rfl, by omega, hasc wd (List.mem_of_getElem? ew), fun H4 v4 s4 d4 => k1 _ _ _ rfl s4 ?_⟩
        rw [if_neg fj]
        exact d4
    · intro D H2 zs hD s2 eD dz
      rw [List.filterMap_eq_map'] at dz
      have fl : ∀ d ∈ (Txt.split x (Str.ofString ",")).map fun w => (if form = Str.ofString "j" then numD else namD) w, Flat d := fun d hd => by
        obtain ⟨w, _, rfl⟩ := List.mem_map.mp hd
        split
        · exact flat_num w
        · exact flat_nam w
      obtain ⟨f1, f2⟩ := flat_in dz fl
      unfold partsD at q
      refine ⟨_, rfl, D, zs, rfl, .inl (SqL.of eD), rfl, f1, _, rfl, ?_⟩
      rw [f2]
      cases ha : ((Txt.split x (Str.ofString ",")).map fun w => (if form = Str.ofString "j" then numD else namD) w).any isNo with
      | true =>
        rw [if_pos ha] at q
        exact iteT (q H2 _ (Same.trans' s1 s2) .non)
      | false =>
        rw [if_neg (by rw [ha]; simp)] at q
        refine iteF ⟨_, rfl, D, zs, rfl, .inl ⟨SqL.of eD, fun t ht => ?_⟩⟩
        exact q _ _ (Same.trans' (Same.trans' s1 s2) (same_new ht)) (.tup (SqT.of upd_same) (dz.keep (KeepT.same (same_new ht))))
end LH
end

section
set_option Elab.async false
set_option linter.all false
set_option maxRecDepth 100000
set_option maxHeartbeats 4000000
set_option pp.maxSteps 1500
/-! the law's own reader -/
namespace LH
open PySem PySem.Spec PyProof.Rows L2 StX LamX NumText
open C8 (pss_cut tCut)
variable {P : Program} {w : World} {K : PySem.W.Frag} {mg : Str → Option Value} {base : Heap}
def kvA : List (Key × V) := [(Sum.inr (Str.ofString "add"), V.str (Str.ofString "nnkjn")), (Sum.inr (Str.ofString "clock"), V.str (Str.ofString "nknnnn")), (Sum.inr (Str.ofString "join"), V.str (Str.ofString "wk")), (Sum.inr (Str.ofString "leave"), V.str (Str.ofString "w")), (Sum.inr (Str.ofString "limit"), V.str (Str.ofString "wnn")), (Sum.inr (Str.ofString "turn"), V.str (Str.ofString "n")), (Sum.inr (Str.ofString "take"), V.str (Str.ofString "w"))]
def kvB : List (Key × V) := [(Sum.inr (Str.ofString "done"), V.str (Str.ofString "n")), (Sum.inr (Str.ofString "fail"), V.str (Str.ofString "n")), (Sum.inr (Str.ofString "beat"), V.str (Str.ofString "n")), (Sum.inr (Str.ofString "tell"), V.str (Str.ofString "nn")), (Sum.inr (Str.ofString "drop"), V.str (Str.ofString "n")), (Sum.inr (Str.ofString "again"), V.str (Str.ofString "n"))]
theorem kv_forms : mergeK (mergeK [] kvA) (mergeK [] kvB) = formsL.map fun q => ((Sum.inr q.1 : Key), V.str q.2) := by kernel_rfl
theorem form_val (k : Str) : (valV (formsL.map fun q => ((Sum.inr q.1 : Key), V.str q.2)) (Sum.inr k)).getD (V.str (Str.ofString "")) = V.str (formOf k) := by
  rw [valV_find formsL (fun q => q.1) (fun q => V.str q.2) k]
  unfold formOf
  cases formsL.find? fun q => decide (q.1 = k) with
  | none => exact congrArg V.str empty_str.symm
  | some q => rfl
theorem form_len (k : Str) (h : formOf k ≠ Str.ofString "") : (formOf k).length ≤ 6 := by
  generalize ef : formOf k = f at h
  by_cases z : (k, f) ∈ formsL
  · unfold formsL at z
    simp only [List.mem_cons, List.not_mem_nil, or_false, Prod.mk.injEq] at z
    rcases z with ⟨_, rfl⟩ | ⟨_, rfl⟩ | ⟨_, rfl⟩ | ⟨_, rfl⟩ | ⟨_, rfl⟩ | ⟨_, rfl⟩ | ⟨_, rfl⟩ | ⟨_, rfl⟩ | ⟨_, rfl⟩ | ⟨_, rfl⟩ | ⟨_, rfl⟩ | ⟨_, rfl⟩ | ⟨_, rfl⟩ <;> exact (by decide +kernel)
  · exfalso
    unfold formOf at ef
    cases eq : formsL.find? fun q => decide (q.1 = k) with
    | none =>
      rw [eq] at ef
      exact h (by rw [← ef, empty_str])
    | some q =>
      rw [eq] at ef
      have m1 := List.mem_of_find?_eq_some eq
      have m2 : q.1 = k := by simpa using List.find?_some eq
      exact z (by rw [← m2, ← ef]; exact m1)
/-- what is told of a text: its deeds, or the first row that is none -/
def dueD (x : Str) (d : PyData) : Prop := ((∀ e ∈ readD x, isNo e = false) ∧ d = .list (readD x)) ∨ ∃ k, (∃ e, (readD x)[k]? = some e ∧ isNo e = true) ∧ (∀ (j : Nat) (e : PyData), j < k → (readD x)[j]? = some e → isNo e = false) ∧ d = .tuple [.str (Str.ofString "BadText"), N' k]
@[irreducible] def sp__law_due (K : PySem.W.Frag) : Sp := fun vs H Q E => ∃ x : Str, vs = [.str x] ∧ x.length + 2 ≤ sizeLine ∧ Asc x ∧ ∀ H' v d, Same H H' → dueD x d → Dp K H' v d → Q v H'
theorem sc__law_due : FnScope ["_law_text", "_law_forms", "_law_found", "_law_rows", "_law_place", "_law_words", "_law_form", "_law_parts", "_law_k"] ["_law_text"] (defScope s__law_due) := ⟨rfl, rfl, rfl, by decide +kernel, rfl, by decide +kernel, by decide +kernel⟩
theorem Tp.ok__law_due (T : Tp P w K mg base) : FnR P w K mg base (L2.CX P w) (5 + 1) (He.ga K "_law_due") (sp__law_due K) := by
  refine fnr (N := ["_law_text", "_law_forms", "_law_found", "_law_rows", "_law_place", "_law_words", "_law_form", "_law_parts", "_law_k"]) (ps := ["_law_text"]) (k := 5) T.fd__law_due sc__law_due (fun _ _ _ _ _ _ us hl => match us, hl with | [_], _ => rfl) (fun vs H Q E h => ?_) fun cdv A outer s H vs Q E hr h => ?_
  · unfold sp__law_due at h
    obtain ⟨_, rfl, _⟩ := h
    rfl
  unfold sp__law_due at h
  obtain ⟨x, rfl, hx, asc, q⟩ := h
  refine ⟨_, (pss_cons (ps_set (i := 1) sc__law_due.nd rfl (by first | exact .inl rfl | exact .inr rfl) (pe_disp (pps_cons pe_str pe_str (pps_cons pe_str pe_str (pps_cons pe_str pe_str (pps_cons pe_str pe_str (pps_cons pe_str pe_str (pps_cons pe_str pe_str (pps_cons pe_str pe_str pps_nil))))))) rfl rfl (by simp) (by decide)))
      (pss_cons (ps_expr (pe_bm PySem.F.plainAttrs_dict PySem.F.slot_dict_update PySem.F.type_dict_update mt_update (pv 1) (pa_cons (pe_disp (pps_cons pe_str pe_str (pps_cons pe_str pe_str (pps_cons pe_str pe_str (pps_cons pe_str pe_str (pps_cons pe_str pe_str (pps_cons pe_str pe_str pps_nil)))))) rfl rfl (by simp) (by decide)) pa_nil)))
      (pss_cons (ps_par (i := 2) (j := 3) rfl sc__law_due.nd rfl rfl (by decide) rfl rfl (pa_cons (pe_lst pa_nil) (pa_cons (pe_imp (t' := tRows 0) (pe_ifExp (pt_cmpR op_ne (pv 0) pe_str (nomark _)) (pe_split (pv 0) pe_str) (pe_lst pa_nil)) (fun σ H Q ⟨_, h1, h2, h3⟩ => rows_w h1 h2 h3)) pa_nil)) (by rfl))
      (pss_cons (ps_for passOwnE rfl (pi_range1 rfl T.f_range (pa_cons (pe_callB call_len_seq rfl T.f_len bt_len (pa_cons (pv 3) pa_nil)) pa_nil)) (pg_name (i := 4) sc__law_due.nd rfl (by first | exact .inl rfl | exact .inr rfl)) (pss_cons (ps_set (i := 5) sc__law_due.nd rfl (by first | exact .inl rfl | exact .inr rfl) (pe_split (pe_ix ix_list (pv 3) (pv 4) (fun _ _ => rfl)) pe_str))
      (pss_cons (ps_set (i := 6) sc__law_due.nd rfl (by first | exact .inl rfl | exact .inr rfl) (pe_dget2 (hu_of hr) (pv 1) (pe_ix ix_list (pv 5) pe_int (fun _ _ => rfl)) pe_str ⟨rfl, rfl, rfl, rfl⟩))
      (pss_cons (ps_if (PW.pt (pw_or (pt_cmpR op_eq (pv 6) pe_str (nomark _)) (pw_or1 (pt_cmpR op_ne (pe_callB call_len_seq rfl T.f_len bt_len (pa_cons (pv 5) pa_nil)) (pe_op op_add (pe_callB call_len_str rfl T.f_len bt_len (pa_cons (pv 6) pa_nil)) pe_int) (nomark _))))) (pss_one (ps_ret (pe_tup (pa_cons pe_str (pa_cons (pv 4) pa_nil))))) pss_nil)
      (pss_cons (ps_setLc (i := 7) (own := [("_law_k", 8)]) rfl sc__law_due.nd rfl rfl rfl (pi_range1 rfl T.f_range (pa_cons (pe_callB call_len_str rfl T.f_len bt_len (pa_cons (pv 6) pa_nil)) pa_nil)) (blkOk_by (own := [("_law_k", 8)]) (N := ["_law_text", "_law_forms", "_law_found", "_law_rows", "_law_place", "_law_words", "_law_form", "_law_parts", "_law_k"]) (sc := defScope s__law_due) (by decide +kernel)) (fun _ _ _ _ _ => (pg_name (i := 8) sc__law_due.nd rfl (by first | exact .inl rfl | exact .inr rfl))) (fun _ _ _ _ _ => pts_nil) (fun _ _ _ _ _ => (pe_tag (pe_callP T.ok__law_part (rm hr) (kp_of T.fd__law_part) rfl T.g__law_part passL (pa_cons (pe_ix ix_str (pv 6) (pv 8) (fun _ _ => rfl)) (pa_cons (pe_ix (ix_listK K rfl) (pv 5) (pe_op op_add (pv 8) pe_int) (fun _ _ => rfl)) pa_nil))))))
      (pss_cons (ps_if (pt_cmpR (op_inD (Room65 hr)) pe_non (pv 7) (by rfl)) (pss_one (ps_ret (pe_tup (pa_cons pe_str (pa_cons (pv 4) pa_nil))))) pss_nil)
      (pss_one (ps_expr (pe_bm PySem.F.plainAttrs_list PySem.F.slot_list_append PySem.F.type_list_append mt_append (pv 2) (pa_cons (pe_callTy call_tuple_of rfl T.f_tuple bt_tuple (pa_cons (pe_op op_cat (pe_lst (pa_cons (pe_ix ix_list (pv 5) pe_int (fun _ _ => rfl)) pa_nil)) (pv 7)) pa_nil)) pa_nil))))))))))
      (pss_one (ps_ret (pv 2))))))), ?_⟩
  have big : 100 < sizeLine := by decide
  refine fun p1 hp1 => ⟨upd_same, kvA, rfl, by decide, ?_⟩
  have e1 : L2.upd (L2.upd H p1 (.dK [])) p1 (.dK (mergeK [] kvA)) p1 = some (.dK (mergeK [] kvA)) := upd_same
  have s1 : Same H (L2.upd (L2.upd H p1 (.dK [])) p1 (.dK (mergeK [] kvA))) := Same.put (same_new hp1) hp1
  generalize L2.upd (L2.upd H p1 (.dK [])) p1 (.dK (mergeK [] kvA)) = H1 at e1 s1 ⊢
  refine gnI ⟨_, rfl, .inr (.inr (.inl ⟨rfl, .inl ⟨_, e1⟩⟩)), fun p2 hp2 => ⟨upd_same, kvB, rfl, by decide, ?_⟩⟩
  have n21 : p1 ≠ p2 := fun z => by rw [z, hp2] at e1; cases e1
  refine ⟨p1, p2, _, _, rfl, rfl, (upd_ne n21).trans ((upd_ne n21).trans e1), upd_same, n21, by decide, ?_⟩
  have h20 : H p2 = none := none_back s1 hp2
  have e3 := upd_same (H := L2.upd (L2.upd H1 p2 (.dK [])) p2 (.dK (mergeK [] kvB))) (a := p1) (o := .dK (mergeK (mergeK [] kvA) (mergeK [] kvB)))
  have s3 : Same H (L2.upd (L2.upd (L2.upd H1 p2 (.dK [])) p2 (.dK (mergeK [] kvB))) p1 (.dK (mergeK (mergeK [] kvA) (mergeK [] kvB)))) := Same.put (Same.put (Same.trans' s1 (same_new hp2)) h20) hp1
  generalize L2.upd (L2.upd (L2.upd H1 p2 (.dK [])) p2 (.dK (mergeK [] kvB))) p1 (.dK (mergeK (mergeK [] kvA) (mergeK [] kvB))) = H3 at e3 s3 ⊢
  rw [kv_forms] at e3
  clear e1 s1 n21 h20 hp2
  refine ⟨by show 0 ≤ sizeLine; decide, fun L hL => ?_⟩
  have eL := upd_same (H := H3) (a := L) (o := .lst ([] : List V))
  have s4 := same_new (o := .lst ([] : List V)) hL
  have hL0 : H L = none := none_back s3 hL
  refine ⟨x, rfl, hx, fun p H5 s5 hp e5 => ?_⟩
  have eL5 := s5 _ _ eL
  have e35 := s5 _ _ (s4 _ _ e3)
  have s05 := Same.trans' s3 (Same.trans' s4 s5)
  have hp0 : H p = none := none_back (Same.trans' s3 s4) hp
  have nLp : L ≠ p := fun z => by rw [← z, eL] at hp; cases hp
  have n1L : p1 ≠ L := fun z => by rw [z, hL] at e3; cases e3
  have rl : ∀ l ∈ rowsOf x, l.length + 2 ≤ sizeLine ∧ Asc l := fun l hl => by
    unfold rowsOf at hl
    split at hl
    · cases hl
    · have := (split_le (x := x) (y := Str.ofString "\n") (by decide +kernel)).1 l hl
      exact ⟨by omega, asc_split asc l hl⟩
  have rn : (rowsOf x).length ≤ x.length + 1 := by
    unfold rowsOf
    split
    · simp
    · exact (split_le (x := x) (y := Str.ofString "\n") (by decide +kernel)).2
  have dq : ∀ d, ((∀ e ∈ (rowsOf x).map lineD, isNo e = false) ∧ d = .list ((rowsOf x).map lineD)) ∨ (∃ k, (∃ e, ((rowsOf x).map lineD)[k]? = some e ∧ isNo e = true) ∧ (∀ (j : Nat) (e : PyData), j < k → ((rowsOf x).map lineD)[j]? = some e → isNo e = false) ∧ d = .tuple [.str (Str.ofString "BadText"), N' k]) → dueD x d := fun d h => h
  clear s3 s4 s5 eL hp e3 hL asc
  generalize rowsOf x = rows at dq e5 rl rn
  refine ⟨_, _, rfl, ?_⟩
  have slz : sizeLine < 2 ^ 40 := by decide
  have rlt : ((rows.map V.str).length : Int) < 2 ^ 62 := by rw [List.length_map]; omega
  refine ⟨_, rfl, p, _, rfl, .inl (SqL.of e5), ((rows.map V.str).length : Nat), rfl, by omega, rlt, ?_⟩
  rw [Int.toNat_natCast, List.length_map]
  refine for_range (n := rows.length) (fun i σ H' => ∃ (zs : List V) (y4 y5 y6 y7 : Option V), σ = [some (.str x), some (.ref p1), some (.ref L), some (.ref p), y4, y5, y6, y7, none] ∧ Same H H' ∧ H' p1 = some (.dK (formsL.map fun q => ((Sum.inr q.1 : Key), V.str q.2))) ∧ H' p = some (.lst (rows.map V.str)) ∧ H' L = some (.lst zs) ∧ Dts K H' zs ((rows.take i).map lineD) ∧ ∀ (j : Nat) (e : PyData), j < i → (rows.map lineD)[j]? = some e → isNo e = false) ?_ ?_ ?_
  · exact ⟨[], none, none, none, none, rfl, s05, e35, e5, eL5, .nil, fun j _ h => absurd h (Nat.not_lt_zero j)⟩
  · rintro i σ H6 hi ⟨zs, y4, y5, y6, y7, rfl, s6, e16, e6, eL6, dz, gd⟩
    have er1 : rows[i]? = some rows[i] := List.getElem?_eq_getElem hi
    obtain ⟨rl1, ra1⟩ := rl _ (List.mem_of_getElem? er1)
    have emr : (rows.map lineD)[i]? = some (lineD rows[i]) := by rw [List.getElem?_map, er1]; rfl
    generalize hrow : rows[i] = row at er1 rl1 ra1 emr
    obtain ⟨sl, sn⟩ := split_le (x := row) (y := Str.ofString " ") (by decide +kernel)
    have asw := asc_split (y := Str.ofString " ") ra1
    rw [Int.zero_add]
    refine gnI ⟨_, rfl, _, rfl, p, _, (i : Int), V.str row, rfl, rfl, SqL.of e6, atI_nat (by rw [List.getElem?_map, er1]; rfl), ⟨_, rfl⟩, row, _, rfl, rfl, by decide +kernel, rl1, fun p5 hp5 => ?_⟩
    have hne := split_ne row (y := Str.ofString " ") (by decide +kernel) (by decide +kernel)
    have eld : lineD row = deedD (Txt.split row (Str.ofString " ")) := rfl
    obtain ⟨w0, ws, ew⟩ : ∃ w0 ws, Txt.split row (Str.ofString " ") = w0 :: ws := by
      cases h : Txt.split row (Str.ofString " ") with
      | nil => exact absurd h hne
      | cons a b => exact ⟨a, b, rfl⟩
    rw [ew] at sl sn asw eld ⊢
    have s56 := same_new (o := .lst ((w0 :: ws).map V.str)) hp5
    have e57 : L2.upd H6 p5 (.lst ((w0 :: ws).map V.str)) p5 = some (.lst ((w0 :: ws).map V.str)) := upd_same
    generalize L2.upd H6 p5 (.lst ((w0 :: ws).map V.str)) = H7 at s56 e57 ⊢
    have e17 := s56 _ _ e16
    have s7 := Same.trans' s6 s56
    have bad : isNo (lineD row) = true → ∀ H', Same H H' → ∀ pt, H' pt = none → Q (.ref pt) (L2.upd H' pt (.tup [V.str (Str.ofString "BadText"), V.int (i : Nat)])) := fun h H' s pt hpt =>
      q _ _ (.tuple [.str (Str.ofString "BadText"), N' i]) (Same.trans' s (same_new hpt)) (dq _ (.inr ⟨i, ⟨_, emr, h⟩, gd, rfl⟩)) (Dt.tup (SqT.of upd_same) (.cons (.str _) (.cons (.int _) .nil))).dp
    refine gnI ⟨_, rfl, p1, rfl, .inl ⟨_, .inl e17⟩, _, rfl, p5, _, 0, _, rfl, rfl, SqL.of e57, at0, _, DGet.k (k := Sum.inr w0) e17, ?_⟩
    rw [form_val]
    generalize ef : formOf w0 = f
    have e00 : Str.empty = Str.ofString "" := empty_str
    have b0 : (f = Str.empty ∨ ws.length ≠ f.length) → isNo (lineD row) = true := fun h => by
      rw [eld, deed_eq, ef, if_pos h]
      rfl
    refine gnI ⟨_, rfl, rfl, _, rfl, ?_⟩
    by_cases f0 : f = Str.ofString ""
    · refine dT (by rw [f0]) ?_
      exact ⟨_, rfl, by show 2 ≤ sizeLine; decide, bad (b0 (.inl (by rw [f0, e00]))) H7 s7⟩
    refine dF (fun z => f0 (V.str.inj z)) ?_
    have fl6 : f.length ≤ 6 := by
      have := form_len w0 (by rw [ef]; exact f0)
      rw [ef] at this
      exact this
    have fl : f.length ≤ sizeLine := Nat.le_trans fl6 (by decide)
    have lw : (((w0 :: ws).map V.str).length : Nat) = ws.length + 1 := by simp
    refine ⟨_, rfl, p5, _, rfl, .inl (SqL.of e57), _, rfl, f, rfl, fl, _, _, rfl, rfl, rfl, _, rfl, ?_⟩
    rw [lw]
    by_cases hl : ws.length = f.length
    · refine nF (by rw [hl]; exact congrArg V.int (by push_cast; omega)) ?_
      have hc0 : f.cps.toList.length = ws.length := by rw [hl]; exact Array.length_toList
      have lPL : (partsOf f ws).length = f.length := by
        unfold partsOf
        rw [List.length_map, List.length_zip, hc0]
        omega
      have ePL : ∀ (c : Nat) (hc : c < f.length), ∃ ch wd, f.cps.toList[c]? = some ch ∧ ws[c]? = some wd ∧ (partsOf f ws)[c]? = some (partD ⟨#[ch]⟩ wd) := fun c hc => by
        have h1 : f.cps.toList[c]? = some f.cps.toList[c] := List.getElem?_eq_getElem (by omega)
        have h2 : ws[c]? = some ws[c] := List.getElem?_eq_getElem (by omega)
        refine ⟨_, _, h1, h2, ?_⟩
        have hz : (f.cps.toList.zip ws)[c]? = some (f.cps.toList[c], ws[c]) := List.getElem?_zip_eq_some.mpr ⟨h1, h2⟩
        unfold partsOf
        rw [List.getElem?_map, hz]
        rfl
      refine ⟨_, rfl, f, rfl, fl, (f.length : Nat), rfl, by omega, by omega, fun D hD => lc_range (n := f.length) (fun c H' => ∃ acc, H' D = some (.lst acc) ∧ Dts K H' acc ((partsOf f ws).take c) ∧ Same H7 H') ?_ ?_ ?_⟩
      · exact ⟨[], upd_same, .nil, same_new hD⟩
      · rintro c H8 hc ⟨acc, eD, da, s8⟩
        obtain ⟨ch, wd, e1, e2, e3⟩ := ePL c hc
        have hl2 := sl wd (List.mem_cons_of_mem _ (List.mem_of_getElem? e2))
        rw [Int.zero_add]
        refine gnI ⟨rfl, _, rfl, _, rfl, f, (c : Int), ch, rfl, rfl, fl, atI_nat e1, _, rfl, _, rfl, _, _, rfl, rfl, p5, _, ((c : Int) + 1), V.str wd, rfl, rfl, SqL.of (s8 _ _ e57), ?_, ?_⟩
        · have : ((c : Int) + 1) = ((c + 1 : Nat) : Int) := by push_cast; rfl
          rw [this]
          exact atI_nat (by rw [List.getElem?_map, List.getElem?_cons_succ, e2]; rfl)
        unfold sp__law_part
        refine ⟨⟨#[ch]⟩, wd, rfl, by omega, asw wd (List.mem_cons_of_mem _ (List.mem_of_getElem? e2)), fun H9 v9 s9 d9 => ?_⟩
        have eD9 := s9 _ _ eD
        have kp : KeepT K H9 (L2.upd H9 D (.lst (acc ++ [v9]))) := KeepT.upd eD9 trivial
        have la := Dts.len da
        rw [List.length_take] at la
        refine ⟨acc, eD9, by omega, acc ++ [v9], upd_same, ?_, Same.put (Same.trans' s8 s9) hD⟩
        rw [List.take_add_one, e3]
        exact dts_snoc ((da.keep (KeepT.same s9)).keep kp) (d9.keep kp)
      · rintro H8 ⟨acc, eD, da, s8⟩
        rw [List.take_of_length_le (by omega)] at da
        have sh := parts_shaped f ws
        have an : ((partsOf f ws).any fun z => PyData.eqv z .none) = (partsOf f ws).any isNo := by
          congr 1
          funext d
          exact eqv_no d
        have s78 := Same.trans' s7 s8
        refine gnI ⟨_, rfl, .none, partsOf f ws, .non, .lst (SqL.of eD) da.dp, by decide +kernel, sh, _, rfl, ?_⟩
        rw [an]
        have hn : ¬ (f = Str.empty ∨ ws.length ≠ f.length) := fun h => by
          rcases h with h | h
          · exact f0 (by rw [h, e00])
          · exact h hl
        cases ha : (partsOf f ws).any isNo with
        | true =>
          refine iteT ⟨_, rfl, by show 2 ≤ sizeLine; decide, bad ?_ H8 s78⟩
          rw [eld, deed_eq, ef, if_neg hn, if_pos ha]
          rfl
        | false =>
          have eln : lineD row = .tuple (.str w0 :: partsOf f ws) := by
            rw [eld, deed_eq, ef, if_neg hn, if_neg (by rw [ha]; simp)]
          have lacc := Dts.len da
          have eL8 := s8 _ _ (s56 _ _ eL6)
          refine iteF ?_
          refine ⟨_, rfl, .inl ⟨rfl, _, SqL.of eL8⟩, _, rfl, p5, _, 0, _, rfl, rfl, SqL.of (s8 _ _ e57), at0, by show 1 ≤ sizeLine; decide, fun M hM => ?_⟩
          refine ⟨_, rfl, M, D, _, acc, rfl, rfl, upd_same, same_new hM _ _ eD, by rw [lacc, lPL]; show 1 + _ ≤ _; omega, fun p3 hp3 => ?_⟩
          refine ⟨p3, _, rfl, .inl ⟨SqL.of upd_same, fun t ht => ?_⟩⟩
          have s83 := Same.trans' (same_new (o := .lst [V.str w0]) hM) (Same.trans' (same_new (o := .lst ([V.str w0] ++ acc)) hp3) (same_new (o := .tup ([V.str w0] ++ acc)) ht))
          have dt : Dt K (L2.upd (L2.upd (L2.upd H8 M (.lst [V.str w0])) p3 (.lst ([V.str w0] ++ acc))) t (.tup ([V.str w0] ++ acc))) (.ref t) (lineD row) := by
            rw [eln]
            exact Dt.tup (SqT.of (upd_same (H := L2.upd (L2.upd H8 M (.lst [V.str w0])) p3 (.lst ([V.str w0] ++ acc))) (a := t) (o := .tup ([V.str w0] ++ acc)))) (.cons (.str w0) (da.keep (KeepT.same s83)))
          generalize L2.upd (L2.upd (L2.upd H8 M (.lst [V.str w0])) p3 (.lst ([V.str w0] ++ acc))) t (.tup ([V.str w0] ++ acc)) = H9 at s83 dt ⊢
          have eL9 := s83 _ _ eL8
          have s69 := Same.trans' s56 (Same.trans' s8 s83)
          have kp : KeepT K H9 (L2.upd H9 L (.lst (zs ++ [.ref t]))) := KeepT.upd eL9 trivial
          have lz := Dts.len dz
          rw [List.length_map, List.length_take] at lz
          refine ⟨L, _, _, rfl, rfl, eL9, by omega, zs ++ [.ref t], _, _, _, _, rfl, Same.put (Same.trans' s6 s69) hL0, (upd_ne n1L).trans (s69 _ _ e16), (upd_ne nLp.symm).trans (s69 _ _ e6), upd_same, ?_, fun j e hj ej => ?_⟩
          · rw [List.take_add_one, er1, List.map_append]
            exact dts_snoc ((dz.keep (KeepT.same s69)).keep kp) (dt.keep kp)
          · by_cases z : j = i
            · rw [z, emr] at ej
              rw [← Option.some.inj ej, eln]
              rfl
            · exact gd j e (by omega) ej
    · refine nT (fun z => hl (by have := V.int.inj z; omega)) ?_
      exact ⟨_, rfl, by show 2 ≤ sizeLine; decide, bad (b0 (.inr hl)) H7 s7⟩
  · rintro σ H' ⟨zs, y4, y5, y6, y7, rfl, s6, e16, e6, eL6, dz, gd⟩
    rw [List.take_of_length_le (Nat.le_refl _)] at dz
    refine ⟨_, rfl, q H' _ _ s6 (dq _ (.inl ⟨fun d hd => ?_, rfl⟩)) (.lst (SqL.of eL6) dz.dp)⟩
    obtain ⟨j, ej⟩ := List.mem_iff_getElem?.mp hd
    have hj := (List.getElem?_eq_some_iff.mp ej).1
    exact gd j d (by rw [List.length_map] at hj; exact hj) ej
end LH
end

section
set_option Elab.async false
set_option linter.all false
set_option maxRecDepth 100000
set_option maxHeartbeats 4000000
/-! rows of words, as lists of lists -/
namespace LH
open PySem PySem.Spec PyProof.Rows L2
variable {K : PySem.W.Frag}
/-- rows, each a list of words of its own -/
def RowsV (b l : Addr) (H : Hp) : List V → List (List Str) → Prop
  | [], [] => True
  | v :: vs, r :: rs => (∃ a, v = .ref a ∧ a ∉ [b, l] ∧ H a = some (.lst (r.map V.str))) ∧ RowsV b l H vs rs
  | _, _ => False
section
variable {b l : Addr} {H H' : Hp}
theorem RowsV.len : ∀ {vs : List V} {rs : List (List Str)}, RowsV b l H vs rs → vs.length = rs.length
  | [], [], _ => rfl
  | _ :: vs, _ :: rs, ⟨_, h⟩ => congrArg (· + 1) (RowsV.len h)
  | [], _ :: _, h => h.elim
  | _ :: _, [], h => h.elim
theorem RowsV.at_ : ∀ {vs : List V} {rs : List (List Str)} {i : Nat} {r : List Str}, RowsV b l H vs rs → rs[i]? = some r → ∃ a, vs[i]? = some (.ref a) ∧ a ∉ [b, l] ∧ H a = some (.lst (r.map V.str))
  | v :: vs, r :: rs, 0, _, ⟨⟨a, e, n, h⟩, _⟩, er => by
    cases er
    exact ⟨a, by rw [e]; rfl, n, h⟩
  | v :: vs, r :: rs, i + 1, _, ⟨_, h⟩, er => RowsV.at_ (i := i) h er
  | [], [], _, _, _, er => by simp at er
  | [], _ :: _, _, _, h, _ => h.elim
  | _ :: _, [], _, _, h, _ => h.elim
theorem RowsV.app : ∀ {vs ws : List V} {rs ss : List (List Str)}, RowsV b l H vs rs → RowsV b l H ws ss → RowsV b l H (vs ++ ws) (rs ++ ss)
  | [], _, [], _, _, h => h
  | _ :: vs, _, _ :: rs, _, ⟨a, h⟩, g => ⟨a, RowsV.app h g⟩
  | [], _, _ :: _, _, h, _ => h.elim
  | _ :: _, _, [], _, h, _ => h.elim
theorem RowsV.take : ∀ {vs : List V} {rs : List (List Str)} (i : Nat), RowsV b l H vs rs → RowsV b l H (vs.take i) (rs.take i)
  | _, _, 0, _ => by simp [RowsV]
  | [], [], _ + 1, _ => by simp [RowsV]
  | _ :: vs, _ :: rs, i + 1, ⟨a, h⟩ => ⟨a, RowsV.take i h⟩
  | [], _ :: _, _, h => h.elim
  | _ :: _, [], _, h => h.elim
theorem RowsV.drop : ∀ {vs : List V} {rs : List (List Str)} (i : Nat), RowsV b l H vs rs → RowsV b l H (vs.drop i) (rs.drop i)
  | _, _, 0, h => h
  | [], [], _ + 1, _ => by simp [RowsV]
  | _ :: vs, _ :: rs, i + 1, ⟨_, h⟩ => RowsV.drop i h
  | [], _ :: _, _, h => h.elim
  | _ :: _, [], _, h => h.elim
theorem RowsV.set : ∀ {vs : List V} {rs : List (List Str)} {i : Nat} {a : Addr} {r : List Str}, RowsV b l H vs rs → a ∉ [b, l] → H a = some (.lst (r.map V.str)) → RowsV b l H (vs.set i (.ref a)) (rs.set i r)
  | [], [], _, _, _, _, _, _ => trivial
  | _ :: vs, _ :: rs, 0, a, r, ⟨_, h⟩, n, e => ⟨⟨a, rfl, n, e⟩, h⟩
  | _ :: vs, _ :: rs, i + 1, _, _, ⟨x, h⟩, n, e => ⟨x, RowsV.set (i := i) h n e⟩
  | [], _ :: _, _, _, _, h, _, _ => h.elim
  | _ :: _, [], _, _, _, h, _, _ => h.elim
theorem RowsV.mono (m : ∀ a xs, a ∉ [b, l] → H a = some (.lst xs) → (∃ ss : List Str, xs = ss.map V.str) → H' a = some (.lst xs)) : ∀ {vs : List V} {rs : List (List Str)}, RowsV b l H vs rs → RowsV b l H' vs rs
  | [], [], _ => trivial
  | _ :: vs, r :: rs, ⟨⟨a, e, n, h⟩, g⟩ => ⟨⟨a, e, n, m a _ n h ⟨r, rfl⟩⟩, RowsV.mono m g⟩
  | [], _ :: _, h => h.elim
  | _ :: _, [], h => h.elim
theorem RowsV.same {vs : List V} {rs : List (List Str)} (h : RowsV b l H vs rs) (s : Same H H') : RowsV b l H' vs rs := h.mono fun _ _ _ e _ => s _ _ e
theorem RowsV.frw {vs : List V} {rs : List (List Str)} (h : RowsV b l H vs rs) (f : Frw K [b, l] H H') : RowsV b l H' vs rs := h.mono fun a _ n e _ => f.fr a _ n e fun _ z => nomatch z
/-- the rows' own list is written: none of the rows is it -/
theorem RowsV.upd {vs ws : List V} {rs : List (List Str)} {p a0 : Addr} {o : HO} (h : RowsV b l H vs rs) (e : H p = some (.lst (.ref a0 :: ws))) : RowsV b l (L2.upd H p o) vs rs := h.mono fun a xs n ea ⟨ss, es⟩ => by
  rw [upd_ne]
  · exact ea
  · intro z
    rw [z, e] at ea
    have := HO.lst.inj (Option.some.inj ea)
    rw [es] at this
    cases ss <;> simp at this
end
theorem cut_take {xs : List V} {i : Nat} : cutV xs none (some (i : Int)) = xs.take i := by
  unfold cutV
  rw [HT.sIx_nat, HT.sIx_none, Nat.sub_zero, List.drop_zero]
  by_cases h : i ≤ xs.length
  · rw [Nat.min_eq_left h]
  · rw [Nat.min_eq_right (by omega), List.take_of_length_le (Nat.le_refl _), List.take_of_length_le (by omega)]
theorem cut_drop {xs : List V} {i : Nat} : cutV xs (some (i : Int)) none = xs.drop i := by
  unfold cutV
  rw [HT.sIx_nat, HT.sIx_none]
  by_cases h : i ≤ xs.length
  · rw [Nat.min_eq_left h]
    exact List.take_of_length_le (by rw [List.length_drop]; exact Nat.le_refl _)
  · rw [Nat.min_eq_right (by omega), List.drop_of_length_le (Nat.le_refl _), List.drop_of_length_le (by omega)]
    simp
end LH
end

section
set_option Elab.async false
set_option linter.all false
set_option maxRecDepth 100000
set_option maxHeartbeats 4000000
/-! rows of words: sizes, signs -/
namespace LH
open PySem PySem.Spec PyProof.Rows L2
def wlen (r : List Str) : Nat := (r.map (·.length)).sum + r.length
def rlen (R : List (List Str)) : Nat := (R.map fun r => wlen r + 1).sum
def textR (R : List (List Str)) : Str := Txt.join (Str.ofString "\n") (R.map (Txt.join (Str.ofString " ")))
def splitR (x : Str) : List (List Str) := (Txt.split x (Str.ofString "\n")).map fun l => Txt.split l (Str.ofString " ")
def AscR (R : List (List Str)) : Prop := ∀ r ∈ R, ∀ w ∈ r, Asc w
theorem sum_app (a b : List Nat) : (a ++ b).sum = a.sum + b.sum := by
  induction a with
  | nil => simp
  | cons x a ih => rw [List.cons_append, List.sum_cons, List.sum_cons, ih]; omega
theorem wlen_app (a b : List Str) : wlen (a ++ b) = wlen a + wlen b := by
  unfold wlen
  rw [List.map_append, sum_app, List.length_append]
  omega
theorem rlen_app (a b : List (List Str)) : rlen (a ++ b) = rlen a + rlen b := by
  unfold rlen
  rw [List.map_append, sum_app]
theorem wlen_take (r : List Str) (i : Nat) : wlen (r.take i) ≤ wlen r := by
  have := wlen_app (r.take i) (r.drop i)
  rw [List.take_append_drop] at this
  omega
theorem wlen_drop (r : List Str) (i : Nat) : wlen (r.drop i) ≤ wlen r := by
  have := wlen_app (r.take i) (r.drop i)
  rw [List.take_append_drop] at this
  omega
theorem rlen_take (r : List (List Str)) (i : Nat) : rlen (r.take i) ≤ rlen r := by
  have := rlen_app (r.take i) (r.drop i)
  rw [List.take_append_drop] at this
  omega
theorem rlen_drop (r : List (List Str)) (i : Nat) : rlen (r.drop i) ≤ rlen r := by
  have := rlen_app (r.take i) (r.drop i)
  rw [List.take_append_drop] at this
  omega
theorem rlen_one (r : List Str) : rlen [r] = wlen r + 1 := by simp [rlen]
theorem rlen_mem {R : List (List Str)} {r : List Str} (h : r ∈ R) : wlen r + 1 ≤ rlen R := by
  obtain ⟨a, b, rfl⟩ := List.append_of_mem h
  rw [rlen_app, show r :: b = [r] ++ b from rfl, rlen_app, rlen_one]
  omega
theorem rlen_set (R : List (List Str)) (i : Nat) (r : List Str) : rlen (R.set i r) ≤ rlen R + wlen r + 1 := by
  by_cases h : i < R.length
  · rw [List.set_eq_take_append_cons_drop, if_pos h, rlen_app, show r :: R.drop (i + 1) = [r] ++ R.drop (i + 1) from rfl, rlen_app, rlen_one]
    have := rlen_app (R.take (i + 1)) (R.drop (i + 1))
    rw [List.take_append_drop] at this
    have h2 : rlen (R.take i) ≤ rlen (R.take (i + 1)) := by
      have := rlen_take (R.take (i + 1)) i
      rw [List.take_take, Nat.min_eq_left (by omega)] at this
      exact this
    omega
  · rw [List.set_eq_of_length_le (by omega)]
    omega
theorem join_le (sep : Str) (h : sep.length = 1) (ys : List Str) : (Txt.join sep ys).length ≤ wlen ys := by
  have e : (Txt.join sep ys).length ≤ (ys.map (·.length)).sum + ys.length * sep.length := by
    show (Builtin.Str.glued sep ys).length ≤ _
    rw [StrLaws.glued_eq_join]
    exact StrLaws.join_length_le sep ys
  rw [h, Nat.mul_one] at e
  exact e
theorem sp1 : (Str.ofString " ").length = 1 := by decide +kernel
theorem nl1 : (Str.ofString "\n").length = 1 := by decide +kernel
theorem rlen_rows (R : List (List Str)) : wlen (R.map (Txt.join (Str.ofString " "))) ≤ rlen R := by
  induction R with
  | nil => exact Nat.le_refl _
  | cons r R ih =>
    rw [List.map_cons, show Txt.join (Str.ofString " ") r :: R.map (Txt.join (Str.ofString " ")) = [Txt.join (Str.ofString " ") r] ++ R.map (Txt.join (Str.ofString " ")) from rfl, wlen_app, show r :: R = [r] ++ R from rfl, rlen_app, rlen_one]
    have h1 := join_le (Str.ofString " ") sp1 r
    have h2 : wlen [Txt.join (Str.ofString " ") r] = (Txt.join (Str.ofString " ") r).length + 1 := by simp [wlen]
    omega
theorem textR_le (R : List (List Str)) : (textR R).length ≤ rlen R := Nat.le_trans (join_le _ nl1 _) (rlen_rows R)
theorem wlen_join (y : Str) (h : y.length = 1) : ∀ ps : List Str, ps ≠ [] → wlen ps = (Str.join y ps).length + 1
  | [], h => absurd rfl h
  | [x], _ => by simp [wlen, Str.join]
  | x :: z :: r, _ => by
    have ih := wlen_join y h (z :: r) (by simp)
    have e : (Str.join y (x :: z :: r)).length = x.length + y.length + (Str.join y (z :: r)).length := by
      show (x ++ y ++ Str.join y (z :: r)).length = _
      rw [Str.length_append, Str.length_append]
    rw [e, show x :: z :: r = [x] ++ (z :: r) from rfl, wlen_app, ih]
    have : wlen [x] = x.length + 1 := by simp [wlen]
    omega
theorem wlen_split (x y : Str) (h : y.length = 1) (hn : Txt.split x y ≠ []) : wlen (Txt.split x y) = x.length + 1 := by
  rw [wlen_join y h _ hn, StrLaws.join_split]
theorem splitR_le (x : Str) : rlen (splitR x) ≤ 2 * x.length + 2 := by
  have h1 := wlen_split x (Str.ofString "\n") nl1 (split_ne x (by decide +kernel) (by decide +kernel))
  have h2 := (split_le (x := x) (y := Str.ofString "\n") (by decide +kernel)).2
  unfold splitR
  have h3 : ∀ ls : List Str, rlen (ls.map fun l => Txt.split l (Str.ofString " ")) = wlen ls + ls.length := by
    intro ls
    induction ls with
    | nil => rfl
    | cons l ls ih =>
      rw [List.map_cons, show (Txt.split l (Str.ofString " ") :: ls.map fun l => Txt.split l (Str.ofString " ")) = [Txt.split l (Str.ofString " ")] ++ ls.map fun l => Txt.split l (Str.ofString " ") from rfl, rlen_app, rlen_one, ih,
        wlen_split l (Str.ofString " ") sp1 (split_ne l (by decide +kernel) (by decide +kernel)), show l :: ls = [l] ++ ls from rfl, wlen_app, List.length_append, List.length_singleton]
      have : wlen [l] = l.length + 1 := by simp [wlen]
      omega
  rw [h3]
  omega
theorem splitR_ne (x : Str) : splitR x ≠ [] := fun z => split_ne x (y := Str.ofString "\n") (by decide +kernel) (by decide +kernel) (List.map_eq_nil_iff.mp z)
theorem splitR_asc {x : Str} (h : Asc x) : AscR (splitR x) := fun r hr w hw => by
  obtain ⟨l, hl, rfl⟩ := List.mem_map.mp hr
  exact asc_split (asc_split h l hl) w hw
theorem asc_str_join {y : Str} (hy : Asc y) : ∀ {ps : List Str}, (∀ p ∈ ps, Asc p) → Asc (Str.join y ps)
  | [], _ => fun c hc => by cases hc
  | [x], h => h x List.mem_cons_self
  | x :: z :: r, h => fun c hc => by
    have e : (Str.join y (x :: z :: r)).cps.toList = x.cps.toList ++ y.cps.toList ++ (Str.join y (z :: r)).cps.toList := by
      show TL.tl (x ++ y ++ Str.join y (z :: r)) = TL.tl x ++ TL.tl y ++ TL.tl (Str.join y (z :: r))
      rw [TL.tl_append, TL.tl_append]
    rw [e] at hc
    rcases List.mem_append.mp hc with hc | hc
    · rcases List.mem_append.mp hc with hc | hc
      · exact h x List.mem_cons_self c hc
      · exact hy c hc
    · exact asc_str_join hy (ps := z :: r) (fun p hp => h p (List.mem_cons_of_mem _ hp)) c hc
theorem asc_txt_join {y : Str} (hy : Asc y) {ps : List Str} (h : ∀ p ∈ ps, Asc p) : Asc (Txt.join y ps) := by
  rw [TL.join_eq]
  exact asc_str_join hy h
theorem textR_asc {R : List (List Str)} (h : AscR R) : Asc (textR R) := asc_txt_join (by unfold Asc; decide +kernel) fun p hp => by
  obtain ⟨r, hr, rfl⟩ := List.mem_map.mp hp
  exact asc_txt_join (by unfold Asc; decide +kernel) (h r hr)
theorem ascR_app {a b : List (List Str)} (h : AscR a) (g : AscR b) : AscR (a ++ b) := fun r hr => (List.mem_append.mp hr).elim (h r) (g r)
theorem ascR_take {a : List (List Str)} (h : AscR a) (i : Nat) : AscR (a.take i) := fun r hr => h r (List.mem_of_mem_take hr)
theorem ascR_drop {a : List (List Str)} (h : AscR a) (i : Nat) : AscR (a.drop i) := fun r hr => h r (List.mem_of_mem_drop hr)
theorem ascR_set {a : List (List Str)} (h : AscR a) (i : Nat) {r : List Str} (g : ∀ w ∈ r, Asc w) : AscR (a.set i r) := fun s hs => by
  rcases List.mem_or_eq_of_mem_set hs with z | z
  · exact h s z
  · rw [z]
    exact g
end LH
end

section
set_option Elab.async false
set_option linter.all false
set_option maxRecDepth 100000
set_option maxHeartbeats 4000000
set_option pp.maxSteps 1500
/-! _law_spoilt -/
namespace LH
open PySem PySem.Spec PyProof.Rows L2 StX LamX
open C8 (pss_cut tCut)
variable {P : Program} {w : World} {K : PySem.W.Frag} {mg : Str → Option Value} {base : Heap}
def oddL : List Str := [Str.ofString "add", Str.ofString "clock", Str.ofString "join", Str.ofString "turn", Str.ofString "take", Str.ofString "0", Str.ofString "1", Str.ofString "00", Str.ofString "01", Str.ofString "99999", Str.ofString "100000", Str.ofString "-1", Str.ofString "-", Str.ofString "", Str.ofString "x", Str.ofString "A", Str.ofString "07", Str.ofString "010", Str.ofString "0,,1", Str.ofString ",0", Str.ofString "a,bb", Str.ofString "a,", Str.ofString ",a", Str.ofString "0,1", Str.ofString "1,0,", Str.ofString "abcdefghi", Str.ofString "abcdefgh", Str.ofString "a1", Str.ofString "Turn"]
theorem odd_le : ∀ w ∈ oddL, w.length ≤ 10 ∧ Asc w := by
  have h : (oddL.all fun w => decide (w.length ≤ 10) && w.cps.toList.all fun c => decide (c < 128)) = true := by decide +kernel
  intro w hw
  have h1 := List.all_eq_true.mp h w hw
  obtain ⟨a, b⟩ := Bool.and_eq_true_iff.mp h1
  exact ⟨of_decide_eq_true a, fun c hc => of_decide_eq_true (List.all_eq_true.mp b c hc)⟩
theorem RowsV.updD {b l D : Addr} {H : Hp} {vs : List V} {rs : List (List Str)} {o : HO} (h : RowsV b l H vs rs) (e : H D = some (.lst vs)) : RowsV b l (L2.upd H D o) vs rs := by
  cases vs with
  | nil => cases rs <;> exact h
  | cons v vs =>
    cases rs with
    | nil => exact h.elim
    | cons r rs =>
      obtain ⟨⟨a, rfl, _⟩, _⟩ := id h
      exact h.upd e
theorem ixN_nat {n k : Nat} (h : k < n) : ixN n (k : Int) = some k := by
  unfold ixN
  have h1 : (0 : Int) ≤ k := by omega
  have h2 : ((k : Int)).toNat = k := by omega
  simp [h2, h]
theorem BoxAt.upd {b l D : Addr} {H : Hp} {o : HO} (bx : BoxAt H b l) (n : D ∉ [b, l]) : BoxAt (L2.upd H D o) b l := by
  have nb : b ≠ D := fun z => n (by rw [← z]; simp)
  have nl : l ≠ D := fun z => n (by rw [← z]; simp)
  exact ⟨let ⟨r, e⟩ := bx.box; ⟨r, (upd_ne nb).trans e⟩, let ⟨ns, e, z⟩ := bx.nums; ⟨ns, (upd_ne nl).trans e, z⟩, bx.ne⟩
theorem two_le (r : List Str) (i j : Nat) : wlen (r.take i ++ r.drop j) ≤ 2 * wlen r + 13 := by
  rw [wlen_app]
  have h1 := wlen_take r i
  have h2 := wlen_drop r j
  omega
theorem two_asc {r : List Str} (h : ∀ w ∈ r, Asc w) (i j : Nat) : ∀ w ∈ r.take i ++ r.drop j, Asc w := fun w hw => (List.mem_append.mp hw).elim (fun z => h w (List.mem_of_mem_take z)) fun z => h w (List.mem_of_mem_drop z)
theorem rlen_cut {R : List (List Str)} {k : Nat} {r : List Str} (h : R[k]? = some r) : rlen (R.take k) + (wlen r + 1) + rlen (R.drop (k + 1)) = rlen R := by
  obtain ⟨hk, e⟩ := List.getElem?_eq_some_iff.mp h
  have h1 : R.drop k = [r] ++ R.drop (k + 1) := by rw [List.drop_eq_getElem_cons hk, e]; rfl
  have h2 := rlen_app (R.take k) (R.drop k)
  rw [List.take_append_drop, h1, rlen_app, rlen_one] at h2
  omega
theorem rlen_set2 {R : List (List Str)} {k : Nat} {r : List Str} (h : R[k]? = some r) (r' : List Str) : rlen (R.set k r') + wlen r = rlen R + wlen r' := by
  obtain ⟨hk, e⟩ := List.getElem?_eq_some_iff.mp h
  have h1 := rlen_cut h
  rw [List.set_eq_take_append_cons_drop, if_pos hk, rlen_app, show r' :: R.drop (k + 1) = [r'] ++ R.drop (k + 1) from rfl, rlen_app, rlen_one]
  omega
theorem wlen_cut (r : List Str) (i : Nat) : wlen (r.take i) + wlen (r.drop i) = wlen r := by
  rw [← wlen_app, List.take_append_drop]
theorem rows_rep {b l a : Addr} {H : Hp} {r : List Str} (n : a ∉ [b, l]) (e : H a = some (.lst (r.map V.str))) : ∀ m : Nat, RowsV b l H (List.replicate m (.ref a)) (List.replicate m r)
  | 0 => trivial
  | m + 1 => ⟨⟨a, rfl, n, e⟩, rows_rep n e m⟩
theorem strs_eq {H : Hp} : ∀ {ss : List Str} {zs : List V}, Dts K H zs (ss.map .str) → zs = ss.map V.str
  | [], _, d => by cases d; rfl
  | s :: ss, _, d => by
    cases d with
    | cons a b =>
      cases a
      rw [strs_eq b]
      rfl
@[irreducible] def sp__law_spoilt (K : PySem.W.Frag) : Sp := fun vs H Q E => ∃ (b l : Addr) (x : Str), vs = [.ref b, .str x] ∧ BoxAt H b l ∧ Asc x ∧ x.length ≤ 1500000 ∧ ∀ H' y, Frw K [b, l] H H' → BoxAt H' b l → Asc y → y.length ≤ 4 * x.length + 24 → Q (.str y) H'
theorem sc__law_spoilt : FnScope ["_law_box", "_law_text", "_law_odd", "_law_rows", "_law_place", "_law_deed", "_law_row", "_law_at", "_law_word", "_law_some"] ["_law_box", "_law_text"] (defScope s__law_spoilt) := ⟨rfl, rfl, rfl, by decide +kernel, rfl, by decide +kernel, by decide +kernel⟩
theorem Tp.ok__law_spoilt (T : Tp P w K mg base) : FnR P w K mg base (L2.CX P w) (20 + 1) (He.ga K "_law_spoilt") (sp__law_spoilt K) := by
  refine fnr (N := ["_law_box", "_law_text", "_law_odd", "_law_rows", "_law_place", "_law_deed", "_law_row", "_law_at", "_law_word", "_law_some"]) (ps := ["_law_box", "_law_text"]) (k := 20) T.fd__law_spoilt sc__law_spoilt (fun _ _ _ _ _ _ us hl => match us, hl with | [_, _], _ => rfl) (fun vs H Q E h => ?_) fun cdv A outer s H vs Q E hr h => ?_
  · unfold sp__law_spoilt at h
    obtain ⟨_, _, _, rfl, _⟩ := h
    rfl
  unfold sp__law_spoilt at h
  obtain ⟨b, l, x, rfl, bx, asc, hx, q⟩ := h
  refine ⟨_, (pss_cons (ps_set (i := 2) sc__law_spoilt.nd rfl (by first | exact .inl rfl | exact .inr rfl) (pe_lst (pa_cons pe_str (pa_cons pe_str (pa_cons pe_str (pa_cons pe_str (pa_cons pe_str (pa_cons pe_str (pa_cons pe_str (pa_cons pe_str (pa_cons pe_str (pa_cons pe_str (pa_cons pe_str (pa_cons pe_str (pa_cons pe_str (pa_cons pe_str (pa_cons pe_str (pa_cons pe_str pa_nil))))))))))))))))))
      (pss_cons (ps_set (i := 2) sc__law_spoilt.nd rfl (by first | exact .inl rfl | exact .inr rfl) (pe_op op_cat (pv 2) (pe_lst (pa_cons pe_str (pa_cons pe_str (pa_cons pe_str (pa_cons pe_str (pa_cons pe_str (pa_cons pe_str (pa_cons pe_str (pa_cons pe_str (pa_cons pe_str (pa_cons pe_str (pa_cons pe_str (pa_cons pe_str (pa_cons pe_str pa_nil))))))))))))))))
      (pss_cons (ps_setLc (i := 3) (own := [("_law_row", 6)]) rfl sc__law_spoilt.nd rfl rfl rfl (pi_list (pe_split (pv 1) pe_str)) (blkOk_by (own := [("_law_row", 6)]) (N := ["_law_box", "_law_text", "_law_odd", "_law_rows", "_law_place", "_law_deed", "_law_row", "_law_at", "_law_word", "_law_some"]) (sc := defScope s__law_spoilt) (by decide +kernel)) (fun _ _ _ _ _ => (pg_name (i := 6) sc__law_spoilt.nd rfl (by first | exact .inl rfl | exact .inr rfl))) (fun _ _ _ _ _ => pts_nil) (fun _ _ _ _ _ => (pe_split (pv 6) pe_str)))
      (pss_cons (ps_par (i := 4) (j := 5) rfl sc__law_spoilt.nd rfl rfl (by decide) rfl rfl (pa_cons (pe_callP T.ok__law_take (rm hr) (kp_of T.fd__law_take) rfl T.g__law_take passE (pa_cons (pv 0) (pa_cons (pe_callB call_len_seq rfl T.f_len bt_len (pa_cons (pv 3) pa_nil)) pa_nil))) (pa_cons (pe_callP T.ok__law_take (rm hr) (kp_of T.fd__law_take) rfl T.g__law_take passE (pa_cons (pv 0) (pa_cons pe_int pa_nil))) pa_nil)) (by rfl))
      (pss_cons (ps_set (i := 6) sc__law_spoilt.nd rfl (by first | exact .inl rfl | exact .inr rfl) (pe_ix ix_list (pv 3) (pv 4) (fun _ _ => rfl)))
      (pss_cons (ps_par (i := 7) (j := 8) rfl sc__law_spoilt.nd rfl rfl (by decide) rfl rfl (pa_cons (pe_callP T.ok__law_take (rm hr) (kp_of T.fd__law_take) rfl T.g__law_take passE (pa_cons (pv 0) (pa_cons (pe_op op_add (pe_callB call_len_seq rfl T.f_len bt_len (pa_cons (pv 6) pa_nil)) pe_int) pa_nil))) (pa_cons (pe_ix ix_list (pv 2) (pe_callP T.ok__law_take (rm hr) (kp_of T.fd__law_take) rfl T.g__law_take passE (pa_cons (pv 0) (pa_cons pe_int pa_nil))) (fun _ _ => rfl)) pa_nil)) (by rfl))
      (pss_cut (ps_if (pt_cmpR op_lt (pv 5) pe_int (nomark _)) (pss_one (ps_asg (pe_op op_cat (pe_op op_cat (pe_slice sl_list (pv 6) po_none (po_some (pv 7))) (pe_lst (pa_cons (pv 8) pa_nil))) (pe_slice sl_list (pv 6) (po_some (pe_op op_add (pv 7) (pe_op op_fdiv (pv 5) pe_int))) po_none)) (pg_sub (pv 3) (pv 4) set_list))) (pss_one (ps_if (pt_cmpR op_eq (pv 5) pe_int (nomark _)) (pss_one (ps_asg (pe_op op_cat (pe_slice sl_list (pv 6) po_none (po_some (pv 7))) (pe_slice sl_list (pv 6) (po_some (pe_op op_add (pv 7) pe_int)) po_none)) (pg_sub (pv 3) (pv 4) set_list))) (pss_one (ps_if (pt_cmpR op_eq (pv 5) pe_int (nomark _)) (pss_one (ps_asg (pe_op op_cat (pe_slice sl_list (pv 6) po_none (po_some (pv 7))) (pe_slice sl_list (pv 6) (po_some (pe_callB (call_max2 rfl) rfl T.f_max bt_max (pa_cons pe_int (pa_cons (pe_op op_sub (pv 7) pe_int) pa_nil)))) po_none)) (pg_sub (pv 3) (pv 4) set_list))) (pss_one (ps_if (pt_cmpR op_eq (pv 5) pe_int (nomark _)) (pss_one (ps_set (i := 3) sc__law_spoilt.nd rfl (by first | exact .inl rfl | exact .inr rfl) (pe_op op_cat (pe_op op_cat (pe_slice sl_list (pv 3) po_none (po_some (pv 4))) (pe_lst (pa_cons (pe_slice sl_list (pv 6) po_none (po_some (pv 7))) (pa_cons (pe_slice sl_list (pv 6) (po_some (pv 7)) po_none) pa_nil)))) (pe_slice sl_list (pv 3) (po_some (pe_op op_add (pv 4) pe_int)) po_none)))) (pss_one (ps_set (i := 3) sc__law_spoilt.nd rfl (by first | exact .inl rfl | exact .inr rfl) (pe_ifExp (pt_cmpR op_gt (pe_callB call_len_seq rfl T.f_len bt_len (pa_cons (pv 3) pa_nil)) pe_int (nomark _)) (pe_op op_cat (pe_op op_cat (pe_slice sl_list (pv 3) po_none (po_some (pv 4))) (pe_op op_rep (pe_lst (pa_cons (pv 6) pa_nil)) (pe_callP T.ok__law_take (rm hr) (kp_of T.fd__law_take) rfl T.g__law_take passE (pa_cons (pv 0) (pa_cons pe_int pa_nil))))) (pe_slice sl_list (pv 3) (po_some (pe_op op_add (pv 4) pe_int)) po_none)) (pe_op op_cat (pv 3) (pe_lst (pa_cons (pv 6) pa_nil)))))))))))))
      (pss_one (ps_ret (pe_join pe_str (pe_lc (own := [("_law_some", 9)]) rfl sc__law_spoilt.nd (pi_list (pv 3)) (blkOk_by (own := [("_law_some", 9)]) (N := ["_law_box", "_law_text", "_law_odd", "_law_rows", "_law_place", "_law_deed", "_law_row", "_law_at", "_law_word", "_law_some"]) (sc := defScope s__law_spoilt) (by decide +kernel)) (fun _ _ _ _ _ => (pg_name (i := 9) sc__law_spoilt.nd rfl (by first | exact .inl rfl | exact .inr rfl))) (fun _ _ _ _ _ => pts_nil) (fun _ _ _ _ _ => (pe_joinK K rfl pe_str (pv 9)))))))))))))), ?_⟩
  have big : 10000000 < sizeLine := by decide
  refine ⟨by show 16 ≤ sizeLine; decide, fun p1 hp1 => gnI ⟨_, rfl, by show 13 ≤ sizeLine; decide, fun p2 hp2 => ?_⟩⟩
  have s1 := same_new (o := .lst ([V.str (Str.ofString "add"), V.str (Str.ofString "clock"), V.str (Str.ofString "join"), V.str (Str.ofString "turn"), V.str (Str.ofString "take"), V.str (Str.ofString "0"), V.str (Str.ofString "1"), V.str (Str.ofString "00"), V.str (Str.ofString "01"), V.str (Str.ofString "99999"), V.str (Str.ofString "100000"), V.str (Str.ofString "-1"), V.str (Str.ofString "-"), V.str (Str.ofString ""), V.str (Str.ofString "x"), V.str (Str.ofString "A")] : List V)) hp1
  have e1 := upd_same (H := H) (a := p1) (o := .lst ([V.str (Str.ofString "add"), V.str (Str.ofString "clock"), V.str (Str.ofString "join"), V.str (Str.ofString "turn"), V.str (Str.ofString "take"), V.str (Str.ofString "0"), V.str (Str.ofString "1"), V.str (Str.ofString "00"), V.str (Str.ofString "01"), V.str (Str.ofString "99999"), V.str (Str.ofString "100000"), V.str (Str.ofString "-1"), V.str (Str.ofString "-"), V.str (Str.ofString ""), V.str (Str.ofString "x"), V.str (Str.ofString "A")] : List V))
  generalize L2.upd H p1 (.lst ([V.str (Str.ofString "add"), V.str (Str.ofString "clock"), V.str (Str.ofString "join"), V.str (Str.ofString "turn"), V.str (Str.ofString "take"), V.str (Str.ofString "0"), V.str (Str.ofString "1"), V.str (Str.ofString "00"), V.str (Str.ofString "01"), V.str (Str.ofString "99999"), V.str (Str.ofString "100000"), V.str (Str.ofString "-1"), V.str (Str.ofString "-"), V.str (Str.ofString ""), V.str (Str.ofString "x"), V.str (Str.ofString "A")] : List V)) = H1 at s1 e1 hp2 ⊢
  have s2 := same_new (o := .lst ([V.str (Str.ofString "07"), V.str (Str.ofString "010"), V.str (Str.ofString "0,,1"), V.str (Str.ofString ",0"), V.str (Str.ofString "a,bb"), V.str (Str.ofString "a,"), V.str (Str.ofString ",a"), V.str (Str.ofString "0,1"), V.str (Str.ofString "1,0,"), V.str (Str.ofString "abcdefghi"), V.str (Str.ofString "abcdefgh"), V.str (Str.ofString "a1"), V.str (Str.ofString "Turn")] : List V)) hp2
  refine ⟨p1, p2, _, _, rfl, rfl, s2 _ _ e1, upd_same, by show 16 + 13 ≤ sizeLine; decide, fun p3 hp3 => ?_⟩
  have s3 := same_new (o := .lst ([V.str (Str.ofString "add"), V.str (Str.ofString "clock"), V.str (Str.ofString "join"), V.str (Str.ofString "turn"), V.str (Str.ofString "take"), V.str (Str.ofString "0"), V.str (Str.ofString "1"), V.str (Str.ofString "00"), V.str (Str.ofString "01"), V.str (Str.ofString "99999"), V.str (Str.ofString "100000"), V.str (Str.ofString "-1"), V.str (Str.ofString "-"), V.str (Str.ofString ""), V.str (Str.ofString "x"), V.str (Str.ofString "A")] ++ [V.str (Str.ofString "07"), V.str (Str.ofString "010"), V.str (Str.ofString "0,,1"), V.str (Str.ofString ",0"), V.str (Str.ofString "a,bb"), V.str (Str.ofString "a,"), V.str (Str.ofString ",a"), V.str (Str.ofString "0,1"), V.str (Str.ofString "1,0,"), V.str (Str.ofString "abcdefghi"), V.str (Str.ofString "abcdefgh"), V.str (Str.ofString "a1"), V.str (Str.ofString "Turn")] : List V)) hp3
  have e3 : L2.upd (L2.upd H1 p2 (.lst ([V.str (Str.ofString "07"), V.str (Str.ofString "010"), V.str (Str.ofString "0,,1"), V.str (Str.ofString ",0"), V.str (Str.ofString "a,bb"), V.str (Str.ofString "a,"), V.str (Str.ofString ",a"), V.str (Str.ofString "0,1"), V.str (Str.ofString "1,0,"), V.str (Str.ofString "abcdefghi"), V.str (Str.ofString "abcdefgh"), V.str (Str.ofString "a1"), V.str (Str.ofString "Turn")] : List V))) p3 (.lst ([V.str (Str.ofString "add"), V.str (Str.ofString "clock"), V.str (Str.ofString "join"), V.str (Str.ofString "turn"), V.str (Str.ofString "take"), V.str (Str.ofString "0"), V.str (Str.ofString "1"), V.str (Str.ofString "00"), V.str (Str.ofString "01"), V.str (Str.ofString "99999"), V.str (Str.ofString "100000"), V.str (Str.ofString "-1"), V.str (Str.ofString "-"), V.str (Str.ofString ""), V.str (Str.ofString "x"), V.str (Str.ofString "A")] ++ [V.str (Str.ofString "07"), V.str (Str.ofString "010"), V.str (Str.ofString "0,,1"), V.str (Str.ofString ",0"), V.str (Str.ofString "a,bb"), V.str (Str.ofString "a,"), V.str (Str.ofString ",a"), V.str (Str.ofString "0,1"), V.str (Str.ofString "1,0,"), V.str (Str.ofString "abcdefghi"), V.str (Str.ofString "abcdefgh"), V.str (Str.ofString "a1"), V.str (Str.ofString "Turn")] : List V)) p3 = some (.lst (oddL.map V.str)) := upd_same
  have s03 := Same.trans' s1 (Same.trans' s2 s3)
  generalize L2.upd (L2.upd H1 p2 (.lst ([V.str (Str.ofString "07"), V.str (Str.ofString "010"), V.str (Str.ofString "0,,1"), V.str (Str.ofString ",0"), V.str (Str.ofString "a,bb"), V.str (Str.ofString "a,"), V.str (Str.ofString ",a"), V.str (Str.ofString "0,1"), V.str (Str.ofString "1,0,"), V.str (Str.ofString "abcdefghi"), V.str (Str.ofString "abcdefgh"), V.str (Str.ofString "a1"), V.str (Str.ofString "Turn")] : List V))) p3 (.lst ([V.str (Str.ofString "add"), V.str (Str.ofString "clock"), V.str (Str.ofString "join"), V.str (Str.ofString "turn"), V.str (Str.ofString "take"), V.str (Str.ofString "0"), V.str (Str.ofString "1"), V.str (Str.ofString "00"), V.str (Str.ofString "01"), V.str (Str.ofString "99999"), V.str (Str.ofString "100000"), V.str (Str.ofString "-1"), V.str (Str.ofString "-"), V.str (Str.ofString ""), V.str (Str.ofString "x"), V.str (Str.ofString "A")] ++ [V.str (Str.ofString "07"), V.str (Str.ofString "010"), V.str (Str.ofString "0,,1"), V.str (Str.ofString ",0"), V.str (Str.ofString "a,bb"), V.str (Str.ofString "a,"), V.str (Str.ofString ",a"), V.str (Str.ofString "0,1"), V.str (Str.ofString "1,0,"), V.str (Str.ofString "abcdefghi"), V.str (Str.ofString "abcdefgh"), V.str (Str.ofString "a1"), V.str (Str.ofString "Turn")] : List V)) = H3 at s03 e3 ⊢
  have n3 : p3 ∉ [b, l] := (bx.same (Same.trans' s1 s2)).out hp3
  clear s1 e1 s2 s3 hp1 hp2 hp3
  have bx3 := bx.same s03
  refine gnI ⟨_, rfl, ⟨_, rfl⟩, x, _, rfl, rfl, by decide +kernel, by omega, fun p4 hp4 => ?_⟩
  have s4 := same_new (o := .lst ((Txt.split x (Str.ofString "\n")).map V.str)) hp4
  have e4 : L2.upd H3 p4 (.lst ((Txt.split x (Str.ofString "\n")).map V.str)) p4 = some (.lst ((Txt.split x (Str.ofString "\n")).map V.str)) := upd_same
  generalize L2.upd H3 p4 (.lst ((Txt.split x (Str.ofString "\n")).map V.str)) = H4 at s4 e4 ⊢
  obtain ⟨sl, sn⟩ := split_le (x := x) (y := Str.ofString "\n") (by decide +kernel)
  have e34 := s4 _ _ e3
  have bx4 := bx3.same s4
  have s04 := Same.trans' s03 s4
  have hsp : (splitR x).length = (Txt.split x (Str.ofString "\n")).length := by unfold splitR; rw [List.length_map]
  have hsq : ∀ (i : Nat) (ln : Str), (Txt.split x (Str.ofString "\n"))[i]? = some ln → (splitR x)[i]? = some (Txt.split ln (Str.ofString " ")) := fun i ln h => by unfold splitR; rw [List.getElem?_map, h]; rfl
  have hRl := splitR_le x
  have hRa := splitR_asc asc
  have hRn := splitR_ne x
  generalize Txt.split x (Str.ofString "\n") = ls at e4 sl sn hsp hsq ⊢
  generalize splitR x = R at hsp hsq hRl hRa hRn
  clear s4 s03 bx3 e3
  refine ⟨p4, rfl, ⟨_, SqL.of e4⟩, fun D hD => ?_⟩
  have nD : D ∉ [b, l] := bx4.out hD
  have n0D : H D = none := none_back s04 hD
  have frD : Fresh0 H D := fun o h => by rw [n0D] at h; cases h
  refine lc_list (K := K) (a := p4) (xs := ls.map V.str) (fun i H' => ∃ vs, H' D = some (.lst vs) ∧ RowsV b l H' vs (R.take i) ∧ Same H4 H') ?_ ?_ ?_ ?_
  · exact ⟨[], upd_same, by simp [RowsV], same_new hD⟩
  · rintro i H' _ ⟨vs, _, _, s⟩
    exact sqL_same (SqL.of e4) s
  · rintro i v H5 ev ⟨vs, eD, rv, s5⟩
    have hi : i < ls.length := by have := (List.getElem?_eq_some_iff.mp ev).1; simpa using this
    have el : ls[i]? = some ls[i] := List.getElem?_eq_getElem hi
    rw [List.getElem?_map, el] at ev
    obtain rfl := Option.some.inj ev
    have hl1 := sl _ (List.mem_of_getElem? el)
    refine gnI ⟨rfl, _, rfl, ⟨_, rfl⟩, ls[i], _, rfl, rfl, by decide +kernel, by omega, fun p5 hp5 => ?_⟩
    have s6 := same_new (o := .lst ((Txt.split ls[i] (Str.ofString " ")).map V.str)) hp5
    have e6 : L2.upd H5 p5 (.lst ((Txt.split ls[i] (Str.ofString " ")).map V.str)) p5 = some (.lst ((Txt.split ls[i] (Str.ofString " ")).map V.str)) := upd_same
    have n5 : p5 ∉ [b, l] := (bx4.same s5).out hp5
    have n5D : p5 ≠ D := fun z => by rw [z, eD] at hp5; cases hp5
    generalize L2.upd H5 p5 (.lst ((Txt.split ls[i] (Str.ofString " ")).map V.str)) = H6 at s6 e6 ⊢
    have lv := rv.len
    rw [List.length_take] at lv
    have eD6 := s6 _ _ eD
    refine ⟨vs, eD6, by omega, vs ++ [.ref p5], upd_same, ?_, Same.put (Same.trans' s5 s6) hD⟩
    rw [List.take_add_one, hsq i _ el]
    exact ((rv.same s6).updD eD6).app ⟨⟨p5, rfl, n5, (upd_ne n5D).trans e6⟩, trivial⟩
  rintro H5 ⟨vs, eD, rv, s5⟩
  rw [List.length_map, List.take_of_length_le (by omega)] at rv
  have lv := rv.len
  have bx5 := bx4.same s5
  have e35 := s5 _ _ e34
  have f05 : Frw K [b, l] H H5 := .same (Same.trans' s04 s5)
  have hR0 : 0 < R.length := List.length_pos_iff.mpr hRn
  clear s5 e34 s04 e4 hD
  refine gnI ⟨_, rfl, _, rfl, D, _, rfl, .inl (SqL.of eD), draw_ok bx5 (by constructor <;> omega) fun H6 i6 f6 bx6 l6 u6 => ⟨_, rfl, draw_ok bx6 (by omega) fun H7 i7 f7 bx7 l7 u7 => ⟨_, _, rfl, ?_⟩⟩⟩
  obtain ⟨k6, rfl, hk6⟩ : ∃ k : Nat, i6 = k ∧ k < R.length := ⟨i6.toNat, by omega, by omega⟩
  obtain ⟨k7, rfl, hk7⟩ : ∃ k : Nat, i7 = k ∧ k < 7 := ⟨i7.toNat, by omega, by omega⟩
  have ff : ∀ {a : Addr} {xs : List V} {Ha Hb : Hp}, Frw K [b, l] Ha Hb → a ∉ [b, l] → Ha a = some (.lst xs) → Hb a = some (.lst xs) := fun f n e => f.fr _ _ n e fun _ z => nomatch z
  have rv7 := (rv.frw f6).frw f7
  have eD7 := ff f7 nD (ff f6 nD eD)
  have e37 := ff f7 n3 (ff f6 n3 e35)
  have f07 := (f05.trans f6).trans f7
  have hRk : R[k6]? = some R[k6] := List.getElem?_eq_getElem hk6
  obtain ⟨ra, hra, nra, era⟩ := rv7.at_ hRk
  have hrm : wlen R[k6] + 1 ≤ rlen R := rlen_mem (List.getElem_mem hk6)
  have hra2 : ∀ w ∈ R[k6], Asc w := hRa _ (List.getElem_mem hk6)
  generalize R[k6] = r at hRk era hrm hra2
  have hrl : r.length ≤ rlen R := by unfold wlen at hrm; omega
  refine ⟨_, rfl, _, rfl, D, _, (k6 : Int), .ref ra, rfl, rfl, SqL.of eD7, atI_nat hra, ?_⟩
  refine gnI ⟨_, rfl, _, rfl, ra, _, rfl, .inl (SqL.of era), _, _, rfl, rfl, draw_ok bx7 (by rw [List.length_map]; constructor <;> omega) fun H8 i8 f8 bx8 l8 u8 => ⟨_, rfl, _, rfl, draw_ok bx8 (by omega) fun H9 i9 f9 bx9 l9 u9 => ?_⟩⟩
  rw [List.length_map] at u8
  obtain ⟨at8, rfl, hat⟩ : ∃ k : Nat, i8 = k ∧ k ≤ r.length := ⟨i8.toNat, by omega, by omega⟩
  obtain ⟨k9, rfl, hk9⟩ : ∃ k : Nat, i9 = k ∧ k < oddL.length := ⟨i9.toNat, by omega, by show _ < 29; omega⟩
  have e39 := ff f9 n3 (ff f8 n3 e37)
  have eD9 := ff f9 nD (ff f8 nD eD7)
  have era9 := ff f9 nra (ff f8 nra era)
  have rv9 := (rv7.frw f8).frw f9
  have f09 := (f07.trans f8).trans f9
  have ew : oddL[k9]? = some oddL[k9] := List.getElem?_eq_getElem hk9
  obtain ⟨hw1, hw2⟩ := odd_le _ (List.getElem_mem hk9)
  refine ⟨p3, _, (k9 : Int), .str oddL[k9], rfl, rfl, SqL.of e39, atI_nat (by rw [List.getElem?_map, ew]; rfl), ?_⟩
  generalize oddL[k9] = wd at hw1 hw2 ew
  clear f6 f7 f8 f9 bx5 bx6 bx7 bx8 e35 e37 eD eD7 rv rv7 era f05 f07 e39 ew
  refine ⟨_, _, rfl, ?_⟩
  refine ⟨fun σ' H' => ∃ (D' : Addr) (vs' : List V) (R' : List (List Str)), σ' = [some (.ref b), some (.str x), some (.ref p3), some (.ref D'), some (.int (k6 : Nat)), some (.int (k7 : Nat)), some (.ref ra), some (.int (at8 : Nat)), some (.str wd), none] ∧ BoxAt H' b l ∧ Frw K [b, l] H H' ∧ H' D' = some (.lst vs') ∧ RowsV b l H' vs' R' ∧ rlen R' ≤ 2 * rlen R + 20 ∧ AscR R', ?_, ?_⟩
  · have setRow : ∀ (Hx : Hp) (q0 : Addr) (r' : List Str), Same H9 Hx → H9 q0 = none → Hx q0 = some (.lst (r'.map V.str)) → wlen r' ≤ 2 * wlen r + 13 → (∀ w ∈ r', Asc w) →
        ∃ (D' : Addr) (vs' : List V) (R' : List (List Str)), D = D' ∧ BoxAt (L2.upd Hx D (.lst (vs.set k6 (.ref q0)))) b l ∧ Frw K [b, l] H (L2.upd Hx D (.lst (vs.set k6 (.ref q0)))) ∧ (L2.upd Hx D (.lst (vs.set k6 (.ref q0)))) D' = some (.lst vs') ∧ RowsV b l (L2.upd Hx D (.lst (vs.set k6 (.ref q0)))) vs' R' ∧ rlen R' ≤ 2 * rlen R + 20 ∧ AscR R' := fun Hx q0 r' sx hq eq hl ha => by
      have eDx := sx _ _ eD9
      have nqD : q0 ≠ D := fun z => by rw [z, eD9] at hq; cases hq
      refine ⟨D, vs.set k6 (.ref q0), R.set k6 r', rfl, (bx9.same sx).upd nD, (f09.trans (.same sx)).put frD eDx trivial, upd_same, ((rv9.same sx).updD eDx).set (bx9.out hq) ((upd_ne nqD).trans eq), ?_, ascR_set hRa _ ha⟩
      have := rlen_set2 hRk r'
      omega
    have hk6v : k6 < vs.length := by omega
    refine ⟨_, rfl, _, _, rfl, rfl, _, rfl, ?_⟩
    by_cases c1 : (k7 : Int) < 3
    · refine dT c1 ?_
      refine ⟨_, rfl, _, rfl, _, rfl, ra, _, rfl, SqL.of era9, fun q1 hq1 => ?_⟩
      rw [cut_take, ← List.map_take]
      have t1 := same_new (o := .lst ((r.take at8).map V.str)) hq1
      have d1 := upd_same (H := H9) (a := q1) (o := .lst ((r.take at8).map V.str))
      generalize L2.upd H9 q1 (.lst ((r.take at8).map V.str)) = G1 at t1 d1 ⊢
      refine ⟨_, rfl, by show 1 ≤ sizeLine; decide, fun q2 hq2 => ?_⟩
      have t2 := same_new (o := .lst [V.str wd]) hq2
      have d2 := upd_same (H := G1) (a := q2) (o := .lst [V.str wd])
      generalize L2.upd G1 q2 (.lst [V.str wd]) = G2 at t2 d2 ⊢
      refine ⟨q1, q2, _, _, rfl, rfl, t2 _ _ d1, d2, by rw [List.length_map, List.length_take]; show _ + 1 ≤ _; omega, fun q3 hq3 => ?_⟩
      have t3 := same_new (o := .lst ((r.take at8).map V.str ++ [V.str wd])) hq3
      have d3 := upd_same (H := G2) (a := q3) (o := .lst ((r.take at8).map V.str ++ [V.str wd]))
      generalize L2.upd G2 q3 (.lst ((r.take at8).map V.str ++ [V.str wd])) = G3 at t3 d3 ⊢
      have t93 := Same.trans' t1 (Same.trans' t2 t3)
      obtain ⟨at9, ea9⟩ : ∃ k : Nat, (at8 : Int) + (k7 : Int) / 2 = (k : Int) := ⟨at8 + k7 / 2, by omega⟩
      refine ⟨_, rfl, _, rfl, _, rfl, _, _, rfl, rfl, ⟨by decide, by decide⟩, _, _, rfl, rfl, _, rfl, ra, _, rfl, SqL.of (t93 _ _ era9), fun q4 hq4 => ?_⟩
      rw [ea9, cut_drop, ← List.map_drop]
      have t4 := same_new (o := .lst ((r.drop at9).map V.str)) hq4
      have d4 := upd_same (H := G3) (a := q4) (o := .lst ((r.drop at9).map V.str))
      generalize L2.upd G3 q4 (.lst ((r.drop at9).map V.str)) = G4 at t4 d4 ⊢
      refine ⟨q3, q4, _, _, rfl, rfl, t4 _ _ d3, d4, by rw [List.length_append, List.length_map, List.length_take, List.length_map, List.length_drop]; show _ + 1 + _ ≤ _; omega, fun q5 hq5 => ?_⟩
      have hq50 : H9 q5 = none := none_back (Same.trans' t93 t4) hq5
      have t5 := same_new (o := .lst ((r.take at8).map V.str ++ [V.str wd] ++ (r.drop at9).map V.str)) hq5
      have d5 : L2.upd G4 q5 (.lst ((r.take at8).map V.str ++ [V.str wd] ++ (r.drop at9).map V.str)) q5 = some (.lst ((r.take at8 ++ [wd] ++ r.drop at9).map V.str)) := by rw [upd_same, List.map_append, List.map_append]; rfl
      generalize L2.upd G4 q5 (.lst ((r.take at8).map V.str ++ [V.str wd] ++ (r.drop at9).map V.str)) = G5 at t5 d5 ⊢
      have t95 := Same.trans' t93 (Same.trans' t4 t5)
      have hb : wlen (r.take at8 ++ [wd] ++ r.drop at9) ≤ 2 * wlen r + 13 := by
        rw [wlen_app, wlen_app]
        have h1 := wlen_take r at8
        have h2 := wlen_drop r at9
        have h3 : wlen [wd] = wd.length + 1 := by simp [wlen]
        omega
      obtain ⟨D', vs', R', rfl, z⟩ := setRow G5 q5 _ t95 hq50 d5 hb fun w hw => by
        rcases List.mem_append.mp hw with hw | hw
        · rcases List.mem_append.mp hw with hw | hw
          · exact hra2 w (List.mem_of_mem_take hw)
          · rw [List.mem_singleton.mp hw]
            exact hw2
        · exact hra2 w (List.mem_of_mem_drop hw)
      refine ⟨_, rfl, _, rfl, D, _, (k6 : Int), k6, rfl, rfl, t95 _ _ eD9, ixN_nat hk6v, D, vs', R', rfl, z⟩
    · refine dF c1 ?_
      refine ⟨_, rfl, rfl, _, rfl, ?_⟩
      by_cases c2 : (k7 : Int) = 3
      · refine dT (by rw [c2]) ?_
        refine ⟨_, rfl, _, rfl, _, rfl, ra, _, rfl, SqL.of era9, fun q1 hq1 => ?_⟩
        rw [cut_take, ← List.map_take]
        have t1 := same_new (o := .lst ((r.take at8).map V.str)) hq1
        have d1 := upd_same (H := H9) (a := q1) (o := .lst ((r.take at8).map V.str))
        generalize L2.upd H9 q1 (.lst ((r.take at8).map V.str)) = G1 at t1 d1 ⊢
        obtain ⟨at9, ea9⟩ : ∃ k : Nat, (at8 : Int) + 1 = (k : Int) := ⟨at8 + 1, by omega⟩
        refine ⟨_, rfl, _, rfl, _, _, rfl, rfl, _, rfl, ra, _, rfl, SqL.of (t1 _ _ era9), fun q4 hq4 => ?_⟩
        rw [ea9, cut_drop, ← List.map_drop]
        have t4 := same_new (o := .lst ((r.drop at9).map V.str)) hq4
        have d4 := upd_same (H := G1) (a := q4) (o := .lst ((r.drop at9).map V.str))
        generalize L2.upd G1 q4 (.lst ((r.drop at9).map V.str)) = G4 at t4 d4 ⊢
        refine ⟨q1, q4, _, _, rfl, rfl, t4 _ _ d1, d4, by rw [List.length_map, List.length_take, List.length_map, List.length_drop]; omega, fun q5 hq5 => ?_⟩
        have hq50 : H9 q5 = none := none_back (Same.trans' t1 t4) hq5
        have t5 := same_new (o := .lst ((r.take at8).map V.str ++ (r.drop at9).map V.str)) hq5
        have d5 : L2.upd G4 q5 (.lst ((r.take at8).map V.str ++ (r.drop at9).map V.str)) q5 = some (.lst ((r.take at8 ++ r.drop at9).map V.str)) := by rw [upd_same, List.map_append]
        generalize L2.upd G4 q5 (.lst ((r.take at8).map V.str ++ (r.drop at9).map V.str)) = G5 at t5 d5 ⊢
        have t95 := Same.trans' t1 (Same.trans' t4 t5)
        obtain ⟨D', vs', R', rfl, z⟩ := setRow G5 q5 _ t95 hq50 d5 (two_le r at8 at9) (two_asc hra2 at8 at9)
        refine ⟨_, rfl, _, rfl, D, _, (k6 : Int), k6, rfl, rfl, t95 _ _ eD9, ixN_nat hk6v, D, vs', R', rfl, z⟩
      refine dF (fun z => c2 (V.int.inj z)) ⟨_, rfl, rfl, _, rfl, ?_⟩
      by_cases c3 : (k7 : Int) = 4
      · refine dT (by rw [c3]) ?_
        refine ⟨_, rfl, _, rfl, _, rfl, ra, _, rfl, SqL.of era9, fun q1 hq1 => ?_⟩
        rw [cut_take, ← List.map_take]
        have t1 := same_new (o := .lst ((r.take at8).map V.str)) hq1
        have d1 := upd_same (H := H9) (a := q1) (o := .lst ((r.take at8).map V.str))
        generalize L2.upd H9 q1 (.lst ((r.take at8).map V.str)) = G1 at t1 d1 ⊢
        obtain ⟨at9, ea9⟩ : ∃ k : Nat, (if (at8 : Int) - 1 > 0 then (at8 : Int) - 1 else 0) = (k : Int) := by
          split
          · exact ⟨at8 - 1, by omega⟩
          · exact ⟨0, rfl⟩
        refine ⟨_, rfl, _, rfl, _, _, rfl, rfl, _, _, rfl, _, rfl, ra, _, rfl, SqL.of (t1 _ _ era9), fun q4 hq4 => ?_⟩
        rw [ea9, cut_drop, ← List.map_drop]
        have t4 := same_new (o := .lst ((r.drop at9).map V.str)) hq4
        have d4 := upd_same (H := G1) (a := q4) (o := .lst ((r.drop at9).map V.str))
        generalize L2.upd G1 q4 (.lst ((r.drop at9).map V.str)) = G4 at t4 d4 ⊢
        refine ⟨q1, q4, _, _, rfl, rfl, t4 _ _ d1, d4, by rw [List.length_map, List.length_take, List.length_map, List.length_drop]; omega, fun q5 hq5 => ?_⟩
        have hq50 : H9 q5 = none := none_back (Same.trans' t1 t4) hq5
        have t5 := same_new (o := .lst ((r.take at8).map V.str ++ (r.drop at9).map V.str)) hq5
        have d5 : L2.upd G4 q5 (.lst ((r.take at8).map V.str ++ (r.drop at9).map V.str)) q5 = some (.lst ((r.take at8 ++ r.drop at9).map V.str)) := by rw [upd_same, List.map_append]
        generalize L2.upd G4 q5 (.lst ((r.take at8).map V.str ++ (r.drop at9).map V.str)) = G5 at t5 d5 ⊢
        have t95 := Same.trans' t1 (Same.trans' t4 t5)
        obtain ⟨D', vs', R', rfl, z⟩ := setRow G5 q5 _ t95 hq50 d5 (two_le r at8 at9) (two_asc hra2 at8 at9)
        refine ⟨_, rfl, _, rfl, D, _, (k6 : Int), k6, rfl, rfl, t95 _ _ eD9, ixN_nat hk6v, D, vs', R', rfl, z⟩
      refine dF (fun z => c3 (V.int.inj z)) ⟨_, rfl, rfl, _, rfl, ?_⟩
      have ek1 : ((k6 : Int) + 1) = ((k6 + 1 : Nat) : Int) := by push_cast; rfl
      by_cases c4 : (k7 : Int) = 5
      · refine dT (by rw [c4]) ?_
        refine ⟨_, rfl, _, rfl, _, rfl, D, _, rfl, SqL.of eD9, fun q1 hq1 => ?_⟩
        rw [cut_take]
        have t1 := same_new (o := .lst (vs.take k6)) hq1
        have d1 := upd_same (H := H9) (a := q1) (o := .lst (vs.take k6))
        generalize L2.upd H9 q1 (.lst (vs.take k6)) = G1 at t1 d1 ⊢
        refine ⟨_, rfl, _, rfl, _, rfl, ra, _, rfl, SqL.of (t1 _ _ era9), fun q2 hq2 => ?_⟩
        rw [cut_take, ← List.map_take]
        have n2 := (bx9.same t1).out hq2
        have t2 := same_new (o := .lst ((r.take at8).map V.str)) hq2
        have d2 := upd_same (H := G1) (a := q2) (o := .lst ((r.take at8).map V.str))
        generalize L2.upd G1 q2 (.lst ((r.take at8).map V.str)) = G2 at t2 d2 ⊢
        have t92 := Same.trans' t1 t2
        refine ⟨_, rfl, _, rfl, _, rfl, ra, _, rfl, SqL.of (t92 _ _ era9), fun q3 hq3 => ?_⟩
        rw [cut_drop, ← List.map_drop]
        have n3' := (bx9.same t92).out hq3
        have t3 := same_new (o := .lst ((r.drop at8).map V.str)) hq3
        have d3 := upd_same (H := G2) (a := q3) (o := .lst ((r.drop at8).map V.str))
        generalize L2.upd G2 q3 (.lst ((r.drop at8).map V.str)) = G3 at t3 d3 ⊢
        refine ⟨by show 2 ≤ sizeLine; decide, fun q4 hq4 => ?_⟩
        have t4 := same_new (o := .lst [V.ref q2, V.ref q3]) hq4
        have d4 := upd_same (H := G3) (a := q4) (o := .lst [V.ref q2, V.ref q3])
        generalize L2.upd G3 q4 (.lst [V.ref q2, V.ref q3]) = G4 at t4 d4 ⊢
        have t14 := Same.trans' t2 (Same.trans' t3 t4)
        refine ⟨q1, q4, _, _, rfl, rfl, t14 _ _ d1, d4, by rw [List.length_take]; show _ + 2 ≤ _; omega, fun q5 hq5 => ?_⟩
        have t5 := same_new (o := .lst (vs.take k6 ++ [V.ref q2, V.ref q3])) hq5
        have d5 := upd_same (H := G4) (a := q5) (o := .lst (vs.take k6 ++ [V.ref q2, V.ref q3]))
        generalize L2.upd G4 q5 (.lst (vs.take k6 ++ [V.ref q2, V.ref q3])) = G5 at t5 d5 ⊢
        have t95 := Same.trans' t1 (Same.trans' t14 t5)
        refine ⟨_, rfl, _, rfl, _, _, rfl, rfl, _, rfl, D, _, rfl, SqL.of (t95 _ _ eD9), fun q6 hq6 => ?_⟩
        rw [ek1, cut_drop]
        have t6 := same_new (o := .lst (vs.drop (k6 + 1))) hq6
        have d6 := upd_same (H := G5) (a := q6) (o := .lst (vs.drop (k6 + 1)))
        generalize L2.upd G5 q6 (.lst (vs.drop (k6 + 1))) = G6 at t6 d6 ⊢
        refine ⟨q5, q6, _, _, rfl, rfl, t6 _ _ d5, d6, by rw [List.length_append, List.length_take, List.length_drop]; show _ + 2 + _ ≤ _; omega, fun q7 hq7 => ?_⟩
        have t7 := same_new (o := .lst (vs.take k6 ++ [V.ref q2, V.ref q3] ++ vs.drop (k6 + 1))) hq7
        have t97 := Same.trans' t95 (Same.trans' t6 t7)
        have t27 := Same.trans' t3 (Same.trans' t4 (Same.trans' t5 (Same.trans' t6 t7)))
        have t37 := Same.trans' t4 (Same.trans' t5 (Same.trans' t6 t7))
        have rm : RowsV b l _ [V.ref q2, V.ref q3] [r.take at8, r.drop at8] := ⟨⟨q2, rfl, n2, t27 _ _ d2⟩, ⟨q3, rfl, n3', t37 _ _ d3⟩, trivial⟩
        refine gnI ⟨q7, _, R.take k6 ++ [r.take at8, r.drop at8] ++ R.drop (k6 + 1), rfl, bx9.same t97, f09.trans (.same t97), upd_same, (((rv9.same t97).take k6).app rm).app ((rv9.same t97).drop (k6 + 1)), ?_, ascR_app (ascR_app (ascR_take hRa _) fun s hs => ?_) (ascR_drop hRa _)⟩
        · rw [rlen_app, rlen_app, show [r.take at8, r.drop at8] = [r.take at8] ++ [r.drop at8] from rfl, rlen_app, rlen_one, rlen_one]
          have h1 := rlen_cut hRk
          have h3 := wlen_cut r at8
          omega
        · simp only [List.mem_cons, List.not_mem_nil, or_false] at hs
          rcases hs with rfl | rfl
          · exact fun w hw => hra2 w (List.mem_of_mem_take hw)
          · exact fun w hw => hra2 w (List.mem_of_mem_drop hw)
      refine dF (fun z => c4 (V.int.inj z)) ?_
      refine ⟨_, rfl, D, _, rfl, .inl (SqL.of eD9), _, _, rfl, rfl, _, rfl, ?_⟩
      by_cases c5 : 1 < (vs.length : Int)
      · refine dT c5 ?_
        refine ⟨_, rfl, _, rfl, _, rfl, D, _, rfl, SqL.of eD9, fun q1 hq1 => ?_⟩
        rw [cut_take]
        have n1 := bx9.out hq1
        have t1 := same_new (o := .lst (vs.take k6)) hq1
        have d1 := upd_same (H := H9) (a := q1) (o := .lst (vs.take k6))
        generalize L2.upd H9 q1 (.lst (vs.take k6)) = G1 at t1 d1 ⊢
        refine ⟨_, rfl, by show 1 ≤ sizeLine; decide, fun q2 hq2 => ?_⟩
        have n2 := (bx9.same t1).out hq2
        have t2 := same_new (o := .lst [V.ref ra]) hq2
        have d2 := upd_same (H := G1) (a := q2) (o := .lst [V.ref ra])
        generalize L2.upd G1 q2 (.lst [V.ref ra]) = G2 at t2 d2 ⊢
        have t92 := Same.trans' t1 t2
        refine ⟨_, rfl, draw_ok (bx9.same t92) (by omega) fun G3 i3 f3 bxG l3 u3 => ?_⟩
        obtain ⟨m3, rfl, hm3⟩ : ∃ k : Nat, i3 = k ∧ k < 3 := ⟨i3.toNat, by omega, by omega⟩
        have d13 := ff f3 n1 (t2 _ _ d1)
        have d23 := ff f3 n2 d2
        have eD3 := ff f3 nD (t92 _ _ eD9)
        have er3 := ff f3 nra (t92 _ _ era9)
        have rv3 := (rv9.same t92).frw f3
        refine ⟨q2, _, _, rfl, rfl, d23, by omega, by omega, by show 1 * _ ≤ _; rw [Int.toNat_natCast]; omega, fun q4 hq4 => ?_⟩
        have t4 := same_new (o := .lst ((List.replicate (m3 : Int).toNat [V.ref ra]).flatten)) hq4
        have d4 := upd_same (H := G3) (a := q4) (o := .lst ((List.replicate (m3 : Int).toNat [V.ref ra]).flatten))
        have efl : (List.replicate (m3 : Int).toNat [V.ref ra]).flatten = List.replicate m3 (V.ref ra) := by
          rw [Int.toNat_natCast]
          simp
        rw [efl] at t4 d4 ⊢
        generalize L2.upd G3 q4 (.lst (List.replicate m3 (V.ref ra))) = G4 at t4 d4 ⊢
        refine ⟨q1, q4, _, _, rfl, rfl, t4 _ _ d13, d4, by rw [List.length_take, List.length_replicate]; omega, fun q5 hq5 => ?_⟩
        have t5 := same_new (o := .lst (vs.take k6 ++ List.replicate m3 (V.ref ra))) hq5
        have d5 := upd_same (H := G4) (a := q5) (o := .lst (vs.take k6 ++ List.replicate m3 (V.ref ra)))
        generalize L2.upd G4 q5 (.lst (vs.take k6 ++ List.replicate m3 (V.ref ra))) = G5 at t5 d5 ⊢
        have t35 := Same.trans' t4 t5
        refine ⟨_, rfl, _, rfl, _, _, rfl, rfl, _, rfl, D, _, rfl, SqL.of (t35 _ _ eD3), fun q6 hq6 => ?_⟩
        rw [ek1, cut_drop]
        have t6 := same_new (o := .lst (vs.drop (k6 + 1))) hq6
        have d6 := upd_same (H := G5) (a := q6) (o := .lst (vs.drop (k6 + 1)))
        generalize L2.upd G5 q6 (.lst (vs.drop (k6 + 1))) = G6 at t6 d6 ⊢
        refine ⟨q5, q6, _, _, rfl, rfl, t6 _ _ d5, d6, by rw [List.length_append, List.length_take, List.length_replicate, List.length_drop]; omega, fun q7 hq7 => ?_⟩
        have t7 := same_new (o := .lst (vs.take k6 ++ List.replicate m3 (V.ref ra) ++ vs.drop (k6 + 1))) hq7
        have t37 := Same.trans' t35 (Same.trans' t6 t7)
        have rm : RowsV b l _ (List.replicate m3 (V.ref ra)) (List.replicate m3 r) := rows_rep nra (t37 _ _ er3) m3
        refine gnI ⟨q7, _, R.take k6 ++ List.replicate m3 r ++ R.drop (k6 + 1), rfl, bxG.same t37, ((f09.trans (.same t92)).trans f3).trans (.same t37), upd_same, (((rv3.same t37).take k6).app rm).app ((rv3.same t37).drop (k6 + 1)), ?_, ascR_app (ascR_app (ascR_take hRa _) fun s hs => ?_) (ascR_drop hRa _)⟩
        · rw [rlen_app, rlen_app]
          have h1 := rlen_cut hRk
          have h3 : rlen (List.replicate m3 r) ≤ 2 * (wlen r + 1) := by
            have : m3 = 0 ∨ m3 = 1 ∨ m3 = 2 := by omega
            rcases this with rfl | rfl | rfl
            · exact Nat.zero_le _
            · show rlen [r] ≤ _
              rw [rlen_one]
              omega
            · show rlen ([r] ++ [r]) ≤ _
              rw [rlen_app, rlen_one]
              omega
          omega
        · rw [List.eq_of_mem_replicate hs]
          exact hra2
      · refine dF c5 ?_
        refine ⟨_, rfl, _, rfl, by show 1 ≤ sizeLine; decide, fun q2 hq2 => ?_⟩
        have t2 := same_new (o := .lst [V.ref ra]) hq2
        have d2 := upd_same (H := H9) (a := q2) (o := .lst [V.ref ra])
        generalize L2.upd H9 q2 (.lst [V.ref ra]) = G2 at t2 d2 ⊢
        refine ⟨D, q2, _, _, rfl, rfl, t2 _ _ eD9, d2, by show _ + 1 ≤ _; omega, fun q7 hq7 => ?_⟩
        have t7 := same_new (o := .lst (vs ++ [V.ref ra])) hq7
        have t97 := Same.trans' t2 t7
        refine gnI ⟨q7, _, R ++ [r], rfl, bx9.same t97, f09.trans (.same t97), upd_same, (rv9.same t97).app ⟨⟨ra, rfl, nra, t97 _ _ era9⟩, trivial⟩, ?_, ascR_app hRa fun s hs => ?_⟩
        · rw [rlen_app, rlen_one]
          omega
        · rw [List.mem_singleton.mp hs]
          exact hra2
  · rintro σ' H' ⟨D', vs', R', rfl, bx', f', eD', rv', hR', aR'⟩
    have lv' := rv'.len
    have hsz : rlen R' ≤ 13000000 := by omega
    have big2 : 13000000 < sizeLine := by decide
    have tl := textR_le R'
    have ta := textR_asc aR'
    have hRn' : R'.length ≤ rlen R' := by
      have : ∀ S : List (List Str), S.length ≤ rlen S := fun S => by
        induction S with
        | nil => exact Nat.le_refl _
        | cons s S ih =>
          rw [show s :: S = [s] ++ S from rfl, rlen_app, rlen_one, List.length_append, List.length_singleton]
          omega
      exact this R'
    refine ⟨⟨_, rfl⟩, ?_⟩
    refine ⟨_, rfl, D', rfl, ⟨_, SqL.of eD'⟩, lcD (K := K) (walk_list (xs := vs')) R' (fun r => some (.str (Txt.join (Str.ofString " ") r))) lv'.symm (by omega) (fun H' s => sqL_same (SqL.of eD') s) ?_ ?_⟩
    · intro i r1 v H1 H2 Rk R0 er s1 y k1 k2
      obtain ⟨rfl, ey⟩ := y
      obtain ⟨a, e1, na, ea⟩ := rv'.at_ er
      rw [ey] at e1
      obtain rfl := Option.some.inj e1
      have hw1 : wlen r1 + 1 ≤ rlen R' := rlen_mem (List.mem_of_getElem? er)
      refine ⟨rfl, ⟨_, rfl⟩, _, rfl, _, a, r1, rfl, rfl, .inl (SqL.of (s1 _ _ ea)), ?_, ?_⟩
      · rw [sp1, Nat.mul_one]
        show wlen r1 ≤ _
        omega
      · exact k1 _ _ _ rfl Same.rfl' (.str _)
    · intro D8 H8 zs8 hD8 s8 eD8 dz8
      rw [List.filterMap_eq_map'] at dz8
      have dz8 : Dts K H8 zs8 ((R'.map (Txt.join (Str.ofString " "))).map .str) := by rw [List.map_map]; exact dz8
      have ez := strs_eq dz8
      have hw := rlen_rows R'
      refine ⟨_, D8, R'.map (Txt.join (Str.ofString " ")), rfl, rfl, .inl (SqL.of (by rw [eD8, ez])), ?_, q H8 _ (f'.trans (.same s8)) (bx'.same s8) ta (by show (textR R').length ≤ _; omega)⟩
      rw [nl1, Nat.mul_one]
      show wlen (R'.map (Txt.join (Str.ofString " "))) ≤ _
      omega
end LH
end

section
set_option Elab.async false
set_option linter.all false
set_option maxRecDepth 100000
set_option maxHeartbeats 4000000
set_option pp.maxSteps 1500
/-! _law_told(lambda: read(text)) in the law -/
namespace LH
open PySem PySem.Spec PyProof.Rows L2 StX LamX
variable {P : Program} {w : World} {K : PySem.W.Frag} {mg : Str → Option Value} {base : Heap}
theorem Tp.law_mem (T : Tp P w K mg base) : ((He.cT K ("law", none)).2, Str.ofString "law.<locals>.<lambda>") ∈ TT K := by
  unfold TT
  simp
theorem Tp.law_one (T : Tp P w K mg base) : ∀ y ∈ TT K, y.1 = (He.cT K ("law", none)).2 → y.2 = Str.ofString "law.<locals>.<lambda>" := fun y hy e => by
  simp only [TT, List.mem_cons, List.not_mem_nil, or_false] at hy
  rw [hy]
theorem funD_okC {N ps : List Str} {x qual : Str} {params : Arguments} {body : List Stmt} {scope : Scope} {f : Addr} {k : Nat} {sp : Sp} {fd : FuncData} (p : Str × Option Str) (hp : He.fAd K p = f) (F : FunD K x qual params body scope [] [] f fd) (S : FnScope N ps scope)
    (len : ∀ vs H Q E, sp vs H Q E → vs.length = ps.length)
    (hbody : ∀ (cdv : Value) (A : Around) (outer : List Env) (s : Shared) (H : Hp) (vs : List V) (Q : VK) (E : XK), Room k (A.deeper (envOfC qual scope s.heap.objs.size f cdv)) → cdv = .ref (He.codeOf K p) → sp vs H Q E →
      ∃ t, PSs (XB P w K mg base N qual scope f cdv A outer s H E) body t ∧ t { nx := fun _ H' => Q .non H', rt := Q } (L2.start N vs) H) : FnOk P w K mg base (L2.CX P w) (k + 1) f fd ps sp := by
  obtain ⟨oc, od, dV, kV, doc, pm, an, cdv, ct, osl, rfl, lk, hcd, _, _⟩ := id F.ex
  obtain ⟨c, rfl⟩ := He.codeIn_ref hcd
  have hc : Value.ref c = .ref (He.codeOf K p) := by
    rw [He.codeOf_eq (by rw [hp]; exact lk) rfl]
  exact fn_of lk hcd S len fun A outer s H vs Q E hr hsp => hbody _ A outer s H vs Q E hr hc hsp

theorem Tp.lam_read (T : Tp P w K mg base) {cdv : Value} {A : Around} {outer : List Env} {s : Shared} {H : Hp} {E : XK} (hr : Room 200 (XB P w K mg base ["_law_script", "_law_box", "_law_some", "_law_turn", "_law_rows", "_law_text", "_law_change", "_law_again", "_law_k"] "law" (defScope s_law) (He.ga K "law") cdv A outer s H E).A) (hc : cdv = .ref (He.codeOf K ("law", none)))
    {params : Arguments} {scope : Scope} {p p1 p2 p3 lpos pos : Pos} (L : lamSB (defScope s_law) scope = true) (hd : defaultsOf params (XB P w K mg base ["_law_script", "_law_box", "_law_some", "_law_turn", "_law_rows", "_law_text", "_law_change", "_law_again", "_law_k"] "law" (defScope s_law) (He.ga K "law") cdv A outer s H E).env = ([], []))
    (hbd : ∀ (q : Str) (cl : List (Str × Addr)) (pm cv ctv : Value), bindArgs (PySem.W.kla_fn "<lambda>" q params (.Call (.Name "read" p1) [.Name "_law_text" p2] [] p3) scope cl pm cv ctv) ⟨[], []⟩ = pure []) (hv : Vis scope "_law_text") (hg : scope.names.lookup (Str.ofString "read") = some .globalImplicit) :
    PE (XB P w K mg base ["_law_script", "_law_box", "_law_some", "_law_turn", "_law_rows", "_law_text", "_law_change", "_law_again", "_law_k"] "law" (defScope s_law) (He.ga K "law") cdv A outer s H E) (.Call (.Name "_law_told" p) [.Lambda params (.Call (.Name "read" p1) [.Name "_law_text" p2] [] p3) scope lpos] [] pos)
      (tLam (TT K) (TTx K) (fun E => fun σ H Q => tCons (tVar 5) tNil σ H fun vs H1 => spG_read K vs H1 Q E)) := by
  obtain ⟨fd, F⟩ := T.fd__law_told
  obtain ⟨oc, od, dV, kV, doc, pm, an, cdg, ct, osl, rfl, lk, hcd, _, _⟩ := id F.ex
  refine pe_lamcall (k := 100) (a := "_law_work") rfl T.g__law_told (kp_of T.fd__law_told) lk hcd (FunD.bindsN (ps := ["_law_work"]) F fun _ _ _ _ _ _ us hl => match us, hl with | [_], _ => rfl) sc__law_told rfl (.inl rfl) (T.told_gives (cdg := cdg)) (T.tab _ (by simp [tfL])) (by rw [hc]; rfl) T.law_mem T.law_one (rm hr) (lamS_by L) hd hbd fun A2 outer2 s2 H2 E2 f c' hr2 => ?_
  refine pe_callP T.okG_read (rm hr2) (kp_of T.fd_read) hg T.g_read (passes_call (takes_of rfl rfl rfl rfl) (W := fun cls d _ H => E2 cls d H) fun _ _ _ _ h => h) (pa_cons (pe_var (i := 5) rfl hv) pa_nil)
end LH
end

section
set_option Elab.async false
set_option linter.all false
set_option maxRecDepth 100000
set_option maxHeartbeats 4000000
set_option pp.maxSteps 1500
namespace LH
open PySem PySem.Spec PyProof.Rows L2 StX LamX
variable {P : Program} {w : World} {K : PySem.W.Frag} {mg : Str → Option Value} {base : Heap}
theorem tyx_tup {H : Hp} {a : Addr} {xs : List V} (h : SqT K H a xs) : TyX K H (.ref a) (.type "tuple") := by
  rcases h with (e | ⟨o, e⟩) | ⟨o, its, n, e, c, _⟩
  · exact .base (.tup e)
  · exact .fTuple e
  · exact .kTuple e c
def tyn : PyData → String
  | .none => "NoneType"
  | .bool _ => "bool"
  | .int _ => "int"
  | .str _ => "str"
  | .list _ => "list"
  | .tuple _ => "tuple"
  | .dict _ => "dict"
theorem dp_ty {H : Hp} {v : V} {d : PyData} (h : Dp K H v d) : TyX K H v (.type (tyn d)) := by
  cases h with
  | non => exact .base .non
  | bl b => exact .base (.bl b)
  | int i => exact .base (.int i)
  | str x => exact .base (.str x)
  | lst h _ =>
    rcases h with (h | ⟨o, h⟩) | h
    · exact .base (.lst h)
    · exact .base (.frz h)
    · obtain ⟨o, its, n, h1, h2, _⟩ := h
      exact .kList h1 h2
  | tup h _ => exact tyx_tup h
theorem isiI {H : Hp} {v : V} {d : PyData} (h : Dp K H v d) {T : String} {b : Bool} (hb : kitB (tyn d) T = some b) {Q : VK} (q : Q (.bl b) H) : rIsi K [v, .ty T] H Q := ⟨_, _, _, _, b, rfl, .ty _, dp_ty h, kit_ty hb, q⟩
theorem dp_notnon {H : Hp} {v : V} {d : PyData} (h : Dp K H v d) (hd : d ≠ .none) : decide (v = V.non) = false := by
  cases h <;> simp at hd ⊢
theorem small_at : ∀ {ds : List PyData} {i : Nat} {d : PyData}, smallAll ds = true → ds[i]? = some d → small d = true
  | [], i, d, _, e => by simp at e
  | x :: ds, 0, d, h, e => by
    unfold smallAll at h
    rw [← Option.some.inj e]
    exact (Bool.and_eq_true_iff.mp h).1
  | x :: ds, i + 1, d, h, e => by
    unfold smallAll at h
    exact small_at (ds := ds) (i := i) (Bool.and_eq_true_iff.mp h).2 (by simpa using e)
theorem dpAll_len {H : Hp} : ∀ {vs : List V} {ds : List PyData}, DpAll K H vs ds → vs.length = ds.length
  | _, _, .nil => rfl
  | _, _, .cons _ t => by rw [List.length_cons, List.length_cons, dpAll_len t]
theorem dpAll_at {H : Hp} : ∀ {vs : List V} {ds : List PyData}, DpAll K H vs ds → ∀ {i : Nat} {d : PyData}, ds[i]? = some d → ∃ v, vs[i]? = some v ∧ Dp K H v d
  | _, _, .nil, i, d, e => by simp at e
  | _, _, .cons h t, 0, d, e => ⟨_, rfl, by rw [← Option.some.inj e]; exact h⟩
  | _, _, .cons h t, i + 1, d, e => dpAll_at t (by simpa using e)
theorem depth_at : ∀ {ds : List PyData} {i : Nat} {d : PyData}, ds[i]? = some d → d.depth ≤ PyData.depthAll ds
  | [], i, d, e => by simp at e
  | x :: ds, 0, d, e => by
    rw [← Option.some.inj e]
    simp only [PyData.depthAll]
    omega
  | x :: ds, i + 1, d, e => by
    have := depth_at (ds := ds) (i := i) (d := d) (by simpa using e)
    simp only [PyData.depthAll]
    omega
mutual
theorem dpSame {H H' : Hp} (s : Same H H') : ∀ {v : V} {d : PyData}, Dp K H v d → Dp K H' v d
  | _, _, .non => .non
  | _, _, .bl b => .bl b
  | _, _, .int i => .int i
  | _, _, .str x => .str x
  | _, _, .lst h hs => .lst (sqL_same h s) (dpAllSame s hs)
  | _, _, .tup h hs => .tup (KeepT.same s _ _ h) (dpAllSame s hs)
theorem dpAllSame {H H' : Hp} (s : Same H H') : ∀ {vs : List V} {ds : List PyData}, DpAll K H vs ds → DpAll K H' vs ds
  | _, _, .nil => .nil
  | _, _, .cons h t => .cons (dpSame s h) (dpAllSame s t)
end
theorem sc__law_alike : FnScope ["_law_found", "_law_due_here", "_law_k"] ["_law_found", "_law_due_here"] (defScope s__law_alike) := ⟨rfl, rfl, rfl, by decide +kernel, rfl, by decide +kernel, by decide +kernel⟩
theorem alike_lv (T : Tp P w K mg base) (D : Nat) (ih : FnR P w K mg base (L2.CX P w) D (He.ga K "_law_alike") (fun vs H Q E => 0 < D ∧ sp__law_alike (D - 1) K vs H Q E)) : FnR P w K mg base (L2.CX P w) (D + 1) (He.ga K "_law_alike") (sp__law_alike D K) := by
  refine fnr (N := ["_law_found", "_law_due_here", "_law_k"]) (ps := ["_law_found", "_law_due_here"]) (k := D) T.fd__law_alike sc__law_alike (fun _ _ _ _ _ _ us hl => match us, hl with | [_, _], _ => rfl) (fun vs H Q E h => ?_) fun cdv A outer s H vs Q E hr h => ?_
  · unfold sp__law_alike at h
    obtain ⟨_, _, _, rfl, _⟩ := h
    rfl
  unfold sp__law_alike at h
  obtain ⟨v, u, d, rfl, hv, hu, hd, hsm, q⟩ := h
  refine ⟨_, (pss_cons (ps_if (pt_cmpR op_isN (pv 1) pe_non (nomark _)) (pss_one (ps_ret (pe_cmpR op_isN (pv 0) pe_non (nomark _)))) pss_nil)
      (pss_cons (ps_if (pt_val (pe_callB call_isi rfl T.f_isinstance bt_isinstance (pa_cons (pv 1) (pa_cons (pe_ty rfl T.f_bool bt_bool) pa_nil)))) (pss_one (ps_ret (pe_and (pe_callB call_isi rfl T.f_isinstance bt_isinstance (pa_cons (pv 0) (pa_cons (pe_ty rfl T.f_bool bt_bool) pa_nil))) (pe_one (pe_cmpR op_eq (pv 0) (pv 1) (nomark _)))))) pss_nil)
      (pss_cons (ps_if (pt_val (pe_callB call_isi rfl T.f_isinstance bt_isinstance (pa_cons (pv 1) (pa_cons (pe_ty rfl T.f_int bt_int) pa_nil)))) (pss_one (ps_ret (pe_and (pe_callB call_isi rfl T.f_isinstance bt_isinstance (pa_cons (pv 0) (pa_cons (pe_ty rfl T.f_int bt_int) pa_nil))) (pe_and (pe_not (pe_callB call_isi rfl T.f_isinstance bt_isinstance (pa_cons (pv 0) (pa_cons (pe_ty rfl T.f_bool bt_bool) pa_nil)))) (pe_one (pe_cmpR op_eq (pv 0) (pv 1) (nomark _))))))) pss_nil)
      (pss_cons (ps_if (pt_val (pe_callB call_isi rfl T.f_isinstance bt_isinstance (pa_cons (pv 1) (pa_cons (pe_ty rfl T.f_str bt_str) pa_nil)))) (pss_one (ps_ret (pe_and (pe_callB call_isi rfl T.f_isinstance bt_isinstance (pa_cons (pv 0) (pa_cons (pe_ty rfl T.f_str bt_str) pa_nil))) (pe_one (pe_cmpR op_eq (pv 0) (pv 1) (nomark _)))))) pss_nil)
      (pss_cons (ps_if (PW.pt (pw_or (pt_cmpR op_ne (pe_callB call_isi rfl T.f_isinstance bt_isinstance (pa_cons (pv 1) (pa_cons (pe_ty rfl T.f_tuple bt_tuple) pa_nil))) (pe_callB call_isi rfl T.f_isinstance bt_isinstance (pa_cons (pv 0) (pa_cons (pe_ty rfl T.f_tuple bt_tuple) pa_nil))) (nomark _)) (pw_or1 (pt_cmpR op_ne (pe_callB call_isi rfl T.f_isinstance bt_isinstance (pa_cons (pv 1) (pa_cons (pe_ty rfl T.f_list bt_list) pa_nil))) (pe_callB call_isi rfl T.f_isinstance bt_isinstance (pa_cons (pv 0) (pa_cons (pe_ty rfl T.f_list bt_list) pa_nil))) (nomark _))))) (pss_one (ps_ret pe_bl)) pss_nil)
      (pss_cons (ps_if (pt_cmpR op_ne (pe_callB call_len_seq rfl T.f_len bt_len (pa_cons (pv 0) pa_nil)) (pe_callB call_len_seq rfl T.f_len bt_len (pa_cons (pv 1) pa_nil)) (nomark _)) (pss_one (ps_ret pe_bl)) pss_nil)
      (pss_cons (ps_for passOwnE rfl (pi_range1 rfl T.f_range (pa_cons (pe_callB call_len_seq rfl T.f_len bt_len (pa_cons (pv 1) pa_nil)) pa_nil)) (pg_name (i := 2) sc__law_alike.nd rfl (by first | exact .inl rfl | exact .inr rfl)) (pss_one (ps_if (pt_not (pt_val (pe_callP ih (rm hr) (kp_of T.fd__law_alike) rfl T.g__law_alike passE (pa_cons (pe_ix (ix_list.or ix_tup) (pv 0) (pv 2) (fun _ _ => rfl)) (pa_cons (pe_ix (ix_list.or ix_tup) (pv 1) (pv 2) (fun _ _ => rfl)) pa_nil))))) (pss_one (ps_ret pe_bl)) pss_nil)))
      (pss_one (ps_ret pe_bl))))))))), ?_⟩
  refine ⟨_, rfl, rfl, _, rfl, ?_⟩
  cases d with
  | none =>
    cases hu
    cases hv
    exact iteT ⟨_, rfl, rfl, q H Same.rfl'⟩
  | bool b =>
    cases hu
    cases hv
    refine iteF ⟨_, rfl, ⟨_, _, _, _, true, rfl, .ty _, dp_ty (Dp.bl b), kit_ty (a := "bool") (by decide +kernel), ⟨_, rfl, iteT ?_⟩⟩⟩
    refine ⟨_, rfl, ⟨_, _, _, _, true, rfl, .ty _, dp_ty (Dp.bl b), kit_ty (a := "bool") (by decide +kernel), ⟨_, rfl, iteT ?_⟩⟩⟩
    refine ⟨_, rfl, _, rfl, rfl, ?_⟩
    rw [decide_eq_true rfl]
    exact q H Same.rfl'
  | int i =>
    cases hu
    cases hv
    refine iteF ⟨_, rfl, ⟨_, _, _, _, false, rfl, .ty _, dp_ty (Dp.int i), kit_ty (a := "int") (by decide +kernel), ⟨_, rfl, iteF ?_⟩⟩⟩
    refine ⟨_, rfl, ⟨_, _, _, _, true, rfl, .ty _, dp_ty (Dp.int i), kit_ty (a := "int") (by decide +kernel), ⟨_, rfl, iteT ?_⟩⟩⟩
    refine ⟨_, rfl, ⟨_, _, _, _, true, rfl, .ty _, dp_ty (Dp.int i), kit_ty (a := "int") (by decide +kernel), ⟨_, rfl, iteT ?_⟩⟩⟩
    refine ⟨_, rfl, ⟨_, _, _, _, false, rfl, .ty _, dp_ty (Dp.int i), kit_ty (a := "int") (by decide +kernel), ⟨_, rfl, _, rfl, iteT ?_⟩⟩⟩
    refine ⟨_, rfl, _, rfl, rfl, ?_⟩
    rw [decide_eq_true rfl]
    exact q H Same.rfl'
  | str x =>
    cases hu
    cases hv
    refine iteF ⟨_, rfl, ⟨_, _, _, _, false, rfl, .ty _, dp_ty (Dp.str x), kit_ty (a := "str") (by decide +kernel), ⟨_, rfl, iteF ?_⟩⟩⟩
    refine ⟨_, rfl, ⟨_, _, _, _, false, rfl, .ty _, dp_ty (Dp.str x), kit_ty (a := "str") (by decide +kernel), ⟨_, rfl, iteF ?_⟩⟩⟩
    refine ⟨_, rfl, ⟨_, _, _, _, true, rfl, .ty _, dp_ty (Dp.str x), kit_ty (a := "str") (by decide +kernel), ⟨_, rfl, iteT ?_⟩⟩⟩
    refine ⟨_, rfl, ⟨_, _, _, _, true, rfl, .ty _, dp_ty (Dp.str x), kit_ty (a := "str") (by decide +kernel), ⟨_, rfl, iteT ?_⟩⟩⟩
    refine ⟨_, rfl, _, rfl, rfl, ?_⟩
    rw [decide_eq_true rfl]
    exact q H Same.rfl'
  | dict kvs => cases hu
  | list ds =>
    rw [dp_notnon hu (by simp)]
    refine iteF ⟨_, rfl, ⟨_, _, _, _, false, rfl, .ty _, dp_ty (hu), kit_ty (a := "list") (by decide +kernel), ⟨_, rfl, iteF ?_⟩⟩⟩
    refine ⟨_, rfl, ⟨_, _, _, _, false, rfl, .ty _, dp_ty (hu), kit_ty (a := "list") (by decide +kernel), ⟨_, rfl, iteF ?_⟩⟩⟩
    refine ⟨_, rfl, ⟨_, _, _, _, false, rfl, .ty _, dp_ty (hu), kit_ty (a := "list") (by decide +kernel), ⟨_, rfl, iteF ?_⟩⟩⟩
    refine ⟨_, rfl, ⟨_, _, _, _, false, rfl, .ty _, dp_ty (hu), kit_ty (a := "list") (by decide +kernel), ⟨_, rfl, ⟨_, _, _, _, false, rfl, .ty _, dp_ty (hv), kit_ty (a := "list") (by decide +kernel), ⟨rfl, _, rfl, iteF ?_⟩⟩⟩⟩⟩
    refine ⟨_, rfl, ⟨_, _, _, _, true, rfl, .ty _, dp_ty (hu), kit_ty (a := "list") (by decide +kernel), ⟨_, rfl, ⟨_, _, _, _, true, rfl, .ty _, dp_ty (hv), kit_ty (a := "list") (by decide +kernel), ⟨rfl, _, rfl, iteF ?_⟩⟩⟩⟩⟩
    cases hu with
    | lst h1 h2 =>
      cases hv with
      | lst h3 h4 =>
        rename_i a xs b ys
        have l1 := dpAll_len h2
        have l2 := dpAll_len h4
        unfold small at hsm
        obtain ⟨hsz, hsa⟩ := Bool.and_eq_true_iff.mp hsm
        have hsz := of_decide_eq_true hsz
        refine ⟨_, rfl, _, ys, rfl, .inl h3, _, rfl, _, xs, rfl, .inl h1, rfl, _, rfl, ?_⟩
        rw [l1, l2, decide_eq_true rfl]
        refine iteF ⟨_, rfl, _, xs, rfl, .inl h1, (xs.length : Int), rfl, by omega, by omega, ?_⟩
        rw [Int.toNat_natCast]
        refine for_range (n := xs.length) (fun i σ H' => Same H H' ∧ ∃ x, σ = [some (.ref b), some (.ref a), x]) ⟨Same.rfl', _, rfl⟩ ?_ ?_
        · rintro i σ H' hi ⟨s1, x, rfl⟩
          have hi2 : i < ds.length := by omega
          have ed : ds[i]? = some ds[i] := List.getElem?_eq_getElem hi2
          obtain ⟨x1, ex1, dx1⟩ := dpAll_at h2 ed
          obtain ⟨y1, ey1, dy1⟩ := dpAll_at h4 ed
          have hd2 := depth_at ed
          have hd3 : ds[i].depth + 1 ≤ D := by
            simp only [PyData.depth] at hd
            omega
          refine ⟨_, rfl, _, rfl, .inl ⟨_, ys, i, y1, rfl, by show V.int (0 + (i : Int)) = V.int i; rw [Int.zero_add], sqL_same h3 s1, atI_nat ey1, _, rfl, _, rfl, .inl ⟨_, xs, i, x1, rfl, by show V.int (0 + (i : Int)) = V.int i; rw [Int.zero_add], sqL_same h1 s1, atI_nat ex1, ?_⟩⟩⟩
          refine ⟨by omega, ?_⟩
          unfold sp__law_alike
          refine ⟨y1, x1, ds[i], rfl, dpSame s1 dy1, dpSame s1 dx1, by omega, small_at hsa ed, fun H2 s2 => ⟨_, rfl, iteF ?_⟩⟩
          exact ⟨Same.trans' s1 s2, _, rfl⟩
        · rintro σ H' ⟨s1, x, rfl⟩
          exact q H' s1
  | tuple ds =>
    rw [dp_notnon hu (by simp)]
    refine iteF ⟨_, rfl, ⟨_, _, _, _, false, rfl, .ty _, dp_ty (hu), kit_ty (a := "tuple") (by decide +kernel), ⟨_, rfl, iteF ?_⟩⟩⟩
    refine ⟨_, rfl, ⟨_, _, _, _, false, rfl, .ty _, dp_ty (hu), kit_ty (a := "tuple") (by decide +kernel), ⟨_, rfl, iteF ?_⟩⟩⟩
    refine ⟨_, rfl, ⟨_, _, _, _, false, rfl, .ty _, dp_ty (hu), kit_ty (a := "tuple") (by decide +kernel), ⟨_, rfl, iteF ?_⟩⟩⟩
    refine ⟨_, rfl, ⟨_, _, _, _, true, rfl, .ty _, dp_ty (hu), kit_ty (a := "tuple") (by decide +kernel), ⟨_, rfl, ⟨_, _, _, _, true, rfl, .ty _, dp_ty (hv), kit_ty (a := "tuple") (by decide +kernel), ⟨rfl, _, rfl, iteF ?_⟩⟩⟩⟩⟩
    refine ⟨_, rfl, ⟨_, _, _, _, false, rfl, .ty _, dp_ty (hu), kit_ty (a := "tuple") (by decide +kernel), ⟨_, rfl, ⟨_, _, _, _, false, rfl, .ty _, dp_ty (hv), kit_ty (a := "tuple") (by decide +kernel), ⟨rfl, _, rfl, iteF ?_⟩⟩⟩⟩⟩
    cases hu with
    | tup h1 h2 =>
      cases hv with
      | tup h3 h4 =>
        rename_i a xs b ys
        have l1 := dpAll_len h2
        have l2 := dpAll_len h4
        unfold small at hsm
        obtain ⟨hsz, hsa⟩ := Bool.and_eq_true_iff.mp hsm
        have hsz := of_decide_eq_true hsz
        refine ⟨_, rfl, _, ys, rfl, .inr h3, _, rfl, _, xs, rfl, .inr h1, rfl, _, rfl, ?_⟩
        rw [l1, l2, decide_eq_true rfl]
        refine iteF ⟨_, rfl, _, xs, rfl, .inr h1, (xs.length : Int), rfl, by omega, by omega, ?_⟩
        rw [Int.toNat_natCast]
        refine for_range (n := xs.length) (fun i σ H' => Same H H' ∧ ∃ x, σ = [some (.ref b), some (.ref a), x]) ⟨Same.rfl', _, rfl⟩ ?_ ?_
        · rintro i σ H' hi ⟨s1, x, rfl⟩
          have hi2 : i < ds.length := by omega
          have ed : ds[i]? = some ds[i] := List.getElem?_eq_getElem hi2
          obtain ⟨x1, ex1, dx1⟩ := dpAll_at h2 ed
          obtain ⟨y1, ey1, dy1⟩ := dpAll_at h4 ed
          have hd2 := depth_at ed
          have hd3 : ds[i].depth + 1 ≤ D := by
            simp only [PyData.depth] at hd
            omega
          refine ⟨_, rfl, _, rfl, .inr ⟨_, ys, i, y1, rfl, by show V.int (0 + (i : Int)) = V.int i; rw [Int.zero_add], KeepT.same s1 _ _ h3, atI_nat ey1, _, rfl, _, rfl, .inr ⟨_, xs, i, x1, rfl, by show V.int (0 + (i : Int)) = V.int i; rw [Int.zero_add], KeepT.same s1 _ _ h1, atI_nat ex1, ?_⟩⟩⟩
          refine ⟨by omega, ?_⟩
          unfold sp__law_alike
          refine ⟨y1, x1, ds[i], rfl, dpSame s1 dy1, dpSame s1 dx1, by omega, small_at hsa ed, fun H2 s2 => ⟨_, rfl, iteF ?_⟩⟩
          exact ⟨Same.trans' s1 s2, _, rfl⟩
        · rintro σ H' ⟨s1, x, rfl⟩
          exact q H' s1
theorem Tp.ok__law_alike (T : Tp P w K mg base) : ∀ D, FnR P w K mg base (L2.CX P w) (D + 1) (He.ga K "_law_alike") (sp__law_alike D K)
  | 0 => alike_lv T 0 fun A outer s H us vs Q E hr e0 r h => absurd h.1 (Nat.lt_irrefl 0)
  | D + 1 => alike_lv T (D + 1) ((Tp.ok__law_alike T D).imp fun vs H Q E h => h.2)
end LH
end

section
set_option Elab.async false
set_option linter.all false
set_option maxRecDepth 100000
set_option maxHeartbeats 4000000
set_option pp.maxSteps 1500
/-! what texts tell is of no great size -/
namespace LH
open PySem PySem.Spec PyProof.Rows L2 StX LamX
variable {P : Program} {w : World} {K : PySem.W.Frag} {mg : Str → Option Value} {base : Heap}
def Smd (e : Nat) (d : PyData) : Prop := small d = true ∧ d.depth ≤ e
theorem smd_all {e : Nat} : ∀ {ds : List PyData}, (∀ d ∈ ds, Smd e d) → smallAll ds = true ∧ PyData.depthAll ds ≤ e
  | [], _ => ⟨rfl, by simp [PyData.depthAll]⟩
  | d :: ds, h => by
    obtain ⟨a, b⟩ := h d List.mem_cons_self
    obtain ⟨x, y⟩ := smd_all fun z hz => h z (List.mem_cons_of_mem _ hz)
    refine ⟨by unfold smallAll; rw [a, x]; rfl, ?_⟩
    simp only [PyData.depthAll]
    omega
theorem smd_list {e : Nat} {ds : List PyData} (hl : ds.length ≤ 1000000) (h : ∀ d ∈ ds, Smd e d) : Smd (e + 1) (.list ds) := by
  obtain ⟨a, b⟩ := smd_all h
  refine ⟨?_, ?_⟩
  · unfold small
    rw [a, Bool.and_true]
    exact decide_eq_true hl
  · simp only [PyData.depth]
    omega
theorem smd_tup {e : Nat} {ds : List PyData} (hl : ds.length ≤ 1000000) (h : ∀ d ∈ ds, Smd e d) : Smd (e + 1) (.tuple ds) := by
  obtain ⟨a, b⟩ := smd_all h
  refine ⟨?_, ?_⟩
  · unfold small
    rw [a, Bool.and_true]
    exact decide_eq_true hl
  · simp only [PyData.depth]
    omega
theorem Smd.more {e e' : Nat} {d : PyData} (h : Smd e d) (he : e ≤ e') : Smd e' d := ⟨h.1, Nat.le_trans h.2 he⟩
theorem smd_int (i : Int) : Smd 1 (.int i) := ⟨rfl, by simp [PyData.depth]⟩
theorem smd_str (i : Str) : Smd 1 (.str i) := ⟨rfl, by simp [PyData.depth]⟩
theorem smd_non : Smd 1 .none := ⟨rfl, by simp [PyData.depth]⟩
theorem smd_num (w : Str) : Smd 1 (numD w) := by
  unfold numD
  cases numW w with
  | some n => exact smd_int _
  | none => exact smd_non
theorem smd_nam (w : Str) : Smd 1 (namD w) := by
  unfold namD
  split
  · exact smd_str _
  · exact smd_non
theorem smd_parts {g : Str → PyData} (hg : ∀ w, Smd 1 (g w)) {ws : List Str} (hl : ws.length ≤ 1000000) : Smd 2 (partsD g ws) := by
  unfold partsD
  split
  · exact smd_non.more (by decide)
  · refine smd_tup (by rw [List.length_map]; exact hl) fun d hd => ?_
    obtain ⟨w, _, rfl⟩ := List.mem_map.mp hd
    exact hg w
theorem smd_part {f w : Str} (h : w.length ≤ 900000) : Smd 2 (partD f w) := by
  unfold partD
  split
  · exact (smd_num w).more (by decide)
  split
  · exact (smd_nam w).more (by decide)
  split
  · exact smd_tup (by simp) fun d hd => nomatch hd
  · refine smd_parts (fun w => ?_) ?_
    · split
      · exact smd_num w
      · exact smd_nam w
    · have := (split_le (x := w) (y := Str.ofString ",") (by decide +kernel)).2
      omega
theorem smd_deed {ws : List Str} (hl : ws.length ≤ 900000) (h : ∀ w ∈ ws, w.length ≤ 900000) : Smd 3 (deedD ws) := by
  cases ws with
  | nil => exact smd_non.more (by decide)
  | cons w ws =>
    simp only [deedD]
    rw [List.length_cons] at hl
    split
    · exact smd_non.more (by decide)
    split
    · exact smd_non.more (by decide)
    · refine smd_tup (e := 2) ?_ fun d hd => ?_
      · rw [List.length_cons]
        unfold partsOf
        rw [List.length_map, List.length_zip]
        omega
      · rcases List.mem_cons.mp hd with rfl | hd
        · exact (smd_str _).more (by decide)
        · unfold partsOf at hd
          obtain ⟨q, hq, rfl⟩ := List.mem_map.mp hd
          exact smd_part (h _ (List.mem_cons_of_mem _ (List.of_mem_zip hq).2))
theorem smd_read {x : Str} (hx : x.length ≤ 800000) : Smd 4 (.list (readD x)) := by
  have h := split_le (x := x) (y := Str.ofString "\n") (by decide +kernel)
  have rl : ∀ l ∈ rowsOf x, l.length ≤ x.length := fun l hl => by
    unfold rowsOf at hl
    split at hl
    · cases hl
    · exact h.1 l hl
  have rn : (rowsOf x).length ≤ x.length + 1 := by
    unfold rowsOf
    split
    · simp
    · exact h.2
  unfold readD
  refine smd_list (by rw [List.length_map]; omega) fun d hd => ?_
  obtain ⟨l, hl, rfl⟩ := List.mem_map.mp hd
  have h2 := split_le (x := l) (y := Str.ofString " ") (by decide +kernel)
  have h3 := rl l hl
  unfold lineD
  exact smd_deed (by omega) fun w hw => by have := h2.1 w hw; omega
theorem first_uniq {ds : List PyData} {k j : Nat} (h : (∃ e, ds[k]? = some e ∧ isNo e = true) ∧ ∀ (i : Nat) (e : PyData), i < k → ds[i]? = some e → isNo e = false) (g : (∃ e, ds[j]? = some e ∧ isNo e = true) ∧ ∀ (i : Nat) (e : PyData), i < j → ds[i]? = some e → isNo e = false) : k = j := by
  obtain ⟨⟨e, e1, e2⟩, e3⟩ := h
  obtain ⟨⟨f, f1, f2⟩, f3⟩ := g
  rcases Nat.lt_trichotomy k j with z | z | z
  · rw [f3 k e z e1] at e2
    cases e2
  · exact z
  · rw [e3 j f z f1] at f2
    cases f2
theorem first_bad {ds : List PyData} {k : Nat} (h : ∃ e, ds[k]? = some e ∧ isNo e = true) (g : ∀ e ∈ ds, isNo e = false) : False := by
  obtain ⟨e, e1, e2⟩ := h
  rw [g e (List.mem_of_getElem? e1)] at e2
  cases e2
end LH
end

section
set_option Elab.async false
set_option linter.all false
set_option maxRecDepth 100000
set_option maxHeartbeats 4000000
set_option pp.maxSteps 1500
/-! what is told of a text is alike what is due -/
namespace LH
open PySem PySem.Spec PyProof.Rows L2 StX LamX
variable {P : Program} {w : World} {K : PySem.W.Frag} {mg : Str → Option Value} {base : Heap}
theorem again_ok {σ : L2.St} {H : Hp} {Q : VK} {E : XK} {x : Str} (e5 : σ[5]? = some (some (L2.V.str x))) (hx : x.length ≤ 800000) (asc : Asc x) (tb : Tabs (TT K) H) (q : ∀ H', ExtN H H' → Tabs (TT K) H' → Q (.bl true) H') :
    tCons (tLam (TT K) (TTx K) fun E σ H Q => tCons (tVar 5) tNil σ H fun vs H1 => spG_read K vs H1 Q E) (tCons (fun σ H Q => tCons (tVar 5) tNil σ H fun vs H1 => sp__law_due K vs H1 Q E) tNil) σ H fun vs H1 => sp__law_alike 8 K vs H1 Q E := by
  have big : 10000000 < sizeLine := by decide
  have sx := smd_read hx
  refine ⟨tb, fun H1 en tb1 => ?_⟩
  unfold TTx
  refine ⟨_, e5, ?_⟩
  unfold spG_read
  refine ⟨x, rfl, by omega, fun good H2 L zs s2 hL eL dz => ?_, fun k fk d H2 s2 hd ed => ?_⟩
  · refine ⟨_, e5, ?_⟩
    unfold sp__law_due
    refine ⟨x, rfl, by omega, asc, fun H3 v dd s3 du dv => ?_⟩
    rcases du with ⟨_, rfl⟩ | ⟨k, bad, _, _⟩
    · exact alike_ok (.lst (SqL.of (s3 _ _ eL)) (dpAllSame s3 dz.dp)) dv (Nat.le_trans sx.2 (by decide)) sx.1 fun H4 s4 => q H4 (en.trans (.of (Same.trans' s2 (Same.trans' s3 s4)))) (tabs_same (Same.trans' s2 (Same.trans' s3 s4)) tb1)
    · exact (first_bad bad good).elim
  · refine ⟨Str.ofString "BadText", by simp [tkindL], rfl, .int (k : Int), ?_, fun H3 t s3 ht => ?_⟩
    · unfold ResX
      rw [show fieldOf (Str.ofString "BadText") = some (Str.ofString "row") from by decide +kernel]
      exact ⟨d, _, rfl, ed, by rfl⟩
    · refine ⟨_, e5, ?_⟩
      unfold sp__law_due
      refine ⟨x, rfl, by omega, asc, fun H4 v dd s4 du dv => ?_⟩
      rcases du with ⟨good, _⟩ | ⟨j, bad, less, rfl⟩
      · exact (first_bad fk.1 good).elim
      · obtain rfl := first_uniq fk ⟨bad, less⟩
        have sd : Smd 2 (.tuple [.str (Str.ofString "BadText"), N' k]) := smd_tup (by simp) fun e he => by
          simp only [List.mem_cons, List.not_mem_nil, or_false] at he
          rcases he with rfl | rfl
          · exact smd_str _
          · exact smd_int _
        have ht2 : SqT K H4 t [.str (Str.ofString "BadText"), .int (k : Int)] := KeepT.same s4 _ _ ht
        exact alike_ok (.tup ht2 (.cons (.str _) (.cons (.int _) .nil))) dv (Nat.le_trans sd.2 (by decide)) sd.1 fun H5 s5 => q H5 (en.trans (.of (Same.trans' s2 (Same.trans' s3 (Same.trans' s4 s5))))) (tabs_same (Same.trans' s2 (Same.trans' s3 (Same.trans' s4 s5))) tb1)
end LH
end

section
set_option Elab.async false
set_option linter.all false
set_option maxRecDepth 100000
set_option maxHeartbeats 4000000
set_option pp.maxSteps 3000
/-! k15: the law -/
namespace LH
open PySem PySem.Spec PyProof.Rows L2 StX LamX
variable {P : Program} {w : World} {K : PySem.W.Frag} {mg : Str → Option Value} {base : Heap}
def someL (c d : Str) : List Str := [Str.ofString "add 3 0 a,bb 0,2 3", Str.ofString "add 0 9 a - 1", Str.ofString "clock 1 a 5 2 3 1", Str.ofString "join x a,bb", Str.ofString "leave x", Str.ofString "limit a 3 9",
  Str.ofString "add 1 1 a " ++ c ++ Str.ofString " 2", Str.ofString "join y " ++ d, Str.ofString "turn 12", Str.ofString "take x", Str.ofString "done 0", Str.ofString "fail 1", Str.ofString "beat 2", Str.ofString "tell 3 50", Str.ofString "drop 4", Str.ofString "again 5"]
def pk4 : List Str := [Str.ofString "0,,1", Str.ofString "1,0", Str.ofString ",0", Str.ofString "7"]
def pk3 : List Str := [Str.ofString "-", Str.ofString "a", Str.ofString "a,a"]
theorem some_ok {c d : Str} (hc : c ∈ pk4) (hd : d ∈ pk3) : ∀ w ∈ someL c d, w.length ≤ 30 ∧ Asc w := by
  have h : ((someL c d).all fun w => decide (w.length ≤ 30) && w.cps.toList.all fun c => decide (c < 128)) = true := by
    unfold pk4 at hc
    unfold pk3 at hd
    simp only [List.mem_cons, List.not_mem_nil, or_false] at hc hd
    rcases hc with rfl | rfl | rfl | rfl <;> rcases hd with rfl | rfl | rfl <;> decide +kernel
  intro w hw
  have h1 := List.all_eq_true.mp h w hw
  obtain ⟨a, b⟩ := Bool.and_eq_true_iff.mp h1
  exact ⟨of_decide_eq_true a, fun c hc => of_decide_eq_true (List.all_eq_true.mp b c hc)⟩
theorem pk4_le : ∀ c ∈ pk4, c.length ≤ 10 := by decide +kernel
theorem pk3_le : ∀ c ∈ pk3, c.length ≤ 10 := by decide +kernel
def Bd : Nat → Nat
  | 0 => 400
  | i + 1 => 4 * Bd i + 24
theorem bd_le : ∀ i, i ≤ 4 → Bd i ≤ 104440 := by decide
theorem BoxAt.extN {b l : Addr} {H H' : Hp} (bx : BoxAt H b l) (e : ExtN H H') : BoxAt H' b l := ⟨let ⟨r, h⟩ := bx.box; ⟨r, e _ _ h (fun _ z => nomatch z)⟩, let ⟨ns, h, z⟩ := bx.nums; ⟨ns, e _ _ h (fun _ z => nomatch z), z⟩, bx.ne⟩
@[irreducible] def sp_law (K : PySem.W.Frag) : Sp := fun vs H Q E => ∃ (a : Addr) (ns : List Int), vs = [.ref a] ∧ SqL K H a (vints ns) ∧ ns.length ≤ 63 ∧ Tabs (TT K) H ∧ ∀ H', Q (.bl true) H'
theorem sc_law : FnScope ["_law_script", "_law_box", "_law_some", "_law_turn", "_law_rows", "_law_text", "_law_change", "_law_again", "_law_k"] ["_law_script"] (defScope s_law) := ⟨rfl, rfl, rfl, by decide +kernel, rfl, by decide +kernel, by decide +kernel⟩
theorem Tp.okF_law (T : Tp P w K mg base) {fd : FuncData} (F : FunD K "law" "law" (defArgs s_law) (defBody s_law) (defScope s_law) (He.DefD.dvs K d_law) (He.DefD.kws K d_law) (He.ga K "law") fd) : FnOk P w K mg base (L2.CX P w) (200 + 1) (He.ga K "law") fd ["_law_script"] (sp_law K) := by
  refine funD_okC (N := ["_law_script", "_law_box", "_law_some", "_law_turn", "_law_rows", "_law_text", "_law_change", "_law_again", "_law_k"]) (k := 200) ("law", none) rfl F sc_law (fun vs H Q E h => ?_) fun cdv A outer s H vs Q E hr hc h => ?_
  · unfold sp_law at h
    obtain ⟨_, _, rfl, _⟩ := h
    rfl
  unfold sp_law at h
  obtain ⟨a, ns, rfl, ha, hl, tb, q⟩ := h
  refine ⟨_, (pss_cons (ps_set (i := 1) sc_law.nd rfl (by first | exact .inl rfl | exact .inr rfl) (pe_callP T.ok__law_begun (rm hr) (kp_of T.fd__law_begun) rfl T.g__law_begun passE (pa_cons (pv 0) pa_nil)))
      (pss_cons (ps_set (i := 2) sc_law.nd rfl (by first | exact .inl rfl | exact .inr rfl) (pe_lst (pa_cons pe_str (pa_cons pe_str (pa_cons pe_str (pa_cons pe_str (pa_cons pe_str (pa_cons pe_str pa_nil))))))))
      (pss_cons (ps_set (i := 2) sc_law.nd rfl (by first | exact .inl rfl | exact .inr rfl) (pe_op op_cat (pv 2) (pe_lst (pa_cons (pe_op op_add_str (pe_op op_add_str pe_str (pe_imp (pe_ix ix_list (pe_lst (pa_cons pe_str (pa_cons pe_str (pa_cons pe_str (pa_cons pe_str pa_nil))))) (pe_callP T.ok__law_take (rm hr) (kp_of T.fd__law_take) rfl T.g__law_take passE (pa_cons (pv 1) (pa_cons pe_int pa_nil))) (fun _ _ => rfl)) (pick_w (i := 1) (vs := [.str "0,,1", .str "1,0", .str ",0", .str "7"]) (fun _ _ _ h => h) (fun _ _ _ _ e h => ⟨_, e, h⟩)))) pe_str) pa_nil))))
      (pss_cons (ps_expr (pe_bm PySem.F.plainAttrs_list PySem.F.slot_list_append PySem.F.type_list_append mt_append (pv 2) (pa_cons (pe_op op_add_str pe_str (pe_imp (pe_ix ix_list (pe_lst (pa_cons pe_str (pa_cons pe_str (pa_cons pe_str pa_nil)))) (pe_callP T.ok__law_take (rm hr) (kp_of T.fd__law_take) rfl T.g__law_take passE (pa_cons (pv 1) (pa_cons pe_int pa_nil))) (fun _ _ => rfl)) (pick_w (i := 1) (vs := [.str "-", .str "a", .str "a,a"]) (fun _ _ _ h => h) (fun _ _ _ _ e h => ⟨_, e, h⟩)))) pa_nil)))
      (pss_cons (ps_set (i := 2) sc_law.nd rfl (by first | exact .inl rfl | exact .inr rfl) (pe_op op_cat (pv 2) (pe_lst (pa_cons pe_str (pa_cons pe_str (pa_cons pe_str (pa_cons pe_str (pa_cons pe_str (pa_cons pe_str (pa_cons pe_str (pa_cons pe_str pa_nil)))))))))))
      (pss_cons (ps_for passOwnE rfl (pi_range1 rfl T.f_range (pa_cons pe_int pa_nil)) (pg_name (i := 3) sc_law.nd rfl (by first | exact .inl rfl | exact .inr rfl)) (pss_cons (ps_setLc (i := 4) (own := [("_law_k", 8)]) rfl sc_law.nd rfl rfl rfl (pi_range1 rfl T.f_range (pa_cons (pe_op op_add pe_int (pe_callP T.ok__law_take (rm hr) (kp_of T.fd__law_take) rfl T.g__law_take passE (pa_cons (pv 1) (pa_cons pe_int pa_nil)))) pa_nil)) (blkOk_by (own := [("_law_k", 8)]) (N := ["_law_script", "_law_box", "_law_some", "_law_turn", "_law_rows", "_law_text", "_law_change", "_law_again", "_law_k"]) (sc := defScope s_law) (by decide +kernel)) (fun _ _ _ _ _ => (pg_name (i := 8) sc_law.nd rfl (by first | exact .inl rfl | exact .inr rfl))) (fun _ _ _ _ _ => pts_nil) (fun _ _ _ _ _ => (pe_ix (ix_listK K rfl) (pv 2) (pe_callP T.ok__law_take (rm hr) (kp_of T.fd__law_take) rfl T.g__law_take passL (pa_cons (pv 1) (pa_cons pe_int pa_nil))) (fun _ _ => rfl))))
      (pss_cons (ps_set (i := 5) sc_law.nd rfl (by first | exact .inl rfl | exact .inr rfl) (pe_ix ix_list (pe_lst (pa_cons (pe_join pe_str (pv 4)) (pa_cons pe_str (pa_cons pe_str (pa_cons pe_str pa_nil))))) (pe_op op_mul (pe_op op_fdiv (pe_callP T.ok__law_take (rm hr) (kp_of T.fd__law_take) rfl T.g__law_take passE (pa_cons (pv 1) (pa_cons pe_int pa_nil))) pe_int) (pe_callP T.ok__law_take (rm hr) (kp_of T.fd__law_take) rfl T.g__law_take passE (pa_cons (pv 1) (pa_cons pe_int pa_nil)))) (fun _ _ => rfl)))
      (pss_cons (ps_for passOwnE rfl (pi_range1 rfl T.f_range (pa_cons (pe_callP T.ok__law_take (rm hr) (kp_of T.fd__law_take) rfl T.g__law_take passE (pa_cons (pv 1) (pa_cons pe_int pa_nil))) pa_nil)) (pg_name (i := 6) sc_law.nd rfl (by first | exact .inl rfl | exact .inr rfl)) (pss_one (ps_set (i := 5) sc_law.nd rfl (by first | exact .inl rfl | exact .inr rfl) (pe_callP T.ok__law_spoilt (rm hr) (kp_of T.fd__law_spoilt) rfl T.g__law_spoilt passE (pa_cons (pv 1) (pa_cons (pv 5) pa_nil))))))
      (pss_one (ps_for passOwnE rfl (pi_range1 rfl T.f_range (pa_cons pe_int pa_nil)) (pg_name (i := 7) sc_law.nd rfl (by first | exact .inl rfl | exact .inr rfl)) (pss_one (ps_if (pt_not (pt_val (pe_callP (T.ok__law_alike 8) (rm hr) (kp_of T.fd__law_alike) rfl T.g__law_alike passE (pa_cons (T.lam_read hr hc (by decide +kernel) rfl (fun _ _ _ _ _ => rfl) (.inr (.inr rfl)) rfl) (pa_cons (pe_callP T.ok__law_due (rm hr) (kp_of T.fd__law_due) rfl T.g__law_due passE (pa_cons (pv 5) pa_nil)) pa_nil))))) (pss_one (ps_ret pe_bl)) pss_nil))))))))
      (pss_one (ps_ret pe_bl)))))))), ?_⟩
  have big : 10000000 < sizeLine := by decide
  refine ⟨_, rfl, lawbegun_ok ha hl fun H1 b l r s1 nb nl0 ne eb el => ?_⟩
  have bx1 : BoxAt H1 b l := ⟨⟨r, eb⟩, ⟨ns, el, by omega⟩, ne⟩
  have tb1 := tabs_same s1 tb
  clear s1 nb nl0 eb el tb ha
  refine gnI ⟨by show 6 ≤ sizeLine; decide, fun p1 hp1 => ?_⟩
  have s2 := same_new (o := .lst ([V.str (Str.ofString "add 3 0 a,bb 0,2 3"), V.str (Str.ofString "add 0 9 a - 1"), V.str (Str.ofString "clock 1 a 5 2 3 1"), V.str (Str.ofString "join x a,bb"), V.str (Str.ofString "leave x"), V.str (Str.ofString "limit a 3 9")] : List V)) hp1
  have e1 := upd_same (H := H1) (a := p1) (o := .lst ([V.str (Str.ofString "add 3 0 a,bb 0,2 3"), V.str (Str.ofString "add 0 9 a - 1"), V.str (Str.ofString "clock 1 a 5 2 3 1"), V.str (Str.ofString "join x a,bb"), V.str (Str.ofString "leave x"), V.str (Str.ofString "limit a 3 9")] : List V))
  have n1 := bx1.out hp1
  have bx2 := bx1.same s2
  have tb2 := tabs_same s2 tb1
  generalize L2.upd H1 p1 (.lst ([V.str (Str.ofString "add 3 0 a,bb 0,2 3"), V.str (Str.ofString "add 0 9 a - 1"), V.str (Str.ofString "clock 1 a 5 2 3 1"), V.str (Str.ofString "join x a,bb"), V.str (Str.ofString "leave x"), V.str (Str.ofString "limit a 3 9")] : List V)) = H2 at e1 bx2 tb2 ⊢
  clear s2 hp1 bx1 tb1
  refine gnI ⟨_, rfl, b, l, rfl, bx2, fun H3 v f3 bx3 hv => ?_⟩
  obtain ⟨c, hc4, rfl⟩ : ∃ c ∈ pk4, v = V.str c := by
    simp only [List.mem_cons, List.not_mem_nil, or_false] at hv
    rcases hv with rfl | rfl | rfl | rfl <;> exact ⟨_, by simp [pk4], rfl⟩
  have hcl := pk4_le c hc4
  have ff : ∀ {a : Addr} {xs : List V} {Ha Hb : Hp}, Frw K [b, l] Ha Hb → a ∉ [b, l] → Ha a = some (.lst xs) → Hb a = some (.lst xs) := fun f n e => f.fr _ _ n e fun _ z => nomatch z
  have e13 := ff f3 n1 e1
  have tb3 := f3.tabs tb2
  have la : (Str.ofString "add 1 1 a ").length ≤ 20 := by decide +kernel
  have lb : (Str.ofString " 2").length ≤ 20 := by decide +kernel
  have lj : (Str.ofString "join y ").length ≤ 20 := by decide +kernel
  refine ⟨_, _, rfl, rfl, by omega, _, _, rfl, rfl, by rw [Str.length_append]; omega, by show 1 ≤ sizeLine; decide, fun p2 hp2 => ?_⟩
  have s4 := same_new (o := .lst ([V.str (Str.ofString "add 1 1 a " ++ c ++ Str.ofString " 2")] : List V)) hp2
  have e24 := upd_same (H := H3) (a := p2) (o := .lst ([V.str (Str.ofString "add 1 1 a " ++ c ++ Str.ofString " 2")] : List V))
  generalize L2.upd H3 p2 (.lst ([V.str (Str.ofString "add 1 1 a " ++ c ++ Str.ofString " 2")] : List V)) = H4 at s4 e24 ⊢
  have bx4 := bx3.same s4
  have tb4 := tabs_same s4 tb3
  refine ⟨p1, p2, _, _, rfl, rfl, s4 _ _ e13, e24, by show 6 + 1 ≤ sizeLine; decide, fun p3 hp3 => ?_⟩
  have n3 := bx4.out hp3
  have s5 := same_new (o := .lst ([V.str (Str.ofString "add 3 0 a,bb 0,2 3"), V.str (Str.ofString "add 0 9 a - 1"), V.str (Str.ofString "clock 1 a 5 2 3 1"), V.str (Str.ofString "join x a,bb"), V.str (Str.ofString "leave x"), V.str (Str.ofString "limit a 3 9")] ++ [V.str (Str.ofString "add 1 1 a " ++ c ++ Str.ofString " 2")] : List V)) hp3
  have e35 := upd_same (H := H4) (a := p3) (o := .lst ([V.str (Str.ofString "add 3 0 a,bb 0,2 3"), V.str (Str.ofString "add 0 9 a - 1"), V.str (Str.ofString "clock 1 a 5 2 3 1"), V.str (Str.ofString "join x a,bb"), V.str (Str.ofString "leave x"), V.str (Str.ofString "limit a 3 9")] ++ [V.str (Str.ofString "add 1 1 a " ++ c ++ Str.ofString " 2")] : List V))
  generalize L2.upd H4 p3 (.lst ([V.str (Str.ofString "add 3 0 a,bb 0,2 3"), V.str (Str.ofString "add 0 9 a - 1"), V.str (Str.ofString "clock 1 a 5 2 3 1"), V.str (Str.ofString "join x a,bb"), V.str (Str.ofString "leave x"), V.str (Str.ofString "limit a 3 9")] ++ [V.str (Str.ofString "add 1 1 a " ++ c ++ Str.ofString " 2")] : List V)) = H5 at s5 e35 ⊢
  have bx5 := bx4.same s5
  have tb5 := tabs_same s5 tb4
  clear s4 s5 bx4 tb4 hp3 hp2 e13 e24 bx3 tb3 f3 e1 bx2 tb2
  refine gnI ⟨_, rfl, .inl ⟨rfl, _, SqL.of e35⟩, b, l, rfl, bx5, fun H6 v f6 bx6 hv => ?_⟩
  obtain ⟨d, hd3, rfl⟩ : ∃ d ∈ pk3, v = V.str d := by
    simp only [List.mem_cons, List.not_mem_nil, or_false] at hv
    rcases hv with rfl | rfl | rfl <;> exact ⟨_, by simp [pk3], rfl⟩
  have hdl := pk3_le d hd3
  have e36 := ff f6 n3 e35
  have tb6 := f6.tabs tb5
  refine ⟨_, _, rfl, rfl, by omega, p3, _, _, rfl, rfl, e36, by show 7 < sizeLine; decide, ?_⟩
  have bx7 := bx6.upd (D := p3) (o := .lst ([V.str (Str.ofString "add 3 0 a,bb 0,2 3"), V.str (Str.ofString "add 0 9 a - 1"), V.str (Str.ofString "clock 1 a 5 2 3 1"), V.str (Str.ofString "join x a,bb"), V.str (Str.ofString "leave x"), V.str (Str.ofString "limit a 3 9")] ++ [V.str (Str.ofString "add 1 1 a " ++ c ++ Str.ofString " 2")] ++ [V.str (Str.ofString "join y " ++ d)] : List V)) n3
  have tb7 := tabs_upd (o := .lst ([V.str (Str.ofString "add 3 0 a,bb 0,2 3"), V.str (Str.ofString "add 0 9 a - 1"), V.str (Str.ofString "clock 1 a 5 2 3 1"), V.str (Str.ofString "join x a,bb"), V.str (Str.ofString "leave x"), V.str (Str.ofString "limit a 3 9")] ++ [V.str (Str.ofString "add 1 1 a " ++ c ++ Str.ofString " 2")] ++ [V.str (Str.ofString "join y " ++ d)] : List V)) e36 trivial tb6
  have e37 := upd_same (H := H6) (a := p3) (o := .lst ([V.str (Str.ofString "add 3 0 a,bb 0,2 3"), V.str (Str.ofString "add 0 9 a - 1"), V.str (Str.ofString "clock 1 a 5 2 3 1"), V.str (Str.ofString "join x a,bb"), V.str (Str.ofString "leave x"), V.str (Str.ofString "limit a 3 9")] ++ [V.str (Str.ofString "add 1 1 a " ++ c ++ Str.ofString " 2")] ++ [V.str (Str.ofString "join y " ++ d)] : List V))
  generalize L2.upd H6 p3 (.lst ([V.str (Str.ofString "add 3 0 a,bb 0,2 3"), V.str (Str.ofString "add 0 9 a - 1"), V.str (Str.ofString "clock 1 a 5 2 3 1"), V.str (Str.ofString "join x a,bb"), V.str (Str.ofString "leave x"), V.str (Str.ofString "limit a 3 9")] ++ [V.str (Str.ofString "add 1 1 a " ++ c ++ Str.ofString " 2")] ++ [V.str (Str.ofString "join y " ++ d)] : List V)) = H7 at bx7 tb7 e37 ⊢
  clear e36 tb6 bx6 f6 e35 tb5 bx5
  refine ⟨_, rfl, by show 8 ≤ sizeLine; decide, fun p4 hp4 => ?_⟩
  have s8 := same_new (o := .lst ([V.str (Str.ofString "turn 12"), V.str (Str.ofString "take x"), V.str (Str.ofString "done 0"), V.str (Str.ofString "fail 1"), V.str (Str.ofString "beat 2"), V.str (Str.ofString "tell 3 50"), V.str (Str.ofString "drop 4"), V.str (Str.ofString "again 5")] : List V)) hp4
  have e48 := upd_same (H := H7) (a := p4) (o := .lst ([V.str (Str.ofString "turn 12"), V.str (Str.ofString "take x"), V.str (Str.ofString "done 0"), V.str (Str.ofString "fail 1"), V.str (Str.ofString "beat 2"), V.str (Str.ofString "tell 3 50"), V.str (Str.ofString "drop 4"), V.str (Str.ofString "again 5")] : List V))
  generalize L2.upd H7 p4 (.lst ([V.str (Str.ofString "turn 12"), V.str (Str.ofString "take x"), V.str (Str.ofString "done 0"), V.str (Str.ofString "fail 1"), V.str (Str.ofString "beat 2"), V.str (Str.ofString "tell 3 50"), V.str (Str.ofString "drop 4"), V.str (Str.ofString "again 5")] : List V)) = H8 at s8 e48 ⊢
  have bx8 := bx7.same s8
  have tb8 := tabs_same s8 tb7
  refine ⟨p3, p4, _, _, rfl, rfl, s8 _ _ e37, e48, by show 8 + 8 ≤ sizeLine; decide, fun S hS => ?_⟩
  have nS := bx8.out hS
  have bx9 := bx8.same (same_new (o := .lst ([V.str (Str.ofString "add 3 0 a,bb 0,2 3"), V.str (Str.ofString "add 0 9 a - 1"), V.str (Str.ofString "clock 1 a 5 2 3 1"), V.str (Str.ofString "join x a,bb"), V.str (Str.ofString "leave x"), V.str (Str.ofString "limit a 3 9")] ++ [V.str (Str.ofString "add 1 1 a " ++ c ++ Str.ofString " 2")] ++ [V.str (Str.ofString "join y " ++ d)] ++ [V.str (Str.ofString "turn 12"), V.str (Str.ofString "take x"), V.str (Str.ofString "done 0"), V.str (Str.ofString "fail 1"), V.str (Str.ofString "beat 2"), V.str (Str.ofString "tell 3 50"), V.str (Str.ofString "drop 4"), V.str (Str.ofString "again 5")] : List V)) hS)
  have tb9 := tabs_same (same_new (o := .lst ([V.str (Str.ofString "add 3 0 a,bb 0,2 3"), V.str (Str.ofString "add 0 9 a - 1"), V.str (Str.ofString "clock 1 a 5 2 3 1"), V.str (Str.ofString "join x a,bb"), V.str (Str.ofString "leave x"), V.str (Str.ofString "limit a 3 9")] ++ [V.str (Str.ofString "add 1 1 a " ++ c ++ Str.ofString " 2")] ++ [V.str (Str.ofString "join y " ++ d)] ++ [V.str (Str.ofString "turn 12"), V.str (Str.ofString "take x"), V.str (Str.ofString "done 0"), V.str (Str.ofString "fail 1"), V.str (Str.ofString "beat 2"), V.str (Str.ofString "tell 3 50"), V.str (Str.ofString "drop 4"), V.str (Str.ofString "again 5")] : List V)) hS) tb8
  have eS : L2.upd H8 S (.lst ([V.str (Str.ofString "add 3 0 a,bb 0,2 3"), V.str (Str.ofString "add 0 9 a - 1"), V.str (Str.ofString "clock 1 a 5 2 3 1"), V.str (Str.ofString "join x a,bb"), V.str (Str.ofString "leave x"), V.str (Str.ofString "limit a 3 9")] ++ [V.str (Str.ofString "add 1 1 a " ++ c ++ Str.ofString " 2")] ++ [V.str (Str.ofString "join y " ++ d)] ++ [V.str (Str.ofString "turn 12"), V.str (Str.ofString "take x"), V.str (Str.ofString "done 0"), V.str (Str.ofString "fail 1"), V.str (Str.ofString "beat 2"), V.str (Str.ofString "tell 3 50"), V.str (Str.ofString "drop 4"), V.str (Str.ofString "again 5")] : List V)) S = some (.lst ((someL c d).map V.str)) := upd_same
  generalize L2.upd H8 S (.lst ([V.str (Str.ofString "add 3 0 a,bb 0,2 3"), V.str (Str.ofString "add 0 9 a - 1"), V.str (Str.ofString "clock 1 a 5 2 3 1"), V.str (Str.ofString "join x a,bb"), V.str (Str.ofString "leave x"), V.str (Str.ofString "limit a 3 9")] ++ [V.str (Str.ofString "add 1 1 a " ++ c ++ Str.ofString " 2")] ++ [V.str (Str.ofString "join y " ++ d)] ++ [V.str (Str.ofString "turn 12"), V.str (Str.ofString "take x"), V.str (Str.ofString "done 0"), V.str (Str.ofString "fail 1"), V.str (Str.ofString "beat 2"), V.str (Str.ofString "tell 3 50"), V.str (Str.ofString "drop 4"), V.str (Str.ofString "again 5")] : List V)) = H9 at bx9 tb9 eS ⊢
  clear bx8 tb8 hS e48 e37 s8 bx7 tb7 hp4
  have hsm := some_ok hc4 hd3
  generalize hW : someL c d = ws at eS hsm
  have hwl : ws.length = 16 := by rw [← hW]; rfl
  clear hW hc4 hd3 hcl hdl la lb lj
  refine gnI ⟨4, rfl, by omega, by omega, ?_⟩
  refine for_range (n := 4) (fun i σ H' => ∃ (y3 y4 y5 y6 y7 : Option V), σ = [some (.ref a), some (.ref b), some (.ref S), y3, y4, y5, y6, y7, none] ∧ BoxAt H' b l ∧ Tabs (TT K) H' ∧ H' S = some (.lst (ws.map V.str))) ?_ ?_ ?_
  · exact ⟨none, none, none, none, none, rfl, bx9, tb9, eS⟩
  · rintro i σ H10 hi ⟨y3, y4, y5, y6, y7, rfl, bx10, tb10, e10⟩
    refine gnI ⟨_, rfl, draw_ok bx10 (by omega) fun H11 i11 f11 bx11 l11 u11 => ⟨_, _, rfl, rfl, ?_⟩⟩
    obtain ⟨m, em, hm1, hm8⟩ : ∃ m : Nat, 1 + i11 = (m : Int) ∧ 1 ≤ m ∧ m ≤ 8 := ⟨(1 + i11).toNat, by omega, by omega, by omega⟩
    have tb11 := f11.tabs tb10
    have e11 := ff f11 nS e10
    clear f11 tb10 bx10 e10
    refine ⟨(m : Int), congrArg (fun z => [V.int z]) em, by omega, by omega, fun D hD => lc_range (n := m) (fun c H' => ∃ rs : List Str, BoxAt H' b l ∧ Tabs (TT K) H' ∧ H' S = some (.lst (ws.map V.str)) ∧ H' D = some (.lst (rs.map V.str)) ∧ rs.length = c ∧ ∀ w ∈ rs, w ∈ ws) ?_ ?_ ?_⟩
    · exact ⟨[], bx11.same (same_new hD), tabs_same (same_new hD) tb11, same_new hD _ _ e11, upd_same, rfl, fun _ h => nomatch h⟩
    · rintro c H12 hc ⟨rs, bx12, tb12, e12, eD12, lr, hr2⟩
      have nD : D ∉ [b, l] := bx11.out hD
      have nDS : S ≠ D := fun z => by rw [← z, e11] at hD; cases hD
      refine gnI ⟨rfl, _, rfl, _, rfl, draw_ok bx12 (by omega) fun H13 j f13 bx13 l13 u13 => ?_⟩
      obtain ⟨jj, rfl, hjj⟩ : ∃ k : Nat, j = k ∧ k < ws.length := ⟨j.toNat, by omega, by omega⟩
      have e13 := ff f13 nS e12
      have eD13 := ff f13 nD eD12
      have hw := List.getElem?_eq_getElem hjj
      refine ⟨S, _, _, .str ws[jj], rfl, rfl, SqL.of e13, atI_nat (by rw [List.getElem?_map, hw]; rfl), _, eD13, by rw [List.length_map]; omega, rs ++ [ws[jj]], bx13.upd nD, tabs_upd eD13 trivial (f13.tabs tb12), (upd_ne nDS).trans e13, ?_, ?_, ?_⟩
      · rw [List.map_append]
        exact upd_same
      · rw [List.length_append, lr]
        rfl
      · intro w hw
        rcases List.mem_append.mp hw with z | z
        · exact hr2 w z
        · rw [List.mem_singleton.mp z]
          exact List.getElem_mem hjj
    rintro H12 ⟨rs, bx12, tb12, e12, eD12, lr, hr2⟩
    clear hD e11 tb11 bx11
    have sml : ∀ w ∈ rs, w.length ≤ 30 ∧ Asc w := fun w hw => hsm w (hr2 w hw)
    have wl : ∀ ys : List Str, (∀ w ∈ ys, w.length ≤ 30 ∧ Asc w) → (ys.map fun x => x.length).sum ≤ 30 * ys.length := fun ys => by
      induction ys with
      | nil => intro _; simp
      | cons y ys ih =>
        intro h
        have h1 := ih fun w hw => h w (List.mem_cons_of_mem _ hw)
        have h2 := (h y List.mem_cons_self).1
        rw [List.map_cons, List.sum_cons, List.length_cons]
        omega
    have wl1 := wl rs sml
    have wn : wlen rs ≤ 31 * rs.length := by
      unfold wlen
      omega
    have ln : (Str.ofString "\n").length = 1 := by decide +kernel
    have jl := join_le (Str.ofString "\n") ln rs
    have ja : Asc (Txt.join (Str.ofString "\n") rs) := asc_txt_join (by unfold Asc; decide +kernel) fun p hp => (sml p hp).2
    refine gnI ⟨⟨_, rfl⟩, _, rfl, Str.ofString "\n", D, rs, rfl, rfl, .inl (SqL.of eD12), by rw [ln]; omega, ?_⟩
    generalize Txt.join (Str.ofString "\n") rs = x0 at jl ja
    refine ⟨by show 4 ≤ sizeLine; decide, fun p hp => ?_⟩
    have jl2 : x0.length ≤ 400 := by omega
    have np := bx12.out hp
    have bx13 := bx12.same (same_new (o := .lst ([V.str x0, V.str "", V.str (Str.ofString " "), V.str (Str.ofString "\n")] : List V)) hp)
    have tb13 := tabs_same (same_new (o := .lst ([V.str x0, V.str "", V.str (Str.ofString " "), V.str (Str.ofString "\n")] : List V)) hp) tb12
    have e13 := same_new (o := .lst ([V.str x0, V.str "", V.str (Str.ofString " "), V.str (Str.ofString "\n")] : List V)) hp _ _ e12
    have ep13 : L2.upd H12 p (.lst ([V.str x0, V.str "", V.str (Str.ofString " "), V.str (Str.ofString "\n")] : List V)) p = some (.lst ([V.str x0, V.str "", V.str (Str.ofString " "), V.str (Str.ofString "\n")] : List V)) := upd_same
    generalize L2.upd H12 p (.lst ([V.str x0, V.str "", V.str (Str.ofString " "), V.str (Str.ofString "\n")] : List V)) = H13 at bx13 tb13 e13 ep13 ⊢
    clear bx12 tb12 e12 eD12 hp wl wl1 wn
    refine ⟨_, rfl, draw_ok bx13 (by omega) fun H14 i14 f14 bx14 l14 u14 => ⟨_, _, rfl, rfl, ⟨by decide, by decide⟩, _, rfl, draw_ok bx14 (by omega) fun H15 i15 f15 bx15 l15 u15 => ?_⟩⟩
    have tb15 := f15.tabs (f14.tabs tb13)
    have e15 := ff f15 nS (ff f14 nS e13)
    have ep15 := ff f15 np (ff f14 np ep13)
    obtain ⟨x, hx, ax, eat⟩ : ∃ x : Str, x.length ≤ 400 ∧ Asc x ∧ atI ([V.str x0, V.str "", V.str (Str.ofString " "), V.str (Str.ofString "\n")] : List V) (i14 / 5 * i15) = some (.str x) := by
      obtain ⟨k, ek, hk⟩ : ∃ k : Nat, i14 / 5 * i15 = (k : Int) ∧ k < 4 := by
        have h5 : i14 / 5 = 0 ∨ i14 / 5 = 1 := by omega
        rcases h5 with z | z
        · exact ⟨0, by rw [z]; simp, by decide⟩
        · exact ⟨i15.toNat, by rw [z]; omega, by omega⟩
      rw [ek]
      match k, hk with
      | 0, _ => exact ⟨x0, jl2, ja, atI_nat (j := 0) rfl⟩
      | 1, _ => exact ⟨"", by decide +kernel, by unfold Asc; decide +kernel, atI_nat (j := 1) rfl⟩
      | 2, _ => exact ⟨Str.ofString " ", by decide +kernel, by unfold Asc; decide +kernel, atI_nat (j := 2) rfl⟩
      | 3, _ => exact ⟨Str.ofString "\n", by decide +kernel, by unfold Asc; decide +kernel, atI_nat (j := 3) rfl⟩
    refine ⟨_, _, rfl, rfl, .inl (by constructor <;> omega), p, _, _, .str x, rfl, rfl, SqL.of ep15, eat, ?_⟩
    clear eat ep15 ep13 e13 tb13 f14 f15 bx13 bx14 np jl jl2 ja sml hr2 lr
    refine gnI ⟨_, rfl, draw_ok bx15 (by omega) fun H16 i16 f16 bx16 l16 u16 => ?_⟩
    obtain ⟨m5, rfl, hm5⟩ : ∃ m : Nat, i16 = m ∧ m ≤ 4 := ⟨i16.toNat, by omega, by omega⟩
    have tb16 := f16.tabs tb15
    have e16 := ff f16 nS e15
    refine ⟨m5, rfl, by omega, by omega, ?_⟩
    refine for_range (n := m5) (fun k σ H' => ∃ (z : Str) (y6 : Option V), σ = [some (.ref a), some (.ref b), some (.ref S), some (.int (0 + (i : Int))), some (.ref D), some (.str z), y6, y7, none] ∧ z.length ≤ Bd k ∧ Asc z ∧ BoxAt H' b l ∧ Tabs (TT K) H' ∧ H' S = some (.lst (ws.map V.str))) ?_ ?_ ?_
    · exact ⟨x, y6, rfl, hx, ax, bx16, tb16, e16⟩
    · rintro k σ H17 hk ⟨z, y6', rfl, hz, az, bx17, tb17, e17⟩
      have hb := bd_le k (by omega)
      refine gnI ⟨_, rfl, _, rfl, ?_⟩
      unfold sp__law_spoilt
      refine ⟨b, l, z, rfl, bx17, az, by omega, fun H18 y f18 bx18 ay hy => ?_⟩
      exact ⟨y, _, rfl, by show _ ≤ 4 * Bd k + 24; omega, ay, bx18, f18.tabs tb17, ff f18 nS e17⟩
    rintro σ H17 ⟨z, y6', rfl, hz, az, bx17, tb17, e17⟩
    have hb := bd_le m5 hm5
    refine ⟨2, rfl, by omega, by omega, ?_⟩
    refine for_range (n := 2) (fun k σ H' => ∃ y7 : Option V, σ = [some (.ref a), some (.ref b), some (.ref S), some (.int (0 + (i : Int))), some (.ref D), some (.str z), y6', y7, none] ∧ BoxAt H' b l ∧ Tabs (TT K) H' ∧ H' S = some (.lst (ws.map V.str))) ?_ ?_ ?_
    · exact ⟨y7, rfl, bx17, tb17, e17⟩
    · rintro k σ H18 hk ⟨y7', rfl, bx18, tb18, e18⟩
      refine gnI (again_ok (x := z) rfl (by omega) az tb18 fun H19 en tb19 => ⟨_, rfl, iteF ?_⟩)
      exact ⟨_, rfl, bx18.extN en, tb19, en _ _ e18 fun _ z => nomatch z⟩
    rintro σ H18 ⟨y7', rfl, bx18, tb18, e18⟩
    exact ⟨_, _, _, _, _, rfl, bx18, tb18, e18⟩
  · rintro σ H10 ⟨y3, y4, y5, y6, y7, rfl, bx10, tb10, e10⟩
    exact q _
end LH
end

set_option Elab.async false
set_option linter.all false
set_option maxRecDepth 100000
set_option maxHeartbeats 0
namespace LH
open PySem PySem.Spec PyProof.Rows L2 StX LamX
def dLaw : He.DefD := d_law
theorem SaysX.tp {P : Program} {w : World} {h : Heap} {K : PySem.W.Frag} {mg : Str → Option Value} {base : Heap} (c : SaysX faL fnL tfL tsL w h K) (X : K.In base) (G : base.Ns mainGlobals mg) (tb : ∀ p ∈ tfL, LamX.TabB base mg (He.cT K p).1 (He.cT K p).2) : Tp P w K mg base where
  c := c.toSaysF.d
  glo := He.glo_ok X G
  free := He.free_ok X G
  int := He.int_ok X G
  str := He.str_ok X G
  tab := tb
  uniq := c.uniq
  dic := c.dic
  vals := c.vals
  x := c.x
theorem tabs_nil {K : PySem.W.Frag} {H : Hp} (hH : ∀ p ∈ tfL.map (He.cT K), H p.2 = some (.tbl #[])) : Tabs (TT K) H := by
  intro p hp
  have e : ∃ q ∈ tfL, p.1 = (He.cT K q).2 := by
    simp only [TT, tfL, List.mem_cons, List.not_mem_nil, or_false] at hp ⊢
    first | (rcases hp with rfl | rfl <;> simp) | (rcases hp with rfl <;> simp)
  obtain ⟨q, hq, e⟩ := e
  refine TabS.nil ?_
  rw [e]
  exact hH _ (List.mem_map.mpr ⟨q, hq, rfl⟩)
theorem facts {l : PySem.W.OpenLaw} {w : World} {K : PySem.W.Frag} {h : Heap} {mg : Str → Option Value} {f : Addr} (X : K.In h) (G : h.Ns mainGlobals mg) (hfa : mg ("law" : Str) = some (.ref f)) (c : SaysX faL fnL tfL tsL w h K) : LawAtS l w K (L2.CX l.prog w) 201 63 "_law_script" mg f h := by
  have T0 : ∀ {P : Program} {base : Heap}, K.In base → base.Ns mainGlobals mg → (∀ p ∈ tfL, LamX.TabB base mg (He.cT K p).1 (He.cT K p).2) → Tp P w K mg base := fun X' G' tb => c.tp X' G' tb
  have e : f = He.ga K "law" := by
    have z := He.glo_ok X G (c.toSaysF.d.fact 43 (f := .glo "law") rfl)
    rw [hfa] at z
    cases z
    rfl
  subst e
  obtain ⟨fd, F⟩ := c.toSaysF.d.defs (d := d_law) (by simp [fnL])
  have b := FunD.bindsA (ps := ["_law_script"]) F fun _ _ _ _ _ _ us hl => match us, hl with | [_], _ => rfl
  refine ⟨fd, tfL.map (He.cT K), sp_law K, fun p hp => ?_, fun p hp => ?_, fun p hp => ?_, fun s v => b s [v] rfl, fun H a ns hl _ hH hS => ?_, fun base X' G' tb => ?_⟩
  · obtain ⟨q, hq, rfl⟩ := List.mem_map.mp hp
    exact c.empty q hq
  · obtain ⟨q, hq, rfl⟩ := List.mem_map.mp hp
    exact c.out q hq
  · obtain ⟨q, hq, rfl⟩ := List.mem_map.mp hp
    exact PySem.W.codeHd_of_K X (c.hd q hq)
  · unfold sp_law
    exact ⟨a, ns, rfl, hS, hl, tabs_nil hH, fun _ => rfl⟩
  · exact Tp.okF_law (T0 X' G' fun p hp => tb _ (List.mem_map.mpr ⟨p, hp, rfl⟩)) F
end LH
open PySem PySem.W PySem.Calls PyProof.Rows
theorem PySem.Challenge.cw_laterhouse_k15_texts_refused_holds : PySem.Challenge.rw_laterhouse_k15_texts_refused.Holds := by
  w_on; o_law
  refine HandSHeadRun.head_any (r := OpenLaw.row PySem.Challenge.rw_laterhouse_k15_texts_refused) (q := view (OpenLaw.row PySem.Challenge.rw_laterhouse_k15_texts_refused).prog [47]) (H := LH.hk) (ob := LH.ob) (M := 20000) (loose := LH.nms) (d := HandSHeadRun.topDef (OpenLaw.row PySem.Challenge.rw_laterhouse_k15_texts_refused).prog 47) (kwd := []) LH.ob_eq
    (by kernel_rfl) (fun s => by kernel_rfl) LH.run (by kernel_rfl) (by kernel_rfl) (by kernel_rfl) (by rfl) (by first | assumption | decide +kernel) (by decide +kernel) ⟨rfl, rfl, rfl, rfl, rfl, by decide +kernel⟩ ?hw ?hc
  case hw => w_witness2
  case hc =>
    refine LamX.walk_ofTsE (l := PySem.Challenge.rw_laterhouse_k15_texts_refused) (n := 63) (k := 201) (x := "_law_script") (CX := L2.CX (PySem.Challenge.rw_laterhouse_k15_texts_refused).prog) rfl (by decide) (by kernel_rfl) ⟨rfl, by decide, by decide⟩ ?F ?G
    case F =>
      intro w mg fa h Y G hmg0
      obtain ⟨K, KX, c⟩ := Y
      have hmg : mg ("law" : PySem.Str) = some (.ref fa) := by
        have e : (HandSHeadRun.topDef (OpenLaw.row PySem.Challenge.rw_laterhouse_k15_texts_refused).prog 47).name = ("law" : PySem.Str) := by kernel_rfl
        rw [← e]
        exact hmg0
      exact ⟨K, KX, LH.facts KX G hmg c⟩
    case G =>
      rintro w H s e s' ⟨a, B, H', cls, d, _, _, _, _, _, _, _, z⟩
      exact z
