import PyProof.Rows.All
import Wide.All
import OpenK.AllK
import Wide.FinOn
import HandS.Words
import HandS.WordsExc
import HandS.Defaults
import HandS.Style
import HandS.RaiseMore
import KE.KStateDown
import HandS.Head0
import HandS.Head1
import HandS.Head2
import HandS.HeadHook1
import HandS.HeadHook2
import HandS.HeadHook3
import HandS.HeadHook4
import HandS.ForMost
import HandS.ForExc
import HandS.TupAny
import HandS.TupMul
import HandS.Wide
import HandS.Zip
import HandS.FStr
import HandS.Star
import HandS.IsInst
import KE.GoesEnum
import PyProof.EnumMake
import PyProof.FitsInt
import HandS.MakeKwOnly
import HandS.MakeKw
import HandS.Property
import HandS.HotCalls
import HandS.ExcIs
import HandS.SetFor
import HandS.Lambda
import HandS.OwnEq
import PyProof.NeKinds
import PyProof.ReprRoads
import HandS.Codes
import PyProof.Rows.Range3
import PyProof.StrLawsRepr
import PyProof.ReprLen
import HandS.EndTab
import HandS.NestedK
import PySem.Challenge.RW_fourcorners_k10_whole_parts_of_machines
set_option Elab.async false
set_option linter.all false
set_option maxRecDepth 100000
set_option maxHeartbeats 0
/-! The head: what is looked at behind the top, the run. -/
namespace PySem
namespace IxX
open PySem.W PySem.Calls PyProof.Rows PySem.HandSPX
def aTail : List Value := [.type "ArithmeticError", .type "Exception", .type "BaseException", .type "object"]
end IxX
end PySem
namespace K10
open PySem PySem.Spec PyProof.Rows L2
/-- the j-th statement of the row's top -/
def top (j : Nat) : Stmt := PySem.Challenge.pw_fourcorners_k10_whole_parts_of_machines.main.body.getD j (.Pass ⟨0, 0, 0, 0⟩)
abbrev mIn (j : Nat) : Stmt := inClass (top 64) j
abbrev fB : PySem.Str := "held_base"
abbrev fP : PySem.Str := "held_parts"
abbrev fX : PySem.Str := "held_box"
def exNames : List PySem.Str := ["InvalidText", "InvalidNumber", "InvalidFraction", "InvalidEdge", "InvalidName", "InvalidIndex", "InvalidClaim", "InvalidCommand", "NotALine", "NotSpans", "NotAMachine", "InvalidNumbers", "InvalidStretches", "InvalidParts", "InvalidBox", "InvalidAmounts", "UnknownName", "InUse", "TooHigh", "NotHigh", "TooGreat", "NothingToUndo", "Broken", "BadValue", "BadName", "NoAnswer"]
def usedDefs0 : List (PySem.Str × Nat) := [(PySem.Str.ofString "divisor", 32), (PySem.Str.ofString "lowest", 33), (PySem.Str.ofString "added", 34), (PySem.Str.ofString "multiplied", 35), (PySem.Str.ofString "sign", 36), (PySem.Str.ofString "is_less", 37), (PySem.Str.ofString "is_integer", 40), (PySem.Str.ofString "is_fraction", 41), (PySem.Str.ofString "is_short", 42), (PySem.Str.ofString "is_stretch", 43), (PySem.Str.ofString "fraction_text", 46), (PySem.Str.ofString "numbers_text", 47), (PySem.Str.ofString "are_numbers", 49), (PySem.Str.ofString "number_fault", 50), (PySem.Str.ofString "put_to", 58), (PySem.Str.ofString "with_parts", 59), (PySem.Str.ofString "corners_in", 60), (PySem.Str.ofString "is_high", 61), (PySem.Str.ofString "check_parts", 62), (PySem.Str.ofString "check_box", 63)]
def usedDefs1 : List (PySem.Str × Nat) := [(PySem.Str.ofString "_law_cup", 69), (PySem.Str.ofString "_law_sip", 70), (PySem.Str.ofString "_law_of", 71), (PySem.Str.ofString "_law_low", 72), (PySem.Str.ofString "_law_sum", 73), (PySem.Str.ofString "_law_mul", 74), (PySem.Str.ofString "_law_less", 75), (PySem.Str.ofString "_law_word", 76), (PySem.Str.ofString "_law_words", 77), (PySem.Str.ofString "_law_share", 78), (PySem.Str.ofString "_law_plus_share", 79), (PySem.Str.ofString "_law_put", 80), (PySem.Str.ofString "_law_by", 81), (PySem.Str.ofString "_law_kind", 82), (PySem.Str.ofString "_law_kept", 83), (PySem.Str.ofString "_law_caught", 84), (PySem.Str.ofString "_law_is_number", 85), (PySem.Str.ofString "_law_is_short", 86), (PySem.Str.ofString "_law_first_bad", 87), (PySem.Str.ofString "_law_is_stretch", 88)]
def usedDefs2 : List (PySem.Str × Nat) := [(PySem.Str.ofString "_law_bent", 89), (PySem.Str.ofString "_law_numbers", 90), (PySem.Str.ofString "_law_span", 91), (PySem.Str.ofString "_law_rig", 92), (PySem.Str.ofString "_law_machine", 93), (PySem.Str.ofString "_law_page", 94), (PySem.Str.ofString "_law_at", 95), (PySem.Str.ofString "_law_corners", 96), (PySem.Str.ofString "_law_is_high", 97), (PySem.Str.ofString "_law_due", 98), (PySem.Str.ofString "_law_changed", 99), (PySem.Str.ofString "_law_steep", 100), (PySem.Str.ofString "_law_right", 101), (PySem.Str.ofString "law", 102)]
def usedDefs : List (PySem.Str × Nat) := usedDefs0 ++ (usedDefs1 ++ usedDefs2)
def freeNames : List PySem.Str := [PySem.Str.ofString "len", PySem.Str.ofString "abs", PySem.Str.ofString "isinstance", PySem.Str.ofString "all", PySem.Str.ofString "divmod", PySem.Str.ofString "max", PySem.Str.ofString "min", PySem.Str.ofString "int", PySem.Str.ofString "bool", PySem.Str.ofString "str", PySem.Str.ofString "tuple", PySem.Str.ofString "list", PySem.Str.ofString "repr", PySem.Str.ofString "range", PySem.Str.ofString "zip", PySem.Str.ofString "enumerate", PySem.Str.ofString "ValueError", PySem.Str.ofString "LookupError", PySem.Str.ofString "ArithmeticError"]
def ddT (q : PySem.Str × Nat) : He.DefD := ⟨(q.1, none), q.1, q.1, defArgs (top q.2), defBody (top q.2), defScope (top q.2), [], []⟩
def ddM (nm qn : PySem.Str) (j : Nat) (dv : List He.Dv) : He.DefD := ⟨("Machine", some nm), nm, qn, defArgs (mIn j), defBody (mIn j), defScope (mIn j), dv, []⟩
def ddE (cn cq : PySem.Str) (j : Nat) : He.DefD := ⟨(cn, some "__init__"), "__init__", cq, defArgs (inClass (top j) 0), defBody (inClass (top j) 0), defScope (inClass (top j) 0), [], []⟩
def initDv : List He.Dv := [.adr (He.dflAt ("Machine", some "__init__") 0), .adr (He.dflAt ("Machine", some "__init__") 1)]
def fnL : List He.DefD := [ddM "__init__" "Machine.__init__" 0 initDv, ddM "take" "Machine.take" 1 [], ddM "__eq__" "Machine.__eq__" 15 [], ddM "__bool__" "Machine.__bool__" 16 [],
  ddE "InvalidNumbers" "InvalidNumbers.__init__" 16, ddE "InvalidParts" "InvalidParts.__init__" 18, ddE "InvalidBox" "InvalidBox.__init__" 19, ddE "NotHigh" "NotHigh.__init__" 24] ++ usedDefs.map ddT
def faL : List He.Fa := [.int "MOST_SHORT" 1000000000000, .int "MOST_PARTS" 3, .int "MOST_NUMBERS" 6, .glo "Machine", .cls "Machine", .noat "Machine" fB, .noat "Machine" fP, .noat "Machine" fX, .meth "Machine" "take", .meth "Machine" "__eq__", .meth "Machine" "__bool__", .mkr "Machine"] ++
  usedDefs.map (fun q => .glo q.1) ++ exNames.map .glo ++ freeNames.map .free
def tfL : List He.Defn := [("_law_right", none)]
/-- an own error's class object: whose tail is told -/
def clsR (K : PySem.W.Frag) (C : Addr) (newId : String) (P : List Value → Bool) : Bool :=
  match K.lookup C with
  | none => false
  | some o => match o with
    | { cls := .type "type", dict := _, data := .cls z, slots := w } => z.hasDict && (!z.hasDel && (match z.mro, w.toList with
      | .ref a :: rest, [_, _, _, _, some (.builtin b), _] => a == C && (b == newId && P rest)
      | _, _ => false))
    | _ => false
abbrev fI (K : PySem.W.Frag) (cn : PySem.Str) : Addr := He.ma K (He.ga K cn) "__init__"
def oB (a : Option Bool) (b : Bool) : Bool := decide (a = some b)
def oV (a : Option Value) (v : Value) : Bool := decide (a = some v)
def ixB (K : PySem.W.Frag) (cn : PySem.Str) : Bool :=
  clsR K (He.ga K cn) "ValueError.__new__" PySem.HandSPX.refsVE && (He.eqO (PySem.W.findIn K (.ref (He.ga K cn)) "__setattr__") (some (some (.builtin "object.__setattr__"))) && (He.eqO (PySem.W.findIn K (.ref (He.ga K cn)) "__getattribute__") (some (some (.builtin "BaseException.__getattribute__"))) &&
    (He.eqO (PySem.W.findIn K (.ref (He.ga K cn)) "__getattr__") (some none) && (He.eqO (PySem.W.findIn K (.ref (He.ga K cn)) "index") (some none) && (He.eqO (PySem.W.findIn K (.ref (He.ga K cn)) "__init__") (some (some (.ref (fI K cn)))) &&
    (oV (PySem.W.typeIn K (.ref (fI K cn))) (.type "function") && (PySem.W.keepIn K (.ref (He.ga K cn)) && (oB (PySem.W.subIn K (.ref (He.ga K cn)) (.type "BaseException")) true && (oV (PySem.W.typeIn K (.ref (He.ga K cn))) (.type "type") && (PySem.W.hasDictIn K (He.ga K cn) &&
    oB (PySem.W.exmOne K (.ref (He.ga K cn)) (.ref (He.ga K cn))) true))))))))))
def noTail : List Value → Bool
  | .ref _ :: l => l == PySem.IxX.aTail
  | _ => false
def noB (K : PySem.W.Frag) (cn : PySem.Str) : Bool :=
  clsR K (He.ga K cn) "ArithmeticError.__new__" noTail && (He.eqO (PySem.W.findIn K (.ref (He.ga K cn)) "__init__") (some (some (.ref (fI K cn)))) && (oV (PySem.W.typeIn K (.ref (fI K cn))) (.type "function") && (PySem.W.keepIn K (.ref (He.ga K cn)) &&
    (oB (PySem.W.subIn K (.ref (He.ga K cn)) (.type "BaseException")) true && oV (PySem.W.typeIn K (.ref (He.ga K cn))) (.type "type")))))
def ecB (K : PySem.W.Frag) (D : Addr) : Bool :=
  He.eqO (PySem.W.findIn K (.ref D) "__getattribute__") (some (some (.builtin "BaseException.__getattribute__"))) && (He.eqO (PySem.W.findIn K (.ref D) "__getattr__") (some none) && (oB (PySem.W.subIn K (.ref D) (.type "BaseException")) true && (PySem.W.hasDictIn K D && (He.eqO (PySem.W.findIn K (.ref D) "__class__") (some (some (.builtin "object.__class__"))) &&
    (He.eqO (PySem.W.specialIn K (.builtin "object.__class__") "__get__") (some (some (.builtin "getset_descriptor.__get__"))) && (oB (PySem.W.takesIn K (.builtin "object.__class__")) true && oB (PySem.W.mroIn K D (.type "object")) true))))))
def erL : List (PySem.Str × PySem.Str × Bool) := [("InvalidNumbers", "BadValue", false), ("InvalidParts", "BadValue", false), ("InvalidBox", "BadValue", false), ("NotHigh", "NoAnswer", true)]
def erB (K : PySem.W.Frag) (q : PySem.Str × PySem.Str × Bool) : Bool :=
  (exNames.all fun nm => oB (PySem.W.kitOne K (.ref (He.ga K q.1)) (.ref (He.ga K nm))) (decide (nm = q.1) || decide (nm = q.2.1))) && (oB (PySem.W.kitOne K (.ref (He.ga K q.1)) (.type "ValueError")) (!q.2.2) && (oB (PySem.W.kitOne K (.ref (He.ga K q.1)) (.type "LookupError")) false && (oB (PySem.W.kitOne K (.ref (He.ga K q.1)) (.type "ArithmeticError")) q.2.2 &&
    (ecB K (He.ga K q.1) && oB (PySem.W.exmAny K (.ref (He.ga K q.1)) [.ref (He.ga K "BadValue"), .ref (He.ga K "BadName"), .ref (He.ga K "NoAnswer")]) true))))
def insB (K : PySem.W.Frag) (C : Addr) : Bool :=
  He.eqO (PySem.W.findIn K (.ref C) "__class__") (some (some (.builtin "object.__class__"))) && (He.eqO (PySem.W.specialIn K (.builtin "object.__class__") "__get__") (some (some (.builtin "getset_descriptor.__get__"))) && (oB (PySem.W.takesIn K (.builtin "object.__class__")) true && (oB (PySem.W.mroIn K C (.type "object")) true && oB (PySem.W.kitOne K (.ref C) (.ref C)) true)))
/-- a property's object, its getter -/
def pA (K : PySem.W.Frag) (nm : PySem.Str) : Addr := He.ma K (He.ga K "Machine") nm
def gA (K : PySem.W.Frag) (nm : PySem.Str) : Addr :=
  match PySem.W.recIn K (pA K nm) "property" with
  | some (.ref g :: _) => g
  | _ => 0
def proB (K : PySem.W.Frag) (q : PySem.Str × PySem.Str × Nat) : Bool :=
  He.eqO (PySem.W.findIn K (.ref (He.ga K "Machine")) q.1) (some (some (.ref (pA K q.1)))) && (He.eqO (PySem.W.specialIn K (.ref (pA K q.1)) "__get__") (some (some (.builtin "property.__get__"))) && (oB (PySem.W.takesIn K (.ref (pA K q.1))) true && ((match PySem.W.recIn K (pA K q.1) "property" with
    | some (.ref _ :: _) => true
    | _ => false) && (PySem.W.keepIn K (.ref (gA K q.1)) && (match K.lookup (gA K q.1) with
      | some ⟨_, _, .func z, _⟩ => PySem.W.codeIn K z.code q.2.1 && He.dflB K z.defaults []
      | _ => false)))))
def fnAt (K : PySem.W.Frag) (a : Addr) : He.FnW :=
  match K.lookup a with
  | some ⟨_, _, .func z, _⟩ => some (z.name, z.qualname, z.params, z.body, z.scope, z.globals, z.closure, z.builtins)
  | _ => none
def proL : List (PySem.Str × PySem.Str × Nat) := [("base", "Machine.base", 3), ("parts", "Machine.parts", 4), ("box", "Machine.box", 5), ("degree", "Machine.degree", 6), ("text", "Machine.text", 7)]
def exB (K : PySem.W.Frag) : Bool := ixB K "InvalidNumbers" && (ixB K "InvalidParts" && (ixB K "InvalidBox" && (noB K "NotHigh" && (erL.all (erB K) && (insB K (He.ga K "Machine") && proL.all (proB K))))))
/-- what an object of the head leads to -/
def refsK (o : Obj) : List Addr := match o.data with
  | .func z => He.refV z.code ++ He.refV z.defaults
  | .cls z => [z.ns]
  | .dict es _ => es.toList.flatMap fun e => He.refV e.val
  | .fields vs => (match o.cls with
    | .type t => (match t == "property" with
      | true => vs.toList.flatMap He.refV
      | false => [])
    | _ => [])
  | _ => []
def stepK (g : Addr → Option Obj) (as : List Addr) : List Addr := as.flatMap fun a => match g a with
  | some o => refsK o
  | none => []
def asK (g : Addr → Option Obj) : List Addr :=
  let l1 := stepK g [mainGlobals]
  let l2 := stepK g l1
  let l3 := stepK g l2
  let l4 := stepK g l3
  let l5 := stepK g l4
  mainGlobals :: (l1 ++ (l2 ++ (l3 ++ (l4 ++ l5))))
def frK (g : Addr → Option Obj) : PySem.W.Frag := He.frT g (asK g)
abbrev pR : He.Defn := ("_law_right", none)
abbrev AlK : Type := (He.AlD × Bool) × List He.FnW
def obsK (g : Addr → Option Obj) : AlK := ((He.obsD faL fnL (frK g), exB (frK g) && He.tabsB g tfL (frK g)), proL.map fun q => fnAt (frK g) (gA (frK g) q.1))
def valG : List He.FnW := proL.map fun q => some (q.1, q.2.1, defArgs (mIn q.2.2), .stmts (defBody (mIn q.2.2)), defScope (mIn q.2.2), mainGlobals, [], builtinsNs)
abbrev Rw : PySem.W.OpenRow := PySem.W.OpenLaw.row PySem.Challenge.rw_fourcorners_k10_whole_parts_of_machines
abbrev qv : Program := PySem.W.view Rw.prog [102]
def names0 : List PySem.Str := [PySem.Str.ofString "_wall", PySem.Str.ofString "BadValue", PySem.Str.ofString "BadName", PySem.Str.ofString "NoAnswer", PySem.Str.ofString "InvalidText", PySem.Str.ofString "InvalidNumber", PySem.Str.ofString "InvalidFraction", PySem.Str.ofString "InvalidEdge", PySem.Str.ofString "InvalidName", PySem.Str.ofString "InvalidIndex", PySem.Str.ofString "InvalidClaim", PySem.Str.ofString "InvalidCommand", PySem.Str.ofString "NotALine", PySem.Str.ofString "NotSpans", PySem.Str.ofString "NotAMachine", PySem.Str.ofString "InvalidNumbers", PySem.Str.ofString "InvalidStretches", PySem.Str.ofString "InvalidParts", PySem.Str.ofString "InvalidBox", PySem.Str.ofString "InvalidAmounts", PySem.Str.ofString "UnknownName", PySem.Str.ofString "InUse", PySem.Str.ofString "TooHigh", PySem.Str.ofString "NotHigh", PySem.Str.ofString "TooGreat", PySem.Str.ofString "NothingToUndo", PySem.Str.ofString "Broken", PySem.Str.ofString "MOST_DEGREE", PySem.Str.ofString "MOST_PARTS", PySem.Str.ofString "MOST_SHORT", PySem.Str.ofString "divisor", PySem.Str.ofString "lowest", PySem.Str.ofString "added", PySem.Str.ofString "multiplied", PySem.Str.ofString "sign", PySem.Str.ofString "is_less"]
def names1 : List PySem.Str := [PySem.Str.ofString "DIGITS", PySem.Str.ofString "is_integer", PySem.Str.ofString "is_fraction", PySem.Str.ofString "is_short", PySem.Str.ofString "is_stretch", PySem.Str.ofString "numeral", PySem.Str.ofString "fraction_in", PySem.Str.ofString "fraction_text", PySem.Str.ofString "numbers_text", PySem.Str.ofString "numbers_in", PySem.Str.ofString "are_numbers", PySem.Str.ofString "number_fault", PySem.Str.ofString "are_short", PySem.Str.ofString "ONE", PySem.Str.ofString "MOST_NUMBERS", PySem.Str.ofString "stretch_in", PySem.Str.ofString "TAIL", PySem.Str.ofString "put_to", PySem.Str.ofString "with_parts", PySem.Str.ofString "corners_in", PySem.Str.ofString "is_high", PySem.Str.ofString "check_parts", PySem.Str.ofString "check_box", PySem.Str.ofString "Machine", PySem.Str.ofString "machine_with", PySem.Str.ofString "part_in", PySem.Str.ofString "machine_of", PySem.Str.ofString "_law_cup", PySem.Str.ofString "_law_sip", PySem.Str.ofString "_law_of", PySem.Str.ofString "_law_low", PySem.Str.ofString "_law_sum", PySem.Str.ofString "_law_mul", PySem.Str.ofString "_law_less", PySem.Str.ofString "_law_word", PySem.Str.ofString "_law_words"]
def names2 : List PySem.Str := [PySem.Str.ofString "_law_share", PySem.Str.ofString "_law_plus_share", PySem.Str.ofString "_law_put", PySem.Str.ofString "_law_by", PySem.Str.ofString "_law_kind", PySem.Str.ofString "_law_kept", PySem.Str.ofString "_law_caught", PySem.Str.ofString "_law_is_number", PySem.Str.ofString "_law_is_short", PySem.Str.ofString "_law_first_bad", PySem.Str.ofString "_law_is_stretch", PySem.Str.ofString "_law_bent", PySem.Str.ofString "_law_numbers", PySem.Str.ofString "_law_span", PySem.Str.ofString "_law_rig", PySem.Str.ofString "_law_machine", PySem.Str.ofString "_law_page", PySem.Str.ofString "_law_at", PySem.Str.ofString "_law_corners", PySem.Str.ofString "_law_is_high", PySem.Str.ofString "_law_due", PySem.Str.ofString "_law_changed", PySem.Str.ofString "_law_steep", PySem.Str.ofString "_law_right"]
def names : List PySem.Str := names0 ++ names1 ++ names2
noncomputable abbrev endK (w : World) (os : OsState) : Option PySem.W.SharedT := HandSHeadRun.endF (HandSHeadRun.stepQ (HandSHeadRun.denQ HandSHeadRun.tabQ) Rw.prog w) 20000 Rw.prog w os
end K10
set_option Elab.async false
set_option linter.all false
set_option maxRecDepth 100000
set_option maxHeartbeats 0
/-! The head's run. -/
namespace K10
open PySem PySem.W PySem.Calls PyProof.Rows
theorem run_a (w : World) (os : OsState) : (endK w os).map (fun s => (HandSHeadRun.looksF Rw.prog (boot_heap w.params) s.abs, HandSHeadRun.seenQ qv names (importedModules Rw.prog.main.body) (fun s => xlAt qv [] s && recOk Rw.toRowW.records s) s.abs)) = some (true, openGood qv names) := by
  kernel_rfl
theorem run_b (w : World) (os : OsState) : (endK w os).map (fun s => He.obsD faL fnL (frK (HandSHeadRun.getT s))) = some (He.valD fnL) := by
  kernel_rfl
theorem run_c (w : World) (os : OsState) : (endK w os).map (fun s => (exB (frK (HandSHeadRun.getT s)) && He.tabsB (HandSHeadRun.getT s) tfL (frK (HandSHeadRun.getT s)), proL.map fun q => fnAt (frK (HandSHeadRun.getT s)) (gA (frK (HandSHeadRun.getT s)) q.1))) = some (true, valG) := by
  kernel_rfl
end K10
set_option Elab.async false
set_option linter.all false
set_option maxRecDepth 100000
set_option maxHeartbeats 4000000
/-! Data read off the abstract heap, and what the layer's readings make of data. -/
namespace K10
open PySem PySem.Spec PyProof.Rows L2 StX

/-- data -/
inductive D where
  | non
  | bl (b : Bool)
  | int (i : Int)
  | str (s : PySem.Str)
  | tup (ds : List D)
  | lst (ds : List D)
  | dct
  | adr (a : Addr)
  | scr (ns : List Int)
  | mac (b p x : D)
  | exc (a : Addr) (dd : Option (Addr × V))

mutual
/-- the value v of the heap G says d; C: the class of machines -/
inductive DA (K : PySem.W.Frag) (C : Addr) (G : Hp) : V → D → Prop
  | non : DA K C G .non .non
  | bl (b : Bool) : DA K C G (.bl b) (.bl b)
  | int (i : Int) : DA K C G (.int i) (.int i)
  | str (x : PySem.Str) : DA K C G (.str x) (.str x)
  | tup {a : Addr} {xs : List V} {ds : List D} : SqT K G a xs → DAs K C G xs ds → DA K C G (.ref a) (.tup ds)
  | lst {a : Addr} {xs : List V} {ds : List D} : G a = some (.lst xs) → DAs K C G xs ds → DA K C G (.ref a) (.lst ds)
  | dct {a : Addr} : G a = some (.dK []) → DA K C G (.ref a) .dct
  | adr (a : Addr) : DA K C G (.ref a) (.adr a)
  | scr {a : Addr} {ns : List Int} : SqL K G a (ns.map V.int) → DA K C G (.ref a) (.scr ns)
  | mac {a dx : Addr} {v1 v2 v3 : V} {b p x : D} : G a = some (.ins C dx [(("held_base" : PySem.Str), v1), (("held_parts" : PySem.Str), v2), (("held_box" : PySem.Str), v3)]) →
      DA K C G v1 b → DA K C G v2 p → DA K C G v3 x → DA K C G (.ref a) (.mac b p x)
  | exc {a : Addr} {dd : Option (Addr × V)} : (∀ d v, dd = some (d, v) → G d = some (.xd [(("index" : PySem.Str), v)])) → DA K C G (.ref a) (.exc a dd)
inductive DAs (K : PySem.W.Frag) (C : Addr) (G : Hp) : List V → List D → Prop
  | nil : DAs K C G [] []
  | cons {v : V} {vs : List V} {d : D} {ds : List D} : DA K C G v d → DAs K C G vs ds → DAs K C G (v :: vs) (d :: ds)
end

theorem sqT_mono {K : PySem.W.Frag} {G G' : Hp} {a : Addr} {xs : List V} (e : Same G G') (h : SqT K G a xs) : SqT K G' a xs := by
  rcases h with (h | ⟨o, h⟩) | h
  · exact Or.inl (Or.inl (e _ _ h))
  · exact Or.inl (Or.inr ⟨o, e _ _ h⟩)
  · exact Or.inr h
section
variable {K : PySem.W.Frag} {C : Addr} {G G' : Hp}
mutual
theorem DA.mono (e : Same G G') : ∀ {v : V} {d : D}, DA K C G v d → DA K C G' v d
  | _, _, .non => .non
  | _, _, .bl b => .bl b
  | _, _, .int i => .int i
  | _, _, .str x => .str x
  | _, _, .tup h r => .tup (sqT_mono e h) (DAs.mono e r)
  | _, _, .lst h r => .lst (e _ _ h) (DAs.mono e r)
  | _, _, .dct h => .dct (e _ _ h)
  | _, _, .adr a => .adr a
  | _, _, .scr h => .scr (Same.seq e h)
  | _, _, .mac h h1 h2 h3 => .mac (e _ _ h) (DA.mono e h1) (DA.mono e h2) (DA.mono e h3)
  | _, _, .exc h => .exc fun d v q => e _ _ (h d v q)
theorem DAs.mono (e : Same G G') : ∀ {vs : List V} {ds : List D}, DAs K C G vs ds → DAs K C G' vs ds
  | _, _, .nil => .nil
  | _, _, .cons h r => .cons (DA.mono e h) (DAs.mono e r)
end
theorem DAs.length : ∀ {vs : List V} {ds : List D}, DAs K C G vs ds → vs.length = ds.length
  | _, _, .nil => rfl
  | _, _, .cons _ r => congrArg Nat.succ (DAs.length r)
theorem DAs.get : ∀ {vs : List V} {ds : List D} {i : Nat} {d : D}, DAs K C G vs ds → ds[i]? = some d → ∃ v, vs[i]? = some v ∧ DA K C G v d
  | _, _, _, _, .nil, h => by simp at h
  | _, _, 0, _, .cons h r, e => by
    simp at e
    subst e
    exact ⟨_, rfl, h⟩
  | _, _, i + 1, d, .cons h r, e => by
    obtain ⟨v, h1, h2⟩ := DAs.get (i := i) (d := d) r (by simpa using e)
    exact ⟨v, by simpa using h1, h2⟩
theorem DAs.getV : ∀ {vs : List V} {ds : List D} {i : Nat} {v : V}, DAs K C G vs ds → vs[i]? = some v → ∃ d, ds[i]? = some d ∧ DA K C G v d
  | _, _, _, _, .nil, h => by simp at h
  | _, _, 0, _, .cons h r, e => by
    simp at e
    subst e
    exact ⟨_, rfl, h⟩
  | _, _, i + 1, d, .cons h r, e => by
    obtain ⟨v, h1, h2⟩ := DAs.getV (i := i) r (by simpa using e)
    exact ⟨v, by simpa using h1, h2⟩
theorem DAs.append : ∀ {vs ws : List V} {ds es : List D}, DAs K C G vs ds → DAs K C G ws es → DAs K C G (vs ++ ws) (ds ++ es)
  | _, _, _, _, .nil, s => s
  | _, _, _, _, .cons h r, s => .cons h (DAs.append r s)
theorem DAs.take : ∀ {vs : List V} {ds : List D} (n : Nat), DAs K C G vs ds → DAs K C G (vs.take n) (ds.take n)
  | _, _, 0, _ => .nil
  | _, _, _ + 1, .nil => .nil
  | _, _, n + 1, .cons h r => .cons h (DAs.take n r)
theorem DAs.drop : ∀ {vs : List V} {ds : List D} (n : Nat), DAs K C G vs ds → DAs K C G (vs.drop n) (ds.drop n)
  | _, _, 0, r => r
  | _, _, _ + 1, .nil => .nil
  | _, _, n + 1, .cons _ r => DAs.drop n r
theorem DAs.reverse {vs : List V} {ds : List D} (h : DAs K C G vs ds) : DAs K C G vs.reverse ds.reverse := by
  have key : ∀ {vs ws : List V} {ds es : List D}, DAs K C G vs ds → DAs K C G ws es → DAs K C G (vs.reverseAux ws) (ds.reverseAux es) := by
    intro vs
    induction vs with
    | nil => intro ws ds es h s; cases h; exact s
    | cons a r ih =>
      intro ws ds es h s
      cases h with
      | cons h1 h2 =>
        have q := ih h2 (.cons h1 s)
        exact q
  exact key h .nil
theorem DAs.set {v : V} {d : D} (h : DA K C G v d) : ∀ {vs : List V} {ds : List D} (i : Nat), DAs K C G vs ds → DAs K C G (vs.set i v) (ds.set i d)
  | _, _, _, .nil => .nil
  | _, _, 0, .cons _ r => .cons h r
  | _, _, i + 1, .cons q r => .cons q (DAs.set h i r)
theorem DAs.rep {vs : List V} {ds : List D} (h : DAs K C G vs ds) : ∀ n : Nat, DAs K C G (List.replicate n vs).flatten (List.replicate n ds).flatten
  | 0 => .nil
  | n + 1 => by
    rw [List.replicate_succ, List.replicate_succ, List.flatten_cons, List.flatten_cons]
    exact h.append (DAs.rep h n)
theorem DAs.ints (h : DAs K C G vs ds) : True := trivial
theorem DAs.ofInts : ∀ ns : List Int, DAs K C G (ns.map V.int) (ns.map D.int)
  | [] => .nil
  | n :: r => .cons (.int n) (DAs.ofInts r)
theorem DAs.bls : ∀ {vs : List V} {bs : List Bool}, DAs K C G vs (bs.map D.bl) → vs = bs.map V.bl
  | _, [], h => by cases h; rfl
  | _, b :: r, h => by
    cases h with
    | cons h1 h2 =>
      cases h1
      rw [DAs.bls h2]
      rfl
theorem DAs.strs : ∀ {vs : List V} {ss : List PySem.Str}, DAs K C G vs (ss.map D.str) → vs = ss.map V.str
  | _, [], h => by cases h; rfl
  | _, b :: r, h => by
    cases h with
    | cons h1 h2 =>
      cases h1
      rw [DAs.strs h2]
      rfl
theorem DA.int_inv {v : V} {i : Int} (h : DA K C G v (.int i)) : v = .int i := by cases h; rfl
theorem DA.bl_inv {v : V} {b : Bool} (h : DA K C G v (.bl b)) : v = .bl b := by cases h; rfl
theorem DA.str_inv {v : V} {s : PySem.Str} (h : DA K C G v (.str s)) : v = .str s := by cases h; rfl
theorem DA.non_inv {v : V} (h : DA K C G v .non) : v = .non := by cases h; rfl
theorem DA.adr_inv {v : V} {a : Addr} (h : DA K C G v (.adr a)) : v = .ref a := by cases h; rfl
theorem DA.tup_inv {v : V} {ds : List D} (h : DA K C G v (.tup ds)) : ∃ a xs, v = .ref a ∧ SqT K G a xs ∧ DAs K C G xs ds := by
  cases h with
  | tup h1 h2 => exact ⟨_, _, rfl, h1, h2⟩
theorem DA.lst_inv {v : V} {ds : List D} (h : DA K C G v (.lst ds)) : ∃ a xs, v = .ref a ∧ G a = some (.lst xs) ∧ DAs K C G xs ds := by
  cases h with
  | lst h1 h2 => exact ⟨_, _, rfl, h1, h2⟩
end

/-! ### states -/
/-- what a state's mutable part is: the cup's address, a local list that is written -/
structure Pm where
  K : PySem.W.Frag
  C : Addr
  c : Option Addr
  m : Option (Addr × List D)

/-- a slot's data, where they are told -/
abbrev Sl := List (Option D)
structure SD (K : PySem.W.Frag) (C : Addr) (G : Hp) (σ : L2.St) (δ : Sl) : Prop where
  len : σ.length = δ.length
  at_ : ∀ (i : Nat) (d : D), δ[i]? = some (some d) → ∃ v, σ[i]? = some (some v) ∧ DA K C G v d
section
variable {K : PySem.W.Frag} {C : Addr} {G G' : Hp} {σ : L2.St} {δ : Sl}
theorem SD.mono (e : Same G G') (s : SD K C G σ δ) : SD K C G' σ δ := ⟨s.len, fun i d h => let ⟨v, h1, h2⟩ := s.at_ i d h; ⟨v, h1, h2.mono e⟩⟩
theorem SD.set {v : V} {d : D} (i : Nat) (s : SD K C G σ δ) (h : DA K C G v d) : SD K C G (σ.set i (some v)) (δ.set i (some d)) := by
  refine ⟨by rw [List.length_set, List.length_set, s.len], fun j e hj => ?_⟩
  by_cases hij : i = j
  · subst hij
    by_cases hl : i < δ.length
    · rw [List.getElem?_set_self hl] at hj
      have hd : d = e := Option.some.inj (Option.some.inj hj)
      subst hd
      exact ⟨v, List.getElem?_set_self (by rw [s.len]; exact hl), h⟩
    · rw [List.getElem?_eq_none (by rw [List.length_set]; omega)] at hj
      cases hj
  · rw [List.getElem?_set_ne hij] at hj
    rw [List.getElem?_set_ne hij]
    exact s.at_ j e hj
/-- a slot is forgotten -/
theorem SD.drop {ov : Option V} (i : Nat) (s : SD K C G σ δ) : SD K C G (σ.set i ov) (δ.set i none) := by
  refine ⟨by rw [List.length_set, List.length_set, s.len], fun j e hj => ?_⟩
  by_cases hij : i = j
  · subst hij
    by_cases hl : i < δ.length
    · rw [List.getElem?_set_self hl] at hj
      cases hj
    · rw [List.getElem?_eq_none (by rw [List.length_set]; omega)] at hj
      cases hj
  · rw [List.getElem?_set_ne hij] at hj
    rw [List.getElem?_set_ne hij]
    exact s.at_ j e hj
/-- fewer slots told -/
theorem SD.less {δ' : Sl} (s : SD K C G σ δ) (hl : δ'.length = δ.length) (h : ∀ (i : Nat) (d : D), δ'[i]? = some (some d) → δ[i]? = some (some d)) : SD K C G σ δ' :=
  ⟨by rw [hl]; exact s.len, fun i d hd => s.at_ i d (h i d hd)⟩
def wipeD (δ : Sl) : List Nat → Sl
  | [] => δ
  | i :: r => (wipeD δ r).set i none
theorem SD.wipe (s : SD K C G σ δ) : ∀ vs : List Nat, SD K C G (L2.wipe σ vs) (wipeD δ vs)
  | [] => s
  | i :: r => (SD.wipe s r).drop i
end

/-- the cup: three ints -/
def CupAt (H : Hp) (c : Addr) : Prop := ∃ a b n : Int, H c = some (.lst [.int a, .int b, .int n]) ∧ 0 ≤ a ∧ 0 ≤ b ∧ b < 2147482951 ∧ 0 ≤ n
def RC (c : Option Addr) (G H : Hp) : Prop := ∀ a, c = some a → G a = none ∧ CupAt H a
def RM (p : Pm) (G H : Hp) : Prop := ∀ l ds, p.m = some (l, ds) → p.c ≠ some l ∧ G l = none ∧ ∃ xs, H l = some (.lst xs) ∧ DAs p.K p.C G xs ds
/-- a step: what is told is told still, what is new was free, all but the cup stands -/
structure Stp (c : Option Addr) (G H G' H' : Hp) : Prop where
  gg : Same G G'
  fr : ∀ a o, G' a = some o → G a = none → H a = none
  sub : Same G' H'
  keep : ∀ a o, c ≠ some a → H a = some o → H' a = some o
section
variable {c : Option Addr} {G H G' H' G2 H2 : Hp} {p : Pm}
theorem Stp.refl (s : Same G H) : Stp c G H G H := ⟨Same.refl G, fun a o h1 h2 => (by rw [h2] at h1; cases h1), s, fun _ _ _ h => h⟩
theorem Stp.freeC {a : Addr} (s : Stp c G H G' H') (h : H' a = none) (hc : c ≠ some a) : H a = none := by
  cases q : H a with
  | none => rfl
  | some o =>
    rw [s.keep a o hc q] at h
    cases h
theorem Stp.free {a : Addr} (s : Stp c G H G' H') (hr : RC c G H) (hr' : RC c G' H') (h : H' a = none) : H a = none := by
  by_cases hc : c = some a
  · obtain ⟨_, x, y, z, e, _⟩ := hr' a hc
    rw [h] at e
    cases e
  · exact s.freeC h hc
theorem Stp.trans (hr : RC c G H) (hr' : RC c G' H') (s : Stp c G H G' H') (t : Stp c G' H' G2 H2) : Stp c G H G2 H2 where
  gg := s.gg.trans t.gg
  fr := fun a o h1 h2 => by
    cases q : G' a with
    | none => exact s.free hr hr' (t.fr a o h1 q)
    | some o' => exact s.fr a o' q h2
  sub := t.sub
  keep := fun a o hc h => t.keep a o hc (s.keep a o hc h)
/-- a pure step under a cup -/
theorem Stp.up (hr : RC c G H) (s : Stp none G H G' H') : Stp c G H G' H' ∧ RC c G' H' := by
  refine ⟨⟨s.gg, s.fr, s.sub, fun a o _ h => s.keep a o (by simp) h⟩, fun a ha => ?_⟩
  obtain ⟨g, x, y, z, e, r⟩ := hr a ha
  refine ⟨?_, x, y, z, s.keep a _ (by simp) e, r⟩
  cases q : G' a with
  | none => rfl
  | some o =>
    have := s.fr a o q g
    rw [e] at this
    cases this
theorem RM.stp (hm : RM p G H) (s : Stp p.c G H G' H') : RM p G' H' := fun l ds e => by
  obtain ⟨hc, g, xs, h, r⟩ := hm l ds e
  refine ⟨hc, ?_, xs, s.keep l _ hc h, r.mono s.gg⟩
  cases q : G' l with
  | none => rfl
  | some o =>
    have := s.fr l o q g
    rw [h] at this
    cases this
/-- a new object that is told -/
theorem Stp.new {a : Addr} {o : HO} (s : Same G H) (h : H a = none) : Stp none G H (upd G a o) (upd H a o) := by
  have hg : G a = none := by
    cases q : G a with
    | none => rfl
    | some u =>
      rw [s a u q] at h
      cases h
  refine ⟨fun b u e => ?_, fun b u e1 e2 => ?_, fun b u e => ?_, fun b u _ e => ?_⟩
  · rw [upd_ne (ne_of_none e hg)]
    exact e
  · by_cases hb : b = a
    · rw [hb]
      exact h
    · rw [upd_ne hb, e2] at e1
      cases e1
  · by_cases hb : b = a
    · subst hb
      rw [upd_same] at e ⊢
      exact e
    · rw [upd_ne hb] at e ⊢
      exact s b u e
  · rw [upd_ne (ne_of_none e h)]
    exact e
/-- a new object that is not told -/
theorem Stp.hid {a : Addr} {o : HO} (s : Same G H) (h : H a = none) : Stp none G H G (upd H a o) := by
  refine ⟨Same.refl G, fun b u e1 e2 => (by rw [e2] at e1; cases e1), fun b u e => ?_, fun b u _ e => ?_⟩
  · rw [upd_ne (ne_of_none (s b u e) h)]
    exact s b u e
  · rw [upd_ne (ne_of_none e h)]
    exact e
end

/-! ### what a reading gives, in data -/
section
variable (p : Pm)
/-- an expression; P: what its value's data are -/
def En (te : TE) (δ : Sl) (P : D → Prop) : Prop := ∀ (σ : L2.St) (G H : Hp), Same G H → SD p.K p.C G σ δ → RC p.c G H → RM p G H →
  ∀ Q : VK, (∀ v d G' H', Stp p.c G H G' H' → RC p.c G' H' → DA p.K p.C G' v d → P d → Q v H') → te σ H Q
def Tn (tt : TT) (δ : Sl) (P : Bool → Prop) : Prop := ∀ (σ : L2.St) (G H : Hp), Same G H → SD p.K p.C G σ δ → RC p.c G H → RM p G H →
  ∀ Q : Bool → Hp → Prop, (∀ b G' H', Stp p.c G H G' H' → RC p.c G' H' → P b → Q b H') → tt σ H Q
def An (ta : TA) (δ : Sl) (P : List D → Prop) : Prop := ∀ (σ : L2.St) (G H : Hp), Same G H → SD p.K p.C G σ δ → RC p.c G H → RM p G H →
  ∀ Q : List V → Hp → Prop, (∀ vs ds G' H', Stp p.c G H G' H' → RC p.c G' H' → DAs p.K p.C G' vs ds → P ds → Q vs H') → ta σ H Q
def On (to : TO) (δ : Sl) (P : Option Int → Prop) : Prop := ∀ (σ : L2.St) (G H : Hp), Same G H → SD p.K p.C G σ δ → RC p.c G H → RM p G H →
  ∀ Q : Option Int → Hp → Prop, (∀ o G' H', Stp p.c G H G' H' → RC p.c G' H' → P o → Q o H') → to σ H Q
/-- a two-place operation, a call, a method upon data -/
def Rop (r : R2) (x y : D) (P : D → Prop) : Prop := ∀ (G H : Hp) (v w : V), Same G H → RC p.c G H → RM p G H → DA p.K p.C G v x → DA p.K p.C G w y →
  ∀ Q : VK, (∀ z d G' H', Stp p.c G H G' H' → RC p.c G' H' → DA p.K p.C G' z d → P d → Q z H') → r v w H Q
def Rca (r : List V → Hp → VK → Prop) (xs : List D) (P : D → Prop) : Prop := ∀ (G H : Hp) (vs : List V), Same G H → RC p.c G H → RM p G H → DAs p.K p.C G vs xs →
  ∀ Q : VK, (∀ z d G' H', Stp p.c G H G' H' → RC p.c G' H' → DA p.K p.C G' z d → P d → Q z H') → r vs H Q
abbrev Ed (te : TE) (δ : Sl) (d : D) : Prop := En p te δ (· = d)
abbrev Td (tt : TT) (δ : Sl) (b : Bool) : Prop := Tn p tt δ (· = b)
abbrev Ad (ta : TA) (δ : Sl) (ds : List D) : Prop := An p ta δ (· = ds)
abbrev Od (to : TO) (δ : Sl) (o : Option Int) : Prop := On p to δ (· = o)
end

section
variable {p : Pm} {δ : Sl} {ta tb tc te : TE} {t u : TT} {x y z d : D} {A B P : D → Prop} {r : R2}
theorem En.imp {P' : D → Prop} (h : En p te δ P) (q : ∀ d, P d → P' d) : En p te δ P' := fun σ G H s sd rc rm Q k => h σ G H s sd rc rm Q fun v d G' H' st rc' da pd => k v d G' H' st rc' da (q d pd)
theorem Tn.imp {P P' : Bool → Prop} (h : Tn p t δ P) (q : ∀ d, P d → P' d) : Tn p t δ P' := fun σ G H s sd rc rm Q k => h σ G H s sd rc rm Q fun b G' H' st rc' pd => k b G' H' st rc' (q b pd)
theorem An.imp {a : TA} {P P' : List D → Prop} (h : An p a δ P) (q : ∀ d, P d → P' d) : An p a δ P' := fun σ G H s sd rc rm Q k => h σ G H s sd rc rm Q fun b ds G' H' st rc' da pd => k b ds G' H' st rc' da (q ds pd)
theorem Rop.imp {P' : D → Prop} (h : Rop p r x y P) (q : ∀ d, P d → P' d) : Rop p r x y P' := fun G H v w s rc rm h1 h2 Q k => h G H v w s rc rm h1 h2 Q fun z d G' H' st rc' da pd => k z d G' H' st rc' da (q d pd)
theorem Ed.to {d' : D} (h : Ed p te δ d) (e : d = d') : Ed p te δ d' := e ▸ h
theorem Td.to {b b' : Bool} (h : Td p t δ b) (e : b = b') : Td p t δ b' := e ▸ h
theorem En.of (h : Ed p te δ d) (q : P d) : En p te δ P := h.imp fun _ e => e ▸ q
/-- a value that is there, nothing made -/
theorem en_val (h : ∀ σ G H, Same G H → SD p.K p.C G σ δ → RC p.c G H → RM p G H → ∃ v d, DA p.K p.C G v d ∧ P d ∧ ∀ Q : VK, Q v H → te σ H Q) : En p te δ P := fun σ G H s sd rc rm Q k => by
  obtain ⟨v, d, da, pd, q⟩ := h σ G H s sd rc rm
  exact q Q (k v d G H (Stp.refl s) rc da pd)
theorem ed_var {i : Nat} (h : δ[i]? = some (some d)) : Ed p (tVar i) δ d := en_val fun σ G H s sd rc rm => by
  obtain ⟨v, hv, da⟩ := sd.at_ i d h
  exact ⟨v, d, da, rfl, fun Q q => ⟨v, hv, q⟩⟩
theorem ed_int {i : Int} : Ed p (tC (.int i)) δ (.int i) := en_val fun _ _ _ _ _ _ _ => ⟨_, _, .int i, rfl, fun _ q => q⟩
theorem ed_bl {b : Bool} : Ed p (tC (.bl b)) δ (.bl b) := en_val fun _ _ _ _ _ _ _ => ⟨_, _, .bl b, rfl, fun _ q => q⟩
theorem ed_str {s : PySem.Str} : Ed p (tC (.str s)) δ (.str s) := en_val fun _ _ _ _ _ _ _ => ⟨_, _, .str s, rfl, fun _ q => q⟩
theorem ed_non : Ed p (tC .non) δ .non := en_val fun _ _ _ _ _ _ _ => ⟨_, _, .non, rfl, fun _ q => q⟩
theorem ed_adr {a : Addr} : Ed p (tC (.ref a)) δ (.adr a) := en_val fun _ _ _ _ _ _ _ => ⟨_, _, .adr a, rfl, fun _ q => q⟩

/-! ### operations -/
theorem en_op {B : D → D → Prop} (ha : En p ta δ A) (hb : ∀ x, A x → En p tb δ (B x)) (hr : ∀ x y, A x → B x y → Rop p r x y P) : En p (tOp r ta tb) δ P := fun σ G H s sd rc rm Q k =>
  ha σ G H s sd rc rm _ fun v x G1 H1 st1 rc1 dx ax => hb x ax σ G1 H1 st1.sub (sd.mono st1.gg) rc1 (rm.stp st1) _ fun w y G2 H2 st2 rc2 dy byy =>
    hr x y ax byy G2 H2 v w st2.sub rc2 ((rm.stp st1).stp st2) (dx.mono st2.gg) dy Q fun z d G3 H3 st3 rc3 dz pd =>
      k z d G3 H3 ((st1.trans rc rc1 st2).trans rc rc2 st3) rc3 dz pd
theorem ed_op (ha : Ed p ta δ x) (hb : Ed p tb δ y) (hr : Rop p r x y P) : En p (tOp r ta tb) δ P :=
  en_op (B := fun _ => (· = y)) ha (fun _ _ => hb) fun _ _ e1 e2 => by subst e1; subst e2; exact hr
theorem en_un {r : V → Hp → VK → Prop} (ha : En p ta δ A) (hr : ∀ x, A x → ∀ (G H : Hp) (v : V), Same G H → RC p.c G H → RM p G H → DA p.K p.C G v x → ∀ Q : VK, (∀ z d, DA p.K p.C G z d → P d → Q z H) → r v H Q) : En p (tUn r ta) δ P := fun σ G H s sd rc rm Q k =>
  ha σ G H s sd rc rm _ fun v x G1 H1 st1 rc1 dx ax => hr x ax G1 H1 v st1.sub rc1 (rm.stp st1) dx Q fun z d dz pd => k z d G1 H1 st1 rc1 dz pd
theorem rop_val (h : ∀ (G H : Hp) (v w : V), Same G H → RM p G H → DA p.K p.C G v x → DA p.K p.C G w y → ∃ z, DA p.K p.C G z d ∧ ∀ Q : VK, Q z H → r v w H Q) : Rop p r x y (· = d) := fun G H v w s rc rm dx dy Q k => by
  obtain ⟨z, dz, q⟩ := h G H v w s rm dx dy
  exact q Q (k z d G H (Stp.refl s) rc dz rfl)
/-- a new object that is told -/
theorem rop_new (h : ∀ (G H : Hp) (v w : V), Same G H → RM p G H → DA p.K p.C G v x → DA p.K p.C G w y → ∃ o : HO, (∀ a, G a = none → DA p.K p.C (upd G a o) (.ref a) d) ∧ ∀ Q : VK, (∀ a, H a = none → Q (.ref a) (upd H a o)) → r v w H Q) : Rop p r x y (· = d) := fun G H v w s rc rm dx dy Q k => by
  obtain ⟨o, dz, q⟩ := h G H v w s rm dx dy
  refine q Q fun a ha => ?_
  obtain ⟨s1, r1⟩ := (Stp.new (o := o) s ha).up rc
  have hg : G a = none := by
    cases q : G a with
    | none => rfl
    | some u =>
      rw [s a u q] at ha
      cases ha
  exact k _ d _ _ s1 r1 (dz a hg) rfl
theorem rop_I {C : Int → Int → Prop} {g : Int → Int → Int} {i j : Int} (hc : C i j) : Rop p (rI C fun i j => .int (g i j)) (.int i) (.int j) (· = .int (g i j)) := rop_val fun G H v w s rm dx dy => by
  cases dx
  cases dy
  exact ⟨_, .int _, fun Q q => ⟨i, j, rfl, rfl, hc, q⟩⟩
theorem rop_I0 {g : Int → Int → Int} {i j : Int} : Rop p (rI0 fun i j => .int (g i j)) (.int i) (.int j) (· = .int (g i j)) := rop_val fun G H v w s rm dx dy => by
  cases dx
  cases dy
  exact ⟨_, .int _, fun Q q => ⟨i, j, rfl, rfl, q⟩⟩
theorem rop_B0 {g : Int → Int → Bool} {i j : Int} : Rop p (rI0 fun i j => .bl (g i j)) (.int i) (.int j) (· = .bl (g i j)) := rop_val fun G H v w s rm dx dy => by
  cases dx
  cases dy
  exact ⟨_, .bl _, fun Q q => ⟨i, j, rfl, rfl, q⟩⟩
theorem rop_eqI {i j : Int} : Rop p rEq (.int i) (.int j) (· = .bl (decide (i = j))) := rop_val fun G H v w s rm dx dy => by
  cases dx
  cases dy
  refine ⟨_, .bl _, fun Q q => ⟨rfl, ?_⟩⟩
  have e : decide (V.int i = V.int j) = decide (i = j) := by
    by_cases h : i = j
    · subst h; simp
    · simp [h]
  rw [e]
  exact q
theorem rop_neI {i j : Int} : Rop p rNe (.int i) (.int j) (· = .bl (!decide (i = j))) := rop_val fun G H v w s rm dx dy => by
  cases dx
  cases dy
  refine ⟨_, .bl _, fun Q q => ⟨rfl, ?_⟩⟩
  have e : decide (V.int i = V.int j) = decide (i = j) := by
    by_cases h : i = j
    · subst h; simp
    · simp [h]
  rw [e]
  exact q
theorem rop_eqS {i j : PySem.Str} : Rop p rEq (.str i) (.str j) (· = .bl (decide (i = j))) := rop_val fun G H v w s rm dx dy => by
  cases dx
  cases dy
  refine ⟨_, .bl _, fun Q q => ⟨rfl, ?_⟩⟩
  have e : decide (V.str i = V.str j) = decide (i = j) := by
    by_cases h : i = j
    · subst h; simp
    · simp [h]
  rw [e]
  exact q
theorem same_none {G H : Hp} {a : Addr} (s : Same G H) (h : H a = none) : G a = none := by
  cases q : G a with
  | none => rfl
  | some u =>
    rw [s a u q] at h
    cases h
theorem same_sqT {G H : Hp} {a : Addr} {xs : List V} (s : Same G H) (h : SqT p.K G a xs) : SqT p.K H a xs := sqT_mono s h
/-- an item of a tuple, of a list, of the list that is written -/
theorem rop_ixT {ds : List D} {i : Int} (h : atI ds i = some d) : Rop p (rIxT p.K) (.tup ds) (.int i) (· = d) := rop_val fun G H v w s rm dx dy => by
  obtain ⟨a, xs, rfl, h1, h2⟩ := dx.tup_inv
  cases dy
  have hl := h2.length
  obtain ⟨j, hj, e⟩ := Option.bind_eq_some_iff.mp (show (ixN ds.length i).bind (fun j => ds[j]?) = some d from h)
  obtain ⟨z, hz, dz⟩ := h2.get e
  refine ⟨z, dz, fun Q q => ⟨a, xs, i, z, rfl, rfl, sqT_mono s h1, ?_, q⟩⟩
  show (ixN xs.length i).bind (fun j => xs[j]?) = some z
  rw [hl, hj]
  exact hz
theorem rop_ixL {ds : List D} {i : Int} (h : atI ds i = some d) : Rop p (rIxL p.K) (.lst ds) (.int i) (· = d) := rop_val fun G H v w s rm dx dy => by
  obtain ⟨a, xs, rfl, h1, h2⟩ := dx.lst_inv
  cases dy
  have hl := h2.length
  obtain ⟨j, hj, e⟩ := Option.bind_eq_some_iff.mp (show (ixN ds.length i).bind (fun j => ds[j]?) = some d from h)
  obtain ⟨z, hz, dz⟩ := h2.get e
  refine ⟨z, dz, fun Q q => ⟨a, xs, i, z, rfl, rfl, SqL.of (s _ _ h1), ?_, q⟩⟩
  show (ixN xs.length i).bind (fun j => xs[j]?) = some z
  rw [hl, hj]
  exact hz
theorem rop_ixM {l : Addr} {ds : List D} {i : Int} (hm : p.m = some (l, ds)) (h : atI ds i = some d) : Rop p (rIxL p.K) (.adr l) (.int i) (· = d) := rop_val fun G H v w s rm dx dy => by
  cases dx
  cases dy
  obtain ⟨_, _, xs, h1, h2⟩ := rm l ds hm
  have hl := h2.length
  obtain ⟨j, hj, e⟩ := Option.bind_eq_some_iff.mp (show (ixN ds.length i).bind (fun j => ds[j]?) = some d from h)
  obtain ⟨z, hz, dz⟩ := h2.get e
  refine ⟨z, dz, fun Q q => ⟨l, xs, i, z, rfl, rfl, SqL.of h1, ?_, q⟩⟩
  show (ixN xs.length i).bind (fun j => xs[j]?) = some z
  rw [hl, hj]
  exact hz
theorem rop_ixR {ns : List Int} {i : Int} {k : Int} (h : atI ns i = some k) : Rop p (rIxL p.K) (.scr ns) (.int i) (· = .int k) := rop_val fun G H v w s rm dx dy => by
  cases dy
  cases dx with
  | scr h1 =>
    refine ⟨.int k, .int k, fun Q q => ⟨_, _, i, .int k, rfl, rfl, Same.seq s h1, ?_, q⟩⟩
    obtain ⟨j, hj, e⟩ := Option.bind_eq_some_iff.mp (show (ixN ns.length i).bind (fun j => ns[j]?) = some k from h)
    show (ixN (ns.map V.int).length i).bind (fun j => (ns.map V.int)[j]?) = some (V.int k)
    rw [List.length_map, hj]
    show (ns.map V.int)[j]? = some (V.int k)
    rw [List.getElem?_map, e]
    rfl
/-- sums -/
theorem rop_catT {xs ys : List D} (hz : xs.length + ys.length ≤ 100000) : Rop p (rCatA p.K) (.tup xs) (.tup ys) (· = .tup (xs ++ ys)) := fun G H v w s rc rm dx dy Q k => by
  obtain ⟨a, us, rfl, h1, h2⟩ := dx.tup_inv
  obtain ⟨b, ws, rfl, h3, h4⟩ := dy.tup_inv
  have l1 := h2.length
  have l2 := h4.length
  refine ⟨a, b, us, ws, rfl, rfl, sqT_mono s h1, sqT_mono s h3, ?_, fun e => ?_, fun e1 e2 => ?_, fun e1 e2 q hq => ?_⟩
  · rw [l1, l2]
    exact Nat.le_trans hz (by decide)
  · refine k _ _ G H (Stp.refl s) rc dy ?_
    have : xs = [] := List.eq_nil_of_length_eq_zero (by rw [← l1, e]; rfl)
    rw [this]
    rfl
  · refine k _ _ G H (Stp.refl s) rc dx ?_
    have : ys = [] := List.eq_nil_of_length_eq_zero (by rw [← l2, e2]; rfl)
    rw [this, List.append_nil]
  · obtain ⟨s1, r1⟩ := (Stp.new (o := .tup (us ++ ws)) s hq).up rc
    exact k _ _ _ _ s1 r1 (.tup (SqT.of upd_same) ((h2.append h4).mono s1.gg)) rfl
theorem rop_catL {xs ys : List D} (hz : xs.length + ys.length ≤ 100000) : Rop p rCat (.lst xs) (.lst ys) (· = .lst (xs ++ ys)) := fun G H v w s rc rm dx dy Q k => by
  obtain ⟨a, us, rfl, h1, h2⟩ := dx.lst_inv
  obtain ⟨b, ws, rfl, h3, h4⟩ := dy.lst_inv
  have l1 := h2.length
  have l2 := h4.length
  refine ⟨a, b, us, ws, rfl, rfl, s _ _ h1, s _ _ h3, ?_, fun q hq => ?_⟩
  · rw [l1, l2]
    exact Nat.le_trans hz (by decide)
  · obtain ⟨s1, r1⟩ := (Stp.new (o := .lst (us ++ ws)) s hq).up rc
    exact k _ _ _ _ s1 r1 (.lst upd_same ((h2.append h4).mono s1.gg)) rfl
theorem rop_repL {xs : List D} {n : Int} (h0 : 0 ≤ n) (hz : n ≤ 1000) (hl : xs.length ≤ 50) : Rop p rRep (.lst xs) (.int n) (· = .lst (List.replicate n.toNat xs).flatten) := fun G H v w s rc rm dx dy Q k => by
  obtain ⟨a, us, rfl, h1, h2⟩ := dx.lst_inv
  cases dy
  have l1 := h2.length
  have hm : us.length * n.toNat ≤ 50 * 1000 := Nat.mul_le_mul (by omega) (by omega)
  refine ⟨a, n, us, rfl, rfl, s _ _ h1, by omega, by omega, Nat.le_trans hm (by decide), fun q hq => ?_⟩
  obtain ⟨s1, r1⟩ := (Stp.new (o := .lst (List.replicate n.toNat us).flatten) s hq).up rc
  exact k _ _ _ _ s1 r1 (.lst upd_same ((h2.rep _).mono s1.gg)) rfl
theorem rop_addS {i j : PySem.Str} (hz : i.length + j.length ≤ 1000000) : Rop p (fun x y H Q => ∃ i j, x = .str i ∧ y = .str j ∧ i.length + j.length ≤ sizeLine ∧ Q (.str (i ++ j)) H) (.str i) (.str j) (· = .str (i ++ j)) := rop_val fun G H v w s rm dx dy => by
  cases dx
  cases dy
  exact ⟨_, .str _, fun Q q => ⟨i, j, rfl, rfl, Nat.le_trans hz (by decide), q⟩⟩

/-! ### tests -/
theorem tn_test (h : En p te δ P) {R : Bool → Prop} (q : ∀ d, P d → ∃ b, d = .bl b ∧ R b) : Tn p (tTest te) δ R := fun σ G H s sd rc rm Q k => h σ G H s sd rc rm _ fun v d G1 H1 st rc1 da pd => by
  obtain ⟨b, e, rb⟩ := q d pd
  subst e
  cases da
  exact ⟨b, rfl, k b G1 H1 st rc1 rb⟩
theorem td_test {b : Bool} (h : Ed p te δ (.bl b)) : Td p (tTest te) δ b := tn_test h fun d e => ⟨b, e, rfl⟩
theorem td_B {b : Bool} (h : Ed p te δ (.bl b)) : Td p (tB te) δ b := fun σ G H s sd rc rm Q k => h σ G H s sd rc rm _ fun v d G1 H1 st rc1 da pd => by
  subst pd
  cases da
  exact ⟨b, rfl, k b G1 H1 st rc1 rfl⟩
theorem td_not {b : Bool} (h : Td p t δ b) : Td p (tNot t) δ (!b) := fun σ G H s sd rc rm Q k => h σ G H s sd rc rm _ fun c G1 H1 st rc1 e => k _ G1 H1 st rc1 (by rw [e])
theorem td_and {a b : Bool} (h1 : Td p t δ a) (h2 : a = true → Td p u δ b) : Td p (tAnd t u) δ (a && b) := fun σ G H s sd rc rm Q k => h1 σ G H s sd rc rm _ fun c G1 H1 st rc1 e => by
  subst e
  cases c with
  | true =>
    show u σ H1 Q
    exact h2 rfl σ G1 H1 st.sub (sd.mono st.gg) rc1 (rm.stp st) Q fun c2 G2 H2 st2 rc2 e2 => k _ G2 H2 (st.trans rc rc1 st2) rc2 e2
  | false =>
    show Q false H1
    exact k _ G1 H1 st rc1 rfl
theorem td_or {a b : Bool} (h1 : Td p t δ a) (h2 : a = false → Td p u δ b) : Td p (tOr t u) δ (a || b) := fun σ G H s sd rc rm Q k => h1 σ G H s sd rc rm _ fun c G1 H1 st rc1 e => by
  subst e
  cases c with
  | false =>
    show u σ H1 Q
    exact h2 rfl σ G1 H1 st.sub (sd.mono st.gg) rc1 (rm.stp st) Q fun c2 G2 H2 st2 rc2 e2 => k _ G2 H2 (st.trans rc rc1 st2) rc2 e2
  | true =>
    show Q true H1
    exact k _ G1 H1 st rc1 rfl
theorem ed_and {a b : Bool} (h1 : Ed p ta δ (.bl a)) (h2 : a = true → Ed p tb δ (.bl b)) : Ed p (tAndV ta tb) δ (.bl (a && b)) := fun σ G H s sd rc rm Q k => h1 σ G H s sd rc rm _ fun v d G1 H1 st rc1 da e => by
  subst e
  cases da
  refine ⟨a, rfl, ?_⟩
  cases a with
  | true =>
    show tb σ H1 Q
    exact h2 rfl σ G1 H1 st.sub (sd.mono st.gg) rc1 (rm.stp st) Q fun v2 d2 G2 H2 st2 rc2 da2 e2 => k v2 d2 G2 H2 (st.trans rc rc1 st2) rc2 da2 e2
  | false =>
    show Q (.bl false) H1
    exact k _ _ G1 H1 st rc1 (.bl false) rfl
theorem ed_or {a b : Bool} (h1 : Ed p ta δ (.bl a)) (h2 : a = false → Ed p tb δ (.bl b)) : Ed p (tOrV ta tb) δ (.bl (a || b)) := fun σ G H s sd rc rm Q k => h1 σ G H s sd rc rm _ fun v d G1 H1 st rc1 da e => by
  subst e
  cases da
  refine ⟨a, rfl, ?_⟩
  cases a with
  | false =>
    show tb σ H1 Q
    exact h2 rfl σ G1 H1 st.sub (sd.mono st.gg) rc1 (rm.stp st) Q fun v2 d2 G2 H2 st2 rc2 da2 e2 => k v2 d2 G2 H2 (st.trans rc rc1 st2) rc2 da2 e2
  | true =>
    show Q (.bl true) H1
    exact k _ _ G1 H1 st rc1 (.bl true) rfl
theorem ed_not {a : Bool} (h1 : Ed p ta δ (.bl a)) : Ed p (tNotV ta) δ (.bl (!a)) := fun σ G H s sd rc rm Q k => h1 σ G H s sd rc rm _ fun v d G1 H1 st rc1 da e => by
  subst e
  cases da
  exact ⟨a, rfl, k _ _ G1 H1 st rc1 (.bl _) rfl⟩
theorem en_if {T : Bool → Prop} (h : Tn p t δ T) (h1 : T true → En p ta δ P) (h2 : T false → En p tb δ P) : En p (tIf t ta tb) δ P := fun σ G H s sd rc rm Q k => h σ G H s sd rc rm _ fun b G1 H1 st rc1 e => by
  cases b with
  | true =>
    show ta σ H1 Q
    exact h1 e σ G1 H1 st.sub (sd.mono st.gg) rc1 (rm.stp st) Q fun v d G2 H2 st2 rc2 da pd => k v d G2 H2 (st.trans rc rc1 st2) rc2 da pd
  | false =>
    show tb σ H1 Q
    exact h2 e σ G1 H1 st.sub (sd.mono st.gg) rc1 (rm.stp st) Q fun v d G2 H2 st2 rc2 da pd => k v d G2 H2 (st.trans rc rc1 st2) rc2 da pd
/-- a < b <= c -/
theorem ed_chain {r r' : R2} {a b : Bool} {w : D} (ha : Ed p ta δ x) (hb : Ed p tb δ y) (hr : Rop p r x y (· = .bl a)) (hc : a = true → Ed p tc δ w) (hr2 : a = true → Rop p r' y w (· = .bl b)) : Ed p (tChain r r' ta tb tc) δ (.bl (a && b)) := fun σ G H s sd rc rm Q k =>
  ha σ G H s sd rc rm _ fun v x' G1 H1 st1 rc1 dx ex => hb σ G1 H1 st1.sub (sd.mono st1.gg) rc1 (rm.stp st1) _ fun w' y' G2 H2 st2 rc2 dy ey => by
    subst ex ey
    have s2 := st1.trans rc rc1 st2
    refine hr G2 H2 v w' st2.sub rc2 (rm.stp s2) (dx.mono st2.gg) dy _ fun z d G3 H3 st3 rc3 dz ez => ?_
    subst ez
    cases dz
    have s3 := s2.trans rc rc2 st3
    refine ⟨a, rfl, ?_⟩
    cases a with
    | false =>
      show Q (.bl false) H3
      exact k _ _ G3 H3 s3 rc3 (.bl false) rfl
    | true =>
      show tc σ H3 fun w2 H4 => r' w' w2 H4 Q
      refine hc rfl σ G3 H3 st3.sub (sd.mono s3.gg) rc3 (rm.stp s3) _ fun w2 d2 G4 H4 st4 rc4 dw ew => ?_
      subst ew
      have s4 := s3.trans rc rc3 st4
      exact hr2 rfl G4 H4 w' w2 st4.sub rc4 (rm.stp s4) ((dy.mono st3.gg).mono st4.gg) dw Q fun z d G5 H5 st5 rc5 dz ez => k z d G5 H5 (s4.trans rc rc4 st5) rc5 dz ez

/-! ### lists of values -/
variable {ra rb : TA}
theorem ad_nil : Ad p tNil δ [] := fun σ G H s sd rc rm Q k => k [] [] G H (Stp.refl s) rc .nil rfl
theorem an_cons {R R' : List D → Prop} (h : En p te δ P) (hr : ∀ d, P d → An p ra δ R) (q : ∀ d ds, P d → R ds → R' (d :: ds)) : An p (tCons te ra) δ R' := fun σ G H s sd rc rm Q k =>
  h σ G H s sd rc rm _ fun v d G1 H1 st1 rc1 dv pd => hr d pd σ G1 H1 st1.sub (sd.mono st1.gg) rc1 (rm.stp st1) _ fun vs ds G2 H2 st2 rc2 dvs rds =>
    k (v :: vs) (d :: ds) G2 H2 (st1.trans rc rc1 st2) rc2 (.cons (dv.mono st2.gg) dvs) (q d ds pd rds)
theorem ad_cons {ds : List D} (h : Ed p te δ d) (hr : Ad p ra δ ds) : Ad p (tCons te ra) δ (d :: ds) := an_cons h (fun _ _ => hr) fun _ _ e1 e2 => by rw [e1, e2]
theorem ad_star {xs ys : List D} (h : Ed p te δ (.tup xs)) (hr : Ad p ra δ ys) : Ad p (tStar p.K te ra) δ (xs ++ ys) := fun σ G H s sd rc rm Q k =>
  h σ G H s sd rc rm _ fun v d G1 H1 st1 rc1 dv pd => by
    subst pd
    obtain ⟨a, us, rfl, h1, h2⟩ := dv.tup_inv
    refine ⟨a, us, rfl, Or.inl (sqT_mono st1.sub h1), ?_⟩
    exact hr σ G1 H1 st1.sub (sd.mono st1.gg) rc1 (rm.stp st1) _ fun vs ds G2 H2 st2 rc2 dvs rds => k _ _ G2 H2 (st1.trans rc rc1 st2) rc2 ((h2.mono st2.gg).append dvs) (by rw [rds])
theorem en_tup {R : List D → Prop} (h : An p ra δ R) (hz : ∀ ds, R ds → ds.length ≤ 100000) (q : ∀ ds, R ds → P (.tup ds)) : En p (tTup ra) δ P := fun σ G H s sd rc rm Q k =>
  h σ G H s sd rc rm _ fun vs ds G1 H1 st1 rc1 dv pd => by
    refine ⟨by rw [dv.length]; exact Nat.le_trans (hz ds pd) (by decide), fun a ha => ?_⟩
    obtain ⟨s1, r1⟩ := (Stp.new (o := .tup vs) st1.sub ha).up rc1
    exact k _ _ _ _ (st1.trans rc rc1 s1) r1 (.tup (SqT.of upd_same) (dv.mono s1.gg)) (q ds pd)
theorem ed_tup {ds : List D} (h : Ad p ra δ ds) (hz : ds.length ≤ 100000 := by simp) : Ed p (tTup ra) δ (.tup ds) := en_tup h (fun _ e => by rw [e]; exact hz) fun _ e => by rw [e]
theorem en_lst {R : List D → Prop} (h : An p ra δ R) (hz : ∀ ds, R ds → ds.length ≤ 100000) (q : ∀ ds, R ds → P (.lst ds)) : En p (tLst ra) δ P := fun σ G H s sd rc rm Q k =>
  h σ G H s sd rc rm _ fun vs ds G1 H1 st1 rc1 dv pd => by
    refine ⟨by rw [dv.length]; exact Nat.le_trans (hz ds pd) (by decide), fun a ha => ?_⟩
    obtain ⟨s1, r1⟩ := (Stp.new (o := .lst vs) st1.sub ha).up rc1
    exact k _ _ _ _ (st1.trans rc rc1 s1) r1 (.lst upd_same (dv.mono s1.gg)) (q ds pd)
theorem ed_lst {ds : List D} (h : Ad p ra δ ds) (hz : ds.length ≤ 100000 := by simp) : Ed p (tLst ra) δ (.lst ds) := en_lst h (fun _ e => by rw [e]; exact hz) fun _ e => by rw [e]
theorem en_cb {r : List V → Hp → VK → Prop} {R : List D → Prop} (h : An p ra δ R) (hr : ∀ ds, R ds → Rca p r ds P) : En p (tCB r ra) δ P := fun σ G H s sd rc rm Q k =>
  h σ G H s sd rc rm _ fun vs ds G1 H1 st1 rc1 dv pd => hr ds pd G1 H1 vs st1.sub rc1 (rm.stp st1) dv Q fun z d G2 H2 st2 rc2 dz pz => k z d G2 H2 (st1.trans rc rc1 st2) rc2 dz pz
theorem ed_cb {r : List V → Hp → VK → Prop} {ds : List D} (h : Ad p ra δ ds) (hr : Rca p r ds P) : En p (tCB r ra) δ P := en_cb h fun _ e => by subst e; exact hr
theorem rca_val {r : List V → Hp → VK → Prop} {ds : List D} (h : ∀ (G H : Hp) (vs : List V), Same G H → RM p G H → DAs p.K p.C G vs ds → ∃ z, DA p.K p.C G z d ∧ ∀ Q : VK, Q z H → r vs H Q) : Rca p r ds (· = d) := fun G H vs s rc rm dx Q k => by
  obtain ⟨z, dz, q⟩ := h G H vs s rm dx
  exact q Q (k z d G H (Stp.refl s) rc dz rfl)
theorem rca_new {r : List V → Hp → VK → Prop} {ds : List D} (h : ∀ (G H : Hp) (vs : List V), Same G H → RM p G H → DAs p.K p.C G vs ds → ∃ o : HO, (∀ a, G a = none → Same G (upd G a o) → DA p.K p.C (upd G a o) (.ref a) d) ∧ ∀ Q : VK, (∀ a, H a = none → Q (.ref a) (upd H a o)) → r vs H Q) : Rca p r ds (· = d) := fun G H vs s rc rm dx Q k => by
  obtain ⟨o, dz, q⟩ := h G H vs s rm dx
  refine q Q fun a ha => ?_
  obtain ⟨s1, r1⟩ := (Stp.new (o := o) s ha).up rc
  exact k _ d _ _ s1 r1 (dz a (same_none s ha) s1.gg) rfl
end
end K10
set_option Elab.async false
set_option linter.all false
set_option maxRecDepth 100000
set_option maxHeartbeats 4000000
/-! Calls, comprehensions, statements, loops upon data. -/
namespace K10
open PySem PySem.Spec PyProof.Rows L2 StX RZ

/-! ### calls of own defs -/
def Ret (K : PySem.W.Frag) (C : Addr) (c : Option Addr) (G H : Hp) (P : D → Prop) (Q : VK) : Prop := ∀ v d G' H', Stp c G H G' H' → RC c G' H' → DA K C G' v d → P d → Q v H'
/-- a promise in data: with the cup c and the arguments ds something that P says comes back -/
def spU (K : PySem.W.Frag) (C : Addr) (R : Option Addr → List D → (D → Prop) → Prop) : Sp := fun vs H Q _ => ∃ c G ds P, Same G H ∧ RC c G H ∧ DAs K C G vs ds ∧ R c ds P ∧ Ret K C c G H P Q
section
variable {p : Pm} {δ : Sl} {ra : TA} {te : TE} {P : D → Prop} {E : XK}
theorem en_call {R : Option Addr → List D → (D → Prop) → Prop} {A : List D → Prop} (h : An p ra δ A) (q : ∀ ds, A ds → R p.c ds P ∨ R none ds P) : En p (tCall (spU p.K p.C R) [] E ra) δ P := fun σ G H s sd rc rm Q k =>
  h σ G H s sd rc rm _ fun vs ds G1 H1 st1 rc1 dv pd => by
    rcases q ds pd with r | r
    · exact ⟨p.c, G1, ds, P, st1.sub, rc1, by rw [List.append_nil]; exact dv, r, fun v d G2 H2 st2 rc2 da pz => k v d G2 H2 (st1.trans rc rc1 st2) rc2 da pz⟩
    · refine ⟨none, G1, ds, P, st1.sub, (fun a e => by cases e), by rw [List.append_nil]; exact dv, r, fun v d G2 H2 st2 rc2 da pz => ?_⟩
      obtain ⟨s3, r3⟩ := st2.up rc1
      exact k v d G2 H2 (st1.trans rc rc1 s3) r3 da pz
/-- a pure def -/
theorem ed_call {R : Option Addr → List D → (D → Prop) → Prop} {ds : List D} (h : Ad p ra δ ds) (q : R none ds P) : En p (tCall (spU p.K p.C R) [] E ra) δ P := en_call h fun _ e => by subst e; exact Or.inr q
theorem en_callC {R : Option Addr → List D → (D → Prop) → Prop} {ds : List D} (h : Ad p ra δ ds) (q : R p.c ds P) : En p (tCall (spU p.K p.C R) [] E ra) δ P := en_call h fun _ e => by subst e; exact Or.inl q
end

/-! ### hidden objects -/
section
variable {c : Option Addr} {G H G1 H1 : Hp} {a : Addr} {o u : HO}
theorem Stp.mut (s : Stp c G H G1 H1) (h : H a = none) (g : G1 a = none) : Stp c G H G1 (upd H1 a o) := by
  refine ⟨s.gg, s.fr, fun b u e => ?_, fun b u hc e => ?_⟩
  · rw [upd_ne (ne_of_none e g)]
    exact s.sub b u e
  · rw [upd_ne (ne_of_none e h)]
    exact s.keep b u hc e
/-- a hidden object is told from now on -/
theorem Stp.tell (s : Stp c G H G1 H1) (h : H a = none) (e : H1 a = some o) (g : G1 a = none) : Stp c G H (upd G1 a o) H1 := by
  refine ⟨fun b u q => ?_, fun b u q1 q2 => ?_, fun b u q => ?_, s.keep⟩
  · have hb := s.gg b u q
    rw [upd_ne (ne_of_none hb g)]
    exact hb
  · by_cases hb : b = a
    · rw [hb]
      exact h
    · rw [upd_ne hb] at q1
      exact s.fr b u q1 q2
  · by_cases hb : b = a
    · subst hb
      rw [upd_same] at q
      rw [e]
      exact q
    · rw [upd_ne hb] at q
      exact s.sub b u q
theorem Stp.hidden (s : Stp c G H G1 H1) (g : G a = none) (e : H a = some o) : G1 a = none := by
  cases q : G1 a with
  | none => rfl
  | some u =>
    have := s.fr a u q g
    rw [e] at this
    cases this
theorem RC.ne (r : RC c G H) (h : H a = none) : c ≠ some a := fun e => by
  obtain ⟨_, x, y, z, q, _⟩ := r a e
  rw [h] at q
  cases q
theorem RC.mut (r : RC c G1 H1) (h : c ≠ some a) : RC c G1 (upd H1 a o) := fun b e => by
  obtain ⟨g, x, y, z, q, w⟩ := r b e
  exact ⟨g, x, y, z, by rw [upd_ne (fun z => h (by rw [e, z]))]; exact q, w⟩
theorem RC.tell (r : RC c G1 H1) (h : c ≠ some a) : RC c (upd G1 a o) H1 := fun b e => by
  obtain ⟨g, w⟩ := r b e
  exact ⟨by rw [upd_ne (fun z => h (by rw [e, z]))]; exact g, w⟩
end

/-! ### comprehensions -/
theorem wipe_set {j : Nat} {x : Option V} : ∀ {vs : List Nat} {σ : L2.St}, j ∈ vs → L2.wipe ((L2.wipe σ vs).set j x) vs = L2.wipe σ vs := by
  intro vs
  have len : ∀ (vs : List Nat) (σ : L2.St), (L2.wipe σ vs).length = σ.length := fun vs σ => L2.wipe_length σ vs
  intro σ hj
  refine List.ext_getElem? fun i => ?_
  have key : ∀ (vs : List Nat) (σ : L2.St) (i : Nat), (L2.wipe σ vs)[i]? = if i ∈ vs then σ[i]?.map (fun _ => none) else σ[i]? := by
    intro vs
    induction vs with
    | nil => intro σ i; simp [L2.wipe]
    | cons a r ih =>
      intro σ i
      show ((L2.wipe σ r).set a none)[i]? = _
      by_cases h : a = i
      · subst h
        rw [List.getElem?_set]
        simp only [if_true, List.mem_cons, true_or]
        rw [len]
        by_cases hl : a < σ.length
        · rw [if_pos hl, List.getElem?_eq_getElem hl]
          rfl
        · rw [if_neg hl, List.getElem?_eq_none (by omega)]
          rfl
      · rw [List.getElem?_set_ne h, ih]
        have : (i ∈ a :: r) ↔ i ∈ r := by simp [Ne.symm h]
        by_cases hr : i ∈ r
        · rw [if_pos hr, if_pos (this.mpr hr)]
        · rw [if_neg hr, if_neg (fun z => hr (this.mp z))]
  rw [key, key]
  by_cases hi : i ∈ vs
  · rw [if_pos hi, if_pos hi]
    rw [List.getElem?_set]
    split
    · rename_i e
      subst e
      split
      · rename_i hl
        rw [len] at hl
        rw [List.getElem?_eq_getElem hl]
        rfl
      · rename_i hl
        rw [len] at hl
        rw [List.getElem?_eq_none (by omega)]
        try rfl
    · rw [key, if_pos hi]
      cases σ[i]? <;> rfl
  · rw [if_neg hi, if_neg hi, List.getElem?_set_ne (fun e : j = i => hi (by rw [← e]; exact hj)), key, if_neg hi]

theorem wipe_at : ∀ (vs : List Nat) (σ : L2.St) (i : Nat), (L2.wipe σ vs)[i]? = if i ∈ vs then σ[i]?.map (fun _ => none) else σ[i]? := by
  intro vs
  induction vs with
  | nil => intro σ i; simp [L2.wipe]
  | cons a r ih =>
    intro σ i
    show ((L2.wipe σ r).set a none)[i]? = _
    by_cases h : a = i
    · subst h
      rw [List.getElem?_set]
      simp only [if_true, List.mem_cons, true_or]
      rw [L2.wipe_length]
      by_cases hl : a < σ.length
      · rw [if_pos hl, List.getElem?_eq_getElem hl]
        rfl
      · rw [if_neg hl, List.getElem?_eq_none (by omega)]
        rfl
    · rw [List.getElem?_set_ne h, ih]
      have : (i ∈ a :: r) ↔ i ∈ r := by simp [Ne.symm h]
      by_cases hr : i ∈ r
      · rw [if_pos hr, if_pos (this.mpr hr)]
      · rw [if_neg hr, if_neg (fun z => hr (this.mp z))]
theorem wipe_two {i0 j : Nat} {x y : Option V} {vs : List Nat} {σ : L2.St} (hi : i0 ∈ vs) (hj : j ∈ vs) : L2.wipe (((L2.wipe σ vs).set i0 x).set j y) vs = L2.wipe σ vs := by
  have h1 : L2.wipe ((L2.wipe ((L2.wipe σ vs).set i0 x) vs).set j y) vs = L2.wipe ((L2.wipe σ vs).set i0 x) vs := wipe_set hj
  rw [wipe_set hi] at h1
  refine List.ext_getElem? fun m => ?_
  rw [wipe_at, wipe_at]
  by_cases hm : m ∈ vs
  · rw [if_pos hm, if_pos hm]
    by_cases hl : m < σ.length
    · rw [List.getElem?_eq_getElem (by simp only [List.length_set, L2.wipe_length]; exact hl), List.getElem?_eq_getElem hl]
      rfl
    · rw [List.getElem?_eq_none (by simp only [List.length_set, L2.wipe_length]; omega), List.getElem?_eq_none (by omega)]
  · rw [if_neg hm, if_neg hm, List.getElem?_set_ne (fun e : j = m => hm (by rw [← e]; exact hj)), List.getElem?_set_ne (fun e : i0 = m => hm (by rw [← e]; exact hi)), wipe_at, if_neg hm]

section
variable {p : Pm} {δ : Sl} {ra : TA} {te tl : TE} {tt : TT} {P : D → Prop} {j : Nat} {vs : List Nat} {n : Int}
/-- the list that a comprehension makes, behind i turns: hidden -/
structure Lw (p : Pm) (σ : L2.St) (G H : Hp) (Dl : Addr) (S : List D → Prop) (H' : Hp) : Prop where
  ex : ∃ G' xs ds, Stp p.c G H G' H' ∧ RC p.c G' H' ∧ G' Dl = none ∧ H' Dl = some (.lst xs) ∧ DAs p.K p.C G' xs ds ∧ S ds
theorem Lw.begin {σ : L2.St} {G H G1 H1 : Hp} {Dl : Addr} {S : List D → Prop} (st : Stp p.c G H G1 H1) (rc : RC p.c G H) (rc1 : RC p.c G1 H1) (h : H1 Dl = none) (hs : S []) : Lw p σ G H Dl S (upd H1 Dl (.lst [])) :=
  ⟨G1, [], [], st.mut (st.free rc rc1 h) (same_none st.sub h), rc1.mut (rc1.ne h), same_none st.sub h, upd_same, .nil, hs⟩
/-- one more item -/
theorem Lw.more {σ σ2 : L2.St} {G H : Hp} {Dl : Addr} {S S' : List D → Prop} {H' : Hp} {δ2 : Sl} (w : Lw p σ G H Dl S H') (rc : RC p.c G H) (rm : RM p G H) (hD : H Dl = none) (hp : ∀ G', Same G G' → SD p.K p.C G' σ2 δ2)
    (h : En p te δ2 P) (hS : ∀ ds d, S ds → P d → S' (ds ++ [d])) (hz : ∀ ds, S ds → ds.length ≤ 100000) : te σ2 H' fun y H4 => ∃ acc, H4 Dl = some (.lst acc) ∧ acc.length < sizeLine ∧ Lw p σ G H Dl S' (upd H4 Dl (.lst (acc ++ [y]))) := by
  obtain ⟨G', xs, ds, st, rc', g, e, da, s⟩ := w.ex
  refine h σ2 G' H' st.sub (hp G' st.gg) rc' (rm.stp st) _ fun v d G2 H2 st2 rc2 dv pd => ?_
  have nc : p.c ≠ some Dl := rc.ne hD
  have g2 : G2 Dl = none := st2.hidden g e
  refine ⟨xs, st2.keep Dl _ nc e, ?_, ⟨G2, xs ++ [v], ds ++ [d], (st.trans rc rc' st2).mut hD g2, rc2.mut nc, g2, upd_same, (da.mono st2.gg).append (.cons dv .nil), hS ds d s pd⟩⟩
  rw [da.length]
  exact Nat.lt_of_le_of_lt (hz ds s) (by decide)
theorem Lw.done {σ : L2.St} {G H : Hp} {Dl : Addr} {S : List D → Prop} {H' : Hp} {Q : VK} (w : Lw p σ G H Dl S H') (rc : RC p.c G H) (hD : H Dl = none)
    (k : ∀ v d G' H', Stp p.c G H G' H' → RC p.c G' H' → DA p.K p.C G' v d → (∃ ds, d = .lst ds ∧ S ds) → Q v H') : Q (.ref Dl) H' := by
  obtain ⟨G', xs, ds, st, rc', g, e, da, s⟩ := w.ex
  have s1 := st.tell hD e g
  refine k _ (.lst ds) _ _ s1 (rc'.tell (rc.ne hD)) (.lst upd_same (da.mono fun b u q => ?_)) ⟨ds, rfl, s⟩
  rw [upd_ne (ne_of_none q g)]
  exact q
/-- [e for j in range(n)] -/
theorem en_lcR {Pi : Nat → D → Prop} (h : Ad p ra δ [.int n]) (hn : -100000 ≤ n ∧ n ≤ 100000) (hj : j ∈ vs := by decide) (he : ∀ i : Nat, (i : Int) < n → En p te ((wipeD δ vs).set j (some (.int i))) (Pi i)) :
    En p (tLc (iRng1 ra) (gName j) tYes te vs) δ (fun d => ∃ ds, d = .lst ds ∧ ds.length = n.toNat ∧ ∀ i d, ds[i]? = some d → Pi i d) := fun σ G H s sd rc rm Q k =>
  h σ G H s sd rc rm _ fun ws es G1 H1 st1 rc1 dv pd => by
    subst pd
    cases dv with
    | cons h1 h2 =>
      cases h2
      cases h1
      refine ⟨n, rfl, by omega, by omega, fun Dl hDl => ?_⟩
      have hD : H Dl = none := st1.free rc rc1 hDl
      refine lc_range (lo := 0) (n := n.toNat) (fun i H' => Lw p σ G H Dl (fun ds => ds.length = i ∧ ∀ m d, ds[m]? = some d → Pi m d) H') (Lw.begin st1 rc rc1 hDl ⟨rfl, fun m d e => by simp at e⟩) (fun i H' hi w => ?_) fun H' w => ?_
      · have e0 : (0 : Int) + (i : Int) = (i : Int) := Int.zero_add _
        show L2.wipe ((L2.wipe σ vs).set j (some (.int ((0 : Int) + (i : Int))))) vs = L2.wipe σ vs ∧ _
        rw [e0]
        refine ⟨wipe_set hj, ?_⟩
        refine Lw.more w rc rm hD (fun G' e => ((sd.mono e).wipe vs).set j (.int _)) (he i (by omega)) (fun ds d hs hd => ⟨by rw [List.length_append, hs.1]; rfl, fun m d' e => ?_⟩) (fun ds hs => by have := hs.1; omega)
        rw [List.getElem?_append] at e
        split at e
        · exact hs.2 m d' e
        · rename_i hm
          have : m = i := by
            rcases Nat.lt_or_ge (m - ds.length) 1 with h1 | h1
            · have := hs.1; omega
            · rw [List.getElem?_eq_none (by simpa using h1)] at e
              cases e
          subst this
          rw [hs.1, Nat.sub_self] at e
          have e1 : d = d' := by simpa using e
          rw [← e1]
          exact hd
      · exact Lw.done w rc hD fun v d G' H' st rc' da ⟨ds, e, hs⟩ => k v d G' H' st rc' da ⟨ds, e, hs.1, hs.2⟩
/-- a test within -/
theorem Lw.test {σ σ2 : L2.St} {G H : Hp} {Dl : Addr} {S : List D → Prop} {H' : Hp} {δ2 : Sl} {T : Bool → Prop} {Q : Bool → Hp → Prop} (w : Lw p σ G H Dl S H') (rc : RC p.c G H) (rm : RM p G H) (hD : H Dl = none) (hp : ∀ G', Same G G' → SD p.K p.C G' σ2 δ2)
    (h : Tn p tt δ2 T) (k : ∀ b H2, T b → Lw p σ G H Dl S H2 → Q b H2) : tt σ2 H' Q := by
  obtain ⟨G', xs, ds, st, rc', g, e, da, s⟩ := w.ex
  refine h σ2 G' H' st.sub (hp G' st.gg) rc' (rm.stp st) _ fun b G2 H2 st2 rc2 tb => ?_
  exact k b H2 tb ⟨G2, xs, ds, st.trans rc rc' st2, rc2, st2.hidden g e, st2.keep Dl _ (rc.ne hD) e, da.mono st2.gg, s⟩
theorem Lw.imp {σ : L2.St} {G H : Hp} {Dl : Addr} {S S' : List D → Prop} {H' : Hp} (w : Lw p σ G H Dl S H') (q : ∀ ds, S ds → S' ds) : Lw p σ G H Dl S' H' := by
  obtain ⟨G', xs, ds, st, rc', g, e, da, s⟩ := w.ex
  exact ⟨G', xs, ds, st, rc', g, e, da, q ds s⟩
/-- a hidden object is laid -/
theorem Lw.hid {σ : L2.St} {G H : Hp} {Dl a : Addr} {o : HO} {S : List D → Prop} {H' : Hp} (w : Lw p σ G H Dl S H') (rc : RC p.c G H) (ha : H' a = none) : Lw p σ G H Dl S (upd H' a o) := by
  obtain ⟨G', xs, ds, st, rc', g, e, da, s⟩ := w.ex
  refine ⟨G', xs, ds, st.mut (st.free rc rc' ha) (same_none st.sub ha), rc'.mut (rc'.ne ha), g, ?_, da, s⟩
  rw [upd_ne (ne_of_none e ha)]
  exact e
/-- [e for j in range(n) if t], all told -/
theorem ed_lcRf {f : Nat → Bool} {g : Nat → D} (h : Ad p ra δ [.int n]) (hn : -100000 ≤ n ∧ n ≤ 100000) (hj : j ∈ vs := by decide) (ht : ∀ i : Nat, (i : Int) < n → Td p tt ((wipeD δ vs).set j (some (.int i))) (f i))
    (he : ∀ i : Nat, (i : Int) < n → f i = true → Ed p te ((wipeD δ vs).set j (some (.int i))) (g i)) :
    Ed p (tLc (iRng1 ra) (gName j) tt te vs) δ (.lst (((List.range n.toNat).filter f).map g)) := fun σ G H s sd rc rm Q k =>
  h σ G H s sd rc rm _ fun ws es G1 H1 st1 rc1 dv pd => by
    subst pd
    cases dv with
    | cons h1 h2 =>
      cases h2
      cases h1
      refine ⟨n, rfl, by omega, by omega, fun Dl hDl => ?_⟩
      have hD : H Dl = none := st1.free rc rc1 hDl
      refine lc_range (lo := 0) (n := n.toNat) (fun i H' => Lw p σ G H Dl (fun ds => ds = ((List.range i).filter f).map g) H') (Lw.begin st1 rc rc1 hDl rfl) (fun i H' hi w => ?_) fun H' w => ?_
      · have e0 : (0 : Int) + (i : Int) = (i : Int) := Int.zero_add _
        show L2.wipe ((L2.wipe σ vs).set j (some (.int ((0 : Int) + (i : Int))))) vs = L2.wipe σ vs ∧ _
        rw [e0]
        refine ⟨wipe_set hj, ?_⟩
        refine Lw.test w rc rm hD (fun G' e => ((sd.mono e).wipe vs).set j (.int _)) (ht i (by omega)) fun b H2 eb w2 => ?_
        subst eb
        cases hf : f i with
        | true =>
          refine Lw.more w2 rc rm hD (fun G' e => ((sd.mono e).wipe vs).set j (.int _)) (he i (by omega) hf) (fun ds d hs hd => ?_) fun ds hs => ?_
          · rw [hs, hd, List.range_succ, List.filter_append, List.map_append]
            simp [hf]
          · rw [hs, List.length_map]
            have := List.length_filter_le f (List.range i)
            rw [List.length_range] at this
            omega
        | false =>
          refine w2.imp fun ds hs => ?_
          rw [hs, List.range_succ, List.filter_append, List.map_append]
          simp [hf]
      · exact Lw.done w rc hD fun v d G' H' st rc' da ⟨ds, e, hs⟩ => k v d G' H' st rc' da (by rw [e, hs])
theorem Lw.up {σ : L2.St} {G H : Hp} {Dl : Addr} {S : List D → Prop} {H' : Hp} (w : Lw p σ G H Dl S H') : ∀ b o, G b = some o → H' b = some o := by
  obtain ⟨G', xs, ds, st, rc', g, e, da, s⟩ := w.ex
  exact fun b o q => st.sub b o (st.gg b o q)
theorem app_at {α : Type} {ds : List α} {d d' : α} {m : Nat} (e : (ds ++ [d])[m]? = some d') : ds[m]? = some d' ∨ (m = ds.length ∧ d = d') := by
  rw [List.getElem?_append] at e
  split at e
  · exact Or.inl e
  · rename_i hm
    rcases Nat.lt_or_ge (m - ds.length) 1 with h1 | h1
    · have h2 : m = ds.length := by omega
      subst h2
      rw [Nat.sub_self] at e
      exact Or.inr ⟨rfl, by simpa using e⟩
    · rw [List.getElem?_eq_none (by simpa using h1)] at e
      cases e
/-- [e for j in xs], a tuple -/
theorem en_lcT {xs : List D} {Pi : Nat → D → Prop} (h : Ed p tl δ (.tup xs)) (hz : xs.length ≤ 100000) (hj : j ∈ vs := by decide) (he : ∀ (i : Nat) (x : D), xs[i]? = some x → En p te ((wipeD δ vs).set j (some x)) (Pi i)) :
    En p (tLc (iTup p.K tl) (gName j) tYes te vs) δ (fun d => ∃ ds, d = .lst ds ∧ ds.length = xs.length ∧ ∀ i d, ds[i]? = some d → Pi i d) := fun σ G H s sd rc rm Q k =>
  h σ G H s sd rc rm _ fun v d0 G1 H1 st1 rc1 dv pd => by
    subst pd
    obtain ⟨a, us, rfl, h1, h2⟩ := dv.tup_inv
    have hl := h2.length
    have sd1 := sd.mono st1.gg
    refine ⟨a, rfl, ⟨us, sqT_mono st1.sub h1⟩, fun Dl hDl => ?_⟩
    refine lc_tup (xs := us) (fun i H' => Lw p σ G1 H1 Dl (fun ds => ds.length = i ∧ ∀ m d, ds[m]? = some d → Pi m d) H') (Lw.begin (Stp.refl st1.sub) rc1 rc1 hDl ⟨rfl, fun m d e => by simp at e⟩)
      (fun i H' _ w => sqT_mono w.up h1) (fun i x H' hi w => ?_) fun H' w => ?_
    · show L2.wipe ((L2.wipe σ vs).set j (some x)) vs = L2.wipe σ vs ∧ _
      refine ⟨wipe_set hj, ?_⟩
      obtain ⟨dx, hdx, dax⟩ := h2.getV hi
      have hi2 : i < us.length := (List.getElem?_eq_some_iff.mp hi).1
      refine Lw.more w rc1 (rm.stp st1) hDl (fun G' e => ((sd1.mono e).wipe vs).set j (dax.mono e)) (he i dx hdx) (fun ds d hs hd => ⟨by rw [List.length_append, hs.1]; rfl, fun m d' e => ?_⟩) (fun ds hs => by have := hs.1; omega)
      rcases app_at e with e | ⟨e1, e2⟩
      · exact hs.2 m d' e
      · rw [e1, hs.1, ← e2]
        exact hd
    · exact Lw.done w rc1 hDl fun v d G' H' st rc' da ⟨ds, e, hs⟩ => k v d G' H' (st1.trans rc rc1 st) rc' da ⟨ds, e, by rw [hs.1, hl], hs.2⟩
/-- .. a list -/
theorem en_lcL {xs : List D} {Pi : Nat → D → Prop} (h : Ed p tl δ (.lst xs)) (hz : xs.length ≤ 100000) (hj : j ∈ vs := by decide) (he : ∀ (i : Nat) (x : D), xs[i]? = some x → En p te ((wipeD δ vs).set j (some x)) (Pi i)) :
    En p (tLc (iList p.K tl) (gName j) tYes te vs) δ (fun d => ∃ ds, d = .lst ds ∧ ds.length = xs.length ∧ ∀ i d, ds[i]? = some d → Pi i d) := fun σ G H s sd rc rm Q k =>
  h σ G H s sd rc rm _ fun v d0 G1 H1 st1 rc1 dv pd => by
    subst pd
    obtain ⟨a, us, rfl, h1, h2⟩ := dv.lst_inv
    have hl := h2.length
    have sd1 := sd.mono st1.gg
    refine ⟨a, rfl, ⟨us, SqL.of (st1.sub _ _ h1)⟩, fun Dl hDl => ?_⟩
    refine lc_list (xs := us) (fun i H' => Lw p σ G1 H1 Dl (fun ds => ds.length = i ∧ ∀ m d, ds[m]? = some d → Pi m d) H') (Lw.begin (Stp.refl st1.sub) rc1 rc1 hDl ⟨rfl, fun m d e => by simp at e⟩)
      (fun i H' _ w => SqL.of (w.up _ _ h1)) (fun i x H' hi w => ?_) fun H' w => ?_
    · show L2.wipe ((L2.wipe σ vs).set j (some x)) vs = L2.wipe σ vs ∧ _
      refine ⟨wipe_set hj, ?_⟩
      obtain ⟨dx, hdx, dax⟩ := h2.getV hi
      have hi2 : i < us.length := (List.getElem?_eq_some_iff.mp hi).1
      refine Lw.more w rc1 (rm.stp st1) hDl (fun G' e => ((sd1.mono e).wipe vs).set j (dax.mono e)) (he i dx hdx) (fun ds d hs hd => ⟨by rw [List.length_append, hs.1]; rfl, fun m d' e => ?_⟩) (fun ds hs => by have := hs.1; omega)
      rcases app_at e with e | ⟨e1, e2⟩
      · exact hs.2 m d' e
      · rw [e1, hs.1, ← e2]
        exact hd
    · exact Lw.done w rc1 hDl fun v d G' H' st rc' da ⟨ds, e, hs⟩ => k v d G' H' (st1.trans rc rc1 st) rc' da ⟨ds, e, by rw [hs.1, hl], hs.2⟩
theorem list_of_at {ds : List D} {n : Nat} {g : Nat → D} (hl : ds.length = n) (h : ∀ i d, ds[i]? = some d → d = g i) : ds = (List.range n).map g := by
  refine List.ext_getElem? fun i => ?_
  by_cases hi : i < n
  · have h1 : ds[i]? = some ds[i] := List.getElem?_eq_getElem (by omega)
    rw [h1, h i _ h1, List.getElem?_map, List.getElem?_range hi]
    rfl
  · rw [List.getElem?_eq_none (by omega), List.getElem?_eq_none (by rw [List.length_map, List.length_range]; omega)]
theorem map_of_at {xs ds : List D} {g : D → D} (hl : ds.length = xs.length) (h : ∀ (i : Nat) d, ds[i]? = some d → ∃ x, xs[i]? = some x ∧ d = g x) : ds = xs.map g := by
  refine List.ext_getElem? fun i => ?_
  by_cases hi : i < xs.length
  · have h1 : ds[i]? = some ds[i] := List.getElem?_eq_getElem (by omega)
    obtain ⟨x, h2, h3⟩ := h i _ h1
    rw [h1, h3, List.getElem?_map, h2]
    rfl
  · rw [List.getElem?_eq_none (by omega), List.getElem?_eq_none (by rw [List.length_map]; omega)]
/-- all told -/
theorem ed_lcR {g : Nat → D} (h : Ad p ra δ [.int n]) (hn : -100000 ≤ n ∧ n ≤ 100000) (hj : j ∈ vs := by decide) (he : ∀ i : Nat, (i : Int) < n → Ed p te ((wipeD δ vs).set j (some (.int i))) (g i)) :
    Ed p (tLc (iRng1 ra) (gName j) tYes te vs) δ (.lst ((List.range n.toNat).map g)) := (en_lcR (Pi := fun i d => d = g i) h hn hj he).imp fun d ⟨ds, e, hl, hs⟩ => by
  rw [e, list_of_at hl hs]
theorem ed_lcT {xs : List D} {g : D → D} (h : Ed p tl δ (.tup xs)) (hz : xs.length ≤ 100000) (hj : j ∈ vs := by decide) (he : ∀ x ∈ xs, Ed p te ((wipeD δ vs).set j (some x)) (g x)) :
    Ed p (tLc (iTup p.K tl) (gName j) tYes te vs) δ (.lst (xs.map g)) := (en_lcT (Pi := fun i d => ∃ x, xs[i]? = some x ∧ d = g x) h hz hj fun i x hx => (he x (List.mem_of_getElem? hx)).imp fun d e => ⟨x, hx, e⟩).imp fun d ⟨ds, e, hl, hs⟩ => by
  rw [e, map_of_at hl hs]
theorem ed_lcL {xs : List D} {g : D → D} (h : Ed p tl δ (.lst xs)) (hz : xs.length ≤ 100000) (hj : j ∈ vs := by decide) (he : ∀ x ∈ xs, Ed p te ((wipeD δ vs).set j (some x)) (g x)) :
    Ed p (tLc (iList p.K tl) (gName j) tYes te vs) δ (.lst (xs.map g)) := (en_lcL (Pi := fun i d => ∃ x, xs[i]? = some x ∧ d = g x) h hz hj fun i x hx => (he x (List.mem_of_getElem? hx)).imp fun d e => ⟨x, hx, e⟩).imp fun d ⟨ds, e, hl, hs⟩ => by
  rw [e, map_of_at hl hs]
/-- [e for i, j in zip(xs, ys)] of two tuples of one length -/
theorem ed_lcZ {xs ys : List D} {i0 : Nat} {g : D → D → D} (h : Ad p ra δ [.tup xs, .tup ys]) (hxy : xs.length = ys.length) (hz : xs.length ≤ 100000) (hi0 : i0 ∈ vs := by decide) (hj : j ∈ vs := by decide)
    (he : ∀ (i : Nat) (x y : D), xs[i]? = some x → ys[i]? = some y → Ed p te (((wipeD δ vs).set i0 (some x)).set j (some y)) (g x y)) :
    Ed p (tLc (iZipA p.K ra) (gTup p.K 2 (gCons (gName i0) (gCons (gName j) gNil))) tYes te vs) δ (.lst (List.zipWith g xs ys)) := fun σ G H s sd rc rm Q k =>
  h σ G H s sd rc rm _ fun ws es G1 H1 st1 rc1 dv pd => by
    subst pd
    cases dv with
    | cons d1 dv =>
      cases dv with
      | cons d2 dv =>
        cases dv
        obtain ⟨a, us, rfl, h1, h2⟩ := d1.tup_inv
        obtain ⟨b, vs', rfl, h3, h4⟩ := d2.tup_inv
        have hl := h2.length
        have hl4 := h4.length
        have sd1 := sd.mono st1.gg
        refine ⟨a, b, us, vs', rfl, Or.inr ⟨sqT_mono st1.sub h1, sqT_mono st1.sub h3, ?_⟩⟩
        intro Dl hDl
        refine ⟨fun i m H' => m = us.length - i ∧ i ≤ us.length ∧ Lw p σ G1 H1 Dl (fun ds => ds = (List.zipWith g xs ys).take i) H', ⟨us.length, rfl, Nat.zero_le _, Lw.begin (Stp.refl st1.sub) rc1 rc1 hDl rfl⟩, ?_⟩
        rintro i m H' ⟨rfl, hi, w⟩
        have q1 := sqT_mono w.up h1
        have q3 := sqT_mono w.up h3
        by_cases hlt : i < us.length
        · have e1 : us[i]? = some us[i] := List.getElem?_eq_getElem hlt
          have hlt2 : i < vs'.length := by omega
          have e3 : vs'[i]? = some vs'[i] := List.getElem?_eq_getElem hlt2
          refine Or.inr ⟨⟨us, vs', _, _, q1, q3, e1, e3⟩, fun H2 => Lw p σ G1 H1 Dl (fun ds => ds = (List.zipWith g xs ys).take (i + 1)) H2, fun H2 w2 => ⟨us.length - (i + 1), by omega, rfl, hlt, w2⟩, fun v H2 yl => ?_⟩
          obtain ⟨T, x', y', rfl, hT, rfl, f1, f2⟩ := yl
          have ex := f1 us q1
          have ey := f2 vs' q3
          obtain ⟨dx, hdx, dax⟩ := h2.getV ex
          obtain ⟨dy, hdy, day⟩ := h4.getV ey
          refine ⟨T, [x', y'], rfl, SqT.of upd_same, rfl, x', [y'], rfl, y', [], rfl, rfl, ?_⟩
          have wp : L2.wipe (((L2.wipe σ vs).set i0 (some x')).set j (some y')) vs = L2.wipe σ vs := by
            exact wipe_two hi0 hj
          refine ⟨wp, ?_⟩
          refine Lw.more (w.hid rc1 hT) rc1 (rm.stp st1) hDl (fun G' e => (((sd1.mono e).wipe vs).set i0 (dax.mono e)).set j (day.mono e)) (he i dx dy hdx hdy) (fun ds d hs hd => ?_) (fun ds hs => ?_)
          · rw [hs, hd]
            have e5 : (List.zipWith g xs ys)[i]? = some (g dx dy) := by
              rw [List.getElem?_zipWith, hdx, hdy]
            rw [List.take_succ, e5]
            rfl
          · rw [hs, List.length_take, List.length_zipWith]
            omega
        · refine Or.inl ⟨⟨us, vs', q1, q3, Or.inl (by omega)⟩, Lw.done w rc1 hDl fun v d G' H' st rc' da ⟨ds, e, hs⟩ => k v d G' H' (st1.trans rc rc1 st) rc' da ?_⟩
          rw [e, hs, List.take_of_length_le (by rw [List.length_zipWith]; omega)]
end
end K10
set_option Elab.async false
set_option linter.all false
set_option maxRecDepth 100000
set_option maxHeartbeats 4000000
/-! Double comprehensions; statements; loops. -/
namespace K10
open PySem PySem.Spec PyProof.Rows L2 StX RZ

theorem flat_len {F : D → List D} {n : Nat} : ∀ {xs : List D}, (∀ x ∈ xs, (F x).length ≤ n) → (xs.flatMap F).length ≤ xs.length * n
  | [], _ => by simp
  | x :: r, h => by
    rw [List.flatMap_cons, List.length_append, List.length_cons, Nat.succ_mul]
    have h1 := h x List.mem_cons_self
    have h2 := flat_len (xs := r) fun y hy => h y (List.mem_cons_of_mem _ hy)
    omega
theorem take_succ_of {α : Type} {xs : List α} {i : Nat} {x : α} (h : xs[i]? = some x) : xs.take (i + 1) = xs.take i ++ [x] := by
  rw [List.take_succ, h]
  rfl
section
variable {p : Pm} {δ : Sl} {ra : TA} {te tl t1 : TE} {tt : TT} {P : D → Prop} {jo ji : Nat} {vs vs1 : List Nat} {n : Int}
/-- the hidden list, the ground above Gb -/
structure Lwb (p : Pm) (G H : Hp) (Dl : Addr) (Gb : Hp) (S : List D → Prop) (H' : Hp) : Prop where
  ex : ∃ G' xs ds, Stp p.c G H G' H' ∧ Same Gb G' ∧ RC p.c G' H' ∧ G' Dl = none ∧ H' Dl = some (.lst xs) ∧ DAs p.K p.C G' xs ds ∧ S ds
theorem Lwb.more {σ2 : L2.St} {G H Gb : Hp} {Dl : Addr} {S S' : List D → Prop} {H' : Hp} {δ2 : Sl} (w : Lwb p G H Dl Gb S H') (rc : RC p.c G H) (rm : RM p G H) (hD : H Dl = none) (hp : ∀ G', Same Gb G' → SD p.K p.C G' σ2 δ2)
    (h : En p te δ2 P) (hS : ∀ ds d, S ds → P d → S' (ds ++ [d])) (hz : ∀ ds, S ds → ds.length ≤ 100000) : te σ2 H' fun y H4 => ∃ acc, H4 Dl = some (.lst acc) ∧ acc.length < sizeLine ∧ Lwb p G H Dl Gb S' (upd H4 Dl (.lst (acc ++ [y]))) := by
  obtain ⟨G', xs, ds, st, sb, rc', g, e, da, s⟩ := w.ex
  refine h σ2 G' H' st.sub (hp G' sb) rc' (rm.stp st) _ fun v d G2 H2 st2 rc2 dv pd => ?_
  have nc : p.c ≠ some Dl := rc.ne hD
  have g2 : G2 Dl = none := st2.hidden g e
  refine ⟨xs, st2.keep Dl _ nc e, ?_, ⟨G2, xs ++ [v], ds ++ [d], (st.trans rc rc' st2).mut hD g2, sb.trans st2.gg, rc2.mut nc, g2, upd_same, (da.mono st2.gg).append (.cons dv .nil), hS ds d s pd⟩⟩
  rw [da.length]
  exact Nat.lt_of_le_of_lt (hz ds s) (by decide)
/-- [e for jo in xs for ji in ys], a list, tuples -/
theorem ed_lc2 {xs : List D} {ys : D → List D} {g : D → D → D} (h : Ed p tl δ (.lst xs)) (hz : xs.length ≤ 200) (hy : ∀ x ∈ xs, (ys x).length ≤ 200) (hjo : jo ∈ vs := by decide) (hji : ji ∈ vs1 := by decide)
    (h1 : ∀ x ∈ xs, Ed p t1 ((wipeD δ vs).set jo (some x)) (.tup (ys x)))
    (he : ∀ x ∈ xs, ∀ y ∈ ys x, Ed p te ((wipeD ((wipeD δ vs).set jo (some x)) vs1).set ji (some y)) (g x y)) :
    Ed p (tLc2 (iList p.K tl) (gName jo) tYes (iTup p.K t1) (gName ji) tYes te vs vs1) δ (.lst (xs.flatMap fun x => (ys x).map (g x))) := fun σ G H s sd rc rm Q k =>
  h σ G H s sd rc rm _ fun v d0 G1 H1 st1 rc1 dv pd => by
    subst pd
    obtain ⟨a, us, rfl, e1, e2⟩ := dv.lst_inv
    have hl := e2.length
    have sd1 := sd.mono st1.gg
    have rm1 := rm.stp st1
    refine ⟨a, rfl, ⟨us, SqL.of (st1.sub _ _ e1)⟩, fun Dl hDl => ?_⟩
    refine ⟨fun i m H' => m = us.length - i ∧ i ≤ us.length ∧ Lw p σ G1 H1 Dl (fun ds => ds = (xs.take i).flatMap fun x => (ys x).map (g x)) H', ⟨us.length, rfl, Nat.zero_le _, Lw.begin (Stp.refl st1.sub) rc1 rc1 hDl rfl⟩, ?_⟩
    rintro i m H' ⟨rfl, hi, w⟩
    have q1 : SqL p.K H' a us := SqL.of (w.up _ _ e1)
    by_cases hlt : i < us.length
    · have ex : us[i]? = some us[i] := List.getElem?_eq_getElem hlt
      refine Or.inr ⟨⟨us, _, q1, ex⟩, fun H2 => Lw p σ G1 H1 Dl (fun ds => ds = (xs.take (i + 1)).flatMap fun x => (ys x).map (g x)) H2, fun H2 w2 => ⟨us.length - (i + 1), by omega, rfl, hlt, w2⟩, fun x H2 yl => ?_⟩
      obtain ⟨rfl, f1⟩ := yl
      have exx := f1 us q1
      obtain ⟨dx, hdx, dax⟩ := e2.getV exx
      have mx := List.mem_of_getElem? hdx
      show L2.wipe ((L2.wipe σ vs).set jo (some x)) vs = L2.wipe σ vs ∧ _
      refine ⟨wipe_set hjo, ?_⟩
      obtain ⟨G', ws, ds, st, rc', g', e, da, hs⟩ := w.ex
      have sdx : SD p.K p.C G' ((L2.wipe σ vs).set jo (some x)) ((wipeD δ vs).set jo (some dx)) := ((sd1.mono st.gg).wipe vs).set jo (dax.mono st.gg)
      refine h1 dx mx _ G' H2 st.sub sdx rc' (rm1.stp st) _ fun v2 d2 G2 H3 st2 rc2 dv2 pd2 => ?_
      subst pd2
      obtain ⟨b, vb, rfl, e3, e4⟩ := dv2.tup_inv
      have hl4 := e4.length
      have hyx := hy dx mx
      refine ⟨b, rfl, ⟨vb, sqT_mono st2.sub e3⟩, ?_⟩
      have sd2 := sdx.mono st2.gg
      refine ⟨fun j m H' => m = vb.length - j ∧ j ≤ vb.length ∧ Lwb p G1 H1 Dl G2 (fun ds => ds = ((xs.take i).flatMap fun x => (ys x).map (g x)) ++ ((ys dx).take j).map (g dx)) H',
        ⟨vb.length, rfl, Nat.zero_le _, G2, ws, ds, st.trans rc1 rc' st2, Same.refl _, rc2, st2.hidden g' e, st2.keep Dl _ (rc1.ne hDl) e, da.mono st2.gg, by rw [hs]; simp⟩, ?_⟩
      rintro j m H4 ⟨rfl, hj, w4⟩
      have q3 : SqT p.K H4 b vb := by
        obtain ⟨G4, _, _, s4, sb4, _⟩ := w4.ex
        exact sqT_mono s4.sub (sqT_mono sb4 e3)
      by_cases hlt2 : j < vb.length
      · refine Or.inr ⟨⟨vb, _, q3, List.getElem?_eq_getElem hlt2⟩, Lwb p G1 H1 Dl G2 (fun ds => ds = ((xs.take i).flatMap fun x => (ys x).map (g x)) ++ ((ys dx).take (j + 1)).map (g dx)), fun H5 w5 => ⟨vb.length - (j + 1), by omega, rfl, hlt2, w5⟩, fun y H5 yl => ?_⟩
        obtain ⟨rfl, f2⟩ := yl
        have eyy := f2 vb q3
        obtain ⟨dy, hdy, day⟩ := e4.getV eyy
        have my := List.mem_of_getElem? hdy
        show L2.wipe ((L2.wipe ((L2.wipe σ vs).set jo (some x)) vs1).set ji (some y)) vs1 = L2.wipe ((L2.wipe σ vs).set jo (some x)) vs1 ∧ _
        refine ⟨wipe_set hji, ?_⟩
        refine Lwb.more w4 rc1 rm1 hDl (fun G' e => ((sd2.mono e).wipe vs1).set ji (day.mono e)) (he dx mx dy my) (fun ds d hs hd => ?_) fun ds hs => ?_
        · rw [hs, hd, take_succ_of hdy, List.map_append, List.append_assoc]
          rfl
        · rw [hs, List.length_append, List.length_map, List.length_take]
          have h1 := flat_len (F := fun x => (ys x).map (g x)) (n := 200) (xs := xs.take i) fun x hx => by
            rw [List.length_map]
            exact hy x (List.mem_of_mem_take hx)
          rw [List.length_take] at h1
          have h2 : min i xs.length * 200 ≤ 200 * 200 := Nat.mul_le_mul_right _ (by omega)
          omega
      · refine Or.inl ⟨⟨vb, q3, by omega⟩, ?_⟩
        obtain ⟨G4, ws4, ds4, s4, sb4, rc4, g4, e4', da4, hs4⟩ := w4.ex
        refine ⟨G4, ws4, ds4, s4, rc4, g4, e4', da4, ?_⟩
        have e9 : (ys dx).take j = ys dx := List.take_of_length_le (by omega)
        rw [hs4, e9, take_succ_of hdx, List.flatMap_append]
        simp
    · refine Or.inl ⟨⟨us, q1, by omega⟩, Lw.done w rc1 hDl fun v d G' H' st rc' da ⟨ds, e, hs⟩ => k v d G' H' (st1.trans rc rc1 st) rc' da ?_⟩
      rw [e, hs, List.take_of_length_le (by omega)]
end

/-! ### where a body stands -/
/-- the entry's ground and heap; a ground that is passed already -/
structure Ent where
  G : Hp
  H : Hp
  b : Hp
/-- from the entry: the slots say δ -/
structure At (p : Pm) (E : Ent) (δ : Sl) (σ : L2.St) (H : Hp) : Prop where
  ex : ∃ G, Stp p.c E.G E.H G H ∧ Same E.b G ∧ SD p.K p.C G σ δ ∧ RC p.c G H ∧ RM p G H
  rc0 : RC p.c E.G E.H
  m0 : ∀ l ds, p.m = some (l, ds) → E.H l = none
def startD (N : List PySem.Str) (ds : List D) : Sl := ds.map some ++ List.replicate (N.length - ds.length) none
theorem sd_start {K : PySem.W.Frag} {C : Addr} {G : Hp} {N : List PySem.Str} {vs : List V} {ds : List D} (h : DAs K C G vs ds) : SD K C G (L2.start N vs) (startD N ds) := by
  have hl := h.length
  refine ⟨?_, fun i d e => ?_⟩
  · unfold L2.start startD
    rw [List.length_append, List.length_append, List.length_map, List.length_map, List.length_replicate, List.length_replicate, hl]
  · unfold startD at e
    unfold L2.start
    rw [List.getElem?_append] at e
    split at e
    · rename_i hi
      rw [List.length_map] at hi
      rw [List.getElem?_map] at e
      have e2 : ds[i]? = some d := by
        cases q : ds[i]? with
        | none => rw [q] at e; cases e
        | some d' =>
          rw [q] at e
          exact Option.some.inj e
      obtain ⟨v, hv, da⟩ := h.get e2
      exact ⟨v, by rw [List.getElem?_append_left (by rw [List.length_map]; omega), List.getElem?_map, hv]; rfl, da⟩
    · rw [List.getElem?_replicate] at e
      split at e <;> cases e
section
variable {p : Pm} {E : Ent} {δ : Sl} {σ : L2.St} {H : Hp} {te tl : TE} {P : D → Prop} {D' : Ends} {u t1 t2 tb : TS} {tt : TT} {ra : TA} {i j : Nat}
theorem At.begin {K : PySem.W.Frag} {C : Addr} {c : Option Addr} {N : List PySem.Str} {vs : List V} {ds : List D} {G0 H0 : Hp} (s : Same G0 H0) (rc : RC c G0 H0) (h : DAs K C G0 vs ds) : At ⟨K, C, c, none⟩ ⟨G0, H0, G0⟩ (startD N ds) (L2.start N vs) H0 :=
  ⟨⟨G0, Stp.refl s, Same.refl _, sd_start h, rc, fun l ds e => by cases e⟩, rc, fun l ds e => by cases e⟩
/-- the state behind an expression -/
theorem At.run (a : At p E δ σ H) (h : En p te δ P) {Q : VK} (k : ∀ v d G' H', Stp p.c E.G E.H G' H' → Same E.b G' → SD p.K p.C G' σ δ → RC p.c G' H' → RM p G' H' → DA p.K p.C G' v d → P d → Q v H') : te σ H Q := by
  obtain ⟨G, st, sb, sd, rc, rm⟩ := a.ex
  exact h σ G H st.sub sd rc rm Q fun v d G' H' st2 rc2 da pd => k v d G' H' (st.trans a.rc0 rc st2) (sb.trans st2.gg) (sd.mono st2.gg) rc2 (rm.stp st2) da pd
theorem At.runT (a : At p E δ σ H) {T : Bool → Prop} (h : Tn p tt δ T) {Q : Bool → Hp → Prop} (k : ∀ b H', T b → At p E δ σ H' → Q b H') : tt σ H Q := by
  obtain ⟨G, st, sb, sd, rc, rm⟩ := a.ex
  exact h σ G H st.sub sd rc rm Q fun b G' H' st2 rc2 tb => k b H' tb ⟨⟨G', st.trans a.rc0 rc st2, sb.trans st2.gg, sd.mono st2.gg, rc2, rm.stp st2⟩, a.rc0, a.m0⟩
theorem At.runA (a : At p E δ σ H) {R : List D → Prop} (h : An p ra δ R) {Q : List V → Hp → Prop} (k : ∀ vs ds G' H', Stp p.c E.G E.H G' H' → Same E.b G' → SD p.K p.C G' σ δ → RC p.c G' H' → RM p G' H' → DAs p.K p.C G' vs ds → R ds → Q vs H') : ra σ H Q := by
  obtain ⟨G, st, sb, sd, rc, rm⟩ := a.ex
  exact h σ G H st.sub sd rc rm Q fun v d G' H' st2 rc2 da pd => k v d G' H' (st.trans a.rc0 rc st2) (sb.trans st2.gg) (sd.mono st2.gg) rc2 (rm.stp st2) da pd
/-- fewer slots told -/
theorem At.less {δ' : Sl} (a : At p E δ σ H) (hl : δ'.length = δ.length) (h : ∀ (i : Nat) (d : D), δ'[i]? = some (some d) → δ[i]? = some (some d)) : At p E δ' σ H := by
  obtain ⟨G, st, sb, sd, rc, rm⟩ := a.ex
  exact ⟨⟨G, st, sb, sd.less hl h, rc, rm⟩, a.rc0, a.m0⟩
/-- x = e -/
theorem x_asg (a : At p E δ σ H) (h : En p te δ P) (k : ∀ d σ' H', P d → At p E (δ.set i (some d)) σ' H' → D'.nx σ' H') : tAsg te (gName i) D' σ H :=
  a.run h fun v d G' H' st sb sd rc rm da pd => k d _ H' pd ⟨⟨G', st, sb, sd.set i da, rc, rm⟩, a.rc0, a.m0⟩
theorem q_asg (a : At p E δ σ H) (h : En p te δ P) (k : ∀ d σ' H', P d → At p E (δ.set i (some d)) σ' H' → u D' σ' H') : tSeq (tAsg te (gName i)) u D' σ H := x_asg (D' := { D' with nx := u D' }) a h k
/-- .. its value told -/
theorem q_set {d : D} (a : At p E δ σ H) (h : Ed p te δ d) (k : ∀ σ' H', At p E (δ.set i (some d)) σ' H' → u D' σ' H') : tSeq (tAsg te (gName i)) u D' σ H := q_asg a h fun d' σ' H' e a' => k σ' H' (e ▸ a')
theorem x_set {d : D} (a : At p E δ σ H) (h : Ed p te δ d) (k : ∀ σ' H', At p E (δ.set i (some d)) σ' H' → D'.nx σ' H') : tAsg te (gName i) D' σ H := x_asg a h fun d' σ' H' e a' => k σ' H' (e ▸ a')
/-- return e -/
theorem x_ret (a : At p E δ σ H) (h : En p te δ P) (k : Ret p.K p.C p.c E.G E.H P D'.rt) : tRet te D' σ H := a.run h fun v d G' H' st sb sd rc rm da pd => k v d G' H' st rc da pd
theorem x_if (a : At p E δ σ H) {T : Bool → Prop} (h : Tn p tt δ T) (k1 : T true → ∀ H', At p E δ σ H' → t1 D' σ H') (k2 : T false → ∀ H', At p E δ σ H' → t2 D' σ H') : tIfS tt t1 t2 D' σ H :=
  a.runT h fun b H' tb a' => by
    cases b with
    | true => exact k1 tb H' a'
    | false => exact k2 tb H' a'
theorem q_if (a : At p E δ σ H) {T : Bool → Prop} (h : Tn p tt δ T) (k1 : T true → ∀ H', At p E δ σ H' → t1 { D' with nx := u D' } σ H') (k2 : T false → ∀ H', At p E δ σ H' → t2 { D' with nx := u D' } σ H') : tSeq (tIfS tt t1 t2) u D' σ H :=
  x_if (D' := { D' with nx := u D' }) a h k1 k2
/-- an if whose test is told, nothing otherwise -/
theorem q_when {b : Bool} (a : At p E δ σ H) (h : Td p tt δ b) (k1 : b = true → ∀ H', At p E δ σ H' → t1 { D' with nx := u D' } σ H') (k2 : b = false → ∀ H', At p E δ σ H' → u D' σ H') : tSeq (tIfS tt t1 tNext) u D' σ H :=
  q_if a h (fun e H' a' => k1 e.symm H' a') fun e H' a' => k2 e.symm H' a'
/-- a, b = e1, e2 -/
theorem q_par {R : List D → Prop} (a : At p E δ σ H) (h : An p ra δ R) (hz : ∀ ds, R ds → ds.length = 2) (k : ∀ d1 d2 σ' H', R [d1, d2] → At p E ((δ.set i (some d1)).set j (some d2)) σ' H' → u D' σ' H') : tSeq (tPar i j ra) u D' σ H :=
  a.runA h fun vs ds G' H' st sb sd rc rm da pd => by
    have hl := hz ds pd
    match ds, da, pd with
    | [d1, d2], .cons x1 (.cons x2 .nil), pd => exact ⟨_, _, rfl, k d1 d2 _ H' pd ⟨⟨G', st, sb, (sd.set i x1).set j x2, rc, rm⟩, a.rc0, a.m0⟩⟩
theorem q_parD {d1 d2 : D} (a : At p E δ σ H) (h : Ad p ra δ [d1, d2]) (k : ∀ σ' H', At p E ((δ.set i (some d1)).set j (some d2)) σ' H' → u D' σ' H') : tSeq (tPar i j ra) u D' σ H :=
  q_par a h (fun ds e => by rw [e]; rfl) fun e1 e2 σ' H' e a' => by
    simp only [List.cons.injEq, and_true] at e
    obtain ⟨rfl, rfl⟩ := e
    exact k σ' H' a'
theorem x_parD {d1 d2 : D} (a : At p E δ σ H) (h : Ad p ra δ [d1, d2]) (k : ∀ σ' H', At p E ((δ.set i (some d1)).set j (some d2)) σ' H' → D'.nx σ' H') : tPar i j ra D' σ H :=
  q_parD (u := fun D => D.nx) a h k
/-! ### loops -/
/-- between two turns -/
def LoopAt (p : Pm) (E : Ent) (Iv : Sl → Option (Addr × List D) → Prop) (σ : L2.St) (H : Hp) : Prop := ∃ δ m, Iv δ m ∧ At { p with m := m } E δ σ H
theorem At.setInt {n : Int} (a : At p E δ σ H) : At p E (δ.set j (some (.int n))) (σ.set j (some (.int n))) H := by
  obtain ⟨G, st, sb, sd, rc, rm⟩ := a.ex
  exact ⟨⟨G, st, sb, sd.set j (.int n), rc, rm⟩, a.rc0, a.m0⟩
theorem At.setV {v : V} {d : D} (a : At p E δ σ H) (h : DA p.K p.C E.b v d) : At p E (δ.set j (some d)) (σ.set j (some v)) H := by
  obtain ⟨G, st, sb, sd, rc, rm⟩ := a.ex
  exact ⟨⟨G, st, sb, sd.set j (h.mono sb), rc, rm⟩, a.rc0, a.m0⟩
theorem At.lower {b : Hp} (a : At p { E with b := b } δ σ H) (h : Same E.b b) : At p E δ σ H := by
  obtain ⟨G, st, sb, sd, rc, rm⟩ := a.ex
  exact ⟨⟨G, st, h.trans sb, sd, rc, rm⟩, a.rc0, a.m0⟩
theorem At.sub {a0 : Addr} {xs : List V} (a : At p E δ σ H) (h : SqT p.K E.b a0 xs) : SqT p.K H a0 xs := by
  obtain ⟨G, st, sb, sd, rc, rm⟩ := a.ex
  exact sqT_mono st.sub (sqT_mono sb h)
theorem At.subL {a0 : Addr} {o : HO} (a : At p E δ σ H) (h : E.b a0 = some o) : H a0 = some o := by
  obtain ⟨G, st, sb, sd, rc, rm⟩ := a.ex
  exact st.sub _ _ (sb _ _ h)
/-- for j in range(n) -/
theorem q_forR {n : Int} (a : At p E δ σ H) (h : Ad p ra δ [.int n]) (hn : -100000 ≤ n ∧ n ≤ 100000) (Iv : Nat → Sl → Option (Addr × List D) → Prop) (h0 : Iv 0 δ p.m)
    (hs : ∀ (i : Nat) δ' m' σ' H', (i : Int) < n → Iv i δ' m' → At { p with m := m' } E (δ'.set j (some (.int i))) σ' H' → tb { D' with nx := LoopAt p E (Iv (i + 1)), ct := LoopAt p E (Iv (i + 1)), bk := u D' } σ' H')
    (hd : ∀ δ' m' σ' H', Iv n.toNat δ' m' → At { p with m := m' } E δ' σ' H' → u D' σ' H') : tSeq (tFor (iRng1 ra) (gName j) tb) u D' σ H :=
  a.runA h fun vs ds G' H' st sb sd rc rm da pd => by
    subst pd
    cases da with
    | cons h1 h2 =>
      cases h2
      cases h1
      refine ⟨n, rfl, by omega, by omega, ?_⟩
      refine for_range (D := { D' with nx := u D' }) (lo := 0) (n := n.toNat) (fun i σ' H' => LoopAt p E (Iv i) σ' H') ⟨δ, p.m, h0, ⟨⟨G', st, sb, sd, rc, rm⟩, a.rc0, a.m0⟩⟩ (fun i σ' H' hi ⟨δ', m', iv, a'⟩ => ?_) fun σ' H' ⟨δ', m', iv, a'⟩ => hd δ' m' σ' H' iv a'
      have e0 : (0 : Int) + (i : Int) = (i : Int) := Int.zero_add _
      show tb _ (σ'.set j (some (.int ((0 : Int) + (i : Int))))) H'
      rw [e0]
      exact hs i δ' m' _ H' (by omega) iv a'.setInt
/-- for j in xs, a tuple -/
theorem q_forT {xs : List D} (a : At p E δ σ H) (h : Ed p tl δ (.tup xs)) (Iv : Nat → Sl → Option (Addr × List D) → Prop) (h0 : Iv 0 δ p.m)
    (hs : ∀ (b : Hp) (i : Nat) (x : D) δ' m' σ' H', xs[i]? = some x → Iv i δ' m' → At { p with m := m' } { E with b := b } (δ'.set j (some x)) σ' H' → tb { D' with nx := LoopAt p { E with b := b } (Iv (i + 1)), ct := LoopAt p { E with b := b } (Iv (i + 1)), bk := u D' } σ' H')
    (hd : ∀ δ' m' σ' H', Iv xs.length δ' m' → At { p with m := m' } E δ' σ' H' → u D' σ' H') : tSeq (tFor (iTup p.K tl) (gName j) tb) u D' σ H :=
  a.run h fun v d G' H' st sb sd rc rm da pd => by
    subst pd
    obtain ⟨a0, us, rfl, h1, h2⟩ := da.tup_inv
    have hl := h2.length
    refine ⟨a0, rfl, ⟨us, sqT_mono st.sub h1⟩, ?_⟩
    refine for_tup (D := { D' with nx := u D' }) (xs := us) (fun i σ' H' => LoopAt p { E with b := G' } (Iv i) σ' H') ⟨δ, p.m, h0, ⟨⟨G', st, Same.refl _, sd, rc, rm⟩, a.rc0, a.m0⟩⟩ (fun i σ' H' _ ⟨δ', m', iv, a'⟩ => a'.sub h1) (fun i x σ' H' hx ⟨δ', m', iv, a'⟩ => ?_) fun σ' H' ⟨δ', m', iv, a'⟩ => hd δ' m' σ' H' (by rw [← hl]; exact iv) (a'.lower sb)
    obtain ⟨dx, hdx, dax⟩ := h2.getV hx
    exact hs G' i dx δ' m' _ H' hdx iv (a'.setV dax)
/-- .. a list -/
theorem q_forL {xs : List D} (a : At p E δ σ H) (h : Ed p tl δ (.lst xs)) (Iv : Nat → Sl → Option (Addr × List D) → Prop) (h0 : Iv 0 δ p.m)
    (hs : ∀ (b : Hp) (i : Nat) (x : D) δ' m' σ' H', xs[i]? = some x → Iv i δ' m' → At { p with m := m' } { E with b := b } (δ'.set j (some x)) σ' H' → tb { D' with nx := LoopAt p { E with b := b } (Iv (i + 1)), ct := LoopAt p { E with b := b } (Iv (i + 1)), bk := u D' } σ' H')
    (hd : ∀ δ' m' σ' H', Iv xs.length δ' m' → At { p with m := m' } E δ' σ' H' → u D' σ' H') : tSeq (tFor (iList p.K tl) (gName j) tb) u D' σ H :=
  a.run h fun v d G' H' st sb sd rc rm da pd => by
    subst pd
    obtain ⟨a0, us, rfl, h1, h2⟩ := da.lst_inv
    have hl := h2.length
    refine ⟨a0, rfl, ⟨us, SqL.of (st.sub _ _ h1)⟩, ?_⟩
    refine for_list (D := { D' with nx := u D' }) (xs := us) (fun i σ' H' => LoopAt p { E with b := G' } (Iv i) σ' H') ⟨δ, p.m, h0, ⟨⟨G', st, Same.refl _, sd, rc, rm⟩, a.rc0, a.m0⟩⟩ (fun i σ' H' _ ⟨δ', m', iv, a'⟩ => SqL.of (a'.subL h1)) (fun i x σ' H' hx ⟨δ', m', iv, a'⟩ => ?_) fun σ' H' ⟨δ', m', iv, a'⟩ => hd δ' m' σ' H' (by rw [← hl]; exact iv) (a'.lower sb)
    obtain ⟨dx, hdx, dax⟩ := h2.getV hx
    exact hs G' i dx δ' m' _ H' hdx iv (a'.setV dax)
/-- for i, j in zip(xs, ys), two tuples of one length; the pair is a new tuple that is dropped -/
theorem At.hid {o : HO} {a0 : Addr} (a : At p E δ σ H) (h : H a0 = none) : At p E δ σ (upd H a0 o) := by
  obtain ⟨G, st, sb, sd, rc, rm⟩ := a.ex
  refine ⟨⟨G, st.mut (st.free a.rc0 rc h) (same_none st.sub h), sb, sd, rc.mut (rc.ne h), fun l ds e => ?_⟩, a.rc0, a.m0⟩
  obtain ⟨h1, h2, xs, h3, h4⟩ := rm l ds e
  exact ⟨h1, h2, xs, by rw [upd_ne (ne_of_none h3 h)]; exact h3, h4⟩
theorem q_forZ {xs ys : List D} {g : TG} (a : At p E δ σ H) (h : Ad p ra δ [.tup xs, .tup ys]) (hxy : xs.length = ys.length) (Iv : Nat → Sl → Option (Addr × List D) → Prop) (h0 : Iv 0 δ p.m)
    (hs : ∀ (b : Hp) (i : Nat) (x y : D) (v w : V) (T : Addr) δ' m' σ' H', xs[i]? = some x → ys[i]? = some y → Iv i δ' m' → DA p.K p.C b v x → DA p.K p.C b w y → H' T = some (.tup [v, w]) → At { p with m := m' } { E with b := b } δ' σ' H' →
      g (.ref T) σ' H' fun σ2 H2 => tb { D' with nx := LoopAt p { E with b := b } (Iv (i + 1)), ct := LoopAt p { E with b := b } (Iv (i + 1)), bk := u D' } σ2 H2)
    (hd : ∀ δ' m' σ' H', Iv xs.length δ' m' → At { p with m := m' } E δ' σ' H' → u D' σ' H') : tSeq (tFor (iZipA p.K ra) g tb) u D' σ H :=
  a.runA h fun vs ds G' H' st sb sd rc rm da pd => by
    subst pd
    cases da with
    | cons d1 da =>
      cases da with
      | cons d2 da =>
        cases da
        obtain ⟨a1, us, rfl, h1, h2⟩ := d1.tup_inv
        obtain ⟨a2, ws, rfl, h3, h4⟩ := d2.tup_inv
        have hl := h2.length
        have hl4 := h4.length
        refine ⟨a1, a2, us, ws, rfl, Or.inr ⟨sqT_mono st.sub h1, sqT_mono st.sub h3, ?_⟩⟩
        refine for_zipT (D := { D' with nx := u D' }) (xs := us) (ys := ws) (by omega) (fun i σ' H' => LoopAt p { E with b := G' } (Iv i) σ' H') ⟨δ, p.m, h0, ⟨⟨G', st, Same.refl _, sd, rc, rm⟩, a.rc0, a.m0⟩⟩ (fun i σ' H' ⟨δ', m', iv, a'⟩ => ⟨a'.sub h1, a'.sub h3⟩) (fun i x y T σ' H' hx hy ⟨δ', m', iv, a'⟩ hT => ?_)
          fun σ' H' ⟨δ', m', iv, a'⟩ => hd δ' m' σ' H' (by rw [← hl]; exact iv) (a'.lower sb)
        obtain ⟨dx, hdx, dax⟩ := h2.getV hx
        obtain ⟨dy, hdy, day⟩ := h4.getV hy
        exact hs G' i dx dy x y T δ' m' σ' _ hdx hdy iv dax day upd_same (a'.hid hT)
/-- the plain target of two names -/
theorem g_two {v w : V} {x y : D} {T : Addr} {b : Hp} {K : PySem.W.Frag} {Q : L2.St → Hp → Prop} (a : At p { E with b := b } δ σ H) (hT : H T = some (.tup [v, w])) (dv : DA p.K p.C b v x) (dw : DA p.K p.C b w y) (k : ∀ σ2 H2, At p { E with b := b } ((δ.set i (some x)).set j (some y)) σ2 H2 → Q σ2 H2) :
    gTup K 2 (gCons (gName i) (gCons (gName j) gNil)) (.ref T) σ H Q :=
  ⟨T, [v, w], rfl, SqT.of hT, rfl, v, [w], rfl, w, [], rfl, rfl, k _ _ ((a.setV dv).setV (E := { E with b := b }) dw)⟩
/-- a while: by a measure -/
theorem q_while (a : At p E δ σ H) (Iv : Nat → Sl → Prop) (m0 : Nat) (h0 : Iv m0 δ)
    (hs : ∀ (m : Nat) δ', Iv m δ' → ∃ b, Td p tt δ' b ∧ (b = true → ∀ σ' H', At p E δ' σ' H' → tb { D' with nx := fun σ2 H2 => ∃ m' δ2, m' < m ∧ Iv m' δ2 ∧ At p E δ2 σ2 H2, ct := fun σ2 H2 => ∃ m' δ2, m' < m ∧ Iv m' δ2 ∧ At p E δ2 σ2 H2, bk := u D' } σ' H') ∧
      (b = false → ∀ σ' H', At p E δ' σ' H' → u D' σ' H')) : tSeq (tWhile tt tb) u D' σ H := by
  refine ⟨fun m σ' H' => ∃ δ', Iv m δ' ∧ At p E δ' σ' H', ⟨m0, δ, h0, a⟩, fun m σ' H' ⟨δ', iv, a'⟩ => ?_⟩
  obtain ⟨b, hb, k1, k2⟩ := hs m δ' iv
  refine a'.runT hb fun b' H1 e a1 => ?_
  subst e
  cases b' with
  | true => exact ⟨_, fun σ2 H2 ⟨m', δ2, hm, iv2, a2⟩ => ⟨m', hm, δ2, iv2, a2⟩, k1 rfl σ' H1 a1⟩
  | false => exact k2 rfl σ' H1 a1
end
end K10
set_option Elab.async false
set_option linter.all false
set_option maxRecDepth 100000
set_option maxHeartbeats 4000000
/-! Built-in functions, slices, texts, equality, a written list: upon data. -/
namespace K10
open PySem PySem.Spec PyProof.Rows L2 StX RZ

section
variable {p : Pm} {δ : Sl} {te ta tb tl th : TE} {tt : TT} {P : D → Prop} {ra : TA} {x y d : D} {n : Int}
/-! ### isinstance(x, T), T built in -/
def tyD : D → Option String
  | .non => some "NoneType"
  | .bl _ => some "bool"
  | .int _ => some "int"
  | .str _ => some "str"
  | .tup _ => some "tuple"
  | .lst _ => some "list"
  | .dct => some "dict"
  | .scr _ => none
  | .adr _ => none
  | .mac _ _ _ => none
  | .exc _ _ => none
theorem tyX_of {G H : Hp} {v : V} {T : String} (s : Same G H) (h : DA p.K p.C G v x) (e : tyD x = some T) : TyX p.K H v (.type T) := by
  cases h with
  | non => cases e; exact .base .non
  | bl b => cases e; exact .base (.bl b)
  | int i => cases e; exact .base (.int i)
  | str z => cases e; exact .base (.str z)
  | tup h r =>
    cases e
    rcases h with (h | ⟨o, h⟩) | ⟨o, its, m, h, hc, _⟩
    · exact .base (.tup (s _ _ h))
    · exact .fTuple (s _ _ h)
    · exact .kTuple h hc
  | lst h r => cases e; exact .base (.lst (s _ _ h))
  | dct h => cases e; exact .base (.dK (s _ _ h))
  | adr a => cases e
  | scr h => cases e
  | mac _ _ _ _ => cases e
  | exc _ => cases e
theorem ed_isi {T T' : String} {b : Bool} (h : Ed p te δ x) (e : tyD x = some T) (k : kitB T T' = some b) : Ed p (tCB (rIsi p.K) (tCons te (tCons (tC (.ty T')) tNil))) δ (.bl b) := fun σ G H s sd rc rm Q q =>
  h σ G H s sd rc rm _ fun v d G1 H1 st rc1 dv pd => by
    subst pd
    exact ⟨v, .ty T', .type T, .type T', b, rfl, .ty T', tyX_of st.sub dv e, kit_ty k, q _ _ G1 H1 st rc1 (.bl b) rfl⟩
/-! ### len, abs, int, bool, str, repr, max, min, divmod, list, tuple, all -/
abbrev rLenQ (K : PySem.W.Frag) : List V → Hp → VK → Prop := fun xs H Q => ∃ p ys, xs = [.ref p] ∧ (SqL K H p ys ∨ SqT K H p ys) ∧ Q (.int ys.length) H
theorem rca_lenT {ds : List D} : Rca p (rLenQ p.K) [.tup ds] (· = .int ds.length) := rca_val fun G H vs s rm h => by
  cases h with
  | cons h1 h2 =>
    cases h2
    obtain ⟨a, xs, rfl, e1, e2⟩ := h1.tup_inv
    exact ⟨_, .int _, fun Q q => ⟨a, xs, rfl, Or.inr (sqT_mono s e1), by rw [e2.length]; exact q⟩⟩
theorem rca_lenL {ds : List D} : Rca p (rLenQ p.K) [.lst ds] (· = .int ds.length) := rca_val fun G H vs s rm h => by
  cases h with
  | cons h1 h2 =>
    cases h2
    obtain ⟨a, xs, rfl, e1, e2⟩ := h1.lst_inv
    exact ⟨_, .int _, fun Q q => ⟨a, xs, rfl, Or.inl (SqL.of (s _ _ e1)), by rw [e2.length]; exact q⟩⟩
theorem rca_lenR {ns : List Int} : Rca p (rLenQ p.K) [.scr ns] (· = .int ns.length) := rca_val fun G H vs s rm h => by
  cases h with
  | cons h1 h2 =>
    cases h2
    cases h1 with
    | scr e => exact ⟨_, .int _, fun Q q => ⟨_, _, rfl, Or.inl (Same.seq s e), by rw [List.length_map]; exact q⟩⟩
theorem rca_abs {i : Int} : Rca p (fun xs H Q => ∃ i, xs = [.int i] ∧ Q (.int (if i < 0 then -i else i)) H) [.int i] (· = .int (if i < 0 then -i else i)) := rca_val fun G H vs s rm h => by
  cases h with
  | cons h1 h2 =>
    cases h2
    cases h1
    exact ⟨_, .int _, fun Q q => ⟨i, rfl, q⟩⟩
theorem rca_int {i : Int} : Rca p (fun xs H Q => (∃ i, xs = [.int i] ∧ Q (.int i) H) ∨ ∃ k, xs = [.bl k] ∧ Q (.int (if k then 1 else 0)) H) [.int i] (· = .int i) := rca_val fun G H vs s rm h => by
  cases h with
  | cons h1 h2 =>
    cases h2
    cases h1
    exact ⟨_, .int _, fun Q q => Or.inl ⟨i, rfl, q⟩⟩
/-- an int as a text -/
def strI (i : Int) : PySem.Str := toString i
theorem rca_str {i : Int} (h : i.natAbs.log2 < 1920) : Rca p (fun xs H Q => ∃ i : Int, xs = [.int i] ∧ i.natAbs.log2 < 1920 ∧ Q (.str (toString i)) H) [.int i] (· = .str (strI i)) := rca_val fun G H vs s rm h1 => by
  cases h1 with
  | cons h1 h2 =>
    cases h2
    cases h1
    exact ⟨_, .str _, fun Q q => ⟨i, rfl, h, q⟩⟩
theorem rca_max {i j : Int} : Rca p (fun xs H Q => ∃ i j, xs = [.int i, .int j] ∧ Q (.int (if j > i then j else i)) H) [.int i, .int j] (· = .int (if j > i then j else i)) := rca_val fun G H vs s rm h => by
  cases h with
  | cons h1 h2 =>
    cases h2 with
    | cons h2 h3 =>
      cases h3
      cases h1
      cases h2
      exact ⟨_, .int _, fun Q q => ⟨i, j, rfl, q⟩⟩
theorem rca_min {i j : Int} : Rca p (fun xs H Q => ∃ i j, xs = [.int i, .int j] ∧ Q (.int (if j < i then j else i)) H) [.int i, .int j] (· = .int (if j < i then j else i)) := rca_val fun G H vs s rm h => by
  cases h with
  | cons h1 h2 =>
    cases h2 with
    | cons h2 h3 =>
      cases h3
      cases h1
      cases h2
      exact ⟨_, .int _, fun Q q => ⟨i, j, rfl, q⟩⟩
theorem rca_divmod {i j : Int} (hc : CDiv i j) : Rca p (fun xs H Q => ∃ i j, xs = [.int i, .int j] ∧ CDiv i j ∧ ∀ p, H p = none → Q (.ref p) (upd H p (.tup [.int (i / j), .int (i % j)]))) [.int i, .int j] (· = .tup [.int (i / j), .int (i % j)]) := rca_new fun G H vs s rm h => by
  cases h with
  | cons h1 h2 =>
    cases h2 with
    | cons h2 h3 =>
      cases h3
      cases h1
      cases h2
      exact ⟨.tup [.int (i / j), .int (i % j)], fun a _ _ => .tup (SqT.of upd_same) (.cons (.int _) (.cons (.int _) .nil)), fun Q q => ⟨i, j, rfl, hc, fun a ha => q a ha⟩⟩
abbrev rTupQ (K : PySem.W.Frag) : List V → Hp → VK → Prop := fun xs H Q => ∃ p ys, xs = [.ref p] ∧ ((SqL K H p ys ∧ ∀ l, H l = none → Q (.ref l) (upd H l (.tup ys))) ∨ (SqT K H p ys ∧ Q (.ref p) H))
theorem rca_tupL {ds : List D} : Rca p (rTupQ p.K) [.lst ds] (· = .tup ds) := rca_new fun G H vs s rm h => by
  cases h with
  | cons h1 h2 =>
    cases h2
    obtain ⟨a, xs, rfl, e1, e2⟩ := h1.lst_inv
    exact ⟨.tup xs, fun b _ e => .tup (SqT.of upd_same) (e2.mono e), fun Q q => ⟨a, xs, rfl, Or.inl ⟨SqL.of (s _ _ e1), q⟩⟩⟩
theorem rca_tupM {l : Addr} {ds : List D} (hm : p.m = some (l, ds)) : Rca p (rTupQ p.K) [.adr l] (· = .tup ds) := rca_new fun G H vs s rm h => by
  cases h with
  | cons h1 h2 =>
    cases h2
    cases h1
    obtain ⟨_, g, xs, e1, e2⟩ := rm l ds hm
    exact ⟨.tup xs, fun b _ e => .tup (SqT.of upd_same) (e2.mono e), fun Q q => ⟨l, xs, rfl, Or.inl ⟨SqL.of e1, q⟩⟩⟩
theorem rca_lstT {ds : List D} : Rca p (fun xs H Q => ∃ q ys, xs = [.ref q] ∧ (SqL p.K H q ys ∨ SqT p.K H q ys) ∧ ∀ l, H l = none → Q (.ref l) (upd H l (.lst ys))) [.tup ds] (· = .lst ds) := rca_new fun G H vs s rm h => by
  cases h with
  | cons h1 h2 =>
    cases h2
    obtain ⟨a, xs, rfl, e1, e2⟩ := h1.tup_inv
    exact ⟨.lst xs, fun b _ e => .lst upd_same (e2.mono e), fun Q q => ⟨a, xs, rfl, Or.inr (sqT_mono s e1), q⟩⟩
theorem rca_all {bs : List Bool} : Rca p (rAll p.K) [.lst (bs.map D.bl)] (· = .bl (bs.all id)) := rca_val fun G H vs s rm h => by
  cases h with
  | cons h1 h2 =>
    cases h2
    obtain ⟨a, xs, rfl, e1, e2⟩ := h1.lst_inv
    refine ⟨_, .bl _, fun Q q => ⟨a, bs, rfl, SqL.of (s _ _ ?_), q⟩⟩
    rw [← e2.bls]
    exact e1
/-! ### slices -/
def cutD (ds : List D) (lo hi : Option Int) : List D := (ds.drop (HT.sIx ds.length 0 lo)).take (HT.sIx ds.length ds.length hi - HT.sIx ds.length 0 lo)
theorem od_none : Od p tNoPart δ none := fun σ G H s sd rc rm Q k => k none G H (Stp.refl s) rc rfl
theorem od_some {i : Int} (h : Ed p te δ (.int i)) : Od p (tPart te) δ (some i) := fun σ G H s sd rc rm Q k => h σ G H s sd rc rm _ fun v d G1 H1 st rc1 dv pd => by
  subst pd
  cases dv
  exact ⟨i, rfl, k _ G1 H1 st rc1 rfl⟩
theorem cut_whole {xs : List V} {ds : List D} (hl : xs.length = ds.length) {lo hi : Option Int} (h : HT.sIx xs.length 0 lo = 0 ∧ HT.sIx xs.length xs.length hi = xs.length) : cutD ds lo hi = ds := by
  unfold cutD
  rw [← hl, h.1, h.2, hl, Nat.sub_zero, List.drop_zero, List.take_length]
theorem ed_slT {ds : List D} {to1 to2 : TO} {lo hi : Option Int} (h : Ed p te δ (.tup ds)) (h1 : Od p to1 δ lo) (h2 : Od p to2 δ hi) : Ed p (tSl (rSlA p.K) te to1 to2) δ (.tup (cutD ds lo hi)) := fun σ G H s sd rc rm Q k =>
  h σ G H s sd rc rm _ fun v d G1 H1 st1 rc1 dv pd => h1 σ G1 H1 st1.sub (sd.mono st1.gg) rc1 (rm.stp st1) _ fun o1 G2 H2 st2 rc2 e1 => by
    have s2 := st1.trans rc rc1 st2
    refine h2 σ G2 H2 st2.sub (sd.mono s2.gg) rc2 (rm.stp s2) _ fun o2 G3 H3 st3 rc3 e2 => ?_
    subst pd e1 e2
    have s3 := s2.trans rc rc2 st3
    have dv3 := (dv.mono st2.gg).mono st3.gg
    obtain ⟨a, xs, rfl, q1, q2⟩ := dv3.tup_inv
    have hl := q2.length
    refine ⟨a, xs, rfl, sqT_mono s3.sub q1, fun hw => ?_, fun hw b hb => ?_⟩
    · refine k _ _ G3 H3 s3 rc3 dv3 ?_
      rw [cut_whole hl hw]
    · obtain ⟨s4, r4⟩ := (Stp.new (o := .tup (cutV xs o1 o2)) s3.sub hb).up rc3
      refine k _ _ _ _ (s3.trans rc rc3 s4) r4 (.tup (SqT.of upd_same) (DAs.mono s4.gg ?_)) rfl
      unfold cutV cutD
      rw [hl]
      exact (q2.drop _).take _
theorem ed_slL {ds : List D} {to1 to2 : TO} {lo hi : Option Int} (h : Ed p te δ (.lst ds)) (h1 : Od p to1 δ lo) (h2 : Od p to2 δ hi) : Ed p (tSl (rSlL p.K) te to1 to2) δ (.lst (cutD ds lo hi)) := fun σ G H s sd rc rm Q k =>
  h σ G H s sd rc rm _ fun v d G1 H1 st1 rc1 dv pd => h1 σ G1 H1 st1.sub (sd.mono st1.gg) rc1 (rm.stp st1) _ fun o1 G2 H2 st2 rc2 e1 => by
    have s2 := st1.trans rc rc1 st2
    refine h2 σ G2 H2 st2.sub (sd.mono s2.gg) rc2 (rm.stp s2) _ fun o2 G3 H3 st3 rc3 e2 => ?_
    subst pd e1 e2
    have s3 := s2.trans rc rc2 st3
    have dv3 := (dv.mono st2.gg).mono st3.gg
    obtain ⟨a, xs, rfl, q1, q2⟩ := dv3.lst_inv
    have hl := q2.length
    refine ⟨a, xs, rfl, SqL.of (s3.sub _ _ q1), fun b hb => ?_⟩
    obtain ⟨s4, r4⟩ := (Stp.new (o := .lst (cutV xs o1 o2)) s3.sub hb).up rc3
    refine k _ _ _ _ (s3.trans rc rc3 s4) r4 (.lst upd_same (DAs.mono s4.gg ?_)) rfl
    unfold cutV cutD
    rw [hl]
    exact (q2.drop _).take _
theorem ed_slR {ns : List Int} {to1 to2 : TO} {lo hi : Option Int} (h : Ed p te δ (.scr ns)) (h1 : Od p to1 δ lo) (h2 : Od p to2 δ hi) : Ed p (tSl (rSlL p.K) te to1 to2) δ (.lst (cutD (ns.map D.int) lo hi)) := fun σ G H s sd rc rm Q k =>
  h σ G H s sd rc rm _ fun v d G1 H1 st1 rc1 dv pd => h1 σ G1 H1 st1.sub (sd.mono st1.gg) rc1 (rm.stp st1) _ fun o1 G2 H2 st2 rc2 e1 => by
    have s2 := st1.trans rc rc1 st2
    refine h2 σ G2 H2 st2.sub (sd.mono s2.gg) rc2 (rm.stp s2) _ fun o2 G3 H3 st3 rc3 e2 => ?_
    subst pd e1 e2
    have s3 := s2.trans rc rc2 st3
    have dv3 := (dv.mono st2.gg).mono st3.gg
    cases dv3 with
    | scr q1 =>
      refine ⟨_, ns.map V.int, rfl, Same.seq s3.sub q1, fun b hb => ?_⟩
      obtain ⟨s4, r4⟩ := (Stp.new (o := .lst (cutV (ns.map V.int) o1 o2)) s3.sub hb).up rc3
      refine k _ _ _ _ (s3.trans rc rc3 s4) r4 (.lst upd_same ?_) rfl
      unfold cutV cutD
      rw [List.length_map, List.length_map]
      exact ((DAs.ofInts ns).drop _).take _
theorem cut_to {ds : List D} {k : Nat} : cutD ds none (some (k : Int)) = ds.take k := by
  unfold cutD
  rw [HT.sIx_none, HT.sIx_nat, List.drop_zero, Nat.sub_zero]
  rcases Nat.le_total k ds.length with h | h
  · rw [Nat.min_eq_left h]
  · rw [Nat.min_eq_right h, List.take_of_length_le (Nat.le_refl _), List.take_of_length_le h]
theorem cut_from {ds : List D} {k : Nat} : cutD ds (some (k : Int)) none = ds.drop k := by
  unfold cutD
  rw [HT.sIx_none, HT.sIx_nat]
  rcases Nat.le_total k ds.length with h | h
  · rw [Nat.min_eq_left h]
    exact List.take_of_length_le (by rw [List.length_drop]; exact Nat.le_refl _)
  · rw [Nat.min_eq_right h, List.drop_of_length_le h, List.drop_of_length_le (Nat.le_refl _)]
    simp
theorem cut_init {ds : List D} : cutD ds none (some (-1)) = ds.dropLast := by
  unfold cutD
  have e : HT.sIx ds.length ds.length (some (-1)) = ds.length - 1 := by
    have := HT.clip_eq (-1) ds.length ds.length
    rw [if_pos (by decide)] at this
    omega
  rw [HT.sIx_none, e, List.drop_zero, Nat.sub_zero, List.dropLast_eq_take]
/-! ### texts -/
theorem ed_join {a : PySem.Str} {ss : List PySem.Str} {K : PySem.W.Frag} (hK : K = p.K) (ho : Ed p ta δ (.str a)) (h : Ed p te δ (.lst (ss.map D.str))) (hz : (ss.map (·.length)).sum + ss.length * a.length ≤ 16777216) :
    Ed p (tM1 (fun x xs H Q => ∃ a p, ∃ ys : List PySem.Str, x = .str a ∧ xs = [.ref p] ∧ (SqL K H p (ys.map V.str) ∨ SqT K H p (ys.map V.str)) ∧ (ys.map (·.length)).sum + ys.length * a.length ≤ 16777216 ∧ Q (.str (Txt.join a ys)) H) ta te) δ (.str (Txt.join a ss)) := fun σ G H s sd rc rm Q k =>
  ho σ G H s sd rc rm _ fun v d G1 H1 st1 rc1 dv pd => by
    subst pd hK
    cases dv
    refine ⟨⟨a, rfl⟩, h σ G1 H1 st1.sub (sd.mono st1.gg) rc1 (rm.stp st1) _ fun v2 d2 G2 H2 st2 rc2 dv2 pd2 => ?_⟩
    subst pd2
    obtain ⟨b, xs, rfl, e1, e2⟩ := dv2.lst_inv
    refine ⟨a, b, ss, rfl, rfl, Or.inl ?_, hz, k _ _ G2 H2 (st1.trans rc rc1 st2) rc2 (.str _) rfl⟩
    rw [← e2.strs]
    exact SqL.of (st2.sub _ _ e1)
theorem ed_joinM {a : PySem.Str} {ss : List PySem.Str} {l : Addr} {K : PySem.W.Frag} (hK : K = p.K) (hm : p.m = some (l, ss.map D.str)) (ho : Ed p ta δ (.str a)) (h : Ed p te δ (.adr l)) (hz : (ss.map (·.length)).sum + ss.length * a.length ≤ 16777216) :
    Ed p (tM1 (fun x xs H Q => ∃ a p, ∃ ys : List PySem.Str, x = .str a ∧ xs = [.ref p] ∧ (SqL K H p (ys.map V.str) ∨ SqT K H p (ys.map V.str)) ∧ (ys.map (·.length)).sum + ys.length * a.length ≤ 16777216 ∧ Q (.str (Txt.join a ys)) H) ta te) δ (.str (Txt.join a ss)) := fun σ G H s sd rc rm Q k =>
  ho σ G H s sd rc rm _ fun v d G1 H1 st1 rc1 dv pd => by
    subst pd hK
    cases dv
    refine ⟨⟨a, rfl⟩, h σ G1 H1 st1.sub (sd.mono st1.gg) rc1 (rm.stp st1) _ fun v2 d2 G2 H2 st2 rc2 dv2 pd2 => ?_⟩
    subst pd2
    cases dv2
    have s2 := st1.trans rc rc1 st2
    obtain ⟨_, g, xs, e1, e2⟩ := rm.stp s2 l _ hm
    refine ⟨a, l, ss, rfl, rfl, Or.inl ?_, hz, k _ _ G2 H2 s2 rc2 (.str _) rfl⟩
    rw [← e2.strs]
    exact SqL.of e1
theorem ed_fmtS {z : PySem.Str} (h : Ed p te δ (.str z)) (hz : z.length ≤ 1000000) : Ed p (tFmt te) δ (.str z) := fun σ G H s sd rc rm Q k => h σ G H s sd rc rm _ fun v d G1 H1 st rc1 dv pd => by
  subst pd
  cases dv
  exact Or.inl ⟨z, rfl, Nat.le_trans hz (by decide), k _ _ G1 H1 st rc1 (.str z) rfl⟩
theorem ed_fmtI {i : Int} (h : Ed p te δ (.int i)) (hz : i.natAbs.log2 < 1920) : Ed p (tFmt te) δ (.str (strI i)) := fun σ G H s sd rc rm Q k => h σ G H s sd rc rm _ fun v d G1 H1 st rc1 dv pd => by
  subst pd
  cases dv
  exact Or.inr ⟨i, rfl, hz, k _ _ G1 H1 st rc1 (.str _) rfl⟩
/-- the parts of an f-string -/
inductive Jd (p : Pm) (δ : Sl) : List TE → List PySem.Str → Prop
  | nil : Jd p δ [] []
  | cons {t : TE} {ts : List TE} {z : PySem.Str} {zs : List PySem.Str} : Ed p t δ (.str z) → Jd p δ ts zs → Jd p δ (t :: ts) (z :: zs)
def catS : PySem.Str → List PySem.Str → PySem.Str
  | acc, [] => acc
  | acc, z :: zs => catS (acc ++ z) zs
theorem catS_len : ∀ (zs : List PySem.Str) (acc : PySem.Str), (catS acc zs).length = acc.length + (zs.map (·.length)).sum
  | [], acc => by simp [catS]
  | z :: zs, acc => by
    rw [catS, catS_len zs (acc ++ z), List.map_cons, List.sum_cons]
    have : (acc ++ z).length = acc.length + z.length := by
      show (acc.cps ++ z.cps).size = _
      rw [Array.size_append]
      rfl
    omega
theorem ed_js {ts : List TE} {zs : List PySem.Str} (h : Jd p δ ts zs) (hz : (zs.map (·.length)).sum ≤ 1000000) : Ed p (fun σ H Q => tJs ts PySem.Str.empty σ H fun out H1 => Q (.str out) H1) δ (.str (catS PySem.Str.empty zs)) := fun σ G H s sd rc rm Q k => by
  have go : ∀ {ts : List TE} {zs : List PySem.Str}, Jd p δ ts zs → ∀ (acc : PySem.Str) (G1 H1 : Hp), acc.length + (zs.map (·.length)).sum ≤ 1000000 → Stp p.c G H G1 H1 → RC p.c G1 H1 →
      (∀ G2 H2, Stp p.c G H G2 H2 → RC p.c G2 H2 → Q (.str (catS acc zs)) H2) → tJs ts acc σ H1 (fun out H2 => Q (.str out) H2) := by
    intro ts zs h
    induction h with
    | nil => exact fun acc G1 H1 _ st rc1 q => q G1 H1 st rc1
    | @cons t ts z zs ht _ ih =>
      intro acc G1 H1 hl st rc1 q
      rw [List.map_cons, List.sum_cons] at hl
      refine ht σ G1 H1 st.sub (sd.mono st.gg) rc1 (rm.stp st) _ fun v d G2 H2 st2 rc2 dv pd => ?_
      subst pd
      cases dv
      have e : (acc ++ z).length = acc.length + z.length := by
        show (acc.cps ++ z.cps).size = _
        rw [Array.size_append]
        rfl
      refine ⟨z, rfl, ?_, ih (acc ++ z) G2 H2 (by omega) (st.trans rc rc1 st2) rc2 q⟩
      rw [e]
      exact Nat.le_trans (show acc.length + z.length ≤ 1000000 by omega) (by decide)
  refine go h PySem.Str.empty G H ?_ (Stp.refl s) rc fun G2 H2 st rc2 => k _ _ G2 H2 st rc2 (.str _) rfl
  show 0 + _ ≤ _
  omega
/-! ### == of data -/
mutual
def D.py : D → PyData
  | .non => .none
  | .bl b => .bool b
  | .int i => .int i
  | .str z => .str z
  | .tup ds => .tuple (D.pys ds)
  | .lst ds => .list (D.pys ds)
  | .dct => .none
  | .adr _ => .none
  | .scr _ => .none
  | .mac _ _ _ => .none
  | .exc _ _ => .none
def D.pys : List D → List PyData
  | [] => []
  | d :: ds => d.py :: D.pys ds
end
mutual
/-- data that == knows -/
def D.ok : D → Bool
  | .tup ds => D.oks ds
  | .lst ds => D.oks ds
  | .dct => false
  | .adr _ => false
  | .scr _ => false
  | .mac _ _ _ => false
  | .exc _ _ => false
  | _ => true
def D.oks : List D → Bool
  | [] => true
  | d :: ds => d.ok && D.oks ds
end
mutual
theorem DA.dp {K : PySem.W.Frag} {C : Addr} {G H : Hp} (s : Same G H) : ∀ {v : V} {d : D}, DA K C G v d → d.ok = true → Dp K H v d.py
  | _, _, .non, _ => by unfold D.py; exact .non
  | _, _, .bl b, _ => by unfold D.py; exact .bl b
  | _, _, .int i, _ => by unfold D.py; exact .int i
  | _, _, .str x, _ => by unfold D.py; exact .str x
  | _, _, .tup h r, e => by
    unfold D.py
    exact .tup (sqT_mono s h) (DAs.dp s r (by unfold D.ok at e; exact e))
  | _, _, .lst h r, e => by
    unfold D.py
    exact .lst (SqL.of (s _ _ h)) (DAs.dp s r (by unfold D.ok at e; exact e))
  | _, _, .dct h, e => by unfold D.ok at e; cases e
  | _, _, .adr a, e => by unfold D.ok at e; cases e
  | _, _, .scr h, e => by unfold D.ok at e; cases e
  | _, _, .mac _ _ _ _, e => by unfold D.ok at e; cases e
  | _, _, .exc _, e => by unfold D.ok at e; cases e
theorem DAs.dp {K : PySem.W.Frag} {C : Addr} {G H : Hp} (s : Same G H) : ∀ {vs : List V} {ds : List D}, DAs K C G vs ds → D.oks ds = true → DpAll K H vs (D.pys ds)
  | _, _, .nil, _ => by unfold D.pys; exact .nil
  | _, _, .cons h r, e => by
    unfold D.oks at e
    obtain ⟨e1, e2⟩ := Bool.and_eq_true_iff.mp e
    unfold D.pys
    exact .cons (DA.dp s h e1) (DAs.dp s r e2)
end
theorem rop_eqD (h1 : x.ok = true) (h2 : y.ok = true) (s1 : SeqAt.shaped x.py = true) (s2 : SeqAt.shaped y.py = true) : Rop p (rEqD p.K) x y (· = .bl (PyData.eqv x.py y.py)) := rop_val fun G H v w s rm dx dy =>
  ⟨_, .bl _, fun Q q => ⟨_, _, dx.dp s h1, dy.dp s h2, s1, s2, q⟩⟩
theorem rop_neD (h1 : x.ok = true) (h2 : y.ok = true) (s1 : SeqAt.shaped x.py = true) (s2 : SeqAt.shaped y.py = true) : Rop p (rNeD p.K) x y (· = .bl (!PyData.eqv x.py y.py)) := rop_val fun G H v w s rm dx dy =>
  ⟨_, .bl _, fun Q q => ⟨_, _, dx.dp s h1, dy.dp s h2, s1, s2, q⟩⟩
end

/-! ### a written list of one's own -/
section
variable {p : Pm} {E : Ent} {δ : Sl} {σ : L2.St} {H : Hp} {te ta tb tl : TE} {P : D → Prop} {D' : Ends} {u : TS} {ra : TA} {i j : Nat}
/-- a new hidden list comes into the state -/
theorem At.hide {l : Addr} {xs : List V} {ds : List D} {G : Hp} (st : Stp p.c E.G E.H G H) (sb : Same E.b G) (sd : SD p.K p.C G σ δ) (rc : RC p.c G H) (r0 : RC p.c E.G E.H) (hm : p.m = none) (hl : H l = none) (da : DAs p.K p.C G xs ds) : At { p with m := some (l, ds) } E (δ.set i (some (.adr l))) (σ.set i (some (.ref l))) (upd H l (.lst xs)) := by
  refine ⟨⟨G, st.mut (st.free r0 rc hl) (same_none st.sub hl), sb, sd.set i (.adr l), rc.mut (rc.ne hl), fun l' ds' e => ?_⟩, r0, fun l' ds' e => ?_⟩
  · cases e
    exact ⟨rc.ne hl, same_none st.sub hl, xs, upd_same, da⟩
  · cases e
    exact st.free r0 rc hl
/-- x = [..], to be written -/
theorem q_mkM {R : List D → Prop} (a : At p E δ σ H) (hm : p.m = none) (h : An p ra δ R) (hz : ∀ ds, R ds → ds.length ≤ 100000) (k : ∀ l ds σ' H', R ds → At { p with m := some (l, ds) } E (δ.set i (some (.adr l))) σ' H' → u D' σ' H') : tSeq (tAsg (tLst ra) (gName i)) u D' σ H :=
  a.runA h fun vs ds G' H' st sb sd rc rm da pd => ⟨by rw [da.length]; exact Nat.le_trans (hz ds pd) (by decide), fun l hl => k l ds _ _ pd (At.hide st sb sd rc a.rc0 hm hl da)⟩
/-- x = [..] * n, to be written -/
theorem q_mkR {xs : List D} {n : Int} (a : At p E δ σ H) (hm : p.m = none) (h1 : Ed p ta δ (.lst xs)) (h2 : Ed p tb δ (.int n)) (h0 : 0 ≤ n) (hz : n ≤ 1000) (hl : xs.length ≤ 50) (k : ∀ l σ' H', At { p with m := some (l, (List.replicate n.toNat xs).flatten) } E (δ.set i (some (.adr l))) σ' H' → u D' σ' H') :
    tSeq (tAsg (tOp rRep ta tb) (gName i)) u D' σ H :=
  a.run h1 fun v d G1 H1 st1 sb1 sd1 rc1 rm1 dv pd => by
    subst pd
    refine At.run (E := { E with b := G1 }) ⟨⟨G1, st1, Same.refl _, sd1, rc1, rm1⟩, a.rc0, a.m0⟩ h2 fun w d2 G2 H2 st2 sb2 sd2 rc2 rm2 dw pd2 => ?_
    subst pd2
    cases dw
    obtain ⟨b, us, rfl, e1, e2⟩ := (dv.mono sb2).lst_inv
    have l1 := e2.length
    have hm' : us.length * n.toNat ≤ 50 * 1000 := Nat.mul_le_mul (by omega) (by omega)
    exact ⟨b, n, us, rfl, rfl, st2.sub _ _ e1, by omega, by omega, Nat.le_trans hm' (by decide), fun l hl => k l _ _ (At.hide st2 (sb1.trans sb2) sd2 rc2 a.rc0 hm hl (e2.rep _))⟩
/-- x.append(e) -/
theorem q_app {l : Addr} {ds : List D} {K : PySem.W.Frag} (a : At p E δ σ H) (hm : p.m = some (l, ds)) (hz : ds.length ≤ 100000) (h1 : Ed p tl δ (.adr l)) (h : En p te δ P) (k : ∀ d H', P d → At { p with m := some (l, ds ++ [d]) } E δ σ H' → u D' σ H') :
    tSeq (tDrop (tBM K "list" rAppend tl (tCons te tNil))) u D' σ H :=
  a.run h1 fun v d G1 H1 st1 sb1 sd1 rc1 rm1 dv pd => by
    subst pd
    cases dv
    obtain ⟨hc, g, xs, e1, e2⟩ := rm1 l ds hm
    refine ⟨Or.inl ⟨rfl, _, SqL.of e1⟩, ?_⟩
    have a1 : At p E δ σ H1 := ⟨⟨G1, st1, sb1, sd1, rc1, rm1⟩, a.rc0, a.m0⟩
    refine a1.run h fun w d2 G2 H2 st2 sb2 sd2 rc2 rm2 dw pd2 => ?_
    obtain ⟨hc2, g2, xs2, e3, e4⟩ := rm2 l ds hm
    refine ⟨l, xs2, w, rfl, rfl, e3, by rw [e4.length]; exact Nat.lt_of_le_of_lt hz (by decide), k d2 _ pd2 ?_⟩
    have h0 := a.m0 l ds hm
    refine ⟨⟨G2, st2.mut h0 g2, sb2, sd2, rc2.mut hc2, fun l' ds' e => ?_⟩, a.rc0, fun l' ds' e => ?_⟩
    · cases e
      exact ⟨hc2, g2, _, upd_same, e4.append (.cons dw .nil)⟩
    · cases e
      exact h0
/-- x[i] = e -/
theorem x_setM {l : Addr} {ds : List D} {n : Nat} (a : At p E δ σ H) (hm : p.m = some (l, ds)) (h : En p te δ P) (h1 : Ed p tl δ (.adr l)) (h2 : Ed p ta δ (.int n)) (hn : n < ds.length) (k : ∀ d H', P d → At { p with m := some (l, ds.set n d) } E δ σ H' → D'.nx σ H') :
    tAsg te (gSub tl ta rSetL) D' σ H :=
  a.run h fun w d2 G2 H2 st2 sb2 sd2 rc2 rm2 dw pd2 => by
    have a2 : At p E δ σ H2 := ⟨⟨G2, st2, sb2, sd2, rc2, rm2⟩, a.rc0, a.m0⟩
    show tl σ H2 _
    -- the value stands while the place is read
    refine h1 σ G2 H2 st2.sub sd2 rc2 rm2 _ fun v d G3 H3 st3 rc3 dv pd => ?_
    subst pd
    cases dv
    refine h2 σ G3 H3 st3.sub (sd2.mono st3.gg) rc3 (rm2.stp st3) _ fun v d G4 H4 st4 rc4 dv pd => ?_
    subst pd
    cases dv
    have s4 := (st2.trans a.rc0 rc2 st3).trans a.rc0 rc3 st4
    have sdd := (sd2.mono st3.gg).mono st4.gg
    obtain ⟨hc, g, xs, e1, e2⟩ := (rm2.stp st3).stp st4 l ds hm
    have hl := e2.length
    have e3 : ixN xs.length (n : Int) = some n := by
      unfold ixN
      rw [if_pos (by omega), if_pos (by omega)]
      rfl
    refine ⟨l, xs, n, n, rfl, rfl, e1, e3, k d2 _ pd2 ?_⟩
    have h0 := a.m0 l ds hm
    have dw4 := (dw.mono st3.gg).mono st4.gg
    refine ⟨⟨G4, s4.mut h0 g, (sb2.trans st3.gg).trans st4.gg, sdd, rc4.mut hc, fun l' ds' e => ?_⟩, a.rc0, fun l' ds' e => ?_⟩
    · cases e
      exact ⟨hc, g, _, upd_same, e2.set dw4 n⟩
    · cases e
      exact h0
/-- the written list is only read from now on -/
theorem At.freeze {l : Addr} {ds : List D} (a : At p E δ σ H) (hm : p.m = some (l, ds)) (hi : δ[i]? = some (some (.adr l))) : At { p with m := none } E (δ.set i (some (.lst ds))) σ H := by
  obtain ⟨G, st, sb, sd, rc, rm⟩ := a.ex
  obtain ⟨hc, g, xs, e1, e2⟩ := rm l ds hm
  have h0 := a.m0 l ds hm
  have s1 := st.tell h0 e1 g
  have e : Same G (upd G l (.lst xs)) := fun b u q => by
    rw [upd_ne (ne_of_none q g)]
    exact q
  refine ⟨⟨_, s1, sb.trans e, ?_, rc.tell hc, fun l' ds' z => by cases z⟩, a.rc0, fun l' ds' z => by cases z⟩
  obtain ⟨v, hv, dv⟩ := sd.at_ i _ hi
  cases dv
  have q := (sd.mono e).set i (v := .ref l) (d := .lst ds) (.lst upd_same (e2.mono e))
  have hs : σ.set i (some (V.ref l)) = σ := by
    refine List.ext_getElem? fun j => ?_
    by_cases hj : i = j
    · subst hj
      rw [List.getElem?_set_self (List.getElem?_eq_some_iff.mp hv).1, hv]
    · rw [List.getElem?_set_ne hj]
  rw [hs] at q
  exact q
end
end K10
set_option Elab.async false
set_option linter.all false
set_option maxRecDepth 100000
set_option maxHeartbeats 4000000
/-! Defs of the top: how one is shown to keep its promise. -/
namespace K10
open PySem PySem.Spec PyProof.Rows L2 StX RZ
/-- where all of it stands; C: the class of machines -/
structure Wd where
  P : Program
  w : World
  K : PySem.W.Frag
  mg : PySem.Str → Option Value
  base : Heap
  C : Addr
/-- the j-th statement defines x, and x holds it -/
def DefP (W : Wd) (x : PySem.Str) (j : Nat) : Prop := ∃ f fd, FunD W.K x x (defArgs (top j)) (defBody (top j)) (defScope (top j)) [] [] f fd ∧ W.mg x = some (.ref f)
/-- x holds a def that keeps sp -/
def Fx (W : Wd) (CX : CXT) (k : Nat) (x : PySem.Str) (ps : List PySem.Str) (sp : Sp) : Prop := ∃ f fd, FnOk W.P W.w W.K W.mg W.base CX k f fd ps sp ∧ Binds W.K fd ps [] ∧ W.mg x = some (.ref f) ∧ PySem.W.keepIn W.K (.ref f) = true
abbrev Rel := Option Addr → List D → (D → Prop) → Prop
abbrev Fo (W : Wd) (k : Nat) (x : PySem.Str) (ps : List PySem.Str) (R : Rel) : Prop := Fx W CX0 k x ps (spU W.K W.C R)
/-- what a body must answer -/
def Rd (W : Wd) (N : List PySem.Str) (R : Rel) (t : TS) : Prop := ∀ (c : Option Addr) (ds : List D) (P : D → Prop) (E : Ent) (σ : L2.St) (H : Hp) (Q : VK), R c ds P → At ⟨W.K, W.C, c, none⟩ E (startD N ds) σ H → Ret W.K W.C c E.G E.H P Q →
  t { nx := fun _ H' => Q .non H', rt := Q } σ H
theorem fo_mk {W : Wd} {x : PySem.Str} {j k : Nat} {N ps : List PySem.Str} {R : Rel} (D : DefP W x j) (S : FnScope N ps (defScope (top j)))
    (hb : ∀ (kV doc pm : Value) (an : Option Addr) (cdv ct : Value) (us : List Value), us.length = ps.length → bindArgs (PySem.W.fnOf x x (defArgs (top j)) (defBody (top j)) (defScope (top j)) .none kV doc pm an cdv ct) ⟨us, []⟩ = pure (ps.zip us))
    (len : ∀ c ds P, R c ds P → ds.length = ps.length)
    (body : ∀ (f : Addr) (cdv : Value) (A : Around) (outer : List Env) (s : Shared) (H : Hp) (E : XK), Room k (A.deeper (envOfC x (defScope (top j)) s.heap.objs.size f cdv)) →
      ∃ t, PSs (cxOf CX0 W.P W.w W.K W.mg W.base N x (defScope (top j)) f cdv A outer s H E) (defBody (top j)) t ∧ Rd W N R t) : Fo W (k + 1) x ps R := by
  obtain ⟨f, fd, F, g⟩ := D
  refine ⟨f, fd, F.ok S (fun vs H Q E h => ?_) (fun cdv A outer s H vs Q E hr h => ?_), F.bindsN hb, g, F.kp⟩
  · obtain ⟨c, G, ds, P, _, _, da, r, _⟩ := h
    rw [da.length]
    exact len c ds P r
  · obtain ⟨t, ht, rd⟩ := body f cdv A outer s H E hr
    obtain ⟨c, G, ds, P, sg, rc, da, r, k⟩ := h
    exact ⟨t, ht, rd c ds P ⟨G, H, G⟩ _ H Q r (At.begin sg rc da) k⟩
theorem Fx.mono {W : Wd} {CX : CXT} {k k' : Nat} {x : PySem.Str} {ps : List PySem.Str} {sp : Sp} (F : Fx W CX k x ps sp) (h : k ≤ k') : Fx W CX k' x ps sp := by
  obtain ⟨f, fd, G, b, m, kp⟩ := F
  exact ⟨f, fd, G.mono h, b, m, kp⟩
theorem pe_cf {X : Cx} {C : Addr} {k : Nat} {x : PySem.Str} {ps : List PySem.Str} {R : Rel} {p pos : Pos} {e : Expr} {es : List Expr} {t : TA} (F : Fo ⟨X.prog, X.w, X.K, X.mg, X.base, C⟩ k x ps R) (hr : Room k X.A) (ha : PA X (e :: es) t) (hg : Gl X x := by rfl)
    (hdb : (x == ("__debug__" : Str)) = false := by decide) (he : starEach (e :: es) X.env = (false, eval e X.env) :: starEach es X.env := by rfl) (hpl : (backTo pos (starEach es X.env)).any (·.1) = false := by rfl) :
    PE X (.Call (.Name x p) (e :: es) [] pos) (tCall (spU X.K C R) [] E0 t) := by
  obtain ⟨f, fd, G, b, m, kp⟩ := F
  exact pe_call G hr hg m kp b .nil pass0 ha hdb he hpl
/-- the built-in names that no module binds; the constants -/
structure Fr (mg : PySem.Str → Option Value) : Prop where
  n_len : mg "len" = none
  n_abs : mg "abs" = none
  n_isinstance : mg "isinstance" = none
  n_all : mg "all" = none
  n_divmod : mg "divmod" = none
  n_max : mg "max" = none
  n_min : mg "min" = none
  n_int : mg "int" = none
  n_bool : mg "bool" = none
  n_str : mg "str" = none
  n_tuple : mg "tuple" = none
  n_list : mg "list" = none
  n_repr : mg "repr" = none
  n_range : mg "range" = none
  n_zip : mg "zip" = none
  n_enumerate : mg "enumerate" = none
  n_ValueError : mg "ValueError" = none
  n_LookupError : mg "LookupError" = none
  n_ArithmeticError : mg "ArithmeticError" = none
  c_SHORT : ∃ t, mg "MOST_SHORT" = some (.int 1000000000000 t)
  c_PARTS : ∃ t, mg "MOST_PARTS" = some (.int 3 t)
  c_NUMBERS : ∃ t, mg "MOST_NUMBERS" = some (.int 6 t)
section
variable {X : Cx}
/-- a - b of bools -/
theorem op_subBB : OpR X (binaryOp .Sub) (fun x y H Q => ∃ i k, x = .bl i ∧ y = .bl k ∧ Q (.int (PyProof.Rows.b2i i - PyProof.Rows.b2i k)) H) := by
  intro pins s σ H x y v u Q I rx ry h
  obtain ⟨i, k, rfl, rfl, q⟩ := h
  cases rx
  cases ry
  exact sub_bool ⟨.int (PyProof.Rows.b2i i - PyProof.Rows.b2i k), H, I.tok _, ⟨_, rfl⟩, q⟩
end
/-- numbers of fewer than n bits -/
abbrev Bt (n : Nat) (i : Int) : Prop := i.natAbs < 2 ^ n
theorem Bt.mul {a b : Nat} {i j : Int} (h1 : Bt a i) (h2 : Bt b j) : Bt (a + b) (i * j) := by
  unfold Bt at *
  rw [Int.natAbs_mul, Nat.pow_add]
  exact Nat.mul_lt_mul'' h1 h2
theorem Bt.add {a : Nat} {i j : Int} (h1 : Bt a i) (h2 : Bt a j) : Bt (a + 1) (i + j) := by
  unfold Bt at *
  rw [Nat.pow_succ]
  omega
theorem Bt.le {a b : Nat} {i : Int} (h1 : Bt a i) (h : a ≤ b) : Bt b i := Nat.lt_of_lt_of_le h1 (Nat.pow_le_pow_right (by decide) h)
theorem Rca.imp {p : Pm} {r : List V → Hp → VK → Prop} {xs : List D} {P P' : D → Prop} (h : Rca p r xs P) (q : ∀ d, P d → P' d) : Rca p r xs P' := fun G H vs s rc rm dx Q k => h G H vs s rc rm dx Q fun z d G' H' st rc' dz pd => k z d G' H' st rc' dz (q d pd)
section
variable {p : Pm} {δ : Sl} {te ta tb : TE} {i j : Int}
theorem rop_subBB {a b : Bool} : Rop p (fun x y H Q => ∃ i k, x = .bl i ∧ y = .bl k ∧ Q (.int (PyProof.Rows.b2i i - PyProof.Rows.b2i k)) H) (.bl a) (.bl b) (· = .int (PyProof.Rows.b2i a - PyProof.Rows.b2i b)) := rop_val fun G H v w s rm dx dy => by
  cases dx
  cases dy
  exact ⟨_, .int _, fun Q q => ⟨a, b, rfl, rfl, q⟩⟩
/-- while n: -/
theorem td_int {K : PySem.W.Frag} (h : Ed p te δ (.int i)) : Td p (fun σ H Q => te σ H fun x H' => ∃ k, TruV K x H' k ∧ Q k H') δ (decide (i ≠ 0)) := fun σ G H s sd rc rm Q k => h σ G H s sd rc rm _ fun v d G1 H1 st rc1 da pd => by
  subst pd
  cases da
  refine ⟨_, rfl, k _ G1 H1 st rc1 ?_⟩
  show (i != 0) = decide (i ≠ 0)
  rw [Bool.eq_iff_iff]
  simp
theorem ed_neg (h : Ed p te δ (.int i)) : Ed p (tUn (rU fun i => .int (-i)) te) δ (.int (-i)) := en_un h fun x e G H v s rc rm da Q k => by
  subst e
  cases da
  exact ⟨i, rfl, k _ _ (.int _) rfl⟩
end
theorem rca_absN : Rca p (fun xs H Q => ∃ i, xs = [.int i] ∧ Q (.int (if i < 0 then -i else i)) H) [.int i] (· = .int i.natAbs) := rca_abs.imp fun d e => by
  rw [e]
  congr 1
  split <;> omega
theorem ed_add (h : Ed p ta δ (.int i)) (h2 : Ed p tb δ (.int j)) : Ed p (tOp (rI0 fun i j => .int (i + j)) ta tb) δ (.int (i + j)) := ed_op h h2 rop_I0
theorem ed_sub (h : Ed p ta δ (.int i)) (h2 : Ed p tb δ (.int j)) : Ed p (tOp (rI0 fun i j => .int (i - j)) ta tb) δ (.int (i - j)) := ed_op h h2 rop_I0
theorem ed_mul {a b : Nat} (ha : Bt a i) (hb : Bt b j) (h : Ed p ta δ (.int i)) (h2 : Ed p tb δ (.int j)) (h1 : a + b < 999990 := by decide) : Ed p (tOp (rI CMulW fun i j => .int (i * j)) ta tb) δ (.int (i * j)) :=
  ed_op h h2 (rop_I (wide_mul (a := a + 1) (b := b + 1) (ha.le (Nat.le_succ _)) (hb.le (Nat.le_succ _)) (Nat.succ_pos _) (Nat.succ_pos _) (by omega)))
theorem ed_div {b : Nat} (hj : 0 < j) (hb : Bt b j) (h : Ed p ta δ (.int i)) (h2 : Ed p tb δ (.int j)) (h1 : b < 8999 := by decide) : Ed p (tOp (rI CDivW fun i j => .int (i / j)) ta tb) δ (.int (i / j)) :=
  ed_op h h2 (rop_I (wide_div (b := b + 1) hj (hb.le (Nat.le_succ _)) (Nat.succ_pos _) (by omega)))
theorem ed_mod (hj : 0 < j) (h : Ed p ta δ (.int i)) (h2 : Ed p tb δ (.int j)) : Ed p (tOp (rI (fun _ j => 0 < j) fun i j => .int (i % j)) ta tb) δ (.int (i % j)) := ed_op h h2 (rop_I hj)
theorem ed_lt (h : Ed p ta δ (.int i)) (h2 : Ed p tb δ (.int j)) : Ed p (tOp (rI0 fun i j => .bl (decide (i < j))) ta tb) δ (.bl (decide (i < j))) := ed_op h h2 rop_B0
theorem ed_le (h : Ed p ta δ (.int i)) (h2 : Ed p tb δ (.int j)) : Ed p (tOp (rI0 fun i j => .bl (decide (i ≤ j))) ta tb) δ (.bl (decide (i ≤ j))) := ed_op h h2 rop_B0
theorem ed_gt (h : Ed p ta δ (.int i)) (h2 : Ed p tb δ (.int j)) : Ed p (tOp (rI0 fun i j => .bl (decide (j < i))) ta tb) δ (.bl (decide (j < i))) := ed_op h h2 rop_B0
theorem ed_ge (h : Ed p ta δ (.int i)) (h2 : Ed p tb δ (.int j)) : Ed p (tOp (rI0 fun i j => .bl (decide (j ≤ i))) ta tb) δ (.bl (decide (j ≤ i))) := ed_op h h2 rop_B0
theorem ed_eqI (h : Ed p ta δ (.int i)) (h2 : Ed p tb δ (.int j)) : Ed p (tOp rEq ta tb) δ (.bl (decide (i = j))) := ed_op h h2 rop_eqI
theorem ed_neI (h : Ed p ta δ (.int i)) (h2 : Ed p tb δ (.int j)) : Ed p (tOp rNe ta tb) δ (.bl (!decide (i = j))) := ed_op h h2 rop_neI
theorem ed_ixT {ds : List D} {d : D} (h : Ed p ta δ (.tup ds)) (h2 : Ed p tb δ (.int i)) (e : atI ds i = some d) : Ed p (tOp (rIxT p.K) ta tb) δ d := ed_op h h2 (rop_ixT e)
theorem ed_ixL {ds : List D} {d : D} (h : Ed p ta δ (.lst ds)) (h2 : Ed p tb δ (.int i)) (e : atI ds i = some d) : Ed p (tOp (rIxL p.K) ta tb) δ d := ed_op h h2 (rop_ixL e)
theorem ed_subBB {a b : Bool} (h : Ed p ta δ (.bl a)) (h2 : Ed p tb δ (.bl b)) : Ed p (tOp (fun x y H Q => ∃ i k, x = .bl i ∧ y = .bl k ∧ Q (.int (PyProof.Rows.b2i i - PyProof.Rows.b2i k)) H) ta tb) δ (.int (PyProof.Rows.b2i a - PyProof.Rows.b2i b)) := ed_op h h2 rop_subBB
/-! ### fractions -/
def fd (x : Int × Int) : D := .tup [.int x.1, .int x.2]
def red (a b : Int) : Int × Int := (a / (Int.gcd a b : Int), b / (Int.gcd a b : Int))
def addQ (x y : Int × Int) : Int × Int := red (x.1 * y.2 + y.1 * x.2) (x.2 * y.2)
def mulQ (x y : Int × Int) : Int × Int := red (x.1 * y.1) (x.2 * y.2)
theorem gcd_pos {a b : Int} (h : 0 < b) : (0 : Int) < Int.gcd a b := by
  have := Int.gcd_pos_of_ne_zero_right a (b := b) (by omega)
  omega
theorem gcd_le {a b : Int} (h : 0 < b) : (Int.gcd a b : Int) ≤ b := Int.le_of_dvd h (Int.gcd_dvd_right ..)

abbrev R_divisor : Rel := fun _ ds P => ∃ a b : Int, ds = [.int a, .int b] ∧ P (.int (Int.gcd a b))
abbrev s_divisor : Stmt := top 32
abbrev N_divisor : List PySem.Str := ["one", "other"]
theorem sc_divisor : FnScope N_divisor ["one", "other"] (defScope s_divisor) := ⟨rfl, rfl, rfl, by decide +kernel, rfl, by decide +kernel, by decide +kernel⟩
section
variable {W : Wd}
theorem ok_divisor (T : Fr W.mg) (D : DefP W "divisor" 32) : Fo W 1 "divisor" ["one", "other"] R_divisor := by
  refine fo_mk D sc_divisor (fun _ _ _ _ _ _ us hl => match us, hl with | [_, _], _ => rfl) (fun c ds P ⟨a, b, e, _⟩ => by rw [e]; rfl) fun f cdv A outer s H E hr => ?_
  have nd := sc_divisor.nd
  refine ⟨_, PSs.nox (pss_cons (ps_par (i := 0) (j := 1) rfl nd rfl rfl (by decide) rfl rfl (pa_cons (pe_callB call_abs rfl T.n_abs (by decide +kernel) (pa_cons (pv 0) pa_nil)) (pa_cons (pe_callB call_abs rfl T.n_abs (by decide +kernel) (pa_cons (pv 1) pa_nil)) pa_nil)) (by rfl))
      (pss_cons (ps_while PassesOwn.never (pt_truth (pv 1) (by intro _; rfl)) (pss_one (ps_par (i := 0) (j := 1) rfl nd rfl rfl (by decide) rfl rfl (pa_cons (pv 1) (pa_cons (pe_op op_mod (pe_callTy call_int1 rfl T.n_int (by decide +kernel) (pa_cons (pv 0) pa_nil)) (pv 1)) pa_nil)) (by rfl))))
      (pss_one (ps_ret (pv 0))))), ?_⟩
  rintro c ds P E σ H Q ⟨a, b, rfl, hP⟩ a0 k
  refine q_parD (d1 := .int a.natAbs) (d2 := .int b.natAbs) a0 (ad_cons (ed_cb (ad_cons (ed_var rfl) ad_nil) rca_absN) (ad_cons (ed_cb (ad_cons (ed_var rfl) ad_nil) rca_absN) ad_nil)) fun σ1 H1 a1 => ?_
  refine q_while a1 (fun m δ => ∃ x : Nat, δ = [some (.int x), some (.int m)] ∧ Nat.gcd x m = Int.gcd a b) b.natAbs ⟨a.natAbs, rfl, rfl⟩ ?_
  rintro y δ ⟨x, rfl, hg⟩
  refine ⟨_, td_int (ed_var rfl), fun hy σ2 H2 a2 => ?_, fun hy σ2 H2 a2 => ?_⟩
  · have hy0 : (y : Int) ≠ 0 := of_decide_eq_true hy
    refine x_parD (d1 := .int y) (d2 := .int ((x % y : Nat) : Int)) a2 (ad_cons (ed_var rfl) (ad_cons (Ed.to (ed_mod (show (0 : Int) < y by omega) (ed_cb (ad_cons (ed_var rfl) ad_nil) rca_int) (ed_var rfl)) (by rw [Int.natCast_emod])) ad_nil)) fun σ3 H3 a3 => ?_
    refine ⟨x % y, _, Nat.mod_lt _ (by omega), ⟨y, rfl, ?_⟩, a3⟩
    rw [← hg, Nat.gcd_comm y, ← Nat.gcd_rec, Nat.gcd_comm]
  · have hy0 : (y : Int) = 0 := Classical.not_not.mp (of_decide_eq_false hy)
    have hy1 : y = 0 := by omega
    subst hy1
    rw [Nat.gcd_zero_right] at hg
    exact x_ret a2 (En.of (ed_var rfl) (by rw [hg]; exact hP)) k
end
end K10
set_option Elab.async false
set_option linter.all false
set_option maxRecDepth 100000
set_option maxHeartbeats 4000000
/-! Fractions: the program's and the law's. -/
namespace K10
open PySem PySem.Spec PyProof.Rows L2 StX RZ
abbrev F_divisor (W : Wd) : Prop := Fo W 1 "divisor" ["one", "other"] R_divisor
/-- a fraction of fewer than n bits, its lower number above 0 -/
structure Fq (n : Nat) (x : Int × Int) : Prop where
  pos : 0 < x.2
  b1 : Bt n x.1
  b2 : Bt n x.2
theorem Fq.le {a b : Nat} {x : Int × Int} (h : Fq a x) (hl : a ≤ b) : Fq b x := ⟨h.pos, h.b1.le hl, h.b2.le hl⟩
theorem Bt.div {n : Nat} {i g : Int} (h : Bt n i) (hg : 0 < g) : Bt n (i / g) := by
  unfold Bt at *
  refine Nat.lt_of_le_of_lt ?_ h
  exact Int.natAbs_ediv_le_natAbs i g
theorem fq_red {n : Nat} {a b : Int} (ha : Bt n a) (hb : Bt n b) (h : 0 < b) : Fq n (red a b) := by
  have g := gcd_pos (a := a) h
  refine ⟨?_, ha.div g, hb.div g⟩
  exact Int.ediv_pos_of_pos_of_dvd h (Int.le_of_lt g) (Int.gcd_dvd_right ..)
theorem fq_mul {a b : Nat} {x y : Int × Int} (hx : Fq a x) (hy : Fq b y) : Fq (a + b) (mulQ x y) := fq_red (hx.b1.mul hy.b1) (hx.b2.mul hy.b2) (Int.mul_pos hx.pos hy.pos)
theorem fq_add {a b : Nat} {x y : Int × Int} (hx : Fq a x) (hy : Fq b y) : Fq (a + b + 1) (addQ x y) :=
  fq_red ((hx.b1.mul hy.b2).add (by rw [Nat.add_comm]; exact hy.b1.mul hx.b2)) ((hx.b2.mul hy.b2).le (Nat.le_succ _)) (Int.mul_pos hx.pos hy.pos)
abbrev R_lowest : Rel := fun _ ds P => ∃ a b : Int, ds = [.int a, .int b] ∧ 0 < b ∧ Bt 8000 b ∧ P (fd (red a b))
abbrev s_lowest : Stmt := top 33
abbrev N_lowest : List PySem.Str := ["top", "bottom", "common"]
theorem sc_lowest : FnScope N_lowest ["top", "bottom"] (defScope s_lowest) := ⟨rfl, rfl, rfl, by decide +kernel, rfl, by decide +kernel, by decide +kernel⟩
abbrev F_lowest (W : Wd) : Prop := Fo W 2 "lowest" ["top", "bottom"] R_lowest
section
variable {W : Wd}
theorem ok_lowest (T : Fr W.mg) (hD : DefP W "lowest" 33) (f_divisor : F_divisor W) : F_lowest W := by
  refine fo_mk hD sc_lowest (fun _ _ _ _ _ _ us hl => match us, hl with | [_, _], _ => rfl) (fun c ds P h => by obtain ⟨_, _, e, _⟩ := h; rw [e]; rfl) fun f cdv A outer s H E hr => ?_
  have nd := sc_lowest.nd
  refine ⟨_, PSs.nox (pss_cons (ps_set (i := 2) nd rfl (by first | exact Or.inl rfl | exact Or.inr rfl) (pe_cf f_divisor (hr.mono (by decide)) (pa_cons (pv 0) (pa_cons (pv 1) pa_nil))))
      (pss_cons (ps_if (pt_cmpR op_lt (pv 1) pe_int (nomark _)) (pss_one (ps_set (i := 2) nd rfl (by first | exact Or.inl rfl | exact Or.inr rfl) (pe_un un_neg (pv 2)))) pss_nil)
      (pss_one (ps_ret (pe_tup (pa_cons (pe_op op_fdivW (pv 0) (pv 2)) (pa_cons (pe_op op_fdivW (pv 1) (pv 2)) pa_nil))))))), ?_⟩
  rintro c ds P E σ H Q ⟨a, b, rfl, h0, hb, hP⟩ a0 k
  have hg := gcd_pos (a := a) h0
  have hgb : Bt 8000 (Int.gcd a b : Int) := by
    have := gcd_le (a := a) h0
    unfold Bt at *
    omega
  refine q_set a0 (ed_call (ad_cons (ed_var rfl) (ad_cons (ed_var rfl) ad_nil)) ⟨a, b, rfl, rfl⟩) fun σ1 H1 a1 => ?_
  refine q_when (b := false) a1 (Td.to (td_test (ed_lt (ed_var rfl) ed_int)) (decide_eq_false (by omega))) (fun z => Bool.noConfusion z) fun _ H2 a2 => ?_
  refine x_ret a2 (En.of (ed_tup (ad_cons (ed_div hg hgb (ed_var rfl) (ed_var rfl)) (ad_cons (ed_div hg hgb (ed_var rfl) (ed_var rfl)) ad_nil))) hP) k
end
/-- two fractions, something of both -/
abbrev R_two (g : Int × Int → Int × Int → D) : Rel := fun _ ds P => ∃ x y : Int × Int, ds = [fd x, fd y] ∧ Fq 1000 x ∧ Fq 1000 y ∧ P (g x y)
abbrev R_added : Rel := R_two fun x y => fd (addQ x y)
abbrev R_multiplied : Rel := R_two fun x y => fd (mulQ x y)
abbrev R_is_less : Rel := R_two fun x y => .bl (decide (x.1 * y.2 < y.1 * x.2))
abbrev R_sign : Rel := fun _ ds P => ∃ x : Int × Int, ds = [fd x] ∧ P (.int (PyProof.Rows.b2i (decide (0 < x.1)) - PyProof.Rows.b2i (decide (x.1 < 0))))
abbrev s_added : Stmt := top 34
abbrev N_added : List PySem.Str := ["one", "other"]
theorem sc_added : FnScope N_added ["one", "other"] (defScope s_added) := ⟨rfl, rfl, rfl, by decide +kernel, rfl, by decide +kernel, by decide +kernel⟩
abbrev F_added (W : Wd) : Prop := Fo W 3 "added" ["one", "other"] R_added
abbrev s_multiplied : Stmt := top 35
abbrev N_multiplied : List PySem.Str := ["one", "other"]
theorem sc_multiplied : FnScope N_multiplied ["one", "other"] (defScope s_multiplied) := ⟨rfl, rfl, rfl, by decide +kernel, rfl, by decide +kernel, by decide +kernel⟩
abbrev F_multiplied (W : Wd) : Prop := Fo W 3 "multiplied" ["one", "other"] R_multiplied
abbrev s_is_less : Stmt := top 37
abbrev N_is_less : List PySem.Str := ["one", "other"]
theorem sc_is_less : FnScope N_is_less ["one", "other"] (defScope s_is_less) := ⟨rfl, rfl, rfl, by decide +kernel, rfl, by decide +kernel, by decide +kernel⟩
abbrev F_is_less (W : Wd) : Prop := Fo W 1 "is_less" ["one", "other"] R_is_less
abbrev s_sign : Stmt := top 36
abbrev N_sign : List PySem.Str := ["one"]
theorem sc_sign : FnScope N_sign ["one"] (defScope s_sign) := ⟨rfl, rfl, rfl, by decide +kernel, rfl, by decide +kernel, by decide +kernel⟩
abbrev F_sign (W : Wd) : Prop := Fo W 1 "sign" ["one"] R_sign
section
variable {W : Wd} {p : Pm} {δ : Sl} {te ta tb : TE} {x y : Int × Int}
theorem ed_top (h : Ed p ta δ (fd x)) (h2 : Ed p tb δ (.int 0)) : Ed p (tOp (rIxT p.K) ta tb) δ (.int x.1) := ed_ixT h h2 rfl
theorem ed_low (h : Ed p ta δ (fd x)) (h2 : Ed p tb δ (.int 1)) : Ed p (tOp (rIxT p.K) ta tb) δ (.int x.2) := ed_ixT h h2 rfl
theorem ok_added (T : Fr W.mg) (hD : DefP W "added" 34) (f_lowest : F_lowest W) : F_added W := by
  refine fo_mk hD sc_added (fun _ _ _ _ _ _ us hl => match us, hl with | [_, _], _ => rfl) (fun c ds P h => by obtain ⟨_, _, e, _⟩ := h; rw [e]; rfl) fun f cdv A outer s H E hr => ?_
  have nd := sc_added.nd
  refine ⟨_, PSs.nox (pss_one (ps_ret (pe_cf f_lowest (hr.mono (by decide)) (pa_cons (pe_op op_add (pe_op op_mulW (pe_ix ix_tup (pv 0) pe_int (fun _ _ => rfl)) (pe_ix ix_tup (pv 1) pe_int (fun _ _ => rfl))) (pe_op op_mulW (pe_ix ix_tup (pv 1) pe_int (fun _ _ => rfl)) (pe_ix ix_tup (pv 0) pe_int (fun _ _ => rfl)))) (pa_cons (pe_op op_mulW (pe_ix ix_tup (pv 0) pe_int (fun _ _ => rfl)) (pe_ix ix_tup (pv 1) pe_int (fun _ _ => rfl))) pa_nil))))), ?_⟩
  rintro c ds P E σ H Q ⟨x, y, rfl, hx, hy, hP⟩ a0 k
  refine x_ret a0 (ed_call (ad_cons (ed_add (ed_mul hx.b1 hy.b2 (ed_top (ed_var rfl) ed_int) (ed_low (ed_var rfl) ed_int)) (ed_mul hy.b1 hx.b2 (ed_top (ed_var rfl) ed_int) (ed_low (ed_var rfl) ed_int)))
    (ad_cons (ed_mul hx.b2 hy.b2 (ed_low (ed_var rfl) ed_int) (ed_low (ed_var rfl) ed_int)) ad_nil)) ⟨_, _, rfl, Int.mul_pos hx.pos hy.pos, (hx.b2.mul hy.b2).le (by decide), hP⟩) k
theorem ok_multiplied (T : Fr W.mg) (hD : DefP W "multiplied" 35) (f_lowest : F_lowest W) : F_multiplied W := by
  refine fo_mk hD sc_multiplied (fun _ _ _ _ _ _ us hl => match us, hl with | [_, _], _ => rfl) (fun c ds P h => by obtain ⟨_, _, e, _⟩ := h; rw [e]; rfl) fun f cdv A outer s H E hr => ?_
  have nd := sc_multiplied.nd
  refine ⟨_, PSs.nox (pss_one (ps_ret (pe_cf f_lowest (hr.mono (by decide)) (pa_cons (pe_op op_mulW (pe_ix ix_tup (pv 0) pe_int (fun _ _ => rfl)) (pe_ix ix_tup (pv 1) pe_int (fun _ _ => rfl))) (pa_cons (pe_op op_mulW (pe_ix ix_tup (pv 0) pe_int (fun _ _ => rfl)) (pe_ix ix_tup (pv 1) pe_int (fun _ _ => rfl))) pa_nil))))), ?_⟩
  rintro c ds P E σ H Q ⟨x, y, rfl, hx, hy, hP⟩ a0 k
  refine x_ret a0 (ed_call (ad_cons (ed_mul hx.b1 hy.b1 (ed_top (ed_var rfl) ed_int) (ed_top (ed_var rfl) ed_int))
    (ad_cons (ed_mul hx.b2 hy.b2 (ed_low (ed_var rfl) ed_int) (ed_low (ed_var rfl) ed_int)) ad_nil)) ⟨_, _, rfl, Int.mul_pos hx.pos hy.pos, (hx.b2.mul hy.b2).le (by decide), hP⟩) k
theorem ok_is_less (T : Fr W.mg) (hD : DefP W "is_less" 37)  : F_is_less W := by
  refine fo_mk hD sc_is_less (fun _ _ _ _ _ _ us hl => match us, hl with | [_, _], _ => rfl) (fun c ds P h => by obtain ⟨_, _, e, _⟩ := h; rw [e]; rfl) fun f cdv A outer s H E hr => ?_
  have nd := sc_is_less.nd
  refine ⟨_, PSs.nox (pss_one (ps_ret (pe_cmpR op_lt (pe_op op_mulW (pe_ix ix_tup (pv 0) pe_int (fun _ _ => rfl)) (pe_ix ix_tup (pv 1) pe_int (fun _ _ => rfl))) (pe_op op_mulW (pe_ix ix_tup (pv 1) pe_int (fun _ _ => rfl)) (pe_ix ix_tup (pv 0) pe_int (fun _ _ => rfl))) (nomark _)))), ?_⟩
  rintro c ds P E σ H Q ⟨x, y, rfl, hx, hy, hP⟩ a0 k
  refine x_ret a0 (En.of (ed_lt (ed_mul hx.b1 hy.b2 (ed_top (ed_var rfl) ed_int) (ed_low (ed_var rfl) ed_int)) (ed_mul hy.b1 hx.b2 (ed_top (ed_var rfl) ed_int) (ed_low (ed_var rfl) ed_int))) hP) k
theorem ok_sign (T : Fr W.mg) (hD : DefP W "sign" 36)  : F_sign W := by
  refine fo_mk hD sc_sign (fun _ _ _ _ _ _ us hl => match us, hl with | [_], _ => rfl) (fun c ds P h => by obtain ⟨_, e, _⟩ := h; rw [e]; rfl) fun f cdv A outer s H E hr => ?_
  have nd := sc_sign.nd
  refine ⟨_, PSs.nox (pss_one (ps_ret (pe_op op_subBB (pe_cmpR op_gt (pe_ix ix_tup (pv 0) pe_int (fun _ _ => rfl)) pe_int (nomark _)) (pe_cmpR op_lt (pe_ix ix_tup (pv 0) pe_int (fun _ _ => rfl)) pe_int (nomark _))))), ?_⟩
  rintro c ds P E σ H Q ⟨x, rfl, hP⟩ a0 k
  refine x_ret a0 (En.of (ed_subBB (ed_gt (ed_top (ed_var rfl) ed_int) ed_int) (ed_lt (ed_top (ed_var rfl) ed_int) ed_int)) hP) k
end
/-! the law's own -/
def lowTurn (s : Nat × Nat) : Nat × Nat := if s.2 > 0 then (s.2, s.1 % s.2) else s
def lowTurns : Nat → Nat × Nat → Nat × Nat
  | 0, s => s
  | n + 1, s => lowTurns n (lowTurn s)
theorem low_gcd : ∀ (n : Nat) (s : Nat × Nat), Nat.gcd (lowTurns n s).1 (lowTurns n s).2 = Nat.gcd s.1 s.2
  | 0, s => rfl
  | n + 1, s => by
    rw [lowTurns, low_gcd n]
    unfold lowTurn
    split
    · show Nat.gcd s.2 (s.1 % s.2) = _
      rw [Nat.gcd_comm s.2, ← Nat.gcd_rec, Nat.gcd_comm]
    · rfl
theorem lowTurns_succ : ∀ (n : Nat) (s : Nat × Nat), lowTurns (n + 1) s = lowTurn (lowTurns n s)
  | 0, s => rfl
  | n + 1, s => by
    show lowTurns (n + 1) (lowTurn s) = _
    rw [lowTurns_succ n]
    rfl
/-- (Fibonacci) -/
def fibs : Nat → Nat × Nat
  | 0 => (0, 1)
  | n + 1 => let r := fibs n; (r.2, r.1 + r.2)
theorem low_fib : ∀ (n : Nat) (s : Nat × Nat), s.2 < s.1 → 0 < (lowTurns n s).2 → (fibs (n + 1)).1 ≤ s.2 ∧ (fibs (n + 1)).2 ≤ s.1
  | 0, s, h, h2 => by
    have h3 : 0 < s.2 := h2
    show 1 ≤ s.2 ∧ 0 + 1 ≤ s.1
    omega
  | n + 1, s, h, h2 => by
    have h3 : 0 < (lowTurns n (lowTurn s)).2 := h2
    by_cases h0 : s.2 > 0
    · have e : lowTurn s = (s.2, s.1 % s.2) := if_pos h0
      rw [e] at h3
      have hm : s.1 % s.2 < s.2 := Nat.mod_lt _ h0
      obtain ⟨i1, i2⟩ := low_fib n (s.2, s.1 % s.2) hm h3
      have hd : s.2 + s.1 % s.2 ≤ s.1 := by
        have e1 := Nat.div_add_mod s.1 s.2
        have e2 : 1 ≤ s.1 / s.2 := Nat.div_pos (Nat.le_of_lt h) h0
        have e3 : s.2 * 1 ≤ s.2 * (s.1 / s.2) := Nat.mul_le_mul_left _ e2
        omega
      refine ⟨i2, ?_⟩
      show (fibs (n + 1)).1 + (fibs (n + 1)).2 ≤ s.1
      have i1' : (fibs (n + 1)).1 ≤ s.1 % s.2 := i1
      have i2' : (fibs (n + 1)).2 ≤ s.2 := i2
      omega
    · have e : lowTurn s = s := if_neg h0
      exfalso
      have z : s.2 = 0 := by omega
      have stay : ∀ m, lowTurns m s = s := by
        intro m
        induction m with
        | zero => rfl
        | succ m ih => rw [lowTurns, e, ih]
      rw [e, stay] at h3
      omega
theorem fibs_val : 2 ^ 130 ≤ (fibs 200).1 := by decide +kernel
/-- two hundred turns suffice below 2^130 -/
theorem low_done (a b : Nat) (h : b < 2 ^ 130) : lowTurns 200 (a, b) = (Nat.gcd a b, 0) := by
  have z : (lowTurns 200 (a, b)).2 = 0 := by
    rcases Nat.eq_zero_or_pos (lowTurns 200 (a, b)).2 with z | hp
    · exact z
    exfalso
    have h1 : 0 < (lowTurns 199 (lowTurn (a, b))).2 := hp
    by_cases hb : b > 0
    · have e : lowTurn (a, b) = (b, a % b) := if_pos hb
      rw [e] at h1
      obtain ⟨_, i2⟩ := low_fib 199 (b, a % b) (Nat.mod_lt _ hb) h1
      have f := fibs_val
      have i2' : (fibs 200).2 ≤ b := i2
      have mono : (fibs 200).1 ≤ (fibs 200).2 := by decide +kernel
      omega
    · have e : lowTurn (a, b) = (a, b) := if_neg hb
      have stay : ∀ m, lowTurns m (a, b) = (a, b) := by
        intro m
        induction m with
        | zero => rfl
        | succ m ih => rw [lowTurns, e, ih]
      rw [e, stay] at h1
      exact hb h1
  have g := low_gcd 200 (a, b)
  rw [z, Nat.gcd_zero_right] at g
  exact Prod.ext g z
abbrev R__law_low : Rel := fun _ ds P => ∃ a b : Int, ds = [.int a, .int b] ∧ 0 < b ∧ Bt 130 b ∧ P (fd (red a b))
abbrev R_twoL (g : Int × Int → Int × Int → D) : Rel := fun _ ds P => ∃ x y : Int × Int, ds = [fd x, fd y] ∧ 0 < x.2 ∧ 0 < y.2 ∧ Bt 1000 x.1 ∧ Bt 1000 y.1 ∧ Bt 130 (x.2 * y.2) ∧ P (g x y)
abbrev R__law_sum : Rel := R_twoL fun x y => fd (addQ x y)
abbrev R__law_mul : Rel := R_twoL fun x y => fd (mulQ x y)
abbrev R__law_less : Rel := R_two fun x y => .bl (decide (x.1 * y.2 < y.1 * x.2))
abbrev s__law_low : Stmt := top 72
abbrev N__law_low : List PySem.Str := ["_law_above", "_law_below", "_law_one_here", "_law_two_here", "_law_turn"]
theorem sc__law_low : FnScope N__law_low ["_law_above", "_law_below"] (defScope s__law_low) := ⟨rfl, rfl, rfl, by decide +kernel, rfl, by decide +kernel, by decide +kernel⟩
abbrev F__law_low (W : Wd) : Prop := Fo W 1 "_law_low" ["_law_above", "_law_below"] R__law_low
abbrev s__law_sum : Stmt := top 73
abbrev N__law_sum : List PySem.Str := ["_law_near", "_law_far"]
theorem sc__law_sum : FnScope N__law_sum ["_law_near", "_law_far"] (defScope s__law_sum) := ⟨rfl, rfl, rfl, by decide +kernel, rfl, by decide +kernel, by decide +kernel⟩
abbrev F__law_sum (W : Wd) : Prop := Fo W 2 "_law_sum" ["_law_near", "_law_far"] R__law_sum
abbrev s__law_mul : Stmt := top 74
abbrev N__law_mul : List PySem.Str := ["_law_near", "_law_far"]
theorem sc__law_mul : FnScope N__law_mul ["_law_near", "_law_far"] (defScope s__law_mul) := ⟨rfl, rfl, rfl, by decide +kernel, rfl, by decide +kernel, by decide +kernel⟩
abbrev F__law_mul (W : Wd) : Prop := Fo W 2 "_law_mul" ["_law_near", "_law_far"] R__law_mul
abbrev s__law_less : Stmt := top 75
abbrev N__law_less : List PySem.Str := ["_law_near", "_law_far"]
theorem sc__law_less : FnScope N__law_less ["_law_near", "_law_far"] (defScope s__law_less) := ⟨rfl, rfl, rfl, by decide +kernel, rfl, by decide +kernel, by decide +kernel⟩
abbrev F__law_less (W : Wd) : Prop := Fo W 1 "_law_less" ["_law_near", "_law_far"] R__law_less
section
variable {W : Wd}
theorem ok__law_low (T : Fr W.mg) (hD : DefP W "_law_low" 72)  : F__law_low W := by
  refine fo_mk hD sc__law_low (fun _ _ _ _ _ _ us hl => match us, hl with | [_, _], _ => rfl) (fun c ds P h => by obtain ⟨_, _, e, _⟩ := h; rw [e]; rfl) fun f cdv A outer s H E hr => ?_
  have nd := sc__law_low.nd
  refine ⟨_, PSs.nox (pss_cons (ps_par (i := 2) (j := 3) rfl nd rfl rfl (by decide) rfl rfl (pa_cons (pe_callB call_abs rfl T.n_abs (by decide +kernel) (pa_cons (pv 0) pa_nil)) (pa_cons (pv 1) pa_nil)) (by rfl))
      (pss_cons (ps_for PassesOwn.never rfl (pi_range1 rfl T.n_range (pa_cons pe_int pa_nil)) (pg_name (i := 4) nd rfl (by first | exact Or.inl rfl | exact Or.inr rfl)) (pss_one (ps_if (pt_cmpR op_gt (pv 3) pe_int (nomark _)) (pss_one (ps_par (i := 2) (j := 3) rfl nd rfl rfl (by decide) rfl rfl (pa_cons (pv 3) (pa_cons (pe_op op_mod (pe_callTy call_int1 rfl T.n_int (by decide +kernel) (pa_cons (pv 2) pa_nil)) (pv 3)) pa_nil)) (by rfl))) pss_nil)))
      (pss_one (ps_ret (pe_tup (pa_cons (pe_op op_fdivW (pv 0) (pv 2)) (pa_cons (pe_op op_fdivW (pv 1) (pv 2)) pa_nil))))))), ?_⟩
  rintro c ds P E σ H Q ⟨a, b, rfl, h0, hb, hP⟩ a0 k
  have hg := gcd_pos (a := a) h0
  have hgb : Bt 130 (Int.gcd a b : Int) := by
    have := gcd_le (a := a) h0
    unfold Bt at *
    omega
  refine q_parD (d1 := .int a.natAbs) (d2 := .int b) a0 (ad_cons (ed_cb (ad_cons (ed_var rfl) ad_nil) rca_absN) (ad_cons (ed_var rfl) ad_nil)) fun σ1 H1 a1 => ?_
  refine q_forR a1 (ad_cons ed_int ad_nil) (by decide) (fun i δ m => m = none ∧ ∃ o, δ = [some (.int a), some (.int b), some (.int (lowTurns i (a.natAbs, b.natAbs)).1), some (.int (lowTurns i (a.natAbs, b.natAbs)).2), o]) ⟨rfl, none, ?_⟩ ?_ ?_
  · have : b = (b.natAbs : Int) := by omega
    show _ = [some (D.int a), some (D.int b), some (D.int a.natAbs), some (D.int b.natAbs), none]
    rw [← this]
    rfl
  · rintro i δ m σ2 H2 hi ⟨rfl, o, rfl⟩ a2
    have e := lowTurns_succ i (a.natAbs, b.natAbs)
    generalize lowTurns i (a.natAbs, b.natAbs) = s at a2 e
    obtain ⟨x, y⟩ := s
    refine x_if a2 (td_test (ed_gt (ed_var rfl) ed_int)) (fun hy H3 a3 => ?_) fun hy H3 a3 => ?_
    · have hy1 : 0 < (y : Int) := of_decide_eq_true hy.symm
      have e2 : lowTurn (x, y) = (y, x % y) := if_pos (by omega)
      rw [e2] at e
      refine x_parD (d1 := .int y) (d2 := .int ((x % y : Nat) : Int)) a3 (ad_cons (ed_var rfl) (ad_cons (Ed.to (ed_mod hy1 (ed_cb (ad_cons (ed_var rfl) ad_nil) rca_int) (ed_var rfl)) (by rw [Int.natCast_emod])) ad_nil)) fun σ4 H4 a4 => ?_
      exact ⟨_, none, ⟨rfl, some (.int i), by rw [e]; rfl⟩, a4⟩
    · have hy1 : ¬ 0 < (y : Int) := of_decide_eq_false hy.symm
      have e2 : lowTurn (x, y) = (x, y) := if_neg (by show ¬ y > 0; omega)
      rw [e2] at e
      exact ⟨_, none, ⟨rfl, some (.int i), by rw [e]; rfl⟩, a3⟩
  · rintro δ m σ2 H2 ⟨rfl, o, rfl⟩ a2
    have e : lowTurns (Int.toNat 200) (a.natAbs, b.natAbs) = (Nat.gcd a.natAbs b.natAbs, 0) := low_done _ _ hb
    rw [e] at a2
    refine x_ret a2 (En.of (ed_tup (ad_cons (ed_div hg hgb (ed_var rfl) (ed_var rfl)) (ad_cons (ed_div hg hgb (ed_var rfl) (ed_var rfl)) ad_nil))) hP) k
theorem ok__law_sum (T : Fr W.mg) (hD : DefP W "_law_sum" 73) (f__law_low : F__law_low W) : F__law_sum W := by
  refine fo_mk hD sc__law_sum (fun _ _ _ _ _ _ us hl => match us, hl with | [_, _], _ => rfl) (fun c ds P h => by obtain ⟨_, _, e, _⟩ := h; rw [e]; rfl) fun f cdv A outer s H E hr => ?_
  have nd := sc__law_sum.nd
  refine ⟨_, PSs.nox (pss_one (ps_ret (pe_cf f__law_low (hr.mono (by decide)) (pa_cons (pe_op op_add (pe_op op_mulW (pe_ix ix_tup (pv 0) pe_int (fun _ _ => rfl)) (pe_ix ix_tup (pv 1) pe_int (fun _ _ => rfl))) (pe_op op_mulW (pe_ix ix_tup (pv 1) pe_int (fun _ _ => rfl)) (pe_ix ix_tup (pv 0) pe_int (fun _ _ => rfl)))) (pa_cons (pe_op op_mulW (pe_ix ix_tup (pv 0) pe_int (fun _ _ => rfl)) (pe_ix ix_tup (pv 1) pe_int (fun _ _ => rfl))) pa_nil))))), ?_⟩
  rintro c ds P E σ H Q ⟨x, y, rfl, px, py, b1, b2, b3, hP⟩ a0 k
  have hx2 : Bt 130 x.2 := by
    unfold Bt at *
    rw [Int.natAbs_mul] at b3
    have : 1 ≤ y.2.natAbs := by omega
    have := Nat.mul_le_mul_left x.2.natAbs this
    omega
  have hy2 : Bt 130 y.2 := by
    unfold Bt at *
    rw [Int.natAbs_mul] at b3
    have : 1 ≤ x.2.natAbs := by omega
    have := Nat.mul_le_mul_right y.2.natAbs this
    omega
  refine x_ret a0 (ed_call (ad_cons (ed_add (ed_mul b1 hy2 (ed_top (ed_var rfl) ed_int) (ed_low (ed_var rfl) ed_int)) (ed_mul b2 hx2 (ed_top (ed_var rfl) ed_int) (ed_low (ed_var rfl) ed_int)))
    (ad_cons (ed_mul hx2 hy2 (ed_low (ed_var rfl) ed_int) (ed_low (ed_var rfl) ed_int)) ad_nil)) ⟨_, _, rfl, Int.mul_pos px py, b3, hP⟩) k
theorem ok__law_mul (T : Fr W.mg) (hD : DefP W "_law_mul" 74) (f__law_low : F__law_low W) : F__law_mul W := by
  refine fo_mk hD sc__law_mul (fun _ _ _ _ _ _ us hl => match us, hl with | [_, _], _ => rfl) (fun c ds P h => by obtain ⟨_, _, e, _⟩ := h; rw [e]; rfl) fun f cdv A outer s H E hr => ?_
  have nd := sc__law_mul.nd
  refine ⟨_, PSs.nox (pss_one (ps_ret (pe_cf f__law_low (hr.mono (by decide)) (pa_cons (pe_op op_mulW (pe_ix ix_tup (pv 0) pe_int (fun _ _ => rfl)) (pe_ix ix_tup (pv 1) pe_int (fun _ _ => rfl))) (pa_cons (pe_op op_mulW (pe_ix ix_tup (pv 0) pe_int (fun _ _ => rfl)) (pe_ix ix_tup (pv 1) pe_int (fun _ _ => rfl))) pa_nil))))), ?_⟩
  rintro c ds P E σ H Q ⟨x, y, rfl, px, py, b1, b2, b3, hP⟩ a0 k
  have hx2 : Bt 130 x.2 := by
    unfold Bt at *
    rw [Int.natAbs_mul] at b3
    have : 1 ≤ y.2.natAbs := by omega
    have := Nat.mul_le_mul_left x.2.natAbs this
    omega
  have hy2 : Bt 130 y.2 := by
    unfold Bt at *
    rw [Int.natAbs_mul] at b3
    have : 1 ≤ x.2.natAbs := by omega
    have := Nat.mul_le_mul_right y.2.natAbs this
    omega
  refine x_ret a0 (ed_call (ad_cons (ed_mul b1 b2 (ed_top (ed_var rfl) ed_int) (ed_top (ed_var rfl) ed_int))
    (ad_cons (ed_mul hx2 hy2 (ed_low (ed_var rfl) ed_int) (ed_low (ed_var rfl) ed_int)) ad_nil)) ⟨_, _, rfl, Int.mul_pos px py, b3, hP⟩) k
theorem ok__law_less (T : Fr W.mg) (hD : DefP W "_law_less" 75)  : F__law_less W := by
  refine fo_mk hD sc__law_less (fun _ _ _ _ _ _ us hl => match us, hl with | [_, _], _ => rfl) (fun c ds P h => by obtain ⟨_, _, e, _⟩ := h; rw [e]; rfl) fun f cdv A outer s H E hr => ?_
  have nd := sc__law_less.nd
  refine ⟨_, PSs.nox (pss_one (ps_ret (pe_cmpR op_lt (pe_op op_mulW (pe_ix ix_tup (pv 0) pe_int (fun _ _ => rfl)) (pe_ix ix_tup (pv 1) pe_int (fun _ _ => rfl))) (pe_op op_mulW (pe_ix ix_tup (pv 1) pe_int (fun _ _ => rfl)) (pe_ix ix_tup (pv 0) pe_int (fun _ _ => rfl))) (nomark _)))), ?_⟩
  rintro c ds P E σ H Q ⟨x, y, rfl, hx, hy, hP⟩ a0 k
  refine x_ret a0 (En.of (ed_lt (ed_mul hx.b1 hy.b2 (ed_top (ed_var rfl) ed_int) (ed_low (ed_var rfl) ed_int)) (ed_mul hy.b1 hx.b2 (ed_top (ed_var rfl) ed_int) (ed_low (ed_var rfl) ed_int))) hP) k
end
end K10
set_option Elab.async false
set_option linter.all false
set_option maxRecDepth 100000
set_option maxHeartbeats 4000000
/-! for i, x in enumerate(t), t a tuple. -/
namespace K10
open PySem PySem.Spec PyProof.Rows L2 StX RZ
theorem enumNew1 {u : Value} {ob : Obj} {Hh : Heap → Prop} (B : Begins u ob Hh) : Meets (Builtin.«enumerate.__new__» ⟨[.type "enumerate", u], []⟩) (fun _ R z => Hh z.heap ∧ R (.ok (.ret (.ref (z.heap.push ob).objs.size)))
    { z with heap := (z.heap.push ob).push { cls := .type "enumerate", data := .fields #[.none, .bool false, .ref z.heap.objs.size, rawInt 0, .none, .none] } }) := .of_wp fun pg wd Ar R z hz => by
  obtain ⟨h0, g0, d0, k0, o0⟩ := z
  obtain ⟨hb, hz⟩ := hz
  have hsub := sub_enumerate
  have itr : ∀ {A' : Around} {E : Value → Shared → Prop} {Q : Value → Shared → Prop}, Q (.ref h0.objs.size) ⟨h0.push ob, g0, d0, k0, o0⟩ → wpAny (model pg wd) A' (pyIter u) Q E ⟨h0, g0, d0, k0, o0⟩ :=
    fun qq => B.iter pg wd _ _ ⟨h0, g0, d0, k0, o0⟩ _ hb qq
  wp_walk using itr
  refine wpAny_stack_any fun _ => wpAny_pure ?_
  split
  · rename_i cc _ _ _ _ _
    cases (cc == Value.type "enumerate") <;> (wp_walk using itr; exact ⟨_, rfl, hz⟩)
  · wp_walk using itr
    exact ⟨_, rfl, hz⟩
theorem enumCall {pg : Program} {wd : World} {Ar : Around} {Ex : Value → Shared → Prop} {z : Shared} {u : Value} {ob : Obj} {Hh : Heap → Prop} {Q : Value → Shared → Prop} (B : Begins u ob Hh) (hb : Hh z.heap)
    (k : ∀ h2, IsEnum h2 (z.heap.objs.size + 1) z.heap.objs.size 0 .none → h2.get? z.heap.objs.size = some ob → (∀ b v, z.heap.get? b = some v → h2.get? b = some v) → Q (.ref (z.heap.objs.size + 1)) { z with heap := h2 }) :
    wpAny (model pg wd) Ar (call (.type "enumerate") [u]) Q Ex z := by
  refine callType_new F.called_enumerate (by decide) (F.typeCall_enumerate_1 _) (F.newCall_enumerate_1 _) (fun _ => F.args_object_init_2 _ _) F.entry_enumerate_new (enumNew1 B) ⟨hb, ?_⟩
  have sz : (z.heap.push ob).objs.size = z.heap.objs.size + 1 := Heap.size_push ..
  have at2 := Heap.get?_push_size (z.heap.push ob) (o := { cls := .type "enumerate", data := .fields #[.none, .bool false, .ref z.heap.objs.size, rawInt 0, .none, .none] }) rfl
  show _ ∧ _
  rw [sz] at at2 ⊢
  refine ⟨⟨_, at2, rfl⟩, k _ at2 (Heap.get?_push_of_some _ (Heap.get?_push_size _ B.free)) fun b v hv => ?_⟩
  exact Heap.get?_push_of_some _ (Heap.get?_push_of_some _ hv)
/-- the tuple at a: each item in a new pair -/
def ItE (K : PySem.W.Frag) (a : Addr) : It where
  go := fun i H => ∃ (xs : List V) (x : V), SqT K H a xs ∧ xs[i]? = some x
  yld := fun i H v H' => ∃ T x, v = .ref T ∧ H T = none ∧ H' = upd H T (.tup [.int (i : Nat), x]) ∧ ∀ xs, SqT K H a xs → xs[i]? = some x
  stop := fun i H => ∃ xs : List V, SqT K H a xs ∧ xs.length ≤ i
/-- the enumerate at e, above the tuple's iterator at it -/
structure EnAt (h : Heap) (e it a : Addr) (i : Nat) : Prop where
  en : ∃ old, IsEnum h e it ((i : Nat) : Int) old
  ti : h.IsTupleIter it a i
  ne : e ≠ it
  na : e ≠ a
  ni : a ≠ it
theorem turnE {P : Program} {w : World} {K : PySem.W.Frag} {elts : List Expr} {kk : Nat} {tpos : Pos} (a e it : Addr) : Turn P w K (.Tuple elts kk tpos) (ItE K a) [e, it] e (fun i h => EnAt h e it a i) where
  mem := List.mem_cons_self
  obj := fun i h st b hb => by
    obtain ⟨⟨old, he⟩, ⟨o, ho, hc, hd⟩, _⟩ := st
    rcases List.mem_cons.mp hb with z | z
    · exact z ▸ ⟨_, he, fun v q => nomatch q⟩
    · exact List.mem_singleton.mp z ▸ ⟨o, ho, fun v q => by rw [hd] at q; cases q⟩
  keep := fun i h h' st k => by
    obtain ⟨⟨old, he⟩, hi, n1, n2, n3⟩ := st
    exact ⟨⟨old, k e List.mem_cons_self _ he⟩, hi.at fun o q => k it (List.mem_cons_of_mem _ List.mem_cons_self) o q, n1, n2, n3⟩
  item := by
    intro X hP hw hK hc i pins s σ H E I hf st hg
    subst hP hw hK
    obtain ⟨⟨old, he⟩, hit, n1, n2, n3⟩ := st
    obtain ⟨xs, x, hq, hx⟩ := hg
    obtain ⟨its, rv, tp, _⟩ := I.tuple hq
    obtain ⟨u, hu, ru⟩ := rv.get hx
    have hel : e < s.heap.objs.size := Heap.lt_size he
    have hil : it < s.heap.objs.size := by
      obtain ⟨_, q, _⟩ := hit
      exact Heap.lt_size q
    have D := Draws.tuple (prog := X.prog) (w := X.w) (A := X.A.in1) (by exact I.ok.hd hc) it a n3 its.toArray
    have hin : i < its.toArray.size := by
      have := (List.getElem?_eq_some_iff.mp hu).1
      simpa using this
    refine wpAny_pyNext_enum_itemD D he ⟨hit, tp⟩ hin n1 (by simp only [List.mem_cons, List.not_mem_nil, or_false, not_or]; exact ⟨n1, n2⟩) fun u' h' tk hu' ho st' hT hsz hk => ?_
    have eu : u' = u := by
      have q1 : its[i]? = some u' := by simpa using hu'
      rw [hu] at q1
      exact (Option.some.inj q1).symm
    subst eu
    refine ⟨_, rfl, wpAny_letOwnedTupleGo_enum (s := { s with heap := h', toks := tk + 1 }) ho fun h'' he' sb => ?_⟩
    have hT2 := (sb.2 _ (Nat.ne_of_gt hel)).trans hT
    have new : ObjOk X.prog X.w (upd H s.heap.objs.size (.tup [.int (i : Nat), x])) h'' s.heap.objs.size (.tup [.int (i : Nat), x]) := ⟨by show 2 ≤ sizeLine; decide, _, .cons ⟨_, rfl⟩ (.cons ru .nil), ⟨_, hT2, rfl, _, rfl⟩⟩
    have I1 := I.turnedNew (t' := tk + 1) (ch := [e, it]) (h' := h'') (fun b ob hb q => (sb.2 b (fun z => hb (by rw [z]; exact List.mem_cons_self))).trans
      (hk b ob (fun z => hb (by rw [z]; exact List.mem_cons_self)) (fun z => hb (by rw [z]; exact List.mem_cons_of_mem _ List.mem_cons_self)) q)) hf (Nat.le_refl _) new
    refine ⟨.ref s.heap.objs.size, _, I1, rfl, ⟨_, x, rfl, I.hok.fresh (Nat.le_refl _), rfl, fun ys hy => ?_⟩, ⟨⟨u', ?_⟩, st'.1.at fun o q => (sb.2 it (Ne.symm n1)).trans q, n1, n2, n3⟩, fun b hb => ?_⟩
    · rw [I.tuple_inj hy hq]
      exact hx
    · have e1 : ((i + 1 : Nat) : Int) = (i : Int) + 1 := by omega
      rw [e1]
      exact he'
    · have hb' : b < s.heap.objs.size := by
        rcases List.mem_cons.mp hb with z | z
        · exact z ▸ hel
        · exact List.mem_singleton.mp z ▸ hil
      rw [upd_ne (Nat.ne_of_lt hb')]
      exact (hf b hb).1
  done := by
    intro X hP hw hK hc i pins s σ H E I hf st hg
    subst hP hw hK
    obtain ⟨⟨old, he⟩, hit, n1, n2, n3⟩ := st
    obtain ⟨xs, hq, hx⟩ := hg
    obtain ⟨its, rv, tp, _⟩ := I.tuple hq
    obtain ⟨f0, f1, f2, f3, f4, f5⟩ := hf it (List.mem_cons_of_mem _ List.mem_cons_self)
    have hl := rv.length
    have D : Draws X.prog X.w X.A.in1 it [it, a] i (fun _ _ => True) (fun j h => j = i ∧ h.IsTupleIter it a i ∧ h.IsTuple a its.toArray) := {
      live := fun j h q => by
        obtain ⟨_, ⟨o, ho, _⟩, _⟩ := q
        exact ⟨o, ho⟩
      frame := fun j h h' q k => ⟨q.1, q.2.1.at fun o e => k it List.mem_cons_self o e, q.2.2.at fun o e => k a (List.mem_cons_of_mem _ List.mem_cons_self) o e⟩
      item := fun j z Q E hj q _ => absurd q.1 (Nat.ne_of_lt hj)
      done := fun z Q E q hE => wpAny_nextOf_tuple_end (by exact I.ok.hd hc) q.2.1 q.2.2 (by simp; omega) hE }
    exact wpAny_pyNext_enum_endD D he ⟨rfl, hit, tp⟩ fun h' eb => ⟨rfl, I.turned (t' := s.toks) (fun b o hb q => eb b o hb q) f0 f1 f3 f4 f5⟩
  self := fun A i s Q E st h => by
    obtain ⟨_, he⟩ := st.en
    exact wpAny_pyIter_enum he h
def iEnE (K : PySem.W.Frag) (ta : TA) : TI := fun σ H R => ta σ H fun vs H1 => ∃ a xs, vs = [.ref a] ∧ SqT K H1 a xs ∧ R (ItE K a) H1
theorem pi_enumT {X : Cx} {e : Expr} {ta : TA} {p pos tpos : Pos} {elts : List Expr} {kk : Nat} (hg : Gl X "enumerate") (hm : X.mg "enumerate" = none) (ha : PA X [e] ta)
    (one : starEach [e] X.env = [(false, eval e X.env)] := by rfl) : PI X (.Tuple elts kk tpos) (.Call (.Name "enumerate" p) [e] [] pos) (iEnE X.K ta) := by
  refine ⟨fun pins s σ H R I h => Call_ (ld_blt I hg hm boot_enumerate (PyProof.Rows.callWith_type1 (thn (ha.run pos pins s σ H _ I h) fun us s1 ⟨vs, H1, I1, r1, q1⟩ => ?_) one rfl))⟩
  obtain ⟨a, xs, rfl, hq, q⟩ := q1
  cases r1 with
  | cons r rr =>
    cases rr
    cases r
    obtain ⟨its, rv, tp, _⟩ := I1.tuple hq
    obtain ⟨oa, hoa, _⟩ := id tp
    have hal : a < s1.heap.objs.size := Heap.lt_size hoa
    refine enumCall (begins_tuple a its.toArray) (show s1.heap.IsTuple a its.toArray from tp) fun h2 he hit hk => wpAny_pyIter_enum he ?_
    have I2 : Inv X pins σ H1 { s1 with heap := h2 } := I1.kept (t' := s1.toks) hk
    refine ⟨s1.heap.objs.size + 1, [s1.heap.objs.size + 1, s1.heap.objs.size], _, _, H1, rfl, I2, turnE a (s1.heap.objs.size + 1) s1.heap.objs.size, ⟨⟨.none, he⟩, ⟨_, hit, rfl, rfl⟩, Nat.succ_ne_self _, Nat.ne_of_gt (Nat.lt_succ_of_lt hal), Nat.ne_of_lt hal⟩, fun b hb => ?_, q⟩
    have hle : s1.heap.objs.size ≤ b := by
      rcases List.mem_cons.mp hb with z | z
      · rw [z]
        exact Nat.le_succ _
      · rw [List.mem_singleton.mp z]
        exact Nat.le_refl _
    exact I1.fpOk hle (I1.hok.fresh hle)
section
variable {p : Pm} {E : Ent} {δ : Sl} {σ : L2.St} {H : Hp} {te tl : TE} {D' : Ends} {u tb : TS} {ra : TA} {i j : Nat}
/-- for i, j in enumerate(xs), i and j two different slots -/
theorem q_forE {xs : List D} (a : At p E δ σ H) (h : Ad p ra δ [.tup xs]) (Iv : Nat → Sl → Option (Addr × List D) → Prop) (h0 : Iv 0 δ p.m)
    (hs : ∀ (b : Hp) (n : Nat) (x : D) δ' m' σ' H', xs[n]? = some x → Iv n δ' m' → At { p with m := m' } { E with b := b } ((δ'.set i (some (.int n))).set j (some x)) σ' H' →
      tb { D' with nx := LoopAt p { E with b := b } (Iv (n + 1)), ct := LoopAt p { E with b := b } (Iv (n + 1)), bk := u D' } σ' H')
    (hd : ∀ δ' m' σ' H', Iv xs.length δ' m' → At { p with m := m' } E δ' σ' H' → u D' σ' H') : tSeq (tFor (iEnE p.K ra) (gTup p.K 2 (gCons (gName i) (gCons (gName j) gNil))) tb) u D' σ H :=
  a.runA h fun vs ds G' H' st sb sd rc rm da pd => by
    subst pd
    cases da with
    | cons d1 da =>
      cases da
      obtain ⟨a1, us, rfl, h1, h2⟩ := d1.tup_inv
      have hl := h2.length
      refine ⟨a1, us, rfl, sqT_mono st.sub h1, ?_⟩
      refine ⟨fun n m σ' H' => m = us.length - n ∧ n ≤ us.length ∧ LoopAt p { E with b := G' } (Iv n) σ' H', ⟨us.length, rfl, Nat.zero_le _, δ, p.m, h0, ⟨⟨G', st, Same.refl _, sd, rc, rm⟩, a.rc0, a.m0⟩⟩, ?_⟩
      rintro n m σ' H' ⟨rfl, hn, δ', m', iv, a'⟩
      have q1 := a'.sub h1
      by_cases hlt : n < us.length
      · refine Or.inr ⟨⟨us, _, q1, List.getElem?_eq_getElem hlt⟩, LoopAt p { E with b := G' } (Iv (n + 1)), fun σ2 H2 w => ⟨us.length - (n + 1), by omega, rfl, hlt, w⟩, fun v H2 yl => ?_⟩
        obtain ⟨T, x, rfl, hT, rfl, f1⟩ := yl
        obtain ⟨dx, hdx, dax⟩ := h2.getV (f1 us q1)
        exact g_two (a'.hid hT) upd_same (.int _) dax fun σ2 H2 a2 => hs G' n dx δ' m' σ2 H2 hdx iv a2
      · have e : n = us.length := by omega
        subst e
        exact Or.inl ⟨⟨us, q1, Nat.le_refl _⟩, hd δ' m' σ' H' (by rw [← hl]; exact iv) (a'.lower sb)⟩
end
end K10
set_option Elab.async false
set_option linter.all false
set_option maxRecDepth 100000
set_option maxHeartbeats 4000000
/-! What is a number, a short one, a stretch, numbers: the program's and the law's. -/
namespace K10
open PySem PySem.Spec PyProof.Rows L2 StX RZ
mutual
/-- plain small data -/
def D.w (n : Nat) : D → Bool
  | .non => true
  | .bl _ => true
  | .int i => decide (i.natAbs < 2 ^ 900)
  | .str _ => true
  | .tup ds => decide (ds.length ≤ n) && D.ws n ds
  | .lst ds => decide (ds.length ≤ n) && D.ws n ds
  | .dct => true
  | .adr _ => false
  | .scr _ => false
  | .mac _ _ _ => false
  | .exc _ _ => false
def D.ws (n : Nat) : List D → Bool
  | [] => true
  | d :: ds => D.w n d && D.ws n ds
end
abbrev D.pl (d : D) : Bool := D.w 1000 d
abbrev D.pls (ds : List D) : Bool := D.ws 1000 ds
theorem pls_mem {n : Nat} : ∀ {ds : List D} {d : D}, D.ws n ds = true → d ∈ ds → D.w n d = true
  | e :: ds, d, h, hm => by
    unfold D.ws at h
    obtain ⟨h1, h2⟩ := Bool.and_eq_true_iff.mp h
    rcases List.mem_cons.mp hm with z | z
    · rw [z]; exact h1
    · exact pls_mem h2 z
theorem pl_tup {n : Nat} {ds : List D} (h : D.w n (D.tup ds) = true) : ds.length ≤ n ∧ D.ws n ds = true := by
  unfold D.w at h
  obtain ⟨h1, h2⟩ := Bool.and_eq_true_iff.mp h
  exact ⟨of_decide_eq_true h1, h2⟩
theorem pl_int {n : Nat} {i : Int} (h : D.w n (D.int i) = true) : Bt 900 i := by
  unfold D.w at h
  exact of_decide_eq_true h
theorem pl_ty {d : D} (h : d.pl = true) : ∃ T, tyD d = some T := by
  cases d <;> first | exact ⟨_, rfl⟩ | (unfold D.w at h; cases h)
def isInt : D → Bool
  | .int _ => true
  | _ => false
def isI : D → Bool
  | .int _ => true
  | .bl _ => true
  | _ => false
def isB : D → Bool
  | .bl _ => true
  | _ => false
def isTup : D → Bool
  | .tup _ => true
  | _ => false
def isFrac : D → Bool
  | .tup [.int a, .int b] => decide (1 ≤ b) && decide (Int.gcd a b = 1)
  | _ => false
/-- a tuple of two ints -/
def isPair : D → Bool
  | .tup [.int _, .int _] => true
  | _ => false
theorem pair_inv {d : D} (h : isPair d = true) : ∃ a b, d = .tup [.int a, .int b] := by
  unfold isPair at h
  split at h
  · exact ⟨_, _, rfl⟩
  · cases h
theorem frac_inv {d : D} (h : isFrac d = true) : ∃ a b, d = .tup [.int a, .int b] := by
  unfold isFrac at h
  split at h
  · exact ⟨_, _, rfl⟩
  · cases h
theorem two_of {ds : List D} (h : ds.length = 2) : ∃ x y, ds = [x, y] := by
  match ds, h with
  | [x, y], _ => exact ⟨x, y, rfl⟩
def small (a b : Int) : Bool := decide (-1000000000000 ≤ a) && decide (a ≤ 1000000000000) && decide (b ≤ 1000000000000)
def isShort : D → Bool
  | .tup [.int a, .int b] => (decide (1 ≤ b) && decide (Int.gcd a b = 1)) && small a b
  | _ => false
/-- a fraction that is short -/
theorem short_inv {d : D} (h : isShort d = true) : ∃ x : Int × Int, d = fd x ∧ 1 ≤ x.2 ∧ Int.gcd x.1 x.2 = 1 ∧ x.1.natAbs ≤ 1000000000000 ∧ x.2 ≤ 1000000000000 := by
  unfold isShort at h
  split at h
  · rename_i a b
    unfold small at h
    simp only [Bool.and_eq_true, decide_eq_true_eq] at h
    exact ⟨(a, b), rfl, h.1.1, h.1.2, by show a.natAbs ≤ _; omega, h.2.2⟩
  · cases h
theorem short_fq {x : Int × Int} (h1 : 1 ≤ x.2) (h2 : x.1.natAbs ≤ 1000000000000) (h3 : x.2 ≤ 1000000000000) : Fq 40 x := by
  refine ⟨by omega, ?_, ?_⟩
  · exact Nat.lt_of_le_of_lt h2 (by decide)
  · show x.2.natAbs < 2 ^ 40
    have : (2 : Nat) ^ 40 = 1099511627776 := by decide
    omega
section
variable {p : Pm} {δ : Sl} {te ta tb : TE} {d : D}
theorem ed_isInt (h : Ed p te δ d) (hp : d.pl = true) : Ed p (tCB (rIsi p.K) (tCons te (tCons (tC (.ty "int")) tNil))) δ (.bl (isI d)) := by
  cases d <;> first | exact ed_isi (b := true) h rfl (by decide +kernel) | exact ed_isi (b := false) h rfl (by decide +kernel) | (unfold D.w at hp; exact Bool.noConfusion hp)
theorem ed_isBool (h : Ed p te δ d) (hp : d.pl = true) : Ed p (tCB (rIsi p.K) (tCons te (tCons (tC (.ty "bool")) tNil))) δ (.bl (isB d)) := by
  cases d <;> first | exact ed_isi (b := true) h rfl (by decide +kernel) | exact ed_isi (b := false) h rfl (by decide +kernel) | (unfold D.w at hp; exact Bool.noConfusion hp)
theorem ed_isTup (h : Ed p te δ d) (hp : d.pl = true) : Ed p (tCB (rIsi p.K) (tCons te (tCons (tC (.ty "tuple")) tNil))) δ (.bl (isTup d)) := by
  cases d <;> first | exact ed_isi (b := true) h rfl (by decide +kernel) | exact ed_isi (b := false) h rfl (by decide +kernel) | (unfold D.w at hp; exact Bool.noConfusion hp)
theorem ed_lenT {ds : List D} (h : Ed p te δ (.tup ds)) : Ed p (tCB (rLenQ p.K) (tCons te tNil)) δ (.int ds.length) := ed_cb (ad_cons h ad_nil) rca_lenT
theorem ed_lenL {ds : List D} (h : Ed p te δ (.lst ds)) : Ed p (tCB (rLenQ p.K) (tCons te tNil)) δ (.int ds.length) := ed_cb (ad_cons h ad_nil) rca_lenL
end
/-! ### is_integer, is_fraction, is_short -/
abbrev R_is_integer : Rel := fun _ ds P => ∃ d : D, ds = [d] ∧ d.pl = true ∧ P (.bl (isInt d))
abbrev R_is_fraction : Rel := fun _ ds P => ∃ d : D, ds = [d] ∧ d.pl = true ∧ P (.bl (isFrac d))
abbrev R_is_short : Rel := fun _ ds P => ∃ d : D, ds = [d] ∧ d.pl = true ∧ P (.bl (isShort d))
abbrev s_is_integer : Stmt := top 40
abbrev N_is_integer : List PySem.Str := ["value"]
theorem sc_is_integer : FnScope N_is_integer ["value"] (defScope s_is_integer) := ⟨rfl, rfl, rfl, by decide +kernel, rfl, by decide +kernel, by decide +kernel⟩
abbrev F_is_integer (W : Wd) : Prop := Fo W 1 "is_integer" ["value"] R_is_integer
abbrev s_is_fraction : Stmt := top 41
abbrev N_is_fraction : List PySem.Str := ["value"]
theorem sc_is_fraction : FnScope N_is_fraction ["value"] (defScope s_is_fraction) := ⟨rfl, rfl, rfl, by decide +kernel, rfl, by decide +kernel, by decide +kernel⟩
abbrev F_is_fraction (W : Wd) : Prop := Fo W 3 "is_fraction" ["value"] R_is_fraction
abbrev s_is_short : Stmt := top 42
abbrev N_is_short : List PySem.Str := ["value"]
theorem sc_is_short : FnScope N_is_short ["value"] (defScope s_is_short) := ⟨rfl, rfl, rfl, by decide +kernel, rfl, by decide +kernel, by decide +kernel⟩
abbrev F_is_short (W : Wd) : Prop := Fo W 4 "is_short" ["value"] R_is_short
theorem red_eq {a b : Int} (hb : 1 ≤ b) : (red a b).1 = a ∧ (red a b).2 = b ↔ Int.gcd a b = 1 := by
  have g := gcd_pos (a := a) (show 0 < b by omega)
  constructor
  · intro ⟨_, h2⟩
    have h3 : b / (Int.gcd a b : Int) = b := h2
    have h4 : b = b * (Int.gcd a b : Int) := by
      have := Int.ediv_mul_cancel (Int.gcd_dvd_right a b)
      rw [h3] at this
      exact this.symm
    have h5 : b * 1 = b * (Int.gcd a b : Int) := by rw [Int.mul_one]; exact h4
    have h6 := Int.eq_of_mul_eq_mul_left (by omega) h5
    omega
  · intro h
    unfold red
    rw [h]
    exact ⟨Int.ediv_one a, Int.ediv_one b⟩
theorem eqv_red {a b : Int} (hb : 1 ≤ b) : PyData.eqv (fd (red a b)).py (D.tup [.int a, .int b]).py = decide (Int.gcd a b = 1) := by
  have e : PyData.eqv (fd (red a b)).py (D.tup [.int a, .int b]).py = (decide ((red a b).1 = a) && decide ((red a b).2 = b)) := by
    unfold fd
    simp [D.py, D.pys, PyData.eqv, PyData.eqvAll]
    try rfl
  rw [e, ← Bool.decide_and]
  exact decide_eq_decide.mpr (red_eq hb)
section
variable {W : Wd}
theorem ok_is_integer (T : Fr W.mg) (hD : DefP W "is_integer" 40)  : F_is_integer W := by
  refine fo_mk hD sc_is_integer (fun _ _ _ _ _ _ us hl => match us, hl with | [_], _ => rfl) (fun c ds P h => by obtain ⟨_, e, _⟩ := h; rw [e]; rfl) fun f cdv A outer s H E hr => ?_
  have nd := sc_is_integer.nd
  refine ⟨_, PSs.nox (pss_one (ps_ret (pe_and (pe_callB call_isi rfl T.n_isinstance (by decide +kernel) (pa_cons (pv 0) (pa_cons (pe_bltn (v := .ty "int") (u := .type "int") rfl T.n_int (by decide +kernel) rfl) pa_nil))) (pe_one (pe_not (pe_callB call_isi rfl T.n_isinstance (by decide +kernel) (pa_cons (pv 0) (pa_cons (pe_bltn (v := .ty "bool") (u := .type "bool") rfl T.n_bool (by decide +kernel) rfl) pa_nil)))))))), ?_⟩
  rintro c ds P E σ H Q ⟨d, rfl, hp, hP⟩ a0 k
  refine x_ret a0 (En.of (ed_and (ed_isInt (ed_var rfl) hp) fun _ => ed_not (ed_isBool (ed_var rfl) hp)) ?_) k
  cases d <;> exact hP
theorem ok_is_fraction (T : Fr W.mg) (hD : DefP W "is_fraction" 41) (f_is_integer : F_is_integer W) (f_lowest : F_lowest W) : F_is_fraction W := by
  refine fo_mk hD sc_is_fraction (fun _ _ _ _ _ _ us hl => match us, hl with | [_], _ => rfl) (fun c ds P h => by obtain ⟨_, e, _⟩ := h; rw [e]; rfl) fun f cdv A outer s H E hr => ?_
  have nd := sc_is_fraction.nd
  refine ⟨_, PSs.nox (pss_cons (ps_if (PW.pt (pw_or (pt_not (pt_val (pe_callB call_isi rfl T.n_isinstance (by decide +kernel) (pa_cons (pv 0) (pa_cons (pe_bltn (v := .ty "tuple") (u := .type "tuple") rfl T.n_tuple (by decide +kernel) rfl) pa_nil))))) (pw_or (pt_cmpR op_ne (pe_callB call_len_seq rfl T.n_len (by decide +kernel) (pa_cons (pv 0) pa_nil)) pe_int (nomark _)) (pw_or (pt_not (pt_val (pe_cf f_is_integer (hr.mono (by decide)) (pa_cons (pe_ix ix_tup (pv 0) pe_int (fun _ _ => rfl)) pa_nil)))) (pw_or1 (pt_not (pt_val (pe_cf f_is_integer (hr.mono (by decide)) (pa_cons (pe_ix ix_tup (pv 0) pe_int (fun _ _ => rfl)) pa_nil))))))))) (pss_one (ps_ret pe_bl)) pss_nil)
      (pss_one (ps_ret (pe_and (pe_cmpR op_ge (pe_ix ix_tup (pv 0) pe_int (fun _ _ => rfl)) pe_int (nomark _)) (pe_one (pe_cmpR (op_eqD hr.units) (pe_cf f_lowest (hr.mono (by decide)) (pa_cons (pe_ix ix_tup (pv 0) pe_int (fun _ _ => rfl)) (pa_cons (pe_ix ix_tup (pv 0) pe_int (fun _ _ => rfl)) pa_nil))) (pv 0) (nomark _))))))), ?_⟩
  rintro c ds P E σ H Q ⟨d, rfl, hp, hP⟩ a0 k
  refine q_when (b := !isPair d) a0 ?_ (fun e H1 a1 => ?_) fun e H1 a1 => ?_
  · cases d with
    | tup ds =>
      by_cases hl : ds.length = 2
      · obtain ⟨x, y, rfl⟩ := two_of hl
        obtain ⟨_, hps⟩ := pl_tup hp
        have hx := pls_mem hps (List.mem_cons_self (a := x))
        have hy := pls_mem hps (List.mem_cons_of_mem x (List.mem_cons_self (a := y)))
        refine Td.to (td_or (td_not (td_B (ed_isTup (ed_var rfl) hp))) fun _ => td_or (td_test (ed_neI (ed_lenT (ed_var rfl)) ed_int)) fun _ => td_or (td_not (td_B (ed_call (ad_cons (ed_ixT (ed_var rfl) ed_int rfl) ad_nil) ⟨x, rfl, hx, rfl⟩)))
          fun _ => td_not (td_B (ed_call (ad_cons (ed_ixT (ed_var rfl) ed_int rfl) ad_nil) ⟨y, rfl, hy, rfl⟩))) ?_
        cases x <;> cases y <;> rfl
      · refine Td.to (td_or (td_not (td_B (ed_isTup (ed_var rfl) hp))) fun _ => td_or (b := false) (td_test (ed_neI (ed_lenT (ed_var rfl)) ed_int)) fun z => ?_) ?_
        · have : ¬ (ds.length : Int) = 2 := by omega
          simp [this] at z
        · have h1 : ¬ (ds.length : Int) = 2 := by omega
          have h2 : isPair (.tup ds) = false := by
            cases q : isPair (.tup ds) with
            | false => rfl
            | true =>
              obtain ⟨a, b, e⟩ := pair_inv q
              cases e
              exact absurd rfl hl
          rw [h2]
          simp [h1]
    | _ => exact Td.to (td_or (b := false) (td_not (td_B (ed_isTup (ed_var rfl) hp))) fun z => Bool.noConfusion z) rfl
  · refine x_ret a1 (En.of ed_bl ?_) k
    have e2 : isFrac d = false := by
      cases q : isFrac d with
      | false => rfl
      | true =>
        unfold isFrac at q
        split at q
        · cases e
        · cases q
    rw [← e2]
    exact hP
  · have e1 : isPair d = true := by
      cases q : isPair d with
      | true => rfl
      | false => rw [q] at e; cases e
    obtain ⟨a, b, rfl⟩ := pair_inv e1
    obtain ⟨_, hps⟩ := pl_tup hp
    have hb := pl_int (pls_mem hps (List.mem_cons_of_mem _ List.mem_cons_self))
    have h1 : isFrac (.tup [.int a, .int b]) = (decide (1 ≤ b) && decide (Int.gcd a b = 1)) := rfl
    rw [h1] at hP
    refine x_ret a1 (En.of (ed_and (ed_ge (ed_ixT (ed_var rfl) ed_int rfl) ed_int) fun hb1 => Ed.to (ed_op (ed_call (ad_cons (ed_ixT (ed_var rfl) ed_int rfl) (ad_cons (ed_ixT (ed_var rfl) ed_int rfl) ad_nil))
      ⟨a, b, rfl, (by have := of_decide_eq_true hb1; omega), hb.le (by decide), rfl⟩) (ed_var rfl) (rop_eqD rfl rfl rfl rfl)) (congrArg D.bl (eqv_red (of_decide_eq_true hb1)))) hP) k
theorem ok_is_short (T : Fr W.mg) (hD : DefP W "is_short" 42) (f_is_fraction : F_is_fraction W) : F_is_short W := by
  refine fo_mk hD sc_is_short (fun _ _ _ _ _ _ us hl => match us, hl with | [_], _ => rfl) (fun c ds P h => by obtain ⟨_, e, _⟩ := h; rw [e]; rfl) fun f cdv A outer s H E hr => ?_
  have nd := sc_is_short.nd
  refine ⟨_, PSs.nox (pss_one (ps_ret (pe_and (pe_cf f_is_fraction (hr.mono (by decide)) (pa_cons (pv 0) pa_nil)) (pe_and (pe_chain op_le op_le (pe_un un_neg (pe_glob (v := .int 1000000000000) rfl (T.c_SHORT.choose_spec) ⟨_, rfl⟩)) (pe_ix ix_tup (pv 0) pe_int (fun _ _ => rfl)) (pe_glob (v := .int 1000000000000) rfl (T.c_SHORT.choose_spec) ⟨_, rfl⟩)) (pe_one (pe_cmpR op_le (pe_ix ix_tup (pv 0) pe_int (fun _ _ => rfl)) (pe_glob (v := .int 1000000000000) rfl (T.c_SHORT.choose_spec) ⟨_, rfl⟩) (nomark _))))))), ?_⟩
  rintro c ds P E σ H Q ⟨d, rfl, hp, hP⟩ a0 k
  have hs : isShort d = (isFrac d && (match d with | .tup [.int a, .int b] => small a b | _ => false)) := by
    unfold isShort isFrac
    split <;> first | rfl | simp
  cases hf : isFrac d with
  | false =>
    rw [hs, hf] at hP
    refine x_ret a0 (En.of (ed_and (b := false) (ed_call (ad_cons (ed_var rfl) ad_nil) ⟨d, rfl, hp, rfl⟩) fun z => ?_) ?_) k
    · rw [hf] at z
      cases z
    · rw [hf]
      exact hP
  | true =>
    rw [hs, hf] at hP
    obtain ⟨a, b, rfl⟩ := frac_inv hf
    refine x_ret a0 (En.of (ed_and (ed_call (ad_cons (ed_var rfl) ad_nil) ⟨_, rfl, hp, rfl⟩) fun _ => ed_and (ed_chain (ed_neg ed_int) (ed_ixT (ed_var rfl) ed_int rfl) rop_B0 (fun _ => ed_int) (fun _ => rop_B0)) fun _ => ed_le (ed_ixT (ed_var rfl) ed_int rfl) ed_int) ?_) k
    rw [hf]
    exact hP
end
end K10
set_option Elab.async false
set_option linter.all false
set_option maxRecDepth 100000
set_option maxHeartbeats 4000000
/-! Stretches, rows of numbers, the first that is none. -/
namespace K10
open PySem PySem.Spec PyProof.Rows L2 StX RZ
def ltD : D → D → Bool
  | .tup [.int a, .int b], .tup [.int c, .int e] => decide (a * e < c * b)
  | _, _ => false
def isStretch : D → Bool
  | .tup [x, y] => isShort x && isShort y && !ltD y x
  | _ => false
def isTwo : D → Bool
  | .tup [_, _] => true
  | _ => false
theorem isTwo_inv {d : D} (h : isTwo d = true) : ∃ x y, d = .tup [x, y] := by
  unfold isTwo at h
  split at h
  · exact ⟨_, _, rfl⟩
  · cases h
theorem isTwo_len {ds : List D} : isTwo (.tup ds) = decide (ds.length = 2) := by
  match ds with
  | [] => rfl
  | [_] => rfl
  | [_, _] => rfl
  | _ :: _ :: _ :: _ => simp [isTwo]
def inB (lo hi : Int) : D → Bool
  | .int i => decide (lo ≤ i) && decide (i ≤ hi)
  | _ => false
def areN (lo hi : Nat) : D → Bool
  | .tup ds => decide (lo ≤ ds.length) && decide (ds.length ≤ hi) && ds.all isShort
  | _ => false
/-- where a row is wrong: beyond hi, or no short number -/
def bads (f : D → Bool) (ds : List D) (hi : Nat) : List Nat := (List.range ds.length).filter fun k => decide (hi ≤ k) || !f (ds.getD k .non)
def firstBad (lo hi : Nat) : D → List D
  | .tup ds => if bads isShort ds hi ≠ [] then ((bads isShort ds hi).map fun k : Nat => D.int (k : Int)).take 1 else if lo ≤ ds.length then [] else [.non]
  | _ => [.non]
def fault (f : D → Bool) (hi : Nat) : D → D
  | .tup ds => match bads f ds hi with
    | [] => .non
    | k :: _ => .int (k : Int)
  | _ => .non
theorem filter_first {f : Nat → Bool} {n m : Nat} (hn : n < m) (h1 : ∀ k < n, f k = false) (h2 : f n = true) : ∃ r, (List.range m).filter f = n :: r := by
  have e : List.range m = List.range n ++ (n :: (List.range' (n + 1) (m - n - 1))) := by
    rw [List.range_eq_range', List.range_eq_range']
    have := List.range'_append (s := 0) (m := n) (n := m - n) (step := 1)
    rw [show n + (m - n) = m by omega] at this
    rw [← this]
    congr 1
    rw [show m - n = (m - n - 1) + 1 by omega, List.range'_succ]
    simp
  rw [e, List.filter_append]
  have z : (List.range n).filter f = [] := by
    rw [List.filter_eq_nil_iff]
    intro a ha
    rw [h1 a (List.mem_range.mp ha)]
    exact Bool.false_ne_true
  rw [z, List.nil_append, List.filter_cons_of_pos h2]
  exact ⟨_, rfl⟩
theorem filter_none {f : Nat → Bool} {m : Nat} (h1 : ∀ k < m, f k = false) : (List.range m).filter f = [] := by
  rw [List.filter_eq_nil_iff]
  intro a ha
  rw [h1 a (List.mem_range.mp ha)]
  exact Bool.false_ne_true
/-- the walk over a row: the places before n are right -/
def good (f : D → Bool) (ds : List D) (hi n : Nat) : Prop := ∀ k < n, (decide (hi ≤ k) || !f (ds.getD k .non)) = false
theorem good.le {f : D → Bool} {ds : List D} {hi n : Nat} (h : good f ds hi n) : n ≤ hi := by
  rcases Nat.lt_or_ge hi n with q | q
  · have := h hi q
    simp at this
  · exact q
theorem bads_first {f : D → Bool} {ds : List D} {hi n : Nat} {x : D} (h : good f ds hi n) (hx : ds[n]? = some x) (hb : (decide (n = hi) || !f x) = true) : ∃ r, bads f ds hi = n :: r := by
  have hn : n < ds.length := (List.getElem?_eq_some_iff.mp hx).1
  refine filter_first hn h ?_
  have hl := h.le
  have e : ds.getD n .non = x := by rw [List.getD_eq_getElem?_getD, hx]; rfl
  rw [e]
  rcases Bool.or_eq_true_iff.mp hb with q | q
  · have : hi ≤ n := by have := of_decide_eq_true q; omega
    simp [this]
  · rw [q, Bool.or_true]
theorem good.more {f : D → Bool} {ds : List D} {hi n : Nat} {x : D} (h : good f ds hi n) (hx : ds[n]? = some x) (hb : (decide (n = hi) || !f x) = false) : good f ds hi (n + 1) := by
  intro k hk
  by_cases e : k = n
  · subst e
    have hl := h.le
    have e : ds.getD k .non = x := by rw [List.getD_eq_getElem?_getD, hx]; rfl
    rw [e]
    obtain ⟨q1, q2⟩ := Bool.or_eq_false_iff.mp hb
    have : ¬ hi ≤ k := by have := of_decide_eq_false q1; omega
    rw [q2]
    simp [this]
  · exact h k (by omega)
theorem bads_none {f : D → Bool} {ds : List D} {hi : Nat} (h : good f ds hi ds.length) : bads f ds hi = [] := filter_none h
theorem good_of_none {f : D → Bool} {ds : List D} {hi : Nat} (h : bads f ds hi = []) : good f ds hi ds.length := fun k hk => by
  have := (List.filter_eq_nil_iff.mp h) k (List.mem_range.mpr hk)
  simpa using this
abbrev R_is_stretch : Rel := fun _ ds P => ∃ d : D, ds = [d, .bl false] ∧ d.pl = true ∧ P (.bl (isStretch d))
abbrev R_are_numbers : Rel := fun _ ds P => ∃ (d : D) (lo hi : Nat), ds = [d, .int lo, .int hi] ∧ d.pl = true ∧ P (.bl (areN lo hi d))
abbrev R_number_fault : Rel := fun _ ds P => ∃ (d : D) (lo hi : Nat), ds = [d, .int lo, .int hi] ∧ d.pl = true ∧ P (fault isShort hi d)
abbrev R__law_is_number : Rel := fun _ ds P => ∃ (d : D) (lo hi : Int), ds = [d, .int lo, .int hi] ∧ d.pl = true ∧ P (.bl (inB lo hi d))
abbrev R__law_is_short : Rel := fun _ ds P => ∃ d : D, ds = [d] ∧ d.pl = true ∧ P (.bl (isShort d))
abbrev R__law_first_bad : Rel := fun _ ds P => ∃ (d : D) (lo hi : Nat), ds = [d, .int lo, .int hi] ∧ d.pl = true ∧ P (.lst (firstBad lo hi d))
abbrev R__law_is_stretch : Rel := fun _ ds P => ∃ d : D, ds = [d] ∧ d.pl = true ∧ P (.bl (isStretch d))
abbrev s_is_stretch : Stmt := top 43
abbrev N_is_stretch : List PySem.Str := ["value", "is_any", "end"]
theorem sc_is_stretch : FnScope N_is_stretch ["value", "is_any"] (defScope s_is_stretch) := ⟨rfl, rfl, rfl, by decide +kernel, rfl, by decide +kernel, by decide +kernel⟩
abbrev F_is_stretch (W : Wd) : Prop := Fo W 5 "is_stretch" ["value", "is_any"] R_is_stretch
abbrev s_are_numbers : Stmt := top 49
abbrev N_are_numbers : List PySem.Str := ["value", "least", "most", "number"]
theorem sc_are_numbers : FnScope N_are_numbers ["value", "least", "most"] (defScope s_are_numbers) := ⟨rfl, rfl, rfl, by decide +kernel, rfl, by decide +kernel, by decide +kernel⟩
abbrev F_are_numbers (W : Wd) : Prop := Fo W 5 "are_numbers" ["value", "least", "most"] R_are_numbers
abbrev s_number_fault : Stmt := top 50
abbrev N_number_fault : List PySem.Str := ["value", "least", "most", "index", "number"]
theorem sc_number_fault : FnScope N_number_fault ["value", "least", "most"] (defScope s_number_fault) := ⟨rfl, rfl, rfl, by decide +kernel, rfl, by decide +kernel, by decide +kernel⟩
abbrev F_number_fault (W : Wd) : Prop := Fo W 5 "number_fault" ["value", "least", "most"] R_number_fault
abbrev s__law_is_number : Stmt := top 85
abbrev N__law_is_number : List PySem.Str := ["_law_thing", "_law_least", "_law_top"]
theorem sc__law_is_number : FnScope N__law_is_number ["_law_thing", "_law_least", "_law_top"] (defScope s__law_is_number) := ⟨rfl, rfl, rfl, by decide +kernel, rfl, by decide +kernel, by decide +kernel⟩
abbrev F__law_is_number (W : Wd) : Prop := Fo W 1 "_law_is_number" ["_law_thing", "_law_least", "_law_top"] R__law_is_number
abbrev s__law_is_short : Stmt := top 86
abbrev N__law_is_short : List PySem.Str := ["_law_thing"]
theorem sc__law_is_short : FnScope N__law_is_short ["_law_thing"] (defScope s__law_is_short) := ⟨rfl, rfl, rfl, by decide +kernel, rfl, by decide +kernel, by decide +kernel⟩
abbrev F__law_is_short (W : Wd) : Prop := Fo W 2 "_law_is_short" ["_law_thing"] R__law_is_short
abbrev s__law_first_bad : Stmt := top 87
abbrev N__law_first_bad : List PySem.Str := ["_law_thing", "_law_least", "_law_top", "_law_wrong", "_law_k"]
theorem sc__law_first_bad : FnScope N__law_first_bad ["_law_thing", "_law_least", "_law_top"] (defScope s__law_first_bad) := ⟨rfl, rfl, rfl, by decide +kernel, rfl, by decide +kernel, by decide +kernel⟩
abbrev F__law_first_bad (W : Wd) : Prop := Fo W 3 "_law_first_bad" ["_law_thing", "_law_least", "_law_top"] R__law_first_bad
abbrev s__law_is_stretch : Stmt := top 88
abbrev N__law_is_stretch : List PySem.Str := ["_law_thing"]
theorem sc__law_is_stretch : FnScope N__law_is_stretch ["_law_thing"] (defScope s__law_is_stretch) := ⟨rfl, rfl, rfl, by decide +kernel, rfl, by decide +kernel, by decide +kernel⟩
abbrev F__law_is_stretch (W : Wd) : Prop := Fo W 3 "_law_is_stretch" ["_law_thing"] R__law_is_stretch
section
variable {p : Pm} {δ : Sl} {te ta tb : TE} {d : D}
theorem ed_allT {tl : TE} {j : Nat} {vs : List Nat} {xs : List D} {f : D → Bool} (h : Ed p tl δ (.tup xs)) (hz : xs.length ≤ 100000) (he : ∀ x ∈ xs, Ed p te ((wipeD δ vs).set j (some x)) (.bl (f x))) (hj : j ∈ vs := by decide) :
    Ed p (tCB (rAll p.K) (tCons (tLc (iTup p.K tl) (gName j) tYes te vs) tNil)) δ (.bl (xs.all f)) :=
  ed_cb (ad_cons (Ed.to (ed_lcT (g := fun x => .bl (f x)) h hz hj he) (show D.lst (xs.map fun x => .bl (f x)) = .lst ((xs.map f).map D.bl) by rw [List.map_map]; rfl)) ad_nil) (Rca.imp rca_all fun d e => by rw [e, List.all_map]; rfl)
theorem ed_allL {tl : TE} {j : Nat} {vs : List Nat} {xs : List D} {f : D → Bool} (h : Ed p tl δ (.lst xs)) (hz : xs.length ≤ 100000) (he : ∀ x ∈ xs, Ed p te ((wipeD δ vs).set j (some x)) (.bl (f x))) (hj : j ∈ vs := by decide) :
    Ed p (tCB (rAll p.K) (tCons (tLc (iList p.K tl) (gName j) tYes te vs) tNil)) δ (.bl (xs.all f)) :=
  ed_cb (ad_cons (Ed.to (ed_lcL (g := fun x => .bl (f x)) h hz hj he) (show D.lst (xs.map fun x => .bl (f x)) = .lst ((xs.map f).map D.bl) by rw [List.map_map]; rfl)) ad_nil) (Rca.imp rca_all fun d e => by rw [e, List.all_map]; rfl)
theorem eqv_nil (xs : List D) : PyData.eqv (D.lst xs).py (D.lst []).py = xs.isEmpty := by
  cases xs with
  | nil => simp [D.py, D.pys, PyData.eqv, PyData.eqvAll]
  | cons a r => simp [D.py, D.pys, PyData.eqv, PyData.eqvAll]
theorem oks_of {ds : List D} (h : ∀ d ∈ ds, d.ok = true) : D.oks ds = true := by
  induction ds with
  | nil => rfl
  | cons a r ih =>
    unfold D.oks
    rw [h a List.mem_cons_self, ih fun d hd => h d (List.mem_cons_of_mem _ hd)]
    rfl
theorem lay_of {n : Nat} : ∀ {ds : List D}, (∀ d ∈ ds, PyData.canLay0 d.py = true ∧ d.py.depth ≤ n) → PyData.canLayAll0 (D.pys ds) = true ∧ PyData.depthAll (D.pys ds) ≤ n
  | [], _ => ⟨by unfold D.pys PyData.canLayAll0; rfl, by unfold D.pys PyData.depthAll; exact Nat.zero_le _⟩
  | a :: r, h => by
    obtain ⟨h1, h2⟩ := h a List.mem_cons_self
    obtain ⟨h3, h4⟩ := lay_of (ds := r) fun d hd => h d (List.mem_cons_of_mem _ hd)
    unfold D.pys PyData.canLayAll0 PyData.depthAll
    rw [h1, h3]
    exact ⟨rfl, Nat.max_le.mpr ⟨h2, h4⟩⟩
theorem shaped_lst {ds : List D} (h : ∀ d ∈ ds, PyData.canLay0 d.py = true ∧ d.py.depth ≤ 60) : SeqAt.shaped (D.lst ds).py = true := by
  obtain ⟨h1, h2⟩ := lay_of h
  unfold SeqAt.shaped D.py PyData.canLay0 PyData.depth
  rw [h1, decide_eq_true (by omega)]
  rfl
theorem ints_ok (l : List Nat) : (D.lst (l.map fun k : Nat => D.int (k : Int))).ok = true ∧ SeqAt.shaped (D.lst (l.map fun k : Nat => D.int (k : Int))).py = true := by
  have h : ∀ d ∈ l.map (fun k : Nat => D.int (k : Int)), ∃ i, d = .int i := fun d hd => by
    obtain ⟨k, _, e⟩ := List.mem_map.mp hd
    exact ⟨_, e.symm⟩
  refine ⟨?_, shaped_lst fun d hd => ?_⟩
  · unfold D.ok
    refine oks_of fun d hd => ?_
    obtain ⟨i, rfl⟩ := h d hd
    rfl
  · obtain ⟨i, rfl⟩ := h d hd
    unfold D.py
    exact ⟨by unfold PyData.canLay0; rfl, by unfold PyData.depth; exact Nat.zero_le _⟩
theorem td_two {ta tb : TE} (h1 : Ed p ta δ d) (h2 : ∀ ds, d = .tup ds → Ed p tb δ (.tup ds)) (hp : d.pl = true) :
    Td p (tOr (tNot (tB (tCB (rIsi p.K) (tCons ta (tCons (tC (.ty "tuple")) tNil))))) (tTest (tOp rNe (tCB (rLenQ p.K) (tCons tb tNil)) (tC (.int 2))))) δ (!isTwo d) := by
  cases d with
  | tup ds =>
    refine Td.to (td_or (td_not (td_B (ed_isTup h1 hp))) fun _ => td_test (ed_neI (ed_lenT (h2 ds rfl)) ed_int)) ?_
    rw [isTwo_len]
    have : (decide ((ds.length : Int) = 2)) = decide (ds.length = 2) := decide_eq_decide.mpr (by omega)
    rw [this]
    rfl
  | _ => exact Td.to (td_or (b := false) (td_not (td_B (ed_isTup h1 hp))) fun z => Bool.noConfusion z) rfl
theorem ed_p12 : Ed p (tOp (rI CPow fun i j => .int (i ^ j.toNat)) (tC (.int 10)) (tC (.int 12))) δ (.int 1000000000000) := ed_op ed_int ed_int ((rop_I (g := fun i j => i ^ j.toNat) ⟨by decide, by decide, by decide⟩).imp fun d e => by rw [e]; rfl)
theorem short_of (x y : D) : isShort (.tup [x, y]) = (inB (-1000000000000) 1000000000000 x && (inB 1 1000000000000 y && match x, y with | .int a, .int b => decide (Int.gcd a b = 1) | _, _ => true)) := by
  have key : ∀ a b : Int, isShort (.tup [.int a, .int b]) = (inB (-1000000000000) 1000000000000 (.int a) && (inB 1 1000000000000 (.int b) && decide (Int.gcd a b = 1))) := by
    intro a b
    show ((decide (1 ≤ b) && decide (Int.gcd a b = 1)) && (decide (-1000000000000 ≤ a) && decide (a ≤ 1000000000000) && decide (b ≤ 1000000000000))) = ((decide (-1000000000000 ≤ a) && decide (a ≤ 1000000000000)) && ((decide (1 ≤ b) && decide (b ≤ 1000000000000)) && decide (Int.gcd a b = 1)))
    generalize decide (1 ≤ b) = p1
    generalize decide (Int.gcd a b = 1) = p2
    generalize decide (-1000000000000 ≤ a) = p3
    generalize decide (a ≤ 1000000000000) = p4
    generalize decide (b ≤ 1000000000000) = p5
    cases p1 <;> cases p2 <;> cases p3 <;> cases p4 <;> cases p5 <;> rfl
  cases x <;> cases y <;> first | rfl | exact key _ _ | exact (Bool.and_false _).symm
theorem inB_inv {lo hi : Int} {x : D} (h : inB lo hi x = true) : ∃ a, x = .int a ∧ lo ≤ a ∧ a ≤ hi := by
  cases x <;> first | (rename_i a; unfold inB at h; obtain ⟨h1, h2⟩ := Bool.and_eq_true_iff.mp h; exact ⟨a, rfl, of_decide_eq_true h1, of_decide_eq_true h2⟩) | cases h
theorem ltD_of {x y : D} (hx : isShort x = true) (hy : isShort y = true) : ∃ u v, x = fd u ∧ y = fd v ∧ Fq 1000 u ∧ Fq 1000 v ∧ ltD x y = decide (u.1 * v.2 < v.1 * u.2) := by
  obtain ⟨u, rfl, h1, _, h2, h3⟩ := short_inv hx
  obtain ⟨v, rfl, g1, _, g2, g3⟩ := short_inv hy
  exact ⟨u, v, rfl, rfl, (short_fq h1 h2 h3).le (by decide), (short_fq g1 g2 g3).le (by decide), rfl⟩
end
section
variable {W : Wd}
theorem ok_is_stretch (T : Fr W.mg) (hD : DefP W "is_stretch" 43) (f_is_less : F_is_less W) (f_is_fraction : F_is_fraction W) (f_is_short : F_is_short W) : F_is_stretch W := by
  refine fo_mk hD sc_is_stretch (fun _ _ _ _ _ _ us hl => match us, hl with | [_, _], _ => rfl) (fun c ds P h => by obtain ⟨_, e, _⟩ := h; rw [e]; rfl) fun f cdv A outer s H E hr => ?_
  have nd := sc_is_stretch.nd
  refine ⟨_, PSs.nox (pss_cons (ps_if (PW.pt (pw_or (pt_not (pt_val (pe_callB call_isi rfl T.n_isinstance (by decide +kernel) (pa_cons (pv 0) (pa_cons (pe_bltn (v := .ty "tuple") (u := .type "tuple") rfl T.n_tuple (by decide +kernel) rfl) pa_nil))))) (pw_or1 (pt_cmpR op_ne (pe_callB call_len_seq rfl T.n_len (by decide +kernel) (pa_cons (pv 0) pa_nil)) pe_int (nomark _))))) (pss_one (ps_ret pe_bl)) pss_nil)
      (pss_cons (ps_if (pt_not (pt_val (pe_callB (cr_all rfl) rfl T.n_all (by decide +kernel) (pa_cons (pe_lc (own := [("end", 2)]) (g := gName 2) (te := (tIf (tB (tVar 1)) (tCall (spU W.K W.C R_is_fraction) [] E0 (tCons (tVar 2) tNil)) (tCall (spU W.K W.C R_is_short) [] E0 (tCons (tVar 2) tNil)))) (tt := tYes) rfl nd (pi_tup (pv 0)) (blkOk_by (own := [("end", 2)]) (N := N_is_stretch) (sc := defScope s_is_stretch) (by decide +kernel)) (fun _ _ _ _ _ => (pg_name (i := 2) nd rfl (by first | exact Or.inl rfl | exact Or.inr rfl))) (fun _ _ _ _ _ => pts_nil) (fun _ _ _ _ _ => (pe_ifExp (pt_val (pv 1)) (pe_cf f_is_fraction (hr.mono (by decide)) (pa_cons (pv 2) pa_nil)) (pe_cf f_is_short (hr.mono (by decide)) (pa_cons (pv 2) pa_nil))))) pa_nil)))) (pss_one (ps_ret pe_bl)) pss_nil)
      (pss_one (ps_ret (pe_not (pe_cf f_is_less (hr.mono (by decide)) (pa_cons (pe_ix ix_tup (pv 0) pe_int (fun _ _ => rfl)) (pa_cons (pe_ix ix_tup (pv 0) pe_int (fun _ _ => rfl)) pa_nil)))))))), ?_⟩
  rintro c ds P E σ H Q ⟨d, rfl, hp, hP⟩ a0 k
  refine q_when (b := !isTwo d) a0 (td_two (ed_var rfl) (fun ds e => e ▸ ed_var rfl) hp) (fun e H1 a1 => ?_) fun e H1 a1 => ?_
  · refine x_ret a1 (En.of ed_bl ?_) k
    have e2 : isStretch d = false := by
      unfold isStretch
      split
      · cases e
      · rfl
    rw [← e2]
    exact hP
  · obtain ⟨x, y, rfl⟩ := isTwo_inv (show isTwo d = true by cases q : isTwo d with | true => rfl | false => rw [q] at e; cases e)
    obtain ⟨_, hps⟩ := pl_tup hp
    have hx := pls_mem hps (List.mem_cons_self (a := x))
    have hy := pls_mem hps (List.mem_cons_of_mem x (List.mem_cons_self (a := y)))
    refine q_when (b := !([x, y].all isShort)) a1 (td_not (td_B (ed_allT (ed_var rfl) (by simp) fun z hz => en_if (td_B (ed_var rfl)) (fun q => Bool.noConfusion q) fun _ => ed_call (ad_cons (ed_var rfl) ad_nil) ⟨z, rfl, pls_mem hps hz, rfl⟩))) (fun e H2 a2 => ?_) fun e H2 a2 => ?_
    · refine x_ret a2 (En.of ed_bl ?_) k
      have e2 : isStretch (.tup [x, y]) = false := by
        show (isShort x && isShort y && !ltD y x) = false
        have e' : (!(isShort x && (isShort y && true))) = true := e
        revert e'
        cases isShort x <;> cases isShort y <;> intro e' <;> first | rfl | cases e'
      rw [← e2]
      exact hP
    · have e1 : isShort x = true ∧ isShort y = true := by
        have e' : (!(isShort x && (isShort y && true))) = false := e
        cases q1 : isShort x <;> cases q2 : isShort y <;> rw [q1, q2] at e' <;> first | exact ⟨rfl, rfl⟩ | cases e'
      obtain ⟨u, v, rfl, rfl, fu, fv, el⟩ := ltD_of e1.2 e1.1
      refine x_ret a2 (En.of (ed_not (ed_call (ad_cons (ed_ixT (ed_var rfl) ed_int rfl) (ad_cons (ed_ixT (ed_var rfl) ed_int rfl) ad_nil)) ⟨u, v, rfl, fu, fv, rfl⟩)) ?_) k
      have e2 : isStretch (.tup [fd v, fd u]) = !(decide (u.1 * v.2 < v.1 * u.2)) := by
        show (isShort (fd v) && isShort (fd u) && !ltD (fd u) (fd v)) = _
        rw [e1.1, e1.2, el]
        rfl
      rw [← e2]
      exact hP
theorem ok_are_numbers (T : Fr W.mg) (hD : DefP W "are_numbers" 49) (f_is_short : F_is_short W) : F_are_numbers W := by
  refine fo_mk hD sc_are_numbers (fun _ _ _ _ _ _ us hl => match us, hl with | [_, _, _], _ => rfl) (fun c ds P h => by obtain ⟨_, _, _, e, _⟩ := h; rw [e]; rfl) fun f cdv A outer s H E hr => ?_
  have nd := sc_are_numbers.nd
  refine ⟨_, PSs.nox (pss_one (ps_ret (pe_and (pe_callB call_isi rfl T.n_isinstance (by decide +kernel) (pa_cons (pv 0) (pa_cons (pe_bltn (v := .ty "tuple") (u := .type "tuple") rfl T.n_tuple (by decide +kernel) rfl) pa_nil))) (pe_and (pe_chain op_le op_le (pv 1) (pe_callB call_len_seq rfl T.n_len (by decide +kernel) (pa_cons (pv 0) pa_nil)) (pv 2)) (pe_one (pe_callB (cr_all rfl) rfl T.n_all (by decide +kernel) (pa_cons (pe_lc (own := [("number", 3)]) (g := gName 3) (te := (tCall (spU W.K W.C R_is_short) [] E0 (tCons (tVar 3) tNil))) (tt := tYes) rfl nd (pi_tup (pv 0)) (blkOk_by (own := [("number", 3)]) (N := N_are_numbers) (sc := defScope s_are_numbers) (by decide +kernel)) (fun _ _ _ _ _ => (pg_name (i := 3) nd rfl (by first | exact Or.inl rfl | exact Or.inr rfl))) (fun _ _ _ _ _ => pts_nil) (fun _ _ _ _ _ => (pe_cf f_is_short (hr.mono (by decide)) (pa_cons (pv 3) pa_nil)))) pa_nil))))))), ?_⟩
  rintro c ds P E σ H Q ⟨d, lo, hi, rfl, hp, hP⟩ a0 k
  cases d with
  | tup xs =>
    obtain ⟨hz, hps⟩ := pl_tup hp
    refine x_ret a0 (En.of (ed_and (ed_isTup (ed_var rfl) hp) fun _ => ed_and (ed_chain (ed_var rfl) (ed_lenT (ed_var rfl)) rop_B0 (fun _ => ed_var rfl) fun _ => rop_B0) fun _ => ed_allT (f := isShort) (ed_var rfl) (by omega) fun z hz => ed_call (ad_cons (ed_var rfl) ad_nil) ⟨z, rfl, pls_mem hps hz, rfl⟩) ?_) k
    have e : (decide ((lo : Int) ≤ (xs.length : Int)) && decide ((xs.length : Int) ≤ (hi : Int))) = (decide (lo ≤ xs.length) && decide (xs.length ≤ hi)) := by
      rw [decide_eq_decide.mpr (Int.ofNat_le (m := lo) (n := xs.length)), decide_eq_decide.mpr (Int.ofNat_le (m := xs.length) (n := hi))]
    rw [e]
    exact hP
  | _ => exact x_ret a0 (En.of (ed_and (b := false) (ed_isTup (ed_var rfl) hp) fun z => Bool.noConfusion z) hP) k
theorem ok_number_fault (T : Fr W.mg) (hD : DefP W "number_fault" 50) (f_is_short : F_is_short W) : F_number_fault W := by
  refine fo_mk hD sc_number_fault (fun _ _ _ _ _ _ us hl => match us, hl with | [_, _, _], _ => rfl) (fun c ds P h => by obtain ⟨_, _, _, e, _⟩ := h; rw [e]; rfl) fun f cdv A outer s H E hr => ?_
  have nd := sc_number_fault.nd
  refine ⟨_, PSs.nox (pss_cons (ps_if (pt_not (pt_val (pe_callB call_isi rfl T.n_isinstance (by decide +kernel) (pa_cons (pv 0) (pa_cons (pe_bltn (v := .ty "tuple") (u := .type "tuple") rfl T.n_tuple (by decide +kernel) rfl) pa_nil))))) (pss_one (ps_ret pe_non)) pss_nil)
      (pss_cons (ps_for PassesOwn.never rfl (pi_enumT rfl T.n_enumerate (pa_cons (pv 0) pa_nil)) (pg_tup rfl (pgs_cons (pg_name (i := 3) nd rfl (by first | exact Or.inl rfl | exact Or.inr rfl)) (pgs_cons (pg_name (i := 4) nd rfl (by first | exact Or.inl rfl | exact Or.inr rfl)) pgs_nil))) (pss_one (ps_if (PW.pt (pw_or (pt_cmpR op_eq (pv 3) (pv 2) (nomark _)) (pw_or1 (pt_not (pt_val (pe_cf f_is_short (hr.mono (by decide)) (pa_cons (pv 4) pa_nil))))))) (pss_one (ps_ret (pv 3))) pss_nil)))
      (pss_one (ps_ret pe_non)))), ?_⟩
  rintro c ds P E σ H Q ⟨d, lo, hi, rfl, hp, hP⟩ a0 k
  refine q_when (b := !isTup d) a0 (td_not (td_B (ed_isTup (ed_var rfl) hp))) (fun e H1 a1 => ?_) fun e H1 a1 => ?_
  · refine x_ret a1 (En.of ed_non ?_) k
    cases d <;> first | exact hP | cases e
  · cases d with
    | tup xs =>
      obtain ⟨hz, hps⟩ := pl_tup hp
      refine q_forE a1 (ad_cons (ed_var rfl) ad_nil) (fun n δ m => m = none ∧ good isShort xs hi n ∧ ∃ o1 o2, δ = [some (.tup xs), some (.int lo), some (.int hi), o1, o2]) ⟨rfl, fun k hk => absurd hk (Nat.not_lt_zero k), none, none, rfl⟩ ?_ ?_
      · rintro b n x δ m σ2 H2 hx ⟨rfl, hg, o1, o2, rfl⟩ a2
        have hxm := pls_mem hps (List.mem_of_getElem? hx)
        have e1 : decide ((n : Int) = (hi : Int)) = decide (n = hi) := decide_eq_decide.mpr (by omega)
        refine x_if (T := (· = (decide (n = hi) || !isShort x))) a2 (Td.to (td_or (td_test (ed_eqI (ed_var rfl) (ed_var rfl))) fun _ => td_not (td_B (ed_call (ad_cons (ed_var rfl) ad_nil) ⟨x, rfl, hxm, rfl⟩))) (by rw [e1])) (fun hb H3 a3 => ?_) fun hb H3 a3 => ?_
        · refine x_ret a3 (En.of (ed_var rfl) ?_) k
          obtain ⟨r, hr⟩ := bads_first hg hx hb.symm
          have e2 : fault isShort hi (.tup xs) = .int n := by
            show (match bads isShort xs hi with | [] => D.non | k :: _ => .int (k : Int)) = _
            rw [hr]
          rw [← e2]
          exact hP
        · exact ⟨_, none, ⟨rfl, hg.more hx hb.symm, _, _, rfl⟩, a3⟩
      · rintro δ m σ2 H2 ⟨rfl, hg, o1, o2, rfl⟩ a2
        refine x_ret a2 (En.of ed_non ?_) k
        have e2 : fault isShort hi (.tup xs) = .non := by
          show (match bads isShort xs hi with | [] => D.non | k :: _ => .int (k : Int)) = _
          rw [bads_none hg]
        rw [← e2]
        exact hP
    | _ => cases e
theorem ok__law_is_number (T : Fr W.mg) (hD : DefP W "_law_is_number" 85)  : F__law_is_number W := by
  refine fo_mk hD sc__law_is_number (fun _ _ _ _ _ _ us hl => match us, hl with | [_, _, _], _ => rfl) (fun c ds P h => by obtain ⟨_, _, _, e, _⟩ := h; rw [e]; rfl) fun f cdv A outer s H E hr => ?_
  have nd := sc__law_is_number.nd
  refine ⟨_, PSs.nox (pss_one (ps_ret (pe_and (pe_callB call_isi rfl T.n_isinstance (by decide +kernel) (pa_cons (pv 0) (pa_cons (pe_bltn (v := .ty "int") (u := .type "int") rfl T.n_int (by decide +kernel) rfl) pa_nil))) (pe_and (pe_not (pe_callB call_isi rfl T.n_isinstance (by decide +kernel) (pa_cons (pv 0) (pa_cons (pe_bltn (v := .ty "bool") (u := .type "bool") rfl T.n_bool (by decide +kernel) rfl) pa_nil)))) (pe_one (pe_chain op_le op_le (pv 1) (pv 0) (pv 2))))))), ?_⟩
  rintro c ds P E σ H Q ⟨d, lo, hi, rfl, hp, hP⟩ a0 k
  cases d with
  | int i => exact x_ret a0 (En.of (ed_and (ed_isInt (ed_var rfl) hp) fun _ => ed_and (ed_not (ed_isBool (ed_var rfl) hp)) fun _ => ed_chain (ed_var rfl) (ed_var rfl) rop_B0 (fun _ => ed_var rfl) fun _ => rop_B0) hP) k
  | bl b => exact x_ret a0 (En.of (ed_and (b := false) (ed_isInt (ed_var rfl) hp) fun _ => ed_and (b := false) (ed_not (ed_isBool (ed_var rfl) hp)) fun z => Bool.noConfusion z) hP) k
  | _ => exact x_ret a0 (En.of (ed_and (b := false) (ed_isInt (ed_var rfl) hp) fun z => Bool.noConfusion z) hP) k
theorem ok__law_is_short (T : Fr W.mg) (hD : DefP W "_law_is_short" 86) (f__law_low : F__law_low W) (f__law_is_number : F__law_is_number W) : F__law_is_short W := by
  refine fo_mk hD sc__law_is_short (fun _ _ _ _ _ _ us hl => match us, hl with | [_], _ => rfl) (fun c ds P h => by obtain ⟨_, e, _⟩ := h; rw [e]; rfl) fun f cdv A outer s H E hr => ?_
  have nd := sc__law_is_short.nd
  refine ⟨_, PSs.nox (pss_cons (ps_if (PW.pt (pw_or (pt_not (pt_val (pe_callB call_isi rfl T.n_isinstance (by decide +kernel) (pa_cons (pv 0) (pa_cons (pe_bltn (v := .ty "tuple") (u := .type "tuple") rfl T.n_tuple (by decide +kernel) rfl) pa_nil))))) (pw_or1 (pt_cmpR op_ne (pe_callB call_len_seq rfl T.n_len (by decide +kernel) (pa_cons (pv 0) pa_nil)) pe_int (nomark _))))) (pss_one (ps_ret pe_bl)) pss_nil)
      (pss_cons (ps_if (PW.pt (pw_or (pt_not (pt_val (pe_cf f__law_is_number (hr.mono (by decide)) (pa_cons (pe_ix ix_tup (pv 0) pe_int (fun _ _ => rfl)) (pa_cons (pe_un un_neg (pe_op op_pow pe_int pe_int)) (pa_cons (pe_op op_pow pe_int pe_int) pa_nil)))))) (pw_or1 (pt_not (pt_val (pe_cf f__law_is_number (hr.mono (by decide)) (pa_cons (pe_ix ix_tup (pv 0) pe_int (fun _ _ => rfl)) (pa_cons pe_int (pa_cons (pe_op op_pow pe_int pe_int) pa_nil))))))))) (pss_one (ps_ret pe_bl)) pss_nil)
      (pss_one (ps_ret (pe_cmpR (op_eqD hr.units) (pe_cf f__law_low (hr.mono (by decide)) (pa_cons (pe_ix ix_tup (pv 0) pe_int (fun _ _ => rfl)) (pa_cons (pe_ix ix_tup (pv 0) pe_int (fun _ _ => rfl)) pa_nil))) (pv 0) (nomark _)))))), ?_⟩
  rintro c ds P E σ H Q ⟨d, rfl, hp, hP⟩ a0 k
  refine q_when (b := !isTwo d) a0 (td_two (ed_var rfl) (fun ds e => e ▸ ed_var rfl) hp) (fun e H1 a1 => ?_) fun e H1 a1 => ?_
  · refine x_ret a1 (En.of ed_bl ?_) k
    have e2 : isShort d = false := by
      unfold isShort
      split
      · cases e
      · rfl
    rw [← e2]
    exact hP
  · obtain ⟨x, y, rfl⟩ := isTwo_inv (show isTwo d = true by cases q : isTwo d with | true => rfl | false => rw [q] at e; cases e)
    obtain ⟨_, hps⟩ := pl_tup hp
    have hx := pls_mem hps (List.mem_cons_self (a := x))
    have hy := pls_mem hps (List.mem_cons_of_mem x (List.mem_cons_self (a := y)))
    refine q_when (b := !(inB (-1000000000000) 1000000000000 x) || !(inB 1 1000000000000 y)) a1
      (td_or (td_not (td_B (ed_call (ad_cons (ed_ixT (ed_var rfl) ed_int rfl) (ad_cons (ed_neg ed_p12) (ad_cons ed_p12 ad_nil))) ⟨x, _, _, rfl, hx, rfl⟩)))
        fun _ => td_not (td_B (ed_call (ad_cons (ed_ixT (ed_var rfl) ed_int rfl) (ad_cons ed_int (ad_cons ed_p12 ad_nil))) ⟨y, _, _, rfl, hy, rfl⟩))) (fun e H2 a2 => ?_) fun e H2 a2 => ?_
    · refine x_ret a2 (En.of ed_bl ?_) k
      have e2 : isShort (.tup [x, y]) = false := by
        rw [short_of]
        cases q1 : inB (-1000000000000) 1000000000000 x
        · rfl
        · rw [q1] at e
          have e3 : inB 1 1000000000000 y = false := by
            cases q2 : inB 1 1000000000000 y with
            | false => rfl
            | true => rw [q2] at e; cases e
          rw [e3]
          rfl
      rw [← e2]
      exact hP
    · have h1 : inB (-1000000000000) 1000000000000 x = true := by
        cases q1 : inB (-1000000000000) 1000000000000 x with
        | true => rfl
        | false => rw [q1] at e; cases e
      have h2 : inB 1 1000000000000 y = true := by
        cases q1 : inB 1 1000000000000 y with
        | true => rfl
        | false => rw [h1, q1] at e; cases e
      rw [short_of, h1, h2] at hP
      obtain ⟨a, rfl, a1', a2'⟩ := inB_inv h1
      obtain ⟨b, rfl, b1, b2⟩ := inB_inv h2
      have hb : Bt 40 b := by
        show b.natAbs < 2 ^ 40
        have : (2 : Nat) ^ 40 = 1099511627776 := by decide
        omega
      exact x_ret a2 (En.of (Ed.to (ed_op (ed_call (ad_cons (ed_ixT (ed_var rfl) ed_int rfl) (ad_cons (ed_ixT (ed_var rfl) ed_int rfl) ad_nil)) ⟨a, b, rfl, by omega, hb.le (by decide), rfl⟩) (ed_var rfl) (rop_eqD rfl rfl rfl rfl))
        (congrArg D.bl (eqv_red b1))) hP) k
theorem ok__law_first_bad (T : Fr W.mg) (hD : DefP W "_law_first_bad" 87) (f__law_is_short : F__law_is_short W) : F__law_first_bad W := by
  refine fo_mk hD sc__law_first_bad (fun _ _ _ _ _ _ us hl => match us, hl with | [_, _, _], _ => rfl) (fun c ds P h => by obtain ⟨_, _, _, e, _⟩ := h; rw [e]; rfl) fun f cdv A outer s H E hr => ?_
  have nd := sc__law_first_bad.nd
  refine ⟨_, PSs.nox (pss_cons (ps_if (pt_not (pt_val (pe_callB call_isi rfl T.n_isinstance (by decide +kernel) (pa_cons (pv 0) (pa_cons (pe_bltn (v := .ty "tuple") (u := .type "tuple") rfl T.n_tuple (by decide +kernel) rfl) pa_nil))))) (pss_one (ps_ret (pe_lst (pa_cons pe_non pa_nil)))) pss_nil)
      (pss_cons (ps_setLc (i := 3) (own := [("_law_k", 4)]) (g := gName 4) (te := (tVar 4)) (tt := (tOr (tTest (tOp (rI0 fun i j => .bl (decide (j ≤ i))) (tVar 4) (tVar 2))) (tNot (tB (tCall (spU W.K W.C R__law_is_short) [] E0 (tCons (tOp (rIxT W.K) (tVar 0) (tVar 4)) tNil)))))) rfl nd rfl rfl (sw_true rfl rfl rfl (by decide +kernel)) (pi_range1 rfl T.n_range (pa_cons (pe_callB call_len_seq rfl T.n_len (by decide +kernel) (pa_cons (pv 0) pa_nil)) pa_nil)) (blkOk_by (own := [("_law_k", 4)]) (N := N__law_first_bad) (sc := defScope s__law_first_bad) (by decide +kernel)) (fun _ _ _ _ _ => (pg_name (i := 4) nd rfl (by first | exact Or.inl rfl | exact Or.inr rfl))) (fun _ _ _ _ _ => (pts_one (PW.pt (pw_or (pt_cmpR op_ge (pv 4) (pv 2) (nomark _)) (pw_or1 (pt_not (pt_val (pe_cf f__law_is_short (hr.mono (by decide)) (pa_cons (pe_ix ix_tup (pv 0) (pv 4) (fun _ _ => rfl)) pa_nil))))))))) (fun _ _ _ _ _ => (pv 4)))
      (pss_cons (ps_if (pt_cmpR (op_neD hr.units) (pv 3) (pe_lst pa_nil) (nomark _)) (pss_one (ps_ret (pe_slice sl_list (pv 3) po_none (po_some pe_int)))) pss_nil)
      (pss_one (ps_ret (pe_ifExp (pt_cmpR op_ge (pe_callB call_len_seq rfl T.n_len (by decide +kernel) (pa_cons (pv 0) pa_nil)) (pv 1) (nomark _)) (pe_lst pa_nil) (pe_lst (pa_cons pe_non pa_nil)))))))), ?_⟩
  rintro c ds P E σ H Q ⟨d, lo, hi, rfl, hp, hP⟩ a0 k
  refine q_when (b := !isTup d) a0 (td_not (td_B (ed_isTup (ed_var rfl) hp))) (fun e H1 a1 => ?_) fun e H1 a1 => ?_
  · refine x_ret a1 (En.of (ed_lst (ad_cons ed_non ad_nil)) ?_) k
    cases d <;> first | exact hP | cases e
  · cases d with
    | tup xs =>
      obtain ⟨hz, hps⟩ := pl_tup hp
      refine q_set a1 (ed_lcRf (n := xs.length) (f := fun k => decide (hi ≤ k) || !isShort (xs.getD k .non)) (g := fun k => .int (k : Int)) (ad_cons (ed_lenT (ed_var rfl)) ad_nil) (by omega) (by decide) (fun i hi1 => ?_) fun i hi1 _ => ed_var rfl) fun σ2 H2 a2 => ?_
      · have hil : i < xs.length := by omega
        have hx : xs[i]? = some xs[i] := List.getElem?_eq_getElem hil
        have e : xs.getD i .non = xs[i] := by rw [List.getD_eq_getElem?_getD, hx]; rfl
        have e1 : decide ((hi : Int) ≤ (i : Int)) = decide (hi ≤ i) := decide_eq_decide.mpr (by omega)
        rw [e]
        exact Td.to (td_or (td_test (ed_ge (ed_var rfl) (ed_var rfl))) fun _ => td_not (td_B (ed_call (ad_cons (ed_ixT (ed_var rfl) (ed_var rfl) (atI_nat hx)) ad_nil) ⟨_, rfl, pls_mem hps (List.mem_of_getElem? hx), rfl⟩))) (by rw [e1])
      · have ek : (List.range (Int.toNat (xs.length : Int))).filter (fun k => decide (hi ≤ k) || !isShort (xs.getD k .non)) = bads isShort xs hi := rfl
        rw [ek] at a2
        have hl : (bads isShort xs hi).length ≤ 1000 := by
          have := List.length_filter_le (fun k => decide (hi ≤ k) || !isShort (xs.getD k .non)) (List.range xs.length)
          rw [List.length_range] at this
          exact Nat.le_trans this hz
        obtain ⟨o1, s1⟩ := ints_ok (bads isShort xs hi)
        have eh : firstBad lo hi (.tup xs) = if bads isShort xs hi ≠ [] then ((bads isShort xs hi).map fun k : Nat => D.int (k : Int)).take 1 else if lo ≤ xs.length then [] else [.non] := rfl
        refine q_when (b := !((bads isShort xs hi).map fun k : Nat => D.int (k : Int)).isEmpty) a2 (Td.to (td_test (ed_op (ed_var rfl) (ed_lst ad_nil) (rop_neD o1 rfl s1 rfl))) (by rw [eqv_nil])) (fun e H3 a3 => ?_) fun e H3 a3 => ?_
        · refine x_ret a3 (En.of (Ed.to (ed_slL (ed_var rfl) od_none (od_some ed_int)) (congrArg D.lst (cut_to (k := 1)))) ?_) k
          have hn : bads isShort xs hi ≠ [] := by
            intro z
            rw [z] at e
            cases e
          rw [eh, if_pos hn] at hP
          exact hP
        · have hn : ¬ bads isShort xs hi ≠ [] := by
            intro z
            apply z
            cases q : bads isShort xs hi with
            | nil => rfl
            | cons a r => rw [q] at e; cases e
          rw [eh, if_neg hn] at hP
          refine x_ret a3 (en_if (T := (· = decide ((lo : Int) ≤ (xs.length : Int)))) (td_test (ed_ge (ed_lenT (ed_var rfl)) (ed_var rfl))) (fun q => En.of (ed_lst ad_nil) ?_) fun q => En.of (ed_lst (ad_cons ed_non ad_nil)) ?_) k
          · rw [if_pos (by have := of_decide_eq_true q.symm; omega)] at hP
            exact hP
          · rw [if_neg (by have := of_decide_eq_false q.symm; omega)] at hP
            exact hP
    | _ => cases e
theorem ok__law_is_stretch (T : Fr W.mg) (hD : DefP W "_law_is_stretch" 88) (f__law_is_short : F__law_is_short W) (f__law_less : F__law_less W) : F__law_is_stretch W := by
  refine fo_mk hD sc__law_is_stretch (fun _ _ _ _ _ _ us hl => match us, hl with | [_], _ => rfl) (fun c ds P h => by obtain ⟨_, e, _⟩ := h; rw [e]; rfl) fun f cdv A outer s H E hr => ?_
  have nd := sc__law_is_stretch.nd
  refine ⟨_, PSs.nox (pss_cons (ps_if (PW.pt (pw_or (pt_not (pt_val (pe_callB call_isi rfl T.n_isinstance (by decide +kernel) (pa_cons (pv 0) (pa_cons (pe_bltn (v := .ty "tuple") (u := .type "tuple") rfl T.n_tuple (by decide +kernel) rfl) pa_nil))))) (pw_or1 (pt_cmpR op_ne (pe_callB call_len_seq rfl T.n_len (by decide +kernel) (pa_cons (pv 0) pa_nil)) pe_int (nomark _))))) (pss_one (ps_ret pe_bl)) pss_nil)
      (pss_one (ps_ret (pe_and (pe_cf f__law_is_short (hr.mono (by decide)) (pa_cons (pe_ix ix_tup (pv 0) pe_int (fun _ _ => rfl)) pa_nil)) (pe_and (pe_cf f__law_is_short (hr.mono (by decide)) (pa_cons (pe_ix ix_tup (pv 0) pe_int (fun _ _ => rfl)) pa_nil)) (pe_one (pe_not (pe_cf f__law_less (hr.mono (by decide)) (pa_cons (pe_ix ix_tup (pv 0) pe_int (fun _ _ => rfl)) (pa_cons (pe_ix ix_tup (pv 0) pe_int (fun _ _ => rfl)) pa_nil)))))))))), ?_⟩
  rintro c ds P E σ H Q ⟨d, rfl, hp, hP⟩ a0 k
  refine q_when (b := !isTwo d) a0 (td_two (ed_var rfl) (fun ds e => e ▸ ed_var rfl) hp) (fun e H1 a1 => ?_) fun e H1 a1 => ?_
  · refine x_ret a1 (En.of ed_bl ?_) k
    have e2 : isStretch d = false := by
      unfold isStretch
      split
      · cases e
      · rfl
    rw [← e2]
    exact hP
  · obtain ⟨x, y, rfl⟩ := isTwo_inv (show isTwo d = true by cases q : isTwo d with | true => rfl | false => rw [q] at e; cases e)
    obtain ⟨_, hps⟩ := pl_tup hp
    have hx := pls_mem hps (List.mem_cons_self (a := x))
    have hy := pls_mem hps (List.mem_cons_of_mem x (List.mem_cons_self (a := y)))
    have es : isStretch (.tup [x, y]) = (isShort x && (isShort y && !ltD y x)) := by
      show (isShort x && isShort y && !ltD y x) = _
      rw [Bool.and_assoc]
    rw [es] at hP
    refine x_ret a1 (En.of (ed_and (ed_call (ad_cons (ed_ixT (ed_var rfl) ed_int rfl) ad_nil) ⟨x, rfl, hx, rfl⟩) fun e1 => ed_and (ed_call (ad_cons (ed_ixT (ed_var rfl) ed_int rfl) ad_nil) ⟨y, rfl, hy, rfl⟩) fun e2 => ?_) hP) k
    obtain ⟨u, v, rfl, rfl, fu, fv, el⟩ := ltD_of e2 e1
    rw [el]
    exact ed_not (ed_call (ad_cons (ed_ixT (ed_var rfl) ed_int rfl) (ad_cons (ed_ixT (ed_var rfl) ed_int rfl) ad_nil)) ⟨u, v, rfl, fu, fv, rfl⟩)
end
end K10
set_option Elab.async false
set_option linter.all false
set_option maxRecDepth 100000
set_option maxHeartbeats 4000000
/-! Rows of fractions, corners, high at every corner: the program's and the law's. -/
namespace K10
open PySem PySem.Spec PyProof.Rows L2 StX RZ
abbrev Q2 := Int × Int
def unfd : D → Q2
  | .tup [.int a, .int b] => (a, b)
  | _ => (0, 1)
def nums (xs : List Q2) : D := .tup (xs.map fd)
def pr (s : Q2 × Q2) : D := .tup [fd s.1, fd s.2]
def putQ (xs ps : List Q2) (m : Q2) : List Q2 := List.zipWith (fun x p => addQ x (mulQ m p)) xs ps
def withQ (xs : List Q2) (zs : List (List Q2 × Q2)) : List Q2 := zs.foldl (fun f z => putQ f z.1 z.2) xs
def cornStep (f : List (List Q2)) (s : Q2 × Q2) : List (List Q2) := f.flatMap fun a => [a ++ [s.1], a ++ [s.2]]
def corners (bx : List (Q2 × Q2)) : List (List Q2) := bx.foldl cornStep [[]]
def lastQ (xs : List Q2) : Q2 := xs.getLast?.getD (0, 1)
def highB (xs : List Q2) (pps : List (List Q2)) (bx : List (Q2 × Q2)) : Bool := (corners bx).all fun am => decide (0 < (lastQ (withQ xs (pps.zip am))).1)
theorem mulQ_comm (x y : Q2) : mulQ x y = mulQ y x := by
  unfold mulQ
  rw [Int.mul_comm, Int.mul_comm x.2]
theorem putQ_len {xs ps : List Q2} {m : Q2} (h : xs.length = ps.length) : (putQ xs ps m).length = xs.length := by
  unfold putQ
  rw [List.length_zipWith, h, Nat.min_self]
theorem putQ_fq {n : Nat} {xs ps : List Q2} {m : Q2} (hx : ∀ x ∈ xs, Fq n x) (hp : ∀ p ∈ ps, Fq 40 p) (hm : Fq 40 m) : ∀ y ∈ putQ xs ps m, Fq (n + 81) y := by
  intro y hy
  obtain ⟨i, hi⟩ := List.mem_iff_getElem?.mp hy
  unfold putQ at hi
  rw [List.getElem?_zipWith] at hi
  cases h1 : xs[i]? with
  | none => rw [h1] at hi; cases hi
  | some x =>
    cases h2 : ps[i]? with
    | none => rw [h1, h2] at hi; cases hi
    | some p =>
      rw [h1, h2] at hi
      have e : addQ x (mulQ m p) = y := Option.some.inj hi
      rw [← e]
      have := fq_add (hx x (List.mem_of_getElem? h1)) (fq_mul hm (hp p (List.mem_of_getElem? h2)))
      exact this.le (by omega)
theorem nums_at {xs : List Q2} {i : Nat} {x : D} (h : (xs.map fd)[i]? = some x) : ∃ q, xs[i]? = some q ∧ x = fd q := by
  rw [List.getElem?_map] at h
  cases e : xs[i]? with
  | none => rw [e] at h; cases h
  | some q => rw [e] at h; exact ⟨q, rfl, (Option.some.inj h).symm⟩
theorem withQ_step {xs : List Q2} {zs : List (List Q2 × Q2)} {n : Nat} {z : List Q2 × Q2} (h : zs[n]? = some z) : withQ xs (zs.take (n + 1)) = putQ (withQ xs (zs.take n)) z.1 z.2 := by
  unfold withQ
  rw [take_succ_of h, List.foldl_append]
  rfl
/-- lengths and bits on the way -/
theorem withQ_ok {xs : List Q2} {zs : List (List Q2 × Q2)} (hx : ∀ x ∈ xs, Fq 40 x) (hz : ∀ z ∈ zs, z.1.length = xs.length ∧ (∀ p ∈ z.1, Fq 40 p) ∧ Fq 40 z.2) : ∀ n, (withQ xs (zs.take n)).length = xs.length ∧ ∀ y ∈ withQ xs (zs.take n), Fq (40 + 81 * n) y := by
  intro n
  induction n with
  | zero => exact ⟨rfl, fun y hy => (hx y hy).le (by omega)⟩
  | succ n ih =>
    cases h : zs[n]? with
    | none =>
      have e : zs.take (n + 1) = zs.take n := by
        have := List.getElem?_eq_none_iff.mp h
        rw [List.take_of_length_le (by omega), List.take_of_length_le this]
      rw [e]
      exact ⟨ih.1, fun y hy => (ih.2 y hy).le (by omega)⟩
    | some z =>
      obtain ⟨z1, z2, z3⟩ := hz z (List.mem_of_getElem? h)
      rw [withQ_step h]
      refine ⟨?_, fun y hy => ?_⟩
      · rw [putQ_len (by rw [ih.1, z1])]
        exact ih.1
      · exact (putQ_fq ih.2 z2 z3 y hy).le (by omega)
/-- tuples of two things, walked together -/
def ZOk (xs : List Q2) (pps : List (List Q2)) (am : List Q2) : Prop := (∀ x ∈ xs, Fq 40 x) ∧ xs.length ≤ 1000 ∧ pps.length = am.length ∧ pps.length ≤ 8 ∧ (∀ p ∈ pps, p.length = xs.length ∧ ∀ q ∈ p, Fq 40 q) ∧ ∀ q ∈ am, Fq 40 q
theorem ZOk.zs {xs : List Q2} {pps : List (List Q2)} {am : List Q2} (h : ZOk xs pps am) : ∀ z ∈ pps.zip am, z.1.length = xs.length ∧ (∀ p ∈ z.1, Fq 40 p) ∧ Fq 40 z.2 := by
  intro z hz
  obtain ⟨a, b⟩ := z
  obtain ⟨h1, h2⟩ := List.of_mem_zip hz
  exact ⟨(h.2.2.2.2.1 a h1).1, (h.2.2.2.2.1 a h1).2, h.2.2.2.2.2 b h2⟩
abbrev R_put_to : Rel := fun _ ds P => ∃ (xs ps : List Q2) (m : Q2), ds = [nums xs, nums ps, fd m] ∧ xs.length = ps.length ∧ xs.length ≤ 1000 ∧ (∀ x ∈ xs, Fq 700 x) ∧ (∀ p ∈ ps, Fq 40 p) ∧ Fq 40 m ∧ P (nums (putQ xs ps m))
abbrev R_with_parts : Rel := fun _ ds P => ∃ (xs : List Q2) (pps : List (List Q2)) (am : List Q2), ds = [nums xs, .tup (pps.map nums), nums am] ∧ ZOk xs pps am ∧ P (nums (withQ xs (pps.zip am)))
abbrev R_corners_in : Rel := fun _ ds P => ∃ bx : List (Q2 × Q2), ds = [.tup (bx.map pr)] ∧ bx.length ≤ 6 ∧ P (.lst ((corners bx).map nums))
abbrev s_put_to : Stmt := top 58
abbrev N_put_to : List PySem.Str := ["numbers", "part", "amount", "number", "more"]
theorem sc_put_to : FnScope N_put_to ["numbers", "part", "amount"] (defScope s_put_to) := ⟨rfl, rfl, rfl, by decide +kernel, rfl, by decide +kernel, by decide +kernel⟩
abbrev F_put_to (W : Wd) : Prop := Fo W 4 "put_to" ["numbers", "part", "amount"] R_put_to
abbrev s_with_parts : Stmt := top 59
abbrev N_with_parts : List PySem.Str := ["base", "parts", "amounts", "found", "part", "amount"]
theorem sc_with_parts : FnScope N_with_parts ["base", "parts", "amounts"] (defScope s_with_parts) := ⟨rfl, rfl, rfl, by decide +kernel, rfl, by decide +kernel, by decide +kernel⟩
abbrev F_with_parts (W : Wd) : Prop := Fo W 5 "with_parts" ["base", "parts", "amounts"] R_with_parts
abbrev s_corners_in : Stmt := top 60
abbrev N_corners_in : List PySem.Str := ["box", "found", "stretch", "amounts", "end"]
theorem sc_corners_in : FnScope N_corners_in ["box"] (defScope s_corners_in) := ⟨rfl, rfl, rfl, by decide +kernel, rfl, by decide +kernel, by decide +kernel⟩
abbrev F_corners_in (W : Wd) : Prop := Fo W 1 "corners_in" ["box"] R_corners_in
abbrev R_is_high : Rel := fun _ ds P => ∃ (xs : List Q2) (pps : List (List Q2)) (bx : List (Q2 × Q2)), ds = [nums xs, .tup (pps.map nums), .tup (bx.map pr)] ∧ xs ≠ [] ∧ bx.length ≤ 6 ∧ (∀ am ∈ corners bx, ZOk xs pps am) ∧ P (.bl (highB xs pps bx))
abbrev s_is_high : Stmt := top 61
abbrev N_is_high : List PySem.Str := ["base", "parts", "box", "amounts"]
theorem sc_is_high : FnScope N_is_high ["base", "parts", "box"] (defScope s_is_high) := ⟨rfl, rfl, rfl, by decide +kernel, rfl, by decide +kernel, by decide +kernel⟩
abbrev F_is_high (W : Wd) : Prop := Fo W 6 "is_high" ["base", "parts", "box"] R_is_high
theorem fd_inj {x y : Q2} (h : fd x = fd y) : x = y := by
  obtain ⟨a, b⟩ := x
  obtain ⟨c, e⟩ := y
  unfold fd at h
  injection h with h
  injection h with h1 h
  injection h with h2 _
  injection h1 with h1
  injection h2 with h2
  exact Prod.ext h1 h2
section
variable {W : Wd}
theorem ok_put_to (T : Fr W.mg) (hD : DefP W "put_to" 58) (f_added : F_added W) (f_multiplied : F_multiplied W) : F_put_to W := by
  refine fo_mk hD sc_put_to (fun _ _ _ _ _ _ us hl => match us, hl with | [_, _, _], _ => rfl) (fun c ds P h => by obtain ⟨_, _, _, e, _⟩ := h; rw [e]; rfl) fun f cdv A outer s H E hr => ?_
  have nd := sc_put_to.nd
  refine ⟨_, PSs.nox (pss_one (ps_ret (pe_callTy call_tuple_of rfl T.n_tuple (by decide +kernel) (pa_cons (pe_lc (own := [("number", 3), ("more", 4)]) (g := gTup _ 2 (gCons (gName 3) (gCons (gName 4) gNil))) (te := (tCall (spU W.K W.C R_added) [] E0 (tCons (tVar 3) (tCons (tCall (spU W.K W.C R_multiplied) [] E0 (tCons (tVar 2) (tCons (tVar 4) tNil))) tNil)))) (tt := tYes) rfl nd (pi_zipA rfl T.n_zip (pa_cons (pv 0) (pa_cons (pv 1) pa_nil))) (blkOk_by (own := [("number", 3), ("more", 4)]) (N := N_put_to) (sc := defScope s_put_to) (by decide +kernel)) (fun _ _ _ _ _ => (pg_tup rfl (pgs_cons (pg_name (i := 3) nd rfl (by first | exact Or.inl rfl | exact Or.inr rfl)) (pgs_cons (pg_name (i := 4) nd rfl (by first | exact Or.inl rfl | exact Or.inr rfl)) pgs_nil)))) (fun _ _ _ _ _ => pts_nil) (fun _ _ _ _ _ => (pe_cf f_added (hr.mono (by decide)) (pa_cons (pv 3) (pa_cons (pe_cf f_multiplied (hr.mono (by decide)) (pa_cons (pv 2) (pa_cons (pv 4) pa_nil))) pa_nil))))) pa_nil)))), ?_⟩
  rintro c ds P E σ H Q ⟨xs, ps, m, rfl, hl, hz, hx, hp, hm, hP⟩ a0 k
  refine x_ret a0 (ed_cb (ad_cons (ed_lcZ (xs := xs.map fd) (ys := ps.map fd) (g := fun x y => match x, y with | .tup [.int a, .int b], .tup [.int e, .int f] => fd (addQ (a, b) (mulQ m (e, f))) | _, _ => .non) (ad_cons (ed_var rfl) (ad_cons (ed_var rfl) ad_nil)) (by rw [List.length_map, List.length_map]; exact hl) (by rw [List.length_map]; omega) (by decide) (by decide) fun i x y h1 h2 => ?_) ad_nil) (Rca.imp rca_tupL fun d e => ?_)) k
  · obtain ⟨q, hq, rfl⟩ := nums_at h1
    obtain ⟨r, hr, rfl⟩ := nums_at h2
    have fq := hx q (List.mem_of_getElem? hq)
    have fr := hp r (List.mem_of_getElem? hr)
    refine ed_call (ad_cons (ed_var rfl) (ad_cons (ed_call (ad_cons (ed_var rfl) (ad_cons (ed_var rfl) ad_nil)) ⟨m, r, rfl, hm.le (by decide), fr.le (by decide), rfl⟩) ad_nil)) ⟨q, mulQ m r, rfl, fq.le (by decide), (fq_mul hm fr).le (by decide), rfl⟩
  · rw [e]
    have e2 : List.zipWith (fun x y : D => match x, y with | .tup [.int a, .int b], .tup [.int e, .int f] => fd (addQ (a, b) (mulQ m (e, f))) | _, _ => .non) (xs.map fd) (ps.map fd) = (putQ xs ps m).map fd := by
      unfold putQ
      rw [List.zipWith_map, List.map_zipWith]
      rfl
    rw [e2]
    exact hP
theorem ok_with_parts (T : Fr W.mg) (hD : DefP W "with_parts" 59) (f_put_to : F_put_to W) : F_with_parts W := by
  refine fo_mk hD sc_with_parts (fun _ _ _ _ _ _ us hl => match us, hl with | [_, _, _], _ => rfl) (fun c ds P h => by obtain ⟨_, _, _, e, _⟩ := h; rw [e]; rfl) fun f cdv A outer s H E hr => ?_
  have nd := sc_with_parts.nd
  refine ⟨_, PSs.nox (pss_cons (ps_set (i := 3) nd rfl (by first | exact Or.inl rfl | exact Or.inr rfl) (pv 0))
      (pss_cons (ps_for PassesOwn.never rfl (pi_zipA rfl T.n_zip (pa_cons (pv 1) (pa_cons (pv 2) pa_nil))) (pg_tup rfl (pgs_cons (pg_name (i := 4) nd rfl (by first | exact Or.inl rfl | exact Or.inr rfl)) (pgs_cons (pg_name (i := 5) nd rfl (by first | exact Or.inl rfl | exact Or.inr rfl)) pgs_nil))) (pss_one (ps_set (i := 3) nd rfl (by first | exact Or.inl rfl | exact Or.inr rfl) (pe_cf f_put_to (hr.mono (by decide)) (pa_cons (pv 3) (pa_cons (pv 4) (pa_cons (pv 5) pa_nil)))))))
      (pss_one (ps_ret (pv 3))))), ?_⟩
  rintro c ds P E σ H Q ⟨xs, pps, am, rfl, hz, hP⟩ a0 k
  obtain ⟨hx, hxl, hl, hl8, hpp, ham⟩ := id hz
  have hzs := hz.zs
  have ok := withQ_ok hx hzs
  refine q_set a0 (ed_var rfl) fun σ1 H1 a1 => ?_
  refine q_forZ a1 (ad_cons (ed_var rfl) (ad_cons (ed_var rfl) ad_nil)) (by unfold nums at *; rw [List.length_map, List.length_map]; exact hl) (fun n δ m => m = none ∧ ∃ o1 o2, δ = [some (nums xs), some (.tup (pps.map nums)), some (nums am), some (nums (withQ xs ((pps.zip am).take n))), o1, o2]) ⟨rfl, none, none, rfl⟩ ?_ ?_
  · rintro b n x y v w T δ m σ2 H2 hx1 hy1 ⟨rfl, o1, o2, rfl⟩ dv dw hT a2
    refine g_two a2 hT dv dw fun σ3 H3 a3 => ?_
    rw [List.getElem?_map] at hx1
    cases e1 : pps[n]? with
    | none => rw [e1] at hx1; cases hx1
    | some p =>
      rw [e1] at hx1
      have ex : nums p = x := Option.some.inj hx1
      subst ex
      obtain ⟨q, hq, rfl⟩ := nums_at hy1
      have hzn : (pps.zip am)[n]? = some (p, q) := by
        rw [List.getElem?_zip_eq_some]
        exact ⟨e1, hq⟩
      have hn8 : n < 8 := by
        have := (List.getElem?_eq_some_iff.mp e1).1
        omega
      have hp := hpp p (List.mem_of_getElem? e1)
      refine x_set a3 (ed_call (ad_cons (ed_var rfl) (ad_cons (ed_var rfl) (ad_cons (ed_var rfl) ad_nil))) ⟨_, p, q, rfl, by rw [(ok n).1, hp.1], by rw [(ok n).1]; exact hxl, fun y hy => ((ok n).2 y hy).le (by omega), hp.2, ham q (List.mem_of_getElem? hq), rfl⟩) fun σ4 H4 a4 => ?_
      exact ⟨_, none, ⟨rfl, _, _, by rw [withQ_step hzn]; rfl⟩, a4⟩
  · rintro δ m σ2 H2 ⟨rfl, o1, o2, rfl⟩ a2
    refine x_ret a2 (En.of (ed_var rfl) ?_) k
    rw [List.length_map, List.take_of_length_le (by rw [List.length_zip]; omega)]
    exact hP
theorem cornStep_len {f : List (List Q2)} {s : Q2 × Q2} : (cornStep f s).length = f.length * 2 := by
  unfold cornStep
  rw [List.length_flatMap]
  induction f with
  | nil => rfl
  | cons a r ih =>
    rw [List.map_cons, List.sum_cons, ih]
    show 2 + r.length * 2 = (r.length + 1) * 2
    omega
theorem corners_take_len (bx : List (Q2 × Q2)) : ∀ n, (corners (bx.take n)).length ≤ 2 ^ n
  | 0 => Nat.le_refl 1
  | n + 1 => by
    cases h : bx[n]? with
    | none =>
      have e : bx.take (n + 1) = bx.take n := by
        have := List.getElem?_eq_none_iff.mp h
        rw [List.take_of_length_le (by omega), List.take_of_length_le this]
      rw [e, Nat.pow_succ]
      have := corners_take_len bx n
      omega
    | some s =>
      have ih := corners_take_len bx n
      unfold corners at ih ⊢
      rw [take_succ_of h, List.foldl_append, List.foldl_cons, List.foldl_nil, cornStep_len, Nat.pow_succ]
      omega
theorem corners_step {bx : List (Q2 × Q2)} {n : Nat} {s : Q2 × Q2} (h : bx[n]? = some s) : corners (bx.take (n + 1)) = cornStep (corners (bx.take n)) s := by
  unfold corners
  rw [take_succ_of h, List.foldl_append]
  rfl
theorem corners_len (bx : List (Q2 × Q2)) {am : List Q2} : ∀ n, n ≤ bx.length → am ∈ corners (bx.take n) → am.length = n := by
  intro n
  induction n generalizing am with
  | zero =>
    intro _ h
    have h1 : am ∈ [([] : List Q2)] := h
    rw [List.mem_singleton.mp h1]
    rfl
  | succ n ih =>
    intro hn h
    have hs : bx[n]? = some bx[n] := List.getElem?_eq_getElem (by omega)
    rw [corners_step hs] at h
    obtain ⟨a, ha, h2⟩ := List.mem_flatMap.mp h
    have := ih (by omega) ha
    rcases List.mem_cons.mp h2 with e | e
    · rw [e, List.length_append, this]; rfl
    · rw [List.mem_singleton.mp e, List.length_append, this]; rfl
theorem ok_corners_in (T : Fr W.mg) (hD : DefP W "corners_in" 60)  : F_corners_in W := by
  refine fo_mk hD sc_corners_in (fun _ _ _ _ _ _ us hl => match us, hl with | [_], _ => rfl) (fun c ds P h => by obtain ⟨_, e, _⟩ := h; rw [e]; rfl) fun f cdv A outer s H E hr => ?_
  have nd := sc_corners_in.nd
  refine ⟨_, PSs.nox (pss_cons (ps_set (i := 1) nd rfl (by first | exact Or.inl rfl | exact Or.inr rfl) (pe_lst (pa_cons (pe_tup pa_nil) pa_nil)))
      (pss_cons (ps_for PassesOwn.never rfl (pi_tup (pv 0)) (pg_name (i := 2) nd rfl (by first | exact Or.inl rfl | exact Or.inr rfl)) (pss_one (ps_setLc2 (i := 1) (own := [("amounts", 3), ("end", 4)]) (vs1 := [4]) (g := gName 3) (g1 := gName 4) (wi1 := iTup W.K (tVar 2)) (te := (tTup (tStar W.K (tVar 3) (tCons (tVar 4) tNil)))) (tt := tYes) (tt1 := tYes) rfl nd rfl rfl (sw_true rfl rfl rfl (by decide +kernel)) (pi_list (pv 1)) (blkOk_by (own := [("amounts", 3), ("end", 4)]) (N := N_corners_in) (sc := defScope s_corners_in) (by decide +kernel)) (by decide) (fun _ _ _ _ _ => (pg_name (i := 3) nd rfl (by first | exact Or.inl rfl | exact Or.inr rfl))) (fun _ _ _ _ _ => pts_nil) (fun _ _ _ _ _ => by exact (pi_tup (pv 2))) (fun _ _ _ _ _ => (pg_name (i := 4) nd rfl (by first | exact Or.inl rfl | exact Or.inr rfl))) (fun _ _ _ _ _ => pts_nil) (fun _ _ _ _ _ => (pe_tup (pa_star (pv 3) (pa_cons (pv 4) pa_nil)))))))
      (pss_one (ps_ret (pv 1))))), ?_⟩
  rintro c ds P E σ H Q ⟨bx, rfl, hz, hP⟩ a0 k
  refine q_set (d := .lst (List.map nums [[]])) a0 (ed_lst (ad_cons (ed_tup ad_nil) ad_nil)) fun σ1 H1 a1 => ?_
  refine q_forT a1 (ed_var rfl) (fun n δ m => m = none ∧ ∃ o, δ = [some (.tup (bx.map pr)), some (.lst ((corners (bx.take n)).map nums)), o, none, none]) ⟨rfl, none, rfl⟩ ?_ ?_
  · rintro b n x δ m σ2 H2 hx ⟨rfl, o, rfl⟩ a2
    rw [List.getElem?_map] at hx
    cases e1 : bx[n]? with
    | none => rw [e1] at hx; cases hx
    | some s =>
      rw [e1] at hx
      have ex : pr s = x := Option.some.inj hx
      subst ex
      have hn6 : n < 6 := by
        have := (List.getElem?_eq_some_iff.mp e1).1
        omega
      have hl := corners_take_len bx n
      have hp : 2 ^ n ≤ 2 ^ 5 := Nat.pow_le_pow_right (by decide) (by omega)
      refine x_set a2 (Ed.to (ed_lc2 (xs := (corners (bx.take n)).map nums) (ys := fun _ => [fd s.1, fd s.2]) (g := fun x y => match x with | .tup ds => .tup (ds ++ [y]) | _ => .non) (ed_var rfl) (by rw [List.length_map]; omega) (fun _ _ => by simp) (by decide) (by decide) (fun _ _ => ed_var rfl)
        fun x hx y hy => ?_) (d' := .lst ((corners (bx.take (n + 1))).map nums)) ?_) fun σ4 H4 a4 => ?_
      · obtain ⟨am, ham, rfl⟩ := List.mem_map.mp hx
        have h1 := corners_len bx n (by have := (List.getElem?_eq_some_iff.mp e1).1; omega) ham
        exact ed_tup (ad_star (ed_var rfl) (ad_cons (ed_var rfl) ad_nil)) (by rw [List.length_append, List.length_map]; simp; omega)
      · rw [corners_step e1]
        unfold cornStep
        rw [List.map_flatMap, List.flatMap_map]
        congr 1
        congr 1
        funext a
        show [D.tup (a.map fd ++ [fd s.1]), D.tup (a.map fd ++ [fd s.2])] = [nums (a ++ [s.1]), nums (a ++ [s.2])]
        unfold nums
        rw [List.map_append, List.map_append]
        rfl
      · exact ⟨_, none, ⟨rfl, _, rfl⟩, a4⟩
  · rintro δ m σ2 H2 ⟨rfl, o, rfl⟩ a2
    refine x_ret a2 (En.of (ed_var rfl) ?_) k
    rw [List.length_map, List.take_of_length_le (Nat.le_refl _)]
    exact hP
theorem last_fd {xs : List Q2} (h : xs ≠ []) : atI (xs.map fd) (-1) = some (fd (lastQ xs)) := by
  have e : xs = xs.dropLast ++ [lastQ xs] := by
    unfold lastQ
    rw [List.getLast?_eq_some_getLast h]
    exact (List.dropLast_concat_getLast h).symm
  have e2 : xs.map fd = xs.dropLast.map fd ++ [fd (lastQ xs)] := by
    have := congrArg (List.map fd) e
    rw [List.map_append] at this
    exact this
  rw [e2]
  exact atI_last _ _
theorem sgn_pos (n : Int) : decide (0 < PyProof.Rows.b2i (decide (0 < n)) - PyProof.Rows.b2i (decide (n < 0))) = decide (0 < n) := by
  by_cases h1 : 0 < n
  · have h2 : ¬ n < 0 := by omega
    simp [h1, h2, PyProof.Rows.b2i]
  · by_cases h2 : n < 0
    · simp [h1, h2, PyProof.Rows.b2i]
    · simp [h1, h2, PyProof.Rows.b2i]
theorem ok_is_high (T : Fr W.mg) (hD : DefP W "is_high" 61) (f_sign : F_sign W) (f_corners_in : F_corners_in W) (f_with_parts : F_with_parts W) : F_is_high W := by
  refine fo_mk hD sc_is_high (fun _ _ _ _ _ _ us hl => match us, hl with | [_, _, _], _ => rfl) (fun c ds P h => by obtain ⟨_, _, _, e, _⟩ := h; rw [e]; rfl) fun f cdv A outer s H E hr => ?_
  have nd := sc_is_high.nd
  refine ⟨_, PSs.nox (pss_one (ps_ret (pe_callB (cr_all rfl) rfl T.n_all (by decide +kernel) (pa_cons (pe_lc (own := [("amounts", 3)]) (g := gName 3) (te := (tOp (rI0 fun i j => .bl (decide (j < i))) (tCall (spU W.K W.C R_sign) [] E0 (tCons (tOp (rIxT W.K) (tCall (spU W.K W.C R_with_parts) [] E0 (tCons (tVar 0) (tCons (tVar 1) (tCons (tVar 3) tNil)))) (tUn (rU fun i => .int (-i)) (tC (.int 1)))) tNil)) (tC (.int 0)))) (tt := tYes) rfl nd (pi_list (pe_cf f_corners_in (hr.mono (by decide)) (pa_cons (pv 2) pa_nil))) (blkOk_by (own := [("amounts", 3)]) (N := N_is_high) (sc := defScope s_is_high) (by decide +kernel)) (fun _ _ _ _ _ => (pg_name (i := 3) nd rfl (by first | exact Or.inl rfl | exact Or.inr rfl))) (fun _ _ _ _ _ => pts_nil) (fun _ _ _ _ _ => (pe_cmpR op_gt (pe_cf f_sign (hr.mono (by decide)) (pa_cons (pe_ix ix_tup (pe_cf f_with_parts (hr.mono (by decide)) (pa_cons (pv 0) (pa_cons (pv 1) (pa_cons (pv 3) pa_nil)))) (pe_un un_neg pe_int) (fun _ _ => rfl)) pa_nil)) pe_int (nomark _)))) pa_nil)))), ?_⟩
  rintro c ds P E σ H Q ⟨xs, pps, bx, rfl, h0, hz, hok, hP⟩ a0 k
  have hl := corners_take_len bx bx.length
  rw [List.take_of_length_le (Nat.le_refl _)] at hl
  have hp : 2 ^ bx.length ≤ 2 ^ 6 := Nat.pow_le_pow_right (by decide) (by omega)
  refine x_ret a0 (En.of (ed_allL (xs := (corners bx).map nums) (f := fun x => match x with | .tup ds => decide (0 < (lastQ (withQ xs (pps.zip (ds.map unfd)))).1) | _ => false) (ed_call (ad_cons (ed_var rfl) ad_nil) ⟨bx, rfl, hz, rfl⟩) (by rw [List.length_map]; omega) fun x hx => ?_) ?_) k
  · obtain ⟨am, ham, rfl⟩ := List.mem_map.mp hx
    have ez := hok am ham
    have e2 : (am.map fd).map unfd = am := by
      rw [List.map_map]
      have : unfd ∘ fd = id := by funext q; rfl
      rw [this, List.map_id]
    have hne : withQ xs (pps.zip am) ≠ [] := by
      have := (withQ_ok ez.1 ez.zs (pps.zip am).length).1
      rw [List.take_of_length_le (Nat.le_refl _)] at this
      intro z
      rw [z] at this
      exact h0 (List.eq_nil_of_length_eq_zero this.symm)
    show Ed _ _ _ (.bl (decide (0 < (lastQ (withQ xs (pps.zip ((am.map fd).map unfd)))).1)))
    rw [e2]
    exact Ed.to (ed_gt (ed_call (ad_cons (ed_ixT (ed_call (ad_cons (ed_var rfl) (ad_cons (ed_var rfl) (ad_cons (ed_var rfl) ad_nil))) ⟨xs, pps, am, rfl, ez, rfl⟩) (ed_neg ed_int) (last_fd hne)) ad_nil) ⟨_, rfl, rfl⟩) ed_int) (by rw [sgn_pos])
  · have e3 : ((corners bx).map nums).all (fun x => match x with | .tup ds => decide (0 < (lastQ (withQ xs (pps.zip (ds.map unfd)))).1) | _ => false) = highB xs pps bx := by
      unfold highB
      rw [List.all_map]
      congr 1
      funext am
      show decide (0 < (lastQ (withQ xs (pps.zip ((am.map fd).map unfd)))).1) = _
      have e2 : (am.map fd).map unfd = am := by
        rw [List.map_map]
        have : unfd ∘ fd = id := by funext q; rfl
        rw [this, List.map_id]
      rw [e2]
    rw [e3]
    exact hP
end
end K10
set_option Elab.async false
set_option linter.all false
set_option maxRecDepth 100000
set_option maxHeartbeats 4000000
/-! Rows and corners, the law's own. -/
namespace K10
open PySem PySem.Spec PyProof.Rows L2 StX RZ
/-- bits of the lower number -/
def wq (x : Q2) : Nat := if x.2 ≤ 40 then 6 else 40
theorem wq_bt {x : Q2} (h : Fq 40 x) : Bt (wq x) x.2 := by
  unfold wq
  split
  · rename_i h1
    have := h.pos
    show x.2.natAbs < 2 ^ 6
    omega
  · exact h.b2
theorem red_le {a b : Int} (hb : 0 < b) : (red a b).2.natAbs ≤ b.natAbs := Int.natAbs_ediv_le_natAbs b _
theorem mulQ_bt {a b : Nat} {x y : Q2} (hx : Bt a x.2) (hy : Bt b y.2) (px : 0 < x.2) (py : 0 < y.2) : Bt (a + b) (mulQ x y).2 := Nat.lt_of_le_of_lt (red_le (Int.mul_pos px py)) (hx.mul hy)
theorem addQ_bt {a b : Nat} {x y : Q2} (hx : Bt a x.2) (hy : Bt b y.2) (px : 0 < x.2) (py : 0 < y.2) : Bt (a + b) (addQ x y).2 := Nat.lt_of_le_of_lt (red_le (Int.mul_pos px py)) (hx.mul hy)
theorem putQ_at {xs ps : List Q2} {m y : Q2} {i : Nat} (h : (putQ xs ps m)[i]? = some y) : ∃ x p, xs[i]? = some x ∧ ps[i]? = some p ∧ y = addQ x (mulQ m p) := by
  unfold putQ at h
  rw [List.getElem?_zipWith] at h
  cases h1 : xs[i]? with
  | none => rw [h1] at h; cases h
  | some x =>
    cases h2 : ps[i]? with
    | none => rw [h1, h2] at h; cases h
    | some p =>
      rw [h1, h2] at h
      exact ⟨x, p, rfl, rfl, (Option.some.inj h).symm⟩
def dsum (zs : List (List Q2 × Q2)) (i : Nat) : Nat := (zs.map fun z => wq (z.1.getD i (0, 1)) + wq z.2).sum
theorem dsum_step {zs : List (List Q2 × Q2)} {n i : Nat} {z : List Q2 × Q2} (h : zs[n]? = some z) : dsum (zs.take (n + 1)) i = dsum (zs.take n) i + (wq (z.1.getD i (0, 1)) + wq z.2) := by
  unfold dsum
  rw [take_succ_of h, List.map_append, List.sum_append]
  simp
theorem dsum_le (zs : List (List Q2 × Q2)) (n i : Nat) : dsum (zs.take n) i ≤ dsum zs i := by
  unfold dsum
  have e : zs.map (fun z => wq (z.1.getD i (0, 1)) + wq z.2) = (zs.take n).map (fun z => wq (z.1.getD i (0, 1)) + wq z.2) ++ (zs.drop n).map (fun z => wq (z.1.getD i (0, 1)) + wq z.2) := by
    rw [← List.map_append, List.take_append_drop]
  rw [e, List.sum_append]
  omega
/-- the lower numbers' bits on the way -/
theorem withQ_bt {xs : List Q2} {zs : List (List Q2 × Q2)} (hx : ∀ x ∈ xs, Fq 40 x) (hz : ∀ z ∈ zs, z.1.length = xs.length ∧ (∀ p ∈ z.1, Fq 40 p) ∧ Fq 40 z.2) : ∀ n i y, (withQ xs (zs.take n))[i]? = some y → Bt (40 + dsum (zs.take n) i) y.2 := by
  intro n
  induction n with
  | zero => exact fun i y hy => ((hx y (List.mem_of_getElem? hy)).b2).le (by omega)
  | succ n ih =>
    intro i y hy
    cases h : zs[n]? with
    | none =>
      have e : zs.take (n + 1) = zs.take n := by
        have := List.getElem?_eq_none_iff.mp h
        rw [List.take_of_length_le (by omega), List.take_of_length_le this]
      rw [e] at hy ⊢
      exact ih i y hy
    | some z =>
      obtain ⟨z1, z2, z3⟩ := hz z (List.mem_of_getElem? h)
      rw [withQ_step h] at hy
      obtain ⟨x, p, h1, h2, rfl⟩ := putQ_at hy
      have fp := z2 p (List.mem_of_getElem? h2)
      have b1 := ih i x h1
      have px := ((withQ_ok hx hz n).2 x (List.mem_of_getElem? h1)).pos
      have fm := fq_mul z3 fp
      have b2 := mulQ_bt (wq_bt z3) (wq_bt fp) z3.pos fp.pos
      have b3 := addQ_bt b1 b2 px fm.pos
      have e : z.1.getD i (0, 1) = p := by rw [List.getD_eq_getElem?_getD, h2]; rfl
      rw [dsum_step h, e]
      exact b3.le (by omega)
abbrev R__law_put : Rel := fun _ ds P => ∃ (xs ps : List Q2) (m : Q2), ds = [nums xs, nums ps, fd m] ∧ xs.length = ps.length ∧ xs.length ≤ 1000 ∧ (∀ x ∈ xs, Fq 700 x) ∧ (∀ p ∈ ps, Fq 40 p) ∧ Fq 40 m ∧
  (∀ (i : Nat) (x p : Q2), xs[i]? = some x → ps[i]? = some p → ∃ n, Bt n x.2 ∧ n + (wq p + wq m) ≤ 130) ∧ P (nums (putQ xs ps m))
/-- not too many great ones in one place -/
def DOk (xs : List Q2) (pps : List (List Q2)) (am : List Q2) : Prop := ∀ i, i < xs.length → dsum (pps.zip am) i ≤ 85
abbrev R__law_at : Rel := fun _ ds P => ∃ (xs : List Q2) (pps : List (List Q2)) (am : List Q2) (x : D), ds = [.tup [nums xs, .tup (pps.map nums), x], nums am] ∧ ZOk xs pps am ∧ DOk xs pps am ∧ P (nums (withQ xs (pps.zip am)))
abbrev R__law_corners : Rel := fun _ ds P => ∃ bx : List (Q2 × Q2), ds = [.tup (bx.map pr)] ∧ bx.length ≤ 6 ∧ P (.lst ((corners bx).map nums))
abbrev R__law_is_high : Rel := fun _ ds P => ∃ (xs : List Q2) (pps : List (List Q2)) (bx : List (Q2 × Q2)), ds = [.tup [nums xs, .tup (pps.map nums), .tup (bx.map pr)]] ∧ xs ≠ [] ∧ bx.length ≤ 6 ∧ (∀ am ∈ corners bx, ZOk xs pps am ∧ DOk xs pps am) ∧ P (.bl (highB xs pps bx))
abbrev s__law_put : Stmt := top 80
abbrev N__law_put : List PySem.Str := ["_law_some", "_law_part", "_law_much", "_law_k"]
theorem sc__law_put : FnScope N__law_put ["_law_some", "_law_part", "_law_much"] (defScope s__law_put) := ⟨rfl, rfl, rfl, by decide +kernel, rfl, by decide +kernel, by decide +kernel⟩
abbrev F__law_put (W : Wd) : Prop := Fo W 3 "_law_put" ["_law_some", "_law_part", "_law_much"] R__law_put
abbrev s__law_at : Stmt := top 95
abbrev N__law_at : List PySem.Str := ["_law_rig_here", "_law_some", "_law_found", "_law_k"]
theorem sc__law_at : FnScope N__law_at ["_law_rig_here", "_law_some"] (defScope s__law_at) := ⟨rfl, rfl, rfl, by decide +kernel, rfl, by decide +kernel, by decide +kernel⟩
abbrev F__law_at (W : Wd) : Prop := Fo W 4 "_law_at" ["_law_rig_here", "_law_some"] R__law_at
abbrev s__law_corners : Stmt := top 96
abbrev N__law_corners : List PySem.Str := ["_law_frame", "_law_found", "_law_span_here", "_law_later", "_law_each"]
theorem sc__law_corners : FnScope N__law_corners ["_law_frame"] (defScope s__law_corners) := ⟨rfl, rfl, rfl, by decide +kernel, rfl, by decide +kernel, by decide +kernel⟩
abbrev F__law_corners (W : Wd) : Prop := Fo W 1 "_law_corners" ["_law_frame"] R__law_corners
abbrev s__law_is_high : Stmt := top 97
abbrev N__law_is_high : List PySem.Str := ["_law_rig_here", "_law_some"]
theorem sc__law_is_high : FnScope N__law_is_high ["_law_rig_here"] (defScope s__law_is_high) := ⟨rfl, rfl, rfl, by decide +kernel, rfl, by decide +kernel, by decide +kernel⟩
abbrev F__law_is_high (W : Wd) : Prop := Fo W 5 "_law_is_high" ["_law_rig_here"] R__law_is_high
section
variable {W : Wd}
theorem ok__law_put (T : Fr W.mg) (hD : DefP W "_law_put" 80) (f__law_sum : F__law_sum W) (f__law_mul : F__law_mul W) : F__law_put W := by
  refine fo_mk hD sc__law_put (fun _ _ _ _ _ _ us hl => match us, hl with | [_, _, _], _ => rfl) (fun c ds P h => by obtain ⟨_, _, _, e, _⟩ := h; rw [e]; rfl) fun f cdv A outer s H E hr => ?_
  have nd := sc__law_put.nd
  refine ⟨_, PSs.nox (pss_one (ps_ret (pe_callTy call_tuple_of rfl T.n_tuple (by decide +kernel) (pa_cons (pe_lc (own := [("_law_k", 3)]) (g := gName 3) (te := (tCall (spU W.K W.C R__law_sum) [] E0 (tCons (tOp (rIxT W.K) (tVar 0) (tVar 3)) (tCons (tCall (spU W.K W.C R__law_mul) [] E0 (tCons (tOp (rIxT W.K) (tVar 1) (tVar 3)) (tCons (tVar 2) tNil))) tNil)))) (tt := tYes) rfl nd (pi_range1 rfl T.n_range (pa_cons (pe_callB call_len_seq rfl T.n_len (by decide +kernel) (pa_cons (pv 0) pa_nil)) pa_nil)) (blkOk_by (own := [("_law_k", 3)]) (N := N__law_put) (sc := defScope s__law_put) (by decide +kernel)) (fun _ _ _ _ _ => (pg_name (i := 3) nd rfl (by first | exact Or.inl rfl | exact Or.inr rfl))) (fun _ _ _ _ _ => pts_nil) (fun _ _ _ _ _ => (pe_cf f__law_sum (hr.mono (by decide)) (pa_cons (pe_ix ix_tup (pv 0) (pv 3) (fun _ _ => rfl)) (pa_cons (pe_cf f__law_mul (hr.mono (by decide)) (pa_cons (pe_ix ix_tup (pv 1) (pv 3) (fun _ _ => rfl)) (pa_cons (pv 2) pa_nil))) pa_nil))))) pa_nil)))), ?_⟩
  rintro c ds P E σ H Q ⟨xs, ps, m, rfl, hl, hz, hx, hp, hm, hb, hP⟩ a0 k
  refine x_ret a0 (ed_cb (ad_cons (ed_lcR (n := ((xs.map fd).length : Nat)) (g := fun i => fd (addQ (xs.getD i (0, 1)) (mulQ (ps.getD i (0, 1)) m))) (ad_cons (ed_lenT (ed_var rfl)) ad_nil) (by rw [List.length_map]; omega) (by decide) fun i hi => ?_) ad_nil) (Rca.imp rca_tupL fun d e => ?_)) k
  · rw [List.length_map] at hi
    have h1 : xs[i]? = some xs[i] := List.getElem?_eq_getElem (by omega)
    have h2 : ps[i]? = some ps[i] := List.getElem?_eq_getElem (by omega)
    have e1 : xs.getD i (0, 1) = xs[i] := by rw [List.getD_eq_getElem?_getD, h1]; rfl
    have e2 : ps.getD i (0, 1) = ps[i] := by rw [List.getD_eq_getElem?_getD, h2]; rfl
    rw [e1, e2]
    have fx := hx _ (List.mem_of_getElem? h1)
    have fp := hp _ (List.mem_of_getElem? h2)
    obtain ⟨n, b1, b2⟩ := hb i _ _ h1 h2
    have bm := (wq_bt fp).mul (wq_bt hm)
    have b3 := mulQ_bt (wq_bt fp) (wq_bt hm) fp.pos hm.pos
    have fm := fq_mul fp hm
    refine ed_call (ad_cons (ed_ixT (ed_var rfl) (ed_var rfl) (atI_nat (by rw [List.getElem?_map, h1]; rfl))) (ad_cons (ed_call (ad_cons (ed_ixT (ed_var rfl) (ed_var rfl) (atI_nat (by rw [List.getElem?_map, h2]; rfl))) (ad_cons (ed_var rfl) ad_nil))
      ⟨ps[i], m, rfl, fp.pos, hm.pos, fp.b1.le (by decide), hm.b1.le (by decide), bm.le (by omega), rfl⟩) ad_nil)) ⟨xs[i], mulQ ps[i] m, rfl, fx.pos, fm.pos, fx.b1.le (by decide), fm.b1.le (by decide), (b1.mul b3).le (by omega), rfl⟩
  · rw [e]
    have e2 : (List.range ((xs.map fd).length : Int).toNat).map (fun i => fd (addQ (xs.getD i (0, 1)) (mulQ (ps.getD i (0, 1)) m))) = (putQ xs ps m).map fd := by
      refine (list_of_at (n := (xs.map fd).length) (g := fun i => fd (addQ (xs.getD i (0, 1)) (mulQ (ps.getD i (0, 1)) m))) (by rw [List.length_map, putQ_len hl, List.length_map]) fun i d hd => ?_).symm
      obtain ⟨q, hq, rfl⟩ := nums_at hd
      obtain ⟨x, p, h1, h2, rfl⟩ := putQ_at hq
      have e1 : xs.getD i (0, 1) = x := by rw [List.getD_eq_getElem?_getD, h1]; rfl
      have e2 : ps.getD i (0, 1) = p := by rw [List.getD_eq_getElem?_getD, h2]; rfl
      rw [e1, e2, mulQ_comm]
    rw [e2]
    exact hP
theorem ok__law_at (T : Fr W.mg) (hD : DefP W "_law_at" 95) (f__law_put : F__law_put W) : F__law_at W := by
  refine fo_mk hD sc__law_at (fun _ _ _ _ _ _ us hl => match us, hl with | [_, _], _ => rfl) (fun c ds P h => by obtain ⟨_, _, _, _, e, _⟩ := h; rw [e]; rfl) fun f cdv A outer s H E hr => ?_
  have nd := sc__law_at.nd
  refine ⟨_, PSs.nox (pss_cons (ps_set (i := 2) nd rfl (by first | exact Or.inl rfl | exact Or.inr rfl) (pe_ix ix_tup (pv 0) pe_int (fun _ _ => rfl)))
      (pss_cons (ps_for PassesOwn.never rfl (pi_range1 rfl T.n_range (pa_cons (pe_callB call_len_seq rfl T.n_len (by decide +kernel) (pa_cons (pv 1) pa_nil)) pa_nil)) (pg_name (i := 3) nd rfl (by first | exact Or.inl rfl | exact Or.inr rfl)) (pss_one (ps_set (i := 2) nd rfl (by first | exact Or.inl rfl | exact Or.inr rfl) (pe_cf f__law_put (hr.mono (by decide)) (pa_cons (pv 2) (pa_cons (pe_ix ix_tup (pe_ix ix_tup (pv 0) pe_int (fun _ _ => rfl)) (pv 3) (fun _ _ => rfl)) (pa_cons (pe_ix ix_tup (pv 1) (pv 3) (fun _ _ => rfl)) pa_nil)))))))
      (pss_one (ps_ret (pv 2))))), ?_⟩
  rintro c ds P E σ H Q ⟨xs, pps, am, x, rfl, hz, hd, hP⟩ a0 k
  obtain ⟨hx, hxl, hl, hl8, hpp, ham⟩ := id hz
  have hzs := hz.zs
  have ok := withQ_ok hx hzs
  have okb := withQ_bt hx hzs
  refine q_set a0 (ed_ixT (ed_var rfl) ed_int rfl) fun σ1 H1 a1 => ?_
  refine q_forR (n := ((am.map fd).length : Nat)) a1 (ad_cons (ed_lenT (ed_var rfl)) ad_nil) (by rw [List.length_map]; omega) (fun n δ m => m = none ∧ ∃ o, δ = [some (.tup [nums xs, .tup (pps.map nums), x]), some (nums am), some (nums (withQ xs ((pps.zip am).take n))), o]) ⟨rfl, none, rfl⟩ ?_ ?_
  · rintro n δ m σ2 H2 hn ⟨rfl, o, rfl⟩ a2
    rw [List.length_map] at hn
    have hp1 : pps[n]? = some pps[n] := List.getElem?_eq_getElem (by omega)
    have hq1 : am[n]? = some am[n] := List.getElem?_eq_getElem (by omega)
    have hzn : (pps.zip am)[n]? = some (pps[n], am[n]) := by
      rw [List.getElem?_zip_eq_some]
      exact ⟨hp1, hq1⟩
    have hp := hpp _ (List.mem_of_getElem? hp1)
    have hm := ham _ (List.mem_of_getElem? hq1)
    refine x_set a2 (ed_call (ad_cons (ed_var rfl) (ad_cons (ed_ixT (ed_ixT (ed_var rfl) ed_int rfl) (ed_var rfl) (atI_nat (by rw [List.getElem?_map, hp1]; rfl))) (ad_cons (ed_ixT (ed_var rfl) (ed_var rfl) (atI_nat (by rw [List.getElem?_map, hq1]; rfl))) ad_nil)))
      ⟨_, pps[n], am[n], rfl, by rw [(ok n).1, hp.1], by rw [(ok n).1]; exact hxl, fun y hy => ((ok n).2 y hy).le (by omega), hp.2, hm, fun i y p h1 h2 => ?_, rfl⟩) fun σ4 H4 a4 => ?_
    · refine ⟨_, okb n i y h1, ?_⟩
      have hi : i < xs.length := by
        have := (List.getElem?_eq_some_iff.mp h1).1
        rw [(ok n).1] at this
        exact this
      have h3 := hd i hi
      have h4 := dsum_le (pps.zip am) (n + 1) i
      rw [dsum_step hzn] at h4
      have e : (pps[n]).getD i (0, 1) = p := by rw [List.getD_eq_getElem?_getD, h2]; rfl
      have h5 : dsum ((pps.zip am).take n) i + (wq ((pps[n]).getD i (0, 1)) + wq am[n]) ≤ dsum (pps.zip am) i := h4
      rw [e] at h5
      omega
    · exact ⟨_, none, ⟨rfl, _, by rw [withQ_step hzn]; rfl⟩, a4⟩
  · rintro δ m σ2 H2 ⟨rfl, o, rfl⟩ a2
    refine x_ret a2 (En.of (ed_var rfl) ?_) k
    have e : ((am.map fd).length : Int).toNat = am.length := by rw [List.length_map]; rfl
    rw [e, List.take_of_length_le (by rw [List.length_zip]; omega)]
    exact hP
theorem ok__law_corners (T : Fr W.mg) (hD : DefP W "_law_corners" 96)  : F__law_corners W := by
  refine fo_mk hD sc__law_corners (fun _ _ _ _ _ _ us hl => match us, hl with | [_], _ => rfl) (fun c ds P h => by obtain ⟨_, e, _⟩ := h; rw [e]; rfl) fun f cdv A outer s H E hr => ?_
  have nd := sc__law_corners.nd
  refine ⟨_, PSs.nox (pss_cons (ps_set (i := 1) nd rfl (by first | exact Or.inl rfl | exact Or.inr rfl) (pe_lst (pa_cons (pe_tup pa_nil) pa_nil)))
      (pss_cons (ps_for PassesOwn.never rfl (pi_tup (pv 0)) (pg_name (i := 2) nd rfl (by first | exact Or.inl rfl | exact Or.inr rfl)) (pss_cons (ps_set (i := 3) nd rfl (by first | exact Or.inl rfl | exact Or.inr rfl) (pe_lst pa_nil))
      (pss_cons (ps_for PassesOwn.never rfl (pi_list (pv 1)) (pg_name (i := 4) nd rfl (by first | exact Or.inl rfl | exact Or.inr rfl)) (pss_one (ps_set (i := 3) nd rfl (by first | exact Or.inl rfl | exact Or.inr rfl) (pe_op op_cat (pv 3) (pe_lst (pa_cons (pe_op op_catA (pv 4) (pe_tup (pa_cons (pe_ix ix_tup (pv 2) pe_int (fun _ _ => rfl)) pa_nil))) (pa_cons (pe_op op_catA (pv 4) (pe_tup (pa_cons (pe_ix ix_tup (pv 2) pe_int (fun _ _ => rfl)) pa_nil))) pa_nil)))))))
      (pss_one (ps_set (i := 1) nd rfl (by first | exact Or.inl rfl | exact Or.inr rfl) (pv 3))))))
      (pss_one (ps_ret (pv 1))))), ?_⟩
  rintro c ds P E σ H Q ⟨bx, rfl, hz, hP⟩ a0 k
  refine q_set (d := .lst (List.map nums [[]])) a0 (ed_lst (ad_cons (ed_tup ad_nil) ad_nil)) fun σ1 H1 a1 => ?_
  refine q_forT a1 (ed_var rfl) (fun n δ m => m = none ∧ ∃ o1 o2 o3, δ = [some (.tup (bx.map pr)), some (.lst ((corners (bx.take n)).map nums)), o1, o2, o3]) ⟨rfl, none, none, none, rfl⟩ ?_ ?_
  · rintro b n x δ m σ2 H2 hx ⟨rfl, o1, o2, o3, rfl⟩ a2
    rw [List.getElem?_map] at hx
    cases e1 : bx[n]? with
    | none => rw [e1] at hx; cases hx
    | some s =>
      rw [e1] at hx
      have ex : pr s = x := Option.some.inj hx
      subst ex
      have hn6 : n < 6 := by
        have := (List.getElem?_eq_some_iff.mp e1).1
        omega
      have hl := corners_take_len bx n
      have hp : 2 ^ n ≤ 2 ^ 5 := Nat.pow_le_pow_right (by decide) (by omega)
      refine q_set a2 (ed_lst ad_nil) fun σ3 H3 a3 => ?_
      refine q_forL (u := tAsg (tVar 3) (gName 1)) a3 (ed_var rfl) (fun i δ m => m = none ∧ ∃ o, δ = [some (.tup (bx.map pr)), some (.lst ((corners (bx.take n)).map nums)), some (pr s), some (.lst ((cornStep ((corners (bx.take n)).take i) s).map nums)), o]) ⟨rfl, o3, rfl⟩ ?_ ?_
      · rintro b2 i y δ m σ4 H4 hy ⟨rfl, o, rfl⟩ a4
        rw [List.getElem?_map] at hy
        cases e2 : (corners (bx.take n))[i]? with
        | none => rw [e2] at hy; cases hy
        | some am =>
          rw [e2] at hy
          have ey : nums am = y := Option.some.inj hy
          subst ey
          have hla := corners_len bx n (by have := (List.getElem?_eq_some_iff.mp e1).1; omega) (List.mem_of_getElem? e2)
          have hi := (List.getElem?_eq_some_iff.mp e2).1
          refine x_set a4 (Ed.to (ed_op (ed_var rfl) (ed_lst (ad_cons (ed_op (ed_var rfl) (ed_tup (ad_cons (ed_ixT (ed_var rfl) ed_int rfl) ad_nil)) (rop_catT (ys := [fd s.1]) (by rw [List.length_map]; simp; omega)))
            (ad_cons (ed_op (ed_var rfl) (ed_tup (ad_cons (ed_ixT (ed_var rfl) ed_int rfl) ad_nil)) (rop_catT (ys := [fd s.2]) (by rw [List.length_map]; simp; omega))) ad_nil))) (rop_catL (by rw [List.length_map, cornStep_len, List.length_take]; simp; omega)))
            (d' := .lst ((cornStep ((corners (bx.take n)).take (i + 1)) s).map nums)) ?_) fun σ5 H5 a5 => ?_
          · have e3 : cornStep ((corners (bx.take n)).take (i + 1)) s = cornStep ((corners (bx.take n)).take i) s ++ [am ++ [s.1], am ++ [s.2]] := by
              unfold cornStep
              rw [take_succ_of e2, List.flatMap_append]
              simp
            rw [e3, List.map_append]
            show D.lst (_ ++ [D.tup (am.map fd ++ [fd s.1]), D.tup (am.map fd ++ [fd s.2])]) = D.lst (_ ++ [nums (am ++ [s.1]), nums (am ++ [s.2])])
            unfold nums
            rw [List.map_append, List.map_append]
            rfl
          · exact ⟨_, none, ⟨rfl, _, rfl⟩, a5⟩
      · rintro δ m σ4 H4 ⟨rfl, o, rfl⟩ a4
        have e3 : cornStep ((corners (bx.take n)).take ((corners (bx.take n)).map nums).length) s = corners (bx.take (n + 1)) := by
          rw [corners_step e1, List.length_map, List.take_of_length_le (Nat.le_refl _)]
        rw [e3] at a4
        refine x_set a4 (ed_var rfl) fun σ5 H5 a5 => ?_
        exact ⟨_, none, ⟨rfl, _, _, _, rfl⟩, a5⟩
  · rintro δ m σ2 H2 ⟨rfl, o1, o2, o3, rfl⟩ a2
    refine x_ret a2 (En.of (ed_var rfl) ?_) k
    rw [List.length_map, List.take_of_length_le (Nat.le_refl _)]
    exact hP
theorem ok__law_is_high (T : Fr W.mg) (hD : DefP W "_law_is_high" 97) (f__law_corners : F__law_corners W) (f__law_at : F__law_at W) : F__law_is_high W := by
  refine fo_mk hD sc__law_is_high (fun _ _ _ _ _ _ us hl => match us, hl with | [_], _ => rfl) (fun c ds P h => by obtain ⟨_, _, _, e, _⟩ := h; rw [e]; rfl) fun f cdv A outer s H E hr => ?_
  have nd := sc__law_is_high.nd
  refine ⟨_, PSs.nox (pss_one (ps_ret (pe_callB (cr_all rfl) rfl T.n_all (by decide +kernel) (pa_cons (pe_lc (own := [("_law_some", 1)]) (g := gName 1) (te := (tOp (rI0 fun i j => .bl (decide (j < i))) (tOp (rIxT W.K) (tOp (rIxT W.K) (tCall (spU W.K W.C R__law_at) [] E0 (tCons (tVar 0) (tCons (tVar 1) tNil))) (tUn (rU fun i => .int (-i)) (tC (.int 1)))) (tC (.int 0))) (tC (.int 0)))) (tt := tYes) rfl nd (pi_list (pe_cf f__law_corners (hr.mono (by decide)) (pa_cons (pe_ix ix_tup (pv 0) pe_int (fun _ _ => rfl)) pa_nil))) (blkOk_by (own := [("_law_some", 1)]) (N := N__law_is_high) (sc := defScope s__law_is_high) (by decide +kernel)) (fun _ _ _ _ _ => (pg_name (i := 1) nd rfl (by first | exact Or.inl rfl | exact Or.inr rfl))) (fun _ _ _ _ _ => pts_nil) (fun _ _ _ _ _ => (pe_cmpR op_gt (pe_ix ix_tup (pe_ix ix_tup (pe_cf f__law_at (hr.mono (by decide)) (pa_cons (pv 0) (pa_cons (pv 1) pa_nil))) (pe_un un_neg pe_int) (fun _ _ => rfl)) pe_int (fun _ _ => rfl)) pe_int (nomark _)))) pa_nil)))), ?_⟩
  rintro c ds P E σ H Q ⟨xs, pps, bx, rfl, h0, hz, hok, hP⟩ a0 k
  have hl := corners_take_len bx bx.length
  rw [List.take_of_length_le (Nat.le_refl _)] at hl
  have hp : 2 ^ bx.length ≤ 2 ^ 6 := Nat.pow_le_pow_right (by decide) (by omega)
  have un : ∀ am : List Q2, (am.map fd).map unfd = am := fun am => by
    rw [List.map_map]
    have : unfd ∘ fd = id := by funext q; rfl
    rw [this, List.map_id]
  refine x_ret a0 (En.of (ed_allL (xs := (corners bx).map nums) (f := fun x => match x with | .tup ds => decide (0 < (lastQ (withQ xs (pps.zip (ds.map unfd)))).1) | _ => false) (ed_call (ad_cons (ed_ixT (ed_var rfl) ed_int rfl) ad_nil) ⟨bx, rfl, hz, rfl⟩) (by rw [List.length_map]; omega) fun x hx => ?_) ?_) k
  · obtain ⟨am, ham, rfl⟩ := List.mem_map.mp hx
    obtain ⟨ez, ed⟩ := hok am ham
    have hne : withQ xs (pps.zip am) ≠ [] := by
      have := (withQ_ok ez.1 ez.zs (pps.zip am).length).1
      rw [List.take_of_length_le (Nat.le_refl _)] at this
      intro z
      rw [z] at this
      exact h0 (List.eq_nil_of_length_eq_zero this.symm)
    show Ed _ _ _ (.bl (decide (0 < (lastQ (withQ xs (pps.zip ((am.map fd).map unfd)))).1)))
    rw [un]
    exact ed_gt (ed_top (ed_ixT (ed_call (ad_cons (ed_var rfl) (ad_cons (ed_var rfl) ad_nil)) ⟨xs, pps, am, _, rfl, ez, ed, rfl⟩) (ed_neg ed_int) (last_fd hne)) ed_int) ed_int
  · have e3 : ((corners bx).map nums).all (fun x => match x with | .tup ds => decide (0 < (lastQ (withQ xs (pps.zip (ds.map unfd)))).1) | _ => false) = highB xs pps bx := by
      unfold highB
      rw [List.all_map]
      congr 1
      funext am
      show decide (0 < (lastQ (withQ xs (pps.zip ((am.map fd).map unfd)))).1) = _
      rw [un]
    rw [e3]
    exact hP
end
end K10
set_option Elab.async false
set_option linter.all false
set_option maxRecDepth 100000
set_option maxHeartbeats 4000000
/-! Fractions and rows of them as texts. -/
namespace K10
open PySem PySem.Spec PyProof.Rows L2 StX RZ
theorem str_append_len (a b : PySem.Str) : (a ++ b).length = a.length + b.length := by
  show (a.cps ++ b.cps).size = _
  rw [Array.size_append]
  rfl
theorem str_assoc (a b c : PySem.Str) : (a ++ b) ++ c = a ++ (b ++ c) := by
  show PySem.Str.mk ((a.cps ++ b.cps) ++ c.cps) = PySem.Str.mk (a.cps ++ (b.cps ++ c.cps))
  rw [Array.append_assoc]
theorem str_empty (a : PySem.Str) : PySem.Str.empty ++ a = a := by
  show PySem.Str.mk (#[] ++ a.cps) = a
  rw [Array.empty_append]
theorem strI_len {i : Int} {n : Nat} (hn : 0 < n) (h : Bt n i) : (strI i).length ≤ n + 1 := by
  have h1 : i.natAbs.log2 < n := PySem.Flt.log2_lt_of hn h
  have h2 := PySem.int_text_length_le hn h1
  unfold strI
  first
    | exact h2
    | (show (PySem.Str.ofString (toString i)).length ≤ n + 1; rw [PySem.ofString_length]; exact h2)
def frT (x : Q2) : PySem.Str := if x.2 = 1 then strI x.1 else strI x.1 ++ ("/" : PySem.Str) ++ strI x.2
theorem frT_len {x : Q2} (h : Fq 40 x) : (frT x).length ≤ 100 := by
  have h1 := strI_len (by decide) h.b1
  have h2 := strI_len (by decide) h.b2
  unfold frT
  split
  · omega
  · rw [str_append_len, str_append_len]
    have : ("/" : PySem.Str).length = 1 := by decide +kernel
    omega
def numsT (xs : List Q2) : PySem.Str := Txt.join (" " : PySem.Str) (xs.map frT)
abbrev R_fraction_text : Rel := fun _ ds P => ∃ x : Q2, ds = [fd x] ∧ Fq 40 x ∧ P (.str (frT x))
abbrev R_numbers_text : Rel := fun _ ds P => ∃ xs : List Q2, ds = [nums xs] ∧ (∀ x ∈ xs, Fq 40 x) ∧ xs.length ≤ 100 ∧ P (.str (numsT xs))
abbrev R__law_word : Rel := R_fraction_text
abbrev R__law_words : Rel := R_numbers_text
abbrev s_fraction_text : Stmt := top 46
abbrev N_fraction_text : List PySem.Str := ["fraction"]
theorem sc_fraction_text : FnScope N_fraction_text ["fraction"] (defScope s_fraction_text) := ⟨rfl, rfl, rfl, by decide +kernel, rfl, by decide +kernel, by decide +kernel⟩
abbrev F_fraction_text (W : Wd) : Prop := Fo W 1 "fraction_text" ["fraction"] R_fraction_text
abbrev s_numbers_text : Stmt := top 47
abbrev N_numbers_text : List PySem.Str := ["numbers", "number"]
theorem sc_numbers_text : FnScope N_numbers_text ["numbers"] (defScope s_numbers_text) := ⟨rfl, rfl, rfl, by decide +kernel, rfl, by decide +kernel, by decide +kernel⟩
abbrev F_numbers_text (W : Wd) : Prop := Fo W 2 "numbers_text" ["numbers"] R_numbers_text
abbrev s__law_word : Stmt := top 76
abbrev N__law_word : List PySem.Str := ["_law_near"]
theorem sc__law_word : FnScope N__law_word ["_law_near"] (defScope s__law_word) := ⟨rfl, rfl, rfl, by decide +kernel, rfl, by decide +kernel, by decide +kernel⟩
abbrev F__law_word (W : Wd) : Prop := Fo W 1 "_law_word" ["_law_near"] R__law_word
abbrev s__law_words : Stmt := top 77
abbrev N__law_words : List PySem.Str := ["_law_some", "_law_each"]
theorem sc__law_words : FnScope N__law_words ["_law_some"] (defScope s__law_words) := ⟨rfl, rfl, rfl, by decide +kernel, rfl, by decide +kernel, by decide +kernel⟩
abbrev F__law_words (W : Wd) : Prop := Fo W 2 "_law_words" ["_law_some"] R__law_words
section
variable {p : Pm} {δ : Sl} {te ta tb : TE}
theorem ed_strI {i : Int} (hb : Bt 1900 i) (h : Ed p te δ (.int i)) : Ed p (tCB (fun xs H Q => ∃ i : Int, xs = [.int i] ∧ i.natAbs.log2 < 1920 ∧ Q (.str (toString i)) H) (tCons te tNil)) δ (.str (strI i)) :=
  ed_cb (ad_cons h ad_nil) (rca_str (Nat.lt_trans (PySem.Flt.log2_lt_of (by decide) hb) (by decide)))
theorem bt_log {i : Int} (hb : Bt 1900 i) : i.natAbs.log2 < 1920 := Nat.lt_trans (PySem.Flt.log2_lt_of (by decide) hb) (by decide)
end
section
variable {W : Wd}
theorem ok_fraction_text (T : Fr W.mg) (hD : DefP W "fraction_text" 46)  : F_fraction_text W := by
  refine fo_mk hD sc_fraction_text (fun _ _ _ _ _ _ us hl => match us, hl with | [_], _ => rfl) (fun c ds P h => by obtain ⟨_, e, _⟩ := h; rw [e]; rfl) fun f cdv A outer s H E hr => ?_
  have nd := sc_fraction_text.nd
  refine ⟨_, PSs.nox (pss_one (ps_ret (pe_ifExp (pt_cmpR op_eq (pe_ix ix_tup (pv 0) pe_int (fun _ _ => rfl)) pe_int (nomark _)) (pe_callTy call_str_int rfl T.n_str (by decide +kernel) (pa_cons (pe_ix ix_tup (pv 0) pe_int (fun _ _ => rfl)) pa_nil)) (pe_joined (.cons (pe_fmt (pe_ix ix_tup (pv 0) pe_int (fun _ _ => rfl))) (.cons pe_str (.cons (pe_fmt (pe_ix ix_tup (pv 0) pe_int (fun _ _ => rfl))) .nil))))))), ?_⟩
  rintro c ds P E σ H Q ⟨x, rfl, hx, hP⟩ a0 k
  have l1 := strI_len (by decide) hx.b1
  have l2 := strI_len (by decide) hx.b2
  refine x_ret a0 (en_if (T := (· = decide (x.2 = 1))) (td_test (ed_eqI (ed_low (ed_var rfl) ed_int) ed_int)) (fun q => En.of (ed_strI (hx.b1.le (by decide)) (ed_top (ed_var rfl) ed_int)) ?_) fun q => En.of (ed_js (.cons (ed_fmtI (ed_top (ed_var rfl) ed_int) (bt_log (hx.b1.le (by decide)))) (.cons ed_str (.cons (ed_fmtI (ed_low (ed_var rfl) ed_int) (bt_log (hx.b2.le (by decide)))) .nil))) ?_) ?_) k
  · have e : frT x = strI x.1 := if_pos (of_decide_eq_true q.symm)
    rw [← e]
    exact hP
  · have : ("/" : PySem.Str).length = 1 := by decide +kernel
    show (strI x.1).length + (("/" : PySem.Str).length + ((strI x.2).length + 0)) ≤ _
    omega
  · have e : frT x = strI x.1 ++ ("/" : PySem.Str) ++ strI x.2 := if_neg (of_decide_eq_false q.symm)
    show P (.str (((PySem.Str.empty ++ strI x.1) ++ ("/" : PySem.Str)) ++ strI x.2))
    rw [str_empty, ← e]
    exact hP
theorem ok__law_word (T : Fr W.mg) (hD : DefP W "_law_word" 76)  : F__law_word W := by
  refine fo_mk hD sc__law_word (fun _ _ _ _ _ _ us hl => match us, hl with | [_], _ => rfl) (fun c ds P h => by obtain ⟨_, e, _⟩ := h; rw [e]; rfl) fun f cdv A outer s H E hr => ?_
  have nd := sc__law_word.nd
  refine ⟨_, PSs.nox (pss_one (ps_ret (pe_ifExp (pt_cmpR op_eq (pe_ix ix_tup (pv 0) pe_int (fun _ _ => rfl)) pe_int (nomark _)) (pe_callTy call_str_int rfl T.n_str (by decide +kernel) (pa_cons (pe_ix ix_tup (pv 0) pe_int (fun _ _ => rfl)) pa_nil)) (pe_op op_add_str (pe_op op_add_str (pe_callTy call_str_int rfl T.n_str (by decide +kernel) (pa_cons (pe_ix ix_tup (pv 0) pe_int (fun _ _ => rfl)) pa_nil)) pe_str) (pe_callTy call_str_int rfl T.n_str (by decide +kernel) (pa_cons (pe_ix ix_tup (pv 0) pe_int (fun _ _ => rfl)) pa_nil)))))), ?_⟩
  rintro c ds P E σ H Q ⟨x, rfl, hx, hP⟩ a0 k
  have l1 := strI_len (by decide) hx.b1
  have l2 := strI_len (by decide) hx.b2
  have l3 : ("/" : PySem.Str).length = 1 := by decide +kernel
  refine x_ret a0 (en_if (T := (· = decide (x.2 = 1))) (td_test (ed_eqI (ed_low (ed_var rfl) ed_int) ed_int)) (fun q => En.of (ed_strI (hx.b1.le (by decide)) (ed_top (ed_var rfl) ed_int)) ?_) fun q => En.of (ed_op (ed_op (ed_strI (hx.b1.le (by decide)) (ed_top (ed_var rfl) ed_int)) ed_str (rop_addS (by omega))) (ed_strI (hx.b2.le (by decide)) (ed_low (ed_var rfl) ed_int)) (rop_addS (by rw [str_append_len]; omega))) ?_) k
  · have e : frT x = strI x.1 := if_pos (of_decide_eq_true q.symm)
    rw [← e]
    exact hP
  · have e : frT x = strI x.1 ++ ("/" : PySem.Str) ++ strI x.2 := if_neg (of_decide_eq_false q.symm)
    rw [← e]
    exact hP
theorem numsT_sum {xs : List Q2} (h : ∀ x ∈ xs, Fq 40 x) : ((xs.map frT).map (·.length)).sum ≤ xs.length * 100 := by
  induction xs with
  | nil => exact Nat.le_refl 0
  | cons a r ih =>
    have h1 := frT_len (h a List.mem_cons_self)
    have h2 := ih fun x hx => h x (List.mem_cons_of_mem _ hx)
    rw [List.map_cons, List.map_cons, List.sum_cons, List.length_cons, Nat.succ_mul]
    omega
theorem ed_texts {tl : TE} {p : Pm} {δ : Sl} {te : TE} {j : Nat} {vs : List Nat} {xs : List Q2} (h : Ed p tl δ (nums xs)) (hz : xs.length ≤ 100) (hj : j ∈ vs) (he : ∀ x ∈ xs, Ed p te ((wipeD δ vs).set j (some (fd x))) (.str (frT x))) :
    Ed p (tLc (iTup p.K tl) (gName j) tYes te vs) δ (.lst ((xs.map frT).map D.str)) :=
  Ed.to (ed_lcT (g := fun d => .str (frT (unfd d))) h (by rw [List.length_map]; omega) hj fun x hx => by
    obtain ⟨q, hq, rfl⟩ := List.mem_map.mp hx
    exact he q hq) (by rw [List.map_map, List.map_map]; rfl)
theorem ok_numbers_text (T : Fr W.mg) (hD : DefP W "numbers_text" 47) (f_fraction_text : F_fraction_text W) : F_numbers_text W := by
  refine fo_mk hD sc_numbers_text (fun _ _ _ _ _ _ us hl => match us, hl with | [_], _ => rfl) (fun c ds P h => by obtain ⟨_, e, _⟩ := h; rw [e]; rfl) fun f cdv A outer s H E hr => ?_
  have nd := sc_numbers_text.nd
  refine ⟨_, PSs.nox (pss_one (ps_ret (pe_join pe_str (pe_lc (own := [("number", 1)]) (g := gName 1) (te := (tCall (spU W.K W.C R_fraction_text) [] E0 (tCons (tVar 1) tNil))) (tt := tYes) rfl nd (pi_tup (pv 0)) (blkOk_by (own := [("number", 1)]) (N := N_numbers_text) (sc := defScope s_numbers_text) (by decide +kernel)) (fun _ _ _ _ _ => (pg_name (i := 1) nd rfl (by first | exact Or.inl rfl | exact Or.inr rfl))) (fun _ _ _ _ _ => pts_nil) (fun _ _ _ _ _ => (pe_cf f_fraction_text (hr.mono (by decide)) (pa_cons (pv 1) pa_nil))))))), ?_⟩
  rintro c ds P E σ H Q ⟨xs, rfl, hx, hz, hP⟩ a0 k
  have hs := numsT_sum hx
  have l3 : (" " : PySem.Str).length = 1 := by decide +kernel
  exact x_ret a0 (En.of (ed_join rfl ed_str (ed_texts (ed_var rfl) hz (by decide) fun x q => ed_call (ad_cons (ed_var rfl) ad_nil) ⟨x, rfl, hx x q, rfl⟩) (by rw [l3, List.length_map]; omega)) hP) k
theorem ok__law_words (T : Fr W.mg) (hD : DefP W "_law_words" 77) (f__law_word : F__law_word W) : F__law_words W := by
  refine fo_mk hD sc__law_words (fun _ _ _ _ _ _ us hl => match us, hl with | [_], _ => rfl) (fun c ds P h => by obtain ⟨_, e, _⟩ := h; rw [e]; rfl) fun f cdv A outer s H E hr => ?_
  have nd := sc__law_words.nd
  refine ⟨_, PSs.nox (pss_one (ps_ret (pe_join pe_str (pe_lc (own := [("_law_each", 1)]) (g := gName 1) (te := (tCall (spU W.K W.C R__law_word) [] E0 (tCons (tVar 1) tNil))) (tt := tYes) rfl nd (pi_tup (pv 0)) (blkOk_by (own := [("_law_each", 1)]) (N := N__law_words) (sc := defScope s__law_words) (by decide +kernel)) (fun _ _ _ _ _ => (pg_name (i := 1) nd rfl (by first | exact Or.inl rfl | exact Or.inr rfl))) (fun _ _ _ _ _ => pts_nil) (fun _ _ _ _ _ => (pe_cf f__law_word (hr.mono (by decide)) (pa_cons (pv 1) pa_nil))))))), ?_⟩
  rintro c ds P E σ H Q ⟨xs, rfl, hx, hz, hP⟩ a0 k
  have hs := numsT_sum hx
  have l3 : (" " : PySem.Str).length = 1 := by decide +kernel
  exact x_ret a0 (En.of (ed_join rfl ed_str (ed_texts (ed_var rfl) hz (by decide) fun x q => ed_call (ad_cons (ed_var rfl) ad_nil) ⟨x, rfl, hx x q, rfl⟩) (by rw [l3, List.length_map]; omega)) hP) k
end
theorem x_app {p : Pm} {E : Ent} {δ : Sl} {σ : L2.St} {H : Hp} {te tl : TE} {P : D → Prop} {D' : Ends} {l : Addr} {ds : List D} {K : PySem.W.Frag} (a : At p E δ σ H) (hm : p.m = some (l, ds)) (hz : ds.length ≤ 100000) (h1 : Ed p tl δ (.adr l)) (h : En p te δ P) (k : ∀ d H', P d → At { p with m := some (l, ds ++ [d]) } E δ σ H' → D'.nx σ H') :
    tDrop (tBM K "list" rAppend tl (tCons te tNil)) D' σ H := q_app (u := fun D => D.nx) a hm hz h1 h k
def rowT (p : List Q2) (s : Q2 × Q2) : PySem.Str := (("part " : PySem.Str) ++ numsT p) ++ (((" from " : PySem.Str) ++ frT s.1) ++ (" to " : PySem.Str) ++ frT s.2)
def rowsT (xs : List Q2) (zs : List (List Q2 × (Q2 × Q2))) : List PySem.Str := (("base " : PySem.Str) ++ numsT xs) :: zs.map fun z => rowT z.1 z.2
def pageT (xs : List Q2) (zs : List (List Q2 × (Q2 × Q2))) : PySem.Str := Txt.join ("\n" : PySem.Str) (rowsT xs zs)
/-- what is written of a rig -/
def TOk (xs : List Q2) (pps : List (List Q2)) (bx : List (Q2 × Q2)) : Prop := ((∀ x ∈ xs, Fq 40 x) ∧ xs.length ≤ 100) ∧ pps.length = bx.length ∧ pps.length ≤ 6 ∧ (∀ p ∈ pps, (∀ x ∈ p, Fq 40 x) ∧ p.length ≤ 100) ∧ ∀ s ∈ bx, Fq 40 s.1 ∧ Fq 40 s.2
theorem numsT_len {xs : List Q2} (h : ∀ x ∈ xs, Fq 40 x) (hz : xs.length ≤ 100) : (numsT xs).length ≤ 11000 := by
  have h1 := PySem.StrLaws.join_length_le (" " : PySem.Str) (xs.map frT)
  have h2 := numsT_sum h
  have l3 : (" " : PySem.Str).length = 1 := by decide +kernel
  rw [l3, List.length_map] at h1
  have h3 : (numsT xs).length = (PySem.Str.join (" " : PySem.Str) (xs.map frT)).length := by
    unfold numsT
    exact congrArg PySem.Str.length (PySem.StrLaws.glued_eq_join _ _)
  omega
theorem rowT_len {p : List Q2} {s : Q2 × Q2} (h : (∀ x ∈ p, Fq 40 x) ∧ p.length ≤ 100) (hs : Fq 40 s.1 ∧ Fq 40 s.2) : (rowT p s).length ≤ 12000 := by
  have h1 := numsT_len h.1 h.2
  have h2 := frT_len hs.1
  have h3 := frT_len hs.2
  unfold rowT
  rw [str_append_len, str_append_len, str_append_len, str_append_len, str_append_len]
  have l1 : ("part " : PySem.Str).length = 5 := by decide +kernel
  have l2 : (" from " : PySem.Str).length = 6 := by decide +kernel
  have l3 : (" to " : PySem.Str).length = 4 := by decide +kernel
  omega
theorem rows_sum {xs : List Q2} {zs : List (List Q2 × (Q2 × Q2))} (hx : (∀ x ∈ xs, Fq 40 x) ∧ xs.length ≤ 100) (h : ∀ z ∈ zs, ((∀ x ∈ z.1, Fq 40 x) ∧ z.1.length ≤ 100) ∧ Fq 40 z.2.1 ∧ Fq 40 z.2.2) : ((rowsT xs zs).map (·.length)).sum ≤ 12000 + zs.length * 12000 := by
  have h1 := numsT_len hx.1 hx.2
  have l1 : ("base " : PySem.Str).length = 5 := by decide +kernel
  have key : ((zs.map fun z => rowT z.1 z.2).map (·.length)).sum ≤ zs.length * 12000 := by
    induction zs with
    | nil => exact Nat.le_refl 0
    | cons a r ih =>
      have h2 := rowT_len (h a List.mem_cons_self).1 (h a List.mem_cons_self).2
      have h3 := ih fun z hz => h z (List.mem_cons_of_mem _ hz)
      rw [List.map_cons, List.map_cons, List.sum_cons, List.length_cons, Nat.succ_mul]
      omega
  unfold rowsT
  rw [List.map_cons, List.sum_cons, str_append_len]
  omega
abbrev R__law_page : Rel := fun _ ds P => ∃ (xs : List Q2) (pps : List (List Q2)) (bx : List (Q2 × Q2)), ds = [.tup [nums xs, .tup (pps.map nums), .tup (bx.map pr)]] ∧ TOk xs pps bx ∧ P (.str (pageT xs (pps.zip bx)))
abbrev s__law_page : Stmt := top 94
abbrev N__law_page : List PySem.Str := ["_law_rig_here", "_law_rows", "_law_k", "_law_ends"]
theorem sc__law_page : FnScope N__law_page ["_law_rig_here"] (defScope s__law_page) := ⟨rfl, rfl, rfl, by decide +kernel, rfl, by decide +kernel, by decide +kernel⟩
abbrev F__law_page (W : Wd) : Prop := Fo W 3 "_law_page" ["_law_rig_here"] R__law_page
section
variable {W : Wd}
theorem ok__law_page (T : Fr W.mg) (hD : DefP W "_law_page" 94) (f__law_words : F__law_words W) (f__law_word : F__law_word W) : F__law_page W := by
  refine fo_mk hD sc__law_page (fun _ _ _ _ _ _ us hl => match us, hl with | [_], _ => rfl) (fun c ds P h => by obtain ⟨_, _, _, e, _⟩ := h; rw [e]; rfl) fun f cdv A outer s H E hr => ?_
  have nd := sc__law_page.nd
  refine ⟨_, PSs.nox (pss_cons (ps_set (i := 1) nd rfl (by first | exact Or.inl rfl | exact Or.inr rfl) (pe_lst (pa_cons (pe_op op_add_str pe_str (pe_cf f__law_words (hr.mono (by decide)) (pa_cons (pe_ix ix_tup (pv 0) pe_int (fun _ _ => rfl)) pa_nil))) pa_nil)))
      (pss_cons (ps_for PassesOwn.never rfl (pi_range1 rfl T.n_range (pa_cons (pe_callB call_len_seq rfl T.n_len (by decide +kernel) (pa_cons (pe_ix ix_tup (pv 0) pe_int (fun _ _ => rfl)) pa_nil)) pa_nil)) (pg_name (i := 2) nd rfl (by first | exact Or.inl rfl | exact Or.inr rfl)) (pss_cons (ps_set (i := 3) nd rfl (by first | exact Or.inl rfl | exact Or.inr rfl) (pe_op op_add_str (pe_op op_add_str (pe_op op_add_str pe_str (pe_cf f__law_word (hr.mono (by decide)) (pa_cons (pe_ix ix_tup (pe_ix ix_tup (pe_ix ix_tup (pv 0) pe_int (fun _ _ => rfl)) (pv 2) (fun _ _ => rfl)) pe_int (fun _ _ => rfl)) pa_nil))) pe_str) (pe_cf f__law_word (hr.mono (by decide)) (pa_cons (pe_ix ix_tup (pe_ix ix_tup (pe_ix ix_tup (pv 0) pe_int (fun _ _ => rfl)) (pv 2) (fun _ _ => rfl)) pe_int (fun _ _ => rfl)) pa_nil))))
      (pss_one (ps_expr (pe_bm PySem.F.plainAttrs_list PySem.F.slot_list_append PySem.F.type_list_append mt_append (pv 1) (pa_cons (pe_op op_add_str (pe_op op_add_str pe_str (pe_cf f__law_words (hr.mono (by decide)) (pa_cons (pe_ix ix_tup (pe_ix ix_tup (pv 0) pe_int (fun _ _ => rfl)) (pv 2) (fun _ _ => rfl)) pa_nil))) (pv 3)) pa_nil))))))
      (pss_one (ps_ret (pe_join pe_str (pv 1)))))), ?_⟩
  rintro c ds P E σ H Q ⟨xs, pps, bx, rfl, hok, hP⟩ a0 k
  obtain ⟨hx, hl, hl6, hpp, hbx⟩ := id hok
  have l0 := numsT_len hx.1 hx.2
  have lb : ("base " : PySem.Str).length = 5 := by decide +kernel
  have l1 : ("part " : PySem.Str).length = 5 := by decide +kernel
  have l2 : (" from " : PySem.Str).length = 6 := by decide +kernel
  have l3 : (" to " : PySem.Str).length = 4 := by decide +kernel
  have l4 : ("\n" : PySem.Str).length = 1 := by decide +kernel
  refine q_mkM a0 rfl (ad_cons (ed_op ed_str (ed_call (ad_cons (ed_ixT (ed_var rfl) ed_int rfl) ad_nil) ⟨xs, rfl, hx.1, hx.2, rfl⟩) (rop_addS (by omega))) ad_nil) (fun ds e => by rw [e]; simp) fun l ds σ1 H1 e a1 => ?_
  subst e
  refine q_forR (n := ((pps.map nums).length : Nat)) a1 (ad_cons (ed_lenT (ed_ixT (ed_var rfl) ed_int rfl)) ad_nil) (by rw [List.length_map]; omega) (fun n δ m => m = some (l, (rowsT xs ((pps.zip bx).take n)).map D.str) ∧ ∃ o1 o2, δ = [some (.tup [nums xs, .tup (pps.map nums), .tup (bx.map pr)]), some (.adr l), o1, o2]) ⟨rfl, none, none, rfl⟩ ?_ ?_
  · rintro n δ m σ2 H2 hn ⟨rfl, o1, o2, rfl⟩ a2
    rw [List.length_map] at hn
    have hp1 : pps[n]? = some pps[n] := List.getElem?_eq_getElem (by omega)
    have hb1 : bx[n]? = some bx[n] := List.getElem?_eq_getElem (by omega)
    have hzn : (pps.zip bx)[n]? = some (pps[n], bx[n]) := by
      rw [List.getElem?_zip_eq_some]
      exact ⟨hp1, hb1⟩
    have hp := hpp _ (List.mem_of_getElem? hp1)
    have hb := hbx _ (List.mem_of_getElem? hb1)
    have l5 := frT_len hb.1
    have l6 := frT_len hb.2
    have l7 := numsT_len hp.1 hp.2
    refine q_set a2 (ed_op (ed_op (ed_op ed_str (ed_call (ad_cons (ed_ixT (ed_ixT (ed_ixT (ed_var rfl) ed_int rfl) (ed_var rfl) (atI_nat (by rw [List.getElem?_map, hb1]; rfl))) ed_int rfl) ad_nil) ⟨bx[n].1, rfl, hb.1, rfl⟩) (rop_addS (by omega))) ed_str (rop_addS (by rw [str_append_len]; omega)))
      (ed_call (ad_cons (ed_ixT (ed_ixT (ed_ixT (ed_var rfl) ed_int rfl) (ed_var rfl) (atI_nat (by rw [List.getElem?_map, hb1]; rfl))) ed_int rfl) ad_nil) ⟨bx[n].2, rfl, hb.2, rfl⟩) (rop_addS (by rw [str_append_len, str_append_len]; omega))) fun σ3 H3 a3 => ?_
    refine x_app a3 rfl (by rw [List.length_map]; unfold rowsT; rw [List.length_cons, List.length_map, List.length_take]; omega) (ed_var rfl) (ed_op (ed_op ed_str (ed_call (ad_cons (ed_ixT (ed_ixT (ed_var rfl) ed_int rfl) (ed_var rfl) (atI_nat (by rw [List.getElem?_map, hp1]; rfl))) ad_nil) ⟨pps[n], rfl, hp.1, hp.2, rfl⟩) (rop_addS (by omega))) (ed_var rfl)
      (rop_addS (by rw [str_append_len, str_append_len, str_append_len, str_append_len]; omega))) fun d H4 e a4 => ?_
    subst e
    refine ⟨_, _, ⟨?_, _, _, rfl⟩, a4⟩
    unfold rowsT
    rw [take_succ_of hzn, List.map_cons, List.map_cons, List.map_append, List.map_append]
    rfl
  · rintro δ m σ2 H2 ⟨rfl, o1, o2, rfl⟩ a2
    have e : ((pps.map nums).length : Int).toNat = pps.length := by rw [List.length_map]; rfl
    have e2 : (pps.zip bx).take pps.length = pps.zip bx := List.take_of_length_le (by rw [List.length_zip]; omega)
    rw [e, e2] at a2
    have hs := rows_sum (zs := pps.zip bx) hx fun z hz => by
      obtain ⟨z1, z2⟩ := z
      obtain ⟨m1, m2⟩ := List.of_mem_zip hz
      exact ⟨hpp z1 m1, hbx z2 m2⟩
    have hn : (rowsT xs (pps.zip bx)).length = pps.length + 1 := by
      unfold rowsT
      rw [List.length_cons, List.length_map, List.length_zip]
      omega
    have hn2 : (pps.zip bx).length = pps.length := by rw [List.length_zip]; omega
    rw [hn2] at hs
    exact x_ret a2 (En.of (ed_joinM rfl rfl ed_str (ed_var rfl) (by rw [l4, hn]; omega)) hP) k
end
end K10
set_option Elab.async false
set_option linter.all false
set_option maxRecDepth 100000
set_option maxHeartbeats 4000000
/-! t[::-1] and t * k, t any tuple. -/
namespace K10
open PySem PySem.Spec PyProof.Rows L2 StX RZ
section
variable {pg : Program} {wd : World} {Ar : Around} {Ex : Value → Shared → Prop} {z : Shared}
theorem adjust_rev (n : Nat) : Builtin.Slice.sliceAdjust none none (-1) (n : Int) = ((n : Int) - 1, -1) := by
  unfold Builtin.Slice.sliceAdjust
  simp
theorem places_rev (n : Nat) : Builtin.Slice.slicePlaces ((n : Int) - 1) (-1) (-1) = n := by
  unfold Builtin.Slice.slicePlaces
  rw [if_neg (by decide)]
  split
  · have : ((n : Int) - 1 - -1 - 1) / (- -1) + 1 = (n : Int) := by
      rw [Int.neg_neg, Int.ediv_one]
      omega
    rw [this]
    rfl
  · omega
theorem applied_rev {sl : Addr} {n : Nat} {u : Tok} {Q : Int × Int × Nat → Shared → Prop} (hs : z.heap.IsSliceOf sl .none .none (.int (-1) u)) (k : Q ((n : Int) - 1, -1, n) z) : wpAny (model pg wd) Ar (Builtin.Slice.sliceApplied (.ref sl) (pure (n : Int))) Q Ex z := by
  obtain ⟨ob, hob, _, hdt⟩ := id hs
  unfold Builtin.Slice.sliceApplied Builtin.Slice.sliceFields
  have f0 := fun {R : Value → Shared → Prop} (q : R .none z) => wpAny_field (M := model pg wd) (A := Ar) (E := Ex) hob hdt (i := 0) (x := .none) rfl q
  have f1 := fun {R : Value → Shared → Prop} (q : R .none z) => wpAny_field (M := model pg wd) (A := Ar) (E := Ex) hob hdt (i := 1) (x := .none) rfl q
  have f2 := fun {R : Value → Shared → Prop} (q : R (.int (-1) u) z) => wpAny_field (M := model pg wd) (A := Ar) (E := Ex) hob hdt (i := 2) (x := .int (-1) u) rfl q
  refine wpAny_bind (wpAny_bind (f0 (wpAny_bind (f1 (wpAny_bind (f2 (wpAny_pure ?_)))))))
  refine wpAny_bind (slicePart_int ?_)
  show wpAny _ _ (if ((-1 : Int) == 0) = true then _ else _) _ _ z
  rw [if_neg (by decide)]
  refine wpAny_bind (slicePart_none (wpAny_bind (slicePart_none (wpAny_bind (wpAny_pure ?_)))))
  show wpAny _ _ (match Builtin.Slice.sliceAdjust none none (-1) (n : Int) with | (a, b) => pure (a, (-1 : Int), Builtin.Slice.slicePlaces a b (-1))) _ _ z
  rw [adjust_rev n]
  show wpAny _ _ (pure ((n : Int) - 1, (-1 : Int), Builtin.Slice.slicePlaces ((n : Int) - 1) (-1) (-1))) _ _ z
  rw [places_rev n]
  exact wpAny_pure k
theorem fm_congr {α β : Type} {f g : α → Option β} : ∀ {l : List α}, (∀ k ∈ l, f k = g k) → l.filterMap f = l.filterMap g
  | [], _ => rfl
  | a :: r, h => by
    rw [List.filterMap_cons, List.filterMap_cons, h a List.mem_cons_self, fm_congr fun k hk => h k (List.mem_cons_of_mem _ hk)]
theorem pick_rev (xs : List Value) : ((List.range xs.toArray.size).filterMap fun (k : Nat) => xs.toArray[(((xs.toArray.size : Int) - 1) + (k : Int) * (-1)).toNat]?).toArray = xs.reverse.toArray := by
  congr 1
  have e : xs.reverse = (List.range xs.length).map fun k => xs.reverse[k]?.getD .none := by
    refine List.ext_getElem? fun i => ?_
    by_cases hi : i < xs.length
    · rw [List.getElem?_map, List.getElem?_range hi]
      have h2 : i < xs.reverse.length := by rw [List.length_reverse]; exact hi
      show xs.reverse[i]? = some (xs.reverse[i]?.getD .none)
      rw [List.getElem?_eq_getElem h2]
      rfl
    · rw [List.getElem?_eq_none (by rw [List.length_reverse]; omega), List.getElem?_eq_none (by rw [List.length_map, List.length_range]; omega)]
  rw [e, ← List.filterMap_eq_map]
  have hsz : xs.toArray.size = xs.length := List.size_toArray ..
  rw [hsz]
  refine fm_congr fun k hk => ?_
  have hk2 : k < xs.length := List.mem_range.mp hk
  have e2 : (((xs.length : Int) - 1) + (k : Int) * (-1)).toNat = xs.length - 1 - k := by omega
  show xs.toArray[_]? = some (xs.reverse[k]?.getD .none)
  rw [e2, List.getElem?_toArray, List.getElem?_reverse hk2]
  rw [List.getElem?_eq_getElem (show xs.length - 1 - k < xs.length by omega)]
  rfl
theorem getItem_rev {t sl : Addr} {xs : List Value} {u : Tok} {Q : Value → Shared → Prop} (tt : IsTup z.heap t xs.toArray) (hs : z.heap.IsSliceOf sl .none .none (.int (-1) u)) (hz : xs.length ≤ sizeLine)
    (k : Q (.ref z.heap.objs.size) { z with heap := z.heap.push { cls := .type "tuple", data := .seq xs.reverse.toArray } }) : wpAny (model pg wd) Ar (getItem (.ref t) (.ref sl)) Q Ex z := by
  obtain ⟨ob, hob, hcl, hdt⟩ := id hs
  have ts : z.TypeIs (.ref sl) "slice" := ⟨ob, hob, hcl⟩
  unfold getItem
  try with_reducible refine wpAny_holding ?_
  first | refine wpAny_bind (wpAny_pure ?_) | skip
  refine wpAny_bind (wpAny_sequenceKey tt.typeIs (by decide) ?_)
  refine wpAny_bind (wpAny_callSpecial?_slot (name := Str.ofString "__getitem__") tt.typeIs slot_tuple_getitem (wpAny_call_entry slot_tuple_getitem tt.typeIs entry_tuple_getitem ?_ (args_tuple_getitem _ _)))
  show wpAny _ _ (Builtin.Tuple.tupleItemsOf (.ref t) >>= _) _ _ z
  refine wpAny_bind (tupleItemsOf_ tt (wpAny_bind (wpAny_typeOf ts ?_)))
  rw [if_pos (by decide)]
  refine wpAny_bind (applied_rev hs ?_)
  have no : (((xs.toArray.size : Int) - 1) == 0 && (-1 : Int) == 1 && xs.toArray.size == xs.toArray.size) = false := by
    cases (((xs.toArray.size : Int) - 1) == 0) <;> rfl
  show wpAny _ _ (if (((xs.toArray.size : Int) - 1) == 0 && (-1 : Int) == 1 && xs.toArray.size == xs.toArray.size) = true then _ else _) _ _ z
  rw [if_neg (by rw [no]; exact Bool.false_ne_true)]
  try dsimp only
  have fin : wpAny (model pg wd) Ar.in1 (Builtin.Tuple.tupleExact ((List.range xs.toArray.size).filterMap fun (k : Nat) => xs.toArray[(((xs.toArray.size : Int) - 1) + (k : Int) * (-1)).toNat]?).toArray) (fun v s' => Q v s') Ex z := by
    rw [pick_rev]
    unfold Builtin.Tuple.tupleExact
    exact wpAny_newObj_type k (by show xs.reverse.toArray.size ≤ sizeLine; rw [List.size_toArray, List.length_reverse]; exact hz)
  exact wpAny_bind (wpAny_mono fin (fun v s' q => wpAny_pure ⟨_, rfl, wpAny_pure q⟩) fun _ _ q => q)
/-- t * k of the empty one: itself -/
theorem mul_empty (l : Addr) (n : Nat) (dd : Option Addr) (sl : Array (Option Value)) (x : Int) (u : Tok) (c0 : (decide (x < -(2 ^ 63)) || decide (x ≥ 2 ^ 63)) = false) :
    Meets (Builtin.«tuple.__mul__» ⟨[.ref l, .int x u], []⟩) (fun _ R s => s.heap.get? l = some { cls := .type "tuple", dict := dd, data := .seq #[] n, slots := sl } ∧ R (.ok (.ret (.ref l))) s) :=
  .of_wp fun prog w A R s h => by
    obtain ⟨hp, g, d, tk, os⟩ := s
    obtain ⟨hl, h⟩ := h
    have f1 := AutoSeq1.idx_int
    wp_walk using wpAny_loadPart' hl
    repeat (first
      | (refine wpAny_ite_false (decide_eq_false (by rw [c0]; exact Bool.false_ne_true)) ?_; wp_walk using wpAny_loadPart' hl)
      | (refine wpAny_ite_true (decide_eq_true (by simp)) ?_; wp_walk using wpAny_loadPart' hl))
    exact ⟨_, rfl, h⟩
end
theorem vals_rev {xs : List V} {us : List Value} (h : Vals xs us) : Vals xs.reverse us.reverse := by
  have key : ∀ {xs ys : List V} {us ws : List Value}, Vals xs us → Vals ys ws → Vals (xs.reverseAux ys) (us.reverseAux ws) := by
    intro xs
    induction xs with
    | nil => intro ys us ws h s; cases h; exact s
    | cons a r ih =>
      intro ys us ws h s
      cases h with
      | @cons _ b _ bs h1 h2 => exact ih (us := bs) (ws := b :: ws) h2 (.cons h1 s)
  exact key h .nil
section
variable {X : Cx} {e : Expr} {te : TE} {p1 p2 p3 pos : Pos} {j : Nat}
/-- t[::-1] -/
def tRev (K : PySem.W.Frag) (te : TE) : TE := fun σ H Q => te σ H fun x H1 => ∃ a xs, x = .ref a ∧ SqT K H1 a xs ∧ ∀ p, H1 p = none → Q (.ref p) (upd H1 p (.tup xs.reverse))
theorem pe_rev (he : PE X e te) : PE X (.Subscript e (.Slice none none (some (.UnaryOp .USub (.Constant (.int 1) j p1) p2)) p3) pos) (tRev X.K te) := by
  refine ⟨fun pins s σ H Q I h => ?_⟩
  refine Subscript_ (thn (he.run pins s σ H _ I h) fun v s1 hh => ?_)
  obtain ⟨x, H1, I1, r1, a, xs, rfl, hx, q⟩ := hh
  cases r1
  have st : PE X (.UnaryOp .USub (.Constant (.int 1) j p1) p2) (tUn (rU fun i => .int (-i)) (tC (.int 1))) := pe_un un_neg pe_int
  refine wpAny_Slice ?_
  rw [evalPart_none]
  refine wpAny_pure (wpAny_pure ?_)
  rw [evalPart_some]
  refine thn (st.run pins s1 σ H1 (fun v H' => v = .int (-1) ∧ H' = H1) I1 ⟨1, rfl, rfl, rfl⟩) fun w s2 hh => ?_
  obtain ⟨y, H2, I2, r2, rfl, rfl⟩ := hh
  obtain ⟨u, rfl⟩ := r2
  have I4 : Inv X pins σ H2 { s2 with heap := s2.heap.push { cls := .type "slice", data := .fields #[.none, .none, .int (-1) u] } } := I2.kept (t' := s2.toks) fun b ob q => Heap.get?_push_of_some _ q
  obtain ⟨its, r, tt, hz⟩ := I4.tuple hx
  have hl := r.length
  have fin : wpAny (model X.prog X.w) X.A (getItem (.ref a) (.ref s2.heap.objs.size)) (EP X pins σ Q) X.xe { s2 with heap := s2.heap.push { cls := .type "slice", data := .fields #[.none, .none, .int (-1) u] } } := by
    refine getItem_rev tt (Heap.IsSliceOf.new ..) (by omega) ?_
    refine ⟨.ref _, _, I4.laid (t' := s2.toks) (o := .tup xs.reverse) (fun b ob q => Heap.get?_push_of_some _ q) (Nat.le_refl _) ?_, rfl, q _ (I4.hok.fresh (Nat.le_refl _))⟩
    exact ⟨by rw [List.length_reverse]; exact hz, _, vals_rev r, IsTup.new _ _⟩
  exact tail_any (ops := [.ref a, .ref s2.heap.objs.size]) tt.typeIs slot_tuple_getitem.lookup fin (by with_unfolding_all rfl)
/-- t * k -/
def rRepE (K : PySem.W.Frag) : R2 := fun x y H Q => ∃ l k xs, x = .ref l ∧ y = .int k ∧ SqT K H l xs ∧ 2 ≤ k ∧ k ≤ 1000 ∧ xs.length ≤ 1000 ∧ (xs = [] → Q (.ref l) H) ∧ (xs ≠ [] → ∀ p, H p = none → Q (.ref p) (upd H p (.tup (List.replicate k.toNat xs).flatten)))
theorem op_repE : OpR X (binaryOp .Mult) (rRepE X.K) := by
  intro pins s σ H x y v w Q I rx ry h
  obtain ⟨l, k, xs, rfl, rfl, hT, h1, h2, hz, q0, q1⟩ := h
  by_cases hne : xs = []
  · subst hne
    cases rx
    obtain ⟨t, rfl⟩ := ry
    obtain ⟨its, r, ⟨⟨cls, dd, data, sl⟩, ho, hc, n, hd⟩, hs⟩ := I.tuple hT
    simp only at hc hd
    cases r
    subst hc hd
    have c0 : (decide (k < -(2 ^ 63)) || decide (k ≥ 2 ^ 63)) = false := by
      rw [decide_eq_false (show ¬ k < -(2 ^ 63) by omega), decide_eq_false (show ¬ k ≥ 2 ^ 63 by omega)]
      rfl
    refine wpAny_binaryOp_repeat_ref (T := "tuple") (U := "int") (by decide) ⟨_, ho, rfl⟩ (fun s' => typeIs_int s' k t) noFill_tuple_mul PySem.F.fills_int_mul PySem.F.slot_int_rmul repeat_tuple PySem.F.slot_int_index.lookup ?_
    refine call_meets PySem.F.slot_int_rmul (typeIs_int s k t) PySem.F.entry_int_rmul (PySem.F.args_int_rmul_2 _ _) (int_rmul_tuple k t l _ n dd sl) ⟨ho, rfl, ⟨_, ho, rfl⟩, ?_⟩
    exact call_meets PySem.F.slot_tuple_mul ⟨_, ho, rfl⟩ PySem.F.entry_tuple_mul (PySem.F.args_tuple_mul_2 _ _) (mul_empty l n dd sl k t c0) ⟨ho, ⟨.ref l, H, I, rfl, q0 rfl⟩⟩
  · exact op_repT pins s σ H _ _ v w Q I rx ry ⟨l, k, xs, rfl, rfl, hT, hne, h1, h2, hz, q1 hne⟩
end
section
variable {p : Pm} {δ : Sl} {te ta tb : TE}
theorem ed_rev {ds : List D} (h : Ed p te δ (.tup ds)) : Ed p (tRev p.K te) δ (.tup ds.reverse) := fun σ G H s sd rc rm Q k => h σ G H s sd rc rm _ fun v d G1 H1 st1 rc1 dv pd => by
  subst pd
  obtain ⟨a, xs, rfl, q1, q2⟩ := dv.tup_inv
  refine ⟨a, xs, rfl, sqT_mono st1.sub q1, fun b hb => ?_⟩
  obtain ⟨s4, r4⟩ := (Stp.new (o := .tup xs.reverse) st1.sub hb).up rc1
  exact k _ _ _ _ (st1.trans rc rc1 s4) r4 (.tup (SqT.of upd_same) (q2.reverse.mono s4.gg)) rfl
theorem rop_repE {xs : List D} {n : Int} (h0 : 2 ≤ n) (hz : n ≤ 1000) (hl : xs.length ≤ 50) : Rop p (rRepE p.K) (.tup xs) (.int n) (· = .tup (List.replicate n.toNat xs).flatten) := fun G H v w s rc rm dx dy Q k => by
  obtain ⟨a, us, rfl, h1, h2⟩ := dx.tup_inv
  cases dy
  have l1 := h2.length
  refine ⟨a, n, us, rfl, rfl, sqT_mono s h1, h0, hz, by omega, fun e => ?_, fun e q hq => ?_⟩
  · refine k _ _ G H (Stp.refl s) rc dx ?_
    have : xs = [] := List.eq_nil_of_length_eq_zero (by rw [← l1, e]; rfl)
    rw [this]
    congr 1
    exact (List.flatten_replicate_nil ..).symm
  · obtain ⟨s1, r1⟩ := (Stp.new (o := .tup (List.replicate n.toNat us).flatten) s hq).up rc
    exact k _ _ _ _ s1 r1 (.tup (SqT.of upd_same) ((h2.rep _).mono s1.gg)) rfl
end
end K10
set_option Elab.async false
set_option linter.all false
set_option maxRecDepth 100000
set_option maxHeartbeats 4000000
/-! The cup: reading, writing, drawing. -/
namespace K10
open PySem PySem.Spec PyProof.Rows L2 StX RZ
def cupOk (n : Nat) (i : Int) : Prop := 0 ≤ i ∧ (n = 1 → i < 2147482951)
theorem Stp.cup {a : Addr} {G H G1 H1 : Hp} {o : HO} (s : Stp (some a) G H G1 H1) (g : G1 a = none) : Stp (some a) G H G1 (upd H1 a o) := by
  refine ⟨s.gg, s.fr, fun b u e => ?_, fun b u hc e => ?_⟩
  · rw [upd_ne (ne_of_none e g)]
    exact s.sub b u e
  · have hb : b ≠ a := fun z => hc (by rw [z])
    rw [upd_ne hb]
    exact s.keep b u hc e
section
variable {p : Pm} {E : Ent} {δ : Sl} {σ : L2.St} {H : Hp} {te ta tl : TE} {P : D → Prop} {D' : Ends} {u : TS} {i j : Nat} {a : Addr}
/-- cup[n] -/
theorem en_cup {n : Nat} (hc : p.c = some a) (h1 : Ed p tl δ (.adr a)) (h2 : Ed p ta δ (.int n)) (hn : n < 3) : En p (tOp (rIxL p.K) tl ta) δ (fun d => ∃ i, d = .int i ∧ cupOk n i) :=
  ed_op h1 h2 fun G H v w s rc rm dx dy Q k => by
    cases dx
    cases dy
    obtain ⟨g, x, y, z, e, w0, w1, w2, w3⟩ := rc a hc
    have fin : ∀ k', [x, y, z][n]? = some k' → atI [V.int x, V.int y, V.int z] (n : Int) = some (V.int k') := fun k' hk => atI_nat (by
      have : [V.int x, V.int y, V.int z] = [x, y, z].map V.int := rfl
      rw [this, List.getElem?_map, hk]
      rfl)
    rcases n with _ | _ | _ | n
    · exact ⟨a, _, 0, .int x, rfl, rfl, SqL.of e, fin x rfl, k _ _ G H (Stp.refl s) rc (.int x) ⟨x, rfl, w0, fun z => absurd z (by decide)⟩⟩
    · exact ⟨a, _, 1, .int y, rfl, rfl, SqL.of e, fin y rfl, k _ _ G H (Stp.refl s) rc (.int y) ⟨y, rfl, w1, fun _ => w2⟩⟩
    · exact ⟨a, _, 2, .int z, rfl, rfl, SqL.of e, fin z rfl, k _ _ G H (Stp.refl s) rc (.int z) ⟨z, rfl, w3, fun z => absurd z (by decide)⟩⟩
    · omega
/-- cup[n] = v, the value in hand -/
theorem g_cup {n : Nat} {i : Int} {Q : L2.St → Hp → Prop} (a0 : At p E δ σ H) (hc : p.c = some a) (h1 : Ed p tl δ (.adr a)) (h2 : Ed p ta δ (.int n)) (hn : n < 3) (ok : cupOk n i) (k : ∀ H', At p E δ σ H' → Q σ H') : gSub tl ta rSetL (.int i) σ H Q := by
  obtain ⟨G, st, sb, sd, rc, rm⟩ := a0.ex
  refine h1 σ G H st.sub sd rc rm _ fun v d G1 H1 st1 rc1 dv pd => ?_
  subst pd
  cases dv
  refine h2 σ G1 H1 st1.sub (sd.mono st1.gg) rc1 (rm.stp st1) _ fun v d G2 H2 st2 rc2 dv pd => ?_
  subst pd
  cases dv
  have s1 := st.trans a0.rc0 rc st1
  have s2 := s1.trans a0.rc0 rc1 st2
  have rm2 := (rm.stp st1).stp st2
  obtain ⟨g, x, y, z, e, q0, q1, q2, q3⟩ := rc2 a hc
  obtain ⟨K, C, c, m⟩ := p
  have hc' : c = some a := hc
  subst hc'
  have e3 : ixN [V.int x, V.int y, V.int z].length (n : Int) = some n := by
    unfold ixN
    rw [if_pos (by omega), if_pos (by show (n : Int) < 3; omega)]
    rfl
  have fin : ∀ x' y' z' : Int, [V.int x, V.int y, V.int z].set n (.int i) = [.int x', .int y', .int z'] → 0 ≤ x' → 0 ≤ y' → y' < 2147482951 → 0 ≤ z' → Q σ (upd H2 a (.lst ([V.int x, V.int y, V.int z].set n (.int i)))) := by
    intro x' y' z' e' w0 w1 w2 w3
    rw [e']
    refine k _ ⟨⟨G2, s2.cup g, (sb.trans st1.gg).trans st2.gg, (sd.mono st1.gg).mono st2.gg, fun b hb => ?_, fun l ds hl => ?_⟩, a0.rc0, a0.m0⟩
    · cases hb
      exact ⟨g, x', y', z', upd_same, w0, w1, w2, w3⟩
    · obtain ⟨z1, z2, xs, z3, z4⟩ := rm2 l ds hl
      refine ⟨z1, z2, xs, ?_, z4⟩
      have hla : l ≠ a := fun z => z1 (by rw [z])
      rw [upd_ne hla]
      exact z3
  refine ⟨a, _, n, n, rfl, rfl, e, e3, ?_⟩
  rcases n with _ | _ | _ | n
  · exact fin i y z rfl ok.1 q1 q2 q3
  · exact fin x i z rfl q0 ok.1 (ok.2 rfl) q3
  · exact fin x y i rfl q0 q1 q2 ok.1
  · omega
/-- cup[n] = e -/
theorem q_cup {n : Nat} (a0 : At p E δ σ H) (hc : p.c = some a) (h : En p te δ (fun d => ∃ i, d = .int i ∧ cupOk n i)) (h1 : Ed p tl δ (.adr a)) (h2 : Ed p ta δ (.int n)) (hn : n < 3) (k : ∀ H', At p E δ σ H' → u D' σ H') : tSeq (tAsg te (gSub tl ta rSetL)) u D' σ H :=
  a0.run h fun v d G' H' st sb sd rc rm da pd => by
    obtain ⟨i, rfl, ok⟩ := pd
    cases da
    exact g_cup (Q := fun σ2 H2 => u D' σ2 H2) ⟨⟨G', st, sb, sd, rc, rm⟩, a0.rc0, a0.m0⟩ hc h1 h2 hn ok k
end
abbrev R__law_sip : Rel := fun c ds P => ∃ (a : Addr) (n : Int), ds = [.adr a, .int n] ∧ c = some a ∧ 0 < n ∧ n < 1000000 ∧ ∀ i, 0 ≤ i → i < n → P (.int i)
abbrev R__law_of : Rel := fun c ds P => ∃ (a : Addr) (xs : List D), ds = [.adr a, .lst xs] ∧ c = some a ∧ xs ≠ [] ∧ xs.length ≤ 1000 ∧ ∀ x ∈ xs, P x
abbrev s__law_sip : Stmt := top 70
abbrev N__law_sip : List PySem.Str := ["_law_cup_here", "_law_top", "_law_old", "_law_digit"]
theorem sc__law_sip : FnScope N__law_sip ["_law_cup_here", "_law_top"] (defScope s__law_sip) := ⟨rfl, rfl, rfl, by decide +kernel, rfl, by decide +kernel, by decide +kernel⟩
abbrev F__law_sip (W : Wd) : Prop := Fo W 1 "_law_sip" ["_law_cup_here", "_law_top"] R__law_sip
abbrev s__law_of : Stmt := top 71
abbrev N__law_of : List PySem.Str := ["_law_cup_here", "_law_things"]
theorem sc__law_of : FnScope N__law_of ["_law_cup_here", "_law_things"] (defScope s__law_of) := ⟨rfl, rfl, rfl, by decide +kernel, rfl, by decide +kernel, by decide +kernel⟩
abbrev F__law_of (W : Wd) : Prop := Fo W 2 "_law_of" ["_law_cup_here", "_law_things"] R__law_of
section
variable {p : Pm} {δ : Sl} {te ta tb : TE}
/-- ints that are told by a property -/
abbrev Ei (p : Pm) (te : TE) (δ : Sl) (P : Int → Prop) : Prop := En p te δ fun d => ∃ i, d = .int i ∧ P i
theorem ei_of {i : Int} {P : Int → Prop} (h : Ed p te δ (.int i)) (q : P i) : Ei p te δ P := En.of h ⟨i, rfl, q⟩
theorem ei_op {r : R2} {g : Int → Int → Int} {A B P : Int → Prop} (ha : Ei p ta δ A) (hb : Ei p tb δ B) (hr : ∀ i j, A i → B j → Rop p r (.int i) (.int j) (· = .int (g i j))) (q : ∀ i j, A i → B j → P (g i j)) : Ei p (tOp r ta tb) δ P :=
  en_op ha (fun _ _ => hb) fun x y ⟨i, hx, ai⟩ ⟨j, hy, bj⟩ => by
    subst hx hy
    exact (hr i j ai bj).imp fun d e => ⟨_, e, q i j ai bj⟩
theorem ei_int {P A : Int → Prop} (h : Ei p te δ A) (q : ∀ i, A i → P i) : Ei p (tCB (fun xs H Q => (∃ i, xs = [.int i] ∧ Q (.int i) H) ∨ ∃ k, xs = [.bl k] ∧ Q (.int (if k then 1 else 0)) H) (tCons te tNil)) δ P :=
  en_cb (R := fun ds => ∃ i, ds = [.int i] ∧ A i) (an_cons h (fun _ _ => ad_nil) fun d ds ⟨i, e, ai⟩ e2 => ⟨i, by rw [e, e2], ai⟩) fun ds ⟨i, e, ai⟩ => by
    subst e
    exact Rca.imp rca_int fun d e => ⟨i, e, q i ai⟩
end
section
variable {p : Pm} {E : Ent} {δ : Sl} {σ : L2.St} {H : Hp} {te ta tb tl : TE} {D' : Ends} {u : TS} {j : Nat} {a : Addr}
/-- cup[0], j = divmod(cup[0], n) -/
theorem q_divC {n : Int} (a0 : At p E δ σ H) (hc : p.c = some a) (h : En p te δ (fun d => ∃ i, d = .int i ∧ cupOk 0 i)) (hb : Ed p tb δ (.int n)) (h0 : 0 < n) (h1 : n < 1000000) (hl : Ed p tl δ (.adr a)) (hi : Ed p ta δ (.int 0))
    (k : ∀ (i : Int) σ' H', 0 ≤ i → i < n → At p E (δ.set j (some (.int i))) σ' H' → u D' σ' H') :
    tSeq (tAsg (tCB (fun xs H Q => ∃ i j, xs = [.int i, .int j] ∧ CDiv i j ∧ ∀ p, H p = none → Q (.ref p) (upd H p (.tup [.int (i / j), .int (i % j)]))) (tCons te (tCons tb tNil))) (gTup p.K 2 (gCons (gSub tl ta rSetL) (gCons (gName j) gNil)))) u D' σ H := by
  have en : En p (tCB (fun xs H Q => ∃ i j, xs = [.int i, .int j] ∧ CDiv i j ∧ ∀ p, H p = none → Q (.ref p) (upd H p (.tup [.int (i / j), .int (i % j)]))) (tCons te (tCons tb tNil))) δ (fun d => ∃ x y : Int, d = .tup [.int x, .int y] ∧ cupOk 0 x ∧ 0 ≤ y ∧ y < n) :=
    en_cb (R := fun ds => ∃ i : Int, ds = [.int i, .int n] ∧ cupOk 0 i) (an_cons h (fun _ _ => ad_cons hb ad_nil) fun d ds ⟨i, e, ai⟩ e2 => ⟨i, by rw [e, e2], ai⟩) fun ds ⟨i, e, ai⟩ => by
      subst e
      exact Rca.imp (rca_divmod ⟨h0, by omega⟩) fun d e => ⟨_, _, e, ⟨Int.ediv_nonneg ai.1 (by omega), fun z => absurd z (by decide)⟩, Int.emod_nonneg _ (by omega), Int.emod_lt_of_pos _ h0⟩
  unfold tSeq tAsg
  refine a0.run en fun v d G' H' st sb sd rc rm da pd => ?_
  obtain ⟨x, y, rfl, c0, y0, y1⟩ := pd
  obtain ⟨b, xs, rfl, q1, q2⟩ := da.tup_inv
  cases q2 with
  | cons d1 q2 =>
    cases q2 with
    | cons d2 q2 =>
      cases q2
      cases d1
      cases d2
      refine ⟨b, _, rfl, sqT_mono st.sub q1, rfl, _, _, rfl, ?_⟩
      refine g_cup ⟨⟨G', st, sb, sd, rc, rm⟩, a0.rc0, a0.m0⟩ hc hl hi (by decide) c0 fun H2 a2 => ?_
      exact ⟨_, _, rfl, rfl, k y _ H2 y0 y1 a2.setInt⟩
end
section
variable {W : Wd}
theorem ok__law_sip (T : Fr W.mg) (hD : DefP W "_law_sip" 70)  : F__law_sip W := by
  refine fo_mk hD sc__law_sip (fun _ _ _ _ _ _ us hl => match us, hl with | [_, _], _ => rfl) (fun c ds P h => by obtain ⟨_, _, e, _⟩ := h; rw [e]; rfl) fun f cdv A outer s H E hr => ?_
  have nd := sc__law_sip.nd
  refine ⟨_, PSs.nox (pss_cons (ps_asg (pe_op op_add (pe_ix ix_list (pv 0) pe_int (fun _ _ => rfl)) pe_int) (pg_sub (pv 0) pe_int set_list))
      (pss_cons (ps_set (i := 2) nd rfl (by first | exact Or.inl rfl | exact Or.inr rfl) (pe_callTy call_int1 rfl T.n_int (by decide +kernel) (pa_cons (pe_ix ix_list (pv 0) pe_int (fun _ _ => rfl)) pa_nil)))
      (pss_cons (ps_asg (pe_op op_mod (pe_callTy call_int1 rfl T.n_int (by decide +kernel) (pa_cons (pe_op op_add (pe_op op_add (pe_op op_mul (pv 2) (pe_op op_add (pe_op op_mod (pe_callTy call_int1 rfl T.n_int (by decide +kernel) (pa_cons (pv 2) pa_nil)) pe_int) pe_int)) (pe_op op_mul pe_int (pe_ix ix_list (pv 0) pe_int (fun _ _ => rfl)))) pe_int) pa_nil)) pe_int) (pg_sub (pv 0) pe_int set_list))
      (pss_cons (ps_if (pt_cmpR op_gt (pe_ix ix_list (pv 0) pe_int (fun _ _ => rfl)) pe_int (nomark _)) (pss_cons (ps_asg (pe_callB call_divmod rfl T.n_divmod (by decide +kernel) (pa_cons (pe_ix ix_list (pv 0) pe_int (fun _ _ => rfl)) (pa_cons (pv 1) pa_nil))) (pg_tup rfl (pgs_cons (pg_sub (pv 0) pe_int set_list) (pgs_cons (pg_name (i := 3) nd rfl (by first | exact Or.inl rfl | exact Or.inr rfl)) pgs_nil))))
      (pss_one (ps_ret (pv 3)))) pss_nil)
      (pss_one (ps_ret (pe_op op_mod (pe_callTy call_int1 rfl T.n_int (by decide +kernel) (pa_cons (pe_op op_fdiv (pe_ix ix_list (pv 0) pe_int (fun _ _ => rfl)) pe_int) pa_nil)) (pv 1)))))))), ?_⟩
  rintro c ds P E σ H Q ⟨a, n, rfl, rfl, h0, h1, hP⟩ a0 k
  refine q_cup (n := 2) a0 rfl (ei_op (en_cup rfl (ed_var rfl) ed_int (by decide)) (ei_of (P := (· = 1)) ed_int rfl) (fun i j _ _ => rop_I0) fun i j hi hj => ⟨by have := hi.1; omega, fun z => absurd z (by decide)⟩) (ed_var rfl) ed_int (by decide) fun H1 a1 => ?_
  refine q_asg a1 (ei_int (en_cup (n := 1) rfl (ed_var rfl) ed_int (by decide)) (P := fun i => 0 ≤ i ∧ i < 2147482951) fun i hi => ⟨hi.1, hi.2 rfl⟩) fun d σ2 H2 ⟨old, e, ho⟩ a2 => ?_
  subst e
  refine q_cup (n := 1) a2 rfl (ei_op (A := fun i => True) (B := (· = 2147482951)) (ei_int (A := fun i => True) (ei_op (A := fun _ => True) (B := fun _ => True)
    (ei_op (A := fun _ => True) (B := fun _ => True) (ei_op (A := (· = old)) (B := fun _ => True) (ei_of (ed_var rfl) rfl) (ei_op (A := fun _ => True) (B := (· = 24007)) (ei_op (A := fun _ => True) (B := (· = 19001)) (ei_int (A := fun _ => True) (ei_of (ed_var rfl) trivial) fun _ _ => trivial) (ei_of ed_int rfl) (fun i j _ hj => rop_I (by rw [hj]; decide)) fun _ _ _ _ => trivial) (ei_of ed_int rfl) (fun _ _ _ _ => rop_I0) fun _ _ _ _ => trivial)
      (fun i j hi _ => rop_I (.inl (by rw [hi]; omega))) fun _ _ _ _ => trivial)
      (ei_op (A := (· = 53003)) (B := fun _ => True) (ei_of ed_int rfl) ((en_cup (n := 2) rfl (ed_var rfl) ed_int (by decide)).imp fun d ⟨i, e, _⟩ => ⟨i, e, trivial⟩) (fun i j hi _ => rop_I (.inl (by rw [hi]; decide))) fun _ _ _ _ => trivial)
      (fun _ _ _ _ => rop_I0) fun _ _ _ _ => trivial) (ei_of ed_int trivial) (fun _ _ _ _ => rop_I0) fun _ _ _ _ => trivial) fun _ _ => trivial) (ei_of ed_int rfl) (fun i j _ hj => rop_I (by rw [hj]; decide))
    fun i j _ hj => ⟨by rw [hj]; exact Int.emod_nonneg _ (by decide), fun _ => by rw [hj]; exact Int.emod_lt_of_pos _ (by decide)⟩) (ed_var rfl) ed_int (by decide) fun H3 a3 => ?_
  refine q_if (T := fun _ => True) a3 (tn_test (P := fun d => ∃ b, d = .bl b) (en_op (en_cup (n := 0) rfl (ed_var rfl) ed_int (by decide)) (fun _ _ => ed_int) fun x y ⟨i, hx, _⟩ hy => by
    subst hx hy
    exact Rop.imp rop_B0 fun d e => ⟨_, e⟩) fun d ⟨b, e⟩ => ⟨b, e, trivial⟩) (fun _ H4 a4 => ?_) fun _ H4 a4 => ?_
  · refine q_divC (n := n) a4 rfl (en_cup (n := 0) rfl (ed_var rfl) ed_int (by decide)) (ed_var rfl) h0 h1 (ed_var rfl) ed_int fun i σ5 H5 i0 i1 a5 => ?_
    exact x_ret a5 (En.of (ed_var rfl) (hP i i0 i1)) k
  · refine x_ret a4 ((ei_op (A := fun _ => True) (B := (· = n)) (P := fun i => 0 ≤ i ∧ i < n) (ei_int (A := fun _ => True) (ei_op (A := fun _ => True) (B := (· = 131)) ((en_cup (n := 1) rfl (ed_var rfl) ed_int (by decide)).imp fun d ⟨i, e, _⟩ => ⟨i, e, trivial⟩) (ei_of ed_int rfl) (fun i j _ hj => rop_I (by rw [hj]; exact ⟨by decide, by decide⟩)) fun _ _ _ _ => trivial) fun _ _ => trivial) (ei_of (ed_var rfl) rfl)
      (fun i j _ hj => rop_I (by rw [hj]; exact h0)) fun i j _ hj => by rw [hj]; exact ⟨Int.emod_nonneg _ (by omega), Int.emod_lt_of_pos _ h0⟩).imp fun d ⟨i, e, h⟩ => ?_) k
    rw [e]
    exact hP i h.1 h.2
theorem ok__law_of (T : Fr W.mg) (hD : DefP W "_law_of" 71) (f__law_sip : F__law_sip W) : F__law_of W := by
  refine fo_mk hD sc__law_of (fun _ _ _ _ _ _ us hl => match us, hl with | [_, _], _ => rfl) (fun c ds P h => by obtain ⟨_, _, e, _⟩ := h; rw [e]; rfl) fun f cdv A outer s H E hr => ?_
  have nd := sc__law_of.nd
  refine ⟨_, PSs.nox (pss_one (ps_ret (pe_ix ix_list (pv 1) (pe_cf f__law_sip (hr.mono (by decide)) (pa_cons (pv 0) (pa_cons (pe_callB call_len_seq rfl T.n_len (by decide +kernel) (pa_cons (pv 1) pa_nil)) pa_nil))) (fun _ _ => rfl)))), ?_⟩
  rintro c ds P E σ H Q ⟨a, xs, rfl, rfl, h0, h1, hP⟩ a0 k
  have hl : 0 < xs.length := List.length_pos_iff.mpr h0
  refine x_ret a0 (en_op (A := (· = .lst xs)) (B := fun _ d => ∃ i : Int, d = .int i ∧ 0 ≤ i ∧ i < xs.length) (ed_var rfl) (fun _ _ => en_callC (ad_cons (ed_var rfl) (ad_cons (ed_lenL (ed_var rfl)) ad_nil)) ⟨a, xs.length, rfl, rfl, by omega, by omega, fun i i0 i1 => ⟨i, rfl, i0, i1⟩⟩) fun x y hx ⟨i, hy, i0, i1⟩ => ?_) k
  subst hx hy
  obtain ⟨j, rfl⟩ : ∃ j : Nat, i = (j : Int) := ⟨i.toNat, by omega⟩
  have hj : xs[j]? = some xs[j] := List.getElem?_eq_getElem (by omega)
  exact (rop_ixL (atI_nat hj)).imp fun d e => by rw [e]; exact hP _ (List.mem_of_getElem? hj)
end
end K10
set_option Elab.async false
set_option linter.all false
set_option maxRecDepth 100000
set_option maxHeartbeats 4000000
/-! What is drawn: shares, rows, rigs. -/
namespace K10
open PySem PySem.Spec PyProof.Rows L2 StX RZ
theorem red_spec {a b : Int} (hb : 0 < b) : 0 < (Int.gcd a b : Int) ∧ a = (red a b).1 * (Int.gcd a b : Int) ∧ b = (red a b).2 * (Int.gcd a b : Int) ∧ 0 < (red a b).2 := by
  have g := gcd_pos (a := a) hb
  refine ⟨g, (Int.ediv_mul_cancel (Int.gcd_dvd_left a b)).symm, (Int.ediv_mul_cancel (Int.gcd_dvd_right a b)).symm, ?_⟩
  exact Int.ediv_pos_of_pos_of_dvd hb (Int.le_of_lt g) (Int.gcd_dvd_right ..)
theorem red_scale {a b : Int} {V : Nat} (hb : 0 < b) (h : a.natAbs ≤ V * b.natAbs) : (red a b).1.natAbs ≤ V * (red a b).2.natAbs := by
  obtain ⟨g, e1, e2, _⟩ := red_spec (a := a) hb
  generalize (red a b).1 = x at *
  generalize (red a b).2 = y at *
  generalize (Int.gcd a b : Int) = d at *
  rw [e1, e2, Int.natAbs_mul, Int.natAbs_mul, ← Nat.mul_assoc] at h
  exact Nat.le_of_mul_le_mul_right h (by omega)
/-- a drawn fraction: its lower number divides 12 ^ k, its size is at most V -/
structure Qk (k V : Nat) (x : Q2) : Prop where
  pos : 0 < x.2
  dvd : x.2.natAbs ∣ 12 ^ k
  le : x.1.natAbs ≤ V * x.2.natAbs
theorem Qk.up {k V U : Nat} {x : Q2} (h : Qk k V x) (hV : V ≤ U) : Qk k U x := ⟨h.pos, h.dvd, Nat.le_trans h.le (Nat.mul_le_mul_right _ hV)⟩
theorem Qk.upk {k l V : Nat} {x : Q2} (h : Qk k V x) (hl : k ≤ l) : Qk l V x := ⟨h.pos, Nat.dvd_trans h.dvd (Nat.pow_dvd_pow 12 hl), h.le⟩
theorem qk_mul {k l V U : Nat} {x y : Q2} (hx : Qk k V x) (hy : Qk l U y) : Qk (k + l) (V * U) (mulQ x y) := by
  have hb : 0 < x.2 * y.2 := Int.mul_pos hx.pos hy.pos
  obtain ⟨g, e1, e2, p⟩ := red_spec (a := x.1 * y.1) hb
  refine ⟨p, ?_, red_scale hb ?_⟩
  · have h1 : (mulQ x y).2.natAbs ∣ (x.2 * y.2).natAbs := by
      show (red (x.1 * y.1) (x.2 * y.2)).2.natAbs ∣ _
      rw [Int.natAbs_dvd_natAbs]
      exact ⟨_, e2⟩
    refine Nat.dvd_trans h1 ?_
    rw [Int.natAbs_mul, Nat.pow_add]
    exact Nat.mul_dvd_mul hx.dvd hy.dvd
  · rw [Int.natAbs_mul, Int.natAbs_mul]
    have := Nat.mul_le_mul hx.le hy.le
    rw [Nat.mul_mul_mul_comm] at this
    exact this
theorem qk_add {k V U : Nat} {x y : Q2} (hx : Qk k V x) (hy : Qk k U y) : Qk k (V + U) (addQ x y) := by
  have hb : 0 < x.2 * y.2 := Int.mul_pos hx.pos hy.pos
  obtain ⟨g, e1, e2, p⟩ := red_spec (a := x.1 * y.2 + y.1 * x.2) hb
  refine ⟨p, ?_, red_scale hb ?_⟩
  · obtain ⟨u, hu⟩ : ∃ u : Nat, x.2 = u := ⟨x.2.natAbs, by have := hx.pos; omega⟩
    obtain ⟨v, hv⟩ : ∃ v : Nat, y.2 = v := ⟨y.2.natAbs, by have := hy.pos; omega⟩
    have d1 : u ∣ 12 ^ k := by have := hx.dvd; rw [hu] at this; exact this
    have d2 : v ∣ 12 ^ k := by have := hy.dvd; rw [hv] at this; exact this
    have d3 : Nat.lcm u v ∣ 12 ^ k := Nat.lcm_dvd d1 d2
    have d4 : (Nat.gcd u v) ∣ Int.gcd (x.1 * y.2 + y.1 * x.2) (x.2 * y.2) := by
      have q1 : ((Nat.gcd u v : Nat) : Int) ∣ x.2 := by rw [hu]; exact Int.natCast_dvd_natCast.mpr (Nat.gcd_dvd_left u v)
      have q2 : ((Nat.gcd u v : Nat) : Int) ∣ y.2 := by rw [hv]; exact Int.natCast_dvd_natCast.mpr (Nat.gcd_dvd_right u v)
      exact Int.dvd_gcd (Int.dvd_add (Int.dvd_mul_of_dvd_right q2) (Int.dvd_mul_of_dvd_right q1)) (Int.dvd_mul_of_dvd_left q1)
    have e3 : (x.2 * y.2).natAbs = u * v := by rw [hu, hv]; rfl
    have e4 : (addQ x y).2.natAbs * Int.gcd (x.1 * y.2 + y.1 * x.2) (x.2 * y.2) = u * v := by
      rw [← e3]
      exact ((congrArg Int.natAbs e2).trans (Int.natAbs_mul _ _)).symm
    have d5 : (addQ x y).2.natAbs * Int.gcd (x.1 * y.2 + y.1 * x.2) (x.2 * y.2) ∣ 12 ^ k * Int.gcd (x.1 * y.2 + y.1 * x.2) (x.2 * y.2) := by
      rw [e4, ← Nat.gcd_mul_lcm u v, Nat.mul_comm (Nat.gcd u v)]
      exact Nat.mul_dvd_mul d3 d4
    have hg : 0 < Int.gcd (x.1 * y.2 + y.1 * x.2) (x.2 * y.2) := by omega
    exact Nat.dvd_of_mul_dvd_mul_right hg d5
  · rw [Int.natAbs_mul]
    have h1 := Int.natAbs_add_le (x.1 * y.2) (y.1 * x.2)
    rw [Int.natAbs_mul, Int.natAbs_mul] at h1
    have h2 := Nat.mul_le_mul_right y.2.natAbs hx.le
    have h3 := Nat.mul_le_mul_right x.2.natAbs hy.le
    have e1 : (V + U) * (x.2.natAbs * y.2.natAbs) = V * x.2.natAbs * y.2.natAbs + U * y.2.natAbs * x.2.natAbs := by
      rw [Nat.add_mul, Nat.mul_assoc, Nat.mul_assoc, Nat.mul_comm y.2.natAbs]
    omega
theorem Qk.bt {k V : Nat} {x : Q2} (h : Qk k V x) (hk : k ≤ 7) (hV : V < 2 ^ 40) : Fq 70 x := by
  have h1 : x.2.natAbs ≤ 12 ^ 7 := Nat.le_of_dvd (by decide) (Nat.dvd_trans h.dvd (Nat.pow_dvd_pow 12 hk))
  have h2 : x.1.natAbs ≤ 2 ^ 40 * 12 ^ 7 := Nat.le_trans h.le (Nat.mul_le_mul (Nat.le_of_lt hV) h1)
  exact ⟨h.pos, Nat.lt_of_le_of_lt h2 (by decide), Nat.lt_of_le_of_lt h1 (by decide)⟩
theorem Qk.bt2 {k V : Nat} {x : Q2} (h : Qk k V x) (hk : k ≤ 7) : Bt 26 x.2 := by
  have h1 : x.2.natAbs ≤ 12 ^ 7 := Nat.le_of_dvd (by decide) (Nat.dvd_trans h.dvd (Nat.pow_dvd_pow 12 hk))
  exact Nat.lt_of_le_of_lt h1 (by decide)
/-- small in every way -/
structure Sm (x : Q2) : Prop where
  pos : 0 < x.2
  dvd : x.2.natAbs ∣ 12
  l1 : x.1.natAbs ≤ 40
  l2 : x.2.natAbs ≤ 4
theorem Sm.qk {x : Q2} {V : Nat} (h : Sm x) (hV : x.1.natAbs ≤ V) : Qk 1 V x := ⟨h.pos, h.dvd, Nat.le_trans hV (Nat.le_mul_of_pos_right _ (by have := h.pos; omega))⟩
theorem sm_red {n d : Int} {far : Nat} (hd : 0 < d) (hd4 : d.natAbs ∣ 12) (h4 : d.natAbs ≤ 4) (hn : n.natAbs ≤ far) (hf : far ≤ 40) : Sm (red n d) ∧ (red n d).1.natAbs ≤ far := by
  obtain ⟨g, e1, e2, p⟩ := red_spec (a := n) hd
  have h1 : (red n d).1.natAbs ≤ n.natAbs := Int.natAbs_ediv_le_natAbs n _
  have h2 : (red n d).2.natAbs ≤ d.natAbs := Int.natAbs_ediv_le_natAbs d _
  refine ⟨⟨p, ?_, by omega, by omega⟩, by omega⟩
  refine Nat.dvd_trans ?_ hd4
  rw [Int.natAbs_dvd_natAbs]
  exact ⟨_, e2⟩
abbrev R__law_share : Rel := fun c ds P => ∃ (a : Addr) (far : Nat), ds = [.adr a, .int far] ∧ c = some a ∧ far ≤ 6 ∧ ∀ x : Q2, Sm x → x.1.natAbs ≤ far → P (fd x)
abbrev R__law_plus_share : Rel := fun c ds P => ∃ (a : Addr) (far : Nat), ds = [.adr a, .int far] ∧ c = some a ∧ 1 ≤ far ∧ far ≤ 6 ∧ ∀ x : Q2, Sm x → x.1.natAbs ≤ far → P (fd x)
abbrev s__law_share : Stmt := top 78
abbrev N__law_share : List PySem.Str := ["_law_cup_here", "_law_far"]
theorem sc__law_share : FnScope N__law_share ["_law_cup_here", "_law_far"] (defScope s__law_share) := ⟨rfl, rfl, rfl, by decide +kernel, rfl, by decide +kernel, by decide +kernel⟩
abbrev F__law_share (W : Wd) : Prop := Fo W 3 "_law_share" ["_law_cup_here", "_law_far"] R__law_share
abbrev s__law_plus_share : Stmt := top 79
abbrev N__law_plus_share : List PySem.Str := ["_law_cup_here", "_law_far"]
theorem sc__law_plus_share : FnScope N__law_plus_share ["_law_cup_here", "_law_far"] (defScope s__law_plus_share) := ⟨rfl, rfl, rfl, by decide +kernel, rfl, by decide +kernel, by decide +kernel⟩
abbrev F__law_plus_share (W : Wd) : Prop := Fo W 3 "_law_plus_share" ["_law_cup_here", "_law_far"] R__law_plus_share
section
variable {W : Wd}
theorem ok__law_share (T : Fr W.mg) (hD : DefP W "_law_share" 78) (f__law_low : F__law_low W) (f__law_of : F__law_of W) (f__law_sip : F__law_sip W) : F__law_share W := by
  refine fo_mk hD sc__law_share (fun _ _ _ _ _ _ us hl => match us, hl with | [_, _], _ => rfl) (fun c ds P h => by obtain ⟨_, _, e, _⟩ := h; rw [e]; rfl) fun f cdv A outer s H E hr => ?_
  have nd := sc__law_share.nd
  refine ⟨_, PSs.nox (pss_one (ps_ret (pe_cf f__law_low (hr.mono (by decide)) (pa_cons (pe_op op_sub (pe_cf f__law_sip (hr.mono (by decide)) (pa_cons (pv 0) (pa_cons (pe_op op_add (pe_op op_mul pe_int (pv 1)) pe_int) pa_nil))) (pv 1)) (pa_cons (pe_cf f__law_of (hr.mono (by decide)) (pa_cons (pv 0) (pa_cons (pe_lst (pa_cons pe_int (pa_cons pe_int (pa_cons pe_int (pa_cons pe_int (pa_cons pe_int (pa_cons pe_int pa_nil))))))) pa_nil))) pa_nil))))), ?_⟩
  rintro c ds P E σ H Q ⟨a, far, rfl, rfl, h6, hP⟩ a0 k
  refine x_ret a0 (en_call (A := fun ds => ∃ n d : Int, ds = [.int n, .int d] ∧ n.natAbs ≤ far ∧ d ∈ [(1 : Int), 1, 1, 2, 3, 4]) (an_cons (P := fun d => ∃ n : Int, d = .int n ∧ n.natAbs ≤ far)
    (ei_op (A := fun i => 0 ≤ i ∧ i < 2 * far + 1) (B := (· = (far : Int))) (P := fun n => n.natAbs ≤ far) (en_callC (ad_cons (ed_var rfl) (ad_cons (ed_add (ed_op ed_int (ed_var rfl) (rop_I (g := fun i j => i * j) (.inl (by decide)))) ed_int) ad_nil)) ⟨a, 2 * far + 1, rfl, rfl, by omega, by omega, fun i i0 i1 => ⟨i, rfl, i0, i1⟩⟩) (ei_of (ed_var rfl) rfl) (fun _ _ _ _ => rop_I0) fun i j ⟨i0, i1⟩ hj => by subst hj; omega)
    (fun _ _ => an_cons (P := fun d => ∃ n : Int, d = .int n ∧ n ∈ [(1 : Int), 1, 1, 2, 3, 4]) (R := (· = [])) (R' := fun ds => ∃ d : Int, ds = [.int d] ∧ d ∈ [(1 : Int), 1, 1, 2, 3, 4])
      (en_callC (ad_cons (ed_var rfl) (ad_cons (ed_lst (ad_cons ed_int (ad_cons ed_int (ad_cons ed_int (ad_cons ed_int (ad_cons ed_int (ad_cons ed_int ad_nil))))))) ad_nil)) ⟨a, [(1 : Int), 1, 1, 2, 3, 4].map D.int, rfl, rfl, by simp, by simp, fun x hx => by
        obtain ⟨n, hn, e⟩ := List.mem_map.mp hx
        exact ⟨n, e.symm, hn⟩⟩) (fun _ _ => ad_nil) fun d ds ⟨n, e, hn⟩ e2 => ⟨n, by rw [e, e2], hn⟩)
    fun d ds ⟨n, e, hn⟩ ⟨m, e2, hm⟩ => ⟨n, m, by rw [e, e2], hn, hm⟩) fun ds ⟨n, d, e, hn, hd⟩ => Or.inr ?_) k
  subst e
  have hd' : 0 < d ∧ d.natAbs ∣ 12 ∧ d.natAbs ≤ 4 := by
    have key : ∀ d ∈ [(1 : Int), 1, 1, 2, 3, 4], 0 < d ∧ d.natAbs ∣ 12 ∧ d.natAbs ≤ 4 := by decide
    exact key d hd
  obtain ⟨s1, s2⟩ := sm_red hd'.1 hd'.2.1 hd'.2.2 hn (by omega)
  exact ⟨n, d, rfl, hd'.1, Nat.lt_of_le_of_lt hd'.2.2 (by decide), hP _ s1 s2⟩
theorem ok__law_plus_share (T : Fr W.mg) (hD : DefP W "_law_plus_share" 79) (f__law_low : F__law_low W) (f__law_of : F__law_of W) (f__law_sip : F__law_sip W) : F__law_plus_share W := by
  refine fo_mk hD sc__law_plus_share (fun _ _ _ _ _ _ us hl => match us, hl with | [_, _], _ => rfl) (fun c ds P h => by obtain ⟨_, _, e, _⟩ := h; rw [e]; rfl) fun f cdv A outer s H E hr => ?_
  have nd := sc__law_plus_share.nd
  refine ⟨_, PSs.nox (pss_one (ps_ret (pe_cf f__law_low (hr.mono (by decide)) (pa_cons (pe_op op_add pe_int (pe_cf f__law_sip (hr.mono (by decide)) (pa_cons (pv 0) (pa_cons (pv 1) pa_nil)))) (pa_cons (pe_cf f__law_of (hr.mono (by decide)) (pa_cons (pv 0) (pa_cons (pe_lst (pa_cons pe_int (pa_cons pe_int (pa_cons pe_int (pa_cons pe_int pa_nil))))) pa_nil))) pa_nil))))), ?_⟩
  rintro c ds P E σ H Q ⟨a, far, rfl, rfl, h1, h6, hP⟩ a0 k
  refine x_ret a0 (en_call (A := fun ds => ∃ n d : Int, ds = [.int n, .int d] ∧ n.natAbs ≤ far ∧ d ∈ [(1 : Int), 1, 2, 3]) (an_cons (P := fun d => ∃ n : Int, d = .int n ∧ n.natAbs ≤ far)
    (ei_op (A := (· = (1 : Int))) (B := fun i => 0 ≤ i ∧ i < far) (P := fun n => n.natAbs ≤ far) (ei_of ed_int rfl) (en_callC (ad_cons (ed_var rfl) (ad_cons (ed_var rfl) ad_nil)) ⟨a, far, rfl, rfl, by omega, by omega, fun i i0 i1 => ⟨i, rfl, i0, i1⟩⟩) (fun _ _ _ _ => rop_I0) fun i j hj ⟨i0, i1⟩ => by subst hj; omega)
    (fun _ _ => an_cons (P := fun d => ∃ n : Int, d = .int n ∧ n ∈ [(1 : Int), 1, 2, 3]) (R := (· = [])) (R' := fun ds => ∃ d : Int, ds = [.int d] ∧ d ∈ [(1 : Int), 1, 2, 3])
      (en_callC (ad_cons (ed_var rfl) (ad_cons (ed_lst (ad_cons ed_int (ad_cons ed_int (ad_cons ed_int (ad_cons ed_int ad_nil))))) ad_nil)) ⟨a, [(1 : Int), 1, 2, 3].map D.int, rfl, rfl, by simp, by simp, fun x hx => by
        obtain ⟨n, hn, e⟩ := List.mem_map.mp hx
        exact ⟨n, e.symm, hn⟩⟩) (fun _ _ => ad_nil) fun d ds ⟨n, e, hn⟩ e2 => ⟨n, by rw [e, e2], hn⟩)
    fun d ds ⟨n, e, hn⟩ ⟨m, e2, hm⟩ => ⟨n, m, by rw [e, e2], hn, hm⟩) fun ds ⟨n, d, e, hn, hd⟩ => Or.inr ?_) k
  subst e
  have hd' : 0 < d ∧ d.natAbs ∣ 12 ∧ d.natAbs ≤ 4 := by
    have key : ∀ d ∈ [(1 : Int), 1, 2, 3], 0 < d ∧ d.natAbs ∣ 12 ∧ d.natAbs ≤ 4 := by decide
    exact key d hd
  obtain ⟨s1, s2⟩ := sm_red hd'.1 hd'.2.1 hd'.2.2 hn (by omega)
  exact ⟨n, d, rfl, hd'.1, Nat.lt_of_le_of_lt hd'.2.2 (by decide), hP _ s1 s2⟩
end
theorem nums_of {Pp : Q2 → Prop} : ∀ {ds : List D}, (∀ d ∈ ds, ∃ x, d = fd x ∧ Pp x) → ∃ xs : List Q2, ds = xs.map fd ∧ xs.length = ds.length ∧ ∀ x ∈ xs, Pp x
  | [], _ => ⟨[], rfl, rfl, fun _ h => nomatch h⟩
  | d :: ds, h => by
    obtain ⟨x, e, hx⟩ := h d List.mem_cons_self
    obtain ⟨xs, e2, hl, hs⟩ := nums_of (ds := ds) fun d hd => h d (List.mem_cons_of_mem _ hd)
    exact ⟨x :: xs, by rw [e, e2]; rfl, by rw [List.length_cons, hl]; rfl, fun y hy => by
      rcases List.mem_cons.mp hy with z | z
      · rw [z]; exact hx
      · exact hs y z⟩
section
variable {p : Pm} {E : Ent} {δ : Sl} {σ : L2.St} {H : Hp} {tb : TS} {D' : Ends} {u : TS} {ra : TA} {i j : Nat}
/-- for j in range(n), n told by a property -/
theorem q_forRn {Pn : Int → Prop} (a : At p E δ σ H) (h : An p ra δ (fun ds => ∃ n : Int, ds = [.int n] ∧ Pn n)) (hn : ∀ n, Pn n → -100000 ≤ n ∧ n ≤ 100000) (Iv : Nat → Sl → Option (Addr × List D) → Prop) (h0 : Iv 0 δ p.m)
    (hs : ∀ (n : Int) (i : Nat) δ' m' σ' H', Pn n → (i : Int) < n → Iv i δ' m' → At { p with m := m' } E (δ'.set j (some (.int i))) σ' H' → tb { D' with nx := LoopAt p E (Iv (i + 1)), ct := LoopAt p E (Iv (i + 1)), bk := u D' } σ' H')
    (hd : ∀ (n : Int) δ' m' σ' H', Pn n → Iv n.toNat δ' m' → At { p with m := m' } E δ' σ' H' → u D' σ' H') : tSeq (tFor (iRng1 ra) (gName j) tb) u D' σ H :=
  a.runA h fun vs ds G' H' st sb sd rc rm da pd => by
    obtain ⟨n, rfl, pn⟩ := pd
    have hn' := hn n pn
    cases da with
    | cons h1 h2 =>
      cases h2
      cases h1
      refine ⟨n, rfl, by omega, by omega, ?_⟩
      refine for_range (D := { D' with nx := u D' }) (lo := 0) (n := n.toNat) (fun i σ' H' => LoopAt p E (Iv i) σ' H') ⟨δ, p.m, h0, ⟨⟨G', st, sb, sd, rc, rm⟩, a.rc0, a.m0⟩⟩ (fun i σ' H' hi ⟨δ', m', iv, a'⟩ => ?_) fun σ' H' ⟨δ', m', iv, a'⟩ => hd n δ' m' σ' H' pn iv a'
      have e0 : (0 : Int) + (i : Int) = (i : Int) := Int.zero_add _
      show tb _ (σ'.set j (some (.int ((0 : Int) + (i : Int))))) H'
      rw [e0]
      exact hs n i δ' m' _ H' pn (by omega) iv a'.setInt
end
section
variable {p : Pm} {E : Ent} {δ : Sl} {σ : L2.St} {H : Hp} {tb : TS} {D' : Ends} {ra : TA} {j : Nat}
theorem x_forR {n : Int} (a : At p E δ σ H) (h : Ad p ra δ [.int n]) (hn : -100000 ≤ n ∧ n ≤ 100000) (Iv : Nat → Sl → Option (Addr × List D) → Prop) (h0 : Iv 0 δ p.m)
    (hs : ∀ (i : Nat) δ' m' σ' H', (i : Int) < n → Iv i δ' m' → At { p with m := m' } E (δ'.set j (some (.int i))) σ' H' → tb { D' with nx := LoopAt p E (Iv (i + 1)), ct := LoopAt p E (Iv (i + 1)), bk := D'.nx } σ' H')
    (hd : ∀ δ' m' σ' H', Iv n.toNat δ' m' → At { p with m := m' } E δ' σ' H' → D'.nx σ' H') : tFor (iRng1 ra) (gName j) tb D' σ H := q_forR (u := fun D => D.nx) a h hn Iv h0 hs hd
end
abbrev R__law_by : Rel := fun _ ds P => ∃ (xs ys : List Q2) (k V U : Nat), ds = [nums xs, nums ys] ∧ 1 ≤ xs.length ∧ xs.length ≤ 8 ∧ 1 ≤ ys.length ∧ ys.length ≤ 2 ∧ (∀ x ∈ xs, Qk k V x) ∧ (∀ y ∈ ys, Qk 1 U y) ∧ k ≤ 6 ∧ 16 * (V * U) < 2 ^ 40 ∧ 1 ≤ V ∧ 1 ≤ U ∧
  ∀ zs : List Q2, zs.length + 1 = xs.length + ys.length → (∀ z ∈ zs, Qk (k + 1) (xs.length * ys.length * (V * U)) z) → P (nums zs)
abbrev s__law_by : Stmt := top 81
abbrev N__law_by : List PySem.Str := ["_law_near", "_law_far", "_law_found", "_law_i", "_law_j"]
theorem sc__law_by : FnScope N__law_by ["_law_near", "_law_far"] (defScope s__law_by) := ⟨rfl, rfl, rfl, by decide +kernel, rfl, by decide +kernel, by decide +kernel⟩
abbrev F__law_by (W : Wd) : Prop := Fo W 3 "_law_by" ["_law_near", "_law_far"] R__law_by
section
variable {W : Wd}
theorem ok__law_by (T : Fr W.mg) (hD : DefP W "_law_by" 81) (f__law_sum : F__law_sum W) (f__law_mul : F__law_mul W) : F__law_by W := by
  refine fo_mk hD sc__law_by (fun _ _ _ _ _ _ us hl => match us, hl with | [_, _], _ => rfl) (fun c ds P h => by obtain ⟨_, _, _, _, _, e, _⟩ := h; rw [e]; rfl) fun f cdv A outer s H E hr => ?_
  have nd := sc__law_by.nd
  refine ⟨_, PSs.nox (pss_cons (ps_set (i := 2) nd rfl (by first | exact Or.inl rfl | exact Or.inr rfl) (pe_op op_rep (pe_lst (pa_cons (pe_tup (pa_cons pe_int (pa_cons pe_int pa_nil))) pa_nil)) (pe_op op_sub (pe_op op_add (pe_callB call_len_seq rfl T.n_len (by decide +kernel) (pa_cons (pv 0) pa_nil)) (pe_callB call_len_seq rfl T.n_len (by decide +kernel) (pa_cons (pv 1) pa_nil))) pe_int)))
      (pss_cons (ps_for PassesOwn.never rfl (pi_range1 rfl T.n_range (pa_cons (pe_callB call_len_seq rfl T.n_len (by decide +kernel) (pa_cons (pv 0) pa_nil)) pa_nil)) (pg_name (i := 3) nd rfl (by first | exact Or.inl rfl | exact Or.inr rfl)) (pss_one (ps_for PassesOwn.never rfl (pi_range1 rfl T.n_range (pa_cons (pe_callB call_len_seq rfl T.n_len (by decide +kernel) (pa_cons (pv 1) pa_nil)) pa_nil)) (pg_name (i := 4) nd rfl (by first | exact Or.inl rfl | exact Or.inr rfl)) (pss_one (ps_asg (pe_cf f__law_sum (hr.mono (by decide)) (pa_cons (pe_ix ix_list (pv 2) (pe_op op_add (pv 3) (pv 4)) (fun _ _ => rfl)) (pa_cons (pe_cf f__law_mul (hr.mono (by decide)) (pa_cons (pe_ix ix_tup (pv 0) (pv 3) (fun _ _ => rfl)) (pa_cons (pe_ix ix_tup (pv 1) (pv 4) (fun _ _ => rfl)) pa_nil))) pa_nil))) (pg_sub (pv 2) (pe_op op_add (pv 3) (pv 4)) set_list))))))
      (pss_one (ps_ret (pe_callTy call_tuple_of rfl T.n_tuple (by decide +kernel) (pa_cons (pv 2) pa_nil)))))), ?_⟩
  rintro c ds P E σ H Q ⟨xs, ys, kk, V, U, rfl, hx1, hx8, hy1, hy2, hx, hy, hk, hV, hV1, hU1, hP⟩ a0 k
  have lx : (xs.map fd).length = xs.length := List.length_map ..
  have ly : (ys.map fd).length = ys.length := List.length_map ..
  refine q_mkR (xs := [fd (0, 1)]) (n := ((xs.length + ys.length - 1 : Nat) : Int)) a0 rfl (ed_lst (ad_cons (ed_tup (ad_cons ed_int (ad_cons ed_int ad_nil))) ad_nil)) (Ed.to (ed_sub (ed_add (ed_lenT (ed_var rfl)) (ed_lenT (ed_var rfl))) ed_int) (by rw [lx, ly]; congr 1; omega)) (by omega) (by omega) (by simp) fun l σ1 H1 a1 => ?_
  have e0 : (List.replicate (Int.toNat ((xs.length + ys.length - 1 : Nat) : Int)) [fd (0, 1)]).flatten = (List.replicate (xs.length + ys.length - 1) ((0, 1) : Q2)).map fd := by
    rw [Int.toNat_natCast, List.map_replicate]
    generalize xs.length + ys.length - 1 = n
    induction n with
    | zero => rfl
    | succ n ih =>
      rw [List.replicate_succ, List.flatten_cons, ih, List.replicate_succ]
      rfl
  rw [e0] at a1
  refine q_forR (n := ((xs.map fd).length : Nat)) a1 (ad_cons (ed_lenT (ed_var rfl)) ad_nil) (by rw [lx]; omega)
    (fun i δ m => ∃ zs : List Q2, m = some (l, zs.map fd) ∧ zs.length = xs.length + ys.length - 1 ∧ (∀ z ∈ zs, Qk (kk + 1) (i * ys.length * (V * U)) z) ∧ ∃ o1 o2, δ = [some (nums xs), some (nums ys), some (.adr l), o1, o2])
    ⟨_, rfl, List.length_replicate .., fun z hz => ?_, none, none, rfl⟩ ?_ ?_
  · rw [(List.mem_replicate.mp hz).2]
    exact ⟨by decide, Nat.one_dvd _, by simp⟩
  · rintro i δ m σ2 H2 hi ⟨zs, rfl, hzl, hzs, o1, o2, rfl⟩ a2
    rw [lx] at hi
    have hxi : xs[i]? = some xs[i] := List.getElem?_eq_getElem (by omega)
    have qx := hx _ (List.mem_of_getElem? hxi)
    refine x_forR (n := ((ys.map fd).length : Nat)) a2 (ad_cons (ed_lenT (ed_var rfl)) ad_nil) (by rw [ly]; omega)
      (fun j δ m => ∃ zs : List Q2, m = some (l, zs.map fd) ∧ zs.length = xs.length + ys.length - 1 ∧ (∀ z ∈ zs, Qk (kk + 1) ((i * ys.length + j) * (V * U)) z) ∧ ∃ o2, δ = [some (nums xs), some (nums ys), some (.adr l), some (.int i), o2])
      ⟨zs, rfl, hzl, hzs, o2, rfl⟩ ?_ ?_
    · rintro j δ m σ3 H3 hj ⟨zs, rfl, hzl, hzs, o2, rfl⟩ a3
      rw [ly] at hj
      have hyj : ys[j]? = some ys[j] := List.getElem?_eq_getElem (by omega)
      have qy := hy _ (List.mem_of_getElem? hyj)
      have hz1 : zs[i + j]? = some zs[i + j] := List.getElem?_eq_getElem (by omega)
      have qz := hzs _ (List.mem_of_getElem? hz1)
      have qm := qk_mul qx qy
      have qs := qk_add qz qm
      have hij : (i * ys.length + j) * (V * U) < 2 ^ 40 := by
        have h1 : i * ys.length + j ≤ 16 := by
          have : i * ys.length ≤ 7 * 2 := Nat.mul_le_mul (by omega) hy2
          omega
        exact Nat.lt_of_le_of_lt (Nat.mul_le_mul_right _ h1) hV
      have hVU : V * U < 2 ^ 40 := by omega
      have hVs : V < 2 ^ 40 := Nat.lt_of_le_of_lt (Nat.le_mul_of_pos_right V hU1) hVU
      have hUs : U < 2 ^ 40 := Nat.lt_of_le_of_lt (Nat.le_mul_of_pos_left U hV1) hVU
      have fx := qx.bt (by omega) hVs
      have fy := qy.bt (by omega) hUs
      have fz := qz.bt (by omega) hij
      have fm := qm.bt (by omega) hVU
      have b1 := ((qx.bt2 (by omega)).mul (qy.bt2 (by omega)))
      have b2 := ((qz.bt2 (by omega)).mul (qm.bt2 (by omega)))
      refine x_setM (n := i + j) a3 rfl (ed_call (ad_cons (ed_op (ed_var rfl) (ed_add (ed_var rfl) (ed_var rfl)) (rop_ixM rfl (by
          have : (i : Int) + (j : Int) = ((i + j : Nat) : Int) := by omega
          rw [this]
          exact atI_nat (by rw [List.getElem?_map, hz1]; rfl)))) (ad_cons (ed_call (ad_cons (ed_ixT (ed_var rfl) (ed_var rfl) (atI_nat (by rw [List.getElem?_map, hxi]; rfl))) (ad_cons (ed_ixT (ed_var rfl) (ed_var rfl) (atI_nat (by rw [List.getElem?_map, hyj]; rfl))) ad_nil))
          ⟨xs[i], ys[j], rfl, fx.pos, fy.pos, fx.b1.le (by decide), fy.b1.le (by decide), b1.le (by decide), rfl⟩) ad_nil))
          ⟨zs[i + j], mulQ xs[i] ys[j], rfl, fz.pos, fm.pos, fz.b1.le (by decide), fm.b1.le (by decide), b2.le (by decide), rfl⟩) (ed_var rfl) (Ed.to (ed_add (ed_var rfl) (ed_var rfl)) (by congr 1)) (by rw [List.length_map, hzl]; omega) fun d H4 e a4 => ?_
      subst e
      refine ⟨_, _, ⟨zs.set (i + j) (addQ zs[i + j] (mulQ xs[i] ys[j])), by rw [List.map_set], by rw [List.length_set]; exact hzl, fun z hz => ?_, _, rfl⟩, a4⟩
      have e1 : (i * ys.length + (j + 1)) * (V * U) = (i * ys.length + j) * (V * U) + V * U := by rw [← Nat.add_assoc, Nat.add_mul, Nat.one_mul]
      rw [e1]
      rcases List.mem_or_eq_of_mem_set hz with q | q
      · exact (hzs z q).up (by omega)
      · rw [q]
        exact qs
    · rintro δ m σ3 H3 ⟨zs, rfl, hzl, hzs, o2, rfl⟩ a3
      refine ⟨_, _, ⟨zs, rfl, hzl, fun z hz => ?_, _, _, rfl⟩, a3⟩
      have := hzs z hz
      have e : ((ys.map fd).length : Int).toNat = ys.length := by rw [ly]; rfl
      rw [e] at this
      have e2 : (i + 1) * ys.length * (V * U) = (i * ys.length + ys.length) * (V * U) := by rw [Nat.add_mul, Nat.one_mul]
      rw [e2]
      exact this
  · rintro δ m σ2 H2 ⟨zs, rfl, hzl, hzs, o1, o2, rfl⟩ a2
    have e : ((xs.map fd).length : Int).toNat = xs.length := by rw [lx]; rfl
    rw [e] at hzs
    exact x_ret a2 (ed_cb (ad_cons (ed_var rfl) ad_nil) (Rca.imp (rca_tupM rfl) fun d e => by rw [e]; exact hP zs (by omega) hzs)) k
end
end K10
set_option Elab.async false
set_option linter.all false
set_option maxRecDepth 100000
set_option maxHeartbeats 4000000
/-! Rigs as they are drawn. -/
namespace K10
open PySem PySem.Spec PyProof.Rows L2 StX RZ
abbrev R__law_numbers : Rel := fun c ds P => ∃ (a : Addr) (many : Nat), ds = [.adr a, .int many] ∧ c = some a ∧ 2 ≤ many ∧ many ≤ 6 ∧ ∀ xs : List Q2, xs.length = many → (∀ x ∈ xs, Qk 6 (2 ^ 30) x) → P (nums xs)
abbrev R__law_span : Rel := fun c ds P => ∃ (a : Addr) (far : Nat), ds = [.adr a, .int far] ∧ c = some a ∧ far ≤ 6 ∧ ∀ x y : Q2, Sm x → Sm y → x.1.natAbs ≤ far → y.1.natAbs ≤ far → P (pr (x, y))
abbrev s__law_numbers : Stmt := top 90
abbrev N__law_numbers : List PySem.Str := ["_law_cup_here", "_law_many", "_law_found", "_law_k"]
theorem sc__law_numbers : FnScope N__law_numbers ["_law_cup_here", "_law_many"] (defScope s__law_numbers) := ⟨rfl, rfl, rfl, by decide +kernel, rfl, by decide +kernel, by decide +kernel⟩
abbrev F__law_numbers (W : Wd) : Prop := Fo W 4 "_law_numbers" ["_law_cup_here", "_law_many"] R__law_numbers
abbrev s__law_span : Stmt := top 91
abbrev N__law_span : List PySem.Str := ["_law_cup_here", "_law_far", "_law_ends"]
theorem sc__law_span : FnScope N__law_span ["_law_cup_here", "_law_far"] (defScope s__law_span) := ⟨rfl, rfl, rfl, by decide +kernel, rfl, by decide +kernel, by decide +kernel⟩
abbrev F__law_span (W : Wd) : Prop := Fo W 4 "_law_span" ["_law_cup_here", "_law_far"] R__law_span
section
variable {W : Wd}
theorem sm_fq {x : Q2} (h : Sm x) : Fq 40 x := ⟨h.pos, Nat.lt_of_le_of_lt h.l1 (by decide), Nat.lt_of_le_of_lt h.l2 (by decide)⟩
theorem ok__law_numbers (T : Fr W.mg) (hD : DefP W "_law_numbers" 90) (f__law_sip : F__law_sip W) (f__law_plus_share : F__law_plus_share W) (f__law_by : F__law_by W) (f__law_share : F__law_share W) : F__law_numbers W := by
  refine fo_mk hD sc__law_numbers (fun _ _ _ _ _ _ us hl => match us, hl with | [_, _], _ => rfl) (fun c ds P h => by obtain ⟨_, _, e, _⟩ := h; rw [e]; rfl) fun f cdv A outer s H E hr => ?_
  have nd := sc__law_numbers.nd
  refine ⟨_, PSs.nox (pss_cons (ps_if (pt_cmpR op_eq (pe_cf f__law_sip (hr.mono (by decide)) (pa_cons (pv 0) (pa_cons pe_int pa_nil))) pe_int (nomark _)) (pss_one (ps_ret (pe_op op_catA (pe_callTy call_tuple_of rfl T.n_tuple (by decide +kernel) (pa_cons (pe_lc (own := [("_law_k", 3)]) (g := gName 3) (te := (tCall (spU W.K W.C R__law_share) [] E0 (tCons (tVar 0) (tCons (tC (.int 6)) tNil)))) (tt := tYes) rfl nd (pi_range1 rfl T.n_range (pa_cons (pe_op op_sub (pv 1) pe_int) pa_nil)) (blkOk_by (own := [("_law_k", 3)]) (N := N__law_numbers) (sc := defScope s__law_numbers) (by decide +kernel)) (fun _ _ _ _ _ => (pg_name (i := 3) nd rfl (by first | exact Or.inl rfl | exact Or.inr rfl))) (fun _ _ _ _ _ => pts_nil) (fun _ _ _ _ _ => (pe_cf f__law_share (hr.mono (by decide)) (pa_cons (pv 0) (pa_cons pe_int pa_nil))))) pa_nil)) (pe_tup (pa_cons (pe_cf f__law_plus_share (hr.mono (by decide)) (pa_cons (pv 0) (pa_cons pe_int pa_nil))) pa_nil))))) pss_nil)
      (pss_cons (ps_set (i := 2) nd rfl (by first | exact Or.inl rfl | exact Or.inr rfl) (pe_tup (pa_cons (pe_cf f__law_plus_share (hr.mono (by decide)) (pa_cons (pv 0) (pa_cons pe_int pa_nil))) pa_nil)))
      (pss_cons (ps_for PassesOwn.never rfl (pi_range1 rfl T.n_range (pa_cons (pe_op op_sub (pv 1) pe_int) pa_nil)) (pg_name (i := 3) nd rfl (by first | exact Or.inl rfl | exact Or.inr rfl)) (pss_one (ps_set (i := 2) nd rfl (by first | exact Or.inl rfl | exact Or.inr rfl) (pe_cf f__law_by (hr.mono (by decide)) (pa_cons (pv 2) (pa_cons (pe_tup (pa_cons (pe_cf f__law_plus_share (hr.mono (by decide)) (pa_cons (pv 0) (pa_cons pe_int pa_nil))) (pa_cons (pe_tup (pa_cons pe_int (pa_cons pe_int pa_nil))) pa_nil))) pa_nil))))))
      (pss_one (ps_ret (pv 2)))))), ?_⟩
  rintro c ds P E σ H Q ⟨a, many, rfl, rfl, h2, h6, hP⟩ a0 k
  have er : (many : Int) - 1 = ((many - 1 : Nat) : Int) := by omega
  refine q_if (T := fun _ => True) a0 (tn_test (P := fun d => ∃ b, d = .bl b) (en_op (A := fun d => ∃ i : Int, d = .int i) (en_callC (ad_cons (ed_var rfl) (ad_cons ed_int ad_nil)) ⟨a, 3, rfl, rfl, by decide, by decide, fun i _ _ => ⟨i, rfl⟩⟩) (fun _ _ => ed_int) fun x y ⟨i, hx⟩ hy => by
    subst hx hy
    exact Rop.imp rop_eqI fun d e => ⟨_, e⟩) fun d ⟨b, e⟩ => ⟨b, e, trivial⟩) (fun _ H1 a1 => ?_) fun _ H1 a1 => ?_
  · refine x_ret a1 (en_op (A := fun d => ∃ xs : List Q2, d = nums xs ∧ xs.length = many - 1 ∧ ∀ x ∈ xs, Sm x) (B := fun _ d => ∃ x : Q2, d = .tup [fd x] ∧ Sm x)
      (en_cb (R := fun ds => ∃ xs : List Q2, ds = [.lst (xs.map fd)] ∧ xs.length = many - 1 ∧ ∀ x ∈ xs, Sm x)
        (an_cons (R := (· = [])) (P := fun d => ∃ xs : List Q2, d = .lst (xs.map fd) ∧ xs.length = many - 1 ∧ ∀ x ∈ xs, Sm x)
          ((en_lcR (n := ((many - 1 : Nat) : Int)) (Pi := fun _ d => ∃ x, d = fd x ∧ Sm x) (ad_cons (Ed.to (ed_sub (ed_var rfl) ed_int) (by rw [er])) ad_nil) (by omega) (by decide) fun i hi => en_callC (ad_cons (ed_var rfl) (ad_cons ed_int ad_nil)) ⟨a, 6, rfl, rfl, by decide, fun x s _ => ⟨x, rfl, s⟩⟩).imp fun d ⟨ds, e, hl, hp⟩ => ?_)
          (fun _ _ => ad_nil) fun d ds ⟨xs, e, h⟩ e2 => ⟨xs, by rw [e, e2], h⟩) fun ds ⟨xs, e, h⟩ => by
          subst e
          exact Rca.imp rca_tupL fun d e => ⟨xs, e, h⟩)
      (fun _ _ => en_tup (R := fun ds => ∃ x : Q2, ds = [fd x] ∧ Sm x) (an_cons (R := (· = [])) (P := fun d => ∃ x : Q2, d = fd x ∧ Sm x) (en_callC (ad_cons (ed_var rfl) (ad_cons ed_int ad_nil)) ⟨a, 4, rfl, rfl, by decide, by decide, fun x s _ => ⟨x, rfl, s⟩⟩) (fun _ _ => ad_nil) fun d ds ⟨x, e, h⟩ e2 => ⟨x, by rw [e, e2], h⟩)
        (fun ds ⟨x, e, _⟩ => by rw [e]; simp) fun ds ⟨x, e, h⟩ => ⟨x, by rw [e], h⟩) fun x y ⟨xs, hx, hl, hs⟩ ⟨z, hy, hz⟩ => ?_) k
    · obtain ⟨xs, e1, e2, e3⟩ := nums_of (ds := ds) fun d hd => by
        obtain ⟨i, hi⟩ := List.mem_iff_getElem?.mp hd
        exact hp i d hi
      exact ⟨xs, by rw [e, e1], by rw [e2, hl]; rfl, e3⟩
    · subst hx hy
      refine (rop_catT (ys := [fd z]) (by rw [List.length_map]; simp; omega)).imp fun d e => ?_
      rw [e]
      have e2 : (xs.map fd) ++ [fd z] = (xs ++ [z]).map fd := by rw [List.map_append]; rfl
      rw [e2]
      refine hP (xs ++ [z]) (by rw [List.length_append, hl]; simp; omega) fun y hy => ?_
      have key : ∀ y : Q2, Sm y → Qk 6 (2 ^ 30) y := fun y s => ((s.qk s.l1).upk (by decide)).up (by decide)
      rcases List.mem_append.mp hy with q | q
      · exact key y (hs y q)
      · rw [List.mem_singleton.mp q]
        exact key z hz
  · refine q_asg a1 (P := fun d => ∃ x : Q2, d = nums [x] ∧ Qk 1 3 x) (en_tup (R := fun ds => ∃ x : Q2, ds = [fd x] ∧ Qk 1 3 x) (an_cons (R := (· = [])) (P := fun d => ∃ x : Q2, d = fd x ∧ Qk 1 3 x) (en_callC (ad_cons (ed_var rfl) (ad_cons ed_int ad_nil)) ⟨a, 3, rfl, rfl, by decide, by decide, fun x s h => ⟨x, rfl, s.qk h⟩⟩) (fun _ _ => ad_nil) fun d ds ⟨x, e, h⟩ e2 => ⟨x, by rw [e, e2], h⟩)
        (fun ds ⟨x, e, _⟩ => by rw [e]; simp) fun ds ⟨x, e, h⟩ => ⟨x, by rw [e]; rfl, h⟩) fun d σ2 H2 ⟨x0, e, hx0⟩ a2 => ?_
    subst e
    refine q_forR (n := ((many - 1 : Nat) : Int)) a2 (ad_cons (Ed.to (ed_sub (ed_var rfl) ed_int) (by rw [er])) ad_nil) (by omega) (fun r δ m => m = none ∧ ∃ (xs : List Q2) (o : Option D), δ = [some (.adr a), some (.int many), some (nums xs), o] ∧ xs.length = r + 1 ∧ ∀ x ∈ xs, Qk (r + 1) (3 * 48 ^ r) x)
      ⟨rfl, [x0], none, rfl, rfl, fun x hx => by rw [List.mem_singleton.mp hx]; exact hx0⟩ ?_ ?_
    · rintro r δ m σ3 H3 hr ⟨rfl, xs, o, rfl, hl, hxs⟩ a3
      have hr5 : r ≤ 4 := by omega
      have hp5 : (48 : Nat) ^ r ≤ 48 ^ 4 := Nat.pow_le_pow_right (by decide) hr5
      have hp1 : 1 ≤ (48 : Nat) ^ r := Nat.one_le_pow _ _ (by decide)
      have e4 : (48 : Nat) ^ 4 = 5308416 := by decide
      refine x_asg a3 (P := fun d => ∃ zs : List Q2, d = nums zs ∧ zs.length = r + 2 ∧ ∀ z ∈ zs, Qk (r + 2) (3 * 48 ^ (r + 1)) z) (en_call (A := fun ds => ∃ y : Q2, ds = [nums xs, nums [y, (1, 1)]] ∧ Qk 1 4 y)
        (an_cons (P := (· = nums xs)) (R := fun ds => ∃ y : Q2, ds = [nums [y, (1, 1)]] ∧ Qk 1 4 y) (ed_var rfl)
          (fun _ _ => an_cons (P := fun d => ∃ y : Q2, d = nums [y, (1, 1)] ∧ Qk 1 4 y) (R := (· = []))
            (en_tup (R := fun ds => ∃ y : Q2, ds = [fd y, fd (1, 1)] ∧ Qk 1 4 y) (an_cons (P := fun d => ∃ y : Q2, d = fd y ∧ Qk 1 4 y) (R := (· = [fd (1, 1)])) (en_callC (ad_cons (ed_var rfl) (ad_cons ed_int ad_nil)) ⟨a, 4, rfl, rfl, by decide, by decide, fun x s h => ⟨x, rfl, s.qk h⟩⟩)
              (fun _ _ => ad_cons (ed_tup (ad_cons ed_int (ad_cons ed_int ad_nil))) ad_nil) fun d ds ⟨y, e, h⟩ e2 => ⟨y, by rw [e, e2], h⟩) (fun ds ⟨y, e, _⟩ => by rw [e]; simp) fun ds ⟨y, e, h⟩ => ⟨y, by rw [e]; rfl, h⟩)
            (fun _ _ => ad_nil) fun d ds ⟨y, e, h⟩ e2 => ⟨y, by rw [e, e2], h⟩)
          fun d ds e ⟨y, e2, h⟩ => ⟨y, by rw [e, e2], h⟩) fun ds ⟨y, e, h⟩ => Or.inr ?_) fun d σ4 H4 ⟨zs, e, hzl, hzs⟩ a4 => ?_
      · subst e
        refine ⟨xs, [y, (1, 1)], r + 1, 3 * 48 ^ r, 4, rfl, by omega, by omega, by simp, by simp, hxs, fun z hz => ?_, by omega, by omega, by omega, by decide, fun zs hzl hzs => ⟨zs, rfl, by simp at hzl; omega, fun z hz => ?_⟩⟩
        · rcases List.mem_cons.mp hz with q | q
          · rw [q]; exact h
          · rw [List.mem_singleton.mp q]
            exact ⟨by decide, Nat.one_dvd _, by decide⟩
        · refine (hzs z hz).up ?_
          have hl2 : xs.length ≤ 5 := by omega
          have h1 : xs.length * ([y, ((1, 1) : Q2)] : List Q2).length * (3 * 48 ^ r * 4) ≤ 5 * 2 * (3 * 48 ^ r * 4) := Nat.mul_le_mul_right _ (Nat.mul_le_mul_right 2 hl2)
          have h2 : 3 * 48 ^ (r + 1) = 3 * 48 ^ r * 48 := by rw [Nat.pow_succ, Nat.mul_assoc]
          omega
      · subst e
        exact ⟨_, none, ⟨rfl, zs, _, rfl, hzl, hzs⟩, a4⟩
    · rintro δ m σ3 H3 ⟨rfl, xs, o, rfl, hl, hxs⟩ a3
      have e1 : Int.toNat ((many - 1 : Nat) : Int) = many - 1 := rfl
      rw [e1] at hl hxs
      refine x_ret a3 (En.of (ed_var rfl) (hP xs (by omega) fun x hx => ((hxs x hx).upk (by omega)).up ?_)) k
      have hp5 : (48 : Nat) ^ (many - 1) ≤ 48 ^ 5 := Nat.pow_le_pow_right (by decide) (by omega)
      have e4 : (48 : Nat) ^ 5 = 254803968 := by decide
      have e5 : (2 : Nat) ^ 30 = 1073741824 := by decide
      omega
theorem ok__law_span (T : Fr W.mg) (hD : DefP W "_law_span" 91) (f__law_share : F__law_share W) (f__law_less : F__law_less W) : F__law_span W := by
  refine fo_mk hD sc__law_span (fun _ _ _ _ _ _ us hl => match us, hl with | [_, _], _ => rfl) (fun c ds P h => by obtain ⟨_, _, e, _⟩ := h; rw [e]; rfl) fun f cdv A outer s H E hr => ?_
  have nd := sc__law_span.nd
  refine ⟨_, PSs.nox (pss_cons (ps_set (i := 2) nd rfl (by first | exact Or.inl rfl | exact Or.inr rfl) (pe_lst (pa_cons (pe_cf f__law_share (hr.mono (by decide)) (pa_cons (pv 0) (pa_cons (pv 1) pa_nil))) (pa_cons (pe_cf f__law_share (hr.mono (by decide)) (pa_cons (pv 0) (pa_cons (pv 1) pa_nil))) pa_nil))))
      (pss_one (ps_ret (pe_ifExp (pt_val (pe_cf f__law_less (hr.mono (by decide)) (pa_cons (pe_ix ix_list (pv 2) pe_int (fun _ _ => rfl)) (pa_cons (pe_ix ix_list (pv 2) pe_int (fun _ _ => rfl)) pa_nil)))) (pe_tup (pa_cons (pe_ix ix_list (pv 2) pe_int (fun _ _ => rfl)) (pa_cons (pe_ix ix_list (pv 2) pe_int (fun _ _ => rfl)) pa_nil))) (pe_tup (pa_cons (pe_ix ix_list (pv 2) pe_int (fun _ _ => rfl)) (pa_cons (pe_ix ix_list (pv 2) pe_int (fun _ _ => rfl)) pa_nil))))))), ?_⟩
  rintro c ds P E σ H Q ⟨a, far, rfl, rfl, h6, hP⟩ a0 k
  have sh : ∀ {δ : Sl} {ta : TA}, Ad ⟨W.K, W.C, some a, none⟩ ta δ [.adr a, .int far] → En ⟨W.K, W.C, some a, none⟩ (tCall (spU W.K W.C R__law_share) [] E0 ta) δ (fun d => ∃ x : Q2, d = fd x ∧ Sm x ∧ x.1.natAbs ≤ far) := fun h => en_callC h ⟨a, far, rfl, rfl, h6, fun x s h => ⟨x, rfl, s, h⟩⟩
  refine q_asg a0 (P := fun d => ∃ x y : Q2, d = .lst [fd x, fd y] ∧ Sm x ∧ Sm y ∧ x.1.natAbs ≤ far ∧ y.1.natAbs ≤ far) (en_lst (R := fun ds => ∃ x y : Q2, ds = [fd x, fd y] ∧ Sm x ∧ Sm y ∧ x.1.natAbs ≤ far ∧ y.1.natAbs ≤ far)
    (an_cons (R := fun ds => ∃ y : Q2, ds = [fd y] ∧ Sm y ∧ y.1.natAbs ≤ far) (sh (ad_cons (ed_var rfl) (ad_cons (ed_var rfl) ad_nil))) (fun _ _ => an_cons (R := (· = [])) (sh (ad_cons (ed_var rfl) (ad_cons (ed_var rfl) ad_nil))) (fun _ _ => ad_nil) fun d ds ⟨y, e, h⟩ e2 => ⟨y, by rw [e, e2], h⟩)
      fun d ds ⟨x, e, h1, h2⟩ ⟨y, e2, h3, h4⟩ => ⟨x, y, by rw [e, e2], h1, h3, h2, h4⟩) (fun ds ⟨x, y, e, _⟩ => by rw [e]; simp) fun ds ⟨x, y, e, h⟩ => ⟨x, y, by rw [e], h⟩) fun d σ1 H1 ⟨x, y, e, sx, sy, fx, fy⟩ a1 => ?_
  subst e
  refine x_ret a1 (en_if (T := fun _ => True) (tn_test (P := fun d => ∃ b, d = .bl b) (En.of (ed_call (ad_cons (ed_ixL (ed_var rfl) ed_int rfl) (ad_cons (ed_ixL (ed_var rfl) ed_int rfl) ad_nil)) ⟨y, x, rfl, (sm_fq sy).le (by decide), (sm_fq sx).le (by decide), rfl⟩) ⟨_, rfl⟩) fun d ⟨b, e⟩ => ⟨b, e, trivial⟩)
    (fun _ => En.of (ed_tup (ad_cons (ed_ixL (ed_var rfl) ed_int rfl) (ad_cons (ed_ixL (ed_var rfl) ed_int rfl) ad_nil))) (hP y x sy sx fy fx)) fun _ => En.of (ed_tup (ad_cons (ed_ixL (ed_var rfl) ed_int rfl) (ad_cons (ed_ixL (ed_var rfl) ed_int rfl) ad_nil))) (hP x y sx sy fx fy)) k
end
end K10
set_option Elab.async false
set_option linter.all false
set_option maxRecDepth 100000
set_option maxHeartbeats 4000000
/-! The rig, the steep one. -/
namespace K10
open PySem PySem.Spec PyProof.Rows L2 StX RZ
def rigD (xs : List Q2) (pps : List (List Q2)) (bx : List (Q2 × Q2)) : D := .tup [nums xs, .tup (pps.map nums), .tup (bx.map pr)]
structure RigOk (xs : List Q2) (pps : List (List Q2)) (bx : List (Q2 × Q2)) : Prop where
  l2 : 2 ≤ xs.length
  l6 : xs.length ≤ 6
  qs : ∀ x ∈ xs, Qk 6 (2 ^ 31) x
  pb : pps.length = bx.length
  p3 : pps.length ≤ 3
  ps : ∀ p ∈ pps, p.length = xs.length ∧ ∀ x ∈ p, Sm x
  bs : ∀ s ∈ bx, Sm s.1 ∧ Sm s.2
abbrev R__law_rig : Rel := fun c ds P => ∃ a : Addr, ds = [.adr a, .int 6, .int 3] ∧ c = some a ∧ ∀ xs pps bx, RigOk xs pps bx → P (rigD xs pps bx)
abbrev R__law_steep : Rel := fun c ds P => ∃ (a : Addr) (xs : List Q2) (pps : List (List Q2)) (bx : List (Q2 × Q2)), ds = [.adr a, rigD xs pps bx] ∧ c = some a ∧ RigOk xs pps bx ∧ ∀ pps' bx', RigOk xs pps' bx' → P (rigD xs pps' bx')
abbrev s__law_rig : Stmt := top 92
abbrev N__law_rig : List PySem.Str := ["_law_cup_here", "_law_most_many", "_law_most_parts", "_law_many", "_law_start", "_law_pieces", "_law_frame", "_law_k", "_law_last", "_law_part", "_law_j", "_law_far"]
theorem sc__law_rig : FnScope N__law_rig ["_law_cup_here", "_law_most_many", "_law_most_parts"] (defScope s__law_rig) := ⟨rfl, rfl, rfl, by decide +kernel, rfl, by decide +kernel, by decide +kernel⟩
abbrev F__law_rig (W : Wd) : Prop := Fo W 5 "_law_rig" ["_law_cup_here", "_law_most_many", "_law_most_parts"] R__law_rig
abbrev s__law_steep : Stmt := top 100
abbrev N__law_steep : List PySem.Str := ["_law_cup_here", "_law_rig_here", "_law_last"]
theorem sc__law_steep : FnScope N__law_steep ["_law_cup_here", "_law_rig_here"] (defScope s__law_steep) := ⟨rfl, rfl, rfl, by decide +kernel, rfl, by decide +kernel, by decide +kernel⟩
abbrev F__law_steep (W : Wd) : Prop := Fo W 2 "_law_steep" ["_law_cup_here", "_law_rig_here"] R__law_steep
section
variable {p : Pm} {E : Ent} {δ : Sl} {σ : L2.St} {H : Hp} {D' : Ends} {u : TS} {ra : TA} {i j l : Nat}
theorem q_par3 {R : List D → Prop} (a : At p E δ σ H) (h : An p ra δ R) (hz : ∀ ds, R ds → ds.length = 3) (k : ∀ d1 d2 d3 σ' H', R [d1, d2, d3] → At p E (((δ.set i (some d1)).set j (some d2)).set l (some d3)) σ' H' → u D' σ' H') : tSeq (tPar3 i j l ra) u D' σ H :=
  a.runA h fun vs ds G' H' st sb sd rc rm da pd => by
    have hl := hz ds pd
    match ds, da, pd with
    | [d1, d2, d3], .cons x1 (.cons x2 (.cons x3 .nil)), pd => exact ⟨_, _, _, rfl, k d1 d2 d3 _ H' pd ⟨⟨G', st, sb, ((sd.set i x1).set j x2).set l x3, rc, rm⟩, a.rc0, a.m0⟩⟩
end
theorem init_nums {xs : List Q2} : cutD (xs.map fd) none (some (-1)) = xs.dropLast.map fd := by
  rw [cut_init, List.map_dropLast]
section
variable {W : Wd}
theorem ok__law_rig (T : Fr W.mg) (hD : DefP W "_law_rig" 92) (f__law_sip : F__law_sip W) (f__law_numbers : F__law_numbers W) (f__law_of : F__law_of W) (f__law_sum : F__law_sum W) (f__law_span : F__law_span W) (f__law_share : F__law_share W) : F__law_rig W := by
  refine fo_mk hD sc__law_rig (fun _ _ _ _ _ _ us hl => match us, hl with | [_, _, _], _ => rfl) (fun c ds P h => by obtain ⟨_, e, _⟩ := h; rw [e]; rfl) fun f cdv A outer s H E hr => ?_
  have nd := sc__law_rig.nd
  refine ⟨_, PSs.nox (pss_cons (ps_set (i := 3) nd rfl (by first | exact Or.inl rfl | exact Or.inr rfl) (pe_op op_add pe_int (pe_cf f__law_sip (hr.mono (by decide)) (pa_cons (pv 0) (pa_cons (pe_op op_sub (pv 1) pe_int) pa_nil)))))
      (pss_cons (ps_par3 (i := 4) (j := 5) (l := 6) rfl nd rfl rfl rfl (by decide) (by decide) (by decide) rfl rfl rfl (pa_cons (pe_cf f__law_numbers (hr.mono (by decide)) (pa_cons (pv 0) (pa_cons (pv 3) pa_nil))) (pa_cons (pe_tup pa_nil) (pa_cons (pe_tup pa_nil) pa_nil))) (by rfl))
      (pss_cons (ps_for PassesOwn.never rfl (pi_range1 rfl T.n_range (pa_cons (pe_cf f__law_sip (hr.mono (by decide)) (pa_cons (pv 0) (pa_cons (pe_op op_add (pv 2) pe_int) pa_nil))) pa_nil)) (pg_name (i := 7) nd rfl (by first | exact Or.inl rfl | exact Or.inr rfl)) (pss_cons (ps_set (i := 8) nd rfl (by first | exact Or.inl rfl | exact Or.inr rfl) (pe_cf f__law_of (hr.mono (by decide)) (pa_cons (pv 0) (pa_cons (pe_lst (pa_cons (pe_tup (pa_cons pe_int (pa_cons pe_int pa_nil))) (pa_cons (pe_tup (pa_cons pe_int (pa_cons pe_int pa_nil))) (pa_cons (pe_tup (pa_cons pe_int (pa_cons pe_int pa_nil))) (pa_cons (pe_tup (pa_cons (pe_un un_neg pe_int) (pa_cons pe_int pa_nil))) pa_nil))))) pa_nil))))
      (pss_cons (ps_set (i := 9) nd rfl (by first | exact Or.inl rfl | exact Or.inr rfl) (pe_tup (pa_cons (pv 8) pa_nil)))
      (pss_cons (ps_for PassesOwn.never rfl (pi_range1 rfl T.n_range (pa_cons (pe_op op_sub (pv 3) pe_int) pa_nil)) (pg_name (i := 10) nd rfl (by first | exact Or.inl rfl | exact Or.inr rfl)) (pss_one (ps_set (i := 9) nd rfl (by first | exact Or.inl rfl | exact Or.inr rfl) (pe_op op_catA (pe_tup (pa_cons (pe_cf f__law_of (hr.mono (by decide)) (pa_cons (pv 0) (pa_cons (pe_lst (pa_cons (pe_tup (pa_cons pe_int (pa_cons pe_int pa_nil))) (pa_cons (pe_cf f__law_share (hr.mono (by decide)) (pa_cons (pv 0) (pa_cons pe_int pa_nil))) pa_nil))) pa_nil))) pa_nil)) (pv 9)))))
      (pss_cons (ps_par (i := 5) (j := 6) rfl nd rfl rfl (by decide) rfl rfl (pa_cons (pe_op op_catA (pv 5) (pe_tup (pa_cons (pv 9) pa_nil))) (pa_cons (pe_op op_catA (pv 6) (pe_tup (pa_cons (pe_cf f__law_span (hr.mono (by decide)) (pa_cons (pv 0) (pa_cons pe_int pa_nil))) pa_nil))) pa_nil)) (by rfl))
      (pss_cons (ps_set (i := 11) nd rfl (by first | exact Or.inl rfl | exact Or.inr rfl) (pe_callB (call_max2 rfl) rfl T.n_max (by decide +kernel) (pa_cons (pe_callB call_abs rfl T.n_abs (by decide +kernel) (pa_cons (pe_ix ix_tup (pe_ix ix_tup (pe_ix ix_tup (pv 6) (pe_un un_neg pe_int) (fun _ _ => rfl)) pe_int (fun _ _ => rfl)) pe_int (fun _ _ => rfl)) pa_nil)) (pa_cons (pe_callB call_abs rfl T.n_abs (by decide +kernel) (pa_cons (pe_ix ix_tup (pe_ix ix_tup (pe_ix ix_tup (pv 6) (pe_un un_neg pe_int) (fun _ _ => rfl)) pe_int (fun _ _ => rfl)) pe_int (fun _ _ => rfl)) pa_nil)) pa_nil))))
      (pss_one (ps_set (i := 4) nd rfl (by first | exact Or.inl rfl | exact Or.inr rfl) (pe_op op_catA (pe_slice sl_tupA (pv 4) po_none (po_some (pe_un un_neg pe_int))) (pe_tup (pa_cons (pe_cf f__law_sum (hr.mono (by decide)) (pa_cons (pe_ix ix_tup (pv 4) (pe_un un_neg pe_int) (fun _ _ => rfl)) (pa_cons (pe_tup (pa_cons (pe_op op_mulW (pe_callB call_abs rfl T.n_abs (by decide +kernel) (pa_cons (pe_ix ix_tup (pv 8) pe_int (fun _ _ => rfl)) pa_nil)) (pv 11)) (pa_cons pe_int pa_nil))) pa_nil))) pa_nil)))))))))))
      (pss_one (ps_ret (pe_tup (pa_cons (pv 4) (pa_cons (pv 5) (pa_cons (pv 6) pa_nil))))))))), ?_⟩
  rintro c ds P E σ H Q ⟨a, rfl, rfl, hP⟩ a0 k
  refine q_asg a0 (P := fun d => ∃ many : Nat, d = .int many ∧ 2 ≤ many ∧ many ≤ 6) ((ei_op (A := (· = 2)) (B := fun i => 0 ≤ i ∧ i < 5) (P := fun i => 2 ≤ i ∧ i < 7) (ei_of ed_int rfl) (en_callC (ad_cons (ed_var rfl) (ad_cons (ed_sub (ed_var rfl) ed_int) ad_nil)) ⟨a, 5, rfl, rfl, by decide, by decide, fun i i0 i1 => ⟨i, rfl, i0, i1⟩⟩)
    (fun _ _ _ _ => rop_I0) fun i j hi ⟨j0, j1⟩ => by subst hi; omega).imp fun d ⟨i, e, i0, i1⟩ => ⟨i.toNat, by rw [e]; congr 1; omega, by omega, by omega⟩) fun d σ1 H1 ⟨many, e, hm2, hm6⟩ a1 => ?_
  subst e
  have er : (many : Int) - 1 = ((many - 1 : Nat) : Int) := by omega
  refine q_par3 (R := fun ds => ∃ xs : List Q2, ds = [nums xs, .tup [], .tup []] ∧ xs.length = many ∧ ∀ x ∈ xs, Qk 6 (2 ^ 30) x) a1 (an_cons (P := fun d => ∃ xs : List Q2, d = nums xs ∧ xs.length = many ∧ ∀ x ∈ xs, Qk 6 (2 ^ 30) x) (R := (· = [.tup [], .tup []])) (en_callC (ad_cons (ed_var rfl) (ad_cons (ed_var rfl) ad_nil)) ⟨a, many, rfl, rfl, hm2, hm6, fun xs h1 h2 => ⟨xs, rfl, h1, h2⟩⟩)
    (fun _ _ => ad_cons (ed_tup ad_nil) (ad_cons (ed_tup ad_nil) ad_nil)) fun d ds ⟨xs, e, h⟩ e2 => ⟨xs, by rw [e, e2], h⟩) (fun ds ⟨xs, e, _⟩ => by rw [e]; rfl) fun d1 d2 d3 σ2 H2 ⟨xs0, e, hl0, hq0⟩ a2 => ?_
  simp only [List.cons.injEq, and_true] at e
  obtain ⟨rfl, rfl, rfl⟩ := e
  refine q_forRn (Pn := fun n => 0 ≤ n ∧ n < 4) a2 (an_cons (P := fun d => ∃ i : Int, d = .int i ∧ 0 ≤ i ∧ i < 4) (R := (· = [])) (en_callC (ad_cons (ed_var rfl) (ad_cons (ed_add (ed_var rfl) ed_int) ad_nil)) ⟨a, 4, rfl, rfl, by decide, by decide, fun i i0 i1 => ⟨i, rfl, i0, i1⟩⟩) (fun _ _ => ad_nil) fun d ds ⟨i, e, h⟩ e2 => ⟨i, by rw [e, e2], h⟩)
    (fun n h => by omega) (fun n δ m => m = none ∧ ∃ (xs : List Q2) (pps : List (List Q2)) (bx : List (Q2 × Q2)) (o1 o2 o3 o4 o5 : Option D), δ = [some (.adr a), some (.int 6), some (.int 3), some (.int many), some (nums xs), some (.tup (pps.map nums)), some (.tup (bx.map pr)), o1, o2, o3, o4, o5] ∧
      xs.length = many ∧ (∀ x ∈ xs, Qk 6 (2 ^ 30 + 100 * n) x) ∧ pps.length = n ∧ bx.length = n ∧ (∀ p ∈ pps, p.length = many ∧ ∀ x ∈ p, Sm x) ∧ ∀ s ∈ bx, Sm s.1 ∧ Sm s.2)
    ⟨rfl, xs0, [], [], none, none, none, none, none, rfl, hl0, hq0, rfl, rfl, fun _ h => (nomatch h), fun _ h => (nomatch h)⟩ ?_ ?_
  · rintro nn n δ m σ3 H3 hnn hn ⟨rfl, xs, pps, bx, o1, o2, o3, o4, o5, rfl, hxl, hxq, hpl, hbl, hps, hbs⟩ a3
    -- the last one
    refine q_asg a3 (P := fun d => ∃ x : Q2, d = fd x ∧ Sm x ∧ x.1.natAbs ≤ 1) (en_callC (ad_cons (ed_var rfl) (ad_cons (ed_lst (ad_cons (ed_tup (ad_cons ed_int (ad_cons ed_int ad_nil))) (ad_cons (ed_tup (ad_cons ed_int (ad_cons ed_int ad_nil))) (ad_cons (ed_tup (ad_cons ed_int (ad_cons ed_int ad_nil))) (ad_cons (ed_tup (ad_cons (ed_neg ed_int) (ad_cons ed_int ad_nil))) ad_nil))))) ad_nil))
      ⟨a, [((0, 1) : Q2), (0, 1), (1, 1), (-1, 2)].map fd, rfl, rfl, by simp, by simp, fun x hx => ?_⟩) fun d σ4 H4 ⟨lx, e, slx, ll1⟩ a4 => ?_
    · obtain ⟨q, hq, e⟩ := List.mem_map.mp hx
      have key : ∀ q ∈ [((0, 1) : Q2), (0, 1), (1, 1), (-1, 2)], 0 < q.2 ∧ q.2.natAbs ∣ 12 ∧ q.1.natAbs ≤ 1 ∧ q.2.natAbs ≤ 4 := by decide
      obtain ⟨k1, k2, k3, k4⟩ := key q hq
      exact ⟨q, e.symm, ⟨k1, k2, by omega, k4⟩, k3⟩
    subst e
    refine q_set a4 (d := nums [lx]) (ed_tup (ad_cons (ed_var rfl) ad_nil)) fun σ5 H5 a5 => ?_
    refine q_forR (n := ((many - 1 : Nat) : Int)) a5 (ad_cons (Ed.to (ed_sub (ed_var rfl) ed_int) (by rw [er])) ad_nil) (by omega) (fun jn δ m => m = none ∧ ∃ (ps : List Q2) (o4 : Option D), δ = [some (.adr a), some (.int 6), some (.int 3), some (.int many), some (nums xs), some (.tup (pps.map nums)), some (.tup (bx.map pr)), some (.int n), some (fd lx), some (nums ps), o4, o5] ∧ ps.length = jn + 1 ∧ ∀ x ∈ ps, Sm x)
      ⟨rfl, [lx], o4, rfl, rfl, fun x hx => by rw [List.mem_singleton.mp hx]; exact slx⟩ ?_ ?_
    · rintro jn δ m σ6 H6 hj ⟨rfl, ps, o4, rfl, hpl2, hps2⟩ a6
      refine x_asg a6 (P := fun d => ∃ y : Q2, d = nums (y :: ps) ∧ Sm y) (en_op (A := fun d => ∃ y : Q2, d = .tup [fd y] ∧ Sm y) (B := fun _ => (· = nums ps)) (en_tup (R := fun ds => ∃ y : Q2, ds = [fd y] ∧ Sm y) (an_cons (R := (· = [])) (P := fun d => ∃ y : Q2, d = fd y ∧ Sm y)
        (en_call (A := fun ds => ∃ x : Q2, ds = [.adr a, .lst [fd (0, 1), fd x]] ∧ Sm x) (an_cons (P := (· = .adr a)) (R := fun ds => ∃ x : Q2, ds = [.lst [fd (0, 1), fd x]] ∧ Sm x) (ed_var rfl) (fun _ _ => an_cons (R := (· = [])) (P := fun d => ∃ x : Q2, d = .lst [fd (0, 1), fd x] ∧ Sm x)
          (en_lst (R := fun ds => ∃ x : Q2, ds = [fd (0, 1), fd x] ∧ Sm x) (an_cons (P := (· = fd (0, 1))) (R := fun ds => ∃ x : Q2, ds = [fd x] ∧ Sm x) (ed_tup (ad_cons ed_int (ad_cons ed_int ad_nil))) (fun _ _ => an_cons (R := (· = [])) (P := fun d => ∃ x : Q2, d = fd x ∧ Sm x) (en_callC (ad_cons (ed_var rfl) (ad_cons ed_int ad_nil)) ⟨a, 2, rfl, rfl, by decide, fun x s _ => ⟨x, rfl, s⟩⟩)
            (fun _ _ => ad_nil) fun d ds ⟨x, e, h⟩ e2 => ⟨x, by rw [e, e2], h⟩) fun d ds e ⟨x, e2, h⟩ => ⟨x, by rw [e, e2], h⟩) (fun ds ⟨x, e, _⟩ => by rw [e]; simp) fun ds ⟨x, e, h⟩ => ⟨x, by rw [e], h⟩)
          (fun _ _ => ad_nil) fun d ds ⟨x, e, h⟩ e2 => ⟨x, by rw [e, e2], h⟩) fun d ds e ⟨x, e2, h⟩ => ⟨x, by rw [e, e2], h⟩) fun ds ⟨x, e, hx⟩ => Or.inl ⟨a, _, e, rfl, by simp, by simp, fun z hz => ?_⟩)
        (fun _ _ => ad_nil) fun d ds ⟨x, e, h⟩ e2 => ⟨x, by rw [e, e2], h⟩) (fun ds ⟨x, e, _⟩ => by rw [e]; simp) fun ds ⟨x, e, h⟩ => ⟨x, by rw [e], h⟩) (fun _ _ => ed_var rfl) fun x y ⟨z, e, hz⟩ e2 => ?_) fun d σ7 H7 ⟨y, e, hy⟩ a7 => ?_
      · rcases List.mem_cons.mp hz with q | q
        · exact ⟨(0, 1), q, ⟨by decide, Nat.one_dvd _, by decide, by decide⟩⟩
        · exact ⟨x, List.mem_singleton.mp q, hx⟩
      · subst e e2
        exact (rop_catT (xs := [fd z]) (by rw [List.length_map]; simp; omega)).imp fun d e => ⟨z, e, hz⟩
      · subst e
        exact ⟨_, none, ⟨rfl, y :: ps, _, rfl, by rw [List.length_cons, hpl2], fun x hx => by
          rcases List.mem_cons.mp hx with q | q
          · rw [q]; exact hy
          · exact hps2 x q⟩, a7⟩
    · rintro δ m σ6 H6 ⟨rfl, ps, o4, rfl, hpl2, hps2⟩ a6
      have e1 : Int.toNat ((many - 1 : Nat) : Int) = many - 1 := rfl
      rw [e1] at hpl2
      refine q_par (R := fun ds => ∃ s : Q2 × Q2, ds = [.tup (pps.map nums ++ [nums ps]), .tup (bx.map pr ++ [pr s])] ∧ Sm s.1 ∧ Sm s.2 ∧ s.1.1.natAbs ≤ 2 ∧ s.2.1.natAbs ≤ 2) a6
        (an_cons (P := (· = .tup (pps.map nums ++ [nums ps]))) (R := fun ds => ∃ s : Q2 × Q2, ds = [.tup (bx.map pr ++ [pr s])] ∧ Sm s.1 ∧ Sm s.2 ∧ s.1.1.natAbs ≤ 2 ∧ s.2.1.natAbs ≤ 2) (ed_op (ed_var rfl) (ed_tup (ad_cons (ed_var rfl) ad_nil)) (rop_catT (by rw [List.length_map]; simp; omega)))
          (fun _ _ => an_cons (R := (· = [])) (P := fun d => ∃ s : Q2 × Q2, d = .tup (bx.map pr ++ [pr s]) ∧ Sm s.1 ∧ Sm s.2 ∧ s.1.1.natAbs ≤ 2 ∧ s.2.1.natAbs ≤ 2) (en_op (A := (· = .tup (bx.map pr))) (B := fun _ d => ∃ s : Q2 × Q2, d = .tup [pr s] ∧ Sm s.1 ∧ Sm s.2 ∧ s.1.1.natAbs ≤ 2 ∧ s.2.1.natAbs ≤ 2) (ed_var rfl)
            (fun _ _ => en_tup (R := fun ds => ∃ s : Q2 × Q2, ds = [pr s] ∧ Sm s.1 ∧ Sm s.2 ∧ s.1.1.natAbs ≤ 2 ∧ s.2.1.natAbs ≤ 2) (an_cons (R := (· = [])) (P := fun d => ∃ s : Q2 × Q2, d = pr s ∧ Sm s.1 ∧ Sm s.2 ∧ s.1.1.natAbs ≤ 2 ∧ s.2.1.natAbs ≤ 2) (en_callC (ad_cons (ed_var rfl) (ad_cons ed_int ad_nil)) ⟨a, 2, rfl, rfl, by decide, fun x y s1 s2 h1 h2 => ⟨(x, y), rfl, s1, s2, h1, h2⟩⟩)
              (fun _ _ => ad_nil) fun d ds ⟨s, e, h⟩ e2 => ⟨s, by rw [e, e2], h⟩) (fun ds ⟨s, e, _⟩ => by rw [e]; simp) fun ds ⟨s, e, h⟩ => ⟨s, by rw [e], h⟩) fun x y e ⟨s, e2, h⟩ => by
              subst e e2
              exact (rop_catT (by rw [List.length_map]; simp; omega)).imp fun d e => ⟨s, e, h⟩) (fun _ _ => ad_nil) fun d ds ⟨s, e, h⟩ e2 => ⟨s, by rw [e, e2], h⟩) fun d ds e ⟨s, e2, h⟩ => ⟨s, by rw [e, e2], h⟩) (fun ds ⟨s, e, _⟩ => by rw [e]; rfl) fun d1 d2 σ7 H7 ⟨s, e, ss1, ss2, sf1, sf2⟩ a7 => ?_
      simp only [List.cons.injEq, and_true] at e
      obtain ⟨rfl, rfl⟩ := e
      refine q_set a7 (ed_cb (ad_cons (ed_cb (ad_cons (ed_top (ed_ixT (ed_ixT (ed_var rfl) (ed_neg ed_int) (atI_last _ _)) ed_int rfl) ed_int) ad_nil) rca_absN) (ad_cons (ed_cb (ad_cons (ed_top (ed_ixT (ed_ixT (ed_var rfl) (ed_neg ed_int) (atI_last _ _)) ed_int rfl) ed_int) ad_nil) rca_absN) ad_nil)) rca_max) fun σ8 H8 a8 => ?_
      generalize hf : (if (s.2.1.natAbs : Int) > (s.1.1.natAbs : Int) then (s.2.1.natAbs : Int) else (s.1.1.natAbs : Int)) = far at a8
      have hf2 : 0 ≤ far ∧ far ≤ 2 := by
        rw [← hf]
        split <;> omega
      have hne : xs ≠ [] := by
        intro z
        rw [z] at hxl
        have : 0 = many := hxl
        omega
      have hlast : lastQ xs ∈ xs := by
        unfold lastQ
        rw [List.getLast?_eq_some_getLast hne]
        exact List.getLast_mem hne
      have ql := hxq _ hlast
      have fl := ql.bt (by decide) (by have : (2 : Nat) ^ 30 = 1073741824 := by decide
                                       have : (2 : Nat) ^ 40 = 1099511627776 := by decide
                                       omega)
      have hmul : (((lx.1.natAbs : Int) * far).natAbs) ≤ 2 := by
        rw [Int.natAbs_mul]
        exact Nat.le_trans (Nat.mul_le_mul (show (lx.1.natAbs : Int).natAbs ≤ 1 by omega) (show far.natAbs ≤ 2 by omega)) (by decide)
      have qz : Qk 6 2 (((lx.1.natAbs : Int) * far, 1) : Q2) := ⟨show (0 : Int) < 1 by decide, Nat.one_dvd _, by show _ ≤ 2 * 1; exact hmul⟩
      have qs := qk_add ql qz
      refine x_set a8 (ed_op (ed_slT (ed_var rfl) od_none (od_some (ed_neg ed_int))) (ed_tup (ad_cons (ed_call (ad_cons (ed_ixT (ed_var rfl) (ed_neg ed_int) (last_fd hne)) (ad_cons (ed_tup (ad_cons (ed_mul (a := 10) (b := 10) (by show (lx.1.natAbs : Int).natAbs < 2 ^ 10; omega) (by show far.natAbs < 2 ^ 10; omega) (ed_cb (ad_cons (ed_top (ed_var rfl) ed_int) ad_nil) rca_absN) (ed_var rfl)) (ad_cons ed_int ad_nil))) ad_nil))
        ⟨lastQ xs, ((lx.1.natAbs : Int) * far, 1), rfl, ql.pos, show (0 : Int) < 1 by decide, fl.b1.le (by decide), (show Bt 10 _ from Nat.lt_of_le_of_lt hmul (by decide)).le (by decide), ((ql.bt2 (by decide)).mul (show Bt 10 1 by decide)).le (by decide), rfl⟩) ad_nil))
        ((rop_catT (by rw [cut_init]; simp; omega)).imp fun d e => by rw [e, init_nums])) fun σ9 H9 a9 => ?_
      refine ⟨_, none, ⟨rfl, xs.dropLast ++ [addQ (lastQ xs) (((lx.1.natAbs : Int) * far, 1) : Q2)], pps ++ [ps], bx ++ [s], some (.int n), some (fd lx), some (nums ps), o4, some (.int far), ?_, ?_, ?_, ?_, ?_, ?_, ?_⟩, a9⟩
      · unfold nums
        rw [List.map_append, List.map_append, List.map_append]
        rfl
      · rw [List.length_append, List.length_dropLast, hxl]
        simp
        omega
      · intro x hx
        rcases List.mem_append.mp hx with q | q
        · exact (hxq x (List.dropLast_subset _ q)).up (by omega)
        · rw [List.mem_singleton.mp q]
          exact qs.up (by omega)
      · rw [List.length_append, hpl]; rfl
      · rw [List.length_append, hbl]; rfl
      · intro p hp
        rcases List.mem_append.mp hp with q | q
        · exact hps p q
        · rw [List.mem_singleton.mp q]
          exact ⟨by omega, hps2⟩
      · intro z hz
        rcases List.mem_append.mp hz with q | q
        · exact hbs z q
        · rw [List.mem_singleton.mp q]
          exact ⟨ss1, ss2⟩
  · rintro nn δ m σ3 H3 hnn ⟨rfl, xs, pps, bx, o1, o2, o3, o4, o5, rfl, hxl, hxq, hpl, hbl, hps, hbs⟩ a3
    refine x_ret a3 (En.of (ed_tup (ad_cons (ed_var rfl) (ad_cons (ed_var rfl) (ad_cons (ed_var rfl) ad_nil)))) (hP xs pps bx ⟨by omega, by omega, fun x hx => (hxq x hx).up ?_, by omega, by omega, fun p hp => ⟨by rw [hxl]; exact (hps p hp).1, (hps p hp).2⟩, hbs⟩)) k
    have h1 : (2 : Nat) ^ 30 = 1073741824 := by decide
    have h2 : (2 : Nat) ^ 31 = 2147483648 := by decide
    omega
end
/-- ints and tuples alone, short ones -/
def D.tw (n : Nat) : D → Bool
  | .int i => decide (i.natAbs < 2 ^ 900)
  | .tup ds => decide (ds.length ≤ n) && D.tws n ds
  | _ => false
where D.tws (n : Nat) : List D → Bool
  | [] => true
  | d :: ds => D.tw n d && D.tws n ds
theorem tw_of : ∀ {n : Nat} {ds : List D}, (∀ d ∈ ds, D.tw n d = true) → D.tw.D.tws n ds = true
  | n, [], _ => by unfold D.tw.D.tws; rfl
  | n, a :: r, h => by
    unfold D.tw.D.tws
    rw [h a List.mem_cons_self, tw_of fun d hd => h d (List.mem_cons_of_mem _ hd)]
    rfl
theorem tw_mem : ∀ {n : Nat} {ds : List D}, D.tw.D.tws n ds = true → ∀ d ∈ ds, D.tw n d = true
  | n, a :: r, h, d, hd => by
    unfold D.tw.D.tws at h
    obtain ⟨h1, h2⟩ := Bool.and_eq_true_iff.mp h
    rcases List.mem_cons.mp hd with q | q
    · rw [q]; exact h1
    · exact tw_mem h2 d q
theorem tw_tup {n : Nat} {ds : List D} : D.tw n (.tup ds) = true ↔ ds.length ≤ n ∧ ∀ d ∈ ds, D.tw n d = true := by
  constructor
  · intro h
    unfold D.tw at h
    obtain ⟨h1, h2⟩ := Bool.and_eq_true_iff.mp h
    exact ⟨of_decide_eq_true h1, tw_mem h2⟩
  · rintro ⟨h1, h2⟩
    unfold D.tw
    rw [decide_eq_true h1, tw_of h2]
    rfl
theorem tw_int {n : Nat} {i : Int} : D.tw n (.int i) = true ↔ Bt 900 i := by
  unfold D.tw
  exact decide_eq_true_iff
mutual
theorem tw_ok {n : Nat} : ∀ {d : D}, D.tw n d = true → d.ok = true ∧ PyData.canLay0 d.py = true
  | .int i, _ => ⟨by unfold D.ok; rfl, by unfold D.py PyData.canLay0; rfl⟩
  | .tup ds, h => by
    obtain ⟨h1, h2⟩ := tws_ok (n := n) (ds := ds) (tw_tup.mp h).2
    exact ⟨by unfold D.ok; exact h1, by unfold D.py PyData.canLay0; exact h2⟩
  | .non, h => by unfold D.tw at h; cases h
  | .bl _, h => by unfold D.tw at h; cases h
  | .str _, h => by unfold D.tw at h; cases h
  | .lst _, h => by unfold D.tw at h; cases h
  | .dct, h => by unfold D.tw at h; cases h
  | .adr _, h => by unfold D.tw at h; cases h
  | .scr _, h => by unfold D.tw at h; cases h
  | .mac _ _ _, h => by unfold D.tw at h; cases h
  | .exc _ _, h => by unfold D.tw at h; cases h
theorem tws_ok {n : Nat} : ∀ {ds : List D}, (∀ d ∈ ds, D.tw n d = true) → D.oks ds = true ∧ PyData.canLayAll0 (D.pys ds) = true
  | [], _ => ⟨by unfold D.oks; rfl, by unfold D.pys PyData.canLayAll0; rfl⟩
  | a :: r, h => by
    obtain ⟨h1, h2⟩ := tw_ok (h a List.mem_cons_self)
    obtain ⟨h3, h4⟩ := tws_ok (ds := r) fun d hd => h d (List.mem_cons_of_mem _ hd)
    unfold D.oks D.pys PyData.canLayAll0
    rw [h1, h2, h3, h4]
    exact ⟨rfl, rfl⟩
end
theorem dep_le {n : Nat} : ∀ {ds : List D}, (∀ d ∈ ds, d.py.depth ≤ n) → PyData.depthAll (D.pys ds) ≤ n
  | [], _ => by unfold D.pys PyData.depthAll; exact Nat.zero_le _
  | a :: r, h => by
    unfold D.pys PyData.depthAll
    exact Nat.max_le.mpr ⟨h a List.mem_cons_self, dep_le fun d hd => h d (List.mem_cons_of_mem _ hd)⟩
theorem dep_ge {n : Nat} : ∀ {ds : List D}, PyData.depthAll (D.pys ds) ≤ n → ∀ d ∈ ds, d.py.depth ≤ n
  | a :: r, h, d, hd => by
    unfold D.pys PyData.depthAll at h
    obtain ⟨h1, h2⟩ := Nat.max_le.mp h
    rcases List.mem_cons.mp hd with q | q
    · rw [q]; exact h1
    · exact dep_ge h2 d q
theorem dep_tup {n : Nat} {ds : List D} : (D.tup ds).py.depth ≤ n + 1 ↔ ∀ d ∈ ds, d.py.depth ≤ n := by
  have e : (D.tup ds).py.depth = PyData.depthAll (D.pys ds) + 1 := by
    rw [D.py, PyData.depth]
  rw [e]
  exact ⟨fun h => dep_ge (Nat.le_of_succ_le_succ h), fun h => Nat.succ_le_succ (dep_le h)⟩
theorem dep_int {i : Int} : (D.int i).py.depth = 0 := by
  unfold D.py PyData.depth
  rfl
theorem shaped_of {n : Nat} {d : D} (h : D.tw n d = true) (hd : d.py.depth ≤ 60) : SeqAt.shaped d.py = true := by
  unfold SeqAt.shaped
  rw [(tw_ok h).2, decide_eq_true (by omega)]
  rfl
theorem eqv_tnil (xs : List D) : PyData.eqv (D.tup xs).py (D.tup []).py = xs.isEmpty := by
  cases xs with
  | nil => simp [D.py, D.pys, PyData.eqv, PyData.eqvAll]
  | cons a r => simp [D.py, D.pys, PyData.eqv, PyData.eqvAll]
theorem fd_tw {n : Nat} {x : Q2} (hn : 2 ≤ n) (h1 : Bt 900 x.1) (h2 : Bt 900 x.2) : D.tw n (fd x) = true ∧ (fd x).py.depth ≤ 1 := by
  refine ⟨tw_tup.mpr ⟨hn, fun d hd => ?_⟩, dep_tup.mpr fun d hd => ?_⟩
  · rcases List.mem_cons.mp hd with q | q
    · rw [q]; exact tw_int.mpr h1
    · rw [List.mem_singleton.mp q]; exact tw_int.mpr h2
  · rcases List.mem_cons.mp hd with q | q
    · rw [q, dep_int]; exact Nat.le_refl _
    · rw [List.mem_singleton.mp q, dep_int]; exact Nat.le_refl _
theorem nums_tw {n : Nat} {xs : List Q2} (hn : 2 ≤ n) (hl : xs.length ≤ n) (h : ∀ x ∈ xs, Bt 900 x.1 ∧ Bt 900 x.2) : D.tw n (nums xs) = true ∧ (nums xs).py.depth ≤ 2 := by
  refine ⟨tw_tup.mpr ⟨by rw [List.length_map]; exact hl, fun d hd => ?_⟩, dep_tup.mpr fun d hd => ?_⟩
  · obtain ⟨x, hx, rfl⟩ := List.mem_map.mp hd
    exact (fd_tw hn (h x hx).1 (h x hx).2).1
  · obtain ⟨x, hx, rfl⟩ := List.mem_map.mp hd
    exact (fd_tw hn (h x hx).1 (h x hx).2).2
theorem Sm.b {x : Q2} (h : Sm x) : Bt 900 x.1 ∧ Bt 900 x.2 := ⟨(sm_fq h).b1.le (by decide), (sm_fq h).b2.le (by decide)⟩
theorem RigOk.tw {xs : List Q2} {pps : List (List Q2)} {bx : List (Q2 × Q2)} (h : RigOk xs pps bx) : (D.tw 20 (nums xs) = true ∧ (nums xs).py.depth ≤ 2) ∧ (D.tw 20 (.tup (pps.map nums)) = true ∧ (D.tup (pps.map nums)).py.depth ≤ 3) ∧ (D.tw 20 (.tup (bx.map pr)) = true ∧ (D.tup (bx.map pr)).py.depth ≤ 3) := by
  have hp : ∀ d ∈ pps.map nums, D.tw 20 d = true ∧ d.py.depth ≤ 2 := fun d hd => by
    obtain ⟨p, hp, rfl⟩ := List.mem_map.mp hd
    obtain ⟨h1, h2⟩ := h.ps p hp
    exact nums_tw (by decide) (by have := h.l6; omega) fun x hx => (h2 x hx).b
  have hb : ∀ d ∈ bx.map pr, D.tw 20 d = true ∧ d.py.depth ≤ 2 := fun d hd => by
    obtain ⟨s, hs, rfl⟩ := List.mem_map.mp hd
    obtain ⟨h1, h2⟩ := h.bs s hs
    have : pr s = nums [s.1, s.2] := rfl
    rw [this]
    refine nums_tw (by decide) (by simp) fun x hx => ?_
    rcases List.mem_cons.mp hx with q | q
    · rw [q]; exact h1.b
    · rw [List.mem_singleton.mp q]; exact h2.b
  have hV : (2 : Nat) ^ 31 < 2 ^ 40 := by decide
  refine ⟨nums_tw (by decide) (by have := h.l6; omega) fun x hx => ?_, ⟨tw_tup.mpr ⟨by rw [List.length_map]; have := h.p3; omega, fun d hd => (hp d hd).1⟩, dep_tup.mpr fun d hd => (hp d hd).2⟩, ⟨tw_tup.mpr ⟨by rw [List.length_map]; have := h.p3; have := h.pb; omega, fun d hd => (hb d hd).1⟩, dep_tup.mpr fun d hd => (hb d hd).2⟩⟩
  have f := (h.qs x hx).bt (by decide) hV
  exact ⟨f.b1.le (by decide), f.b2.le (by decide)⟩
section
variable {W : Wd}
theorem ok__law_steep (T : Fr W.mg) (hD : DefP W "_law_steep" 100) (f__law_sip : F__law_sip W) : F__law_steep W := by
  refine fo_mk hD sc__law_steep (fun _ _ _ _ _ _ us hl => match us, hl with | [_, _], _ => rfl) (fun c ds P h => by obtain ⟨_, _, _, _, e, _⟩ := h; rw [e]; rfl) fun f cdv A outer s H E hr => ?_
  have nd := sc__law_steep.nd
  refine ⟨_, PSs.nox (pss_cons (ps_if (pt_cmpR (op_eqD hr.units) (pe_ix ix_tup (pv 1) pe_int (fun _ _ => rfl)) (pe_tup pa_nil) (nomark _)) (pss_one (ps_ret (pv 1))) pss_nil)
      (pss_cons (ps_set (i := 2) nd rfl (by first | exact Or.inl rfl | exact Or.inr rfl) (pe_ifExp (pt_cmpR op_eq (pe_cf f__law_sip (hr.mono (by decide)) (pa_cons (pv 0) (pa_cons pe_int pa_nil))) pe_int (nomark _)) (pe_tup (pa_cons (pe_un un_neg pe_int) (pa_cons pe_int pa_nil))) (pe_tup (pa_cons pe_int (pa_cons pe_int pa_nil)))))
      (pss_one (ps_ret (pe_tup (pa_cons (pe_ix ix_tup (pv 1) pe_int (fun _ _ => rfl)) (pa_cons (pe_op op_catA (pe_tup (pa_cons (pe_op op_catA (pe_slice sl_tupA (pe_ix ix_tup (pe_ix ix_tup (pv 1) pe_int (fun _ _ => rfl)) pe_int (fun _ _ => rfl)) po_none (po_some (pe_un un_neg pe_int))) (pe_tup (pa_cons (pv 2) pa_nil))) pa_nil)) (pe_slice sl_tupA (pe_ix ix_tup (pv 1) pe_int (fun _ _ => rfl)) (po_some pe_int) po_none)) (pa_cons (pe_op op_catA (pe_tup (pa_cons (pe_tup (pa_cons (pe_tup (pa_cons (pe_un un_neg pe_int) (pa_cons pe_int pa_nil))) (pa_cons (pe_tup (pa_cons pe_int (pa_cons pe_int pa_nil))) pa_nil))) pa_nil)) (pe_slice sl_tupA (pe_ix ix_tup (pv 1) pe_int (fun _ _ => rfl)) (po_some pe_int) po_none)) pa_nil)))))))), ?_⟩
  rintro c ds P E σ H Q ⟨a, xs, pps, bx, rfl, rfl, hok, hP⟩ a0 k
  obtain ⟨_, ⟨tp, dp⟩, _⟩ := hok.tw
  refine q_when (b := (pps.map nums).isEmpty) a0 (Td.to (td_test (ed_op (ed_ixT (ed_var rfl) ed_int rfl) (ed_tup ad_nil) (rop_eqD (tw_ok tp).1 rfl (shaped_of tp (by omega)) rfl))) (eqv_tnil _)) (fun _ H1 a1 => ?_) fun e H1 a1 => ?_
  · exact x_ret a1 (En.of (ed_var rfl) (hP pps bx hok)) k
  · cases pps with
    | nil => cases e
    | cons p0 pps =>
      cases bx with
      | nil => have := hok.pb; cases this
      | cons s0 bx =>
        obtain ⟨hp0l, hp0s⟩ := hok.ps p0 List.mem_cons_self
        have hp0n : p0 ≠ [] := by
          intro z
          rw [z] at hp0l
          have : 0 = xs.length := hp0l
          have := hok.l2
          omega
        have big : ∀ i : Int, i.natAbs ≤ 40 → Sm ((i, 1) : Q2) := fun i hi => ⟨show (0 : Int) < 1 by decide, Nat.one_dvd _, hi, show 1 ≤ 4 by decide⟩
        refine q_asg a1 (P := fun d => ∃ x : Q2, d = fd x ∧ Sm x) (en_if (T := fun _ => True) (tn_test (P := fun d => ∃ b, d = .bl b) (en_op (A := fun d => ∃ i : Int, d = .int i) (en_callC (ad_cons (ed_var rfl) (ad_cons ed_int ad_nil)) ⟨a, 2, rfl, rfl, by decide, by decide, fun i _ _ => ⟨i, rfl⟩⟩) (fun _ _ => ed_int) fun x y ⟨i, hx⟩ hy => by
          subst hx hy
          exact Rop.imp rop_eqI fun d e => ⟨_, e⟩) fun d ⟨b, e⟩ => ⟨b, e, trivial⟩)
          (fun _ => En.of (ed_tup (ad_cons (ed_neg ed_int) (ad_cons ed_int ad_nil))) ⟨(-40, 1), rfl, big _ (by decide)⟩) fun _ => En.of (ed_tup (ad_cons ed_int (ad_cons ed_int ad_nil))) ⟨(40, 1), rfl, big _ (by decide)⟩) fun d σ2 H2 ⟨lx, e, sx⟩ a2 => ?_
        subst e
        refine x_ret a2 (En.of (ed_tup (ad_cons (ed_ixT (ed_var rfl) ed_int rfl) (ad_cons (ed_op (ed_tup (ad_cons (ed_op (ed_slT (ds := p0.map fd) (ed_ixT (ed_ixT (ed_var rfl) ed_int rfl) ed_int (atI_nat (j := 0) rfl)) od_none (od_some (ed_neg ed_int))) (ed_tup (ad_cons (ed_var rfl) ad_nil))
            ((rop_catT (by rw [cut_init]; simp; have := hok.l6; omega)).imp fun d e => by rw [e, init_nums])) ad_nil)) (ed_slT (ds := (p0 :: pps).map nums) (ed_ixT (ed_var rfl) ed_int rfl) (od_some (i := (1 : Nat)) ed_int) od_none) ((rop_catT (by rw [cut_from]; simp; have := hok.p3; simp at this; omega)).imp fun d e => by rw [e, cut_from]))
          (ad_cons (ed_op (ed_tup (ad_cons (ed_tup (ad_cons (ed_tup (ad_cons (ed_neg ed_int) (ad_cons ed_int ad_nil))) (ad_cons (ed_tup (ad_cons ed_int (ad_cons ed_int ad_nil))) ad_nil))) ad_nil)) (ed_slT (ds := (s0 :: bx).map pr) (ed_ixT (ed_var rfl) ed_int rfl) (od_some (i := (1 : Nat)) ed_int) od_none) ((rop_catT (by rw [cut_from]; simp; have := hok.p3; have := hok.pb; simp at *; omega)).imp fun d e => by rw [e, cut_from])) ad_nil)))) ?_) k
        have e1 : D.tup (p0.dropLast.map fd ++ [fd lx]) = nums (p0.dropLast ++ [lx]) := by
          unfold nums
          rw [List.map_append]
          rfl
        rw [e1]
        refine hP ((p0.dropLast ++ [lx]) :: pps) (((-1, 1), (1, 1)) :: bx) ⟨hok.l2, hok.l6, hok.qs, hok.pb, hok.p3, fun p hp => ?_, fun s hs => ?_⟩
        · rcases List.mem_cons.mp hp with q | q
          · rw [q]
            refine ⟨?_, fun x hx => ?_⟩
            · rw [List.length_append, List.length_dropLast]
              have := hok.l2
              simp
              omega
            · rcases List.mem_append.mp hx with w | w
              · exact hp0s x (List.dropLast_subset _ w)
              · rw [List.mem_singleton.mp w]; exact sx
          · exact hok.ps p (List.mem_cons_of_mem _ q)
        · rcases List.mem_cons.mp hs with q | q
          · rw [q]
            exact ⟨big _ (by decide), big _ (by decide)⟩
          · exact hok.bs s (List.mem_cons_of_mem _ q)
end
end K10
set_option Elab.async false
set_option linter.all false
set_option maxRecDepth 100000
set_option maxHeartbeats 4000000
/-! What is bent. -/
namespace K10
open PySem PySem.Spec PyProof.Rows L2 StX RZ
mutual
/-- how many ints are great -/
def D.nb : D → Nat
  | .int i => if i.natAbs ≤ 40 then 0 else 1
  | .tup ds => D.nbs ds
  | .lst ds => D.nbs ds
  | _ => 0
def D.nbs : List D → Nat
  | [] => 0
  | d :: ds => d.nb + D.nbs ds
end
theorem nb_tup {ds : List D} : (D.tup ds).nb = D.nbs ds := by rw [D.nb]
theorem nb_lst {ds : List D} : (D.lst ds).nb = D.nbs ds := by rw [D.nb]
theorem nbs_cons {d : D} {ds : List D} : D.nbs (d :: ds) = d.nb + D.nbs ds := by rw [D.nbs]
theorem nbs_nil : D.nbs [] = 0 := by rw [D.nbs]
theorem nbs_app : ∀ {xs ys : List D}, D.nbs (xs ++ ys) = D.nbs xs + D.nbs ys
  | [], ys => by rw [nbs_nil, List.nil_append, Nat.zero_add]
  | x :: xs, ys => by rw [List.cons_append, nbs_cons, nbs_cons, nbs_app, Nat.add_assoc]
theorem nbs_zero : ∀ {ds : List D}, D.nbs ds = 0 ↔ ∀ d ∈ ds, d.nb = 0
  | [] => ⟨fun _ _ h => (nomatch h), fun _ => nbs_nil⟩
  | a :: r => by
    rw [nbs_cons]
    constructor
    · intro h d hd
      have h2 : D.nbs r = 0 := by omega
      rcases List.mem_cons.mp hd with q | q
      · rw [q]; omega
      · exact (nbs_zero.mp h2) d q
    · intro h
      have h1 := h a List.mem_cons_self
      have h2 := nbs_zero.mpr fun d hd => h d (List.mem_cons_of_mem _ hd)
      omega
theorem w_of : ∀ {n : Nat} {ds : List D}, (∀ d ∈ ds, D.w n d = true) → D.ws n ds = true
  | n, [], _ => by unfold D.ws; rfl
  | n, a :: r, h => by
    unfold D.ws
    rw [h a List.mem_cons_self, w_of fun d hd => h d (List.mem_cons_of_mem _ hd)]
    rfl
theorem w_tup {n : Nat} {ds : List D} : D.w n (.tup ds) = true ↔ ds.length ≤ n ∧ ∀ d ∈ ds, D.w n d = true := by
  constructor
  · intro h
    obtain ⟨h1, h2⟩ := pl_tup h
    exact ⟨h1, fun d hd => pls_mem h2 hd⟩
  · rintro ⟨h1, h2⟩
    unfold D.w
    rw [decide_eq_true h1, w_of h2]
    rfl
theorem w_lst {n : Nat} {ds : List D} (h1 : ds.length ≤ n) (h2 : ∀ d ∈ ds, D.w n d = true) : D.w n (.lst ds) = true := by
  unfold D.w
  rw [decide_eq_true h1, w_of h2]
  rfl
theorem w_int {n : Nat} {i : Int} (h : Bt 900 i) : D.w n (.int i) = true := by
  unfold D.w
  exact decide_eq_true h
mutual
theorem tw_w {n m : Nat} (hn : n ≤ m) : ∀ {d : D}, D.tw n d = true → D.w m d = true
  | .int i, h => w_int (tw_int.mp h)
  | .tup ds, h => w_tup.mpr ⟨Nat.le_trans (tw_tup.mp h).1 hn, tws_w hn (ds := ds) (tw_tup.mp h).2⟩
  | .non, h => by unfold D.tw at h; cases h
  | .bl _, h => by unfold D.tw at h; cases h
  | .str _, h => by unfold D.tw at h; cases h
  | .lst _, h => by unfold D.tw at h; cases h
  | .dct, h => by unfold D.tw at h; cases h
  | .adr _, h => by unfold D.tw at h; cases h
  | .scr _, h => by unfold D.tw at h; cases h
  | .mac _ _ _, h => by unfold D.tw at h; cases h
  | .exc _ _, h => by unfold D.tw at h; cases h
theorem tws_w {n m : Nat} (hn : n ≤ m) : ∀ {ds : List D}, (∀ d ∈ ds, D.tw n d = true) → ∀ d ∈ ds, D.w m d = true
  | a :: r, h, d, hd => by
    rcases List.mem_cons.mp hd with q | q
    · rw [q]
      exact tw_w hn (h a List.mem_cons_self)
    · exact tws_w hn (ds := r) (fun d hd => h d (List.mem_cons_of_mem _ hd)) d q
end
mutual
theorem w_up {n m : Nat} (hn : n ≤ m) : ∀ {d : D}, D.w n d = true → D.w m d = true
  | .int i, h => w_int (pl_int h)
  | .tup ds, h => w_tup.mpr ⟨Nat.le_trans (w_tup.mp h).1 hn, ws_up hn (ds := ds) (w_tup.mp h).2⟩
  | .lst ds, h => by
    unfold D.w at h
    obtain ⟨h1, h2⟩ := Bool.and_eq_true_iff.mp h
    exact w_lst (Nat.le_trans (of_decide_eq_true h1) hn) (ws_up hn (ds := ds) fun d hd => pls_mem h2 hd)
  | .non, _ => by unfold D.w; rfl
  | .bl _, _ => by unfold D.w; rfl
  | .str _, _ => by unfold D.w; rfl
  | .dct, _ => by unfold D.w; rfl
  | .adr _, h => by unfold D.w at h; cases h
  | .scr _, h => by unfold D.w at h; cases h
  | .mac _ _ _, h => by unfold D.w at h; cases h
  | .exc _ _, h => by unfold D.w at h; cases h
theorem ws_up {n m : Nat} (hn : n ≤ m) : ∀ {ds : List D}, (∀ d ∈ ds, D.w n d = true) → ∀ d ∈ ds, D.w m d = true
  | a :: r, h, d, hd => by
    rcases List.mem_cons.mp hd with q | q
    · rw [q]
      exact w_up hn (h a List.mem_cons_self)
    · exact ws_up hn (ds := r) (fun d hd => h d (List.mem_cons_of_mem _ hd)) d q
end
def leafD : D → Bool
  | .tup ds => ds.isEmpty
  | _ => true
/-- what a bend puts into the place of a leaf -/
def leaves : List D := [.non, .lst [], .str ("" : PySem.Str), .int 0, .int 1, .bl true, .bl false, .tup [], .dct, .str ("1/2" : PySem.Str), .tup [.int 2, .int 4], .tup [.int 1, .int 0], .tup [.int 1, .int (-2)], .int 2, .int (-1), .int (1000000000000 + 1), .int 1000000000000, .tup [.int 0, .int 1], .tup [.int 1, .int 1], .tup [.int 10000000000000, .int 1], .tup [.int 0, .int 2]]
/-- what may come of bending d -/
def Bends (d d' : D) : Prop := D.w 50 d' = true ∧ (d.nb = 0 → d'.nb ≤ 1)
abbrev R_void : Rel := fun _ _ _ => False
abbrev R__law_bent (n : Nat) : Rel := fun c ds P => ∃ (a : Addr) (d : D), ds = [.adr a, d] ∧ c = some a ∧ D.tw 20 d = true ∧ d.py.depth ≤ n ∧ ∀ d', Bends d d' → P d'
abbrev R_rec : Nat → Rel
  | 0 => R_void
  | n + 1 => R__law_bent n
abbrev G__law_bent (W : Wd) (n : Nat) : Prop := Fo W (3 + n) "_law_bent" ["_law_cup_here", "_law_thing"] (R__law_bent n)
abbrev F__law_bent (W : Wd) : Prop := G__law_bent W 3
abbrev s__law_bent : Stmt := top 89
abbrev N__law_bent : List PySem.Str := ["_law_cup_here", "_law_thing", "_law_some", "_law_at_here", "_law_way_here"]
theorem sc__law_bent : FnScope N__law_bent ["_law_cup_here", "_law_thing"] (defScope s__law_bent) := ⟨rfl, rfl, rfl, by decide +kernel, rfl, by decide +kernel, by decide +kernel⟩
section
variable {p : Pm} {δ : Sl} {te ta tb : TE}
theorem ed_p13 : Ed p (tOp (rI CPow fun i j => .int (i ^ j.toNat)) (tC (.int 10)) (tC (.int 13))) δ (.int 10000000000000) := ed_op ed_int ed_int ((rop_I (g := fun i j => i ^ j.toNat) ⟨by decide, by decide, by decide⟩).imp fun d e => by rw [e]; rfl)
theorem ed_dct : Ed p tDNewK δ .dct := fun σ G H s sd rc rm Q k => fun d hd => by
  obtain ⟨s1, r1⟩ := (Stp.new (o := .dK []) s hd).up rc
  exact k _ _ _ _ s1 r1 (.dct upd_same) rfl
end
section
variable {W : Wd}
theorem fo_void {x : PySem.Str} {j : Nat} {ps : List PySem.Str} (D : DefP W x j)
    (hb : ∀ (kV doc pm : Value) (an : Option Addr) (cdv ct : Value) (us : List Value), us.length = ps.length → bindArgs (PySem.W.fnOf x x (defArgs (top j)) (defBody (top j)) (defScope (top j)) .none kV doc pm an cdv ct) ⟨us, []⟩ = pure (ps.zip us)) : Fo W 0 x ps R_void := by
  obtain ⟨f, fd, F, g⟩ := D
  exact ⟨f, fd, ⟨fun vs H Q E h => by obtain ⟨_, _, _, _, _, _, _, r, _⟩ := h; exact r.elim, fun A outer s H args us vs Q E _ _ _ _ h => by obtain ⟨_, _, _, _, _, _, _, r, _⟩ := h; exact r.elim⟩, F.bindsN hb, g, F.kp⟩
theorem ok_bent1 (T : Fr W.mg) (hD : DefP W "_law_bent" 89) (f__law_of : F__law_of W) (f__law_sip : F__law_sip W) (n : Nat) (hn : n ≤ 10) (f_rec : Fo W (2 + n) "_law_bent" ["_law_cup_here", "_law_thing"] (R_rec n)) : G__law_bent W n := by
  have e3 : 3 + n = (2 + n) + 1 := by omega
  show Fo W (3 + n) _ _ _
  rw [e3]
  refine fo_mk hD sc__law_bent (fun _ _ _ _ _ _ us hl => match us, hl with | [_, _], _ => rfl) (fun c ds P h => by obtain ⟨_, _, e, _⟩ := h; rw [e]; rfl) fun f cdv A outer s H E hr => ?_
  have nd := sc__law_bent.nd
  refine ⟨_, PSs.nox (pss_cons (ps_if (PW.pt (pw_or (pt_not (pt_val (pe_callB call_isi rfl T.n_isinstance (by decide +kernel) (pa_cons (pv 1) (pa_cons (pe_bltn (v := .ty "tuple") (u := .type "tuple") rfl T.n_tuple (by decide +kernel) rfl) pa_nil))))) (pw_or1 (pt_cmpR (op_eqD hr.units) (pv 1) (pe_tup pa_nil) (nomark _))))) (pss_cons (ps_set (i := 2) nd rfl (by first | exact Or.inl rfl | exact Or.inr rfl) (pe_lst (pa_cons pe_non (pa_cons (pe_lst pa_nil) (pa_cons pe_str (pa_cons pe_int (pa_cons pe_int (pa_cons pe_bl (pa_cons pe_bl (pa_cons (pe_tup pa_nil) (pa_cons pe_dnewK (pa_cons (pe_tup (pa_cons (pv 1) pa_nil)) (pa_cons pe_str (pa_cons (pe_tup (pa_cons pe_int (pa_cons pe_int pa_nil))) (pa_cons (pe_tup (pa_cons pe_int (pa_cons pe_int pa_nil))) (pa_cons (pe_tup (pa_cons pe_int (pa_cons (pe_un un_neg pe_int) pa_nil))) (pa_cons (pe_lst (pa_cons (pv 1) pa_nil)) (pa_cons pe_int (pa_cons (pe_un un_neg pe_int) pa_nil)))))))))))))))))))
      (pss_one (ps_ret (pe_cf f__law_of (hr.mono (by omega)) (pa_cons (pv 0) (pa_cons (pe_op op_cat (pv 2) (pe_lst (pa_cons (pe_op op_add (pe_op op_pow pe_int pe_int) pe_int) (pa_cons (pe_op op_pow pe_int pe_int) (pa_cons (pe_tup (pa_cons pe_int (pa_cons pe_int pa_nil))) (pa_cons (pe_tup (pa_cons pe_int (pa_cons pe_int pa_nil))) (pa_cons (pe_tup (pa_cons (pe_op op_pow pe_int pe_int) (pa_cons pe_int pa_nil))) (pa_cons (pe_tup (pa_cons pe_int (pa_cons pe_int pa_nil))) pa_nil)))))))) pa_nil)))))) pss_nil)
      (pss_cons (ps_par (i := 3) (j := 4) rfl nd rfl rfl (by decide) rfl rfl (pa_cons (pe_cf f__law_sip (hr.mono (by omega)) (pa_cons (pv 0) (pa_cons (pe_callB call_len_seq rfl T.n_len (by decide +kernel) (pa_cons (pv 1) pa_nil)) pa_nil))) (pa_cons (pe_cf f__law_sip (hr.mono (by omega)) (pa_cons (pv 0) (pa_cons pe_int pa_nil))) pa_nil)) (by rfl))
      (pss_cons (ps_if (pt_cmpR op_eq (pv 4) pe_int (nomark _)) (pss_one (ps_ret (pe_op op_catA (pe_slice sl_tupA (pv 1) po_none (po_some (pv 3))) (pe_slice sl_tupA (pv 1) (po_some (pe_op op_add (pv 3) pe_int)) po_none)))) pss_nil)
      (pss_cons (ps_if (pt_cmpR op_eq (pv 4) pe_int (nomark _)) (pss_one (ps_ret (pe_op op_catA (pe_slice sl_tupA (pv 1) po_none (po_some (pe_op op_add (pv 3) pe_int))) (pe_slice sl_tupA (pv 1) (po_some (pv 3)) po_none)))) pss_nil)
      (pss_cons (ps_if (pt_cmpR op_eq (pv 4) pe_int (nomark _)) (pss_one (ps_ret (pe_cf f__law_of (hr.mono (by omega)) (pa_cons (pv 0) (pa_cons (pe_lst (pa_cons (pe_rev (pv 1)) (pa_cons (pe_callTy call_list_of rfl T.n_list (by decide +kernel) (pa_cons (pv 1) pa_nil)) (pa_cons (pe_op op_catA (pv 1) (pv 1)) pa_nil)))) pa_nil))))) pss_nil)
      (pss_one (ps_ret (pe_op op_catA (pe_op op_catA (pe_slice sl_tupA (pv 1) po_none (po_some (pv 3))) (pe_tup (pa_cons (pe_cf f_rec (hr.mono (by omega)) (pa_cons (pv 0) (pa_cons (pe_ix ix_tup (pv 1) (pv 3) (fun _ _ => rfl)) pa_nil))) pa_nil))) (pe_slice sl_tupA (pv 1) (po_some (pe_op op_add (pv 3) pe_int)) po_none))))))))), ?_⟩
  rintro c ds P E σ H Q ⟨a, d, rfl, rfl, htw, hdp, hP⟩ a0 k
  have hw := tw_w (m := 1000) (by decide) htw
  have emp : ∀ ds : List D, D.tw 20 (.tup ds) = true → (D.tup ds).py.depth ≤ 60 → ∀ {δ : Sl} {ta tb : TE}, Ed ⟨W.K, W.C, some a, none⟩ ta δ (.tup ds) → Ed ⟨W.K, W.C, some a, none⟩ tb δ (.tup []) → Td ⟨W.K, W.C, some a, none⟩ (tTest (tOp (rEqD W.K) ta tb)) δ ds.isEmpty := fun ds h1 h2 _ _ _ e1 e2 =>
    Td.to (td_test (ed_op e1 e2 (rop_eqD (tw_ok h1).1 rfl (shaped_of h1 h2) rfl))) (eqv_tnil _)
  refine q_when (b := leafD d) a0 ?_ (fun e H1 a1 => ?_) fun e H1 a1 => ?_
  · cases d with
    | tup ds => exact Td.to (td_or (td_not (td_B (ed_isTup (ed_var rfl) hw))) fun _ => emp ds htw (by omega) (ed_var rfl) (ed_tup ad_nil)) rfl
    | _ => exact Td.to (td_or (b := false) (td_not (td_B (ed_isTup (ed_var rfl) hw))) fun z => Bool.noConfusion z) rfl
  · refine q_set a1 (ed_lst (ad_cons ed_non (ad_cons (ed_lst ad_nil) (ad_cons ed_str (ad_cons ed_int (ad_cons ed_int (ad_cons ed_bl (ad_cons ed_bl (ad_cons (ed_tup ad_nil) (ad_cons ed_dct (ad_cons (ed_tup (ad_cons (ed_var rfl) ad_nil)) (ad_cons ed_str (ad_cons (ed_tup (ad_cons ed_int (ad_cons ed_int ad_nil))) (ad_cons (ed_tup (ad_cons ed_int (ad_cons ed_int ad_nil)))
      (ad_cons (ed_tup (ad_cons ed_int (ad_cons (ed_neg ed_int) ad_nil))) (ad_cons (ed_lst (ad_cons (ed_var rfl) ad_nil)) (ad_cons ed_int (ad_cons (ed_neg ed_int) ad_nil)))))))))))))))))) fun σ2 H2 a2 => ?_
    refine x_ret a2 (en_callC (ad_cons (ed_var rfl) (ad_cons (ed_op (ed_var rfl) (ed_lst (ad_cons (ed_add ed_p12 ed_int) (ad_cons ed_p12 (ad_cons (ed_tup (ad_cons ed_int (ad_cons ed_int ad_nil))) (ad_cons (ed_tup (ad_cons ed_int (ad_cons ed_int ad_nil))) (ad_cons (ed_tup (ad_cons ed_p13 (ad_cons ed_int ad_nil))) (ad_cons (ed_tup (ad_cons ed_int (ad_cons ed_int ad_nil))) ad_nil)))))))
      (rop_catL (by simp))) ad_nil)) ⟨a, _, rfl, rfl, by simp, by simp, fun x hx => hP x ?_⟩) k
    have cl : ∀ x ∈ leaves, D.w 50 x = true ∧ x.nb ≤ 1 := by decide +kernel
    have hd : x = .tup [d] ∨ x = .lst [d] ∨ x ∈ leaves := by
      unfold leaves
      simp only [List.cons_append, List.nil_append, List.mem_cons, List.not_mem_nil, or_false] at hx ⊢
      rcases hx with h | h | h | h | h | h | h | h | h | h | h | h | h | h | h | h | h | h | h | h | h | h | h <;> simp [h]
    have hw50 := tw_w (m := 50) (by decide) htw
    rcases hd with rfl | rfl | h
    · refine ⟨w_tup.mpr ⟨by simp, fun y hy => by rw [List.mem_singleton.mp hy]; exact hw50⟩, fun h0 => ?_⟩
      rw [nb_tup, nbs_cons, nbs_nil, h0]
      decide
    · refine ⟨w_lst (by simp) fun y hy => by rw [List.mem_singleton.mp hy]; exact hw50, fun h0 => ?_⟩
      rw [nb_lst, nbs_cons, nbs_nil, h0]
      decide
    · exact ⟨(cl x h).1, fun _ => (cl x h).2⟩
  · cases d with
    | tup ds =>
      have hne : ds ≠ [] := by
        intro z
        rw [z] at e
        cases e
      obtain ⟨m, rfl⟩ : ∃ m, n = m + 1 := by
        cases n with
        | zero =>
          have e1 : (D.tup ds).py.depth = PyData.depthAll (D.pys ds) + 1 := by rw [D.py, PyData.depth]
          rw [e1] at hdp
          omega
        | succ m => exact ⟨m, rfl⟩
      obtain ⟨hl20, hds⟩ := tw_tup.mp htw
      have hdd := dep_tup.mp hdp
      have hlen : 0 < ds.length := List.length_pos_iff.mpr hne
      have sub : ∀ es : List D, es.length ≤ 50 → (∀ x ∈ es, x ∈ ds) → Bends (.tup ds) (.tup es) := fun es h1 h2 => ⟨w_tup.mpr ⟨h1, fun x hx => tw_w (by decide) (hds x (h2 x hx))⟩, fun h0 => by
        rw [nb_tup] at h0 ⊢
        rw [nbs_zero.mpr fun x hx => nbs_zero.mp h0 x (h2 x hx)]
        decide⟩
      refine q_par (R := fun es => ∃ (j : Nat) (w : Int), es = [.int j, .int w] ∧ j < ds.length) a1 (an_cons (P := fun x => ∃ j : Nat, x = .int j ∧ j < ds.length) (R := fun es => ∃ w : Int, es = [.int w]) (en_callC (ad_cons (ed_var rfl) (ad_cons (ed_lenT (ed_var rfl)) ad_nil)) ⟨a, ds.length, rfl, rfl, by omega, by omega, fun i i0 i1 => ⟨i.toNat, by congr 1; omega, by omega⟩⟩)
        (fun _ _ => an_cons (P := fun x => ∃ w : Int, x = .int w) (R := (· = [])) (en_callC (ad_cons (ed_var rfl) (ad_cons ed_int ad_nil)) ⟨a, 9, rfl, rfl, by decide, by decide, fun i _ _ => ⟨i, rfl⟩⟩) (fun _ _ => ad_nil) fun d es ⟨w, e⟩ e2 => ⟨w, by rw [e, e2]⟩)
        fun d es ⟨j, e, h⟩ ⟨w, e2⟩ => ⟨j, w, by rw [e, e2], h⟩) (fun es ⟨j, w, e, _⟩ => by rw [e]; rfl) fun d1 d2 σ2 H2 ⟨j, w, e2, hj⟩ a2 => ?_
      simp only [List.cons.injEq, and_true] at e2
      obtain ⟨rfl, rfl⟩ := e2
      have hjx : ds[j]? = some ds[j] := List.getElem?_eq_getElem hj
      have t1 : ∀ {k : Nat} {x : D}, x ∈ ds.take k → x ∈ ds := fun h => List.mem_of_mem_take h
      have t2 : ∀ {k : Nat} {x : D}, x ∈ ds.drop k → x ∈ ds := fun h => List.mem_of_mem_drop h
      have j1 : (j : Int) + 1 = ((j + 1 : Nat) : Int) := by omega
      refine q_if (T := fun _ => True) a2 (Tn.imp (td_test (ed_eqI (ed_var rfl) ed_int)) fun _ _ => trivial) (fun _ H3 a3 => ?_) fun _ H3 a3 => ?_
      · refine x_ret a3 (En.of (ed_op (ed_slT (ed_var rfl) od_none (od_some (ed_var rfl))) (ed_slT (ed_var rfl) (od_some (Ed.to (ed_add (ed_var rfl) ed_int) (congrArg D.int j1))) od_none) (rop_catT (by rw [cut_to, cut_from, List.length_take, List.length_drop]; omega))) ?_) k
        rw [cut_to, cut_from]
        refine hP _ (sub _ (by rw [List.length_append, List.length_take, List.length_drop]; omega) fun x hx => ?_)
        rcases List.mem_append.mp hx with q | q
        · exact t1 q
        · exact t2 q
      refine q_if (T := fun _ => True) a3 (Tn.imp (td_test (ed_eqI (ed_var rfl) ed_int)) fun _ _ => trivial) (fun _ H4 a4 => ?_) fun _ H4 a4 => ?_
      · refine x_ret a4 (En.of (ed_op (ed_slT (ed_var rfl) od_none (od_some (Ed.to (ed_add (ed_var rfl) ed_int) (congrArg D.int j1)))) (ed_slT (ed_var rfl) (od_some (ed_var rfl)) od_none) (rop_catT (by rw [cut_to, cut_from, List.length_take, List.length_drop]; omega))) ?_) k
        rw [cut_to, cut_from]
        refine hP _ (sub _ (by rw [List.length_append, List.length_take, List.length_drop]; omega) fun x hx => ?_)
        rcases List.mem_append.mp hx with q | q
        · exact t1 q
        · exact t2 q
      refine q_if (T := fun _ => True) a4 (Tn.imp (td_test (ed_eqI (ed_var rfl) ed_int)) fun _ _ => trivial) (fun _ H5 a5 => ?_) fun _ H5 a5 => ?_
      · refine x_ret a5 (en_callC (ad_cons (ed_var rfl) (ad_cons (ed_lst (ad_cons (ed_rev (ed_var rfl)) (ad_cons (ed_cb (ad_cons (ed_var rfl) ad_nil) rca_lstT) (ad_cons (ed_op (ed_var rfl) (ed_var rfl) (rop_catT (by omega))) ad_nil)))) ad_nil)) ⟨a, _, rfl, rfl, by simp, by simp, fun x hx => hP x ?_⟩) k
        simp only [List.mem_cons, List.not_mem_nil, or_false] at hx
        rcases hx with rfl | rfl | rfl
        · exact sub _ (by rw [List.length_reverse]; omega) fun x hx => List.mem_reverse.mp hx
        · refine ⟨w_lst (by omega) fun x hx => tw_w (by decide) (hds x hx), fun h0 => ?_⟩
          rw [nb_tup] at h0
          rw [nb_lst, h0]
          decide
        · refine sub _ (by rw [List.length_append]; omega) fun x hx => ?_
          rcases List.mem_append.mp hx with q | q <;> exact q
      · refine x_ret a5 (en_op (A := fun d => ∃ x', d = .tup (ds.take j ++ [x']) ∧ Bends ds[j] x') (B := fun _ => (· = .tup (ds.drop (j + 1)))) (en_op (A := (· = .tup (ds.take j))) (B := fun _ d => ∃ x', d = .tup [x'] ∧ Bends ds[j] x') (Ed.to (ed_slT (ed_var rfl) od_none (od_some (ed_var rfl))) (congrArg D.tup cut_to))
          (fun _ _ => en_tup (R := fun es => ∃ x', es = [x'] ∧ Bends ds[j] x') (an_cons (R := (· = [])) (P := fun d => Bends ds[j] d) (en_callC (ad_cons (ed_var rfl) (ad_cons (ed_ixT (ed_var rfl) (ed_var rfl) (atI_nat hjx)) ad_nil)) ⟨a, ds[j], rfl, rfl, hds _ (List.mem_of_getElem? hjx), hdd _ (List.mem_of_getElem? hjx), fun x' h => h⟩) (fun _ _ => ad_nil) fun d es h e2 => ⟨d, by rw [e2], h⟩)
            (fun es ⟨x', e, _⟩ => by rw [e]; simp) fun es ⟨x', e, h⟩ => ⟨x', by rw [e], h⟩) fun x y e1 ⟨x', e2, h⟩ => by
            subst e1 e2
            exact (rop_catT (by rw [List.length_take]; simp; omega)).imp fun d e => ⟨x', e, h⟩)
          (fun _ _ => Ed.to (ed_slT (ed_var rfl) (od_some (Ed.to (ed_add (ed_var rfl) ed_int) (congrArg D.int j1))) od_none) (congrArg D.tup cut_from)) fun x y ⟨x', e1, h⟩ e2 => ?_) k
        subst e1 e2
        refine (rop_catT (by rw [List.length_append, List.length_take, List.length_drop]; simp; omega)).imp fun d e => ?_
        rw [e]
        refine hP _ ⟨w_tup.mpr ⟨by rw [List.length_append, List.length_append, List.length_take, List.length_drop]; simp; omega, fun x hx => ?_⟩, fun h0 => ?_⟩
        · rcases List.mem_append.mp hx with q | q
          · rcases List.mem_append.mp q with q | q
            · exact tw_w (by decide) (hds x (t1 q))
            · rw [List.mem_singleton.mp q]
              exact h.1
          · exact tw_w (by decide) (hds x (t2 q))
        · rw [nb_tup] at h0 ⊢
          have z := nbs_zero.mp h0
          have z1 := nbs_zero.mpr fun x (hx : x ∈ ds.take j) => z x (t1 hx)
          have z2 := nbs_zero.mpr fun x (hx : x ∈ ds.drop (j + 1)) => z x (t2 hx)
          have z3 := h.2 (z _ (List.mem_of_getElem? hjx))
          rw [nbs_app, nbs_app, nbs_cons, nbs_nil, z1, z2]
          omega
    | int i => cases e
    | _ => unfold D.tw at htw; cases htw
theorem ok__law_bent (T : Fr W.mg) (hD : DefP W "_law_bent" 89) (f__law_of : F__law_of W) (f__law_sip : F__law_sip W) : ∀ n, n ≤ 10 → G__law_bent W n
  | 0, h => ok_bent1 T hD f__law_of f__law_sip 0 h ((fo_void hD fun _ _ _ _ _ _ us hl => match us, hl with | [_, _], _ => rfl).mono (by decide))
  | n + 1, h => ok_bent1 T hD f__law_of f__law_sip (n + 1) h ((ok__law_bent T hD f__law_of f__law_sip n (by omega)).mono (by omega))
end
end K10
set_option Elab.async false
set_option linter.all false
set_option maxRecDepth 100000
set_option maxHeartbeats 4000000
/-! What is changed of a rig. -/
namespace K10
open PySem PySem.Spec PyProof.Rows L2 StX RZ
structure Ch (xs : List Q2) (pps : List (List Q2)) (bx : List (Q2 × Q2)) (b p x : D) : Prop where
  wb : D.w 50 b = true
  wp : D.w 50 p = true
  wx : D.w 50 x = true
  bb : b = nums xs ∨ (p = .tup (pps.map nums) ∧ x = .tup (bx.map pr))
  px : p.nb + x.nb ≤ 1 ∨ ∃ ps, p = .tup ps ∧ x = .tup (bx.map pr) ∧ bx.length < ps.length
abbrev R__law_changed : Rel := fun c ds P => ∃ (a : Addr) (xs : List Q2) (pps : List (List Q2)) (bx : List (Q2 × Q2)), ds = [.adr a, rigD xs pps bx] ∧ c = some a ∧ RigOk xs pps bx ∧ ∀ b p x, Ch xs pps bx b p x → P (.tup [b, p, x])
abbrev s__law_changed : Stmt := top 99
abbrev N__law_changed : List PySem.Str := ["_law_cup_here", "_law_rig_here", "_law_at_here", "_law_odd", "_law_fresh", "_law_part", "_law_span_here"]
theorem sc__law_changed : FnScope N__law_changed ["_law_cup_here", "_law_rig_here"] (defScope s__law_changed) := ⟨rfl, rfl, rfl, by decide +kernel, rfl, by decide +kernel, by decide +kernel⟩
abbrev F__law_changed (W : Wd) : Prop := Fo W 7 "_law_changed" ["_law_cup_here", "_law_rig_here"] R__law_changed
def tailD : D → D
  | .tup ds => .tup (ds.drop 1)
  | _ => .non
def revD : D → D
  | .tup ds => .tup ds.reverse
  | _ => .non
/-- what may stand in the place j -/
structure FrOk (bx : List (Q2 × Q2)) (j : Nat) (f : D) : Prop where
  w : D.w 50 f = true
  p : j = 1 → f.nb ≤ 1 ∨ ∃ ps, f = .tup ps ∧ bx.length < ps.length
  x : j = 2 → f.nb ≤ 1
theorem cutD_len {ds : List D} {lo hi : Option Int} : (cutD ds lo hi).length ≤ ds.length := by
  unfold cutD
  rw [List.length_take, List.length_drop]
  omega
theorem cutD_mem {ds : List D} {lo hi : Option Int} {x : D} (h : x ∈ cutD ds lo hi) : x ∈ ds := List.mem_of_mem_drop (List.mem_of_mem_take h)
theorem rep_len {ds : List D} : ∀ {n : Nat}, (List.replicate n ds).flatten.length = n * ds.length
  | 0 => by simp
  | n + 1 => by rw [List.replicate_succ, List.flatten_cons, List.length_append, rep_len, Nat.succ_mul, Nat.add_comm]
theorem rep_mem {ds : List D} {x : D} {n : Nat} (h : x ∈ (List.replicate n ds).flatten) : x ∈ ds := by
  obtain ⟨l, h1, h2⟩ := List.mem_flatten.mp h
  rw [(List.mem_replicate.mp h1).2] at h2
  exact h2
theorem fd_nb {x : Q2} (h : Sm x) : (fd x).nb = 0 := by
  show (D.tup [.int x.1, .int x.2]).nb = 0
  rw [nb_tup, nbs_cons, nbs_cons, nbs_nil, D.nb, D.nb, if_pos h.l1, if_pos (Nat.le_trans h.l2 (by decide))]
theorem nums_nb {xs : List Q2} (h : ∀ x ∈ xs, Sm x) : (nums xs).nb = 0 := by
  unfold nums
  rw [nb_tup]
  refine nbs_zero.mpr fun d hd => ?_
  obtain ⟨x, hx, rfl⟩ := List.mem_map.mp hd
  exact fd_nb (h x hx)
theorem pr_nb {s : Q2 × Q2} (h : Sm s.1 ∧ Sm s.2) : (pr s).nb = 0 := by
  unfold pr
  rw [nb_tup, nbs_cons, nbs_cons, nbs_nil, fd_nb h.1, fd_nb h.2]
section
variable {W : Wd}
theorem ok__law_changed (T : Fr W.mg) (hD : DefP W "_law_changed" 99) (f__law_sip : F__law_sip W) (f__law_of : F__law_of W) (f__law_bent : F__law_bent W) : F__law_changed W := by
  refine fo_mk hD sc__law_changed (fun _ _ _ _ _ _ us hl => match us, hl with | [_, _], _ => rfl) (fun c ds P h => by obtain ⟨_, _, _, _, e, _⟩ := h; rw [e]; rfl) fun f cdv A outer s H E hr => ?_
  have nd := sc__law_changed.nd
  refine ⟨_, PSs.nox (pss_cons (ps_set (i := 2) nd rfl (by first | exact Or.inl rfl | exact Or.inr rfl) (pe_cf f__law_sip (hr.mono (by decide)) (pa_cons (pv 0) (pa_cons pe_int pa_nil))))
      (pss_cons (ps_set (i := 3) nd rfl (by first | exact Or.inl rfl | exact Or.inr rfl) (pe_lst (pa_cons (pe_lst (pa_cons (pe_slice sl_tupA (pe_ix ix_tup (pv 1) pe_int (fun _ _ => rfl)) po_none (po_some pe_int)) (pa_cons (pe_op op_repE (pe_ix ix_tup (pv 1) pe_int (fun _ _ => rfl)) pe_int) (pa_cons (pe_op op_catA (pe_slice sl_tupA (pe_ix ix_tup (pv 1) pe_int (fun _ _ => rfl)) po_none (po_some (pe_un un_neg pe_int))) (pe_tup (pa_cons (pe_tup (pa_cons (pe_un un_neg pe_int) (pa_cons pe_int pa_nil))) pa_nil))) (pa_cons (pe_op op_catA (pe_slice sl_tupA (pe_ix ix_tup (pv 1) pe_int (fun _ _ => rfl)) po_none (po_some (pe_un un_neg pe_int))) (pe_tup (pa_cons (pe_tup (pa_cons pe_int (pa_cons pe_int pa_nil))) pa_nil))) pa_nil))))) pa_nil)))
      (pss_cons (ps_expr (pe_bm PySem.F.plainAttrs_list PySem.F.slot_list_append PySem.F.type_list_append mt_append (pv 3) (pa_cons (pe_lst (pa_cons (pe_op op_catA (pe_ix ix_tup (pv 1) pe_int (fun _ _ => rfl)) (pe_tup (pa_cons (pe_ix ix_tup (pv 1) pe_int (fun _ _ => rfl)) pa_nil))) (pa_cons (pe_slice sl_tupA (pe_ix ix_tup (pv 1) pe_int (fun _ _ => rfl)) po_none (po_some (pe_un un_neg pe_int))) (pa_cons (pe_op op_repE (pe_ix ix_tup (pv 1) pe_int (fun _ _ => rfl)) pe_int) (pa_cons (pe_callTy call_tuple_of rfl T.n_tuple (by decide +kernel) (pa_cons (pe_lc (own := [("_law_part", 5)]) (g := gName 5) (te := (tSl (rSlA W.K) (tVar 5) (tPart (tC (.int 1))) tNoPart)) (tt := tYes) rfl nd (pi_tup (pe_ix ix_tup (pv 1) pe_int (fun _ _ => rfl))) (blkOk_by (own := [("_law_part", 5)]) (N := N__law_changed) (sc := defScope s__law_changed) (by decide +kernel)) (fun _ _ _ _ _ => (pg_name (i := 5) nd rfl (by first | exact Or.inl rfl | exact Or.inr rfl))) (fun _ _ _ _ _ => pts_nil) (fun _ _ _ _ _ => (pe_slice sl_tupA (pv 5) (po_some pe_int) po_none))) pa_nil)) (pa_cons (pe_op op_repE (pe_tup (pa_cons (pe_ix ix_tup (pv 1) pe_int (fun _ _ => rfl)) pa_nil)) pe_int) pa_nil)))))) pa_nil)))
      (pss_cons (ps_expr (pe_bm PySem.F.plainAttrs_list PySem.F.slot_list_append PySem.F.type_list_append mt_append (pv 3) (pa_cons (pe_lst (pa_cons (pe_op op_catA (pe_ix ix_tup (pv 1) pe_int (fun _ _ => rfl)) (pe_tup (pa_cons (pe_tup (pa_cons (pe_tup (pa_cons pe_int (pa_cons pe_int pa_nil))) (pa_cons (pe_tup (pa_cons pe_int (pa_cons pe_int pa_nil))) pa_nil))) pa_nil))) (pa_cons (pe_slice sl_tupA (pe_ix ix_tup (pv 1) pe_int (fun _ _ => rfl)) po_none (po_some (pe_un un_neg pe_int))) (pa_cons (pe_callTy call_tuple_of rfl T.n_tuple (by decide +kernel) (pa_cons (pe_lc (own := [("_law_span_here", 6)]) (g := gName 6) (te := (tRev W.K (tVar 6))) (tt := tYes) rfl nd (pi_tup (pe_ix ix_tup (pv 1) pe_int (fun _ _ => rfl))) (blkOk_by (own := [("_law_span_here", 6)]) (N := N__law_changed) (sc := defScope s__law_changed) (by decide +kernel)) (fun _ _ _ _ _ => (pg_name (i := 6) nd rfl (by first | exact Or.inl rfl | exact Or.inr rfl))) (fun _ _ _ _ _ => pts_nil) (fun _ _ _ _ _ => (pe_rev (pv 6)))) pa_nil)) (pa_cons (pe_op op_repE (pe_ix ix_tup (pv 1) pe_int (fun _ _ => rfl)) pe_int) pa_nil))))) pa_nil)))
      (pss_cons (ps_set (i := 4) nd rfl (by first | exact Or.inl rfl | exact Or.inr rfl) (pe_ifExp (pt_cmpR op_eq (pe_cf f__law_sip (hr.mono (by decide)) (pa_cons (pv 0) (pa_cons pe_int pa_nil))) pe_int (nomark _)) (pe_cf f__law_of (hr.mono (by decide)) (pa_cons (pv 0) (pa_cons (pe_ix ix_list (pv 3) (pv 2) (fun _ _ => rfl)) pa_nil))) (pe_cf f__law_bent (hr.mono (by decide)) (pa_cons (pv 0) (pa_cons (pe_ix ix_tup (pv 1) (pv 2) (fun _ _ => rfl)) pa_nil)))))
      (pss_one (ps_ret (pe_op op_catA (pe_op op_catA (pe_slice sl_tupA (pv 1) po_none (po_some (pv 2))) (pe_tup (pa_cons (pv 4) pa_nil))) (pe_slice sl_tupA (pv 1) (po_some (pe_op op_add (pv 2) pe_int)) po_none))))))))), ?_⟩
  rintro c ds P E σ H Q ⟨a, xs, pps, bx, rfl, rfl, hok, hP⟩ a0 k
  obtain ⟨⟨tb, db⟩, ⟨tp, dp⟩, ⟨tx, dx⟩⟩ := hok.tw
  have wb := tw_w (m := 50) (by decide) tb
  have wp := tw_w (m := 50) (by decide) tp
  have wx := tw_w (m := 50) (by decide) tx
  have lx := hok.l6
  have l2 := hok.l2
  have lp := hok.p3
  have lpb := hok.pb
  have nps : ∀ d ∈ pps.map nums, d.nb = 0 := fun d hd => by
    obtain ⟨p, hp, rfl⟩ := List.mem_map.mp hd
    exact nums_nb (hok.ps p hp).2
  have nbx : ∀ d ∈ bx.map pr, d.nb = 0 := fun d hd => by
    obtain ⟨s, hs, rfl⟩ := List.mem_map.mp hd
    exact pr_nb (hok.bs s hs)
  have np : (D.tup (pps.map nums)).nb = 0 := by rw [nb_tup]; exact nbs_zero.mpr nps
  have nx : (D.tup (bx.map pr)).nb = 0 := by rw [nb_tup]; exact nbs_zero.mpr nbx
  refine q_asg a0 (P := fun d => ∃ j : Nat, d = .int j ∧ j < 3) (en_callC (ad_cons (ed_var rfl) (ad_cons ed_int ad_nil)) ⟨a, 3, rfl, rfl, by decide, by decide, fun i i0 i1 => ⟨i.toNat, by congr 1; omega, by omega⟩⟩) fun d σ1 H1 ⟨j, e, hj⟩ a1 => ?_
  subst e
  have fd11 : Sm ((-1, 1) : Q2) := ⟨by decide, Nat.one_dvd _, by decide, by decide⟩
  refine q_mkM a1 rfl (ad_cons (ed_lst (ad_cons (ed_slT (ds := xs.map fd) (ed_ixT (ed_var rfl) ed_int rfl) od_none (od_some (i := (1 : Nat)) ed_int)) (ad_cons (ed_op (ed_ixT (ed_var rfl) ed_int rfl) ed_int (rop_repE (xs := xs.map fd) (by decide) (by decide) (by rw [List.length_map]; omega)))
    (ad_cons (ed_op (ed_slT (ds := xs.map fd) (ed_ixT (ed_var rfl) ed_int rfl) od_none (od_some (ed_neg ed_int))) (ed_tup (ad_cons (ed_tup (ad_cons (ed_neg ed_int) (ad_cons ed_int ad_nil))) ad_nil)) (rop_catT (by rw [cut_init, List.length_dropLast, List.length_map]; simp; omega)))
    (ad_cons (ed_op (ed_slT (ds := xs.map fd) (ed_ixT (ed_var rfl) ed_int rfl) od_none (od_some (ed_neg ed_int))) (ed_tup (ad_cons (ed_tup (ad_cons ed_int (ad_cons ed_int ad_nil))) ad_nil)) (rop_catT (by rw [cut_init, List.length_dropLast, List.length_map]; simp; omega))) ad_nil))))) ad_nil) (fun ds e => by rw [e]; simp) fun l ds σ2 H2 e a2 => ?_
  subst e
  refine q_app a2 rfl (by simp) (ed_var rfl) (ed_lst (ad_cons (ed_op (ed_ixT (ed_var rfl) ed_int rfl) (ed_tup (ad_cons (ed_ixT (ed_var rfl) ed_int rfl) ad_nil)) (rop_catT (xs := pps.map nums) (by rw [List.length_map]; simp; omega)))
    (ad_cons (ed_slT (ds := pps.map nums) (ed_ixT (ed_var rfl) ed_int rfl) od_none (od_some (ed_neg ed_int)))
    (ad_cons (ed_op (ed_ixT (ed_var rfl) ed_int rfl) ed_int (rop_repE (xs := pps.map nums) (by decide) (by decide) (by rw [List.length_map]; omega)))
    (ad_cons (ed_cb (ad_cons (ed_lcT (xs := pps.map nums) (g := tailD) (ed_ixT (ed_var rfl) ed_int rfl) (by rw [List.length_map]; omega) (by decide) fun x hx => by
      obtain ⟨p, hp, rfl⟩ := List.mem_map.mp hx
      exact Ed.to (ed_slT (ds := p.map fd) (ed_var rfl) (od_some (i := (1 : Nat)) ed_int) od_none) (congrArg D.tup cut_from)) ad_nil) rca_tupL)
    (ad_cons (ed_op (ed_tup (ad_cons (ed_ixT (ed_var rfl) ed_int rfl) ad_nil)) ed_int (rop_repE (xs := [nums xs]) (by decide) (by decide) (by simp))) ad_nil)))))) fun d H3 e a3 => ?_
  subst e
  refine q_app a3 rfl (by simp) (ed_var rfl) (ed_lst (ad_cons (ed_op (ed_ixT (ed_var rfl) ed_int rfl) (ed_tup (ad_cons (ed_tup (ad_cons (ed_tup (ad_cons ed_int (ad_cons ed_int ad_nil))) (ad_cons (ed_tup (ad_cons ed_int (ad_cons ed_int ad_nil))) ad_nil))) ad_nil)) (rop_catT (xs := bx.map pr) (by rw [List.length_map]; simp; omega)))
    (ad_cons (ed_slT (ds := bx.map pr) (ed_ixT (ed_var rfl) ed_int rfl) od_none (od_some (ed_neg ed_int)))
    (ad_cons (ed_cb (ad_cons (ed_lcT (xs := bx.map pr) (g := revD) (ed_ixT (ed_var rfl) ed_int rfl) (by rw [List.length_map]; omega) (by decide) fun x hx => by
      obtain ⟨s, hs, rfl⟩ := List.mem_map.mp hx
      exact ed_rev (ed_var rfl)) ad_nil) rca_tupL)
    (ad_cons (ed_op (ed_ixT (ed_var rfl) ed_int rfl) ed_int (rop_repE (xs := bx.map pr) (by decide) (by decide) (by rw [List.length_map]; omega))) ad_nil))))) fun d H4 e a4 => ?_
  subst e
  have wt : ∀ es : List D, es.length ≤ 50 → (∀ x ∈ es, D.w 50 x = true) → D.w 50 (.tup es) = true := fun es h1 h2 => w_tup.mpr ⟨h1, h2⟩
  have wbs := (w_tup.mp wb).2
  have wps := (w_tup.mp wp).2
  have wxs := (w_tup.mp wx).2
  have cw : D.w 50 (fd (-1, 1)) = true ∧ D.w 50 (fd (0, 1)) = true ∧ D.w 50 (pr ((0, 1), (1, 1))) = true := by decide +kernel
  have s01 : Sm ((0, 1) : Q2) := ⟨by decide, Nat.one_dvd _, by decide, by decide⟩
  have s11 : Sm ((1, 1) : Q2) := ⟨by decide, Nat.one_dvd _, by decide, by decide⟩
  have nbt : ∀ es : List D, (∀ x ∈ es, x.nb = 0) → (D.tup es).nb = 0 := fun es h => by rw [nb_tup]; exact nbs_zero.mpr h
  have wfr : D.w 50 (.tup (xs.map fd)) = true := wb
  have lxm : (xs.map fd).length = xs.length := List.length_map ..
  have lpm : (pps.map nums).length = pps.length := List.length_map ..
  have lbm : (bx.map pr).length = bx.length := List.length_map ..
  -- what is put into the place j
  have oddOf : ∀ x, (j = 0 → x ∈ [D.tup (cutD (xs.map fd) none (some ((1 : Nat) : Int))), .tup (List.replicate (Int.toNat 4) (xs.map fd)).flatten, .tup (cutD (xs.map fd) none (some (-1)) ++ [fd (-1, 1)]), .tup (cutD (xs.map fd) none (some (-1)) ++ [fd (0, 1)])]) →
      (j = 1 → x ∈ [D.tup (pps.map nums ++ [nums xs]), .tup (cutD (pps.map nums) none (some (-1))), .tup (List.replicate (Int.toNat 3) (pps.map nums)).flatten, .tup ((pps.map nums).map tailD), .tup (List.replicate (Int.toNat 4) [nums xs]).flatten]) →
      (j = 2 → x ∈ [D.tup (bx.map pr ++ [pr ((0, 1), (1, 1))]), .tup (cutD (bx.map pr) none (some (-1))), .tup ((bx.map pr).map revD), .tup (List.replicate (Int.toNat 2) (bx.map pr)).flatten]) → FrOk bx j x := by
    intro x q0 q1 q2
    refine ⟨?_, fun h => ?_, fun h => ?_⟩
    · rcases j with _ | _ | _ | j
      · have q := q0 rfl
        simp only [List.mem_cons, List.not_mem_nil, or_false] at q
        rcases q with rfl | rfl | rfl | rfl
        · exact wt _ (Nat.le_trans cutD_len (by omega)) fun y hy => wbs y (cutD_mem hy)
        · exact wt _ (by rw [rep_len, lxm]; show 4 * _ ≤ _; omega) fun y hy => wbs y (rep_mem hy)
        · refine wt _ (by rw [List.length_append]; have := cutD_len (ds := xs.map fd) (lo := none) (hi := some (-1)); simp; omega) fun y hy => ?_
          rcases List.mem_append.mp hy with z | z
          · exact wbs y (cutD_mem z)
          · rw [List.mem_singleton.mp z]; exact cw.1
        · refine wt _ (by rw [List.length_append]; have := cutD_len (ds := xs.map fd) (lo := none) (hi := some (-1)); simp; omega) fun y hy => ?_
          rcases List.mem_append.mp hy with z | z
          · exact wbs y (cutD_mem z)
          · rw [List.mem_singleton.mp z]; exact cw.2.1
      · have q := q1 rfl
        simp only [List.mem_cons, List.not_mem_nil, or_false] at q
        rcases q with rfl | rfl | rfl | rfl | rfl
        · refine wt _ (by rw [List.length_append, lpm]; simp; omega) fun y hy => ?_
          rcases List.mem_append.mp hy with z | z
          · exact wps y z
          · rw [List.mem_singleton.mp z]; exact wb
        · exact wt _ (Nat.le_trans cutD_len (by omega)) fun y hy => wps y (cutD_mem hy)
        · exact wt _ (by rw [rep_len, lpm]; show 3 * _ ≤ _; omega) fun y hy => wps y (rep_mem hy)
        · refine wt _ (by rw [List.length_map, lpm]; omega) fun y hy => ?_
          obtain ⟨z, hz, rfl⟩ := List.mem_map.mp hy
          obtain ⟨p, hp, rfl⟩ := List.mem_map.mp hz
          have := w_tup.mp (wps _ hz)
          exact wt _ (by rw [List.length_drop]; omega) fun y hy => this.2 y (List.mem_of_mem_drop hy)
        · exact wt _ (by rw [rep_len]; show 4 * 1 ≤ 50; decide) fun y hy => by rw [List.mem_singleton.mp (rep_mem hy)]; exact wb
      · have q := q2 rfl
        simp only [List.mem_cons, List.not_mem_nil, or_false] at q
        rcases q with rfl | rfl | rfl | rfl
        · refine wt _ (by rw [List.length_append, lbm]; simp; omega) fun y hy => ?_
          rcases List.mem_append.mp hy with z | z
          · exact wxs y z
          · rw [List.mem_singleton.mp z]; exact cw.2.2
        · exact wt _ (Nat.le_trans cutD_len (by omega)) fun y hy => wxs y (cutD_mem hy)
        · refine wt _ (by rw [List.length_map, lbm]; omega) fun y hy => ?_
          obtain ⟨z, hz, rfl⟩ := List.mem_map.mp hy
          obtain ⟨s, hs, rfl⟩ := List.mem_map.mp hz
          have := w_tup.mp (wxs _ hz)
          exact wt _ (by rw [List.length_reverse]; exact this.1) fun y hy => this.2 y (List.mem_reverse.mp hy)
        · exact wt _ (by rw [rep_len, lbm]; show 2 * _ ≤ _; omega) fun y hy => wxs y (rep_mem hy)
      · omega
    · have q := q1 h
      simp only [List.mem_cons, List.not_mem_nil, or_false] at q
      rcases q with rfl | rfl | rfl | rfl | rfl
      · exact Or.inr ⟨_, rfl, by rw [List.length_append, lpm]; simp; omega⟩
      · exact Or.inl (by rw [nbt _ fun y hy => nps y (cutD_mem hy)]; decide)
      · exact Or.inl (by rw [nbt _ fun y hy => nps y (rep_mem hy)]; decide)
      · refine Or.inl (by
          rw [nbt _ fun y hy => ?_]
          · decide
          · obtain ⟨z, hz, rfl⟩ := List.mem_map.mp hy
            have h0 := nps z hz
            obtain ⟨p, hp, rfl⟩ := List.mem_map.mp hz
            have h0' : (D.tup (p.map fd)).nb = 0 := h0
            rw [nb_tup] at h0'
            exact nbt _ fun y hy => nbs_zero.mp h0' y (List.mem_of_mem_drop hy))
      · exact Or.inr ⟨_, rfl, by rw [rep_len]; show _ < 4 * 1; omega⟩
    · have q := q2 h
      simp only [List.mem_cons, List.not_mem_nil, or_false] at q
      rcases q with rfl | rfl | rfl | rfl
      · rw [nbt _ fun y hy => ?_]
        · decide
        · rcases List.mem_append.mp hy with z | z
          · exact nbx y z
          · rw [List.mem_singleton.mp z]; exact pr_nb ⟨s01, s11⟩
      · rw [nbt _ fun y hy => nbx y (cutD_mem hy)]; decide
      · rw [nbt _ fun y hy => ?_]
        · decide
        · obtain ⟨z, hz, rfl⟩ := List.mem_map.mp hy
          have h0 := nbx z hz
          obtain ⟨s, hs, rfl⟩ := List.mem_map.mp hz
          have h0' : (D.tup [fd s.1, fd s.2]).nb = 0 := h0
          rw [nb_tup] at h0'
          exact nbt _ fun y hy => nbs_zero.mp h0' y (List.mem_reverse.mp hy)
      · rw [nbt _ fun y hy => nbx y (rep_mem hy)]; decide
  have bentOf : ∀ (d d' : D), Bends d d' → (j = 0 → d = nums xs) → (j = 1 → d = .tup (pps.map nums)) → (j = 2 → d = .tup (bx.map pr)) → FrOk bx j d' := fun d d' hb q0 q1 q2 => ⟨hb.1, fun h => Or.inl (hb.2 (by rw [q1 h]; exact np)), fun h => hb.2 (by rw [q2 h]; exact nx)⟩
  have two : ∀ {δ : Sl} {ta : TA} {m : Option (Addr × List D)}, Ad ⟨W.K, W.C, some a, m⟩ ta δ [.adr a, .int 2] → Tn ⟨W.K, W.C, some a, m⟩ (tTest (tOp rEq (tCall (spU W.K W.C R__law_sip) [] E0 ta) (tC (.int 0)))) δ (fun _ => True) := fun h => tn_test (P := fun d => ∃ b, d = .bl b) (en_op (A := fun d => ∃ i : Int, d = .int i) (en_callC h ⟨a, 2, rfl, rfl, by decide, by decide, fun i _ _ => ⟨i, rfl⟩⟩) (fun _ _ => ed_int) fun x y ⟨i, hx⟩ hy => by
    subst hx hy
    exact Rop.imp rop_eqI fun d e => ⟨_, e⟩) fun d ⟨b, e⟩ => ⟨b, e, trivial⟩
  rcases j with _ | _ | _ | j
  · refine q_asg a4 (P := FrOk bx 0) (en_if (T := fun _ => True) (two (ad_cons (ed_var rfl) (ad_cons ed_int ad_nil))) (fun _ => en_callC (ad_cons (ed_var rfl) (ad_cons (ed_op (ed_var rfl) (ed_var rfl) (rop_ixM rfl (atI_nat (j := 0) rfl))) ad_nil)) ⟨a, _, rfl, rfl, by simp, by simp, fun x hx => oddOf x (fun _ => hx) (fun h => by cases h) (fun h => by cases h)⟩)
      fun _ => en_callC (ad_cons (ed_var rfl) (ad_cons (ed_ixT (ed_var rfl) (ed_var rfl) (atI_nat (j := 0) rfl)) ad_nil)) ⟨a, nums xs, rfl, rfl, tb, by omega, fun d' h => bentOf _ d' h (fun _ => rfl) (fun h => by cases h) (fun h => by cases h)⟩) fun f σ5 H5 hf a5 => ?_
    refine x_ret a5 (En.of (ed_op (ed_op (ed_slT (ds := [nums xs, .tup (pps.map nums), .tup (bx.map pr)]) (ed_var rfl) od_none (od_some (i := ((0 : Nat) : Int)) (ed_var rfl))) (ed_tup (ad_cons (ed_var rfl) ad_nil)) (rop_catT (by rw [cut_to]; simp))) (ed_slT (ds := [nums xs, .tup (pps.map nums), .tup (bx.map pr)]) (ed_var rfl) (od_some (i := ((1 : Nat) : Int)) (Ed.to (ed_add (ed_var rfl) ed_int) rfl)) od_none) (rop_catT (by rw [cut_to, cut_from]; simp))) ?_) k
    rw [cut_to, cut_from]
    exact hP f _ _ ⟨hf.w, wp, wx, Or.inr ⟨rfl, rfl⟩, Or.inl (by rw [np, nx]; decide)⟩
  · refine q_asg a4 (P := FrOk bx 1) (en_if (T := fun _ => True) (two (ad_cons (ed_var rfl) (ad_cons ed_int ad_nil))) (fun _ => en_callC (ad_cons (ed_var rfl) (ad_cons (ed_op (ed_var rfl) (ed_var rfl) (rop_ixM rfl (atI_nat (j := 1) rfl))) ad_nil)) ⟨a, _, rfl, rfl, by simp, by simp, fun x hx => oddOf x (fun h => by cases h) (fun _ => hx) (fun h => by cases h)⟩)
      fun _ => en_callC (ad_cons (ed_var rfl) (ad_cons (ed_ixT (ed_var rfl) (ed_var rfl) (atI_nat (j := 1) rfl)) ad_nil)) ⟨a, .tup (pps.map nums), rfl, rfl, tp, by omega, fun d' h => bentOf _ d' h (fun h => by cases h) (fun _ => rfl) (fun h => by cases h)⟩) fun f σ5 H5 hf a5 => ?_
    refine x_ret a5 (En.of (ed_op (ed_op (ed_slT (ds := [nums xs, .tup (pps.map nums), .tup (bx.map pr)]) (ed_var rfl) od_none (od_some (i := ((1 : Nat) : Int)) (ed_var rfl))) (ed_tup (ad_cons (ed_var rfl) ad_nil)) (rop_catT (by rw [cut_to]; simp))) (ed_slT (ds := [nums xs, .tup (pps.map nums), .tup (bx.map pr)]) (ed_var rfl) (od_some (i := ((2 : Nat) : Int)) (Ed.to (ed_add (ed_var rfl) ed_int) rfl)) od_none) (rop_catT (by rw [cut_to, cut_from]; simp))) ?_) k
    rw [cut_to, cut_from]
    refine hP _ f _ ⟨wb, hf.w, wx, Or.inl rfl, ?_⟩
    rcases hf.p rfl with q | ⟨ps, q1, q2⟩
    · exact Or.inl (by rw [nx]; omega)
    · exact Or.inr ⟨ps, q1, rfl, q2⟩
  · refine q_asg a4 (P := FrOk bx 2) (en_if (T := fun _ => True) (two (ad_cons (ed_var rfl) (ad_cons ed_int ad_nil))) (fun _ => en_callC (ad_cons (ed_var rfl) (ad_cons (ed_op (ed_var rfl) (ed_var rfl) (rop_ixM rfl (atI_nat (j := 2) rfl))) ad_nil)) ⟨a, _, rfl, rfl, by simp, by simp, fun x hx => oddOf x (fun h => by cases h) (fun h => by cases h) (fun _ => hx)⟩)
      fun _ => en_callC (ad_cons (ed_var rfl) (ad_cons (ed_ixT (ed_var rfl) (ed_var rfl) (atI_nat (j := 2) rfl)) ad_nil)) ⟨a, .tup (bx.map pr), rfl, rfl, tx, by omega, fun d' h => bentOf _ d' h (fun h => by cases h) (fun h => by cases h) (fun _ => rfl)⟩) fun f σ5 H5 hf a5 => ?_
    refine x_ret a5 (En.of (ed_op (ed_op (ed_slT (ds := [nums xs, .tup (pps.map nums), .tup (bx.map pr)]) (ed_var rfl) od_none (od_some (i := ((2 : Nat) : Int)) (ed_var rfl))) (ed_tup (ad_cons (ed_var rfl) ad_nil)) (rop_catT (by rw [cut_to]; simp))) (ed_slT (ds := [nums xs, .tup (pps.map nums), .tup (bx.map pr)]) (ed_var rfl) (od_some (i := ((3 : Nat) : Int)) (Ed.to (ed_add (ed_var rfl) ed_int) rfl)) od_none) (rop_catT (by rw [cut_to, cut_from]; simp))) ?_) k
    rw [cut_to, cut_from]
    exact hP _ _ f ⟨wb, wp, hf.w, Or.inl rfl, Or.inl (by rw [np]; have := hf.x rfl; omega)⟩
  · omega
end
end K10
set_option Elab.async false
set_option linter.all false
set_option maxRecDepth 100000
set_option maxHeartbeats 4000000
/-! What is due. -/
namespace K10
open PySem PySem.Spec PyProof.Rows L2 StX RZ
/-! ### what is valid -/
theorem areN_inv {lo hi : Nat} {d : D} (h : areN lo hi d = true) : ∃ xs : List Q2, d = nums xs ∧ lo ≤ xs.length ∧ xs.length ≤ hi ∧ ∀ x ∈ xs, Fq 40 x := by
  unfold areN at h
  split at h
  · rename_i ds
    simp only [Bool.and_eq_true, decide_eq_true_eq] at h
    obtain ⟨⟨h1, h2⟩, h3⟩ := h
    obtain ⟨xs, e, hl, hx⟩ := nums_of (ds := ds) (Pp := fun x => Fq 40 x) fun d hd => by
      obtain ⟨x, e, q1, _, q2, q3⟩ := short_inv (List.all_eq_true.mp h3 d hd)
      exact ⟨x, e, short_fq q1 q2 q3⟩
    exact ⟨xs, by rw [e]; rfl, by omega, by omega, hx⟩
  · cases h
theorem stretch_inv {d : D} (h : isStretch d = true) : ∃ s : Q2 × Q2, d = pr s ∧ Fq 40 s.1 ∧ Fq 40 s.2 := by
  unfold isStretch at h
  split at h
  · rename_i x y
    simp only [Bool.and_eq_true] at h
    obtain ⟨u, rfl, u1, _, u2, u3⟩ := short_inv h.1.1
    obtain ⟨v, rfl, v1, _, v2, v3⟩ := short_inv h.1.2
    exact ⟨(u, v), rfl, short_fq u1 u2 u3, short_fq v1 v2 v3⟩
  · cases h
theorem all_of_bads {f : D → Bool} {ds : List D} {hi : Nat} (h : bads f ds hi = []) : ds.length ≤ hi ∧ ∀ d ∈ ds, f d = true := by
  have g := good_of_none h
  refine ⟨g.le, fun d hd => ?_⟩
  obtain ⟨i, hi⟩ := List.mem_iff_getElem?.mp hd
  have hl := (List.getElem?_eq_some_iff.mp hi).1
  have := (Bool.or_eq_false_iff.mp (g i hl)).2
  have e : ds.getD i .non = d := by rw [List.getD_eq_getElem?_getD, hi]; rfl
  rw [e] at this
  simpa using this
theorem pns_of {Pp : List Q2 → Prop} : ∀ {ds : List D}, (∀ d ∈ ds, ∃ x, d = nums x ∧ Pp x) → ∃ xs : List (List Q2), ds = xs.map nums ∧ xs.length = ds.length ∧ ∀ x ∈ xs, Pp x
  | [], _ => ⟨[], rfl, rfl, fun _ h => nomatch h⟩
  | d :: ds, h => by
    obtain ⟨x, e, hx⟩ := h d List.mem_cons_self
    obtain ⟨xs, e2, hl, hs⟩ := pns_of (ds := ds) fun d hd => h d (List.mem_cons_of_mem _ hd)
    exact ⟨x :: xs, by rw [e, e2]; rfl, by rw [List.length_cons, hl]; rfl, fun y hy => by
      rcases List.mem_cons.mp hy with z | z
      · rw [z]; exact hx
      · exact hs y z⟩
theorem prs_of {Pp : Q2 × Q2 → Prop} : ∀ {ds : List D}, (∀ d ∈ ds, ∃ x, d = pr x ∧ Pp x) → ∃ xs : List (Q2 × Q2), ds = xs.map pr ∧ xs.length = ds.length ∧ ∀ x ∈ xs, Pp x
  | [], _ => ⟨[], rfl, rfl, fun _ h => nomatch h⟩
  | d :: ds, h => by
    obtain ⟨x, e, hx⟩ := h d List.mem_cons_self
    obtain ⟨xs, e2, hl, hs⟩ := prs_of (ds := ds) fun d hd => h d (List.mem_cons_of_mem _ hd)
    exact ⟨x :: xs, by rw [e, e2]; rfl, by rw [List.length_cons, hl]; rfl, fun y hy => by
      rcases List.mem_cons.mp hy with z | z
      · rw [z]; exact hx
      · exact hs y z⟩
/-- whole and right, in shape -/
structure Vld (xs : List Q2) (pps : List (List Q2)) (bx : List (Q2 × Q2)) : Prop where
  l2 : 2 ≤ xs.length
  l6 : xs.length ≤ 6
  fx : ∀ x ∈ xs, Fq 40 x
  pb : pps.length = bx.length
  p3 : pps.length ≤ 3
  fp : ∀ p ∈ pps, p.length = xs.length ∧ ∀ x ∈ p, Fq 40 x
  fb : ∀ s ∈ bx, Fq 40 s.1 ∧ Fq 40 s.2
theorem corners_at (bx : List (Q2 × Q2)) {am : List Q2} : ∀ n, n ≤ bx.length → am ∈ corners (bx.take n) → ∀ k, k < n → ∃ s, bx[k]? = some s ∧ (am[k]? = some s.1 ∨ am[k]? = some s.2) := by
  intro n
  induction n generalizing am with
  | zero => intro _ _ k hk; omega
  | succ n ih =>
    intro hn h k hk
    have hs : bx[n]? = some bx[n] := List.getElem?_eq_getElem (by omega)
    rw [corners_step hs] at h
    obtain ⟨a, ha, h2⟩ := List.mem_flatMap.mp h
    have hl := corners_len bx n (by omega) ha
    have key : ∀ e : Q2, (e = bx[n].1 ∨ e = bx[n].2) → am = a ++ [e] → ∃ s, bx[k]? = some s ∧ (am[k]? = some s.1 ∨ am[k]? = some s.2) := by
      intro e he ea
      by_cases hkn : k < n
      · obtain ⟨s, h3, h4⟩ := ih (by omega) ha k hkn
        refine ⟨s, h3, ?_⟩
        rw [ea, List.getElem?_append_left (by omega)]
        exact h4
      · have : k = n := by omega
        subst this
        refine ⟨_, hs, ?_⟩
        rw [ea, List.getElem?_append_right (by omega), hl, Nat.sub_self]
        rcases he with he | he
        · exact Or.inl (by rw [he]; rfl)
        · exact Or.inr (by rw [he]; rfl)
    rcases List.mem_cons.mp h2 with e | e
    · exact key _ (Or.inl rfl) e
    · exact key _ (Or.inr rfl) (List.mem_singleton.mp e)
/-- each amount is an end of its stretch -/
def Und : List Q2 → List (Q2 × Q2) → Prop
  | [], [] => True
  | a :: am, s :: bx => (a = s.1 ∨ a = s.2) ∧ Und am bx
  | _, _ => False
theorem und_of : ∀ {am : List Q2} {bx : List (Q2 × Q2)}, am.length = bx.length → (∀ k, k < bx.length → ∃ s, bx[k]? = some s ∧ (am[k]? = some s.1 ∨ am[k]? = some s.2)) → Und am bx
  | [], [], _, _ => trivial
  | [], _ :: _, h, _ => by cases h
  | _ :: _, [], h, _ => by cases h
  | a :: am, s :: bx, h, q => by
    refine ⟨?_, und_of (Nat.succ.inj h) fun k hk => ?_⟩
    · obtain ⟨s', h1, h2⟩ := q 0 (Nat.succ_pos _)
      have e : s = s' := by simpa using h1
      rw [← e] at h2
      rcases h2 with h2 | h2
      · exact Or.inl (by simpa using h2)
      · exact Or.inr (by simpa using h2)
    · obtain ⟨s', h1, h2⟩ := q (k + 1) (Nat.succ_lt_succ hk)
      exact ⟨s', by simpa using h1, by simpa using h2⟩
theorem und_corner {bx : List (Q2 × Q2)} {am : List Q2} (h : am ∈ corners bx) : am.length = bx.length ∧ Und am bx := by
  have e : bx.take bx.length = bx := List.take_of_length_le (Nat.le_refl _)
  have h' : am ∈ corners (bx.take bx.length) := by rw [e]; exact h
  have hl := corners_len bx bx.length (Nat.le_refl _) h'
  exact ⟨hl, und_of hl (corners_at bx bx.length (Nat.le_refl _) h')⟩
theorem und_fq : ∀ {am : List Q2} {bx : List (Q2 × Q2)}, Und am bx → (∀ s ∈ bx, Fq 40 s.1 ∧ Fq 40 s.2) → ∀ a ∈ am, Fq 40 a
  | a :: am, s :: bx, h, q, x, hx => by
    obtain ⟨h1, h2⟩ := q s List.mem_cons_self
    rcases List.mem_cons.mp hx with z | z
    · rw [z]
      rcases h.1 with e | e
      · rw [e]; exact h1
      · rw [e]; exact h2
    · exact und_fq h.2 (fun s hs => q s (List.mem_cons_of_mem _ hs)) x z
theorem nbs_ge : ∀ {ds : List D} {d : D}, d ∈ ds → d.nb ≤ D.nbs ds
  | a :: r, d, h => by
    rw [nbs_cons]
    rcases List.mem_cons.mp h with z | z
    · rw [z]; omega
    · have := nbs_ge z; omega
theorem wq_nb {x : Q2} (h : 0 < x.2) : wq x ≤ 6 + 34 * (fd x).nb := by
  unfold wq
  split
  · omega
  · have e : (fd x).nb = (D.int x.1).nb + ((D.int x.2).nb + 0) := by
      show (D.tup [.int x.1, .int x.2]).nb = _
      rw [nb_tup, nbs_cons, nbs_cons, nbs_nil]
    have e2 : (D.int x.2).nb = 1 := by
      rw [D.nb, if_neg (by omega)]
    omega
theorem dsum_nb {i m : Nat} : ∀ {pps : List (List Q2)} {am : List Q2} {bx : List (Q2 × Q2)}, Und am bx → pps.length = bx.length → (∀ p ∈ pps, p.length = m ∧ ∀ x ∈ p, Fq 40 x) → (∀ s ∈ bx, Fq 40 s.1 ∧ Fq 40 s.2) → i < m →
    dsum (pps.zip am) i ≤ 12 * pps.length + 34 * (D.nbs (pps.map nums) + D.nbs (bx.map pr))
  | [], [], [], _, _, _, _, _ => by unfold dsum; simp
  | [], [], _ :: _, h, _, _, _, _ => h.elim
  | [], _ :: _, [], h, _, _, _, _ => h.elim
  | [], _ :: _, _ :: _, _, h, _, _, _ => by cases h
  | _ :: _, [], [], _, h, _, _, _ => by cases h
  | _ :: _, [], _ :: _, h, _, _, _, _ => h.elim
  | _ :: _, _ :: _, [], h, _, _, _, _ => h.elim
  | p :: pps, a :: am, s :: bx, h, hl, hp, hb, hi => by
    have ih := dsum_nb (pps := pps) h.2 (Nat.succ.inj hl) (fun p hp' => hp p (List.mem_cons_of_mem _ hp')) (fun s hs => hb s (List.mem_cons_of_mem _ hs)) hi
    obtain ⟨p1, p2⟩ := hp p List.mem_cons_self
    obtain ⟨b1, b2⟩ := hb s List.mem_cons_self
    have hx : p[i]? = some p[i] := List.getElem?_eq_getElem (by omega)
    have hm := List.mem_of_getElem? hx
    have e1 : p.getD i (0, 1) = p[i] := by rw [List.getD_eq_getElem?_getD, hx]; rfl
    have q1 := wq_nb (p2 _ hm).pos
    have q2 : (fd p[i]).nb ≤ (nums p).nb := by
      unfold nums
      rw [nb_tup]
      exact nbs_ge (List.mem_map_of_mem hm)
    have q3 : wq a ≤ 6 + 34 * (pr s).nb := by
      have e : (pr s).nb = (fd s.1).nb + ((fd s.2).nb + 0) := by
        unfold pr
        rw [nb_tup, nbs_cons, nbs_cons, nbs_nil]
      rcases h.1 with z | z
      · rw [z]
        have := wq_nb b1.pos
        omega
      · rw [z]
        have := wq_nb b2.pos
        omega
    have e2 : dsum ((p :: pps).zip (a :: am)) i = wq (p.getD i (0, 1)) + wq a + dsum (pps.zip am) i := by
      unfold dsum
      rw [List.zip_cons_cons, List.map_cons, List.sum_cons]
    rw [e2, e1, List.length_cons, List.map_cons, List.map_cons, nbs_cons, nbs_cons]
    omega
theorem Vld.corner {xs : List Q2} {pps : List (List Q2)} {bx : List (Q2 × Q2)} (v : Vld xs pps bx) {am : List Q2} (h : am ∈ corners bx) : ZOk xs pps am := by
  obtain ⟨hl, hu⟩ := und_corner h
  exact ⟨v.fx, by have := v.l6; omega, by have := v.pb; omega, by have := v.p3; omega, v.fp, und_fq hu v.fb⟩
theorem Vld.dok {xs : List Q2} {pps : List (List Q2)} {bx : List (Q2 × Q2)} (v : Vld xs pps bx) (hn : (D.tup (pps.map nums)).nb + (D.tup (bx.map pr)).nb ≤ 1) {am : List Q2} (h : am ∈ corners bx) : DOk xs pps am := by
  obtain ⟨hl, hu⟩ := und_corner h
  intro i hi
  have := dsum_nb hu v.pb v.fp v.fb hi
  rw [nb_tup, nb_tup] at hn
  have := v.p3
  omega
/-- a rig that is judged -/
structure JOk (b p x : D) : Prop where
  wb : D.w 50 b = true
  wp : D.w 50 p = true
  wx : D.w 50 x = true
  px : p.nb + x.nb ≤ 1 ∨ ∃ ps xs, p = .tup ps ∧ x = .tup xs ∧ xs.length < ps.length
/-- the kind of what is wrong, and its index -/
inductive Er where
  | numbers (d : D)
  | parts (d : D)
  | box (d : D)
  | low
def firstD : List Nat → D → D
  | [], e => e
  | k :: _, _ => .int (k : Int)
def errOf (b p x : D) : Option Er :=
  if areN 2 6 b = false then some (.numbers (fault isShort 6 b)) else
  match b, p with
  | .tup bs, .tup ps =>
    if bads (areN bs.length bs.length) ps 3 ≠ [] then some (.parts (firstD (bads (areN bs.length bs.length) ps 3) .non)) else
    match x with
    | .tup xs =>
      if bads isStretch xs ps.length ≠ [] ∨ xs.length < ps.length then some (.box (firstD (bads isStretch xs ps.length) .non)) else
      if highB (bs.map unfd) (ps.map fun d => match d with | .tup l => l.map unfd | _ => []) (xs.map fun d => match d with | .tup [u, v] => (unfd u, unfd v) | _ => ((0, 1), (0, 1))) then none else some .low
    | _ => some (.box .non)
  | _, _ => some (.parts .non)
def rpT : D → PySem.Str
  | .int i => strI i
  | _ => ("None" : PySem.Str)
def dueD : Option Er → List D
  | none => []
  | some (.numbers d) => [.tup [.str ("numbers" : PySem.Str), .str (rpT d)]]
  | some (.parts d) => [.tup [.str ("parts" : PySem.Str), .str (rpT d)]]
  | some (.box d) => [.tup [.str ("box" : PySem.Str), .str (rpT d)]]
  | some .low => [.tup [.str ("low" : PySem.Str), .str ("" : PySem.Str)]]
abbrev R__law_due : Rel := fun _ ds P => ∃ b p x : D, ds = [.tup [b, p, x]] ∧ JOk b p x ∧ P (.lst (dueD (errOf b p x)))
abbrev s__law_due : Stmt := top 98
abbrev N__law_due : List PySem.Str := ["_law_rig_here", "_law_start", "_law_pieces", "_law_frame", "_law_wrong", "_law_k"]
theorem sc__law_due : FnScope N__law_due ["_law_rig_here"] (defScope s__law_due) := ⟨rfl, rfl, rfl, by decide +kernel, rfl, by decide +kernel, by decide +kernel⟩
abbrev F__law_due (W : Wd) : Prop := Fo W 6 "_law_due" ["_law_rig_here"] R__law_due
section
variable {X : Cx}
theorem call_reprNI : CallR X (.builtin "repr") (fun xs H Q => (∃ i, xs = [.int i] ∧ i.natAbs.log2 < 1920 ∧ Q (.str (toString i)) H) ∨ (xs = [.non] ∧ Q (.str ("None" : PySem.Str)) H)) := by
  intro pins s σ H xs us Q I r h
  rcases h with ⟨i, rfl, hz, q⟩ | ⟨rfl, q⟩
  · obtain ⟨u, rfl, t, rfl⟩ := vals1 r
    exact PySem.P.repr_of_int hz ⟨.str _, H, I.tok _, ⟨_, rfl⟩, q⟩
  · obtain ⟨u, rfl, rfl⟩ := vals1 r
    exact PySem.P.repr_of_none ⟨.str _, H, I.tok _, ⟨_, rfl⟩, q⟩
end
/-- an index, or none -/
def IxD (d : D) : Prop := d = .non ∨ ∃ k : Nat, d = .int (k : Int) ∧ k ≤ 1000
section
variable {p : Pm} {E : Ent} {δ : Sl} {σ : L2.St} {H : Hp} {te : TE} {D' : Ends} {u : TS} {i j l : Nat} {d : D}
theorem ed_repr (h : Ed p te δ d) (hd : IxD d) : Ed p (tCB (fun xs H Q => (∃ i : Int, xs = [.int i] ∧ i.natAbs.log2 < 1920 ∧ Q (.str (toString i)) H) ∨ (xs = [.non] ∧ Q (.str ("None" : PySem.Str)) H)) (tCons te tNil)) δ (.str (rpT d)) :=
  ed_cb (ad_cons h ad_nil) (by
    rcases hd with rfl | ⟨k, rfl, hk⟩
    · exact rca_val fun G H vs s rm h1 => by
        cases h1 with
        | cons h1 h2 =>
          cases h2
          cases h1
          exact ⟨_, .str _, fun Q q => Or.inr ⟨rfl, q⟩⟩
    · exact rca_val fun G H vs s rm h1 => by
        cases h1 with
        | cons h1 h2 =>
          cases h2
          cases h1
          exact ⟨_, .str _, fun Q q => Or.inl ⟨_, rfl, bt_log (Bt.le (a := 10) (show (k : Int).natAbs < 2 ^ 10 by omega) (by decide)), q⟩⟩)
/-- a, b, c = t -/
theorem q_unp3 {d1 d2 d3 : D} (a : At p E δ σ H) (h : Ed p te δ (.tup [d1, d2, d3])) (k : ∀ σ' H', At p E (((δ.set i (some d1)).set j (some d2)).set l (some d3)) σ' H' → u D' σ' H') :
    tSeq (tAsg te (gTup p.K 3 (gCons (gName i) (gCons (gName j) (gCons (gName l) gNil))))) u D' σ H := by
  unfold tSeq tAsg
  refine a.run h fun v d G' H' st sb sd rc rm da pd => ?_
  subst pd
  obtain ⟨b, xs, rfl, q1, q2⟩ := da.tup_inv
  cases q2 with
  | @cons x1 _ _ _ e1 q2 =>
    cases q2 with
    | @cons x2 _ _ _ e2 q2 =>
      cases q2 with
      | @cons x3 _ _ _ e3 q2 =>
        cases q2
        have fin := k (((σ.set i (some x1)).set j (some x2)).set l (some x3)) H' ⟨⟨G', st, sb, ((sd.set i e1).set j e2).set l e3, rc, rm⟩, a.rc0, a.m0⟩
        refine ⟨b, [x1, x2, x3], rfl, sqT_mono st.sub q1, rfl, ?_⟩
        refine ⟨x1, [x2, x3], rfl, ?_⟩
        refine ⟨x2, [x3], rfl, ?_⟩
        refine ⟨x3, [], rfl, ?_⟩
        exact ⟨rfl, fin⟩
end
theorem bads_le {f : D → Bool} {ds : List D} {hi k : Nat} {r : List Nat} (h : bads f ds hi = k :: r) : k < ds.length := by
  have : k ∈ bads f ds hi := by rw [h]; exact List.mem_cons_self
  exact List.mem_range.mp (List.mem_filter.mp this).1
theorem bads_iff {f : D → Bool} {ds : List D} {hi : Nat} : bads f ds hi = [] ↔ ds.length ≤ hi ∧ ∀ d ∈ ds, f d = true := by
  constructor
  · exact all_of_bads
  · rintro ⟨h1, h2⟩
    refine filter_none fun k hk => ?_
    have e : ds.getD k .non = ds[k] := by rw [List.getD_eq_getElem?_getD, List.getElem?_eq_getElem hk]; rfl
    rw [e, h2 _ (List.getElem_mem hk), decide_eq_false (by omega)]
    rfl
theorem areN_tup {lo hi : Nat} {ds : List D} : areN lo hi (.tup ds) = true ↔ lo ≤ ds.length ∧ bads isShort ds hi = [] := by
  rw [bads_iff]
  unfold areN
  simp only [Bool.and_eq_true, decide_eq_true_eq, List.all_eq_true]
  exact ⟨fun h => ⟨h.1.1, h.1.2, h.2⟩, fun h => ⟨⟨h.1, h.2.1⟩, h.2.2⟩⟩
/-- what first_bad tells -/
theorem first_spec {lo hi : Nat} {d : D} (hd : d.pl = true) : (areN lo hi d = true → firstBad lo hi d = []) ∧ (areN lo hi d = false → firstBad lo hi d = [fault isShort hi d] ∧ IxD (fault isShort hi d)) := by
  cases d with
  | tup ds =>
    have hl := (pl_tup hd).1
    have e1 : firstBad lo hi (.tup ds) = if bads isShort ds hi ≠ [] then ((bads isShort ds hi).map fun k : Nat => D.int (k : Int)).take 1 else if lo ≤ ds.length then [] else [.non] := rfl
    have e2 : fault isShort hi (.tup ds) = match bads isShort ds hi with
      | [] => .non
      | k :: _ => .int (k : Int) := rfl
    refine ⟨fun h => ?_, fun h => ?_⟩
    · obtain ⟨h1, h2⟩ := areN_tup.mp h
      rw [e1, if_neg (by rw [h2]; exact fun z => z rfl), if_pos h1]
    · cases hb : bads isShort ds hi with
      | nil =>
        have h1 : ¬ lo ≤ ds.length := fun z => by
          rw [areN_tup.mpr ⟨z, hb⟩] at h
          cases h
        rw [e1, e2, hb, if_neg (fun z => z rfl), if_neg h1]
        exact ⟨rfl, Or.inl rfl⟩
      | cons k r =>
        rw [e1, e2, hb, if_pos (by simp)]
        exact ⟨rfl, Or.inr ⟨k, rfl, by have := bads_le hb; omega⟩⟩
  | _ => exact ⟨fun h => (by cases h), fun _ => ⟨rfl, Or.inl rfl⟩⟩
theorem one_ok {d : D} (h : IxD d) : (D.lst [d]).ok = true ∧ SeqAt.shaped (D.lst [d]).py = true := by
  rcases h with rfl | ⟨k, rfl, _⟩
  · exact ⟨rfl, rfl⟩
  · exact ints_ok [k]
section
variable {p : Pm} {δ : Sl} {te ta : TE} {d : D}
/-- first_bad(..) != [] -/
theorem td_bad {lo hi : Nat} (hd : d.pl = true) (h : Ed p te δ (.lst (firstBad lo hi d))) : Td p (tTest (tOp (rNeD p.K) te (tLst tNil))) δ (!areN lo hi d) := by
  obtain ⟨h1, h2⟩ := first_spec (lo := lo) (hi := hi) hd
  cases q : areN lo hi d with
  | true =>
    rw [h1 q] at h
    exact Td.to (td_test (ed_op h (ed_lst ad_nil) (rop_neD rfl rfl rfl rfl))) (by rw [eqv_nil]; rfl)
  | false =>
    obtain ⟨e, ix⟩ := h2 q
    rw [e] at h
    obtain ⟨o1, s1⟩ := one_ok ix
    exact Td.to (td_test (ed_op h (ed_lst ad_nil) (rop_neD o1 rfl s1 rfl))) (by rw [eqv_nil]; rfl)
theorem td_ints {l : List Nat} (h : Ed p te δ (.lst (l.map fun k : Nat => D.int (k : Int)))) : Td p (tTest (tOp (rNeD p.K) te (tLst tNil))) δ (!l.isEmpty) := by
  obtain ⟨o1, s1⟩ := ints_ok l
  exact Td.to (td_test (ed_op h (ed_lst ad_nil) (rop_neD o1 rfl s1 rfl))) (by rw [eqv_nil]; cases l <;> rfl)
end
section
variable {W : Wd}
theorem ok__law_due (T : Fr W.mg) (hD : DefP W "_law_due" 98) (f__law_first_bad : F__law_first_bad W) (f__law_is_high : F__law_is_high W) (f__law_is_stretch : F__law_is_stretch W) : F__law_due W := by
  refine fo_mk hD sc__law_due (fun _ _ _ _ _ _ us hl => match us, hl with | [_], _ => rfl) (fun c ds P h => by obtain ⟨_, _, _, e, _⟩ := h; rw [e]; rfl) fun f cdv A outer s H E hr => ?_
  have nd := sc__law_due.nd
  refine ⟨_, PSs.nox (pss_cons (ps_asg (pv 0) (pg_tup rfl (pgs_cons (pg_name (i := 1) nd rfl (by first | exact Or.inl rfl | exact Or.inr rfl)) (pgs_cons (pg_name (i := 2) nd rfl (by first | exact Or.inl rfl | exact Or.inr rfl)) (pgs_cons (pg_name (i := 3) nd rfl (by first | exact Or.inl rfl | exact Or.inr rfl)) pgs_nil)))))
      (pss_cons (ps_set (i := 4) nd rfl (by first | exact Or.inl rfl | exact Or.inr rfl) (pe_cf f__law_first_bad (hr.mono (by decide)) (pa_cons (pv 1) (pa_cons pe_int (pa_cons pe_int pa_nil)))))
      (pss_cons (ps_if (pt_cmpR (op_neD hr.units) (pv 4) (pe_lst pa_nil) (nomark _)) (pss_one (ps_ret (pe_lst (pa_cons (pe_tup (pa_cons pe_str (pa_cons (pe_callB call_reprNI rfl T.n_repr (by decide +kernel) (pa_cons (pe_ix ix_list (pv 4) pe_int (fun _ _ => rfl)) pa_nil)) pa_nil))) pa_nil)))) pss_nil)
      (pss_cons (ps_if (pt_not (pt_val (pe_callB call_isi rfl T.n_isinstance (by decide +kernel) (pa_cons (pv 2) (pa_cons (pe_bltn (v := .ty "tuple") (u := .type "tuple") rfl T.n_tuple (by decide +kernel) rfl) pa_nil))))) (pss_one (ps_ret (pe_lst (pa_cons (pe_tup (pa_cons pe_str (pa_cons pe_str pa_nil))) pa_nil)))) pss_nil)
      (pss_cons (ps_setLc (i := 4) (own := [("_law_k", 5)]) (g := gName 5) (te := (tVar 5)) (tt := (tOr (tTest (tOp (rI0 fun i j => .bl (decide (j < i))) (tVar 5) (tC (.int 2)))) (tTest (tOp (rNeD W.K) (tCall (spU W.K W.C R__law_first_bad) [] E0 (tCons (tOp (rIxT W.K) (tVar 2) (tVar 5)) (tCons (tCB (rLenQ W.K) (tCons (tVar 1) tNil)) (tCons (tCB (rLenQ W.K) (tCons (tVar 1) tNil)) tNil)))) (tLst tNil))))) rfl nd rfl rfl (sw_true rfl rfl rfl (by decide +kernel)) (pi_range1 rfl T.n_range (pa_cons (pe_callB call_len_seq rfl T.n_len (by decide +kernel) (pa_cons (pv 2) pa_nil)) pa_nil)) (blkOk_by (own := [("_law_k", 5)]) (N := N__law_due) (sc := defScope s__law_due) (by decide +kernel)) (fun _ _ _ _ _ => (pg_name (i := 5) nd rfl (by first | exact Or.inl rfl | exact Or.inr rfl))) (fun _ _ _ _ _ => (pts_one (PW.pt (pw_or (pt_cmpR op_gt (pv 5) pe_int (nomark _)) (pw_or1 (pt_cmpR (op_neD hr.units) (pe_cf f__law_first_bad (hr.mono (by decide)) (pa_cons (pe_ix ix_tup (pv 2) (pv 5) (fun _ _ => rfl)) (pa_cons (pe_callB call_len_seq rfl T.n_len (by decide +kernel) (pa_cons (pv 1) pa_nil)) (pa_cons (pe_callB call_len_seq rfl T.n_len (by decide +kernel) (pa_cons (pv 1) pa_nil)) pa_nil)))) (pe_lst pa_nil) (nomark _))))))) (fun _ _ _ _ _ => (pv 5)))
      (pss_cons (ps_if (pt_cmpR (op_neD hr.units) (pv 4) (pe_lst pa_nil) (nomark _)) (pss_one (ps_ret (pe_lst (pa_cons (pe_tup (pa_cons pe_str (pa_cons (pe_callB call_reprNI rfl T.n_repr (by decide +kernel) (pa_cons (pe_ix ix_list (pv 4) pe_int (fun _ _ => rfl)) pa_nil)) pa_nil))) pa_nil)))) pss_nil)
      (pss_cons (ps_if (pt_not (pt_val (pe_callB call_isi rfl T.n_isinstance (by decide +kernel) (pa_cons (pv 3) (pa_cons (pe_bltn (v := .ty "tuple") (u := .type "tuple") rfl T.n_tuple (by decide +kernel) rfl) pa_nil))))) (pss_one (ps_ret (pe_lst (pa_cons (pe_tup (pa_cons pe_str (pa_cons pe_str pa_nil))) pa_nil)))) pss_nil)
      (pss_cons (ps_setLc (i := 4) (own := [("_law_k", 5)]) (g := gName 5) (te := (tVar 5)) (tt := (tOr (tTest (tOp (rI0 fun i j => .bl (decide (j ≤ i))) (tVar 5) (tCB (rLenQ W.K) (tCons (tVar 2) tNil)))) (tNot (tB (tCall (spU W.K W.C R__law_is_stretch) [] E0 (tCons (tOp (rIxT W.K) (tVar 3) (tVar 5)) tNil)))))) rfl nd rfl rfl (sw_true rfl rfl rfl (by decide +kernel)) (pi_range1 rfl T.n_range (pa_cons (pe_callB call_len_seq rfl T.n_len (by decide +kernel) (pa_cons (pv 3) pa_nil)) pa_nil)) (blkOk_by (own := [("_law_k", 5)]) (N := N__law_due) (sc := defScope s__law_due) (by decide +kernel)) (fun _ _ _ _ _ => (pg_name (i := 5) nd rfl (by first | exact Or.inl rfl | exact Or.inr rfl))) (fun _ _ _ _ _ => (pts_one (PW.pt (pw_or (pt_cmpR op_ge (pv 5) (pe_callB call_len_seq rfl T.n_len (by decide +kernel) (pa_cons (pv 2) pa_nil)) (nomark _)) (pw_or1 (pt_not (pt_val (pe_cf f__law_is_stretch (hr.mono (by decide)) (pa_cons (pe_ix ix_tup (pv 3) (pv 5) (fun _ _ => rfl)) pa_nil))))))))) (fun _ _ _ _ _ => (pv 5)))
      (pss_cons (ps_if (PW.pt (pw_or (pt_cmpR (op_neD hr.units) (pv 4) (pe_lst pa_nil) (nomark _)) (pw_or1 (pt_cmpR op_lt (pe_callB call_len_seq rfl T.n_len (by decide +kernel) (pa_cons (pv 3) pa_nil)) (pe_callB call_len_seq rfl T.n_len (by decide +kernel) (pa_cons (pv 2) pa_nil)) (nomark _))))) (pss_one (ps_ret (pe_lst (pa_cons (pe_tup (pa_cons pe_str (pa_cons (pe_callB call_reprNI rfl T.n_repr (by decide +kernel) (pa_cons (pe_ix ix_list (pe_op op_cat (pv 4) (pe_lst (pa_cons pe_non pa_nil))) pe_int (fun _ _ => rfl)) pa_nil)) pa_nil))) pa_nil)))) pss_nil)
      (pss_one (ps_ret (pe_ifExp (pt_val (pe_cf f__law_is_high (hr.mono (by decide)) (pa_cons (pv 0) pa_nil))) (pe_lst pa_nil) (pe_lst (pa_cons (pe_tup (pa_cons pe_str (pa_cons pe_str pa_nil))) pa_nil)))))))))))))), ?_⟩
  rintro c ds P E σ H Q ⟨b, p, x, rfl, hj, hP⟩ a0 k
  have lb := w_up (m := 1000) (by decide) hj.wb
  have lp := w_up (m := 1000) (by decide) hj.wp
  have lx := w_up (m := 1000) (by decide) hj.wx
  refine q_unp3 a0 (ed_var rfl) fun σ1 H1 a1 => ?_
  refine q_set a1 (ed_call (ad_cons (ed_var rfl) (ad_cons ed_int (ad_cons ed_int ad_nil))) ⟨b, 2, 6, rfl, lb, rfl⟩) fun σ2 H2 a2 => ?_
  obtain ⟨f1, f2⟩ := first_spec (lo := 2) (hi := 6) lb
  refine q_when (b := !areN 2 6 b) a2 (td_bad lb (ed_var rfl)) (fun e H3 a3 => ?_) fun e H3 a3 => ?_
  · have e' : areN 2 6 b = false := by simpa using e
    obtain ⟨g1, g2⟩ := f2 e'
    rw [g1] at a3
    refine x_ret a3 (En.of (ed_lst (ad_cons (ed_tup (ad_cons ed_str (ad_cons (ed_repr (ed_ixL (ed_var rfl) ed_int rfl) g2) ad_nil))) ad_nil)) ?_) k
    have e2 : errOf b p x = some (.numbers (fault isShort 6 b)) := by
      unfold errOf
      rw [if_pos e']
    rw [e2] at hP
    exact hP
  have e0 : areN 2 6 b = true := by simpa using e
  obtain ⟨xs, rfl, hx2, hx6, hxf⟩ := areN_inv e0
  refine q_when (b := !isTup p) a3 (td_not (td_B (ed_isTup (ed_var rfl) lp))) (fun e H4 a4 => ?_) fun e H4 a4 => ?_
  · refine x_ret a4 (En.of (ed_lst (ad_cons (ed_tup (ad_cons ed_str (ad_cons ed_str ad_nil))) ad_nil)) ?_) k
    have e2 : errOf (nums xs) p x = some (.parts .non) := by
      unfold errOf
      rw [e0, if_neg (by decide)]
      cases p <;> first | rfl | cases e
    rw [e2] at hP
    exact hP
  cases p with
  | tup ps =>
    obtain ⟨hpl, hps⟩ := pl_tup lp
    have lxm : (xs.map fd).length = xs.length := List.length_map ..
    refine q_set a4 (ed_lcRf (n := ps.length) (f := fun k => decide (3 ≤ k) || !areN (xs.map fd).length (xs.map fd).length (ps.getD k .non)) (g := fun k => .int (k : Int)) (ad_cons (ed_lenT (ed_var rfl)) ad_nil) (by omega) (by decide) (fun i hi1 => ?_) fun i hi1 _ => ed_var rfl) fun σ5 H5 a5 => ?_
    · have hil : i < ps.length := by omega
      have hx : ps[i]? = some ps[i] := List.getElem?_eq_getElem hil
      have e : ps.getD i .non = ps[i] := by rw [List.getD_eq_getElem?_getD, hx]; rfl
      have e1 : decide ((2 : Int) < (i : Int)) = decide (3 ≤ i) := decide_eq_decide.mpr (by omega)
      have hw := pls_mem hps (List.mem_of_getElem? hx)
      rw [e]
      exact Td.to (td_or (td_test (ed_gt (ed_var rfl) ed_int)) fun _ => td_bad hw (ed_call (ad_cons (ed_ixT (ed_var rfl) (ed_var rfl) (atI_nat hx)) (ad_cons (ed_lenT (ds := xs.map fd) (ed_var rfl)) (ad_cons (ed_lenT (ds := xs.map fd) (ed_var rfl)) ad_nil))) ⟨ps[i], (xs.map fd).length, (xs.map fd).length, rfl, hw, rfl⟩)) (by rw [e1])
    have ek : (List.range (Int.toNat (ps.length : Int))).filter (fun k => decide (3 ≤ k) || !areN (xs.map fd).length (xs.map fd).length (ps.getD k .non)) = bads (areN (xs.map fd).length (xs.map fd).length) ps 3 := rfl
    rw [ek] at a5
    generalize hB : bads (areN (xs.map fd).length (xs.map fd).length) ps 3 = B at a5
    refine q_when (b := !B.isEmpty) a5 (td_ints (ed_var rfl)) (fun e H6 a6 => ?_) fun e H6 a6 => ?_
    · cases B with
      | nil => cases e
      | cons k0 r =>
        have hk := bads_le hB
        refine x_ret a6 (En.of (ed_lst (ad_cons (ed_tup (ad_cons ed_str (ad_cons (ed_repr (ed_ixL (ed_var rfl) ed_int (atI_nat (j := 0) rfl)) (Or.inr ⟨k0, rfl, by omega⟩)) ad_nil))) ad_nil)) ?_) k
        have e2 : errOf (nums xs) (.tup ps) x = some (.parts (.int (k0 : Int))) := by
          unfold errOf
          rw [e0, if_neg (by decide)]
          show (if bads (areN (xs.map fd).length (xs.map fd).length) ps 3 ≠ [] then _ else _) = _
          rw [hB, if_pos (by simp)]
          rfl
        rw [e2] at hP
        exact hP
    have hB0 : B = [] := by
      cases B with
      | nil => rfl
      | cons _ _ => cases e
    subst hB0
    obtain ⟨pl3, pal⟩ := bads_iff.mp hB
    refine q_when (b := !isTup x) a6 (td_not (td_B (ed_isTup (ed_var rfl) lx))) (fun e H7 a7 => ?_) fun e H7 a7 => ?_
    · refine x_ret a7 (En.of (ed_lst (ad_cons (ed_tup (ad_cons ed_str (ad_cons ed_str ad_nil))) ad_nil)) ?_) k
      have e2 : errOf (nums xs) (.tup ps) x = some (.box .non) := by
        unfold errOf
        rw [e0, if_neg (by decide)]
        show (if bads (areN (xs.map fd).length (xs.map fd).length) ps 3 ≠ [] then _ else _) = _
        rw [hB, if_neg (fun z => z rfl)]
        cases x <;> first | rfl | cases e
      rw [e2] at hP
      exact hP
    cases x with
    | tup ts =>
      obtain ⟨htl, hts⟩ := pl_tup lx
      refine q_set a7 (ed_lcRf (n := ts.length) (f := fun k => decide (ps.length ≤ k) || !isStretch (ts.getD k .non)) (g := fun k => .int (k : Int)) (ad_cons (ed_lenT (ed_var rfl)) ad_nil) (by omega) (by decide) (fun i hi1 => ?_) fun i hi1 _ => ed_var rfl) fun σ8 H8 a8 => ?_
      · have hil : i < ts.length := by omega
        have hx : ts[i]? = some ts[i] := List.getElem?_eq_getElem hil
        have e : ts.getD i .non = ts[i] := by rw [List.getD_eq_getElem?_getD, hx]; rfl
        have e1 : decide ((ps.length : Int) ≤ (i : Int)) = decide (ps.length ≤ i) := decide_eq_decide.mpr (by omega)
        have hw := pls_mem hts (List.mem_of_getElem? hx)
        rw [e]
        exact Td.to (td_or (td_test (ed_ge (ed_var rfl) (ed_lenT (ed_var rfl)))) fun _ => td_not (td_B (ed_call (ad_cons (ed_ixT (ed_var rfl) (ed_var rfl) (atI_nat hx)) ad_nil) ⟨ts[i], rfl, hw, rfl⟩))) (by rw [e1])
      have ek2 : (List.range (Int.toNat (ts.length : Int))).filter (fun k => decide (ps.length ≤ k) || !isStretch (ts.getD k .non)) = bads isStretch ts ps.length := rfl
      rw [ek2] at a8
      generalize hB2 : bads isStretch ts ps.length = B2 at a8
      have eE : errOf (nums xs) (.tup ps) (.tup ts) = if B2 ≠ [] ∨ ts.length < ps.length then some (.box (firstD B2 .non)) else
          if highB ((xs.map fd).map unfd) (ps.map fun d => match d with | .tup l => l.map unfd | _ => []) (ts.map fun d => match d with | .tup [u, v] => (unfd u, unfd v) | _ => ((0, 1), (0, 1))) then none else some .low := by
        unfold errOf
        rw [e0, if_neg (by decide)]
        show (if bads (areN (xs.map fd).length (xs.map fd).length) ps 3 ≠ [] then _ else _) = _
        rw [hB, if_neg (fun z => z rfl)]
        show (if bads isStretch ts ps.length ≠ [] ∨ _ then _ else _) = _
        rw [hB2]
      have l2 : (B2.map fun k : Nat => D.int (k : Int)).length ≤ 1000 := by
        rw [List.length_map, ← hB2]
        unfold bads
        have := List.length_filter_le (fun k => decide (ps.length ≤ k) || !isStretch (ts.getD k .non)) (List.range ts.length)
        rw [List.length_range] at this
        omega
      have e9 : decide ((ts.length : Int) < (ps.length : Int)) = decide (ts.length < ps.length) := decide_eq_decide.mpr (by omega)
      refine q_when (b := !B2.isEmpty || decide (ts.length < ps.length)) a8 (Td.to (td_or (td_ints (ed_var rfl)) fun _ => td_test (ed_lt (ed_lenT (ed_var rfl)) (ed_lenT (ed_var rfl)))) (by rw [e9])) (fun e H9 a9 => ?_) fun e H9 a9 => ?_
      · have hz : B2 ≠ [] ∨ ts.length < ps.length := by
          rcases Bool.or_eq_true_iff.mp e with q | q
          · refine Or.inl fun z => ?_
            rw [z] at q
            cases q
          · exact Or.inr (of_decide_eq_true q)
        rw [eE, if_pos hz] at hP
        have ix : IxD (firstD B2 .non) := by
          cases B2 with
          | nil => exact Or.inl rfl
          | cons k0 r => exact Or.inr ⟨k0, rfl, by have := bads_le hB2; omega⟩
        refine x_ret a9 (En.of (ed_lst (ad_cons (ed_tup (ad_cons ed_str (ad_cons (ed_repr (ed_ixL (ed_op (ed_var rfl) (ed_lst (ad_cons ed_non ad_nil)) (rop_catL (by simp at l2 ⊢; omega))) ed_int (d := firstD B2 .non) ?_) ix) ad_nil))) ad_nil)) hP) k
        cases B2 with
        | nil => rfl
        | cons k0 r => exact atI_nat (j := 0) rfl
      · obtain ⟨e1, e2⟩ := Bool.or_eq_false_iff.mp e
        have hB0 : B2 = [] := by
          cases B2 with
          | nil => rfl
          | cons _ _ => cases e1
        subst hB0
        have hlt : ¬ ts.length < ps.length := of_decide_eq_false e2
        obtain ⟨tl, tal⟩ := bads_iff.mp hB2
        obtain ⟨pps, rfl, hppl, hpp⟩ := pns_of (ds := ps) (Pp := fun p => p.length = xs.length ∧ ∀ x ∈ p, Fq 40 x) fun d hd => by
          obtain ⟨q, e, q1, q2, q3⟩ := areN_inv (pal d hd)
          exact ⟨q, e, by omega, q3⟩
        obtain ⟨bx, rfl, hbl, hbx⟩ := prs_of (ds := ts) (Pp := fun s => Fq 40 s.1 ∧ Fq 40 s.2) fun d hd => stretch_inv (tal d hd)
        have v : Vld xs pps bx := ⟨hx2, hx6, hxf, by omega, by omega, hpp, hbx⟩
        have hn : (D.tup (pps.map nums)).nb + (D.tup (bx.map pr)).nb ≤ 1 := by
          rcases hj.px with q | ⟨ps', xs', q1, q2, q3⟩
          · exact q
          · cases q1
            cases q2
            omega
        have un : ∀ am : List Q2, (am.map fd).map unfd = am := fun am => by
          rw [List.map_map]
          have : unfd ∘ fd = id := by funext q; rfl
          rw [this, List.map_id]
        have un2 : (pps.map nums).map (fun d => match d with | .tup l => l.map unfd | _ => []) = pps := by
          rw [List.map_map]
          refine (List.map_congr_left fun p _ => un p).trans (List.map_id pps)
        have un3 : (bx.map pr).map (fun d => match d with | .tup [u, v] => (unfd u, unfd v) | _ => ((0, 1), (0, 1))) = bx := by
          rw [List.map_map]
          refine (List.map_congr_left fun p _ => ?_).trans (List.map_id bx)
          rfl
        rw [eE, if_neg (fun z => z.elim (fun q => q rfl) hlt), un, un2, un3] at hP
        refine x_ret a9 (en_if (T := (· = highB xs pps bx)) (td_B (ed_call (ad_cons (ed_var rfl) ad_nil) ⟨xs, pps, bx, rfl, by intro z; rw [z] at hx2; exact absurd hx2 (by decide), by omega, fun am ham => ⟨v.corner ham, v.dok hn ham⟩, rfl⟩)) (fun q => En.of (ed_lst ad_nil) ?_) fun q => En.of (ed_lst (ad_cons (ed_tup (ad_cons ed_str (ad_cons ed_str ad_nil))) ad_nil)) ?_) k
        · rw [if_pos q.symm] at hP
          exact hP
        · rw [if_neg (by rw [← q]; decide)] at hP
          exact hP
    | _ => cases e
  | _ => cases e
end
end K10
set_option Elab.async false
set_option linter.all false
set_option maxRecDepth 100000
set_option maxHeartbeats 4000000
/-! An own error with the field index, by its class's name; an own error of no argument. -/
namespace PySem
namespace IxX
open PySem.W PySem.Calls PyProof.Rows PySem.HandSPX
/-! ### the text of __init__ -/
def iA (p1 p2 : Pos) : Arguments := { posonlyargs := [], args := [{ arg := "self", annotation := none, pos := p1 }, { arg := "index", annotation := none, pos := p2 }], vararg := none, kwonlyargs := [], kw_defaults := [], kwarg := none, defaults := [] }
def iB (q1 q2 q3 q4 : Pos) : List Stmt := [.Assign [.Attribute (.Name "self" q1) "index" q2] (.Name "index" q3) q4]
def iS : Scope := { kind := .function, names := [(PySem.Str.ofString "self", .local), (PySem.Str.ofString "index", .local)], isGenerator := false, isCoroutine := false, more := [] }
/-- what the written part says of Low, at C, and of its __init__, at fI -/
structure IxTxt (K : Frag) (mg : Str → Option Value) (cn cq : Str) (C fI : Addr) : Prop where
  gC : mg cn = some (.ref C)
  hN : (cn == ("__debug__" : Str)) = false
  cls : ∃ nm q N bs bm sn sub ab col dd k0 k1 k2 k3 k5, K.lookup C = some (excClassObj nm q C N bs bm true sn sub ab col dd k0 k1 k2 k3 k5 "ValueError.__new__") ∧ refsVE bm = true
  sa : findIn K (.ref C) "__setattr__" = some (some (.builtin "object.__setattr__"))
  ga : findIn K (.ref C) "__getattribute__" = some (some (.builtin "BaseException.__getattribute__"))
  gg : findIn K (.ref C) "__getattr__" = some none
  noN : findIn K (.ref C) "index" = some none
  iC : findIn K (.ref C) "__init__" = some (some (.ref fI))
  tC : typeIn K (.ref fI) = some (.type "function")
  kC : keepIn K (.ref C) = true
  exC : subIn K (.ref C) (.type "BaseException") = some true
  tyC : typeIn K (.ref C) = some (.type "type")
  hdC : hasDictIn K C = true
  te : exmOne K (.ref C) (.ref C) = some true
  fn : ∃ (oc : Value) (od : Option Addr) (kV doc pm : Value) (an : Option Addr) (cdv ct : Value) (osl : Array (Option Value)) (p1 p2 q1 q2 q3 q4 : Pos),
    K.lookup fI = some ⟨oc, od, .func (fnOf "__init__" cq (iA p1 p2) (iB q1 q2 q3 q4) iS .none kV doc pm an cdv ct), osl⟩ ∧ codeIn K cdv cq = true
theorem one_size (v : Value) : [v].length ≤ sizeLine := by
  rw [sizeLine_eq]
  exact (by decide : 1 ≤ 16777216)
theorem kept_but {K : Frag} {h h' : Heap} {x : Addr} (X : K.In h) (hx : K.lookup x = none) (k : ∀ b o, b ≠ x → h.get? b = some o → h'.get? b = some o) : K.In h' := fun a o e =>
  k a o (fun z => by rw [z, hx] at e; cases e) (X a o e)
theorem ldC {M : Model} {s : Shared} {name : Str} {scope : Scope} {L a : Addr} {cd : Value} {m : Str → Option Value} {x : Str} {pos : Pos} {v : Value} {Q : Value → Shared → Prop} {A : Around} {E : Value → Shared → Prop} (hn : s.heap.Ns L m) (hv : m x = some v) (h : Q v s)
    (hk : scope.kind = .function := by rfl) (hl : (envOfC name scope L a cd).kindOf x = some .local := by rfl) (hd : (x == ("__debug__" : Str)) = false := by decide) :
    wpAny M A (eval (.Name x pos) (envOfC name scope L a cd)) Q E s := wpAny_Name (wpAny_loadName_local hk hl hn hv h) hd
/-- what __init__ leaves of a fresh exception at x -/
structure InitEnd (h h' : Heap) (x C dx t1 : Addr) (v : Value) : Prop where
  keep : ∀ b o, b ≠ x → h.get? b = some o → h'.get? b = some o
  obj : h'.get? x = some { cls := .ref C, dict := some dx, data := .fields #[.ref t1, .none, .none, .none, .bool false, .none] }
  dbig : h.objs.size ≤ dx
  dne : dx ≠ x
  ns : h'.Ns1 dx (fun y => if y = "index" then some v else none)
/-- a made Low -/
structure OwnMade (h h' : Heap) (e C d : Addr) (v : Value) : Prop where
  keep : ∀ b o, h.get? b = some o → h'.get? b = some o
  new : h.objs.size ≤ e
  obj : ∃ oe vs, h'.get? e = some oe ∧ oe.cls = .ref C ∧ oe.dict = some d ∧ oe.data = .fields vs ∧ vs[1]? = some .none
  dbig : h.objs.size ≤ d
  dne : d ≠ e
  ns : h'.Ns1 d (fun y => if y = "index" then some v else none)
section
variable {prog : Program} {w : World} {A : Around} {E : Value → Shared → Prop} {R : Result → Shared → Prop} {s : Shared} {K : Frag} {mg : Str → Option Value} {cn cq : Str} {C fI : Addr}
theorem ix_init (T : IxTxt K mg cn cq C fI) {x t0 : Addr} {v : Value} (X : K.In s.heap) (hlim : s.heap.NoLimit) (hx : s.heap.get? x = some (excO C t0)) (hnx : K.lookup x = none) (hroom : A.depth < recursionLimit)
    (hq : ∀ h' tk dx, InitEnd s.heap h' x C dx t0 v → R (.ok (.ret .none)) { s with heap := h', toks := tk }) :
    codeAny (model prog w) A (.call (.ref fI) ⟨[.ref x, v], []⟩) R s := by
  obtain ⟨oc, od, kV, doc, pm, an, cdv, ct, osl, p1, p2, q1, q2, q3, q4, ho, hcd⟩ := T.fn
  obtain ⟨nm, q, N, bs, bm, sn, sub, ab, col, dd, k0, k1, k2, k3, k5, hC, hbm⟩ := T.cls
  have hcl : clsIn K C = some { name := nm, bases := bs, mro := .ref C :: bm, ns := N, qualname := q, hasDict := true, slotNames := sn, subclasses := sub, abstract := ab, collection := col, hasDel := false } := by unfold clsIn; rw [hC] <;> rfl
  refine Att.call_fn (binds := [("self", .ref x), ("index", v)]) X hlim ho hcd hroom (BindsTo.of_eq (by first | rfl | with_unfolding_all rfl)) (by first | rfl | decide | with_unfolding_all rfl) (fun s₁ IC => ?_) rfl rfl rfl
  obtain ⟨h₁, tk₁, rfl⟩ := IC.toInCall.same
  have k : ∀ b o, s.heap.get? b = some o → h₁.get? b = some o := IC.toInCall.keep
  have hn := IC.toInCall.ns
  have hxL : s.heap.objs.size ≠ x := Nat.ne_of_gt (Heap.lt_size hx)
  have X₁ : K.In h₁ := X.keeps k
  have hx₁ := k _ _ hx
  -- self.by = by
  show wpAny _ _ (execs _ _) _ _ _
  refine wpAny_execs_cons (plainObj_wpAny_Assign_Attribute ?_)
  refine ldC (v := v) hn (by first | rfl | with_unfolding_all rfl | kernel_rfl) (ldC (v := .ref x) hn (by first | rfl | with_unfolding_all rfl | kernel_rfl) ?_)
  refine set_plain X₁ (ox := excO C t0) (od := none) ⟨hx₁, rfl, rfl, trivial⟩ T.sa ?_
  refine exc_osa X₁ hx₁ hcl (show refsVE (.ref C :: bm) = true from hbm) rfl T.noN (fun h₃ tk₃ dx k₃ dn dne hx₃ hn₃ => ?_)
  show wpAny _ _ (execs _ _) _ _ _
  have z : s.heap.objs.size < h₁.objs.size := hn.lt
  exact wpAny_execs_nil (hq h₃ tk₃ dx ⟨fun b o hb e => k₃ b o hb (k b o e), hx₃, Nat.le_of_lt (Nat.lt_of_lt_of_le z dn), dne, hn₃⟩)
theorem ix_made (T : IxTxt K mg cn cq C fI) {v : Value} (X : K.In s.heap) (hlim : s.heap.NoLimit) (hroom : A.depth + 1 < recursionLimit)
    (hq : ∀ h' tk e d, OwnMade s.heap h' e C d v → R (.ok (.ret (.ref e))) { s with heap := h', toks := tk }) :
    codeAny (model prog w) A (.call (.ref C) ⟨[v], []⟩) R s := by
  obtain ⟨nm, q, N, bs, bm, sn, sub, ab, col, dd, k0, k1, k2, k3, k5, hC, hbm⟩ := T.cls
  obtain ⟨hp, g, dr, tk, os⟩ := s
  have k : ∀ b o, hp.get? b = some o → ((hp.push (kdv_tup [v])).push (excO C hp.objs.size)).get? b = some o := fun b o e => Heap.get?_push_of_some _ (Heap.get?_push_of_some _ e)
  have hget : ((hp.push (kdv_tup [v])).push (excO C hp.objs.size)).get? (hp.objs.size + 1) = some (excO C hp.objs.size) := by heap_get
  have hnx : K.lookup (hp.objs.size + 1) = none := by
    cases e : K.lookup (hp.objs.size + 1) with
    | none => rfl
    | some o =>
      have z : hp.get? (hp.objs.size + 1) = some o := X _ _ e
      exact absurd (Nat.lt_of_succ_lt (Heap.lt_size z)) (Nat.lt_irrefl _)
  refine call_own F.excBase_ValueError (fun X => refsVE_contains X bm hbm) (X _ _ hC) (looks_findIn X T.iC) (fun self => bind_fn X self T.tC) (one_size v) ?_
  refine ix_init (s := ⟨(hp.push (kdv_tup [v])).push (excO C hp.objs.size), g, dr, tk, os⟩) T (X.keeps k) (hlim.keeps k) hget hnx ?_ fun h' tk' dx ⟨k', hx, dn, dne, hns⟩ => ?_
  · show A.depth + 1 < recursionLimit
    exact hroom
  · have old : ∀ b o, hp.get? b = some o → h'.get? b = some o := fun b o e => k' b o (Nat.ne_of_lt (Nat.lt_succ_of_lt (Heap.lt_size e))) (k b o e)
    have z : hp.objs.size + 1 + 1 ≤ dx := by
      first
        | (simpa only [Heap.size_push] using dn)
        | exact dn
        | (have q := dn; rw [Heap.size_push, Heap.size_push] at q; exact q)
    exact ⟨rfl, hq h' tk' (hp.objs.size + 1) dx ⟨old, Nat.le_succ _, ⟨_, _, hx, rfl, rfl, rfl, rfl⟩, Nat.le_trans (Nat.le_trans (Nat.le_succ _) (Nat.le_succ _)) z, dne, hns⟩⟩
end
end IxX
end PySem
namespace L2
open PySem PySem.Spec PyProof.Rows
theorem relO_ix {v : V} {v' : Value} (r : RelV v v') (f : Str) : RelO (List.lookup f [(("index" : Str), v)]) (if f = "index" then some v' else none) := by
  by_cases hw : f = "index"
  · subst hw
    rw [if_pos rfl]
    have q : List.lookup ("index" : Str) [(("index" : Str), v)] = some v := by simp [List.lookup]
    rw [q]
    exact r
  · rw [if_neg hw]
    have qw : (f == ("index" : Str)) = false := by simpa using hw
    have q2 : List.lookup f [(("index" : Str), v)] = none := by simp [List.lookup, qw]
    rw [q2]
    trivial
section
variable {X : Cx} {cn cq : Str} {C fI : Addr}
/-- Low(e) -/
def tMkIx (C : Addr) (ta : TA) : St → Hp → XK → Prop := fun σ H Q => ta σ H fun vs H1 => ∃ v, vs = [v] ∧ ∀ d, H1 d = none → Q (.ref C) (some d) (upd H1 d (.xd [(("index" : Str), v)]))
theorem pmk_ix {a : Expr} {ta : TA} {p pos : Pos} {k : Nat} (T : PySem.IxX.IxTxt X.K X.mg cn cq C fI) (hr : Room k X.A) (ha : PA X [a] ta) (hg : Gl X cn := by rfl)
    (he : starEach (a :: []) X.env = (false, eval a X.env) :: starEach [] X.env := by rfl) (hpl : (backTo pos (starEach [] X.env)).any (·.1) = false := by rfl) :
    PMk X (.Call (.Name cn p) [a] [] pos) (tMkIx C ta) := by
  intro pins s σ H Q I h
  refine wpAny_Call_Name_kw (ld_glob I hg T.gC ?_ T.hN)
  refine PySem.W.callWith_K (h₀ := X.base) I.ok.mod.kin T.kC (thn (ha.run pos pins s σ H _ I h) fun us s1 hh => ?_) he hpl
  obtain ⟨vs, H1, I1, r1, v, ev, q1⟩ := hh
  subst ev
  refine ⟨I1.kIn, ?_⟩
  cases r1 with
  | cons rv rn =>
    rename_i v' us'
    cases rn
    show wpAny _ _ (call (.ref C) [v']) _ _ _
    have hlim := I1.nolimit
    obtain ⟨hp, g, dr, tk, os⟩ := s1
    refine wpAny_call (PySem.IxX.ix_made T I1.kIn hlim (by have := hr.dp; omega) fun h' tk' e d M => ?_)
    show MkP X pins σ Q (.ref e) ⟨h', g, dr, tk', os⟩
    obtain ⟨oe, fv, hoe, hc, hd, hdat, h1⟩ := M.obj
    have hns := M.ns
    obtain ⟨G', g1, g2⟩ := restrict h' fun b => decide (b ≠ e)
    have gk : ∀ b, b ≠ e → G'.get? b = h'.get? b := fun b hb => g1 b (decide_eq_true hb)
    have ge : G'.get? e = none := g2 e (by simp)
    have old : ∀ b o, hp.get? b = some o → G'.get? b = some o := fun b o q => (gk b (Nat.ne_of_lt (Nat.lt_of_lt_of_le (Heap.lt_size q) M.new))).trans (M.keep b o q)
    have ob : ObjOk X.prog X.w (upd H1 d (.xd [(("index" : Str), v)])) G' d (.xd [(("index" : Str), v)]) :=
      ⟨_, hns.at (fun o q => (gk d M.dne).trans q), fun f => relO_ix rv f⟩
    have J : Inv X pins σ (upd H1 d (.xd [(("index" : Str), v)])) ⟨G', g, dr, tk', os⟩ := I1.laid (t' := tk') old M.dbig ob
    refine ⟨e, oe, fv, ⟨G', g, dr, tk', os⟩, _, .ref C, some d, rfl, J, fun b o q => ?_, ge, hoe, ⟨hc, hd⟩, hdat, h1, ?_, rfl, I1.bare, raises_own T.exC T.tyC, q1 d (I1.hok.fresh M.dbig)⟩
    · by_cases hb : b = e
      · have q' : G'.get? b = some o := q
        rw [hb, ge] at q'; cases q'
      · exact (gk b hb).symm.trans q
    · rw [upd_ne (Ne.symm M.dne)]
      exact I1.hok.fresh M.new
/-- raise Low(e) -/
def tRaiseIx (C : Addr) (W : WX) (ta : TA) : TS := fun _ σ H => tMkIx C ta σ H fun cls d H' => W cls d σ H'
theorem ps_raiseIx {a : Expr} {ta : TA} {W : WX} {p pos pos2 : Pos} {k : Nat} (hc : X.calm = true) (T : PySem.IxX.IxTxt X.K X.mg cn cq C fI) (hr : Room k X.A) (tk : Takes X W) (ha : PA X [a] ta) (hg : Gl X cn := by rfl)
    (he : starEach (a :: []) X.env = (false, eval a X.env) :: starEach [] X.env := by rfl) (hpl : (backTo pos (starEach [] X.env)).any (·.1) = false := by rfl) :
    PS X (.Raise (some (.Call (.Name cn p) [a] [] pos)) none pos2) (tRaiseIx C W ta) := ps_raise hc tk (pmk_ix T hr ha hg he hpl)
/-- low.by, low the exception that the suite holds (at a; its class cls, its dict d) -/
def tByIx (C : Addr) (a : Addr) (cls : Value) (d : Option Addr) (te : TE) : TE := fun σ H Q => te σ H fun x H1 => x = .ref a ∧ cls = .ref C ∧ ∃ (dd : Addr) (v : V), d = some dd ∧ H1 dd = some (.xd [(("index" : Str), v)]) ∧ Q v H1
theorem pe_byIx {a : Addr} {oe : Obj} {cls : Value} {d : Option Addr} {pn : List (Addr × Obj)} {e : Expr} {te : TE} {pos : Pos} (T : PySem.IxX.IxTxt X.K X.mg cn cq C fI) (hz : Zc cls d oe) (hf : ∃ vs, oe.data = .fields vs) (he : PE (X.suite a ((a, oe) :: pn)) e te)
    (hb : attributeBase e "index" X.env (eval e X.env) = eval e X.env := by rfl) :
    PE (X.suite a ((a, oe) :: pn)) (.Attribute e "index" pos) (tByIx C a cls d te) := by
  refine ⟨fun pins s σ H Q I h => ?_⟩
  refine attr_of hb (thn (he.run pins s σ H _ I h) fun u s1 hh => ?_)
  obtain ⟨x, H1, I1, rx, ex, ec, dd, v, ed, ea, q⟩ := hh
  subst ex
  obtain rfl : u = Value.ref a := rx
  subst ec
  subst ed
  obtain ⟨ha, _⟩ := I1.pin (a, oe) (List.mem_append_left _ List.mem_cons_self)
  obtain ⟨vs, hd⟩ := hf
  have hx : ObjOk X.prog X.w H1 s1.heap dd (.xd [(("index" : Str), v)]) := I1.hok dd _ ea
  obtain ⟨mA, hns, hr⟩ := hx
  obtain ⟨od, ho, hl⟩ := lookIn_ns hns
  have l : List.lookup ("index" : Str) [(("index" : Str), v)] = some v := by simp [List.lookup]
  obtain ⟨u, hu, ru⟩ := RelO.some_of (v := v) (o := mA "index") (by rw [← l]; exact hr "index")
  have J : PySem.W.InstAt s1.heap a oe C (some od) := ⟨ha, hz.1, by unfold PySem.W.notCls; rw [hd] <;> rfl, by rw [hz.2]; exact ho⟩
  exact HandSPX.exc_get I1.kIn J T.ga T.gg T.exC (PySem.W.findObj_own T.hdC T.noN rfl (by rw [hl, hu])) (handed_of ru) ⟨v, H1, I1.tok _, ru, q⟩
end
end L2

namespace PySem
namespace IxX
open PySem.W PySem.Calls PyProof.Rows PySem.HandSPX
/-- what the written part says of an error of no argument, at C, and of its __init__, at fI -/
structure NoTxt (K : Frag) (mg : Str → Option Value) (cn cq : Str) (C fI : Addr) : Prop where
  gC : mg cn = some (.ref C)
  hN : (cn == ("__debug__" : Str)) = false
  cls : ∃ nm q N bs r sn sub ab col dd k0 k1 k2 k3 k5, K.lookup C = some (excClassObj nm q C N bs (.ref r :: aTail) true sn sub ab col dd k0 k1 k2 k3 k5 "ArithmeticError.__new__")
  iC : findIn K (.ref C) "__init__" = some (some (.ref fI))
  tC : typeIn K (.ref fI) = some (.type "function")
  kC : keepIn K (.ref C) = true
  exC : subIn K (.ref C) (.type "BaseException") = some true
  tyC : typeIn K (.ref C) = some (.type "type")
  fn : ∃ (oc : Value) (od : Option Addr) (kV doc pm : Value) (an : Option Addr) (cdv ct : Value) (osl : Array (Option Value)) (p1 q1 : Pos),
    K.lookup fI = some ⟨oc, od, .func (fnOf "__init__" cq { posonlyargs := [], args := [{ arg := "self", annotation := none, pos := p1 }], vararg := none, kwonlyargs := [], kw_defaults := [], kwarg := none, defaults := [] } [.Pass q1]
      { kind := .function, names := [(PySem.Str.ofString "self", .local)], isGenerator := false, isCoroutine := false, more := [] } .none kV doc pm an cdv ct), osl⟩ ∧ codeIn K cdv cq = true
theorem aTail_has (r : Addr) (X : String) : (Value.ref r :: aTail).contains (.type X) = aTail.contains (.type X) := by
  rw [List.contains_cons]
  have : ((Value.type X) == (Value.ref r)) = false := by rfl
  rw [this, Bool.false_or]
section
variable {prog : Program} {w : World} {A : Around} {R : Result → Shared → Prop} {s : Shared} {K : Frag} {mg : Str → Option Value} {cn cq : Str} {C fI : Addr}
theorem no_made (T : NoTxt K mg cn cq C fI) (X : K.In s.heap) (lim : s.heap.NoLimit) (room : A.depth + 1 < recursionLimit)
    (hq : ∀ h' tk e, (∀ b o, s.heap.get? b = some o → h'.get? b = some o) → s.heap.objs.size ≤ e → (∃ t, h'.get? e = some (excO C t)) → R (.ok (.ret (.ref e))) { s with heap := h', toks := tk }) :
    codeAny (model prog w) A (.call (.ref C) ⟨[], []⟩) R s := by
  obtain ⟨nm, q, N, bs, r, sn, sub, ab, col, dd, k0, k1, k2, k3, k5, hC⟩ := T.cls
  obtain ⟨oc, od, kV, doc, pm, an, cdv, ct, osl, p1, q1, ho, hcd⟩ := T.fn
  obtain ⟨hp, g, dr, tk, os⟩ := s
  have up : ∀ b o, hp.get? b = some o → ((hp.push (kdv_tup [])).push (excO C hp.objs.size)).get? b = some o := fun b o e => Heap.get?_push_of_some _ (Heap.get?_push_of_some _ e)
  have at1 : ((hp.push (kdv_tup [])).push (excO C hp.objs.size)).get? (hp.objs.size + 1) = some (excO C hp.objs.size) := by heap_get
  refine call_own PySem.F.excBase_ArithmeticError (fun Y => aTail_has r Y) (X _ _ hC) (looks_findIn X T.iC) (fun self => bind_fn X self T.tC) (Nat.zero_le _) ?_
  refine Att.call_fn (s := ⟨(hp.push (kdv_tup [])).push (excO C hp.objs.size), g, dr, tk, os⟩) (binds := [("self", .ref (hp.objs.size + 1))]) (X.keeps up) (lim.keeps up) ho hcd (by show A.depth + 1 < recursionLimit; exact room)
    (BindsTo.of_eq (by first | rfl | with_unfolding_all rfl)) (by first | rfl | decide | with_unfolding_all rfl) (fun s₁ IC => ?_) rfl rfl rfl
  obtain ⟨h₁, tk₁, rfl⟩ := IC.toInCall.same
  have kk : ∀ b o, ((hp.push (kdv_tup [])).push (excO C hp.objs.size)).get? b = some o → h₁.get? b = some o := IC.toInCall.keep
  show wpAny _ _ (execs _ _) _ _ _
  refine wpAny_execs_cons ?_
  refine wpAny_Pass ?_
  show wpAny _ _ (execs _ _) _ _ _
  refine wpAny_execs_nil ?_
  exact ⟨rfl, hq h₁ tk₁ (hp.objs.size + 1) (fun b o e => kk b o (up b o e)) (Nat.le_succ _) ⟨_, kk _ _ at1⟩⟩
end
end IxX
end PySem
namespace L2
open PySem PySem.Spec PyProof.Rows
section
variable {X : Cx} {cn cq : Str} {C fI : Addr}
/-- C(), an error -/
def tMkNo (C : Addr) : St → Hp → XK → Prop := fun _ H Q => Q (.ref C) none H
theorem pmk_no {p pos : Pos} {k : Nat} (T : PySem.IxX.NoTxt X.K X.mg cn cq C fI) (hr : Room k X.A) (hg : Gl X cn := by rfl) : PMk X (.Call (.Name cn p) [] [] pos) (tMkNo C) := by
  intro pins s σ H Q I h
  refine wpAny_Call_Name_kw (ld_glob I hg T.gC ?_ T.hN)
  refine PySem.W.callWith_K0 I.kIn T.kC ?_
  show wpAny _ _ (call (.ref C) []) _ _ _
  have hlim := I.nolimit
  have room : X.A.depth + 1 < recursionLimit := by have := hr.dp; omega
  obtain ⟨hp, g, dr, tk, os⟩ := s
  refine wpAny_call (PySem.IxX.no_made T I.kIn hlim room fun h2 tk2 e old new obj => ?_)
  show MkP X pins σ Q (.ref e) ⟨h2, g, dr, tk2, os⟩
  obtain ⟨t0, he⟩ := obj
  obtain ⟨G', g1, g2⟩ := restrict h2 fun b => decide (b ≠ e)
  have gk : ∀ b, b ≠ e → G'.get? b = h2.get? b := fun b hb => g1 b (decide_eq_true hb)
  have ge : G'.get? e = none := g2 e (by simp)
  have old2 : ∀ b o, hp.get? b = some o → G'.get? b = some o := fun b o q => (gk b (Nat.ne_of_lt (Nat.lt_of_lt_of_le (Heap.lt_size q) new))).trans (old b o q)
  have J : Inv X pins σ H ⟨G', g, dr, tk2, os⟩ := I.kept (t' := tk2) old2
  refine ⟨e, _, _, ⟨G', g, dr, tk2, os⟩, H, .ref C, none, rfl, J, fun b o q => ?_, ge, he, ⟨rfl, rfl⟩, rfl, rfl, I.hok.fresh new, rfl, I.bare, raises_own T.exC T.tyC, h⟩
  by_cases hb : b = e
  · have q' : G'.get? b = some o := q
    rw [hb, ge] at q'
    cases q'
  · exact (gk b hb).symm.trans q
def tRaiseNo (C : Addr) (W : WX) : TS := fun _ σ H => W (.ref C) none σ H
theorem ps_raiseNo {W : WX} {p pos pos2 : Pos} {k : Nat} (hc : X.calm = true) (T : PySem.IxX.NoTxt X.K X.mg cn cq C fI) (hr : Room k X.A) (tk : Takes X W) (hg : Gl X cn := by rfl) : PS X (.Raise (some (.Call (.Name cn p) [] [] pos)) none pos2) (tRaiseNo C W) :=
  ps_raise hc tk (pmk_no T hr hg)
end
end L2
set_option Elab.async false
set_option linter.all false
set_option maxRecDepth 100000
set_option maxHeartbeats 4000000
/-! Defs that raise: check_parts, check_box. -/
namespace K10
open PySem PySem.Spec PyProof.Rows L2 StX RZ
/-- the classes of the errors, their __init__ -/
structure Xc where
  cN : Addr
  fN : Addr
  cP : Addr
  fP : Addr
  cB : Addr
  fB : Addr
  cL : Addr
  fL : Addr
structure XTx (W : Wd) (x : Xc) : Prop where
  tInvalidNumbers : PySem.IxX.IxTxt W.K W.mg "InvalidNumbers" "InvalidNumbers.__init__" x.cN x.fN
  tInvalidParts : PySem.IxX.IxTxt W.K W.mg "InvalidParts" "InvalidParts.__init__" x.cP x.fP
  tInvalidBox : PySem.IxX.IxTxt W.K W.mg "InvalidBox" "InvalidBox.__init__" x.cB x.fB
  tNotHigh : PySem.IxX.NoTxt W.K W.mg "NotHigh" "NotHigh.__init__" x.cL x.fL
def ixV : D → V
  | .int i => .int i
  | _ => .non
def IdxAt (c : Addr) (i : D) (cls : Value) (d : Option Addr) (H : Hp) : Prop := cls = .ref c ∧ ∃ dd, d = some dd ∧ H dd = some (.xd [(("index" : PySem.Str), ixV i)])
/-- what stands of the error er -/
def XAt (x : Xc) (er : Er) (cls : Value) (d : Option Addr) (H : Hp) : Prop := match er with
  | .numbers i => IdxAt x.cN i cls d H
  | .parts i => IdxAt x.cP i cls d H
  | .box i => IdxAt x.cB i cls d H
  | .low => cls = .ref x.cL ∧ d = none
def RetX (x : Xc) (G H : Hp) (er : Er) (E : XK) : Prop := ∀ cls d G' H', Stp none G H G' H' → XAt x er cls d H' → E cls d H'
abbrev RelX := List D → (D → Prop) → (Er → Prop) → Prop
def spX (K : PySem.W.Frag) (C : Addr) (x : Xc) (R : RelX) : Sp := fun vs H Q E => ∃ G ds P XP, Same G H ∧ DAs K C G vs ds ∧ R ds P XP ∧ Ret K C none G H P Q ∧ ∀ er, XP er → RetX x G H er E
def RdX (W : Wd) (x : Xc) (N : List PySem.Str) (R : RelX) (Ex : XK) (t : TS) : Prop := ∀ (ds : List D) (P : D → Prop) (XP : Er → Prop) (E : Ent) (σ : L2.St) (H : Hp) (Q : VK), R ds P XP → At ⟨W.K, W.C, none, none⟩ E (startD N ds) σ H → Ret W.K W.C none E.G E.H P Q → (∀ er, XP er → RetX x E.G E.H er Ex) →
  t { nx := fun _ H' => Q .non H', rt := Q } σ H
theorem fx_mk {W : Wd} {x : Xc} {nm : PySem.Str} {j k : Nat} {N ps : List PySem.Str} {R : RelX} (D : DefP W nm j) (S : FnScope N ps (defScope (top j)))
    (hb : ∀ (kV doc pm : Value) (an : Option Addr) (cdv ct : Value) (us : List Value), us.length = ps.length → bindArgs (PySem.W.fnOf nm nm (defArgs (top j)) (defBody (top j)) (defScope (top j)) .none kV doc pm an cdv ct) ⟨us, []⟩ = pure (ps.zip us))
    (len : ∀ ds P XP, R ds P XP → ds.length = ps.length)
    (body : ∀ (f : Addr) (cdv : Value) (A : Around) (outer : List Env) (s : Shared) (H : Hp) (Ex : XK), Room k (A.deeper (envOfC nm (defScope (top j)) s.heap.objs.size f cdv)) →
      ∃ t, PSs (cxOf (L2.CX W.P W.w) W.P W.w W.K W.mg W.base N nm (defScope (top j)) f cdv A outer s H Ex) (defBody (top j)) t ∧ RdX W x N R Ex t) : Fx W (L2.CX W.P W.w) (k + 1) nm ps (spX W.K W.C x R) := by
  obtain ⟨f, fd, F, g⟩ := D
  refine ⟨f, fd, F.ok S (fun vs H Q E h => ?_) (fun cdv A outer s H vs Q E hr h => ?_), F.bindsN hb, g, F.kp⟩
  · obtain ⟨G, ds, P, XP, _, da, r, _⟩ := h
    rw [da.length]
    exact len ds P XP r
  · obtain ⟨t, ht, rd⟩ := body f cdv A outer s H E hr
    obtain ⟨G, ds, P, XP, sg, da, r, k, kx⟩ := h
    exact ⟨t, ht, rd ds P XP ⟨G, H, G⟩ _ H Q r (At.begin sg (fun a e => by cases e) da) k kx⟩
def partsErr (m : Nat) : D → Option Er
  | .tup ps => if bads (areN m m) ps 3 ≠ [] then some (.parts (firstD (bads (areN m m) ps 3) .non)) else none
  | _ => some (.parts .non)
def boxErr (m : Nat) : D → Option Er
  | .tup xs => if bads isStretch xs m ≠ [] ∨ xs.length < m then some (.box (firstD (bads isStretch xs m) .non)) else none
  | _ => some (.box .non)
abbrev R_check_parts : RelX := fun ds P XP => ∃ (d : D) (m : Nat), ds = [d, .int m] ∧ d.pl = true ∧ (partsErr m d = none → P .non) ∧ ∀ er, partsErr m d = some er → XP er
abbrev R_check_box : RelX := fun ds P XP => ∃ (d : D) (m : Nat), ds = [d, .int m] ∧ d.pl = true ∧ (boxErr m d = none → P .non) ∧ ∀ er, boxErr m d = some er → XP er
abbrev s_check_parts : Stmt := top 62
abbrev N_check_parts : List PySem.Str := ["value", "many", "index", "part"]
theorem sc_check_parts : FnScope N_check_parts ["value", "many"] (defScope s_check_parts) := ⟨rfl, rfl, rfl, by decide +kernel, rfl, by decide +kernel, by decide +kernel⟩
abbrev F_check_parts (W : Wd) (x : Xc) : Prop := Fx W (L2.CX W.P W.w) 8 "check_parts" ["value", "many"] (spX W.K W.C x R_check_parts)
abbrev s_check_box : Stmt := top 63
abbrev N_check_box : List PySem.Str := ["value", "many", "index", "stretch"]
theorem sc_check_box : FnScope N_check_box ["value", "many"] (defScope s_check_box) := ⟨rfl, rfl, rfl, by decide +kernel, rfl, by decide +kernel, by decide +kernel⟩
abbrev F_check_box (W : Wd) (x : Xc) : Prop := Fx W (L2.CX W.P W.w) 8 "check_box" ["value", "many"] (spX W.K W.C x R_check_box)
section
variable {p : Pm} {E : Ent} {δ : Sl} {σ : L2.St} {H : Hp} {D' : Ends} {ra : TA} {C : Addr} {d : D}
theorem x_forE {i j : Nat} {tb : TS} {xs : List D} (a : At p E δ σ H) (h : Ad p ra δ [.tup xs]) (Iv : Nat → Sl → Option (Addr × List D) → Prop) (h0 : Iv 0 δ p.m)
    (hs : ∀ (b : Hp) (n : Nat) (x : D) δ' m' σ' H', xs[n]? = some x → Iv n δ' m' → At { p with m := m' } { E with b := b } ((δ'.set i (some (.int n))).set j (some x)) σ' H' →
      tb { D' with nx := LoopAt p { E with b := b } (Iv (n + 1)), ct := LoopAt p { E with b := b } (Iv (n + 1)), bk := D'.nx } σ' H')
    (hd : ∀ δ' m' σ' H', Iv xs.length δ' m' → At { p with m := m' } E δ' σ' H' → D'.nx σ' H') : tFor (iEnE p.K ra) (gTup p.K 2 (gCons (gName i) (gCons (gName j) gNil))) tb D' σ H := q_forE (u := fun D => D.nx) a h Iv h0 hs hd
theorem x_raise {Ex : XK} (a : At p E δ σ H) (h : Ad p ra δ [d]) (hi : IxD d) (hc : p.c = none)
    (k : ∀ G' H' dd, Stp none E.G E.H G' H' → H' dd = some (.xd [(("index" : PySem.Str), ixV d)]) → Ex (.ref C) (some dd) H') : tRaiseIx C (fun cls d _ H => Ex cls d H) ra D' σ H := by
  show tMkIx C ra σ H fun cls d H' => Ex cls d H'
  refine a.runA h fun vs ds G' H' st sb sd rc rm da pd => ?_
  subst pd
  cases da with
  | cons d1 da =>
    cases da
    refine ⟨_, rfl, fun dd hd => ?_⟩
    have ev : ∀ {v : V}, DA p.K p.C G' v d → v = ixV d := fun h => by
      rcases hi with rfl | ⟨k, rfl, _⟩
      · cases h; rfl
      · cases h; rfl
    rw [ev d1]
    rw [hc] at st
    have h0 : E.H dd = none := st.freeC hd (by simp)
    exact k G' _ dd (st.mut h0 (same_none st.sub hd)) upd_same
theorem x_raiseNo {Ex : XK} (a : At p E δ σ H) (hc : p.c = none) (k : ∀ G' H', Stp none E.G E.H G' H' → Ex (.ref C) none H') : tRaiseNo C (fun cls d _ H => Ex cls d H) D' σ H := by
  obtain ⟨G, st, _⟩ := a.ex
  rw [hc] at st
  exact k G H st
end
section
variable {W : Wd} {x : Xc}
theorem ok_check_parts (T : Fr W.mg) (hX : XTx W x) (hD : DefP W "check_parts" 62) (f_are_numbers : F_are_numbers W) : F_check_parts W x := by
  refine fx_mk hD sc_check_parts (fun _ _ _ _ _ _ us hl => match us, hl with | [_, _], _ => rfl) (fun ds P XP h => by obtain ⟨_, _, e, _⟩ := h; rw [e]; rfl) fun f cdv A outer s H Ex hr => ?_
  have nd := sc_check_parts.nd
  refine ⟨_, (pss_cons (ps_if (pt_not (pt_val (pe_callB call_isi rfl T.n_isinstance (by decide +kernel) (pa_cons (pv 0) (pa_cons (pe_bltn (v := .ty "tuple") (u := .type "tuple") rfl T.n_tuple (by decide +kernel) rfl) pa_nil))))) (pss_one (ps_raiseIx rfl hX.tInvalidParts hr (takes_of rfl rfl rfl rfl) (by exact (pa_cons pe_non pa_nil)))) pss_nil)
      (pss_one (ps_for (passes_of rfl) rfl (pi_enumT rfl T.n_enumerate (pa_cons (pv 0) pa_nil)) (pg_tup rfl (pgs_cons (pg_name (i := 2) nd rfl (by first | exact Or.inl rfl | exact Or.inr rfl)) (pgs_cons (pg_name (i := 3) nd rfl (by first | exact Or.inl rfl | exact Or.inr rfl)) pgs_nil))) (pss_one (ps_if (PW.pt (pw_or (pt_cmpR op_eq (pv 2) (pe_glob (v := .int 3) rfl (T.c_PARTS.choose_spec) ⟨_, rfl⟩) (nomark _)) (pw_or1 (pt_not (pt_val (pe_cf f_are_numbers (hr.mono (by decide)) (pa_cons (pv 3) (pa_cons (pv 1) (pa_cons (pv 1) pa_nil))))))))) (pss_one (ps_raiseIx rfl hX.tInvalidParts hr (takes_of rfl rfl rfl rfl) (by exact (pa_cons (pv 2) pa_nil)))) pss_nil))))), ?_⟩
  rintro ds P XP E σ H Q ⟨d, m, rfl, hp, hP, hX2⟩ a0 k kx
  refine q_when (b := !isTup d) a0 (td_not (td_B (ed_isTup (ed_var rfl) hp))) (fun e H1 a1 => ?_) fun e H1 a1 => ?_
  · have e2 : partsErr m d = some (.parts .non) := by cases d <;> first | rfl | cases e
    exact x_raise a1 (ad_cons ed_non ad_nil) (Or.inl rfl) rfl fun G' H' dd st hd => kx _ (hX2 _ e2) _ _ G' H' st ⟨rfl, dd, rfl, hd⟩
  · cases d with
    | tup ps =>
      obtain ⟨hz, hps⟩ := pl_tup hp
      refine x_forE a1 (ad_cons (ed_var rfl) ad_nil) (fun n δ mm => mm = none ∧ good (areN m m) ps 3 n ∧ ∃ o1 o2, δ = [some (.tup ps), some (.int m), o1, o2]) ⟨rfl, fun k hk => absurd hk (Nat.not_lt_zero k), none, none, rfl⟩ ?_ ?_
      · rintro b n y δ mm σ2 H2 hy ⟨rfl, hg, o1, o2, rfl⟩ a2
        have hym := pls_mem hps (List.mem_of_getElem? hy)
        have e1 : decide ((n : Int) = 3) = decide (n = 3) := decide_eq_decide.mpr (by omega)
        refine x_if (T := (· = (decide (n = 3) || !areN m m y))) a2 (Td.to (td_or (td_test (ed_eqI (ed_var rfl) ed_int)) fun _ => td_not (td_B (ed_call (ad_cons (ed_var rfl) (ad_cons (ed_var rfl) (ad_cons (ed_var rfl) ad_nil))) ⟨y, m, m, rfl, hym, rfl⟩))) (by rw [e1])) (fun hb H3 a3 => ?_) fun hb H3 a3 => ?_
        · obtain ⟨r, hr⟩ := bads_first hg hy hb.symm
          have e2 : partsErr m (.tup ps) = some (.parts (.int n)) := by
            show (if bads (areN m m) ps 3 ≠ [] then _ else _) = _
            rw [hr, if_pos (by simp)]
            rfl
          have hn := (List.getElem?_eq_some_iff.mp hy).1
          exact x_raise a3 (ad_cons (ed_var rfl) ad_nil) (Or.inr ⟨n, rfl, by omega⟩) rfl fun G' H' dd st hd => kx _ (hX2 _ e2) _ _ G' H' st ⟨rfl, dd, rfl, hd⟩
        · exact ⟨_, none, ⟨rfl, hg.more hy hb.symm, _, _, rfl⟩, a3⟩
      · rintro δ mm σ2 H2 ⟨rfl, hg, o1, o2, rfl⟩ a2
        have e2 : partsErr m (.tup ps) = none := by
          show (if bads (areN m m) ps 3 ≠ [] then _ else _) = _
          rw [bads_none hg, if_neg (fun z => z rfl)]
        obtain ⟨G, st, _, _, rc, _⟩ := a2.ex
        exact k .non .non G H2 st rc .non (hP e2)
    | _ => cases e
theorem ok_check_box (T : Fr W.mg) (hX : XTx W x) (hD : DefP W "check_box" 63) (f_is_stretch : F_is_stretch W) : F_check_box W x := by
  refine fx_mk hD sc_check_box (fun _ _ _ _ _ _ us hl => match us, hl with | [_, _], _ => rfl) (fun ds P XP h => by obtain ⟨_, _, e, _⟩ := h; rw [e]; rfl) fun f cdv A outer s H Ex hr => ?_
  have nd := sc_check_box.nd
  refine ⟨_, (pss_cons (ps_if (pt_not (pt_val (pe_callB call_isi rfl T.n_isinstance (by decide +kernel) (pa_cons (pv 0) (pa_cons (pe_bltn (v := .ty "tuple") (u := .type "tuple") rfl T.n_tuple (by decide +kernel) rfl) pa_nil))))) (pss_one (ps_raiseIx rfl hX.tInvalidBox hr (takes_of rfl rfl rfl rfl) (by exact (pa_cons pe_non pa_nil)))) pss_nil)
      (pss_cons (ps_for (passes_of rfl) rfl (pi_enumT rfl T.n_enumerate (pa_cons (pv 0) pa_nil)) (pg_tup rfl (pgs_cons (pg_name (i := 2) nd rfl (by first | exact Or.inl rfl | exact Or.inr rfl)) (pgs_cons (pg_name (i := 3) nd rfl (by first | exact Or.inl rfl | exact Or.inr rfl)) pgs_nil))) (pss_one (ps_if (PW.pt (pw_or (pt_cmpR op_eq (pv 2) (pv 1) (nomark _)) (pw_or1 (pt_not (pt_val (pe_cf f_is_stretch (hr.mono (by decide)) (pa_cons (pv 3) (pa_cons pe_bl pa_nil)))))))) (pss_one (ps_raiseIx rfl hX.tInvalidBox hr (takes_of rfl rfl rfl rfl) (by exact (pa_cons (pv 2) pa_nil)))) pss_nil)))
      (pss_one (ps_if (pt_cmpR op_lt (pe_callB call_len_seq rfl T.n_len (by decide +kernel) (pa_cons (pv 0) pa_nil)) (pv 1) (nomark _)) (pss_one (ps_raiseIx rfl hX.tInvalidBox hr (takes_of rfl rfl rfl rfl) (by exact (pa_cons pe_non pa_nil)))) pss_nil)))), ?_⟩
  rintro ds P XP E σ H Q ⟨d, m, rfl, hp, hP, hX2⟩ a0 k kx
  refine q_when (b := !isTup d) a0 (td_not (td_B (ed_isTup (ed_var rfl) hp))) (fun e H1 a1 => ?_) fun e H1 a1 => ?_
  · have e2 : boxErr m d = some (.box .non) := by cases d <;> first | rfl | cases e
    exact x_raise a1 (ad_cons ed_non ad_nil) (Or.inl rfl) rfl fun G' H' dd st hd => kx _ (hX2 _ e2) _ _ G' H' st ⟨rfl, dd, rfl, hd⟩
  · cases d with
    | tup ps =>
      obtain ⟨hz, hps⟩ := pl_tup hp
      have e0 : boxErr m (.tup ps) = if bads isStretch ps m ≠ [] ∨ ps.length < m then some (.box (firstD (bads isStretch ps m) .non)) else none := rfl
      refine q_forE a1 (ad_cons (ed_var rfl) ad_nil) (fun n δ mm => mm = none ∧ good isStretch ps m n ∧ ∃ o1 o2, δ = [some (.tup ps), some (.int m), o1, o2]) ⟨rfl, fun k hk => absurd hk (Nat.not_lt_zero k), none, none, rfl⟩ ?_ ?_
      · rintro b n y δ mm σ2 H2 hy ⟨rfl, hg, o1, o2, rfl⟩ a2
        have hym := pls_mem hps (List.mem_of_getElem? hy)
        have e1 : decide ((n : Int) = (m : Int)) = decide (n = m) := decide_eq_decide.mpr (by omega)
        refine x_if (T := (· = (decide (n = m) || !isStretch y))) a2 (Td.to (td_or (td_test (ed_eqI (ed_var rfl) (ed_var rfl))) fun _ => td_not (td_B (ed_call (ad_cons (ed_var rfl) (ad_cons ed_bl ad_nil)) ⟨y, rfl, hym, rfl⟩))) (by rw [e1])) (fun hb H3 a3 => ?_) fun hb H3 a3 => ?_
        · obtain ⟨r, hr⟩ := bads_first hg hy hb.symm
          have e2 : boxErr m (.tup ps) = some (.box (.int n)) := by
            rw [e0, hr, if_pos (Or.inl (by simp))]
            rfl
          have hn := (List.getElem?_eq_some_iff.mp hy).1
          exact x_raise a3 (ad_cons (ed_var rfl) ad_nil) (Or.inr ⟨n, rfl, by omega⟩) rfl fun G' H' dd st hd => kx _ (hX2 _ e2) _ _ G' H' st ⟨rfl, dd, rfl, hd⟩
        · exact ⟨_, none, ⟨rfl, hg.more hy hb.symm, _, _, rfl⟩, a3⟩
      · rintro δ mm σ2 H2 ⟨rfl, hg, o1, o2, rfl⟩ a2
        have e9 : decide ((ps.length : Int) < (m : Int)) = decide (ps.length < m) := decide_eq_decide.mpr (by omega)
        refine x_if (T := (· = decide (ps.length < m))) a2 (Td.to (td_test (ed_lt (ed_lenT (ed_var rfl)) (ed_var rfl))) e9) (fun hb H3 a3 => ?_) fun hb H3 a3 => ?_
        · have e2 : boxErr m (.tup ps) = some (.box .non) := by
            rw [e0, bads_none hg, if_pos (Or.inr (of_decide_eq_true hb.symm))]
            rfl
          exact x_raise a3 (ad_cons ed_non ad_nil) (Or.inl rfl) rfl fun G' H' dd st hd => kx _ (hX2 _ e2) _ _ G' H' st ⟨rfl, dd, rfl, hd⟩
        · have e2 : boxErr m (.tup ps) = none := by
            rw [e0, bads_none hg, if_neg (fun z => z.elim (fun q => q rfl) (of_decide_eq_false hb.symm))]
          obtain ⟨G, st, _, _, rc, _⟩ := a3.ex
          exact k .non .non G H3 st rc .non (hP e2)
    | _ => cases e
end
end K10
set_option Elab.async false
set_option linter.all false
set_option maxRecDepth 100000
set_option maxHeartbeats 4000000
/-! A machine is made. -/
namespace K10
open PySem PySem.Spec PyProof.Rows L2 StX RZ
abbrev DefM (W : Wd) (nm qn : PySem.Str) (j : Nat) (dvs : List V) (f : Addr) (fd : FuncData) : Prop := FunD W.K nm qn (defArgs (mIn j)) (defBody (mIn j)) (defScope (mIn j)) dvs [] f fd
/-- the class, what it has -/
structure Mt (W : Wd) : Prop where
  cl : Cls W.K W.C
  nB : NoAttr W.K W.C fB
  nP : NoAttr W.K W.C fP
  nX : NoAttr W.K W.C fX
def spTake (C : Addr) : Sp := fun vs H Q _ => ∃ (s dx : Addr) (v1 v2 v3 : V), vs = [.ref s, v1, v2, v3] ∧ H s = some (.ins C dx []) ∧ Q .non (upd H s (.ins C dx [(fB, v1), (fP, v2), (fX, v3)]))
theorem upd_upd {H : Hp} {a : Addr} {o u : HO} : upd (upd H a o) a u = upd H a u := by
  funext b
  by_cases h : b = a
  · rw [h, upd_same, upd_same]
  · rw [upd_ne h, upd_ne h, upd_ne h]
abbrev N_take : List PySem.Str := ["self", "base", "parts", "box"]
theorem sc_take : FnScope N_take ["self", "base", "parts", "box"] (defScope (mIn 1)) := ⟨rfl, rfl, rfl, by decide +kernel, rfl, by decide +kernel, by decide +kernel⟩
theorem sc_init : FnScope N_take ["self", "base", "parts", "box"] (defScope (mIn 0)) := ⟨rfl, rfl, rfl, by decide +kernel, rfl, by decide +kernel, by decide +kernel⟩
section
variable {W : Wd}
theorem ok_take (M : Mt W) {f : Addr} {fd : FuncData} (D : DefM W "take" "Machine.take" 1 [] f fd) : FnOk W.P W.w W.K W.mg W.base CX0 1 f fd ["self", "base", "parts", "box"] (spTake W.C) := by
  refine D.ok sc_take (fun vs H Q E h => ?_) (fun cdv A outer s H vs Q E hr h => ⟨_, PSs.nox (pss_cons (ps_fld (pv 0) (pv 1) rfl) (pss_cons (ps_fld (pv 0) (pv 2) rfl) (pss_one (ps_fld (pv 0) (pv 3) rfl)))), ?_⟩)
  · obtain ⟨_, _, _, _, _, e, _⟩ := h
    rw [e]
    rfl
  · obtain ⟨s, dx, v1, v2, v3, rfl, hs, q⟩ := h
    have e2 : putF fP v2 [(fB, v1)] = [(fB, v1), (fP, v2)] := by
      show (if fB = fP then _ else _) = _
      rw [if_neg (by decide +kernel)]
      rfl
    have e3 : putF fX v3 [(fB, v1), (fP, v2)] = [(fB, v1), (fP, v2), (fX, v3)] := by
      show (if fB = fX then _ else _ :: (if fP = fX then _ else _)) = _
      rw [if_neg (by decide +kernel), if_neg (by decide +kernel)]
      rfl
    refine ⟨_, rfl, _, rfl, s, W.C, dx, [], rfl, hs, M.cl, M.nB, (show 0 < 1000 by decide), ?_⟩
    refine ⟨_, rfl, _, rfl, s, W.C, dx, [(fB, v1)], rfl, upd_same, M.cl, M.nP, (show 1 < 1000 by decide), ?_⟩
    rw [e2]
    refine ⟨_, rfl, _, rfl, s, W.C, dx, [(fB, v1), (fP, v2)], rfl, upd_same, M.cl, M.nX, (show 2 < 1000 by decide), ?_⟩
    rw [e3, upd_upd, upd_upd]
    exact q
end
def spInit (W : Wd) (x : Xc) : Sp := fun vs H Q Ex => ∃ (s dx : Addr) (G : Hp) (b p t : D) (vb vp vt : V), vs = [.ref s, vb, vp, vt] ∧ H s = some (.ins W.C dx []) ∧ G s = none ∧ Same G H ∧ DA W.K W.C G vb b ∧ DA W.K W.C G vp p ∧ DA W.K W.C G vt t ∧
  D.w 50 b = true ∧ D.w 50 p = true ∧ D.w 50 t = true ∧ (errOf b p t = none → ∀ G' H' v1 v2 v3, Stp none G H G' H' → DA W.K W.C G' v1 b → DA W.K W.C G' v2 p → DA W.K W.C G' v3 t → Q .non (upd H' s (.ins W.C dx [(fB, v1), (fP, v2), (fX, v3)]))) ∧ ∀ er, errOf b p t = some er → RetX x G H er Ex
theorem pe_cx {X : Cx} {C : Addr} {xc : Xc} {k : Nat} {x : PySem.Str} {ps : List PySem.Str} {R : RelX} {Ex : XK} {p pos : Pos} {e : Expr} {es : List Expr} {t : TA} (F : Fx ⟨X.prog, X.w, X.K, X.mg, X.base, C⟩ (L2.CX X.prog X.w) k x ps (spX X.K C xc R)) (hr : Room k X.A) (hx : Passes (L2.CX X.prog X.w) X Ex) (ha : PA X (e :: es) t) (hg : Gl X x := by rfl)
    (hdb : (x == ("__debug__" : Str)) = false := by decide) (he : starEach (e :: es) X.env = (false, eval e X.env) :: starEach es X.env := by rfl) (hpl : (backTo pos (starEach es X.env)).any (·.1) = false := by rfl) :
    PE X (.Call (.Name x p) (e :: es) [] pos) (tCall (spX X.K C xc R) [] Ex t) := by
  obtain ⟨f, fd, G, b, m, kp⟩ := F
  exact pe_call G hr hg m kp b .nil hx ha hdb he hpl
section
variable {p : Pm} {E : Ent} {δ : Sl} {σ : L2.St} {H : Hp} {D' : Ends} {u : TS} {ra : TA} {x : Xc} {ds : List D} {P : D → Prop} {XP : Er → Prop}
theorem q_callX {Ex : XK} {R : RelX} (a : At p E δ σ H) (hc : p.c = none) (h : Ad p ra δ ds) (r : R ds P XP) (kx : ∀ er, XP er → RetX x E.G E.H er Ex) (k : ∀ H', (∃ d, P d) → At p E δ σ H' → u D' σ H') : tSeq (tDrop (tCall (spX p.K p.C x R) [] Ex ra)) u D' σ H := by
  obtain ⟨K, C, c, m⟩ := p
  have hc' : c = none := hc
  subst hc'
  unfold tSeq tDrop
  refine a.runA h fun vs ds' G' H' st sb sd rc rm da pd => ?_
  subst pd
  refine ⟨G', _, P, XP, st.sub, by rw [List.append_nil]; exact da, r, fun v d G2 H2 st2 rc2 dv pd => ?_, fun er he cls d G2 H2 st2 hx => ?_⟩
  · exact k H2 ⟨d, pd⟩ ⟨⟨G2, st.trans a.rc0 rc st2, sb.trans st2.gg, sd.mono st2.gg, rc2, rm.stp st2⟩, a.rc0, a.m0⟩
  · exact kx er he cls d G2 H2 (st.trans a.rc0 rc st2) hx
end
theorem errOf_eq {b : D} {bs : List D} {p t : D} (hb : b = .tup bs) (ha : areN 2 6 b = true) : errOf b p t = match partsErr bs.length p with
    | some e => some e
    | none => match p, t with
      | .tup ps, t => match boxErr ps.length t with
        | some e => some e
        | none => match t with
          | .tup xs => if highB (bs.map unfd) (ps.map fun d => match d with | .tup l => l.map unfd | _ => []) (xs.map fun d => match d with | .tup [u, v] => (unfd u, unfd v) | _ => ((0, 1), (0, 1))) then none else some .low
          | _ => none
      | _, _ => none := by
  subst hb
  unfold errOf
  rw [ha, if_neg (by decide)]
  cases p with
  | tup ps =>
    show (if bads (areN bs.length bs.length) ps 3 ≠ [] then _ else _) = match (if bads (areN bs.length bs.length) ps 3 ≠ [] then some (Er.parts (firstD (bads (areN bs.length bs.length) ps 3) .non)) else none) with | some e => some e | none => _
    by_cases h : bads (areN bs.length bs.length) ps 3 ≠ []
    · rw [if_pos h, if_pos h]
    · rw [if_neg h, if_neg h]
      cases t with
      | tup xs =>
        show (if bads isStretch xs ps.length ≠ [] ∨ xs.length < ps.length then _ else _) = match (if bads isStretch xs ps.length ≠ [] ∨ xs.length < ps.length then some (Er.box (firstD (bads isStretch xs ps.length) .non)) else none) with | some e => some e | none => _
        by_cases h2 : bads isStretch xs ps.length ≠ [] ∨ xs.length < ps.length
        · rw [if_pos h2, if_pos h2]
        · rw [if_neg h2, if_neg h2]
          try rfl
      | _ => rfl
  | _ => rfl
theorem errOf_parts {bs : List D} {p t : D} {er : Er} (ha : areN 2 6 (.tup bs) = true) (h : partsErr bs.length p = some er) : errOf (.tup bs) p t = some er := by
  rw [errOf_eq rfl ha, h]
theorem errOf_box {bs ps : List D} {t : D} {er : Er} (ha : areN 2 6 (.tup bs) = true) (hp : partsErr bs.length (.tup ps) = none) (h : boxErr ps.length t = some er) : errOf (.tup bs) (.tup ps) t = some er := by
  rw [errOf_eq rfl ha, hp]
  show (match boxErr ps.length t with | some e => some e | none => _) = _
  rw [h]
theorem errOf_high {bs ps ts : List D} (ha : areN 2 6 (.tup bs) = true) (hp : partsErr bs.length (.tup ps) = none) (hb : boxErr ps.length (.tup ts) = none) :
    errOf (.tup bs) (.tup ps) (.tup ts) = if highB (bs.map unfd) (ps.map fun d => match d with | .tup l => l.map unfd | _ => []) (ts.map fun d => match d with | .tup [u, v] => (unfd u, unfd v) | _ => ((0, 1), (0, 1))) then none else some .low := by
  rw [errOf_eq rfl ha, hp]
  show (match boxErr ps.length (.tup ts) with | some e => some e | none => _) = _
  rw [hb]
/-- the rows of numbers, read off -/
def rowsOf (ps : List D) : List (List Q2) := ps.map fun d => match d with
  | .tup l => l.map unfd
  | _ => []
def boxOf (ts : List D) : List (Q2 × Q2) := ts.map fun d => match d with
  | .tup [u, v] => (unfd u, unfd v)
  | _ => ((0, 1), (0, 1))
theorem vld_of {xs : List Q2} {p t : D} (hx2 : 2 ≤ xs.length) (hx6 : xs.length ≤ 6) (hxf : ∀ x ∈ xs, Fq 40 x) (hp : partsErr xs.length p = none) : ∃ pps, p = .tup (pps.map nums) ∧ (boxErr pps.length t = none → ∃ bx, t = .tup (bx.map pr) ∧ Vld xs pps bx ∧
    (xs.map fd).map unfd = xs ∧ rowsOf (pps.map nums) = pps ∧ boxOf (bx.map pr) = bx) := by
  cases p with
  | tup ps =>
    have hB : bads (areN xs.length xs.length) ps 3 = [] := by
      have h' : (if bads (areN xs.length xs.length) ps 3 ≠ [] then some (Er.parts (firstD (bads (areN xs.length xs.length) ps 3) .non)) else none) = none := hp
      by_cases h : bads (areN xs.length xs.length) ps 3 ≠ []
      · rw [if_pos h] at h'
        cases h'
      · exact Classical.not_not.mp h
    obtain ⟨pl3, pal⟩ := bads_iff.mp hB
    obtain ⟨pps, rfl, hppl, hpp⟩ := pns_of (ds := ps) (Pp := fun p => p.length = xs.length ∧ ∀ x ∈ p, Fq 40 x) fun d hd => by
      obtain ⟨q, e, q1, q2, q3⟩ := areN_inv (pal d hd)
      exact ⟨q, e, by omega, q3⟩
    refine ⟨pps, rfl, fun hb => ?_⟩
    cases t with
    | tup ts =>
      have h' : (if bads isStretch ts pps.length ≠ [] ∨ ts.length < pps.length then some (Er.box (firstD (bads isStretch ts pps.length) .non)) else none) = none := hb
      by_cases h : bads isStretch ts pps.length ≠ [] ∨ ts.length < pps.length
      · rw [if_pos h] at h'
        cases h'
      · have hB2 : bads isStretch ts pps.length = [] := Classical.not_not.mp fun z => h (Or.inl z)
        have hlt : ¬ ts.length < pps.length := fun z => h (Or.inr z)
        obtain ⟨tl, tal⟩ := bads_iff.mp hB2
        obtain ⟨bx, rfl, hbl, hbx⟩ := prs_of (ds := ts) (Pp := fun s => Fq 40 s.1 ∧ Fq 40 s.2) fun d hd => stretch_inv (tal d hd)
        have un : ∀ am : List Q2, (am.map fd).map unfd = am := fun am => by
          rw [List.map_map]
          have : unfd ∘ fd = id := by funext q; rfl
          rw [this, List.map_id]
        refine ⟨bx, rfl, ⟨hx2, hx6, hxf, by omega, by omega, hpp, hbx⟩, un xs, ?_, ?_⟩
        · unfold rowsOf
          rw [List.map_map]
          exact (List.map_congr_left fun p _ => un p).trans (List.map_id pps)
        · unfold boxOf
          rw [List.map_map]
          refine (List.map_congr_left fun p _ => ?_).trans (List.map_id bx)
          rfl
    | _ => cases hb
  | _ => cases hp
section
variable {W : Wd} {x : Xc}
theorem ok_init (T : Fr W.mg) (hX : XTx W x) (M : Mt W) {f ft : Addr} {fd' fdt : FuncData} {dvs : List V} (D : DefM W "__init__" "Machine.__init__" 0 dvs f fd') (Dt : DefM W "take" "Machine.take" 1 [] ft fdt) (mt : Meth W.K W.C "take" ft)
    (f_are_numbers : F_are_numbers W) (f_number_fault : F_number_fault W) (f_check_parts : F_check_parts W x) (f_check_box : F_check_box W x) (f_is_high : F_is_high W) : FnOk W.P W.w W.K W.mg W.base (L2.CX W.P W.w) 20 f fd' ["self", "base", "parts", "box"] (spInit W x) := by
  have Gt := ok_take M Dt
  have bt : Binds W.K fdt ["self", "base", "parts", "box"] [] := Dt.bindsN fun _ _ _ _ _ _ us hl => match us, hl with | [_, _, _, _], _ => rfl
  have nd := sc_init.nd
  refine D.ok sc_init (fun vs H Q E h => ?_) (fun cdv A outer s H vs Q Ex hr h => ?_)
  · obtain ⟨_, _, _, _, _, _, _, _, _, e, _⟩ := h
    rw [e]
    rfl
  refine ⟨_, (pss_cons (ps_if (pt_not (pt_val (pe_cf f_are_numbers (hr.mono (by decide)) (pa_cons (pv 1) (pa_cons pe_int (pa_cons (pe_glob (v := .int 6) rfl (T.c_NUMBERS.choose_spec) ⟨_, rfl⟩) pa_nil)))))) (pss_one (ps_raiseIx rfl hX.tInvalidNumbers hr (takes_of rfl rfl rfl rfl) (by exact (pa_cons (pe_cf f_number_fault (hr.mono (by decide)) (pa_cons (pv 1) (pa_cons pe_int (pa_cons (pe_glob (v := .int 6) rfl (T.c_NUMBERS.choose_spec) ⟨_, rfl⟩) pa_nil)))) pa_nil)))) pss_nil)
      (pss_cons (ps_expr (pe_cx f_check_parts (hr.mono (by decide)) (passes_call (takes_of rfl rfl rfl rfl) fun _ _ _ _ h => h) (pa_cons (pv 2) (pa_cons (pe_callB call_len_seq rfl T.n_len (by decide +kernel) (pa_cons (pv 1) pa_nil)) pa_nil))))
      (pss_cons (ps_expr (pe_cx f_check_box (hr.mono (by decide)) (passes_call (takes_of rfl rfl rfl rfl) fun _ _ _ _ h => h) (pa_cons (pv 3) (pa_cons (pe_callB call_len_seq rfl T.n_len (by decide +kernel) (pa_cons (pv 2) pa_nil)) pa_nil))))
      (pss_cons (ps_if (pt_not (pt_val (pe_cf f_is_high (hr.mono (by decide)) (pa_cons (pv 1) (pa_cons (pv 2) (pa_cons (pv 3) pa_nil)))))) (pss_one (ps_raiseNo rfl hX.tNotHigh hr (takes_of rfl rfl rfl rfl))) pss_nil)
      (pss_one (ps_expr (pe_meth (pv 0) M.cl mt Gt (hr.mono (by decide)) bt .nil pass0 (pa_cons (pv 1) (pa_cons (pv 2) (pa_cons (pv 3) pa_nil)))))))))), ?_⟩
  obtain ⟨so, dx, G, b, p, t, vb, vp, vt, rfl, hs, hg, sg, db, dp, dt, wb, wp, wt, kq, kx⟩ := h
  have lb := w_up (m := 1000) (by decide) wb
  have lp := w_up (m := 1000) (by decide) wp
  have lt := w_up (m := 1000) (by decide) wt
  have a0 : At ⟨W.K, W.C, none, none⟩ ⟨G, H, G⟩ (startD N_take [.adr so, b, p, t]) (L2.start N_take [.ref so, vb, vp, vt]) H := At.begin sg (fun a e => by cases e) (.cons (.adr so) (.cons db (.cons dp (.cons dt .nil))))
  refine q_when (b := !areN 2 6 b) a0 (td_not (td_B (ed_call (ad_cons (ed_var rfl) (ad_cons ed_int (ad_cons ed_int ad_nil))) ⟨b, 2, 6, rfl, lb, rfl⟩))) (fun e H1 a1 => ?_) fun e H1 a1 => ?_
  · have e' : areN 2 6 b = false := by simpa using e
    obtain ⟨_, ix⟩ := (first_spec (lo := 2) (hi := 6) lb).2 e'
    have e2 : errOf b p t = some (.numbers (fault isShort 6 b)) := by
      unfold errOf
      rw [if_pos e']
    exact x_raise a1 (ad_cons (ed_call (ad_cons (ed_var rfl) (ad_cons ed_int (ad_cons ed_int ad_nil))) ⟨b, 2, 6, rfl, lb, rfl⟩) ad_nil) ix rfl fun G' H' dd st hd => kx _ e2 _ _ G' H' st ⟨rfl, dd, rfl, hd⟩
  have e0 : areN 2 6 b = true := by simpa using e
  obtain ⟨xs, rfl, hx2, hx6, hxf⟩ := areN_inv e0
  have lxm : (xs.map fd).length = xs.length := List.length_map ..
  refine q_callX (R := R_check_parts) (x := x) (P := fun _ => partsErr xs.length p = none) (XP := fun er => partsErr xs.length p = some er) a1 rfl (ad_cons (ed_var rfl) (ad_cons (Ed.to (ed_lenT (ds := xs.map fd) (ed_var rfl)) (by rw [lxm])) ad_nil)) ⟨p, xs.length, rfl, lp, fun h => h, fun er h => h⟩ (fun er he => kx er (errOf_parts (bs := xs.map fd) e0 (by rw [lxm]; exact he))) fun H2 ⟨_, hp⟩ a2 => ?_
  obtain ⟨pps, rfl, hv⟩ := vld_of (t := t) hx2 hx6 hxf hp
  have lpm : (pps.map nums).length = pps.length := List.length_map ..
  have hp' : partsErr (xs.map fd).length (.tup (pps.map nums)) = none := by rw [lxm]; exact hp
  refine q_callX (R := R_check_box) (x := x) (P := fun _ => boxErr pps.length t = none) (XP := fun er => boxErr pps.length t = some er) a2 rfl (ad_cons (ed_var rfl) (ad_cons (Ed.to (ed_lenT (ds := pps.map nums) (ed_var rfl)) (by rw [lpm])) ad_nil)) ⟨t, pps.length, rfl, lt, fun h => h, fun er h => h⟩ (fun er he => kx er (errOf_box (bs := xs.map fd) e0 hp' (by rw [lpm]; exact he))) fun H3 ⟨_, hb⟩ a3 => ?_
  obtain ⟨bx, rfl, v, u1, u2, u3⟩ := hv hb
  have eE3 : errOf (nums xs) (.tup (pps.map nums)) (.tup (bx.map pr)) = if highB xs pps bx then none else some Er.low := by
    refine (errOf_high (bs := xs.map fd) e0 hp' (by rw [lpm]; exact hb)).trans ?_
    show (if highB ((xs.map fd).map unfd) (rowsOf (pps.map nums)) (boxOf (bx.map pr)) then none else some Er.low) = _
    rw [u1, u2, u3]
  refine q_when (b := !highB xs pps bx) a3 (td_not (td_B (ed_call (ad_cons (ed_var rfl) (ad_cons (ed_var rfl) (ad_cons (ed_var rfl) ad_nil))) ⟨xs, pps, bx, rfl, by intro z; rw [z] at hx2; exact absurd hx2 (by decide), by have := v.p3; have := v.pb; omega, fun am ham => v.corner ham, rfl⟩))) (fun e H4 a4 => ?_) fun e H4 a4 => ?_
  · have e' : highB xs pps bx = false := by simpa using e
    have e2 : errOf (nums xs) (.tup (pps.map nums)) (.tup (bx.map pr)) = some .low := by rw [eE3, e']; rfl
    exact x_raiseNo a4 rfl fun G' H' st => kx _ e2 _ _ G' H' st ⟨rfl, rfl⟩
  · have e' : highB xs pps bx = true := by simpa using e
    have e2 : errOf (nums xs) (.tup (pps.map nums)) (.tup (bx.map pr)) = none := by rw [eE3, e']; rfl
    obtain ⟨G', st, _, sd, rc, _⟩ := a4.ex
    obtain ⟨w0, s0, d0⟩ := sd.at_ 0 _ rfl
    obtain ⟨w1, s1, d1⟩ := sd.at_ 1 _ rfl
    obtain ⟨w2, s2, d2⟩ := sd.at_ 2 _ rfl
    obtain ⟨w3, s3, d3⟩ := sd.at_ 3 _ rfl
    cases d0
    have hso := st.keep so _ (by simp) hs
    refine ⟨_, s0, so, dx, [], rfl, hso, rfl, ?_⟩
    refine ⟨w1, s1, w2, s2, w3, s3, ?_⟩
    exact ⟨so, dx, w1, w2, w3, rfl, hso, kq e2 G' H4 w1 w2 w3 st d1 d2 d3⟩
end
end K10
set_option Elab.async false
set_option linter.all false
set_option maxRecDepth 100000
set_option maxHeartbeats 4000000
/-! Machine(..), by place and by name. -/
namespace K10
open PySem PySem.Spec PyProof.Rows L2 StX RZ
/-- __init__ runs on a new instance -/
theorem made_data {W : Wd} {x : Xc} {Ex : XK} {E : Ent} {G' H' : Hp} {Q : VK} {b p t : D} {vb vp vt : V} {s dx : Addr} (st : Stp none E.G E.H G' H') (hs : H' s = none) (hdx : H' dx = none) (hne : dx ≠ s) (db : DA W.K W.C G' vb b) (dp : DA W.K W.C G' vp p) (dt : DA W.K W.C G' vt t)
    (wb : D.w 50 b = true) (wp : D.w 50 p = true) (wt : D.w 50 t = true) (kq : errOf b p t = none → Ret W.K W.C none E.G E.H (· = .mac b p t) Q) (kx : ∀ er, errOf b p t = some er → RetX x E.G E.H er Ex) :
    spInit W x [.ref s, vb, vp, vt] (upd (upd H' dx (.own s)) s (.ins W.C dx [])) (fun v H2 => v = .non ∧ Q (.ref s) H2) Ex := by
  have r0 : RC none E.G E.H := fun a e => by cases e
  have r1 : RC none G' H' := fun a e => by cases e
  have gs : G' s = none := same_none st.sub hs
  have h1 : Stp none G' H' G' (upd H' dx (.own s)) := Stp.hid st.sub hdx
  have hs1 : (upd H' dx (.own s)) s = none := by rw [upd_ne (Ne.symm hne)]; exact hs
  have h2 : Stp none G' H' G' (upd (upd H' dx (.own s)) s (.ins W.C dx [])) := h1.mut hs gs
  refine ⟨s, dx, G', b, p, t, vb, vp, vt, rfl, upd_same, gs, h2.sub, db, dp, dt, wb, wp, wt, fun e G2 H2 v1 v2 v3 st2 d1 d2 d3 => ⟨rfl, ?_⟩, fun er he cls d G2 H2 st2 hx => ?_⟩
  · have g2 : G2 s = none := st2.hidden gs upd_same
    have s3 : Stp none E.G E.H G2 H2 := (st.trans r0 r1 h2).trans r0 (fun a e => by cases e) st2
    have h0 : E.H s = none := st.freeC hs (by simp)
    have s4 := (s3.mut (o := .ins W.C dx [(fB, v1), (fP, v2), (fX, v3)]) h0 g2).tell h0 upd_same g2
    have sm : Same G2 (upd G2 s (.ins W.C dx [(fB, v1), (fP, v2), (fX, v3)])) := fun b' o q => by
      rw [upd_ne (ne_of_none q g2)]
      exact q
    exact kq e (.ref s) _ _ _ s4 (fun a e => by cases e) (.mac upd_same (d1.mono sm) (d2.mono sm) (d3.mono sm)) rfl
  · exact kx er he cls d G2 H2 ((st.trans r0 r1 h2).trans r0 (fun a e => by cases e) st2) hx
section
variable {W : Wd} {x : Xc} {Ex : XK} {E : Ent} {δ : Sl} {σ : L2.St} {H : Hp} {ra : TA} {b p t : D} {Q : VK} {m : Option (Addr × List D)}
theorem x_make (a : At ⟨W.K, W.C, none, m⟩ E δ σ H) (h : Ad ⟨W.K, W.C, none, m⟩ ra δ [b, p, t]) (wb : D.w 50 b = true) (wp : D.w 50 p = true) (wt : D.w 50 t = true)
    (kq : errOf b p t = none → Ret W.K W.C none E.G E.H (· = .mac b p t) Q) (kx : ∀ er, errOf b p t = some er → RetX x E.G E.H er Ex) : tMake W.C (spInit W x) [] Ex ra σ H Q := by
  unfold tMake
  refine a.runA h fun vs ds G' H' st sb sd rc rm da pd => ?_
  subst pd
  cases da with
  | cons d1 da =>
    cases da with
    | cons d2 da =>
      cases da with
      | cons d3 da =>
        cases da
        exact fun s dx hs hdx hne => made_data st hs hdx hne d1 d2 d3 wb wp wt kq kx
/-- Machine(box=.., parts=.., base=..) -/
theorem x_makeK {gV : List V → List V → List V} (hg : ∀ s v1 v2 v3, gV [s] [v1, v2, v3] = [s, v3, v2, v1]) (a : At ⟨W.K, W.C, none, m⟩ E δ σ H) (h : Ad ⟨W.K, W.C, none, m⟩ ra δ [t, p, b]) (wb : D.w 50 b = true) (wp : D.w 50 p = true) (wt : D.w 50 t = true)
    (kq : errOf b p t = none → Ret W.K W.C none E.G E.H (· = .mac b p t) Q) (kx : ∀ er, errOf b p t = some er → RetX x E.G E.H er Ex) : tMakeK W.C 0 3 (spInit W x) gV Ex tNil ra σ H Q := by
  unfold tMakeK
  show ra σ H _
  refine a.runA h fun vs ds G' H' st sb sd rc rm da pd => ?_
  subst pd
  cases da with
  | cons d1 da =>
    cases da with
    | cons d2 da =>
      cases da with
      | cons d3 da =>
        cases da
        refine ⟨rfl, rfl, fun s dx hs hdx hne => ?_⟩
        rw [hg]
        exact made_data st hs hdx hne d3 d2 d1 wb wp wt kq kx
end
/-- a machine can be made -/
structure MkF (W : Wd) (x : Xc) : Prop where
  gM : W.mg "Machine" = some (.ref W.C)
  mkx : ∃ f fd, Mk W.K W.C f ∧ FnOk W.P W.w W.K W.mg W.base (L2.CX W.P W.w) 20 f fd ["self", "base", "parts", "box"] (spInit W x) ∧ Binds W.K fd ["self", "base", "parts", "box"] [] ∧
    ∃ g gV, KBn W.K fd ["self", "base", "parts", "box"] 1 ["box", "parts", "base"] g gV ∧ ∀ s v1 v2 v3, gV [s] [v1, v2, v3] = [s, v3, v2, v1]
abbrev R__law_machine : RelX := fun ds P XP => ∃ b p t : D, ds = [.tup [b, p, t]] ∧ D.w 50 b = true ∧ D.w 50 p = true ∧ D.w 50 t = true ∧ (errOf b p t = none → P (.mac b p t)) ∧ ∀ er, errOf b p t = some er → XP er
abbrev s__law_machine : Stmt := top 93
abbrev N__law_machine : List PySem.Str := ["_law_rig_here"]
theorem sc__law_machine : FnScope N__law_machine ["_law_rig_here"] (defScope s__law_machine) := ⟨rfl, rfl, rfl, by decide +kernel, rfl, by decide +kernel, by decide +kernel⟩
abbrev F__law_machine (W : Wd) (x : Xc) : Prop := Fx W (L2.CX W.P W.w) 23 "_law_machine" ["_law_rig_here"] (spX W.K W.C x R__law_machine)
section
variable {W : Wd} {x : Xc}
theorem ok__law_machine (mf : MkF W x) (hD : DefP W "_law_machine" 93) : Fx W (L2.CX W.P W.w) 23 "_law_machine" ["_law_rig_here"] (spX W.K W.C x R__law_machine) := by
  obtain ⟨fi, fdi, mk1, mk2, mk3, _⟩ := mf.mkx
  refine fx_mk hD sc__law_machine (fun _ _ _ _ _ _ us hl => match us, hl with | [_], _ => rfl) (fun ds P XP h => by obtain ⟨_, _, _, e, _⟩ := h; rw [e]; rfl) fun f cdv A outer s H Ex hr => ?_
  have nd := sc__law_machine.nd
  refine ⟨_, (pss_one (ps_ret (pe_make mk1 mk2 (hr.mono (by decide)) rfl mf.gM mk3 .nil (passes_call (takes_of rfl rfl rfl rfl) fun _ _ _ _ h => h) (pa_cons (pe_ix ix_tup (pv 0) pe_int (fun _ _ => rfl)) (pa_cons (pe_ix ix_tup (pv 0) pe_int (fun _ _ => rfl)) (pa_cons (pe_ix ix_tup (pv 0) pe_int (fun _ _ => rfl)) pa_nil)))))), ?_⟩
  rintro ds P XP E σ H Q ⟨b, p, t, rfl, wb, wp, wt, hP, hXP⟩ a0 k kx
  exact x_make a0 (ad_cons (ed_ixT (ed_var rfl) ed_int rfl) (ad_cons (ed_ixT (ed_var rfl) ed_int rfl) (ad_cons (ed_ixT (ed_var rfl) ed_int rfl) ad_nil))) wb wp wt (fun e v d G' H' st rc da pd => k v d G' H' st rc da (by rw [pd]; exact hP e)) fun er he => kx er (hXP er he)
end
end K10
set_option Elab.async false
set_option linter.all false
set_option maxRecDepth 100000
set_option maxHeartbeats 4000000
/-! The error that is caught: what it is, what it carries. -/
namespace PySem.W
open PySem PySem.Spec PySem.Calls PyProof.Rows L2
section
variable {pg : Program} {wd : World} {Ar : Around} {Ex : Value → Shared → Prop} {z : Shared} {K : Frag} {x D : Addr} {ox : Obj}
/-- x.__class__ of an own error, with a dict of its own or none -/
theorem excCls {Q : Option Value → Shared → Prop} {od : Option Obj} (c : ExcC K D) (X : K.In z.heap) (I : InstAt z.heap x ox D od) (h : Q (some (.ref D)) { z with toks := z.toks + 1 }) : wpAny (model pg wd) Ar (getAttr? (.ref x) "__class__") Q Ex z := by
  have hf : findObj K D od "__class__" = some (.bind (.builtin "getset_descriptor.__get__") (.builtin "object.__class__")) := by
    obtain ⟨cd, hc, _⟩ := any_some c.hd
    unfold findObj; rw [hc, Option.bind_some, c.ha, Option.bind_some]; simp [c.hn, c.ht]
  obtain ⟨hp, g, d, t, os⟩ := z
  have T0 := I.type (M := model pg wd)
  have T1 := looks_findIn (M := model pg wd) X c.hg
  have T2 := looks_findIn (M := model pg wd) X c.hk
  have T3 := looks_find (M := model pg wd) X I hf
  have isb : Looks (model pg wd) hp (isInstance (.ref x) (.type "BaseException")) true := T0.andThen (looks_subIn X c.hs)
  have n2 : (Value.builtin "BaseException.__getattribute__" == Value.builtin "object.__getattribute__") = false := by decide +kernel
  have n1 : (onTheHeap (Value.ref D) && Value.builtin "BaseException.__getattribute__" == Value.builtin "object.__getattribute__") = false := by rw [n2]; rfl
  have n0 : (false && onTheHeap (Value.builtin "BaseException.__getattribute__")) = false := rfl
  unfold getAttr? getAttrBy? getAttrBy; refine wpAny_bind (wpAny_mkText (wpAny_bind (wpAny_attempt (wpAny_holding (wpAny_bind (T0.at (wpAny_bind (T1.at ?_))))))))
  show wpAny _ _ (if (onTheHeap (Value.ref D) && Value.builtin "BaseException.__getattribute__" == Value.builtin "object.__getattribute__") = true then _ else _) _ _ _; rw [n1, if_neg Bool.false_ne_true]
  unfold getAttrByItsOwn hookBefore; refine wpAny_bind ?_; rw [if_pos (show onTheHeap (Value.ref D) = true from rfl)]
  refine T2.at ?_; refine wpAny_bind (wpAny_attempt (wpAny_holding ?_)); unfold callGetattribute
  rw [n0, if_neg Bool.false_ne_true]; unfold boundAndCalled; rw [PySem.F.excAttr_ValueError.ga.bind (.ref x)]
  refine wpAny_bind (wpAny_pure ?_); show wpAny _ _ (call (.builtin "BaseException.__getattribute__") [.ref x, .str "__class__" t]) _ _ _
  refine wpAny_call (codeAny_call_builtin PySem.F.excAttr_ValueError.ga.plain PySem.F.entry_bexc_ga (@check_slot (model pg wd) _ _ ⟨hp, g, d, t + 1, os⟩ "BaseException.__getattribute__" "BaseException" "__getattribute__" (.ref x) [.str "__class__" t] [] _ (by decide +kernel) (by decide +kernel) isb (PySem.F.args_bexc_ga (.ref x) (.str "__class__" t)) ?_))
  unfold Builtin.«object.__getattribute__»; refine wpAny_bind (wpAny_of_eq (a := ((Value.ref x : Value), [Value.str "__class__" t])) (by first | rfl | (simp only [slotArgs]; rfl)) ?_)
  refine wpAny_bind (wpAny_pure (wpAny_bind (T0.at (wpAny_bind (T3.at ?_)))))
  show wpAny _ _ (holding [Value.builtin "object.__class__"] (call (.builtin "getset_descriptor.__get__") [.builtin "object.__class__", .ref x, .ref D]) >>= ret) _ _ _
  refine wpAny_bind (wpAny_holding (wpAny_call (class_get (s := ⟨hp, g, d, t + 1, os⟩) (ox := ox) (od := od) X I c.hm (wpAny_pure ?_))))
  show wpAny _ _ (handedOut (.ref D)) _ _ _; rw [handedOut_of (v := .ref D) rfl]
  first
    | exact wpAny_pure (wpAny_pure h)
    | exact wpAny_pure h
    | exact wpAny_pure (wpAny_bind (wpAny_pure (wpAny_pure h)))
theorem excKit (c : ExcC K D) (od : Option Obj) : KitX K (.ref x) (.ref D) (fun h => InstAt h x ox D od) := by
  have base := handS_kitx_exc (x := x) (ox := ox) c.hg c.hk c.hs c.hd c.ha c.hn c.ht c.hm
  refine ⟨fun _ _ _ I => I.type, fun M h X I => ?_, fun h tp dd its n sl X ht => base.ne h tp dd its n sl X ht, fun X I k => excCls c X I k⟩
  obtain ⟨cd, hc, _⟩ := any_some c.hd
  unfold clsIn at hc
  split at hc
  · rename_i ho
    intro A' Q' E' s' k q
    unfold isType loadHead
    exact wpAny_bind (wpAny_loadPart (k _ _ (X _ _ ho)) (wpAny_pure q))
  · cases hc
end
end PySem.W
namespace K10
open PySem PySem.Spec PyProof.Rows L2 StX RZ
/-- isinstance(e, c), e the error at a -/
def rIsP (K : PySem.W.Frag) (D a : Addr) (d : Option Addr) : List V → Hp → VK → Prop := fun xs H Q => ∃ (c : V) (cv : Value) (b : Bool), xs = [.ref a, c] ∧ (∀ dd, d = some dd → ∃ fs, H dd = some (.xd fs)) ∧ (∀ u, RelV c u → u = cv) ∧ PySem.W.kitOne K (.ref D) cv = some b ∧ Q (.bl b) H
/-- the error's own dict, where it has one -/
theorem instP {X : Cx} {pins : List (Addr × Obj)} {σ : L2.St} {H : Hp} {s : Shared} {a D : Addr} {oe : Obj} {d : Option Addr} (I : Inv X pins σ H s) (hp : (a, oe) ∈ X.pn) (hz : Zc (.ref D) d oe) (hf : ∃ vs, oe.data = .fields vs) (hd : ∀ dd, d = some dd → ∃ fs, H dd = some (.xd fs)) :
    ∃ od, PySem.W.InstAt s.heap a oe D od := by
  obtain ⟨hget, _⟩ := I.pin (a, oe) (List.mem_append.mpr (.inl hp))
  obtain ⟨vs, hv⟩ := hf
  obtain ⟨oc, odd, oda, osl⟩ := oe
  obtain ⟨h1, h2⟩ := hz
  dsimp only at h1 h2 hv
  subst h1 h2 hv
  cases odd with
  | none => exact ⟨none, hget, rfl, rfl, trivial⟩
  | some dd =>
    obtain ⟨fs, ea⟩ := hd dd rfl
    have hx : ObjOk X.prog X.w H s.heap dd (.xd fs) := I.hok dd _ ea
    obtain ⟨mA, hns, _⟩ := hx
    obtain ⟨od, ho, _⟩ := lookIn_ns hns
    exact ⟨some od, hget, rfl, rfl, ho⟩
theorem call_isP {X : Cx} {a D : Addr} {oe : Obj} {d : Option Addr} (c : ExcC X.K D) (hp : (a, oe) ∈ X.pn) (hz : Zc (.ref D) d oe) (hf : ∃ vs, oe.data = .fields vs) : CallR X (.builtin "isinstance") (rIsP X.K D a d) := by
  intro pins s σ H xs us Q I r h
  obtain ⟨v, cv, b, rfl, hd, hcv, e, q⟩ := h
  cases r with
  | cons rx rr =>
    cases rr with
    | cons rt rr =>
      cases rr
      cases rx
      have ec := hcv _ rt
      subst ec
      obtain ⟨od, J⟩ := instP I hp hz hf hd
      exact PySem.W.kia_one (PySem.W.excKit c od) I.kIn J e (fun w => nomatch w) fun tk => ⟨.bl b, H, I.kept (t' := tk) fun _ _ w => w, rfl, q⟩
/-- e.index -/
def tIxP (a : Addr) (cls : Value) (D : Addr) (d : Option Addr) (te : TE) : TE := fun σ H Q => te σ H fun x H1 => x = .ref a ∧ cls = .ref D ∧ ∃ (dd : Addr) (v : V), d = some dd ∧ H1 dd = some (.xd [(("index" : PySem.Str), v)]) ∧ Q v H1
theorem pe_ixP {X : Cx} {a D fI : Addr} {cn cq : PySem.Str} {oe : Obj} {cls : Value} {d : Option Addr} {e : Expr} {te : TE} {pos : Pos} (T : PySem.IxX.IxTxt X.K X.mg cn cq D fI) (hp : (a, oe) ∈ X.pn) (hz : Zc cls d oe) (hf : ∃ vs, oe.data = .fields vs) (he : PE X e te)
    (hb : attributeBase e "index" X.env (eval e X.env) = eval e X.env := by rfl) : PE X (.Attribute e "index" pos) (tIxP a cls D d te) := by
  refine ⟨fun pins s σ H Q I h => attr_of hb (thn (he.run pins s σ H _ I h) fun u s1 hh => ?_)⟩
  obtain ⟨x, H1, I1, rx, ex, ec, dd, v, ed, ea, q⟩ := hh
  subst ex
  obtain rfl : u = Value.ref a := rx
  subst ec
  subst ed
  obtain ⟨ha, _⟩ := I1.pin (a, oe) (List.mem_append.mpr (.inl hp))
  obtain ⟨vs, hd⟩ := hf
  have hx : ObjOk X.prog X.w H1 s1.heap dd (.xd [(("index" : PySem.Str), v)]) := I1.hok dd _ ea
  obtain ⟨mA, hns, hr⟩ := hx
  obtain ⟨od, ho, hl⟩ := lookIn_ns hns
  have l : List.lookup ("index" : PySem.Str) [(("index" : PySem.Str), v)] = some v := by simp [List.lookup]
  obtain ⟨u, hu, ru⟩ := RelO.some_of (v := v) (o := mA "index") (by rw [← l]; exact hr "index")
  have J : PySem.W.InstAt s1.heap a oe D (some od) := ⟨ha, hz.1, by unfold PySem.W.notCls; rw [hd] <;> rfl, by rw [hz.2]; exact ho⟩
  exact HandSPX.exc_get I1.kIn J T.ga T.gg T.exC (PySem.W.findObj_own T.hdC T.noN rfl (by rw [hl, hu])) (handed_of ru) ⟨v, H1, I1.tok _, ru, q⟩
/-! ### defs that are called with the error -/
abbrev Pn := Addr × Obj
structure FnP (W : Wd) (k : Nat) (f : Addr) (fd : FuncData) (ps : List PySem.Str) (sp : Pn → List V → Hp → VK → Prop) : Prop where
  len : ∀ p vs H Q, sp p vs H Q → vs.length = ps.length
  run : ∀ (A : Around) (outer : List Env) (s : Shared) (H : Hp) (args : Args) (us : List Value) (vs : List V) (Q : VK) (p : Pn), L2H.RoomH k A → L2H.PinOk outer H s p → Env0 W.P W.w W.K W.mg W.base A outer s H → BindsTo s fd args (ps.zip us) → Vals vs us → sp p vs H Q →
    codeAny (model W.P W.w) A (.call (.ref f) args) (CR CX0 outer W.P W.w H s Q E0) s
def Fp (W : Wd) (k : Nat) (x : PySem.Str) (ps : List PySem.Str) (sp : Pn → List V → Hp → VK → Prop) : Prop := ∃ f fd, FnP W k f fd ps sp ∧ Binds W.K fd ps [] ∧ W.mg x = some (.ref f) ∧ PySem.W.keepIn W.K (.ref f) = true
theorem fp_mk {W : Wd} {x : PySem.Str} {j k : Nat} {N ps : List PySem.Str} {sp : Pn → List V → Hp → VK → Prop} (D : DefP W x j) (S : FnScope N ps (defScope (top j)))
    (hb : ∀ (kV doc pm : Value) (an : Option Addr) (cdv ct : Value) (us : List Value), us.length = ps.length → bindArgs (PySem.W.fnOf x x (defArgs (top j)) (defBody (top j)) (defScope (top j)) .none kV doc pm an cdv ct) ⟨us, []⟩ = pure (ps.zip us))
    (len : ∀ p vs H Q, sp p vs H Q → vs.length = ps.length)
    (body : ∀ (f : Addr) (cdv : Value) (A : Around) (outer : List Env) (s : Shared) (H : Hp) (vs : List V) (Q : VK) (p : Pn), L2H.RoomH k (A.deeper (envOfC x (defScope (top j)) s.heap.objs.size f cdv)) → sp p vs H Q →
      ∃ t, PSs (L2H.cxH CX0 W.P W.w W.K W.mg W.base N x (defScope (top j)) f cdv A outer s H E0 p) (defBody (top j)) t ∧ t { nx := fun _ H' => Q .non H', rt := Q } (L2.start N vs) H) : Fp W (k + 1) x ps sp := by
  obtain ⟨f, fd, F, g⟩ := D
  have F2 := F
  obtain ⟨oc, od, dV, kV, doc, pm, an, cdv, ct, osl, rfl, lk, hcd, _, _⟩ := F2.ex
  refine ⟨f, _, ⟨len, fun A outer s H args us vs Q p hr hpin e0 hbt r hsp => ?_⟩, F.bindsN hb, g, F.kp⟩
  have hl := len _ _ _ _ hsp
  have KX : W.K.In s.heap := e0.mod.kin.keeps fun b o e => (e0.bs b o e).1
  have lim : s.heap.NoLimit := e0.mod.nolimit.keeps fun b o e => (e0.bs b o e).1
  have knd : ∀ y ∈ ps.zip us, (defScope (top j)).names.lookup y.1 = some .local ∨ ((defScope (top j)).names.lookup y.1 = some .cell ∧ ((cellsFrom (s.heap.objs.size + 1) (defScope (top j)).names []).lookup y.1).isSome = true) := fun ⟨n, v⟩ hy => by
    rcases S.par n (List.of_mem_zip hy).1 with w | w
    · exact .inl w
    · exact .inr ⟨w, PySem.W.cellsFrom_some _ _ _ (.inl w)⟩
  refine codeAny_call_function hr.depth (KX _ _ lk) rfl S.co S.gen rfl (PySem.W.codeRec_of KX hcd) (hbt _ _ _ _ (wpAny_newFunctionEnv_cells S.kind knd fun env he s1 ic => ?_))
  subst he
  refine ⟨lim.keeps ic.toInCall.keep, codeAny_func ?_⟩
  obtain ⟨t, ht, hq⟩ := body f cdv A outer s H vs Q p (hr.deeper _) hsp
  have I0 := L2H.inv_startH (CX := CX0) (E := E0) S hpin e0 hl r ic
  refine wpAny_mono (ht.run [] s1 (L2.start N vs) H _ I0 hq) (fun fl s' hs => ?_) fun e s' hs => hs
  have done : ∀ {σ' : L2.St} {H' : Hp} {v : V} {u : Value}, Inv (L2H.cxH CX0 W.P W.w W.K W.mg W.base N x (defScope (top j)) f cdv A outer s H E0 p) [] σ' H' s' → RelV v u → Q v H' → CE outer W.P W.w H s Q u s' := fun {σ' H' v u} J rv w => ⟨v, H', J.os, J.bare, J.base, J.hok, rv, w⟩
  match fl, hs with
  | .ret u, ⟨v, σ', H', J, rv, w⟩ => exact done J rv w
  | .next, ⟨σ', H', J, w⟩ => exact done (v := V.non) (u := Value.none) J rfl w
  | .brk, ⟨_, _, _, w⟩ => exact w.elim
  | .cont, ⟨_, _, _, w⟩ => exact w.elim
theorem pe_cp {X : Cx} {C : Addr} {p : Pn} {k : Nat} {x : PySem.Str} {ps : List PySem.Str} {sp : Pn → List V → Hp → VK → Prop} {q pos : Pos} {e : Expr} {es : List Expr} {t : TA} (F : Fp ⟨X.prog, X.w, X.K, X.mg, X.base, C⟩ k x ps sp) (hp : p ∈ X.pn) (hr : L2H.RoomH k X.A) (ha : PA X (e :: es) t) (hg : Gl X x := by rfl)
    (hdb : (x == ("__debug__" : Str)) = false := by decide) (he : starEach (e :: es) X.env = (false, eval e X.env) :: starEach es X.env := by rfl) (hpl : (backTo pos (starEach es X.env)).any (·.1) = false := by rfl) :
    PE X (.Call (.Name x q) (e :: es) [] pos) (fun σ H Q => t σ H fun vs H1 => sp p vs H1 Q) := by
  obtain ⟨f, fd, F, hb, hm, hk⟩ := F
  refine ⟨fun pins s σ H Q I h => wpAny_Call_Name_kw (ld_glob I hg hm ?_ hdb)⟩
  refine PySem.W.callWith_K (h₀ := X.base) I.ok.mod.kin hk (thn (ha.run pos pins s σ H _ I h) fun us s1 hh => ?_) he hpl
  obtain ⟨vs, H1, I1, r, w⟩ := hh
  refine ⟨I1.kIn, ?_⟩
  have hl : us.length = ps.length := by rw [← r.length]; exact F.len _ _ _ _ w
  have b := hb s1 us I1.kIn (by rw [List.append_nil]; exact hl)
  rw [List.append_nil] at b
  have P1 := I1.pin p (List.mem_append_left _ hp)
  have hpin : L2H.PinOk X.stack H1 s1 p := ⟨P1.1, P1.2.1, fun hm => (List.mem_cons.mp (I1.stkSub p.1 hm)).elim P1.2.2.1 P1.2.2.2.1, P1.2.2.2.2⟩
  refine wpAny_call (codeAny_mono (F.run X.A X.stack s1 H1 ⟨us, []⟩ us vs Q p hr hpin I1.env0 b r w) fun rr s' hq => ?_)
  match rr, hq with
  | .ok (.ret u), hq => exact I1.after hq
  | .ok .next, hq => exact hq.elim
  | .ok .brk, hq => exact hq.elim
  | .ok .cont, hq => exact hq.elim
  | .error _, hq => exact hq.elim
end K10
set_option Elab.async false
set_option linter.all false
set_option maxRecDepth 100000
set_option maxHeartbeats 4000000
/-! _law_kind, _law_kept. -/
namespace K10
open PySem PySem.Spec PyProof.Rows L2 StX RZ
section
variable {X : Cx}
def rCntB (K : PySem.W.Frag) : V → List V → Hp → VK → Prop := fun x xs H Q => ∃ (p : Addr) (bs : List Bool) (b : Bool), x = .ref p ∧ xs = [.bl b] ∧ SqL K H p (bs.map V.bl) ∧ Q (.int (bs.countP (· == b) : Nat)) H
def eqb (b : Bool) : Value → Bool
  | .bool c => c == b
  | _ => false
theorem bls_vals : ∀ {bs : List Bool} {its : List Value}, Vals (bs.map V.bl) its → its = bs.map Value.bool
  | [], _, h => by cases h; rfl
  | b :: r, _, h => by
    cases h with
    | cons h1 h2 =>
      cases h1
      rw [bls_vals h2]
      rfl
theorem mt_countB : MtR X "list.count" (rCntB X.K) := by
  intro pins s σ H x xs v us Q I rx rxs h
  obtain ⟨p, bs, b, rfl, rfl, hs, q⟩ := h
  cases rx
  obtain ⟨u, rfl, ru⟩ := rxs.one
  cases ru
  obtain ⟨its, rv, ⟨⟨cls, dd, data, sl⟩, n, ho, hc, hdn, hd⟩, hlen⟩ := I.list hs
  simp only at hc hd
  subst hc hd
  have e := bls_vals rv
  subst e
  refine call_meets PySem.F.slot_list_count ⟨_, ho, rfl⟩ PySem.F.entry_list_count (PySem.F.args_list_count_2 _ _) (SeqAt.list_countAt p _ n dd sl (.bool b) (eqb b)) ⟨ho, fun y hy => ?_, ?_⟩
  · have hy' : y ∈ bs.map Value.bool := by simpa using hy
    obtain ⟨c, _, rfl⟩ := List.mem_map.mp hy'
    exact SeqAt.EqAt.bool_bool c b
  · have ec : (bs.map Value.bool).toArray.toList.countP (eqb b) = bs.countP (· == b) := by
      rw [List.countP_map]
      rfl
    refine ⟨.int (bs.countP (· == b) : Nat), H, I.tok _, ⟨s.toks, ?_⟩, q⟩
    show Value.int (((bs.map Value.bool).toArray.toList.countP (eqb b) : Nat) : Int) s.toks = Value.int ((bs.countP (· == b) : Nat) : Int) s.toks
    rw [ec]
end
end K10
namespace K10
open PySem PySem.Spec PyProof.Rows L2 StX RZ
def Er.cls (x : Xc) : Er → Addr
  | .numbers _ => x.cN
  | .parts _ => x.cP
  | .box _ => x.cB
  | .low => x.cL
def Er.nm : Er → PySem.Str
  | .numbers _ => "InvalidNumbers"
  | .parts _ => "InvalidParts"
  | .box _ => "InvalidBox"
  | .low => "NotHigh"
def Er.up : Er → PySem.Str
  | .low => "NoAnswer"
  | _ => "BadValue"
def Er.kind : Er → PySem.Str
  | .numbers _ => "numbers"
  | .parts _ => "parts"
  | .box _ => "box"
  | .low => "low"
def Er.at : Er → Nat
  | .numbers _ => 11
  | .parts _ => 13
  | .box _ => 14
  | .low => 19
def Er.isLow : Er → Bool
  | .low => true
  | _ => false
def kb (er : Er) (nm : PySem.Str) : Bool := decide (nm = er.nm) || decide (nm = er.up)
def bits (er : Er) : List Bool := (exNames.take 23).map (kb er)
/-- what the written part says of the errors' classes -/
structure KT (W : Wd) (x : Xc) where
  c : PySem.Str → Addr
  g : ∀ nm ∈ exNames, W.mg nm = some (.ref (c nm))
  kit : ∀ (er : Er) (nm : PySem.Str), nm ∈ exNames → PySem.W.kitOne W.K (.ref (er.cls x)) (.ref (c nm)) = some (kb er nm)
  kV : ∀ er : Er, PySem.W.kitOne W.K (.ref (er.cls x)) (.type "ValueError") = some (!er.isLow)
  kL : ∀ er : Er, PySem.W.kitOne W.K (.ref (er.cls x)) (.type "LookupError") = some false
  kA : ∀ er : Er, PySem.W.kitOne W.K (.ref (er.cls x)) (.type "ArithmeticError") = some er.isLow
  ec : ∀ er : Er, ExcC W.K (er.cls x)
def BitsOk (er : Er) : Prop := (bits er).countP (· == true) = 1 ∧ (bits er)[er.at]? = some true ∧ (∀ m, m < er.at → (bits er)[m]? = some false) ∧ kb er "BadValue" = !er.isLow ∧ kb er "BadName" = false ∧ kb er "NoAnswer" = er.isLow
theorem bits_n : BitsOk (.numbers .non) := by unfold BitsOk; decide +kernel
theorem bits_p : BitsOk (.parts .non) := by unfold BitsOk; decide +kernel
theorem bits_b : BitsOk (.box .non) := by unfold BitsOk; decide +kernel
theorem bits_l : BitsOk .low := by unfold BitsOk; decide +kernel
theorem bits_ok (er : Er) : BitsOk er := by
  cases er with
  | numbers a => exact bits_n
  | parts a => exact bits_p
  | box a => exact bits_b
  | low => exact bits_l
def ddOf (er : Er) (d : Option Addr) : Option (Addr × V) := match er, d with
  | .numbers i, some a => some (a, ixV i)
  | .parts i, some a => some (a, ixV i)
  | .box i, some a => some (a, ixV i)
  | _, _ => none
theorem exc_da {K : PySem.W.Frag} {C : Addr} {x : Xc} {G : Hp} {er : Er} {cls : Value} {d : Option Addr} {a : Addr} (h : XAt x er cls d G) : DA K C G (.ref a) (.exc a (ddOf er d)) ∧ cls = .ref (er.cls x) ∧ d = (ddOf er d).map (·.1) := by
  cases er with
  | low =>
    obtain ⟨h1, rfl⟩ := h
    exact ⟨.exc fun d v q => (by cases q), h1, rfl⟩
  | numbers i =>
    obtain ⟨h1, dd, rfl, h2⟩ := h
    exact ⟨.exc fun d v q => by cases q; exact h2, h1, rfl⟩
  | parts i =>
    obtain ⟨h1, dd, rfl, h2⟩ := h
    exact ⟨.exc fun d v q => by cases q; exact h2, h1, rfl⟩
  | box i =>
    obtain ⟨h1, dd, rfl, h2⟩ := h
    exact ⟨.exc fun d v q => by cases q; exact h2, h1, rfl⟩
section
variable {p : Pm} {δ : Sl} {te tl : TE} {bs : List Bool}
theorem ed_isP {a D0 : Addr} {dd : Option (Addr × V)} {d : Option Addr} {v : V} {cv : Value} {b : Bool} (h : Ed p te δ (.exc a dd)) (hd : d = dd.map (·.1)) (hv : ∀ u, RelV v u → u = cv) (hk : PySem.W.kitOne p.K (.ref D0) cv = some b) : Ed p (tCB (rIsP p.K D0 a d) (tCons te (tCons (tC v) tNil))) δ (.bl b) := fun σ G H s sd rc rm Q k =>
  h σ G H s sd rc rm _ fun w x G1 H1 st rc1 dw pw => by
    subst pw
    cases dw with
    | exc hx =>
      refine ⟨v, cv, b, rfl, fun d' e => ?_, hv, hk, k _ _ G1 H1 st rc1 (.bl b) rfl⟩
      rw [hd] at e
      cases dd with
      | none => cases e
      | some q =>
        obtain ⟨q1, q2⟩ := q
        cases e
        exact ⟨_, st.sub _ _ (hx _ _ rfl)⟩
theorem ed_ixP {a D0 d' : Addr} {i : D} (h : Ed p te δ (.exc a (some (d', ixV i)))) (hi : IxD i) : Ed p (tIxP a (.ref D0) D0 (some d') te) δ i := fun σ G H s sd rc rm Q k =>
  h σ G H s sd rc rm _ fun w x G1 H1 st rc1 dw pw => by
    subst pw
    cases dw with
    | exc hx =>
      refine ⟨rfl, rfl, d', _, rfl, st.sub _ _ (hx _ _ rfl), k _ i G1 H1 st rc1 ?_ rfl⟩
      rcases hi with rfl | ⟨n, rfl, _⟩
      · exact .non
      · exact .int _
theorem ed_countB {b : Bool} (h : Ed p tl δ (.lst (bs.map D.bl))) (h2 : Ed p te δ (.bl b)) : Ed p (tBM p.K "list" (rCntB p.K) tl (tCons te tNil)) δ (.int (bs.countP (· == b) : Nat)) := fun σ G H s sd rc rm Q k =>
  h σ G H s sd rc rm _ fun v d G1 H1 st rc1 dv pd => by
    subst pd
    obtain ⟨a, xs, rfl, e1, e2⟩ := dv.lst_inv
    refine ⟨Or.inl ⟨rfl, _, SqL.of (st.sub _ _ e1)⟩, ?_⟩
    refine h2 σ G1 H1 st.sub (sd.mono st.gg) rc1 (rm.stp st) _ fun w d G2 H2 st2 rc2 dw pw => ?_
    subst pw
    cases dw
    refine ⟨a, bs, b, rfl, rfl, ?_, k _ _ G2 H2 (st.trans rc rc1 st2) rc2 (.int _) rfl⟩
    rw [← e2.bls]
    exact SqL.of (st2.sub _ _ (st2.gg _ _ e1))
theorem ed_indexB {j : Nat} (h : Ed p tl δ (.lst (bs.map D.bl))) (hj : bs[j]? = some true) (hn : ∀ m, m < j → bs[m]? = some false) : Ed p (tBM p.K "list" (rIndex p.K) tl (tCons (tC (.bl true)) tNil)) δ (.int (j : Nat)) := fun σ G H s sd rc rm Q k =>
  h σ G H s sd rc rm _ fun v d G1 H1 st rc1 dv pd => by
    subst pd
    obtain ⟨a, xs, rfl, e1, e2⟩ := dv.lst_inv
    have ex := e2.bls
    subst ex
    refine ⟨Or.inl ⟨rfl, _, SqL.of (st.sub _ _ e1)⟩, ?_⟩
    refine ⟨a, bs.map V.bl, .bl true, j, .bl true, rfl, rfl, SqL.of (st.sub _ _ e1), rfl, ?_, by rw [List.getElem?_map, hj]; rfl, rfl, fun m z hm hz => ?_, k _ _ G1 H1 st rc1 (.int _) rfl⟩
    · rw [List.all_map]
      exact List.all_eq_true.mpr fun _ _ => rfl
    · rw [List.getElem?_map, hn m hm] at hz
      cases hz
      rfl
end
end K10
set_option Elab.async false
set_option linter.all false
set_option maxRecDepth 100000
set_option maxHeartbeats 4000000
/-! _law_kind, _law_kept. -/
namespace K10
open PySem PySem.Spec PyProof.Rows L2 StX RZ
abbrev spErr (W : Wd) (x : Xc) (P : Er → D → Prop) : Pn → List V → Hp → VK → Prop := fun p vs H Q => ∃ (er : Er) (cls : Value) (d : Option Addr) (G : Hp), vs = [.ref p.1] ∧ Zc cls d p.2 ∧ (∃ fv, p.2.data = .fields fv) ∧ XAt x er cls d G ∧ Same G H ∧ (∀ i, er = .numbers i ∨ er = .parts i ∨ er = .box i → IxD i) ∧ Ret W.K W.C none G H (P er) Q
theorem un64 {k : Nat} {A : Around} (hr : L2H.RoomH k A) : A.units + 64 < cLine := by
  have := hr.un
  omega
abbrev R__law_kind : Rel := R_void
abbrev s__law_kind : Stmt := top 82
abbrev N__law_kind : List PySem.Str := ["_law_e", "_law_own", "_law_under", "_law_plain", "_law_at_here", "_law_heads"]
theorem sc__law_kind : FnScope N__law_kind ["_law_e"] (defScope s__law_kind) := ⟨rfl, rfl, rfl, by decide +kernel, rfl, by decide +kernel, by decide +kernel⟩
theorem neD_bools {p : Pm} {δ : Sl} {ta tb : TE} {l m : List Bool} (h1 : Ed p ta δ (.lst (l.map D.bl))) (h2 : Ed p tb δ (.lst (m.map D.bl))) (e : l = m) : Td p (tTest (tOp (rNeD p.K) ta tb)) δ false := by
  subst e
  have ok : (D.lst (l.map D.bl)).ok = true := by
    unfold D.ok
    exact oks_of fun d hd => by
      obtain ⟨b, _, rfl⟩ := List.mem_map.mp hd
      rfl
  have sh : SeqAt.shaped (D.lst (l.map D.bl)).py = true := shaped_lst fun d hd => by
    obtain ⟨b, _, rfl⟩ := List.mem_map.mp hd
    unfold D.py
    exact ⟨by unfold PyData.canLay0; rfl, by unfold PyData.depth; exact Nat.zero_le _⟩
  refine Td.to (td_test (ed_op h1 h2 (rop_neD ok ok sh sh))) ?_
  rw [SeqAt.eqv_refl _ (SeqAt.canLay_of_shaped sh)]
  rfl
section
variable {W : Wd} {x : Xc}
theorem ok__law_kind (T : Fr W.mg) (kt : KT W x) (hD : DefP W "_law_kind" 82) : Fp W 1 "_law_kind" ["_law_e"] (spErr W x fun er => (· = .str er.kind)) := by
  refine fp_mk hD sc__law_kind (fun _ _ _ _ _ _ us hl => match us, hl with | [_], _ => rfl) (fun p vs H Q h => by obtain ⟨_, _, _, _, e, _⟩ := h; rw [e]; rfl) fun f cdv A outer s H vs Q p hr h => ?_
  have nd := sc__law_kind.nd
  obtain ⟨er, cls, d, G, rfl, hz, hf, hx, sg, hix, k⟩ := h
  obtain ⟨da, rfl, hd⟩ := exc_da (K := W.K) (C := W.C) (a := p.1) hx
  have ec := kt.ec er
  refine ⟨_, (pss_cons (ps_set (i := 1) nd rfl (by first | exact Or.inl rfl | exact Or.inr rfl) (pe_lst (pa_cons (pe_callB (call_isP ec List.mem_cons_self hz hf) rfl T.n_isinstance (by decide +kernel) (pa_cons (pv 0) (pa_cons (pe_glob (v := .ref (kt.c "InvalidText")) rfl (kt.g _ (by decide)) rfl) pa_nil))) (pa_cons (pe_callB (call_isP ec List.mem_cons_self hz hf) rfl T.n_isinstance (by decide +kernel) (pa_cons (pv 0) (pa_cons (pe_glob (v := .ref (kt.c "InvalidNumber")) rfl (kt.g _ (by decide)) rfl) pa_nil))) (pa_cons (pe_callB (call_isP ec List.mem_cons_self hz hf) rfl T.n_isinstance (by decide +kernel) (pa_cons (pv 0) (pa_cons (pe_glob (v := .ref (kt.c "InvalidFraction")) rfl (kt.g _ (by decide)) rfl) pa_nil))) pa_nil)))))
      (pss_cons (ps_set (i := 1) nd rfl (by first | exact Or.inl rfl | exact Or.inr rfl) (pe_op op_cat (pv 1) (pe_lst (pa_cons (pe_callB (call_isP ec List.mem_cons_self hz hf) rfl T.n_isinstance (by decide +kernel) (pa_cons (pv 0) (pa_cons (pe_glob (v := .ref (kt.c "InvalidEdge")) rfl (kt.g _ (by decide)) rfl) pa_nil))) (pa_cons (pe_callB (call_isP ec List.mem_cons_self hz hf) rfl T.n_isinstance (by decide +kernel) (pa_cons (pv 0) (pa_cons (pe_glob (v := .ref (kt.c "InvalidName")) rfl (kt.g _ (by decide)) rfl) pa_nil))) (pa_cons (pe_callB (call_isP ec List.mem_cons_self hz hf) rfl T.n_isinstance (by decide +kernel) (pa_cons (pv 0) (pa_cons (pe_glob (v := .ref (kt.c "InvalidIndex")) rfl (kt.g _ (by decide)) rfl) pa_nil))) pa_nil))))))
      (pss_cons (ps_set (i := 1) nd rfl (by first | exact Or.inl rfl | exact Or.inr rfl) (pe_op op_cat (pv 1) (pe_lst (pa_cons (pe_callB (call_isP ec List.mem_cons_self hz hf) rfl T.n_isinstance (by decide +kernel) (pa_cons (pv 0) (pa_cons (pe_glob (v := .ref (kt.c "InvalidClaim")) rfl (kt.g _ (by decide)) rfl) pa_nil))) (pa_cons (pe_callB (call_isP ec List.mem_cons_self hz hf) rfl T.n_isinstance (by decide +kernel) (pa_cons (pv 0) (pa_cons (pe_glob (v := .ref (kt.c "InvalidCommand")) rfl (kt.g _ (by decide)) rfl) pa_nil))) (pa_cons (pe_callB (call_isP ec List.mem_cons_self hz hf) rfl T.n_isinstance (by decide +kernel) (pa_cons (pv 0) (pa_cons (pe_glob (v := .ref (kt.c "NotALine")) rfl (kt.g _ (by decide)) rfl) pa_nil))) pa_nil))))))
      (pss_cons (ps_set (i := 1) nd rfl (by first | exact Or.inl rfl | exact Or.inr rfl) (pe_op op_cat (pv 1) (pe_lst (pa_cons (pe_callB (call_isP ec List.mem_cons_self hz hf) rfl T.n_isinstance (by decide +kernel) (pa_cons (pv 0) (pa_cons (pe_glob (v := .ref (kt.c "NotSpans")) rfl (kt.g _ (by decide)) rfl) pa_nil))) (pa_cons (pe_callB (call_isP ec List.mem_cons_self hz hf) rfl T.n_isinstance (by decide +kernel) (pa_cons (pv 0) (pa_cons (pe_glob (v := .ref (kt.c "NotAMachine")) rfl (kt.g _ (by decide)) rfl) pa_nil))) (pa_cons (pe_callB (call_isP ec List.mem_cons_self hz hf) rfl T.n_isinstance (by decide +kernel) (pa_cons (pv 0) (pa_cons (pe_glob (v := .ref (kt.c "InvalidNumbers")) rfl (kt.g _ (by decide)) rfl) pa_nil))) pa_nil))))))
      (pss_cons (ps_set (i := 1) nd rfl (by first | exact Or.inl rfl | exact Or.inr rfl) (pe_op op_cat (pv 1) (pe_lst (pa_cons (pe_callB (call_isP ec List.mem_cons_self hz hf) rfl T.n_isinstance (by decide +kernel) (pa_cons (pv 0) (pa_cons (pe_glob (v := .ref (kt.c "InvalidStretches")) rfl (kt.g _ (by decide)) rfl) pa_nil))) (pa_cons (pe_callB (call_isP ec List.mem_cons_self hz hf) rfl T.n_isinstance (by decide +kernel) (pa_cons (pv 0) (pa_cons (pe_glob (v := .ref (kt.c "InvalidParts")) rfl (kt.g _ (by decide)) rfl) pa_nil))) (pa_cons (pe_callB (call_isP ec List.mem_cons_self hz hf) rfl T.n_isinstance (by decide +kernel) (pa_cons (pv 0) (pa_cons (pe_glob (v := .ref (kt.c "InvalidBox")) rfl (kt.g _ (by decide)) rfl) pa_nil))) pa_nil))))))
      (pss_cons (ps_set (i := 1) nd rfl (by first | exact Or.inl rfl | exact Or.inr rfl) (pe_op op_cat (pv 1) (pe_lst (pa_cons (pe_callB (call_isP ec List.mem_cons_self hz hf) rfl T.n_isinstance (by decide +kernel) (pa_cons (pv 0) (pa_cons (pe_glob (v := .ref (kt.c "InvalidAmounts")) rfl (kt.g _ (by decide)) rfl) pa_nil))) (pa_cons (pe_callB (call_isP ec List.mem_cons_self hz hf) rfl T.n_isinstance (by decide +kernel) (pa_cons (pv 0) (pa_cons (pe_glob (v := .ref (kt.c "UnknownName")) rfl (kt.g _ (by decide)) rfl) pa_nil))) (pa_cons (pe_callB (call_isP ec List.mem_cons_self hz hf) rfl T.n_isinstance (by decide +kernel) (pa_cons (pv 0) (pa_cons (pe_glob (v := .ref (kt.c "InUse")) rfl (kt.g _ (by decide)) rfl) pa_nil))) pa_nil))))))
      (pss_cons (ps_set (i := 1) nd rfl (by first | exact Or.inl rfl | exact Or.inr rfl) (pe_op op_cat (pv 1) (pe_lst (pa_cons (pe_callB (call_isP ec List.mem_cons_self hz hf) rfl T.n_isinstance (by decide +kernel) (pa_cons (pv 0) (pa_cons (pe_glob (v := .ref (kt.c "TooHigh")) rfl (kt.g _ (by decide)) rfl) pa_nil))) (pa_cons (pe_callB (call_isP ec List.mem_cons_self hz hf) rfl T.n_isinstance (by decide +kernel) (pa_cons (pv 0) (pa_cons (pe_glob (v := .ref (kt.c "NotHigh")) rfl (kt.g _ (by decide)) rfl) pa_nil))) (pa_cons (pe_callB (call_isP ec List.mem_cons_self hz hf) rfl T.n_isinstance (by decide +kernel) (pa_cons (pv 0) (pa_cons (pe_glob (v := .ref (kt.c "TooGreat")) rfl (kt.g _ (by decide)) rfl) pa_nil))) pa_nil))))))
      (pss_cons (ps_set (i := 1) nd rfl (by first | exact Or.inl rfl | exact Or.inr rfl) (pe_op op_cat (pv 1) (pe_lst (pa_cons (pe_callB (call_isP ec List.mem_cons_self hz hf) rfl T.n_isinstance (by decide +kernel) (pa_cons (pv 0) (pa_cons (pe_glob (v := .ref (kt.c "NothingToUndo")) rfl (kt.g _ (by decide)) rfl) pa_nil))) (pa_cons (pe_callB (call_isP ec List.mem_cons_self hz hf) rfl T.n_isinstance (by decide +kernel) (pa_cons (pv 0) (pa_cons (pe_glob (v := .ref (kt.c "Broken")) rfl (kt.g _ (by decide)) rfl) pa_nil))) pa_nil)))))
      (pss_cons (ps_set (i := 2) nd rfl (by first | exact Or.inl rfl | exact Or.inr rfl) (pe_lst (pa_cons (pe_callB (call_isP ec List.mem_cons_self hz hf) rfl T.n_isinstance (by decide +kernel) (pa_cons (pv 0) (pa_cons (pe_glob (v := .ref (kt.c "BadValue")) rfl (kt.g _ (by decide)) rfl) pa_nil))) (pa_cons (pe_callB (call_isP ec List.mem_cons_self hz hf) rfl T.n_isinstance (by decide +kernel) (pa_cons (pv 0) (pa_cons (pe_glob (v := .ref (kt.c "BadName")) rfl (kt.g _ (by decide)) rfl) pa_nil))) (pa_cons (pe_callB (call_isP ec List.mem_cons_self hz hf) rfl T.n_isinstance (by decide +kernel) (pa_cons (pv 0) (pa_cons (pe_glob (v := .ref (kt.c "NoAnswer")) rfl (kt.g _ (by decide)) rfl) pa_nil))) pa_nil)))))
      (pss_cons (ps_set (i := 3) nd rfl (by first | exact Or.inl rfl | exact Or.inr rfl) (pe_lst (pa_cons (pe_callB (call_isP ec List.mem_cons_self hz hf) rfl T.n_isinstance (by decide +kernel) (pa_cons (pv 0) (pa_cons (pe_bltn (v := .ty "ValueError") (u := .type "ValueError") rfl T.n_ValueError (by decide +kernel) rfl) pa_nil))) (pa_cons (pe_callB (call_isP ec List.mem_cons_self hz hf) rfl T.n_isinstance (by decide +kernel) (pa_cons (pv 0) (pa_cons (pe_bltn (v := .ty "LookupError") (u := .type "LookupError") rfl T.n_LookupError (by decide +kernel) rfl) pa_nil))) (pa_cons (pe_callB (call_isP ec List.mem_cons_self hz hf) rfl T.n_isinstance (by decide +kernel) (pa_cons (pv 0) (pa_cons (pe_bltn (v := .ty "ArithmeticError") (u := .type "ArithmeticError") rfl T.n_ArithmeticError (by decide +kernel) rfl) pa_nil))) pa_nil)))))
      (pss_cons (ps_set (i := 4) nd rfl (by first | exact Or.inl rfl | exact Or.inr rfl) (pe_ifExp (pt_cmpR op_eq (pe_bm PySem.F.plainAttrs_list PySem.F.slot_list_count PySem.F.type_list_count mt_countB (pv 1) (pa_cons pe_bl pa_nil)) pe_int (nomark _)) (pe_bm PySem.F.plainAttrs_list PySem.F.slot_list_index PySem.F.type_list_index mt_index (pv 1) (pa_cons pe_bl pa_nil)) pe_int))
      (pss_cons (ps_if (PW.pt (pw_or (pt_cmpR (op_neD (un64 hr)) (pv 2) (pv 3) (nomark _)) (pw_or1 (pt_cmpR (op_neD (un64 hr)) (pv 2) (pe_lst (pa_cons (pe_cmpR op_lt (pv 4) pe_int (nomark _)) (pa_cons (pe_chain op_le op_lt pe_int (pv 4) pe_int) (pa_cons (pe_chain op_le op_lt pe_int (pv 4) pe_int) pa_nil)))) (nomark _))))) (pss_one (ps_ret pe_str)) pss_nil)
      (pss_cons (ps_set (i := 5) nd rfl (by first | exact Or.inl rfl | exact Or.inr rfl) (pe_lst (pa_cons pe_str (pa_cons pe_str (pa_cons pe_str (pa_cons pe_str (pa_cons pe_str (pa_cons pe_str (pa_cons pe_str (pa_cons pe_str (pa_cons pe_str (pa_cons pe_str (pa_cons pe_str pa_nil)))))))))))))
      (pss_cons (ps_set (i := 5) nd rfl (by first | exact Or.inl rfl | exact Or.inr rfl) (pe_op op_cat (pv 5) (pe_lst (pa_cons pe_str (pa_cons pe_str (pa_cons pe_str (pa_cons pe_str (pa_cons pe_str (pa_cons pe_str (pa_cons pe_str (pa_cons pe_str (pa_cons pe_str (pa_cons pe_str pa_nil)))))))))))))
      (pss_one (ps_ret (pe_ix ix_list (pe_op op_cat (pv 5) (pe_lst (pa_cons pe_str (pa_cons pe_str pa_nil)))) (pv 4) (fun _ _ => rfl)))))))))))))))))), ?_⟩
  have a0 : At ⟨W.K, W.C, none, none⟩ ⟨G, H, G⟩ (startD N__law_kind [.exc p.1 (ddOf er d)]) (L2.start N__law_kind [.ref p.1]) H := At.begin sg (fun a e => by cases e) (.cons da .nil)
  have isx : ∀ (nm : PySem.Str) (hn : nm ∈ exNames) {δ : Sl} {te : TE}, Ed ⟨W.K, W.C, none, none⟩ te δ (.exc p.1 (ddOf er d)) → Ed ⟨W.K, W.C, none, none⟩ (tCB (rIsP W.K (er.cls x) p.1 d) (tCons te (tCons (tC (.ref (kt.c nm))) tNil))) δ (.bl (kb er nm)) := fun nm hn δ te h => ed_isP h hd (fun u r => r) (kt.kit er nm hn)
  refine q_set a0 (ed_lst (ad_cons (isx "InvalidText" (by decide) (ed_var rfl)) (ad_cons (isx "InvalidNumber" (by decide) (ed_var rfl)) (ad_cons (isx "InvalidFraction" (by decide) (ed_var rfl)) ad_nil)))) fun σ1 H1 a1 => ?_
  refine q_set a1 (ed_op (ed_var rfl) (ed_lst (ad_cons (isx "InvalidEdge" (by decide) (ed_var rfl)) (ad_cons (isx "InvalidName" (by decide) (ed_var rfl)) (ad_cons (isx "InvalidIndex" (by decide) (ed_var rfl)) ad_nil)))) (rop_catL (by simp))) fun σ2 H2 a2 => ?_
  refine q_set a2 (ed_op (ed_var rfl) (ed_lst (ad_cons (isx "InvalidClaim" (by decide) (ed_var rfl)) (ad_cons (isx "InvalidCommand" (by decide) (ed_var rfl)) (ad_cons (isx "NotALine" (by decide) (ed_var rfl)) ad_nil)))) (rop_catL (by simp))) fun σ3 H3 a3 => ?_
  refine q_set a3 (ed_op (ed_var rfl) (ed_lst (ad_cons (isx "NotSpans" (by decide) (ed_var rfl)) (ad_cons (isx "NotAMachine" (by decide) (ed_var rfl)) (ad_cons (isx "InvalidNumbers" (by decide) (ed_var rfl)) ad_nil)))) (rop_catL (by simp))) fun σ4 H4 a4 => ?_
  refine q_set a4 (ed_op (ed_var rfl) (ed_lst (ad_cons (isx "InvalidStretches" (by decide) (ed_var rfl)) (ad_cons (isx "InvalidParts" (by decide) (ed_var rfl)) (ad_cons (isx "InvalidBox" (by decide) (ed_var rfl)) ad_nil)))) (rop_catL (by simp))) fun σ5 H5 a5 => ?_
  refine q_set a5 (ed_op (ed_var rfl) (ed_lst (ad_cons (isx "InvalidAmounts" (by decide) (ed_var rfl)) (ad_cons (isx "UnknownName" (by decide) (ed_var rfl)) (ad_cons (isx "InUse" (by decide) (ed_var rfl)) ad_nil)))) (rop_catL (by simp))) fun σ6 H6 a6 => ?_
  refine q_set a6 (ed_op (ed_var rfl) (ed_lst (ad_cons (isx "TooHigh" (by decide) (ed_var rfl)) (ad_cons (isx "NotHigh" (by decide) (ed_var rfl)) (ad_cons (isx "TooGreat" (by decide) (ed_var rfl)) ad_nil)))) (rop_catL (by simp))) fun σ7 H7 a7 => ?_
  refine q_set a7 (ed_op (ed_var rfl) (ed_lst (ad_cons (isx "NothingToUndo" (by decide) (ed_var rfl)) (ad_cons (isx "Broken" (by decide) (ed_var rfl)) ad_nil))) (rop_catL (by simp))) fun σ8 H8 a8 => ?_
  obtain ⟨b1, b2, b3, b4, b5, b6⟩ := bits_ok er
  refine q_set a8 (d := .lst ([!er.isLow, false, er.isLow].map D.bl)) (Ed.to (ed_lst (ad_cons (isx "BadValue" (by decide) (ed_var rfl)) (ad_cons (isx "BadName" (by decide) (ed_var rfl)) (ad_cons (isx "NoAnswer" (by decide) (ed_var rfl)) ad_nil)))) (by rw [b4, b5, b6]; rfl)) fun σ9 H9 a9 => ?_
  refine q_set a9 (d := .lst ([!er.isLow, false, er.isLow].map D.bl)) (ed_lst (ad_cons (ed_isP (cv := .type "ValueError") (ed_var rfl) hd (fun u r => r) (kt.kV er)) (ad_cons (ed_isP (cv := .type "LookupError") (ed_var rfl) hd (fun u r => r) (kt.kL er)) (ad_cons (ed_isP (cv := .type "ArithmeticError") (ed_var rfl) hd (fun u r => r) (kt.kA er)) ad_nil)))) fun σ10 H10 a10 => ?_
  have own : ∀ {δ : Sl}, δ[1]? = some (some (.lst ((bits er).map D.bl))) → Ed ⟨W.K, W.C, none, none⟩ (tVar 1) δ (.lst ((bits er).map D.bl)) := fun h => ed_var h
  refine q_set a10 (d := .int (er.at : Nat)) (en_if (T := (· = true)) (Td.to (td_test (ed_eqI (ed_countB (bs := bits er) (own rfl) ed_bl) ed_int)) (by rw [b1]; rfl)) (fun _ => ed_indexB (own rfl) b2 b3) fun q => Bool.noConfusion q) fun σ11 H11 a11 => ?_
  have e3 : ([!er.isLow, false, er.isLow] : List Bool) = [decide ((er.at : Int) < 16), decide ((16 : Int) ≤ er.at) && decide ((er.at : Int) < 18), decide ((18 : Int) ≤ er.at) && decide ((er.at : Int) < 23)] := by cases er <;> rfl
  refine q_when (b := false || false) a11 (td_or (neD_bools (ed_var rfl) (ed_var rfl) rfl) fun _ => neD_bools (ed_var rfl) (ed_lst (ad_cons (ed_lt (ed_var rfl) ed_int) (ad_cons (ed_chain ed_int (ed_var rfl) rop_B0 (fun _ => ed_int) fun _ => rop_B0) (ad_cons (ed_chain ed_int (ed_var rfl) rop_B0 (fun _ => ed_int) fun _ => rop_B0) ad_nil)))) e3) (fun q => Bool.noConfusion q) fun _ H12 a12 => ?_
  refine q_set a12 (ed_lst (ad_cons ed_str (ad_cons ed_str (ad_cons ed_str (ad_cons ed_str (ad_cons ed_str (ad_cons ed_str (ad_cons ed_str (ad_cons ed_str (ad_cons ed_str (ad_cons ed_str (ad_cons ed_str ad_nil)))))))))))) fun σ13 H13 a13 => ?_
  refine q_set a13 (ed_op (ed_var rfl) (ed_lst (ad_cons ed_str (ad_cons ed_str (ad_cons ed_str (ad_cons ed_str (ad_cons ed_str (ad_cons ed_str (ad_cons ed_str (ad_cons ed_str (ad_cons ed_str (ad_cons ed_str ad_nil))))))))))) (rop_catL (by simp))) fun σ14 H14 a14 => ?_
  exact x_ret a14 (ed_ixL (ed_op (ed_var rfl) (ed_lst (ad_cons ed_str (ad_cons ed_str ad_nil))) (rop_catL (by simp))) (ed_var rfl) (by cases er <;> exact atI_nat rfl)) k
end
end K10
set_option Elab.async false
set_option linter.all false
set_option maxRecDepth 100000
set_option maxHeartbeats 4000000
/-! _law_kept. -/
namespace K10
open PySem PySem.Spec PyProof.Rows L2 StX RZ
theorem pe_nev {X : Cx} {e : Expr} : PE X e (fun _ _ _ => False) := ⟨fun _ _ _ _ _ _ h => h.elim⟩
/-- what is kept of an error -/
def keptD : Er → D
  | .numbers i => .tup [.str ("numbers" : PySem.Str), .str (rpT i)]
  | .parts i => .tup [.str ("parts" : PySem.Str), .str (rpT i)]
  | .box i => .tup [.str ("box" : PySem.Str), .str (rpT i)]
  | .low => .tup [.str ("low" : PySem.Str), .str ("" : PySem.Str)]
theorem due_kept (er : Er) : dueD (some er) = [keptD er] := by cases er <;> rfl
theorem xat_of {K : PySem.W.Frag} {C : Addr} {x : Xc} {G0 G1 : Hp} {er : Er} {cls : Value} {d : Option Addr} {a : Addr} {v : V} (h : XAt x er cls d G0) (h1 : DA K C G1 v (.exc a (ddOf er d))) : v = .ref a ∧ XAt x er cls d G1 := by
  cases h1 with
  | exc hx =>
    refine ⟨rfl, ?_⟩
    cases er with
    | low => exact h
    | numbers i =>
      obtain ⟨e1, dd, rfl, _⟩ := h
      exact ⟨e1, dd, rfl, hx _ _ rfl⟩
    | parts i =>
      obtain ⟨e1, dd, rfl, _⟩ := h
      exact ⟨e1, dd, rfl, hx _ _ rfl⟩
    | box i =>
      obtain ⟨e1, dd, rfl, _⟩ := h
      exact ⟨e1, dd, rfl, hx _ _ rfl⟩
section
variable {W : Wd} {x : Xc} {δ : Sl} {ra : TA} {te ta tb : TE} {P : Er → D → Prop} {m : Option (Addr × List D)}
/-- a def called with the error -/
theorem en_cp {q : Pn} {er : Er} {cls : Value} {d : Option Addr} {G0 : Hp} (h : Ad ⟨W.K, W.C, none, m⟩ ra δ [.exc q.1 (ddOf er d)]) (hx : XAt x er cls d G0) (hz : Zc cls d q.2) (hf : ∃ fv, q.2.data = .fields fv) (hi : ∀ i, er = .numbers i ∨ er = .parts i ∨ er = .box i → IxD i) :
    En ⟨W.K, W.C, none, m⟩ (fun σ H Q => ra σ H fun vs H1 => spErr W x P q vs H1 Q) δ (P er) := fun σ G H s sd rc rm Q k =>
  h σ G H s sd rc rm _ fun vs ds G1 H1 st rc1 dv pd => by
    subst pd
    cases dv with
    | cons d1 dv =>
      cases dv
      obtain ⟨rfl, hx1⟩ := xat_of hx d1
      exact ⟨er, cls, d, G1, rfl, hz, hf, hx1, st.sub, hi, fun v d' G2 H2 st2 rc2 da pz => k v d' G2 H2 (st.trans rc rc1 st2) rc2 da pz⟩
theorem rop_inS {p : Pm} {w : PySem.Str} {ss : List PySem.Str} : Rop p (rIn p.K false) (.str w) (.lst (ss.map D.str)) (· = .bl (ss.any fun s => s == w)) := rop_val fun G H v u s rm dx dy => by
  cases dx
  obtain ⟨a, xs, rfl, h1, h2⟩ := dy.lst_inv
  have e := h2.strs
  subst e
  refine ⟨_, .bl _, fun Q q => ⟨a, ss.map V.str, rfl, Or.inl (SqL.of (s _ _ h1)), rfl, ?_, ?_⟩⟩
  · rw [List.all_map]
    exact List.all_eq_true.mpr fun _ _ => rfl
  · have e2 : inV (.str w) (ss.map V.str) = ss.any fun s => s == w := by
      unfold inV
      rw [List.any_map]
      rfl
    show Q (.bl (inV (.str w) (ss.map V.str))) H
    rw [e2]
    exact q
end
theorem any_numbers : (["numbers", "stretches", "parts", "box", "amounts", "use"] : List PySem.Str).any (fun s => s == ("numbers" : PySem.Str)) = true := by decide +kernel
theorem any_parts : (["numbers", "stretches", "parts", "box", "amounts", "use"] : List PySem.Str).any (fun s => s == ("parts" : PySem.Str)) = true := by decide +kernel
theorem any_box : (["numbers", "stretches", "parts", "box", "amounts", "use"] : List PySem.Str).any (fun s => s == ("box" : PySem.Str)) = true := by decide +kernel
abbrev R__law_kept : Rel := R_void
abbrev s__law_kept : Stmt := top 83
abbrev N__law_kept : List PySem.Str := ["_law_e", "_law_word_here"]
theorem sc__law_kept : FnScope N__law_kept ["_law_e"] (defScope s__law_kept) := ⟨rfl, rfl, rfl, by decide +kernel, rfl, by decide +kernel, by decide +kernel⟩
section
variable {W : Wd} {x : Xc}
theorem ok__law_kept (T : Fr W.mg) (hX : XTx W x) (hD : DefP W "_law_kept" 83) (f__law_kind : Fp W 1 "_law_kind" ["_law_e"] (spErr W x fun er => (· = .str er.kind))) : Fp W 2 "_law_kept" ["_law_e"] (spErr W x fun er => (· = keptD er)) := by
  refine fp_mk hD sc__law_kept (fun _ _ _ _ _ _ us hl => match us, hl with | [_], _ => rfl) (fun p vs H Q h => by obtain ⟨_, _, _, _, e, _⟩ := h; rw [e]; rfl) fun f cdv A outer s H vs Q p hr h => ?_
  have nd := sc__law_kept.nd
  obtain ⟨er, cls, d, G, rfl, hz, hf, hx, sg, hix, k⟩ := h
  obtain ⟨da, e0, hd⟩ := exc_da (K := W.K) (C := W.C) (a := p.1) hx
  have a0 : At ⟨W.K, W.C, none, none⟩ ⟨G, H, G⟩ (startD N__law_kept [.exc p.1 (ddOf er d)]) (L2.start N__law_kept [.ref p.1]) H := At.begin sg (fun a e => by cases e) (.cons da .nil)
  have lst6 : ∀ {δ : Sl} {te : TE} (w : PySem.Str), Ed ⟨W.K, W.C, none, none⟩ te δ (.str w) → Td ⟨W.K, W.C, none, none⟩ (tTest (tOp (rIn W.K false) te (tLst (tCons (tC (.str "numbers")) (tCons (tC (.str "stretches")) (tCons (tC (.str "parts")) (tCons (tC (.str "box")) (tCons (tC (.str "amounts")) (tCons (tC (.str "use")) tNil))))))))) δ ((["numbers", "stretches", "parts", "box", "amounts", "use"] : List PySem.Str).any fun s => s == w) :=
    fun w h => td_test (ed_op h (ed_lst (ad_cons ed_str (ad_cons ed_str (ad_cons ed_str (ad_cons ed_str (ad_cons ed_str (ad_cons ed_str ad_nil))))))) (rop_inS (ss := ["numbers", "stretches", "parts", "box", "amounts", "use"])))
  by_cases hl : er.isLow = true
  · have el : er = .low := by cases er <;> first | rfl | cases hl
    subst el
    refine ⟨_, (pss_cons (ps_set (i := 1) nd rfl (by first | exact Or.inl rfl | exact Or.inr rfl) (pe_cp f__law_kind List.mem_cons_self hr (pa_cons (pv 0) pa_nil)))
      (pss_cons (ps_if (pt_cmpR op_in_seq (pv 1) (pe_lst (pa_cons pe_str (pa_cons pe_str (pa_cons pe_str (pa_cons pe_str (pa_cons pe_str (pa_cons pe_str pa_nil))))))) (by rfl)) (pss_one (ps_ret (pe_tup (pa_cons (pv 1) (pa_cons (pe_callB call_reprNI rfl T.n_repr (by decide +kernel) (pa_cons pe_nev pa_nil)) pa_nil))))) pss_nil)
      (pss_cons (ps_if (pt_cmpR op_eq (pv 1) pe_str (nomark _)) (pss_one (ps_ret (pe_tup (pa_cons (pv 1) (pa_cons pe_nev pa_nil))))) pss_nil)
      (pss_one (ps_ret (pe_tup (pa_cons (pv 1) (pa_cons (pe_ifExp (pt_cmpR op_in_seq (pv 1) (pe_lst (pa_cons pe_str (pa_cons pe_str (pa_cons pe_str (pa_cons pe_str (pa_cons pe_str pa_nil)))))) (by rfl)) pe_str pe_nev) pa_nil)))))))), ?_⟩
    refine q_set a0 (en_cp (q := p) (P := fun er => (· = .str er.kind)) (ad_cons (ed_var rfl) ad_nil) hx hz hf hix) fun σ1 H1 a1 => ?_
    refine q_when (b := false) a1 (Td.to (lst6 _ (ed_var rfl)) (by decide +kernel)) (fun z => Bool.noConfusion z) fun _ H2 a2 => ?_
    refine q_when (b := false) a2 (Td.to (td_test (ed_op (ed_var rfl) ed_str rop_eqS)) (by decide +kernel)) (fun z => Bool.noConfusion z) fun _ H3 a3 => ?_
    exact x_ret a3 (ed_tup (ad_cons (ed_var rfl) (ad_cons (en_if (T := (· = true)) (Td.to (td_test (ed_op (ed_var rfl) (ed_lst (ad_cons ed_str (ad_cons ed_str (ad_cons ed_str (ad_cons ed_str (ad_cons ed_str ad_nil)))))) (rop_inS (ss := ["high", "low", "great", "nothing", "odd"])))) (by decide +kernel)) (fun _ => ed_str) fun z => Bool.noConfusion z) ad_nil))) k
  · have el : ∃ i cn cq fI dd, keptD er = .tup [.str er.kind, .str (rpT i)] ∧ ddOf er d = some (dd, ixV i) ∧ d = some dd ∧ IxD i ∧ PySem.IxX.IxTxt W.K W.mg cn cq (er.cls x) fI ∧ (["numbers", "stretches", "parts", "box", "amounts", "use"] : List PySem.Str).any (fun s => s == er.kind) = true := by
      cases er with
      | low => exact absurd rfl hl
      | numbers i =>
        obtain ⟨_, dd, rfl, _⟩ := hx
        exact ⟨i, _, _, _, dd, rfl, rfl, rfl, hix i (Or.inl rfl), hX.tInvalidNumbers, any_numbers⟩
      | parts i =>
        obtain ⟨_, dd, rfl, _⟩ := hx
        exact ⟨i, _, _, _, dd, rfl, rfl, rfl, hix i (Or.inr (Or.inl rfl)), hX.tInvalidParts, any_parts⟩
      | box i =>
        obtain ⟨_, dd, rfl, _⟩ := hx
        exact ⟨i, _, _, _, dd, rfl, rfl, rfl, hix i (Or.inr (Or.inr rfl)), hX.tInvalidBox, any_box⟩
    obtain ⟨i, cn, cq, fI, dd, ek, ed, ed2, ei, TI, ew⟩ := el
    subst e0 ed2
    refine ⟨_, (pss_cons (ps_set (i := 1) nd rfl (by first | exact Or.inl rfl | exact Or.inr rfl) (pe_cp f__law_kind List.mem_cons_self hr (pa_cons (pv 0) pa_nil)))
      (pss_cons (ps_if (pt_cmpR op_in_seq (pv 1) (pe_lst (pa_cons pe_str (pa_cons pe_str (pa_cons pe_str (pa_cons pe_str (pa_cons pe_str (pa_cons pe_str pa_nil))))))) (by rfl)) (pss_one (ps_ret (pe_tup (pa_cons (pv 1) (pa_cons (pe_callB call_reprNI rfl T.n_repr (by decide +kernel) (pa_cons (pe_ixP TI List.mem_cons_self hz hf (pv 0)) pa_nil)) pa_nil))))) pss_nil)
      (pss_cons (ps_if (pt_cmpR op_eq (pv 1) pe_str (nomark _)) (pss_one (ps_ret (pe_tup (pa_cons (pv 1) (pa_cons pe_nev pa_nil))))) pss_nil)
      (pss_one (ps_ret (pe_tup (pa_cons (pv 1) (pa_cons (pe_ifExp (pt_cmpR op_in_seq (pv 1) (pe_lst (pa_cons pe_str (pa_cons pe_str (pa_cons pe_str (pa_cons pe_str (pa_cons pe_str pa_nil)))))) (by rfl)) pe_str pe_nev) pa_nil)))))))), ?_⟩
    refine q_set a0 (en_cp (q := p) (P := fun er => (· = .str er.kind)) (ad_cons (ed_var rfl) ad_nil) hx hz hf hix) fun σ1 H1 a1 => ?_
    refine q_when (b := true) a1 (Td.to (lst6 _ (ed_var rfl)) ew) (fun _ H2 a2 => ?_) fun z => Bool.noConfusion z
    refine x_ret a2 (En.of (ed_tup (ad_cons (ed_var rfl) (ad_cons (ed_repr (ed_ixP (i := i) (ed_var (show _ = some (some (D.exc p.1 (some (dd, ixV i)))) from by rw [← ed]; rfl)) ei) ei) ad_nil))) ek.symm) k
end
end K10
set_option Elab.async false
set_option linter.all false
set_option maxRecDepth 100000
set_option maxHeartbeats 4000000
/-! try: .. except (A, B, C) as e: .. (each error is one of them). -/
namespace K10
open PySem PySem.Spec PyProof.Rows L2 StX RZ
theorem fly_mono {B h h' : Heap} {l : List Env} {a : Addr} {Z : Obj → Prop} (k : ∀ b o, h.get? b = some o → h'.get? b = some o) (x : HandSPX.FlyingZ B l a Z h) : HandSPX.FlyingZ B l a Z h' := by
  obtain ⟨h1, h2, h3, oe, vs, T, oT, ts, q1, q2, q3, q4, q5, q6, q7, q8, q9⟩ := x
  exact ⟨fun b o e => k b o (h1 b o e), h2, Heap.FunFrames.of_keeps (fun b o e _ => ⟨o, k b o e, rfl⟩) h3, oe, vs, T, oT, ts, k _ _ q1, q2, q3, q4, q5, q6, k _ _ q7, q8, q9⟩
/-- the wish of an error that is one of the three -/
def w3 (K : PySem.W.Frag) (cs : List Value) (i : Nat) (ts : Addr → Value → Option Addr → TS) (D : Ends) : WX := fun cls d σ H => PySem.W.exmAny K cls cs = some true ∧
  ∀ a, H a = none → ts a cls d { nx := fun σ' H' => D.nx (σ'.set i none) H', rt := D.rt, bk := fun σ' H' => D.bk (σ'.set i none) H', ct := fun σ' H' => D.ct (σ'.set i none) H' } (σ.set i (some (.ref a))) H
section
variable {X : Cx} {x1 x2 x3 n : PySem.Str} {a1 a2 a3 : Addr} {i kk : Nat} {body suite : List Stmt} {b₀ : Stmt} {q1 q2 q3 q4 pos pos' : Pos} {tb : WX → TS} {ts : Addr → Value → Option Addr → TS}
theorem ps_try3 (hs : X.stack = X.env :: X.outer) (hf : X.env.frame = some X.env.locals) (hN : X.N.Nodup) (hi : X.N[i]? = some n) (hln : X.env.kindOf n = some .local) (g1 : Gl X x1) (m1 : X.mg x1 = some (.ref a1)) (d1 : (x1 == ("__debug__" : Str)) = false) (g2 : Gl X x2) (m2 : X.mg x2 = some (.ref a2)) (d2 : (x2 == ("__debug__" : Str)) = false)
    (g3 : Gl X x3) (m3 : X.mg x3 = some (.ref a3)) (d3 : (x3 == ("__debug__" : Str)) = false)
    (hb : ∀ (W : WX) (pn : List (Addr × Obj)) (xe : Value → Shared → Prop), Takes (X.tr pn xe) W → PassesOwn (model X.prog X.w) X.A X.env xe → PSs (X.tr pn xe) body (tb W))
    (hsu : ∀ (a : Addr) (oe : Obj) (cls : Value) (d : Option Addr) (pn : List (Addr × Obj)), Zc cls d oe → (∃ vs, oe.data = .fields vs) → PSs (X.suite a ((a, oe) :: pn)) (b₀ :: suite) (ts a cls d)) :
    PS X (.Try body [.ExceptHandler (some (.Tuple [.Name x1 q1, .Name x2 q2, .Name x3 q3] kk q4)) (some n) (b₀ :: suite) pos'] [] [] pos) (fun D σ H => tb (w3 X.K [.ref a1, .ref a2, .ref a3] i ts D) D σ H) := by
  refine ⟨fun pins s σ H D I h => wpAny_Try_except ?_⟩
  have ok := I.ok
  have fr : X.A.frames = some (X.env :: X.outer) := by rw [ok.frames, hs]
  refine wpAny_mono ((hb (w3 X.K [.ref a1, .ref a2, .ref a3] i ts D) (X.pn ++ pins) (fun e z₁ => wpAny (model X.prog X.w) X.A (noteFrame e X.env) (fun _ z₂ => wpAny (model X.prog X.w) X.A (setFlight e none) (fun _ z₃ =>
    wpAny (model X.prog X.w) X.A (handleBy e X.env [.ExceptHandler (some (.Tuple [.Name x1 q1, .Name x2 q2, .Name x3 q3] kk q4)) (some n) (b₀ :: suite) pos']) (SP X pins D) X.xe z₃) X.xe z₂) X.xe z₁) (fun u z xx => ?_) PassesOwn.looking).run [] s σ H D (I.toTry _) h) (fun f z1 hsp => ?_) (fun e z1 he => he)
  · obtain ⟨a, B, sI, pins', σ', H', cls, d, rfl, J', nb, up, sky, na, os, ag, hm, hyes⟩ := xx
    have J : Inv X pins σ' H' sI := J'.ofTry ok
    have sky2 : Sky B (X.env :: X.outer) a (Zc cls d) X.env.locals z.heap := by rw [← hs]; exact sky
    show wpAny (model X.prog X.w) X.A (noteFrame (.ref a) X.env) _ _ _; refine Sky.land Zc.steady fr hf sky2 fun k3 fl3 up3 => ?_
    have J3 : Inv X pins σ' H' { z with heap := k3 } := J.landed nb fl3.1 (up.trans up3) os ag
    obtain ⟨oe3, w3', he3, hz3, hd3⟩ := fl3.there
    have apart : ∀ {k : Heap} {o : Obj} {vs : Array Value}, k.FunFrames B (X.env :: X.outer) → k.get? a = some o → o.data = .fields vs → a ∉ frs (X.env :: X.outer) := fun {k o vs} ff e dd hm => by
      obtain ⟨_, o', e', hnf⟩ := ff.mem hm; rw [e] at e'; cases e'; exact hnf _ dd
    have nfr := apart fl3.2.2.1 he3 hd3
    have nL : a ≠ X.env.locals := fun e => nfr (List.mem_filterMap.mpr ⟨X.env, List.mem_cons_self, by rw [hf, e]⟩)
    have nF : a ∉ X.fs := fun hm => by
      obtain ⟨e, he, w⟩ := List.mem_filterMap.mp hm; exact nfr (List.mem_filterMap.mpr ⟨e, List.mem_cons_of_mem _ he, w⟩)
    have S3 := J3.suite he3 hd3 na nL nF
    refine wpAny_handleBy_cons (codeAny_handlers_test ?_) (by intro w; cases w)
    refine wpAny_Tuple_spliced (Calls.spliced_cons (ld_glob (X := X.suite a ((a, oe3) :: (X.pn ++ pins))) S3 g1 m1 (Calls.spliced_cons (ld_glob (X := X.suite a ((a, oe3) :: (X.pn ++ pins))) S3 g2 m2 (Calls.spliced_cons (ld_glob (X := X.suite a ((a, oe3) :: (X.pn ++ pins))) S3 g3 m3
      (Calls.spliced_nil ⟨by show 3 ≤ sizeLine; decide, ?_⟩) d3)) d2)) d1))
    have kp : ∀ b o, k3.get? b = some o → (k3.push { cls := .type "tuple", data := .seq [Value.ref a1, .ref a2, .ref a3].toArray }).get? b = some o := fun b o e => Heap.get?_push_of_some _ e
    have fl5 := fly_mono kp fl3
    have J5 : Inv X pins σ' H' { z with heap := k3.push { cls := .type "tuple", data := .seq [Value.ref a1, .ref a2, .ref a3].toArray } } := J3.kept (t' := z.toks) kp
    have LT : PySem.W.Looks (model X.prog X.w) (k3.push { cls := .type "tuple", data := .seq [Value.ref a1, .ref a2, .ref a3].toArray }) (typeOf (.ref a)) cls := fun A Q E s k w => wpAny_typeOf_ref (k _ _ (kp _ _ he3)) (by rw [hz3.1]; exact w)
    have LM := PySem.W.exm_tup3 (M := model X.prog X.w) (tp := k3.objs.size) J5.kIn LT (Heap.get?_push_size _ rfl) hm
    refine LM.here ?_
    refine codeAny_handlers_suite_as (HandSPX.lands_againZ fl5 fun h4 fl4 up4 => ?_)
    have J4 : Inv X pins σ' H' { z with heap := h4 } := J.landed nb fl4.1 (((up.trans up3).trans (Heap.UpToSlots.of_keeps kp)).trans up4) os ag
    obtain ⟨oe4, vs4, he4, hz4, hd4⟩ := fl4.there
    have S4 := J4.suite he4 hd4 na nL nF
    refine store_ok (X := X.suite a ((a, oe4) :: (X.pn ++ pins))) (v := .ref a) S4 hN hi (.inl hln) rfl (fun z5 S5 => wpAny_mono ((hsu a oe4 cls d (X.pn ++ pins) hz4 ⟨_, hd4⟩).run [] z5 _ H' _ S5 (hyes a na)) (fun f z6 hsp => ?_) (fun _ _ w => False.elim w)) (.inr hln)
    have fin : ∀ {σ6 : L2.St} {H6 : Hp} {Q : Shared → Prop}, Inv (X.suite a ((a, oe4) :: (X.pn ++ pins))) [] σ6 H6 z6 → (∀ z7, Inv X pins (σ6.set i none) H6 z7 → Q z7) → wpAny (model X.prog X.w) X.A (do bindName X.env n .none; unbindBehindTheSuite X.env n pos') (fun _ z7 => Q z7) X.xe z6 := fun {σ6 H6 Q} S6 hq => gone_ok (S6.unsuite ok) hN hi hln hq
    match f, hsp with
    | .next, ⟨σ6, H6, S6, w6⟩ => exact fin S6 fun z7 J7 => ⟨_, _, J7, w6⟩
    | .brk, ⟨σ6, H6, S6, w6⟩ => exact fin S6 fun z7 J7 => ⟨_, _, J7, w6⟩
    | .cont, ⟨σ6, H6, S6, w6⟩ => exact fin S6 fun z7 J7 => ⟨_, _, J7, w6⟩
    | .ret u, ⟨v6, σ6, H6, S6, r6, w6⟩ => exact fin S6 fun z7 J7 => ⟨_, _, _, J7, r6, w6⟩
  · match f, hsp with
    | .next, ⟨σ', H', J', w⟩ => exact wpAny_execs_nil ⟨σ', H', J'.ofTry ok, w⟩
    | .brk, ⟨σ', H', J', w⟩ => exact ⟨σ', H', J'.ofTry ok, w⟩
    | .cont, ⟨σ', H', J', w⟩ => exact ⟨σ', H', J'.ofTry ok, w⟩
    | .ret u, ⟨v, σ', H', J', r, w⟩ => exact ⟨v, σ', H', J'.ofTry ok, r, w⟩
end
end K10
set_option Elab.async false
set_option linter.all false
set_option maxRecDepth 100000
set_option maxHeartbeats 4000000
/-! _law_caught: what it makes of the lambda. -/
namespace K10
open PySem PySem.Spec PyProof.Rows L2 StX RZ
/-- what is wanted of a def that gets the error that is handled at a -/
def spE (W : Wd) (x : Xc) (P : Er → D → Prop) (a : Addr) (cls : Value) (d : Option Addr) : List V → Hp → VK → Prop := fun vs H Q => ∃ (er : Er) (G : Hp), vs = [.ref a] ∧ XAt x er cls d G ∧ Same G H ∧ (∀ i, er = .numbers i ∨ er = .parts i ∨ er = .box i → IxD i) ∧ Ret W.K W.C none G H (P er) Q
/-- ('back', v), or what is kept of the error -/
def TTc (W : Wd) (x : Xc) (cs : List Value) : (XK → Hp → VK → Prop) → Hp → VK → Prop := fun tl H Q =>
  tl (fun cls d H' => PySem.W.exmAny W.K cls cs = some true ∧ ∀ a, H' a = none → spE W x (fun er => (· = keptD er)) a cls d [.ref a] H' Q) H fun v H' => ∀ t, H' t = none → Q (.ref t) (upd H' t (.tup [.str ("back" : PySem.Str), v]))
abbrev R__law_caught : Rel := R_void
abbrev s__law_caught : Stmt := top 84
abbrev N__law_caught : List PySem.Str := ["_law_act_here", "_law_back", "_law_e"]
theorem sc__law_caught : FnScope N__law_caught ["_law_act_here"] (defScope s__law_caught) := ⟨rfl, rfl, rfl, by decide +kernel, rfl, by decide +kernel, by decide +kernel⟩
theorem pss_len {X : Cx} {st : List Stmt} {t : TS} (h : PSs X st t) : PSs X st (fun D σ H => σ.length = X.N.length → t D σ H) := ⟨fun pins s σ H D I hw => h.run pins s σ H D I (hw I.len)⟩
theorem pe_w {X : Cx} {e : Expr} {t t' : TE} (h : PE X e t) (hi : ∀ σ H Q, t' σ H Q → t σ H Q) : PE X e t' := ⟨fun pins s σ H Q I w => h.run pins s σ H Q I (hi _ _ _ w)⟩
abbrev wdOf (X : Cx) (C : Addr) : Wd := ⟨X.prog, X.w, X.K, X.mg, X.base, C⟩
theorem caught_gives {X : Cx} {C : Addr} {x : Xc} (kt : KT (wdOf X C) x) {g : Addr} {cdg : Value} {q : PySem.Str} (f__law_kept : Fp (wdOf X C) 2 "_law_kept" ["_law_e"] (spErr (wdOf X C) x fun er => (· = keptD er))) (hr : L2H.RoomH 4 X.A) :
    LamX.GivesTo X N__law_caught "_law_caught" (defScope s__law_caught) g cdg (defBody s__law_caught) "_law_act_here" q (TTc (wdOf X C) x [.ref (kt.c "BadValue"), .ref (kt.c "BadName"), .ref (kt.c "NoAnswer")]) := by
  intro f c' s H Q tl act hc h
  have nd := sc__law_caught.nd
  have m1 : X.mg "BadValue" = some (.ref (kt.c "BadValue")) := kt.g _ (by decide)
  have m2 : X.mg "BadName" = some (.ref (kt.c "BadName")) := kt.g _ (by decide)
  have m3 : X.mg "NoAnswer" = some (.ref (kt.c "NoAnswer")) := kt.g _ (by decide)
  refine ⟨_, pss_cons (ps_try3 (X := (cxOf C8.CX0 X.prog X.w X.K X.mg X.base N__law_caught "_law_caught" (defScope s__law_caught) g cdg X.A X.stack s H C8.E0).nox) (i := 2)
      (tb := fun W D σ H => ∃ Ech : XK, (∀ cls d σ' H', Ech cls d H' → W cls d σ' H') ∧ σ[0]? = some (some (.ref f)) ∧ H c' = some (LamX.CodeO c' q) ∧ tl Ech H (fun v H1 => gName 1 v σ H1 D.nx))
      (ts := fun a cls d D σ H => σ.length = 3 → tRet (fun σ H Q => tCons (tVar 2) tNil σ H fun vs H1 => spE (wdOf X C) x (fun er => (· = keptD er)) a cls d vs H1 Q) D σ H)
      rfl rfl nd rfl rfl (by rfl) m1 (by decide) (by rfl) m2 (by decide) (by rfl) m3 (by decide) (fun W pn xe tk _ => ?_) (fun a oe cls d pn hz hf => ?_)) (pss_one (ps_ret (pe_tup (pa_cons pe_str (pa_cons (pv 1) pa_nil))))), ?_⟩
  · refine ⟨fun pins s' σ H' D I h' => ?_⟩
    obtain ⟨Ech, hW, h1, h2, h3⟩ := h'
    exact (pss_one (ps_set (i := 1) nd rfl (Or.inl rfl) (act W pn xe Ech _ _ tk hW))).run pins s' σ H' D I ⟨h1, h2, h3⟩
  · have hrs : L2H.RoomH 2 ((cxOf C8.CX0 X.prog X.w X.K X.mg X.base N__law_caught "_law_caught" (defScope s__law_caught) g cdg X.A X.stack s H C8.E0).nox.suite a ((a, oe) :: pn)).A := ⟨by have := hr.dp; show X.A.depth + 1 + 3 * 2 + 5 < _; omega, by have := hr.un; show X.A.units + 3 + 16 * 2 + 200 < _; omega⟩
    refine pss_len (t := tRet (fun σ H Q => tCons (tVar 2) tNil σ H fun vs H1 => spE (wdOf X C) x (fun er => (· = keptD er)) a cls d vs H1 Q)) (pss_one (ps_ret (pe_w (pe_cp (p := (a, oe)) f__law_kept List.mem_cons_self hrs (pa_cons (pv 2) pa_nil)) fun σ H Q h => ?_)))
    obtain ⟨v, hv, er, G, e1, h1, h2, h3, h4⟩ := h
    exact ⟨v, hv, er, cls, d, G, e1, hz, hf, h1, h2, h3, h4⟩
  · refine ⟨fun cls d H' => PySem.W.exmAny X.K cls [.ref (kt.c "BadValue"), .ref (kt.c "BadName"), .ref (kt.c "NoAnswer")] = some true ∧ ∀ a, H' a = none → spE (wdOf X C) x (fun er => (· = keptD er)) a cls d [.ref a] H' Q, fun cls d σ' H' hE => ⟨hE.1, fun a ha hl => ?_⟩, rfl, hc, ?_⟩
    · exact ⟨.ref a, by rw [List.length_set] at hl; exact List.getElem?_set_self (by rw [hl]; decide), hE.2 a ha⟩
    · refine Eq.mp (congrArg (tl _ H) ?_) h
      funext v H1
      refine propext ⟨fun k => ?_, fun k => ?_⟩
      · exact ⟨v, rfl, by show 2 ≤ sizeLine; decide, k⟩
      · obtain ⟨v', e, _, k⟩ := k
        cases e
        exact k
end K10
set_option Elab.async false
set_option linter.all false
set_option maxRecDepth 100000
set_option maxHeartbeats 4000000
/-! _law_caught(lambda: ..). -/
namespace K10
open PySem PySem.Spec PyProof.Rows L2 StX RZ
abbrev ccs {W : Wd} {x : Xc} (kt : KT W x) : List Value := [.ref (kt.c "BadValue"), .ref (kt.c "BadName"), .ref (kt.c "NoAnswer")]
abbrev tabs (P : Addr) : List (Addr × PySem.Str) := [(P, "_law_right.<locals>.<lambda>")]
theorem pe_caught {X : Cx} {C : Addr} {x : Xc} (kt : KT (wdOf X C) x) (f__law_kept : Fp (wdOf X C) 2 "_law_kept" ["_law_e"] (spErr (wdOf X C) x fun er => (· = keptD er))) (hD : DefP (wdOf X C) "_law_caught" 84) {c P : Addr} {k : Nat} (TB : LamX.TabB X.base X.mg c P) (hcode : X.env.code = .ref c)
    (hq : X.env.qual ++ "<lambda>" = ("_law_right.<locals>.<lambda>" : PySem.Str)) (hr : Room (k + 4) X.A) {params : Arguments} {body : Expr} {scope : Scope} {t : XK → TE} {p lpos pos : Pos} (L : LamX.LamS X.env.scope scope) (hdef : defaultsOf params X.env = ([], []))
    (hbind : ∀ (q : PySem.Str) (cl : List (PySem.Str × Addr)) (pm cv ctv : Value), bindArgs (PySem.W.kla_fn "<lambda>" q params body scope cl pm cv ctv) ⟨[], []⟩ = pure [])
    (hbody : ∀ (A : Around) (outer : List Env) (s : Shared) (H : Hp) (E : XK) (f c' : Addr), Room k (A.deeper (LamX.lamEnv X scope s.heap.objs.size f c')) → PE (LamX.lamCx X A outer s H E scope f c') body (t E))
    (hg : Gl X "_law_caught" := by rfl) :
    PE X (.Call (.Name "_law_caught" p) [.Lambda params body scope lpos] [] pos) (LamX.tLam (tabs P) (TTc (wdOf X C) x (ccs kt)) t) := by
  obtain ⟨g, fd, F, m⟩ := hD
  have hb := F.bindsN (ps := ["_law_act_here"]) (fun _ _ _ _ _ _ us hl => match us, hl with | [_], _ => rfl)
  have kp := F.kp
  obtain ⟨oc, od, dV, kV, doc, pm, an, cdv, ct, osl, rfl, lk, hcd, _, _⟩ := F.ex
  exact LamX.pe_lamcall (k := k) hg m kp lk hcd hb sc__law_caught rfl (Or.inl rfl) (caught_gives kt f__law_kept ((L2H.roomH_of hr).mono (by omega))) TB hcode (List.mem_singleton.mpr (by rw [hq])) (fun p hp _ => by rw [List.mem_singleton.mp hp, hq]) (hr.mono (by omega)) L hdef hbind hbody
end K10
set_option Elab.async false
set_option linter.all false
set_option maxRecDepth 100000
set_option maxHeartbeats 4000000
/-! What comes back of a lambda that is caught. -/
namespace K10
open PySem PySem.Spec PyProof.Rows L2 StX RZ
section
variable {K : PySem.W.Frag} {C : Addr} {G G' : Hp}
theorem sqT_ext {a : Addr} {xs : List V} (e : LamX.ExtN G G') (h : SqT K G a xs) : SqT K G' a xs := by
  rcases h with (h | ⟨o, h⟩) | h
  · exact Or.inl (Or.inl (e _ _ h fun ps z => by cases z))
  · exact Or.inl (Or.inr ⟨o, e _ _ h fun ps z => by cases z⟩)
  · exact Or.inr h
theorem sqL_ext {a : Addr} {xs : List V} (e : LamX.ExtN G G') (h : SqL K G a xs) : SqL K G' a xs := by
  rcases h with (h | ⟨o, h⟩) | h
  · exact Or.inl (Or.inl (e _ _ h fun ps z => by cases z))
  · exact Or.inl (Or.inr ⟨o, e _ _ h fun ps z => by cases z⟩)
  · exact Or.inr h
mutual
theorem DA.ext (e : LamX.ExtN G G') : ∀ {v : V} {d : D}, DA K C G v d → DA K C G' v d
  | _, _, .non => .non
  | _, _, .bl b => .bl b
  | _, _, .int i => .int i
  | _, _, .str x => .str x
  | _, _, .tup h r => .tup (sqT_ext e h) (DAs.ext e r)
  | _, _, .lst h r => .lst (e _ _ h fun ps z => by cases z) (DAs.ext e r)
  | _, _, .dct h => .dct (e _ _ h fun ps z => by cases z)
  | _, _, .adr a => .adr a
  | _, _, .scr h => .scr (sqL_ext e h)
  | _, _, .mac h h1 h2 h3 => .mac (e _ _ h fun ps z => by cases z) (DA.ext e h1) (DA.ext e h2) (DA.ext e h3)
  | _, _, .exc h => .exc fun d v q => e _ _ (h d v q) fun ps z => by cases z
theorem DAs.ext (e : LamX.ExtN G G') : ∀ {vs : List V} {ds : List D}, DAs K C G vs ds → DAs K C G' vs ds
  | _, _, .nil => .nil
  | _, _, .cons h r => .cons (DA.ext e h) (DAs.ext e r)
end
end
theorem errOf_ix {b p t : D} {er : Er} (h : errOf b p t = some er) (wb : D.w 50 b = true) (wp : D.w 50 p = true) (wt : D.w 50 t = true) : ∀ i, er = .numbers i ∨ er = .parts i ∨ er = .box i → IxD i := by
  have fb : ∀ {f : D → Bool} {ds : List D} {hi : Nat} {n : Nat}, D.w 50 (.tup ds) = true → IxD (firstD (bads f ds hi) (.non)) := fun {f ds hi n} hw => by
    have hl := (w_tup.mp hw).1
    cases q : bads f ds hi with
    | nil => exact Or.inl rfl
    | cons k r => exact Or.inr ⟨k, rfl, by have := bads_le q; omega⟩
  intro i hi
  unfold errOf at h
  split at h
  · rename_i e
    cases h
    rcases hi with z | z | z <;> cases z
    exact ((first_spec (w_up (by decide) wb)).2 e).2
  · split at h
    · split at h
      · cases h
        rcases hi with z | z | z <;> cases z
        exact fb (n := 0) wp
      · split at h
        · split at h
          · cases h
            rcases hi with z | z | z <;> cases z
            exact fb (n := 0) wt
          · split at h
            · cases h
            · cases h
              rcases hi with z | z | z <;> cases z
        · cases h
          rcases hi with z | z | z <;> cases z
          exact Or.inl rfl
    · cases h
      rcases hi with z | z | z <;> cases z
      exact Or.inl rfl
/-- what is caught -/
def lamD (b p t : D) : D := match errOf b p t with
  | none => .tup [.str ("back" : PySem.Str), .mac b p t]
  | some er => keptD er
theorem kept_two (er : Er) : ∃ s t, keptD er = .tup [.str s, .str t] := by cases er <;> exact ⟨_, _, rfl⟩
theorem caught_out {W : Wd} {x : Xc} {kt : KT W x} {b p t : D} {c : Option Addr} {G H : Hp} {Q : VK} {tl : XK → Hp → VK → Prop} (xm : ∀ er : Er, PySem.W.exmAny W.K (.ref (er.cls x)) (ccs kt) = some true)
    (htl : ∀ (E : XK) (Q' : VK), (errOf b p t = none → Ret W.K W.C none G H (· = .mac b p t) Q') → (∀ er, errOf b p t = some er → RetX x G H er E) → tl E H Q')
    (wb : D.w 50 b = true) (wp : D.w 50 p = true) (wt : D.w 50 t = true) (sg : Same G H) (rc : RC c G H)
    (k : ∀ v G' H', Same G G' → Same G' H' → Same H H' → RC c G' H' → (∀ a o, G' a = some o → G a = none → H a = none ∨ ∀ xs, o ≠ .lst xs) → DA W.K W.C G' v (lamD b p t) → Q v H') : TTc W x (ccs kt) tl H Q := by
  unfold TTc
  have r0 : ∀ {G H : Hp}, RC none G H := fun a e => by cases e
  refine htl _ _ (fun e v d G2 H2 st rc2 da pd tt ht => ?_) fun er he cls d G2 H2 st hx => ⟨?_, fun a ha => ?_⟩
  · subst pd
    have gt : G2 tt = none := same_none st.sub ht
    have h0 : H tt = none := st.freeC ht (by simp)
    have s4 := (st.mut (o := .tup [.str ("back" : PySem.Str), v]) h0 gt).tell h0 upd_same gt
    obtain ⟨s5, r5⟩ := s4.up rc
    have sm : Same G2 (upd G2 tt (.tup [.str ("back" : PySem.Str), v])) := fun b' o q => by
      rw [upd_ne (ne_of_none q gt)]
      exact q
    refine k _ _ _ s4.gg s4.sub (fun a o q => s4.keep a o (by simp) q) r5 (fun a o q1 q2 => Or.inl (s4.fr a o q1 q2)) ?_
    unfold lamD
    rw [e]
    exact .tup (SqT.of upd_same) (.cons (.str _) (.cons (da.mono sm) .nil))
  · have hc : cls = .ref (er.cls x) := by
      cases er <;> exact hx.1
    rw [hc]
    exact xm er
  · refine ⟨er, H2, rfl, hx, Same.refl _, errOf_ix he wb wp wt, fun v d' G3 H3 st3 rc3 da pd => ?_⟩
    subst pd
    obtain ⟨s, t', hk⟩ := kept_two er
    have kp : Same H H3 := fun a o q => st3.keep a o (by simp) (st.keep a o (by simp) q)
    rw [hk] at da
    obtain ⟨a0, us, rfl, h1, h2⟩ := da.tup_inv
    have hu : us = [.str s, .str t'] := DAs.strs (ss := [s, t']) h2
    subst hu
    have fin : ∀ G', Same G G' → Same G' H3 → (∀ a, c = some a → G' a = none) → (∀ a o, G' a = some o → G a = none → ∀ xs, o ≠ .lst xs) → SqT W.K G' a0 [.str s, .str t'] → Q (.ref a0) H3 := fun G' s1 s2 s3 s5 s4 => by
      refine k _ G' H3 s1 s2 kp (fun a e => ⟨s3 a e, ?_⟩) (fun a o q1 q2 => Or.inr (s5 a o q1 q2)) ?_
      · obtain ⟨_, x1, x2, x3, q, w⟩ := rc a e
        exact ⟨x1, x2, x3, kp _ _ q, w⟩
      · unfold lamD
        rw [he]
        show DA W.K W.C G' (.ref a0) (keptD er)
        rw [hk]
        exact .tup s4 (.cons (.str _) (.cons (.str _) .nil))
    have put : ∀ o, G3 a0 = some o → (∀ xs, o ≠ .lst xs) → SqT W.K (upd G a0 o) a0 [.str s, .str t'] → Q (.ref a0) H3 := fun o ho hn hs => by
      have h3 : H3 a0 = some o := st3.sub _ _ ho
      refine fin (upd G a0 o) (fun b u q => ?_) (fun b u q => ?_) (fun a e => ?_) (fun a u q1 q2 => ?_) hs
      · by_cases hb : b = a0
        · subst hb
          rw [upd_same]
          rw [kp _ _ (sg _ _ q)] at h3
          exact h3.symm
        · rw [upd_ne hb]
          exact q
      · by_cases hb : b = a0
        · subst hb
          rw [upd_same] at q
          rw [← q]
          exact h3
        · rw [upd_ne hb] at q
          exact kp _ _ (sg _ _ q)
      · obtain ⟨g, x1, x2, x3, q, w⟩ := rc a e
        have hne : a ≠ a0 := fun z => by
          rw [z] at q
          rw [kp _ _ q] at h3
          exact hn _ (Option.some.inj h3).symm
        rw [upd_ne hne]
        exact g
      · by_cases hb : a = a0
        · subst hb
          rw [upd_same] at q1
          rw [← Option.some.inj q1]
          exact hn
        · rw [upd_ne hb, q2] at q1
          cases q1
    rcases h1 with (h1 | ⟨o, h1⟩) | h1
    · exact put _ h1 (fun xs z => by cases z) (Or.inl (Or.inl upd_same))
    · exact put _ h1 (fun xs z => by cases z) (Or.inl (Or.inr ⟨o, upd_same⟩))
    · exact fin G (Same.refl _) (fun b u q => kp _ _ (sg _ _ q)) (fun a e => (rc a e).1) (fun a o q1 q2 => (by rw [q2] at q1; cases q1)) (Or.inr h1)
end K10
set_option Elab.async false
set_option linter.all false
set_option maxRecDepth 100000
set_option maxHeartbeats 4000000
/-! != of two tuples whose items are equal by an own __eq__. -/
namespace K10
open PySem PySem.Spec PyProof.Rows L2 StX RZ
section
open PySem.SeqAt AutoSeq1 MeetsSeq MeetsSeq2 MeetsSeq3 SeqRoads2
variable {pg : Program} {ww : World} {B : Around} {Res : Result → Shared → Prop}
theorem tuple_neG {x y : Addr} {us ws : Array Value} {m1 m2 : Nat} {e1 e2 : Option Addr} {s1 s2 : Array (Option Value)} (hlen : us.size = ws.size) (J : Nat → Shared → Prop)
    (step : ∀ (i : Nat) (a1 : i < us.size) (a2 : i < ws.size) (z : Shared), J i z → wpAny (model pg ww) B.in1 (eqBool us[i] ws[i]) (fun r z' => r = true ∧ J (i + 1) z') (fun e z' => Res (.error e) z') z)
    (last : ∀ z, J us.size z → Res (.ok (.ret (.bool false))) z) {z : Shared} (hx : z.heap.get? x = some { cls := .type "tuple", dict := e1, data := .seq us m1, slots := s1 }) (hy : z.heap.get? y = some { cls := .type "tuple", dict := e2, data := .seq ws m2, slots := s2 }) (hJ : J 0 z) :
    wpAny (model pg ww) B.in1 (Builtin.«tuple.__ne__» ⟨[.ref x, .ref y], []⟩) (GQ.FinOf pg ww B Res) (fun e z' => Res (.error e) z') z := by
  have sub := AutoSeq1.sub_tuple_tuple
  have zl : (us.toList.zip ws.toList).length = us.size := by simp [hlen]
  have keep0 := hJ
  obtain ⟨hp, g, d, tk, os⟩ := z
  wp_walk using wpAny_loadPart' hx, wpAny_loadPart' hy, wpAny_forIn_list _ (fun tail acc z' => acc.1 = none ∧ ∃ i, tail = (us.toList.zip ws.toList).drop i ∧ i ≤ us.size ∧ J i z') _
  case turn =>
    rintro ⟨p, q⟩ tail acc z' ⟨hacc, i, hdrop, hle, hI⟩
    have il : i < (us.toList.zip ws.toList).length := by
      rcases Nat.lt_or_ge i (us.toList.zip ws.toList).length with h | h
      · exact h
      · rw [List.drop_of_length_le h] at hdrop
        cases hdrop
    have a1 : i < us.size := zl ▸ il
    have a2 : i < ws.size := hlen ▸ a1
    rw [List.drop_eq_getElem_cons il] at hdrop
    injection hdrop with hd1 hd2
    have hp' : p = us[i] := by simpa using congrArg Prod.fst hd1
    have hq' : q = ws[i] := by simpa using congrArg Prod.snd hd1
    subst hp' hq'
    refine wpAny_bind (wpAny_mono (step i a1 a2 z' hI) (fun r z2 w => ?_) fun _ _ v => v)
    obtain ⟨hr, hI2⟩ := w
    subst hr
    wp_walk
    exact ⟨rfl, i + 1, hd2, a1, hI2⟩
  case fin =>
    rintro ⟨b1, b2⟩ z' ⟨hacc, i, hdrop, hle, hI⟩
    simp only at hacc
    subst hacc
    have ge : us.size ≤ i := by
      rcases Nat.lt_or_ge i (us.toList.zip ws.toList).length with h | h
      · rw [List.drop_eq_getElem_cons h] at hdrop
        cases hdrop
      · exact zl ▸ h
    have ei : i = us.size := by omega
    have fin' : Res (.ok (.ret (.bool false))) z' := last z' (ei ▸ hI)
    wp_walk
    simpa [Builtin.Tuple.tupleCompareSizes, hlen] using fin'
  case h =>
    exact ⟨rfl, 0, rfl, Nat.zero_le _, keep0⟩
theorem rc_neG {x y : Addr} {us ws : Array Value} {Q E : Value → Shared → Prop} {z : Shared} (hlen : us.size = ws.size) (hu : B.units < cLine) (J : Nat → Shared → Prop) (hx : z.heap.IsTuple x us) (hy : z.heap.IsTuple y ws)
    (step : ∀ (i : Nat) (a1 : i < us.size) (a2 : i < ws.size) (z : Shared), J i z → wpAny (model pg ww) B.in1 (eqBool us[i] ws[i]) (fun r z' => r = true ∧ J (i + 1) z') E z)
    (last : ∀ z, J us.size z → Q (.bool false) z) (hJ : J 0 z) : wpAny (model pg ww) B (richCompare .NotEq (.ref x) (.ref y)) Q E z := by
  obtain ⟨⟨c1, e1, t1, s1⟩, g1, g2, m1, g3⟩ := hx
  obtain ⟨⟨c2, e2, t2, s2⟩, f1, f2, m2, f3⟩ := hy
  simp only at g2 g3 f2 f3
  subst g2 g3 f2 f3
  refine wpAny_richCompare_same_room (op := .NotEq) ⟨_, g1, rfl⟩ ⟨_, f1, rfl⟩ F.slot_tuple_ne (GQ.call_here F.slot_tuple_ne ⟨_, g1, rfl⟩ F.entry_tuple_ne (F.args_tuple_ne_2 _ _) ?_) hu
  exact tuple_neG (Res := wants (fun v s' => v ≠ .notImplemented ∧ Q v s') E) hlen J step (fun z q => ⟨(fun w => nomatch w), last z q⟩) g1 f1 hJ
end
/-- a != b of two tuples, their items equal -/
def rNeT (K : PySem.W.Frag) (F : L2.Eqv) : R2 := fun x y H Q => L2.DTup K F x y H ∧ ∀ H', L2.Ext H H' → Q (.bl false) H'
theorem op_neT {X : Cx} {n : Nat} {F : L2.Eqv} (hF : L2.Mon F) (h : L2.EqG X n F) (hr : Room (n + 1) X.A) : OpR X (compareOp .NotEq) (rNeT X.K F) := by
  intro pins s σ H x y v u Q I rx ry hq
  obtain ⟨⟨a, b, xs, ys, rfl, rfl, ha, hb, pr⟩, q⟩ := hq
  cases rx
  cases ry
  obtain ⟨us, r1, t1, _⟩ := I.tuple ha
  obtain ⟨ws, r2, t2, _⟩ := I.tuple hb
  show wpAny (model X.prog X.w) X.A (richCompare .NotEq (.ref a) (.ref b)) (EP X pins σ Q) X.xe s
  have hlen : us.toArray.size = ws.toArray.size := by
    rw [List.size_toArray, List.size_toArray, ← r1.length, ← r2.length]
    exact pr.1
  refine rc_neG hlen hr.units0 (fun _ z => L2.LoopI X pins σ H z) t1 t2 (fun i a1 a2 z k => L2.turnG hF h ⟨hr, rfl⟩ pr r1 r2 i a1 a2 z k) (fun z k => ?_) ⟨H, I, L2.Ext.rfl'⟩
  obtain ⟨H', I', e⟩ := k
  exact ⟨.bl false, H', I', rfl, q H' e⟩
end K10
set_option Elab.async false
set_option linter.all false
set_option maxRecDepth 100000
set_option maxHeartbeats 4000000
/-! repr of data, where nothing is being shown. -/
namespace K10
open PySem PySem.Spec PyProof.Rows L2 StX RZ
def rReprD (K : PySem.W.Frag) : List V → Hp → VK → Prop := fun xs H Q => ∃ (a : Addr) (d : PyData), xs = [.ref a] ∧ Dp K H (.ref a) d ∧ d.showable = true ∧ d.hasDict = false ∧ d.depth < 40 ∧ d.shown.length ≤ sizeLine ∧ Q (.str d.shown) H
theorem call_reprD {X : Cx} (hg : X.A.guards = some []) (hu : X.A.units + 64 < cLine) : CallR X (.builtin "repr") (rReprD X.K) := by
  intro pins s σ H xs us Q I r h
  obtain ⟨a, d, rfl, hd, hs, hn, hp, hz, q⟩ := h
  obtain ⟨u, rfl, ru⟩ := r.one
  cases ru
  obtain ⟨as, rd⟩ := Dp.reads I d _ _ hd rfl
  refine repr_of_reads' rd hs (fun e => by rw [hn] at e; cases e) hg (by omega) (fun b o e => e) (fun h' u tk hk => ⟨.str _, H, I.kept (t' := tk) hk, ⟨u, rfl⟩, q⟩) hz
end K10
set_option Elab.async false
set_option linter.all false
set_option maxRecDepth 100000
set_option maxHeartbeats 4000000
/-! The properties of a machine. -/
namespace K10
open PySem PySem.Spec PyProof.Rows L2 StX RZ
theorem da_mac {K : PySem.W.Frag} {C : Addr} {G : Hp} {v : V} {b p x : D} (h : DA K C G v (.mac b p x)) : ∃ a dx v1 v2 v3, v = .ref a ∧ G a = some (.ins C dx [(fB, v1), (fP, v2), (fX, v3)]) ∧ DA K C G v1 b ∧ DA K C G v2 p ∧ DA K C G v3 x := by
  cases h with
  | mac h h1 h2 h3 => exact ⟨_, _, _, _, _, rfl, h, h1, h2, h3⟩
section
variable {W : Wd} {m : Option (Addr × List D)} {c : Option Addr} {δ : Sl} {te : TE} {b p x : D}
theorem ed_fld {nm : PySem.Str} {d : D} (cl : Cls W.K W.C) (na : NoAttr W.K W.C nm) (hl : ∀ v1 v2 v3 : V, ∃ v, ([(fB, v1), (fP, v2), (fX, v3)] : List (PySem.Str × V)).lookup nm = some v ∧ ∀ G, DA W.K W.C G v1 b → DA W.K W.C G v2 p → DA W.K W.C G v3 x → DA W.K W.C G v d) (h : Ed ⟨W.K, W.C, c, m⟩ te δ (.mac b p x)) :
    Ed ⟨W.K, W.C, c, m⟩ (tFld W.K te nm) δ d := fun σ G H s sd rc rm Q k =>
  h σ G H s sd rc rm _ fun v e G1 H1 st rc1 da pd => by
    subst pd
    obtain ⟨a, dx, v1, v2, v3, rfl, hg, d1, d2, d3⟩ := da_mac da
    obtain ⟨v, hv, hd⟩ := hl v1 v2 v3
    exact ⟨a, W.C, dx, _, v, rfl, st.sub _ _ hg, cl, na, hv, k _ _ _ _ st rc1 (hd _ d1 d2 d3) rfl⟩
theorem ed_fldB (M : Mt W) (h : Ed ⟨W.K, W.C, c, m⟩ te δ (.mac b p x)) : Ed ⟨W.K, W.C, c, m⟩ (tFld W.K te fB) δ b := ed_fld M.cl M.nB (fun v1 v2 v3 => ⟨v1, rfl, fun _ h _ _ => h⟩) h
theorem ed_fldP (M : Mt W) (h : Ed ⟨W.K, W.C, c, m⟩ te δ (.mac b p x)) : Ed ⟨W.K, W.C, c, m⟩ (tFld W.K te fP) δ p := ed_fld M.cl M.nP (fun v1 v2 v3 => ⟨v2, rfl, fun _ _ h _ => h⟩) h
theorem ed_fldX (M : Mt W) (h : Ed ⟨W.K, W.C, c, m⟩ te δ (.mac b p x)) : Ed ⟨W.K, W.C, c, m⟩ (tFld W.K te fX) δ x := ed_fld M.cl M.nX (fun v1 v2 v3 => ⟨v3, rfl, fun _ _ _ h => h⟩) h
/-- a property that keeps R -/
def PropK (W : Wd) (k : Nat) (nm : PySem.Str) (R : Rel) : Prop := ∃ pr g fd, PropOf W.K W.C nm pr g ∧ FnOk W.P W.w W.K W.mg W.base CX0 k g fd ["self"] (spU W.K W.C R) ∧ Binds W.K fd ["self"] []
def DefPr (W : Wd) (nm qn : PySem.Str) (j : Nat) : Prop := ∃ pr g fd, PropOf W.K W.C nm pr g ∧ DefM W nm qn j [] g fd
/-- e.nm -/
theorem ed_prop {R : Rel} {E : XK} {d : D} (r : R none [.mac b p x] (· = d)) (h : Ed ⟨W.K, W.C, c, m⟩ te δ (.mac b p x)) : Ed ⟨W.K, W.C, c, m⟩ (tProp W.C (spU W.K W.C R) [] E te) δ d := fun σ G H s sd rc rm Q k =>
  h σ G H s sd rc rm _ fun v e G1 H1 st rc1 da pd => by
    subst pd
    obtain ⟨a, dx, v1, v2, v3, rfl, hg, d1, d2, d3⟩ := da_mac da
    refine ⟨a, dx, _, rfl, st.sub _ _ hg, none, G1, _, _, st.sub, (fun a e => by cases e), .cons da .nil, r, fun v d' G2 H2 st2 rc2 da2 pz => ?_⟩
    obtain ⟨s3, r3⟩ := st2.up rc1
    exact k _ _ _ _ (st.trans rc rc1 s3) r3 da2 pz
abbrev N_text : List PySem.Str := ["self", "rows", "part", "low", "high"]
theorem sc_text : FnScope N_text ["self"] (defScope (mIn 7)) := ⟨rfl, rfl, rfl, by decide +kernel, rfl, by decide +kernel, by decide +kernel⟩
abbrev R_text : Rel := fun _ ds P => ∃ (xs : List Q2) (pps : List (List Q2)) (bx : List (Q2 × Q2)), ds = [.mac (nums xs) (.tup (pps.map nums)) (.tup (bx.map pr))] ∧ TOk xs pps bx ∧ P (.str (pageT xs (pps.zip bx)))
theorem numsT_one (x : Q2) : numsT [x] = frT x := rfl
theorem ok_text (T : Fr W.mg) (M : Mt W) (hD : DefPr W "text" "Machine.text" 7) (f_numbers_text : F_numbers_text W) : PropK W 9 "text" R_text := by
  obtain ⟨pr0, g, fdd, hp, D0⟩ := hD
  have nd := sc_text.nd
  refine ⟨pr0, g, fdd, hp, D0.ok sc_text (fun vs H Q E h => ?_) (fun cdv A outer s H vs Q E hr h => ?_), D0.bindsN fun _ _ _ _ _ _ us hl => match us, hl with | [_], _ => rfl⟩
  · obtain ⟨_, _, _, _, _, _, da, ⟨_, _, _, e, _⟩, _⟩ := h
    subst e
    rw [da.length]
    rfl
  obtain ⟨c, G, ds, P, sg, rc, da, ⟨xs, pps, bx, rfl, hok, hP⟩, k⟩ := h
  have a0 := At.begin (N := N_text) sg rc da
  -- slots ['self', 'rows', 'part', 'low', 'high']
  refine ⟨_, PSs.nox (pss_cons (ps_set (i := 1) nd rfl (by first | exact Or.inl rfl | exact Or.inr rfl) (pe_lst (pa_cons (pe_joined (.cons pe_str (.cons (pe_fmt (pe_cf f_numbers_text (hr.mono (by decide)) (pa_cons (pe_fld (pv 0) rfl) pa_nil))) .nil))) pa_nil)))
      (pss_cons (ps_for PassesOwn.never rfl (pi_zipA rfl T.n_zip (pa_cons (pe_fld (pv 0) rfl) (pa_cons (pe_fld (pv 0) rfl) pa_nil))) (pg_tup rfl (pgs_cons (pg_name (i := 2) nd rfl (by first | exact Or.inl rfl | exact Or.inr rfl)) (pgs_cons (pg_tup rfl (pgs_cons (pg_name (i := 3) nd rfl (by first | exact Or.inl rfl | exact Or.inr rfl)) (pgs_cons (pg_name (i := 4) nd rfl (by first | exact Or.inl rfl | exact Or.inr rfl)) pgs_nil))) pgs_nil))) (pss_one (ps_expr (pe_bm PySem.F.plainAttrs_list PySem.F.slot_list_append PySem.F.type_list_append mt_append (pv 1) (pa_cons (pe_joined (.cons pe_str (.cons (pe_fmt (pe_cf f_numbers_text (hr.mono (by decide)) (pa_cons (pv 2) pa_nil))) (.cons pe_str (.cons (pe_fmt (pe_cf f_numbers_text (hr.mono (by decide)) (pa_cons (pe_tup (pa_cons (pv 3) pa_nil)) pa_nil))) (.cons pe_str (.cons (pe_fmt (pe_cf f_numbers_text (hr.mono (by decide)) (pa_cons (pe_tup (pa_cons (pv 4) pa_nil)) pa_nil))) .nil))))))) pa_nil)))))
      (pss_one (ps_ret (pe_join pe_str (pv 1)))))), ?_⟩
  obtain ⟨hx, hl, hl6, hpp, hbx⟩ := id hok
  have l0 := numsT_len hx.1 hx.2
  have lb : ("base " : PySem.Str).length = 5 := by decide +kernel
  have l1 : ("part " : PySem.Str).length = 5 := by decide +kernel
  have l2 : (" from " : PySem.Str).length = 6 := by decide +kernel
  have l3 : (" to " : PySem.Str).length = 4 := by decide +kernel
  have l4 : ("\n" : PySem.Str).length = 1 := by decide +kernel
  refine q_mkM a0 rfl (ad_cons (ed_js (.cons ed_str (.cons (ed_fmtS (ed_call (ad_cons (ed_fldB M (ed_var rfl)) ad_nil) ⟨xs, rfl, hx.1, hx.2, rfl⟩) (by omega)) .nil)) (by show ("base " : PySem.Str).length + ((numsT xs).length + 0) ≤ _; omega)) ad_nil) (fun ds e => by rw [e]; simp) fun l ds σ1 H1 e a1 => ?_
  subst e
  have e0 : catS PySem.Str.empty [("base " : PySem.Str), numsT xs] = ("base " : PySem.Str) ++ numsT xs := by
    show (PySem.Str.empty ++ _) ++ _ = _
    rw [str_empty]
  rw [e0] at a1
  refine q_forZ (xs := pps.map nums) (ys := bx.map pr) (g := gTup W.K 2 (gCons (gName 2) (gCons (gTup W.K 2 (gCons (gName 3) (gCons (gName 4) gNil))) gNil))) a1 (ad_cons (ed_fldP M (ed_var rfl)) (ad_cons (ed_fldX M (ed_var rfl)) ad_nil)) (by rw [List.length_map, List.length_map]; exact hl)
    (fun n δ m => m = some (l, (rowsT xs ((pps.zip bx).take n)).map D.str) ∧ ∃ o2 o3 o4, δ = [some (.mac (nums xs) (.tup (pps.map nums)) (.tup (bx.map pr))), some (.adr l), o2, o3, o4]) ⟨rfl, none, none, none, rfl⟩ ?_ ?_
  · rintro b n x y v w Tz δ m σ2 H2 hx1 hy1 ⟨rfl, o2, o3, o4, rfl⟩ dv dw hT a2
    obtain ⟨p1, hp1, rfl⟩ : ∃ p1, pps[n]? = some p1 ∧ nums p1 = x := by
      rw [List.getElem?_map] at hx1
      exact Option.map_eq_some_iff.mp hx1
    obtain ⟨s1, hb1, rfl⟩ : ∃ s1, bx[n]? = some s1 ∧ pr s1 = y := by
      rw [List.getElem?_map] at hy1
      exact Option.map_eq_some_iff.mp hy1
    have hzn : (pps.zip bx)[n]? = some (p1, s1) := by
      rw [List.getElem?_zip_eq_some]
      exact ⟨hp1, hb1⟩
    have hnl : n < pps.length := by
      rcases Nat.lt_or_ge n pps.length with h | h
      · exact h
      · rw [List.getElem?_eq_none h] at hp1
        cases hp1
    have hp := hpp _ (List.mem_of_getElem? hp1)
    have hb := hbx _ (List.mem_of_getElem? hb1)
    have l5 := frT_len hb.1
    have l6 := frT_len hb.2
    have l7 := numsT_len hp.1 hp.2
    obtain ⟨a9, us, rfl, h1, h2⟩ := DA.tup_inv (ds := [fd s1.1, fd s1.2]) dw
    obtain ⟨u1, u2, rfl, d1, d2⟩ : ∃ u1 u2, us = [u1, u2] ∧ DA W.K W.C b u1 (fd s1.1) ∧ DA W.K W.C b u2 (fd s1.2) := by
      cases h2 with
      | cons d1 h3 =>
        cases h3 with
        | cons d2 h4 =>
          cases h4
          exact ⟨_, _, rfl, d1, d2⟩
    refine ⟨Tz, [v, .ref a9], rfl, SqT.of hT, rfl, v, [.ref a9], rfl, .ref a9, [], rfl, a9, [u1, u2], rfl, a2.sub h1, rfl, u1, [u2], rfl, u2, [], rfl, rfl, rfl, ?_⟩
    have a3 := ((a2.setV (j := 2) dv).setV (j := 3) (E := ⟨G, H, b⟩) d1).setV (j := 4) (E := ⟨G, H, b⟩) d2
    have eR : catS PySem.Str.empty [("part " : PySem.Str), numsT p1, " from ", numsT [s1.1], " to ", numsT [s1.2]] = rowT p1 s1 := by
      show (((((PySem.Str.empty ++ _) ++ _) ++ _) ++ _) ++ _) ++ _ = _
      rw [str_empty]
      unfold rowT
      rw [← str_assoc, ← str_assoc, ← str_assoc]
      rfl
    refine x_app a3 rfl (by rw [List.length_map]; unfold rowsT; rw [List.length_cons, List.length_map, List.length_take]; omega) (ed_var rfl) (ed_js (.cons ed_str (.cons (ed_fmtS (ed_call (ad_cons (ed_var rfl) ad_nil) ⟨p1, rfl, hp.1, hp.2, rfl⟩) (by omega)) (.cons ed_str (.cons (ed_fmtS (ed_call (ad_cons (ed_tup (ad_cons (ed_var rfl) ad_nil)) ad_nil) ⟨[s1.1], rfl, by simpa using hb.1, by simp, rfl⟩) (by rw [numsT_one]; omega))
      (.cons ed_str (.cons (ed_fmtS (ed_call (ad_cons (ed_tup (ad_cons (ed_var rfl) ad_nil)) ad_nil) ⟨[s1.2], rfl, by simpa using hb.2, by simp, rfl⟩) (by rw [numsT_one]; omega)) .nil)))))) (by
        show ("part " : PySem.Str).length + ((numsT p1).length + ((" from " : PySem.Str).length + ((frT s1.1).length + ((" to " : PySem.Str).length + ((frT s1.2).length + 0))))) ≤ _
        omega)) fun d H4 e a4 => ?_
    subst e
    rw [eR] at a4
    refine ⟨_, _, ⟨?_, _, _, _, rfl⟩, a4⟩
    unfold rowsT
    rw [take_succ_of hzn, List.map_cons, List.map_cons, List.map_append, List.map_append]
    rfl
  · rintro δ m σ2 H2 ⟨rfl, o2, o3, o4, rfl⟩ a2
    have e2 : (pps.zip bx).take pps.length = pps.zip bx := List.take_of_length_le (by rw [List.length_zip]; omega)
    rw [List.length_map, e2] at a2
    have hs := rows_sum (zs := pps.zip bx) hx fun z hz => by
      obtain ⟨z1, z2⟩ := z
      obtain ⟨m1, m2⟩ := List.of_mem_zip hz
      exact ⟨hpp z1 m1, hbx z2 m2⟩
    have hn : (rowsT xs (pps.zip bx)).length = pps.length + 1 := by
      unfold rowsT
      rw [List.length_cons, List.length_map, List.length_zip]
      omega
    have hn2 : (pps.zip bx).length = pps.length := by rw [List.length_zip]; omega
    rw [hn2] at hs
    exact x_ret a2 (En.of (ed_joinM rfl rfl ed_str (ed_var rfl) (by rw [l4, hn]; omega)) hP) k
end
end K10
set_option Elab.async false
set_option linter.all false
set_option maxRecDepth 100000
set_option maxHeartbeats 4000000
/-! base, parts, box, degree. -/
namespace K10
open PySem PySem.Spec PyProof.Rows L2 StX RZ
abbrev R_base : Rel := fun _ ds P => ∃ b p x : D, ds = [.mac b p x] ∧ P b
abbrev R_parts : Rel := fun _ ds P => ∃ b p x : D, ds = [.mac b p x] ∧ P p
abbrev R_box : Rel := fun _ ds P => ∃ b p x : D, ds = [.mac b p x] ∧ P x
abbrev R_degree : Rel := fun _ ds P => ∃ (bs : List D) (p x : D), ds = [.mac (.tup bs) p x] ∧ bs.length ≤ 1000 ∧ P (.int ((bs.length : Int) - 1))
abbrev N_self : List PySem.Str := ["self"]
theorem sc_base : FnScope N_self ["self"] (defScope (mIn 3)) := ⟨rfl, rfl, rfl, by decide +kernel, rfl, by decide +kernel, by decide +kernel⟩
theorem sc_parts : FnScope N_self ["self"] (defScope (mIn 4)) := ⟨rfl, rfl, rfl, by decide +kernel, rfl, by decide +kernel, by decide +kernel⟩
theorem sc_box : FnScope N_self ["self"] (defScope (mIn 5)) := ⟨rfl, rfl, rfl, by decide +kernel, rfl, by decide +kernel, by decide +kernel⟩
theorem sc_degree : FnScope N_self ["self"] (defScope (mIn 6)) := ⟨rfl, rfl, rfl, by decide +kernel, rfl, by decide +kernel, by decide +kernel⟩
section
variable {W : Wd}
/-- a property's getter is walked -/
theorem prop_ok {nm qn : PySem.Str} {j k : Nat} {R : Rel} {N : List PySem.Str} (hD : DefPr W nm qn j) (S : FnScope N ["self"] (defScope (mIn j))) (len : ∀ c ds P, R c ds P → ds.length = 1)
    (hb : ∀ (kV doc pm : Value) (an : Option Addr) (cdv ct : Value) (us : List Value), us.length = ["self"].length → bindArgs (PySem.W.fnOf nm qn (defArgs (mIn j)) (defBody (mIn j)) (defScope (mIn j)) .none kV doc pm an cdv ct) ⟨us, []⟩ = pure ((["self"] : List PySem.Str).zip us))
    (body : ∀ (f : Addr) (cdv : Value) (A : Around) (outer : List Env) (s : Shared) (H : Hp) (E : XK), Room k (A.deeper (envOfC qn (defScope (mIn j)) s.heap.objs.size f cdv)) →
      ∃ t, PSs (cxOf CX0 W.P W.w W.K W.mg W.base N qn (defScope (mIn j)) f cdv A outer s H E) (defBody (mIn j)) t ∧ Rd W N R t) : PropK W (k + 1) nm R := by
  obtain ⟨p0, g, fdd, hp, D0⟩ := hD
  refine ⟨p0, g, fdd, hp, D0.ok S (fun vs H Q E h => ?_) (fun cdv A outer s H vs Q E hr h => ?_), D0.bindsN hb⟩
  · obtain ⟨_, _, _, _, _, _, da, r, _⟩ := h
    rw [da.length]
    exact len _ _ _ r
  · obtain ⟨t, ht, rd⟩ := body g cdv A outer s H E hr
    obtain ⟨c, G, ds, P, sg, rc, da, r, k⟩ := h
    exact ⟨t, ht, rd c ds P ⟨G, H, G⟩ _ H Q r (At.begin sg rc da) k⟩
theorem ok_base (M : Mt W) (hD : DefPr W "base" "Machine.base" 3) : PropK W 2 "base" R_base := by
  refine prop_ok hD sc_base (fun c ds P h => by obtain ⟨_, _, _, e, _⟩ := h; rw [e]; rfl) (fun _ _ _ _ _ _ us hl => match us, hl with | [_], _ => rfl) fun f cdv A outer s H E hr => ⟨_, PSs.nox (pss_one (ps_ret (pe_fld (pv 0) rfl))), ?_⟩
  rintro c ds P E σ H Q ⟨b, p, x, rfl, hP⟩ a0 k
  exact x_ret a0 (En.of (ed_fldB M (ed_var rfl)) hP) k
theorem ok_parts (M : Mt W) (hD : DefPr W "parts" "Machine.parts" 4) : PropK W 2 "parts" R_parts := by
  refine prop_ok hD sc_parts (fun c ds P h => by obtain ⟨_, _, _, e, _⟩ := h; rw [e]; rfl) (fun _ _ _ _ _ _ us hl => match us, hl with | [_], _ => rfl) fun f cdv A outer s H E hr => ⟨_, PSs.nox (pss_one (ps_ret (pe_fld (pv 0) rfl))), ?_⟩
  rintro c ds P E σ H Q ⟨b, p, x, rfl, hP⟩ a0 k
  exact x_ret a0 (En.of (ed_fldP M (ed_var rfl)) hP) k
theorem ok_box (M : Mt W) (hD : DefPr W "box" "Machine.box" 5) : PropK W 2 "box" R_box := by
  refine prop_ok hD sc_box (fun c ds P h => by obtain ⟨_, _, _, e, _⟩ := h; rw [e]; rfl) (fun _ _ _ _ _ _ us hl => match us, hl with | [_], _ => rfl) fun f cdv A outer s H E hr => ⟨_, PSs.nox (pss_one (ps_ret (pe_fld (pv 0) rfl))), ?_⟩
  rintro c ds P E σ H Q ⟨b, p, x, rfl, hP⟩ a0 k
  exact x_ret a0 (En.of (ed_fldX M (ed_var rfl)) hP) k
theorem ok_degree (T : Fr W.mg) (M : Mt W) (hD : DefPr W "degree" "Machine.degree" 6) : PropK W 2 "degree" R_degree := by
  refine prop_ok hD sc_degree (fun c ds P h => by obtain ⟨_, _, _, e, _⟩ := h; rw [e]; rfl) (fun _ _ _ _ _ _ us hl => match us, hl with | [_], _ => rfl) fun f cdv A outer s H E hr => ⟨_, PSs.nox (pss_one (ps_ret (pe_op op_sub (pe_callB call_len_seq rfl T.n_len (by decide +kernel) (pa_cons (pe_fld (pv 0) rfl) pa_nil)) pe_int))), ?_⟩
  rintro c ds P E σ H Q ⟨bs, p, x, rfl, hb, hP⟩ a0 k
  exact x_ret a0 (En.of (ed_sub (ed_lenT (ed_fldB M (ed_var rfl))) ed_int) hP) k
end
end K10
set_option Elab.async false
set_option linter.all false
set_option maxRecDepth 100000
set_option maxHeartbeats 4000000
/-! Machine.__eq__. -/
namespace K10
open PySem PySem.Spec PyProof.Rows L2 StX RZ
section
variable {W : Wd}
abbrev N_eq : List PySem.Str := ["self", "other"]
theorem sc_eq : FnScope N_eq ["self", "other"] (defScope (mIn 15)) := ⟨rfl, rfl, rfl, by decide +kernel, rfl, by decide +kernel, by decide +kernel⟩
/-- two machines of the same parts -/
def macR (W : Wd) (a b : Addr) (H : Hp) : Prop := ∃ (G : Hp) (xs : List Q2) (pps : List (List Q2)) (bx : List (Q2 × Q2)), Same G H ∧ TOk xs pps bx ∧ DA W.K W.C G (.ref a) (.mac (nums xs) (.tup (pps.map nums)) (.tup (bx.map pr))) ∧ DA W.K W.C G (.ref b) (.mac (nums xs) (.tup (pps.map nums)) (.tup (bx.map pr)))
theorem macR_ext (a b : Addr) (H H' : Hp) (e : L2.Ext H H') (h : macR W a b H) : macR W a b H' := by
  obtain ⟨G, xs, pps, bx, sg, r⟩ := h
  exact ⟨G, xs, pps, bx, fun c o q => e c o (sg c o q), r⟩
theorem ed_isM {δ : Sl} {te : TE} {c : Option Addr} {m : Option (Addr × List D)} {b p x : D} (h : Ed ⟨W.K, W.C, c, m⟩ te δ (.mac b p x)) :
    Ed ⟨W.K, W.C, c, m⟩ (tCB (fun xs H Q => ∃ a dx fs, xs = [V.ref a, V.ref W.C] ∧ H a = some (.ins W.C dx fs) ∧ Q (.bl true) H) (tCons te (tCons (tC (.ref W.C)) tNil))) δ (.bl true) := fun σ G H s sd rc rm Q k =>
  h σ G H s sd rc rm _ fun v e G1 H1 st rc1 da pd => by
    subst pd
    obtain ⟨a, dx, v1, v2, v3, rfl, hg, d1, d2, d3⟩ := da_mac da
    exact ⟨a, dx, _, rfl, st.sub _ _ hg, k _ _ _ _ st rc1 (.bl true) rfl⟩
theorem ok_eq (T : Fr W.mg) (M : Mt W) (ic : C8.InsC W.K W.C) (gM : W.mg "Machine" = some (.ref W.C)) {f : Addr} {fd' : FuncData} (D : DefM W "__eq__" "Machine.__eq__" 15 [] f fd') (ht : PropK W 9 "text" R_text) :
    FnOk W.P W.w W.K W.mg W.base CX0 11 f fd' ["self", "other"] (L2.spEq (macR W)) := by
  obtain ⟨pt, gt, fdt, hp, Ft, bt⟩ := ht
  refine D.ok sc_eq (fun vs H Q E h => ?_) (fun cdv A outer s H vs Q E hr h => ?_)
  · obtain ⟨a, b, e, _⟩ := h
    rw [e]
    rfl
  obtain ⟨a, b, rfl, ⟨G, xs, pps, bx, sg, hok, da, db⟩, q⟩ := h
  refine ⟨_, PSs.nox (pss_one (ps_ret (pe_and (pe_callB (C8.call_isC ic) rfl T.n_isinstance (by decide +kernel) (pa_cons (pv 1) (pa_cons (pe_glob (v := .ref W.C) rfl gM rfl) pa_nil))) (pe_one (pe_cmpR op_eq (pe_prop (pv 0) M.cl hp Ft hr bt .nil pass0 rfl) (pe_prop (pv 1) M.cl hp Ft hr bt .nil pass0 rfl) (nomark _)))))), ?_⟩
  have a0 : At ⟨W.K, W.C, none, none⟩ ⟨G, H, G⟩ (startD N_eq [.mac (nums xs) (.tup (pps.map nums)) (.tup (bx.map pr)), .mac (nums xs) (.tup (pps.map nums)) (.tup (bx.map pr))]) (L2.start N_eq [.ref a, .ref b]) H := At.begin (N := N_eq) sg (fun a e => by cases e) (.cons da (.cons db .nil))
  refine x_ret (P := (· = .bl true)) a0 ?_ fun v d G' H' st rc dv pd => ?_
  · refine Ed.to (ed_and (a := true) (b := decide (pageT xs (pps.zip bx) = pageT xs (pps.zip bx))) ?_ fun _ => ed_op (ed_prop ⟨xs, pps, bx, rfl, hok, rfl⟩ (ed_var rfl)) (ed_prop ⟨xs, pps, bx, rfl, hok, rfl⟩ (ed_var rfl)) rop_eqS) (by rw [decide_eq_true rfl]; rfl)
    exact ed_isM (ed_var rfl)
  · subst pd
    cases dv
    exact q H' fun c o e => st.keep c o (by simp) e
end
end K10
set_option Elab.async false
set_option linter.all false
set_option maxRecDepth 100000
set_option maxHeartbeats 4000000
/-! bool(m), by an own __bool__. -/
namespace K10
open PySem PySem.Spec PyProof.Rows L2 StX RZ
section
variable {pg : Program} {ww : World} {B : Around} {K : PySem.W.Frag} {E : Value → Shared → Prop} {z : Shared} {x C f : Addr} {ox : Obj} {od : Option Obj}
theorem special_def {name : PySem.Str} {args : List Value} {Q : Option Value → Shared → Prop} (X : K.In z.heap) (I : PySem.W.InstAt z.heap x ox C od) (hf : PySem.W.findIn K (.ref C) name = some (some (.ref f))) (hi : PySem.W.isFn K (.ref f) = true)
    (hc : wpAny (model pg ww) B (call (.ref f) (.ref x :: args)) (fun v z' => Q (some v) z') E z) : wpAny (model pg ww) B (callSpecial? (.ref x) name args) Q E z := by
  unfold callSpecial? specialOf
  refine wpAny_bind (wpAny_bind (I.type.here ((PySem.W.looks_findIn X hf).here ?_)))
  refine wpAny_holding ?_
  refine wpAny_bind ((PySem.W.bind_fn X _ (beq_iff_eq.mp hi)).here ?_)
  exact wpAny_bind (wpAny_mono hc (fun v z' h => wpAny_pure h) fun _ _ h => h)
theorem truthy_def {Q : Bool → Shared → Prop} (X : K.In z.heap) (I : PySem.W.InstAt z.heap x ox C od) (hf : PySem.W.findIn K (.ref C) "__bool__" = some (some (.ref f))) (hi : PySem.W.isFn K (.ref f) = true)
    (hc : wpAny (model pg ww) B (call (.ref f) [.ref x]) (fun v z' => ∃ b, v = .bool b ∧ Q b z') E z) : wpAny (model pg ww) B (truthy (.ref x)) Q E z := by
  unfold truthy
  refine wpAny_bind (m := callSpecial? (.ref x) (PySem.Str.ofString "__bool__")) (special_def X I hf hi (wpAny_mono hc (fun r z' hr => ?_) fun _ _ y => y))
  obtain ⟨b, rfl, hq⟩ := hr
  exact wpAny_pure hq
end
theorem meets_bool_of (pg : Program) (ww : World) (x : Addr) :
    MeetsIn pg ww (Builtin.«bool.__new__» ⟨[.type "bool", .ref x], []⟩) (fun A R s => wpAny (model pg ww) A.in1 (truthy (.ref x)) (fun b s' => R (.ok (.ret (.bool b))) s') (fun e s' => R (.error e) s') s) :=
  fun A R s hs => by
    have f1 := F.conv_sub_bool
    obtain ⟨hp, g, d, tk, os⟩ := s
    repeat (any_goals (first | assumption | (with_reducible refine wpAny_mono hs (fun _ _ q => ?_) fun _ _ q => q) | wp_step))
    all_goals first | exact ⟨_, rfl, hs⟩ | exact hs | skip
def spTrue : Sp := fun vs H Q _ => ∃ a, vs = [.ref a] ∧ Q (.bl true) H
/-- bool(m) -/
theorem call_boolM {X : Cx} {C f : Addr} {fd : FuncData} {k : Nat} (hb : PySem.W.findIn X.K (.ref C) "__bool__" = some (some (.ref f))) (hf : PySem.W.isFn X.K (.ref f) = true) (F : FnOk X.prog X.w X.K X.mg X.base CX0 k f fd ["self"] spTrue) (bb : Binds X.K fd ["self"] []) (hr : Room (k + 2) X.A) :
    CallR X (.type "bool") (fun xs H Q => ∃ a dx fs, xs = [.ref a] ∧ H a = some (.ins C dx fs) ∧ Q (.bl true) H) := by
  intro pins s σ H xs us Q I r h
  obtain ⟨a, dx, fs, rfl, ha, q⟩ := h
  obtain rfl := Vals.ref1 r
  refine callType_newIn PySem.F.called_bool PySem.F.newNe_bool (PySem.F.typeCall_bool_1 _) (PySem.F.newCall_bool_1 _) (fun obj => PySem.F.args_object_init_2 obj _) PySem.F.entry_bool_new (meets_bool_of X.prog X.w a) ?_
  obtain ⟨mA, J, _⟩ := ins_get I.hok ha
  obtain ⟨od, J, _⟩ := J.look
  refine truthy_def I.kIn J hb hf ?_
  refine wpAny_call (codeAny_mono (F.run X.A.in1.in1 X.stack s H ⟨[.ref a], []⟩ [.ref a] [.ref a] (fun v H' => v = .bl true ∧ Q (.bl true) H') E0 (hr.mono (by omega)).in1.in1 I.env0.in1.in1 (by
    have := bb s [.ref a] I.kIn rfl
    simpa using this) (.cons rfl .nil) ⟨a, rfl, rfl, q⟩) fun rr s' hq => ?_)
  cases rr with
  | error e => exact hq.elim
  | ok fl =>
    cases fl with
    | ret u =>
      obtain ⟨v, H', I3, rv, e, q3⟩ := I.after hq
      subst e
      cases rv
      exact ⟨true, rfl, rfl, .bl true, H', I3, rfl, q3⟩
    | next => exact False.elim hq
    | brk => exact False.elim hq
    | cont => exact False.elim hq
theorem sc_bool : FnScope N_self ["self"] (defScope (mIn 16)) := ⟨rfl, rfl, rfl, by decide +kernel, rfl, by decide +kernel, by decide +kernel⟩
theorem ok_bool {W : Wd} {f : Addr} {fd' : FuncData} (D : DefM W "__bool__" "Machine.__bool__" 16 [] f fd') : FnOk W.P W.w W.K W.mg W.base CX0 1 f fd' ["self"] spTrue := by
  refine D.ok sc_bool (fun vs H Q E h => ?_) (fun cdv A outer s H vs Q E hr h => ⟨_, PSs.nox (pss_one (ps_ret pe_bl)), ?_⟩)
  · obtain ⟨a, e, _⟩ := h
    rw [e]
    rfl
  · obtain ⟨a, rfl, q⟩ := h
    exact q
end K10
set_option Elab.async false
set_option linter.all false
set_option maxRecDepth 100000
set_option maxHeartbeats 4000000
/-! What is judged may be judged. -/
namespace K10
open PySem PySem.Spec PyProof.Rows L2 StX RZ
theorem ch_jok {xs : List Q2} {pps : List (List Q2)} {bx : List (Q2 × Q2)} {b p x b' : D} (h : Ch xs pps bx b p x) (hb : D.w 50 b' = true) : JOk b' p x :=
  ⟨hb, h.wp, h.wx, h.px.imp id fun ⟨ps, e1, e2, e3⟩ => ⟨ps, _, e1, e2, by rw [List.length_map]; exact e3⟩⟩
theorem ch_base {xs : List Q2} {pps : List (List Q2)} {bx : List (Q2 × Q2)} {b p x b' p' x' : D} (h : Ch xs pps bx b p x) (j : JOk b' p' x') : JOk b p' x' := ⟨h.wb, j.wp, j.wx, j.px⟩
theorem rig_nb {xs : List Q2} {pps : List (List Q2)} {bx : List (Q2 × Q2)} (h : RigOk xs pps bx) : (D.tup (pps.map nums)).nb + (D.tup (bx.map pr)).nb = 0 := by
  have h1 : (D.tup (pps.map nums)).nb = 0 := by
    rw [nb_tup]
    refine nbs_zero.mpr fun d hd => ?_
    obtain ⟨q, hq, rfl⟩ := List.mem_map.mp hd
    exact nums_nb (h.ps q hq).2
  have h2 : (D.tup (bx.map pr)).nb = 0 := by
    rw [nb_tup]
    refine nbs_zero.mpr fun d hd => ?_
    obtain ⟨q, hq, rfl⟩ := List.mem_map.mp hd
    exact pr_nb (h.bs q hq)
  rw [h1, h2]
theorem rig_jok {xs : List Q2} {pps : List (List Q2)} {bx : List (Q2 × Q2)} (h : RigOk xs pps bx) : JOk (nums xs) (.tup (pps.map nums)) (.tup (bx.map pr)) := by
  obtain ⟨⟨h1, _⟩, ⟨h2, _⟩, h3, _⟩ := h.tw
  exact ⟨tw_w (by decide) h1, tw_w (by decide) h2, tw_w (by decide) h3, Or.inl (by rw [rig_nb h]; decide)⟩
end K10
set_option Elab.async false
set_option linter.all false
set_option maxRecDepth 100000
set_option maxHeartbeats 4000000
/-! The state behind the making of a lambda. -/
namespace K10
open PySem PySem.Spec PyProof.Rows L2 StX RZ
def noTbl (G : Hp) : Hp := fun b => match G b with
  | some (.tbl _) => none
  | o => o
theorem noTbl_sub {G : Hp} {b : Addr} {o : HO} (h : noTbl G b = some o) : G b = some o ∧ ∀ ps, o ≠ .tbl ps := by
  unfold noTbl at h
  split at h
  · cases h
  · rename_i h1
    exact ⟨h, fun ps e => h1 ps (by rw [h, e])⟩
theorem noTbl_ext {G : Hp} : LamX.ExtN G (noTbl G) := fun b o h n => by
  unfold noTbl
  split
  · rename_i ps e
    rw [h] at e
    exact absurd (Option.some.inj e) (n ps)
  · exact h
section
variable {K : PySem.W.Frag} {C cup : Addr} {E : Ent} {δ : Sl} {σ : L2.St} {H H' : Hp}
/-- the state by itself -/
theorem at_of {c : Option Addr} {G : Hp} (s : Same G H) (sd : SD K C G σ δ) (rc : RC c G H) : At ⟨K, C, c, none⟩ ⟨G, H, G⟩ δ σ H := ⟨⟨G, Stp.refl s, Same.refl _, sd, rc, fun l ds z => by cases z⟩, rc, fun l ds z => by cases z⟩
/-- behind a lambda's making -/
theorem At.out {m : Option (Addr × List D)} (a : At ⟨K, C, some cup, m⟩ E δ σ H) (e : LamX.ExtN H H') : ∃ G, Same G H' ∧ SD K C G σ δ ∧ RC (some cup) G H' ∧ ∀ l ds, m = some (l, ds) → l ≠ cup ∧ G l = none ∧ ∃ xs, H' l = some (.lst xs) ∧ DAs K C G xs ds := by
  obtain ⟨G, st, sb, sd, rc, rm⟩ := a.ex
  refine ⟨noTbl G, fun b o h => ?_, ⟨sd.1, fun i d h => ?_⟩, fun b eb => ?_, fun l ds z => ?_⟩
  · obtain ⟨h1, h2⟩ := noTbl_sub h
    exact e b o (st.sub b o h1) h2
  · obtain ⟨v, hv, da⟩ := sd.2 i d h
    exact ⟨v, hv, da.ext noTbl_ext⟩
  · obtain ⟨g, x1, x2, x3, q, w⟩ := rc b eb
    refine ⟨?_, x1, x2, x3, e _ _ q (fun ps z => by cases z), w⟩
    unfold noTbl
    rw [g]
  · obtain ⟨h1, g, xs, h2, h3⟩ := rm l ds z
    refine ⟨fun z => h1 (by rw [z]), ?_, xs, e _ _ h2 (fun ps z => by cases z), h3.ext noTbl_ext⟩
    unfold noTbl
    rw [g]
/-- a new list that will be written -/
theorem at_hide {c : Option Addr} {G : Hp} {l : Addr} {i : Nat} {xs : List V} {ds : List D} (s : Same G H) (sd : SD K C G σ δ) (rc : RC c G H) (hl : H l = none) (da : DAs K C G xs ds) : At ⟨K, C, c, some (l, ds)⟩ ⟨G, H, G⟩ (δ.set i (some (.adr l))) (σ.set i (some (.ref l))) (upd H l (.lst xs)) :=
  At.hide (p := ⟨K, C, c, none⟩) (E := ⟨G, H, G⟩) (Stp.refl s) (Same.refl _) sd rc rc rfl hl da
/-- .. is read from now on -/
theorem at_told {c : Option Addr} {G : Hp} {l : Addr} {i : Nat} {xs : List V} {ds : List D} (s : Same G H) (sd : SD K C G σ δ) (rc : RC c G H) (hc : c ≠ some l) (g : G l = none) (hl : H l = some (.lst xs)) (da : DAs K C G xs ds) (hi : δ[i]? = some (some (.adr l))) :
    At ⟨K, C, c, none⟩ ⟨upd G l (.lst xs), H, upd G l (.lst xs)⟩ (δ.set i (some (.lst ds))) σ H := by
  have e : Same G (upd G l (.lst xs)) := fun b u q => by
    rw [upd_ne (ne_of_none q g)]
    exact q
  refine at_of (fun b u q => ?_) ?_ (rc.tell hc)
  · by_cases hb : b = l
    · subst hb
      rw [upd_same] at q
      rw [← q]
      exact hl
    · rw [upd_ne hb] at q
      exact s b u q
  · obtain ⟨v, hv, dv⟩ := sd.at_ i _ hi
    cases dv
    have q := (sd.mono e).set i (v := .ref l) (d := .lst ds) (.lst upd_same (da.mono e))
    have hs : σ.set i (some (V.ref l)) = σ := by
      refine List.ext_getElem? fun j => ?_
      by_cases hj : i = j
      · subst hj
        rw [List.getElem?_set_self (List.getElem?_eq_some_iff.mp hv).1, hv]
      · rw [List.getElem?_set_ne hj]
    rw [hs] at q
    exact q
theorem x_callX {x : Xc} {Ex : XK} {R : RelX} {ra : TA} {ds : List D} {P : D → Prop} {XP : Er → Prop} {Q : VK} (a : At ⟨K, C, none, none⟩ E δ σ H) (h : Ad ⟨K, C, none, none⟩ ra δ ds) (r : R ds P XP) (kq : Ret K C none E.G E.H P Q) (kx : ∀ er, XP er → RetX x E.G E.H er Ex) : tCall (spX K C x R) [] Ex ra σ H Q := by
  refine a.runA h fun vs ds' G' H' st sb sd rc rm da pd => ?_
  subst pd
  refine ⟨G', _, P, XP, st.sub, by rw [List.append_nil]; exact da, r, fun v d G2 H2 st2 rc2 dv pd => kq v d G2 H2 (st.trans a.rc0 rc st2) rc2 dv pd, fun er he cls d G2 H2 st2 hx => kx er he cls d G2 H2 (st.trans a.rc0 rc st2) hx⟩
end
end K10
set_option Elab.async false
set_option linter.all false
set_option maxRecDepth 100000
set_option maxHeartbeats 4000000
/-! What is shown of a machine: its length. -/
namespace K10
open PySem PySem.Spec PyProof.Rows L2 StX RZ
/-- signs of which each has a code -/
def Asc (s : PySem.Str) : Prop := ∀ c ∈ s.cps.toList, c < 16 ^ 8
theorem asc_of (s : String) : Asc (PySem.Str.ofString s) := by
  intro c hc
  rw [PySem.Str.ofString_eq_toList] at hc
  have h2 : c ∈ s.toList.map Char.toNat := by simpa using hc
  obtain ⟨ch, _, rfl⟩ := List.mem_map.mp h2
  have := ch.val.toNat_lt
  exact this
theorem asc_app {a b : PySem.Str} (ha : Asc a) (hb : Asc b) : Asc (a ++ b) := by
  intro c hc
  have h2 : c ∈ (a.cps ++ b.cps).toList := hc
  rw [Array.toList_append] at h2
  exact (List.mem_append.mp h2).elim (ha c) (hb c)
theorem asc_join {a : PySem.Str} (ha : Asc a) : ∀ {ss : List PySem.Str}, (∀ s ∈ ss, Asc s) → Asc (Txt.join a ss) := by
  have key : ∀ ss : List PySem.Str, (∀ s ∈ ss, Asc s) → Asc (PySem.Str.join a ss) := fun ss => by
    induction ss with
    | nil =>
      intro _ c hc
      have h2 : c ∈ ([] : List Nat) := hc
      cases h2
    | cons x r ih =>
      intro h
      cases r with
      | nil => exact h x List.mem_cons_self
      | cons y r' => exact asc_app (asc_app (h x List.mem_cons_self) ha) (ih fun s hs => h s (List.mem_cons_of_mem _ hs))
  intro ss h
  have e : Txt.join a ss = PySem.Str.join a ss := PySem.StrLaws.glued_eq_join a ss
  rw [e]
  exact key ss h
theorem asc_frT (x : Q2) : Asc (frT x) := by
  unfold frT
  split
  · exact asc_of _
  · exact asc_app (asc_app (asc_of _) (asc_of _)) (asc_of _)
theorem asc_numsT (xs : List Q2) : Asc (numsT xs) := asc_join (asc_of _) fun s hs => by
  obtain ⟨x, _, rfl⟩ := List.mem_map.mp hs
  exact asc_frT x
theorem asc_page (xs : List Q2) (zs : List (List Q2 × (Q2 × Q2))) : Asc (pageT xs zs) := asc_join (asc_of _) fun s hs => by
  unfold rowsT at hs
  rcases List.mem_cons.mp hs with h | h
  · rw [h]
    exact asc_app (asc_of _) (asc_numsT xs)
  · obtain ⟨z, _, rfl⟩ := List.mem_map.mp h
    exact asc_app (asc_app (asc_of _) (asc_numsT _)) (asc_app (asc_app (asc_app (asc_of _) (asc_frT _)) (asc_of _)) (asc_frT _))
theorem page_len {xs : List Q2} {pps : List (List Q2)} {bx : List (Q2 × Q2)} (h : TOk xs pps bx) : (pageT xs (pps.zip bx)).length ≤ 100000 := by
  obtain ⟨hx, hl, hl6, hpp, hbx⟩ := h
  have hs := rows_sum (zs := pps.zip bx) hx fun z hz => by
    obtain ⟨z1, z2⟩ := z
    obtain ⟨m1, m2⟩ := List.of_mem_zip hz
    exact ⟨hpp z1 m1, hbx z2 m2⟩
  have hn : (rowsT xs (pps.zip bx)).length = pps.length + 1 := by
    unfold rowsT
    rw [List.length_cons, List.length_map, List.length_zip]
    omega
  have hn2 : (pps.zip bx).length = pps.length := by rw [List.length_zip]; omega
  rw [hn2] at hs
  have l4 : ("\n" : PySem.Str).length = 1 := by decide +kernel
  have h1 := PySem.StrLaws.join_length_le ("\n" : PySem.Str) (rowsT xs (pps.zip bx))
  have h3 : (pageT xs (pps.zip bx)).length = (PySem.Str.join ("\n" : PySem.Str) (rowsT xs (pps.zip bx))).length := by
    unfold pageT
    exact congrArg PySem.Str.length (PySem.StrLaws.glued_eq_join _ _)
  rw [l4, hn] at h1
  omega
/-- data that can be shown, within so much -/
structure Sw (n B : Nat) (d : D) : Prop where
  ok : d.ok = true
  sh : d.py.showable = true
  nd : d.py.hasDict = false
  dp : d.py.depth ≤ n
  ln : d.py.shown.length ≤ B
theorem Sw.up {n m B C : Nat} {d : D} (h : Sw n B d) (h1 : n ≤ m) (h2 : B ≤ C) : Sw m C d := ⟨h.ok, h.sh, h.nd, Nat.le_trans h.dp h1, Nat.le_trans h.ln h2⟩
theorem sw_bl (b : Bool) : Sw 0 5 (.bl b) := ⟨rfl, by simp only [D.py, PyData.showable], by simp only [D.py, PyData.hasDict], by simp only [D.py, PyData.depth]; exact Nat.le_refl 0, by
  cases b
  · show ("False" : PySem.Str).length ≤ 5
    decide +kernel
  · show ("True" : PySem.Str).length ≤ 5
    decide +kernel⟩
theorem sw_int {n : Nat} {i : Int} (hn : 0 < n) (h : Bt n i) (h2 : n ≤ 1900) : Sw 0 (n + 1) (.int i) := ⟨rfl, by simp only [D.py, PyData.showable]; exact decide_eq_true (bt_log (h.le h2)), by simp only [D.py, PyData.hasDict], by simp only [D.py, PyData.depth]; exact Nat.zero_le _, by
  simp only [D.py, PyData.shown]
  exact strI_len hn h⟩
theorem sw_str {s : PySem.Str} (h : Asc s) : Sw 0 (10 * s.length + 2) (.str s) := ⟨rfl, by simp only [D.py, PyData.showable], by simp only [D.py, PyData.hasDict], by simp only [D.py, PyData.depth]; exact Nat.zero_le _, by
  simp only [D.py, PyData.shown]
  exact PySem.StrLaws.reprText_len s h⟩
theorem sws {n B : Nat} : ∀ {ds : List D}, (∀ d ∈ ds, Sw n B d) → D.oks ds = true ∧ PyData.showableAll (D.pys ds) = true ∧ PyData.hasDictAll (D.pys ds) = false ∧ PyData.depthAll (D.pys ds) ≤ n ∧ ((PyData.shownAll (D.pys ds)).map (·.length)).sum ≤ ds.length * B ∧ (PyData.shownAll (D.pys ds)).length = ds.length
  | [], _ => ⟨by unfold D.oks; rfl, by unfold D.pys PyData.showableAll; rfl, by unfold D.pys PyData.hasDictAll; rfl, by unfold D.pys PyData.depthAll; exact Nat.zero_le _, by unfold D.pys PyData.shownAll; simp, by unfold D.pys PyData.shownAll; rfl⟩
  | d :: ds, h => by
    obtain ⟨h1, h2, h3, h4, h5⟩ := h d List.mem_cons_self
    obtain ⟨q1, q2, q3, q4, q5, q6⟩ := sws (ds := ds) fun d hd => h d (List.mem_cons_of_mem _ hd)
    refine ⟨by unfold D.oks; rw [h1, q1]; rfl, by unfold D.pys PyData.showableAll; rw [h2, q2]; rfl, by unfold D.pys PyData.hasDictAll; rw [h3, q3]; rfl, by unfold D.pys PyData.depthAll; omega, ?_, ?_⟩
    · unfold D.pys PyData.shownAll
      rw [List.map_cons, List.sum_cons, List.length_cons, Nat.succ_mul]
      omega
    · unfold D.pys PyData.shownAll
      rw [List.length_cons, q6, List.length_cons]
theorem sw_tup {n B : Nat} {ds : List D} (h : ∀ d ∈ ds, Sw n B d) : Sw (n + 1) (ds.length * B + 2 * ds.length + 3) (.tup ds) := by
  obtain ⟨q1, q2, q3, q4, q5, q6⟩ := sws h
  refine ⟨by unfold D.ok; exact q1, by simp only [D.py, PyData.showable]; exact q2, by simp only [D.py, PyData.hasDict]; exact q3, by simp only [D.py, PyData.depth]; omega, ?_⟩
  simp only [D.py, PyData.shown]
  have := tupleText_len_le (PyData.shownAll (D.pys ds))
  omega
theorem sw_lst {n B : Nat} {ds : List D} (h : ∀ d ∈ ds, Sw n B d) : Sw (n + 1) (ds.length * B + 2 * ds.length + 3) (.lst ds) := by
  obtain ⟨q1, q2, q3, q4, q5, q6⟩ := sws h
  refine ⟨by unfold D.ok; exact q1, by simp only [D.py, PyData.showable]; exact q2, by simp only [D.py, PyData.hasDict]; exact q3, by simp only [D.py, PyData.depth]; omega, ?_⟩
  simp only [D.py, PyData.shown]
  have := listText_len_le (PyData.shownAll (D.pys ds))
  omega
theorem sw_fd {x : Q2} (h : Fq 40 x) : Sw 1 100 (fd x) := by
  refine (sw_tup (n := 0) (B := 41) (ds := [.int x.1, .int x.2]) fun d hd => ?_).up (Nat.le_refl _) (by show 2 * 41 + 2 * 2 + 3 ≤ 100; decide)
  rcases List.mem_cons.mp hd with e | e
  · rw [e]
    exact sw_int (by decide) h.b1 (by decide)
  · rw [List.mem_singleton.mp e]
    exact sw_int (by decide) h.b2 (by decide)
theorem sw_nums {xs : List Q2} (h : ∀ x ∈ xs, Fq 40 x) (hl : xs.length ≤ 100) : Sw 2 11000 (nums xs) := by
  refine (sw_tup (n := 1) (B := 100) (ds := xs.map fd) fun d hd => ?_).up (Nat.le_refl _) (by rw [List.length_map]; omega)
  obtain ⟨x, hx, rfl⟩ := List.mem_map.mp hd
  exact sw_fd (h x hx)
/-- what is told of a machine -/
def toldD (xs : List Q2) (pps : List (List Q2)) (bx : List (Q2 × Q2)) : List D := [nums xs, .tup (pps.map nums), .tup (bx.map pr), .int ((xs.length : Int) - 1), .str (pageT xs (pps.zip bx)), .bl true]
theorem sw_told {xs : List Q2} {pps : List (List Q2)} {bx : List (Q2 × Q2)} (h : TOk xs pps bx) : Sw 4 10000000 (.lst (toldD xs pps bx)) := by
  have hp := page_len h
  obtain ⟨hx, hl, hl6, hpp, hbx⟩ := h
  refine (sw_lst (n := 3) (B := 1000010) (ds := toldD xs pps bx) fun d hd => ?_).up (Nat.le_refl _) (by show 6 * 1000010 + 2 * 6 + 3 ≤ _; decide)
  have h1 : Sw 3 1000010 (nums xs) := (sw_nums hx.1 hx.2).up (by decide) (by decide)
  have h2 : Sw 3 1000010 (.tup (pps.map nums)) := (sw_tup (n := 2) (B := 11000) (ds := pps.map nums) fun d hd => by
    obtain ⟨p, hp, rfl⟩ := List.mem_map.mp hd
    exact sw_nums (hpp p hp).1 (hpp p hp).2).up (by decide) (by rw [List.length_map]; omega)
  have h3 : Sw 3 1000010 (.tup (bx.map pr)) := (sw_tup (n := 2) (B := 300) (ds := bx.map pr) fun d hd => by
    obtain ⟨s, hs, rfl⟩ := List.mem_map.mp hd
    refine (sw_tup (n := 1) (B := 100) (ds := [fd s.1, fd s.2]) fun d hd => ?_).up (by decide) (by show 2 * 100 + 2 * 2 + 3 ≤ 300; decide)
    rcases List.mem_cons.mp hd with e | e
    · rw [e]
      exact sw_fd (hbx s hs).1
    · rw [List.mem_singleton.mp e]
      exact sw_fd (hbx s hs).2).up (by decide) (by rw [List.length_map]; omega)
  have h4 : Sw 3 1000010 (.int ((xs.length : Int) - 1)) := (sw_int (n := 10) (by decide) (show ((xs.length : Int) - 1).natAbs < 2 ^ 10 by have := hx.2; omega) (by decide)).up (by decide) (by decide)
  have h5 : Sw 3 1000010 (.str (pageT xs (pps.zip bx))) := (sw_str (asc_page xs (pps.zip bx))).up (by decide) (by omega)
  have h6 : Sw 3 1000010 (.bl true) := (sw_bl true).up (by decide) (by decide)
  unfold toldD at hd
  simp only [List.mem_cons, List.not_mem_nil, or_false] at hd
  rcases hd with e | e | e | e | e | e <;> rw [e] <;> assumption
/-- repr of what is told -/
theorem ed_shown {p : Pm} {δ : Sl} {te : TE} {d : D} {n B : Nat} (h : Ed p te δ d) (hl : ∃ ds, d = .lst ds) (s : Sw n B d) (hn : n < 40) (hB : B ≤ 16777216) : Ed p (tCB (rReprD p.K) (tCons te tNil)) δ (.str d.py.shown) :=
  ed_cb (ad_cons h ad_nil) (rca_val fun G H vs sm rm h1 => by
    obtain ⟨ds, rfl⟩ := hl
    cases h1 with
    | cons h1 h2 =>
      cases h2
      obtain ⟨a, xs, rfl, _, _⟩ := h1.lst_inv
      refine ⟨_, .str _, fun Q q => ⟨a, _, rfl, h1.dp sm s.ok, s.sh, s.nd, Nat.lt_of_le_of_lt s.dp hn, Nat.le_trans s.ln (Nat.le_trans hB (by decide)), q⟩⟩)
end K10
set_option Elab.async false
set_option linter.all false
set_option maxRecDepth 100000
set_option maxHeartbeats 4000000
/-! What is asked of what came. -/
namespace K10
open PySem PySem.Spec PyProof.Rows L2 StX RZ
section
variable {p : Pm}
theorem rop_neS {i j : PySem.Str} : Rop p rNe (.str i) (.str j) (· = .bl (!decide (i = j))) := rop_val fun G H v w s rm dx dy => by
  cases dx
  cases dy
  refine ⟨_, .bl _, fun Q q => ⟨rfl, ?_⟩⟩
  have e : decide (V.str i = V.str j) = decide (i = j) := by
    by_cases h : i = j
    · subst h; simp
    · simp [h]
  rw [e]
  exact q
end
theorem not_eqv {x y : PyData} (h : PyData.eqv x y = true) : (!PyData.eqv x y) = false := by rw [h]; rfl
theorem rca_listOf {p : Pm} {ds : List D} : Rca p (fun xs H Q => ∃ q ys, xs = [V.ref q] ∧ (SqL p.K H q ys ∨ SqT p.K H q ys) ∧ ∀ l, H l = none → Q (.ref l) (upd H l (.lst ys))) [.tup ds] (· = .lst ds) := rca_new fun G H vs s rm dx => by
  cases dx with
  | cons d1 d2 =>
    cases d2
    obtain ⟨a, us, rfl, h1, h2⟩ := d1.tup_inv
    exact ⟨.lst us, fun b hb e => .lst upd_same (h2.mono e), fun Q q => ⟨a, us, rfl, Or.inr (sqT_mono s h1), q⟩⟩
/-- where nothing is due -/
theorem errOf_none {b p t : D} (h : errOf b p t = none) : ∃ (xs : List Q2) (pps : List (List Q2)) (bx : List (Q2 × Q2)), b = nums xs ∧ p = .tup (pps.map nums) ∧ t = .tup (bx.map pr) ∧ TOk xs pps bx := by
  have e0 : areN 2 6 b = true := by
    cases q : areN 2 6 b with
    | true => rfl
    | false =>
      unfold errOf at h
      rw [if_pos q] at h
      cases h
  obtain ⟨xs, rfl, hx2, hx6, hxf⟩ := areN_inv e0
  have lxm : (xs.map fd).length = xs.length := List.length_map ..
  have hp : partsErr xs.length p = none := by
    cases q : partsErr xs.length p with
    | none => rfl
    | some er =>
      have := errOf_parts (bs := xs.map fd) (t := t) e0 (by rw [lxm]; exact q)
      have h' : errOf (.tup (xs.map fd)) p t = none := h
      rw [this] at h'
      cases h'
  obtain ⟨pps, rfl, hv⟩ := vld_of (t := t) hx2 hx6 hxf hp
  have lpm : (pps.map nums).length = pps.length := List.length_map ..
  have hb : boxErr pps.length t = none := by
    cases q : boxErr pps.length t with
    | none => rfl
    | some er =>
      have := errOf_box (bs := xs.map fd) (ps := pps.map nums) (t := t) e0 (by rw [lxm]; exact hp) (by rw [lpm]; exact q)
      have h' : errOf (.tup (xs.map fd)) (.tup (pps.map nums)) t = none := h
      rw [this] at h'
      cases h'
  obtain ⟨bx, rfl, v, _⟩ := hv hb
  exact ⟨xs, pps, bx, rfl, rfl, rfl, ⟨v.fx, by have := v.l6; omega⟩, v.pb, by have := v.p3; omega, fun p hp => ⟨(v.fp p hp).2, by have := (v.fp p hp).1; have := v.l6; omega⟩, v.fb⟩
theorem strOk_of (s : String) : PySem.PyData.strOk (PySem.Str.ofString s) = true := by
  unfold PySem.PyData.strOk
  rw [PySem.Str.ofString_eq_toList, Array.all_eq_true']
  intro c hc
  have h2 : c ∈ s.toList.map Char.toNat := by simpa using hc
  obtain ⟨ch, _, rfl⟩ := List.mem_map.mp h2
  have hv : ch.toNat < 0x110000 := by
    rcases ch.valid with h | ⟨_, h⟩
    · exact Nat.lt_trans h (by decide)
    · exact h
  exact decide_eq_true hv
theorem kept_strs (er : Er) : ∃ s t : String, keptD er = .tup [.str (PySem.Str.ofString s), .str (PySem.Str.ofString t)] := by
  have rp : ∀ d : D, ∃ t : String, rpT d = PySem.Str.ofString t := fun d => by
    unfold rpT
    split
    · exact ⟨_, rfl⟩
    · exact ⟨_, rfl⟩
  cases er with
  | low => exact ⟨_, _, rfl⟩
  | numbers d =>
    obtain ⟨t, e⟩ := rp d
    exact ⟨"numbers", t, congrArg (fun z => D.tup [.str ("numbers" : PySem.Str), .str z]) e⟩
  | parts d =>
    obtain ⟨t, e⟩ := rp d
    exact ⟨"parts", t, congrArg (fun z => D.tup [.str ("parts" : PySem.Str), .str z]) e⟩
  | box d =>
    obtain ⟨t, e⟩ := rp d
    exact ⟨"box", t, congrArg (fun z => D.tup [.str ("box" : PySem.Str), .str z]) e⟩
theorem kept_list (er : Er) (n : Nat) : (D.lst (List.replicate n (keptD er))).ok = true ∧ SeqAt.shaped (D.lst (List.replicate n (keptD er))).py = true ∧ PyData.eqv (D.lst (List.replicate n (keptD er))).py (D.lst (List.replicate n (keptD er))).py = true := by
  obtain ⟨s, t, e⟩ := kept_strs er
  have hk : (keptD er).ok = true ∧ PyData.canLay0 (keptD er).py = true ∧ (keptD er).py.depth ≤ 60 := by
    rw [e]
    refine ⟨rfl, ?_, ?_⟩
    · unfold D.py D.pys D.py D.pys D.py D.pys PyData.canLay0 PyData.canLayAll0 PyData.canLay0 PyData.canLayAll0 PyData.canLay0 PyData.canLayAll0
      rw [strOk_of, strOk_of]
      rfl
    · unfold D.py D.pys D.py D.pys D.py D.pys PyData.depth PyData.depthAll PyData.depth PyData.depthAll PyData.depth PyData.depthAll
      decide
  have hs : SeqAt.shaped (D.lst (List.replicate n (keptD er))).py = true := shaped_lst fun d hd => by
    rw [(List.mem_replicate.mp hd).2]
    exact hk.2
  refine ⟨?_, hs, SeqAt.eqv_refl _ (SeqAt.canLay_of_shaped hs)⟩
  unfold D.ok
  exact oks_of fun d hd => by
    rw [(List.mem_replicate.mp hd).2]
    exact hk.1
/-- list * 2 != list .. of what is kept; one list of texts against another -/
theorem strs_list (s : String) (n : Nat) : (D.lst (List.replicate n (.str (PySem.Str.ofString s)))).ok = true ∧ SeqAt.shaped (D.lst (List.replicate n (.str (PySem.Str.ofString s)))).py = true ∧ PyData.eqv (D.lst (List.replicate n (.str (PySem.Str.ofString s)))).py (D.lst (List.replicate n (.str (PySem.Str.ofString s)))).py = true := by
  have hs : SeqAt.shaped (D.lst (List.replicate n (.str (PySem.Str.ofString s)))).py = true := shaped_lst fun d hd => by
    rw [(List.mem_replicate.mp hd).2]
    refine ⟨?_, ?_⟩
    · unfold D.py PyData.canLay0
      exact strOk_of s
    · unfold D.py PyData.depth
      exact Nat.zero_le _
  refine ⟨?_, hs, SeqAt.eqv_refl _ (SeqAt.canLay_of_shaped hs)⟩
  unfold D.ok
  exact oks_of fun d hd => by
    rw [(List.mem_replicate.mp hd).2]
    rfl
section
variable {W : Wd} {c : Option Addr} {m : Option (Addr × List D)} {δ : Sl} {te : TE} {b p x : D}
abbrev backD (b p x : D) : D := .tup [.str ("back" : PySem.Str), .mac b p x]
abbrev eqvM (W : Wd) : L2.Eqv := fun a b H => L2.DFlat a b H ∨ L2.DIns W.C (macR W) a b H
/-- two machines of the same parts are not told apart -/
theorem rop_neM {xs : List Q2} {pps : List (List Q2)} {bx : List (Q2 × Q2)} (hok : TOk xs pps bx) :
    Rop ⟨W.K, W.C, c, m⟩ (rNeT W.K (eqvM W)) (backD (nums xs) (.tup (pps.map nums)) (.tup (bx.map pr))) (backD (nums xs) (.tup (pps.map nums)) (.tup (bx.map pr))) (· = .bl false) := fun G H v w s rc rm dx dy Q k => by
  obtain ⟨a1, us, rfl, h1, h2⟩ := dx.tup_inv
  obtain ⟨a2, ws, rfl, h3, h4⟩ := dy.tup_inv
  cases h2 with
  | @cons u1 _ _ _ e1 h2 =>
    cases h2 with
    | @cons u2 _ _ _ e2 h2 =>
      cases h2
      cases h4 with
      | @cons w1 _ _ _ f1 h4 =>
        cases h4 with
        | @cons w2 _ _ _ f2 h4 =>
          cases h4
          cases e1
          cases f1
          obtain ⟨m1, dx1, p1, p2, p3, rfl, g1, _⟩ := da_mac e2
          obtain ⟨m2, dx2, q1, q2, q3, rfl, g2, _⟩ := da_mac f2
          refine ⟨⟨a1, a2, _, _, rfl, rfl, sqT_mono s h1, sqT_mono s h3, L2.Prs.cons (Or.inl ⟨rfl, rfl, by decide +kernel⟩) (L2.Prs.cons (Or.inr ⟨m1, m2, dx1, dx2, _, _, rfl, rfl, s _ _ g1, s _ _ g2, G, xs, pps, bx, s, hok, e2, f2⟩) L2.Prs.nil)⟩, fun H' e => ?_⟩
          refine k _ _ G H' ⟨Same.refl _, fun a o z1 z2 => (by rw [z2] at z1; cases z1), fun a o z => e a o (s a o z), fun a o _ z => e a o z⟩ (fun a ea => ?_) (.bl false) rfl
          obtain ⟨g, y1, y2, y3, q, w⟩ := rc a ea
          exact ⟨g, y1, y2, y3, e _ _ q, w⟩
theorem ed_boolM (h : Ed ⟨W.K, W.C, c, m⟩ te δ (.mac b p x)) : Ed ⟨W.K, W.C, c, m⟩ (tCB (fun xs H Q => ∃ a dx fs, xs = [V.ref a] ∧ H a = some (.ins W.C dx fs) ∧ Q (.bl true) H) (tCons te tNil)) δ (.bl true) := fun σ G H s sd rc rm Q k =>
  h σ G H s sd rc rm _ fun v e G1 H1 st rc1 da pd => by
    subst pd
    obtain ⟨a, dx, v1, v2, v3, rfl, hg, d1, d2, d3⟩ := da_mac da
    exact ⟨a, dx, _, rfl, st.sub _ _ hg, k _ _ _ _ st rc1 (.bl true) rfl⟩
end
end K10
set_option Elab.async false
set_option linter.all false
set_option maxRecDepth 100000
set_option maxHeartbeats 4000000
/-! _law_right. -/
namespace K10
open PySem PySem.Spec PyProof.Rows L2 StX RZ
abbrev s__law_right : Stmt := top 101
abbrev N__law_right : List PySem.Str := ["_law_cup_here", "_law_turn", "_law_first_one", "_law_rig_here", "_law_again", "_law_fresh", "_law_due_here", "_law_came", "_law_here", "_law_told", "_law_each"]
theorem sc__law_right : FnScope N__law_right ["_law_cup_here"] (defScope s__law_right) := ⟨rfl, rfl, rfl, by decide +kernel, rfl, by decide +kernel, by decide +kernel⟩

theorem lam1_body {X : Cx} {C : Addr} {x : Xc} (F : F__law_machine (wdOf X C) x) {A : Around} {outer : List Env} {s : Shared} {H : Hp} {E : XK} {scope : Scope} {f c1 : Addr} {p1 p2 p3 : Pos} (hr : Room 24 (A.deeper (LamX.lamEnv X scope s.heap.objs.size f c1)))
    (hN : X.N[3]? = some ("_law_rig_here" : PySem.Str)) (hv : Vis scope "_law_rig_here") (hg : scope.names.lookup ("_law_machine" : PySem.Str) = some .globalImplicit) :
    PE (LamX.lamCx X A outer s H E scope f c1) (.Call (.Name "_law_machine" p1) [.Name "_law_rig_here" p2] [] p3) (tCall (spX X.K C x R__law_machine) [] E (tCons (tVar 3) tNil)) :=
  pe_cx (X := LamX.lamCx X A outer s H E scope f c1) F (hr.mono (by decide)) (passes_call (takes_of rfl rfl rfl rfl) fun _ _ _ _ h => h) (pa_cons (pe_var (i := 3) hN hv) pa_nil) hg
abbrev tRigs (K : PySem.W.Frag) : TA := tCons (tOp (rIxT K) (tVar 3) (tC (.int 2))) (tCons (tOp (rIxT K) (tVar 3) (tC (.int 1))) (tCons (tOp (rIxT K) (tVar 3) (tC (.int 0))) tNil))
theorem pe_lam1 {X : Cx} {C : Addr} {x : Xc} (kt : KT (wdOf X C) x) (f__law_kept : Fp (wdOf X C) 2 "_law_kept" ["_law_e"] (spErr (wdOf X C) x fun er => (· = keptD er))) (hD : DefP (wdOf X C) "_law_caught" 84) {c P : Addr} (TB : LamX.TabB X.base X.mg c P) (F : F__law_machine (wdOf X C) x) (hcode : X.env.code = .ref c) (hq : X.env.qual ++ "<lambda>" = ("_law_right.<locals>.<lambda>" : PySem.Str)) (hr : Room 28 X.A) (hN : X.N[3]? = some ("_law_rig_here" : PySem.Str)) {params : Arguments} {scope : Scope} {p lpos pos : Pos} {p1 p2 p3 : Pos} (L : LamX.LamS X.env.scope scope) (hdef : defaultsOf params X.env = ([], []))
    (hbind : ∀ (q : PySem.Str) (cl : List (PySem.Str × Addr)) (pm cv ctv : Value), bindArgs (PySem.W.kla_fn "<lambda>" q params (.Call (.Name "_law_machine" p1) [.Name "_law_rig_here" p2] [] p3) scope cl pm cv ctv) ⟨[], []⟩ = pure []) (hv : Vis scope "_law_rig_here") (hgl : scope.names.lookup ("_law_machine" : PySem.Str) = some .globalImplicit) (hg : scope.names.lookup ("_law_zz" : PySem.Str) = none) (hgc : Gl X "_law_caught" := by rfl) :
    PE X (.Call (.Name "_law_caught" p) [.Lambda params (.Call (.Name "_law_machine" p1) [.Name "_law_rig_here" p2] [] p3) scope lpos] [] pos) (LamX.tLam (tabs P) (TTc (wdOf X C) x (ccs kt)) fun E => tCall (spX X.K C x R__law_machine) [] E (tCons (tVar 3) tNil)) :=
  pe_caught (k := 24) kt f__law_kept hD TB hcode hq hr L hdef hbind (fun A outer s H E f c1 hr2 => lam1_body F hr2 hN hv hgl) hgc
theorem pe_lam2 {X : Cx} {C : Addr} {x : Xc} (kt : KT (wdOf X C) x) (f__law_kept : Fp (wdOf X C) 2 "_law_kept" ["_law_e"] (spErr (wdOf X C) x fun er => (· = keptD er))) (hD : DefP (wdOf X C) "_law_caught" 84) {c P : Addr} (TB : LamX.TabB X.base X.mg c P) {fi : Addr} {fdi : FuncData} {g : List Value → List Value → List Value} {gV : List V → List V → List V} (M : Mk X.K C fi) (F : FnOk X.prog X.w X.K X.mg X.base (L2.CX X.prog X.w) 20 fi fdi ["self", "base", "parts", "box"] (spInit (wdOf X C) x)) (gM : X.mg "Machine" = some (.ref C))
    (hb : KBn X.K fdi ["self", "base", "parts", "box"] 1 ["box", "parts", "base"] g gV) (hcode : X.env.code = .ref c) (hq : X.env.qual ++ "<lambda>" = ("_law_right.<locals>.<lambda>" : PySem.Str)) (hr : Room 28 X.A) (hN : X.N[3]? = some ("_law_rig_here" : PySem.Str)) {params : Arguments} {scope : Scope} {p lpos pos : Pos} {p1 p2 p3 p4 p5 p6 p7 p8 p9 p10 p11 q1 q2 q3 : Pos} {k1 k2 k3 : Nat} (L : LamX.LamS X.env.scope scope) (hdef : defaultsOf params X.env = ([], []))
    (hbind : ∀ (q : PySem.Str) (cl : List (PySem.Str × Addr)) (pm cv ctv : Value), bindArgs (PySem.W.kla_fn "<lambda>" q params (.Call (.Name "Machine" p1) [] [⟨some "box", .Subscript (.Name "_law_rig_here" p2) (.Constant (.int 2) k1 p3) p4, q1⟩, ⟨some "parts", .Subscript (.Name "_law_rig_here" p5) (.Constant (.int 1) k2 p6) p7, q2⟩, ⟨some "base", .Subscript (.Name "_law_rig_here" p8) (.Constant (.int 0) k3 p9) p10, q3⟩] p11) scope cl pm cv ctv) ⟨[], []⟩ = pure []) (hv : Vis scope "_law_rig_here") (hgl : scope.names.lookup ("Machine" : PySem.Str) = some .globalImplicit) (hg : scope.names.lookup ("_law_zz" : PySem.Str) = none) (hgc : Gl X "_law_caught" := by rfl) :
    PE X (.Call (.Name "_law_caught" p) [.Lambda params (.Call (.Name "Machine" p1) [] [⟨some "box", .Subscript (.Name "_law_rig_here" p2) (.Constant (.int 2) k1 p3) p4, q1⟩, ⟨some "parts", .Subscript (.Name "_law_rig_here" p5) (.Constant (.int 1) k2 p6) p7, q2⟩, ⟨some "base", .Subscript (.Name "_law_rig_here" p8) (.Constant (.int 0) k3 p9) p10, q3⟩] p11) scope lpos] [] pos) (LamX.tLam (tabs P) (TTc (wdOf X C) x (ccs kt)) fun E => tMakeK C 0 3 (spInit (wdOf X C) x) gV E tNil (tRigs X.K)) :=
  pe_caught (k := 24) kt f__law_kept hD TB hcode hq hr L hdef hbind (fun A outer s H E f c1 hr2 => pe_makeK0 (X := LamX.lamCx X A outer s H E scope f c1) M F (hr2.mono (by decide)) hgl gM hb (passes_call (takes_of rfl rfl rfl rfl) fun _ _ _ _ h => h)
    (pk_cons (pe_ix ix_tup (pe_var (i := 3) hN hv) pe_int (fun _ _ => rfl)) (pk_cons (pe_ix ix_tup (pe_var (i := 3) hN hv) pe_int (fun _ _ => rfl)) (pk_cons (pe_ix ix_tup (pe_var (i := 3) hN hv) pe_int (fun _ _ => rfl)) pk_nil)))) hgc
section
variable {W : Wd} {x : Xc}
/-- all that _law_right calls -/
structure RtF (W : Wd) (x : Xc) (kt : KT W x) (c P : Addr) : Prop where
  T : Fr W.mg
  M : Mt W
  mf : MkF W x
  xm : ∀ er : Er, PySem.W.exmAny W.K (.ref (er.cls x)) (ccs kt) = some true
  rig : F__law_rig W
  steep : F__law_steep W
  sip : F__law_sip W
  chg : F__law_changed W
  due : F__law_due W
  page : F__law_page W
  kept : Fp W 2 "_law_kept" ["_law_e"] (spErr W x fun er => (· = keptD er))
  mach : F__law_machine W x
  caught : DefP W "_law_caught" 84
  TB : LamX.TabB W.base W.mg c P
  nB : W.mg "bool" = none
  base : PropK W 2 "base" R_base
  parts : PropK W 2 "parts" R_parts
  box : PropK W 2 "box" R_box
  degree : PropK W 2 "degree" R_degree
  text : PropK W 9 "text" R_text
  eq : ∃ f fd, FnOk W.P W.w W.K W.mg W.base CX0 11 f fd ["self", "other"] (L2.spEq (macR W)) ∧ PySem.W.findIn W.K (.ref W.C) "__eq__" = some (some (.ref f)) ∧ PySem.W.isFn W.K (.ref f) = true ∧ Binds W.K fd ["self", "other"] []
  boo : ∃ f fd, FnOk W.P W.w W.K W.mg W.base CX0 1 f fd ["self"] spTrue ∧ PySem.W.findIn W.K (.ref W.C) "__bool__" = some (some (.ref f)) ∧ PySem.W.isFn W.K (.ref f) = true ∧ Binds W.K fd ["self"] []
theorem tabs_keepL {T : List (Addr × PySem.Str)} {H H' : Hp} {l : Addr} (h : LamX.Tabs T H) (hc : ∃ xs, H l = some (.lst xs)) (k : ∀ b o, b ≠ l → H b = some o → H' b = some o) : LamX.Tabs T H' := fun q hq => by
  obtain ⟨ps, h1, h2, h3⟩ := h q hq
  obtain ⟨xs, e⟩ := hc
  have ne : ∀ b o, H b = some o → (∀ l, o ≠ .lst l) → b ≠ l := fun b o hb hn z => by
    rw [z, e] at hb
    exact hn _ (Option.some.inj hb).symm
  refine ⟨ps, k _ _ (ne _ _ h1 fun l z => by cases z) h1, h2, fun pos cv hcv => ?_⟩
  obtain ⟨c0, e1, e2⟩ := h3 pos cv hcv
  exact ⟨c0, e1, k _ _ (ne _ _ e2 fun l z => by unfold LamX.CodeO at z; cases z) e2⟩
theorem tabs_keep {T : List (Addr × PySem.Str)} {H H' : Hp} {cup : Addr} (h : LamX.Tabs T H) (hc : CupAt H cup) (k : ∀ b o, b ≠ cup → H b = some o → H' b = some o) : LamX.Tabs T H' := tabs_keepL h (let ⟨_, _, _, e, _⟩ := hc; ⟨_, e⟩) k
theorem right_body {kt : KT W x} {c P : Addr} (F : RtF W x kt c P) {f : Addr} {A : Around} {outer : List Env} {s : Shared} {H0 : Hp} (hg : A.guards = some []) (hr : Room 60 (A.deeper (envOfC "_law_right" (defScope s__law_right) s.heap.objs.size f (.ref c)))) (hu : A.units + 300 < cLine) :
    ∃ t, PSs (cxOf CX0 W.P W.w W.K W.mg W.base N__law_right "_law_right" (defScope s__law_right) f (.ref c) A outer s H0 E0) (defBody s__law_right) t ∧ ∀ (cup : Addr) (H : Hp) (Q : VK), CupAt H cup → LamX.Tabs (tabs P) H → (∀ H', (∀ b o, H b = some o → b ≠ cup → (∀ ps, o ≠ .tbl ps) → H' b = some o) → LamX.Tabs (tabs P) H' → Q (.bl true) H') → t { nx := fun _ H' => Q .non H', rt := Q } (L2.start N__law_right [.ref cup]) H := by
  obtain ⟨T, M, mf, xm, f__law_rig, f__law_steep, f__law_sip, f__law_changed, f__law_due, f__law_page, f__law_kept, f__law_machine, hDc, TB, nB, ⟨qB, gB, dB, pB, FB, bB⟩, ⟨qP, gP, dP, pP, FP, bP⟩, ⟨qX, gX, dX, pX, FX, bX⟩, ⟨qD, gD, dD, pD, FD, bD⟩, ⟨qT, gT, dT, pT, FT, bT⟩, ⟨fE, dE, FE, hE, iE, bE⟩, ⟨fO, dO, FO, hO, iO, bO⟩⟩ := F
  obtain ⟨fi, fdi, mk1, mk2, mk3, gk, gV, mk4, hgV⟩ := mf.mkx
  have nd := sc__law_right.nd
  have hu2 : (A.deeper (envOfC "_law_right" (defScope s__law_right) s.heap.objs.size f (.ref c))).units + 64 < cLine := by show A.units + 3 + 64 < cLine; omega
  refine ⟨_, PSs.nox (pss_cons (ps_for PassesOwn.never rfl (pi_range1 rfl T.n_range (pa_cons pe_int pa_nil)) (pg_name (i := 1) nd rfl (by first | exact Or.inl rfl | exact Or.inr rfl)) (pss_cons (ps_set (i := 2) nd rfl (by first | exact Or.inl rfl | exact Or.inr rfl) (pe_cf f__law_rig (hr.mono (by omega)) (pa_cons (pv 0) (pa_cons pe_int (pa_cons pe_int pa_nil)))))
      (pss_cons (ps_set (i := 3) nd rfl (by first | exact Or.inl rfl | exact Or.inr rfl) (pe_ifExp (pt_cmpR op_eq (pe_cf f__law_sip (hr.mono (by omega)) (pa_cons (pv 0) (pa_cons pe_int pa_nil))) pe_int (nomark _)) (pe_cf f__law_steep (hr.mono (by omega)) (pa_cons (pv 0) (pa_cons (pv 2) pa_nil))) (pv 2)))
      (pss_cons (ps_for PassesOwn.never rfl (pi_range1 rfl T.n_range (pa_cons (pe_cf f__law_sip (hr.mono (by omega)) (pa_cons (pv 0) (pa_cons pe_int pa_nil))) pa_nil)) (pg_name (i := 4) nd rfl (by first | exact Or.inl rfl | exact Or.inr rfl)) (pss_cons (ps_set (i := 5) nd rfl (by first | exact Or.inl rfl | exact Or.inr rfl) (pe_cf f__law_changed (hr.mono (by omega)) (pa_cons (pv 0) (pa_cons (pv 2) pa_nil))))
      (pss_one (ps_set (i := 3) nd rfl (by first | exact Or.inl rfl | exact Or.inr rfl) (pe_ifExp (pt_cmpR op_eq (pv 4) pe_int (nomark _)) (pe_op op_catA (pe_slice sl_tupA (pv 5) po_none (po_some pe_int)) (pe_slice sl_tupA (pv 3) (po_some pe_int) po_none)) (pe_op op_catA (pe_slice sl_tupA (pv 3) po_none (po_some pe_int)) (pe_slice sl_tupA (pv 5) (po_some pe_int) po_none)))))))
      (pss_cons (ps_set (i := 6) nd rfl (by first | exact Or.inl rfl | exact Or.inr rfl) (pe_cf f__law_due (hr.mono (by omega)) (pa_cons (pv 3) pa_nil)))
      (pss_cons (ps_set (i := 7) nd rfl (by first | exact Or.inl rfl | exact Or.inr rfl) (pe_lst (pa_cons (pe_lam1 kt f__law_kept hDc TB f__law_machine rfl rfl (hr.mono (by omega)) rfl (LamX.lamS_by (by rfl)) rfl (fun _ _ _ _ _ => rfl) (Or.inr (Or.inr rfl)) rfl rfl) pa_nil)))
      (pss_cons (ps_expr (pe_bm PySem.F.plainAttrs_list PySem.F.slot_list_append PySem.F.type_list_append mt_append (pv 7) (pa_cons (pe_lam2 kt f__law_kept hDc TB mk1 mk2 mf.gM mk4 rfl rfl (hr.mono (by omega)) rfl (LamX.lamS_by (by rfl)) rfl (fun _ _ _ _ _ => rfl) (Or.inr (Or.inr rfl)) rfl rfl) pa_nil)))
      (pss_one (ps_if (pt_cmpR (op_neD hu2) (pv 6) (pe_lst pa_nil) (nomark _)) (pss_one (ps_if (pt_cmpR (op_neD hu2) (pv 7) (pe_op op_rep (pv 6) pe_int) (nomark _)) (pss_one (ps_ret pe_bl)) pss_nil)) (pss_one (ps_if (PW.pt (pw_or (pt_cmpR (op_neD hu2) (pe_lc (own := [("_law_each", 10)]) (g := gName 10) (te := (tOp (rIxT W.K) (tVar 10) (tC (.int 0)))) (tt := tYes) rfl nd (pi_list (pv 7)) (blkOk_by (own := [("_law_each", 10)]) (N := N__law_right) (sc := defScope s__law_right) (by decide +kernel)) (fun _ _ _ _ _ => (pg_name (i := 10) nd rfl (by first | exact Or.inl rfl | exact Or.inr rfl))) (fun _ _ _ _ _ => pts_nil) (fun _ _ _ _ _ => (pe_ix ix_tup (pv 10) pe_int (fun _ _ => rfl)))) (pe_op op_rep (pe_lst (pa_cons pe_str pa_nil)) pe_int) (nomark _)) (pw_or1 (pt_cmpR (op_neT (L2.Mon.or L2.mon_flat (L2.mon_ins macR_ext)) ((L2.EqG.mono L2.eqG_flat (by decide : 0 ≤ 11)).or (L2.eqG_ins FE hE iE bE pass0)) (hr.mono (by omega))) (pe_ix ix_list (pv 7) pe_int (fun _ _ => rfl)) (pe_ix ix_list (pv 7) pe_int (fun _ _ => rfl)) (nomark _))))) (pss_one (ps_ret pe_bl)) (pss_cons (ps_set (i := 8) nd rfl (by first | exact Or.inl rfl | exact Or.inr rfl) (pe_ix ix_tup (pe_ix ix_list (pv 7) pe_int (fun _ _ => rfl)) pe_int (fun _ _ => rfl)))
      (pss_cons (ps_set (i := 9) nd rfl (by first | exact Or.inl rfl | exact Or.inr rfl) (pe_lst (pa_cons (pe_prop (pv 8) M.cl pB FB (hr.mono (by omega)) bB .nil pass0 rfl) (pa_cons (pe_prop (pv 8) M.cl pP FP (hr.mono (by omega)) bP .nil pass0 rfl) (pa_cons (pe_prop (pv 8) M.cl pX FX (hr.mono (by omega)) bX .nil pass0 rfl) (pa_cons (pe_prop (pv 8) M.cl pD FD (hr.mono (by omega)) bD .nil pass0 rfl) (pa_cons (pe_prop (pv 8) M.cl pT FT (hr.mono (by omega)) bT .nil pass0 rfl) (pa_cons (pe_callTy (call_boolM hO iO FO bO (hr.mono (by omega))) rfl nB (by decide +kernel) (pa_cons (pv 8) pa_nil)) pa_nil))))))))
      (pss_one (ps_if (pt_cmpR op_ne (pe_callB (call_reprD hg hu2) rfl T.n_repr (by decide +kernel) (pa_cons (pv 9) pa_nil)) (pe_callB (call_reprD hg hu2) rfl T.n_repr (by decide +kernel) (pa_cons (pe_op op_cat (pe_callTy call_list_of rfl T.n_list (by decide +kernel) (pa_cons (pv 3) pa_nil)) (pe_lst (pa_cons (pe_op op_sub (pe_callB call_len_seq rfl T.n_len (by decide +kernel) (pa_cons (pe_ix ix_tup (pv 3) pe_int (fun _ _ => rfl)) pa_nil)) pe_int) (pa_cons (pe_cf f__law_page (hr.mono (by omega)) (pa_cons (pv 3) pa_nil)) (pa_cons pe_bl pa_nil))))) pa_nil)) (nomark _)) (pss_one (ps_ret pe_bl)) pss_nil)))))))))))))))
      (pss_one (ps_ret pe_bl))), ?_⟩
  intro cup H Q hc hT hQ
  refine ⟨12, rfl, by decide, by decide, ?_⟩
  refine for_range (lo := 0) (n := 12) (fun i σ' H' => σ'.length = 11 ∧ σ'[0]? = some (some (.ref cup)) ∧ CupAt H' cup ∧ LamX.Tabs (tabs P) H' ∧ ∀ b o, H b = some o → b ≠ cup → (∀ ps, o ≠ .tbl ps) → H' b = some o) ⟨rfl, rfl, hc, hT, fun b o h _ _ => h⟩ (fun i σ' H1 hi ⟨hl, hs, hc1, hT1, hk1⟩ => ?_) fun σ' H1 ⟨hl, hs, hc1, hT1, hk1⟩ => hQ H1 hk1 hT1
  have a0 : At ⟨W.K, W.C, some cup, none⟩ ⟨fun _ => none, H1, fun _ => none⟩ [some (.adr cup), some (.int ((0 : Int) + (i : Int))), none, none, none, none, none, none, none, none, none] (σ'.set 1 (some (.int ((0 : Int) + (i : Int))))) H1 := by
    have rc : RC (some cup) (fun _ => none) H1 := fun a e => by
      cases e
      exact ⟨rfl, hc1⟩
    refine ⟨⟨fun _ => none, Stp.refl (fun b o e => by cases e), Same.refl _, ⟨by rw [List.length_set, hl]; rfl, fun k d e => ?_⟩, rc, fun l ds e => by cases e⟩, rc, fun l ds e => by cases e⟩
    match k, e with
    | 0, e =>
      cases e
      exact ⟨.ref cup, by rw [List.getElem?_set_ne (by decide)]; exact hs, .adr cup⟩
    | 1, e =>
      cases e
      exact ⟨.int _, List.getElem?_set_self (by rw [hl]; decide), .int _⟩
    | k + 2, e =>
      have e2 : (List.replicate 9 (none : Option D))[k]? = some (some d) := e
      rw [List.getElem?_replicate] at e2
      split at e2 <;> cases e2
  refine q_asg a0 (P := fun d => ∃ xs pps bx, d = rigD xs pps bx ∧ RigOk xs pps bx) (en_callC (ad_cons (ed_var rfl) (ad_cons ed_int (ad_cons ed_int ad_nil))) ⟨cup, rfl, rfl, fun xs pps bx h => ⟨xs, pps, bx, rfl, h⟩⟩) fun d σ2 H2 hd a2 => ?_
  obtain ⟨xs, pps, bx, rfl, hro⟩ := hd
  refine q_asg a2 (P := fun d => ∃ b p x, d = .tup [b, p, x] ∧ JOk b p x) (en_if (T := fun _ => True) (tn_test (P := fun d => ∃ b, d = .bl b) (en_op (A := fun d => ∃ i : Int, d = .int i) (en_callC (ad_cons (ed_var rfl) (ad_cons ed_int ad_nil)) ⟨cup, 5, rfl, rfl, by decide, by decide, fun i _ _ => ⟨i, rfl⟩⟩) (fun _ _ => ed_int) fun x y ⟨i, hx⟩ hy => by
      subst hx hy
      exact rop_eqI.imp fun d e => ⟨_, e⟩) fun d ⟨b, e⟩ => ⟨b, e, trivial⟩) (fun _ => en_callC (ad_cons (ed_var rfl) (ad_cons (ed_var rfl) ad_nil)) ⟨cup, xs, pps, bx, rfl, rfl, hro, fun pps' bx' h => ⟨_, _, _, rfl, rig_jok h⟩⟩) fun _ => En.of (ed_var rfl) ⟨_, _, _, rfl, rig_jok hro⟩) fun d σ3 H3 hd a3 => ?_
  obtain ⟨b1, p1, x1, rfl, hj1⟩ := hd
  refine q_forRn (Pn := fun n => 0 ≤ n ∧ n < 3) a3 (an_cons (P := fun d => ∃ i : Int, d = .int i ∧ 0 ≤ i ∧ i < 3) (R := (· = [])) (en_callC (ad_cons (ed_var rfl) (ad_cons ed_int ad_nil)) ⟨cup, 3, rfl, rfl, by decide, by decide, fun i i0 i1 => ⟨i, rfl, i0, i1⟩⟩) (fun _ _ => ad_nil) fun d ds ⟨i, e, h⟩ e2 => ⟨i, by rw [e, e2], h⟩)
    (fun n h => by omega) (fun n δ m => m = none ∧ ∃ (b p x : D) (o4 o5 : Option D), JOk b p x ∧ δ = [some (.adr cup), some (.int ((0 : Int) + (i : Int))), some (rigD xs pps bx), some (.tup [b, p, x]), o4, o5, none, none, none, none, none]) ⟨rfl, b1, p1, x1, none, none, hj1, rfl⟩ ?_ ?_
  · rintro nn n δ m σ4 H4 hnn hn ⟨rfl, b, p, x', o4, o5, hj, rfl⟩ a4
    refine q_asg a4 (P := fun d => ∃ b p x, d = .tup [b, p, x] ∧ Ch xs pps bx b p x) (en_callC (ad_cons (ed_var rfl) (ad_cons (ed_var rfl) ad_nil)) ⟨cup, xs, pps, bx, rfl, rfl, hro, fun b p x h => ⟨_, _, _, rfl, h⟩⟩) fun d σ5 H5 hd a5 => ?_
    obtain ⟨b2, p2, x2, rfl, hch⟩ := hd
    refine x_asg a5 (P := fun d => ∃ b p x, d = .tup [b, p, x] ∧ JOk b p x) (en_if (T := fun _ => True) (tn_test (P := fun d => ∃ b, d = .bl b) (En.of (ed_eqI (ed_var rfl) ed_int) ⟨_, rfl⟩) fun d ⟨b, e⟩ => ⟨b, e, trivial⟩)
      (fun _ => En.of (ed_op (ed_slT (ds := [b2, p2, x2]) (ed_var rfl) od_none (od_some (i := 1) ed_int)) (ed_slT (ds := [b, p, x']) (ed_var rfl) (od_some (i := 1) ed_int) od_none) (rop_catT (by show 1 + 2 ≤ 100000; decide))) ⟨b2, p, x', rfl, ch_base hch hj⟩)
      fun _ => En.of (ed_op (ed_slT (ds := [b, p, x']) (ed_var rfl) od_none (od_some (i := 1) ed_int)) (ed_slT (ds := [b2, p2, x2]) (ed_var rfl) (od_some (i := 1) ed_int) od_none) (rop_catT (by show 1 + 2 ≤ 100000; decide))) ⟨b, p2, x2, rfl, ch_jok hch hj.wb⟩) fun d σ6 H6 hd a6 => ?_
    obtain ⟨b3, p3, x3, rfl, hj3⟩ := hd
    exact ⟨_, _, ⟨rfl, b3, p3, x3, _, _, hj3, rfl⟩, a6⟩
  rintro nn δ m σ4 H4 hnn ⟨rfl, b, p, x', o4, o5, hj, rfl⟩ a4
  refine q_set a4 (ed_call (ad_cons (ed_var rfl) ad_nil) ⟨b, p, x', rfl, hj, rfl⟩) fun σ5 H5 a5 => ?_
  have hT5 : LamX.Tabs (tabs P) H5 := by
    obtain ⟨G, st, _⟩ := a5.ex
    exact tabs_keep hT1 hc1 fun b o hb e => st.keep b o (fun z => hb (Option.some.inj z).symm) e
  refine ⟨hT5, fun H6 e6 hT6 => ?_⟩
  obtain ⟨G6, sg6, sd6, rc6, _⟩ := a5.out e6
  have n0 : ∀ {G H : Hp}, RC none G H := fun a e => by cases e
  refine caught_out (b := b) (p := p) (t := x') (c := some cup) (G := G6) xm (fun E Q' kq kx => x_callX (P := fun d => errOf b p x' = none ∧ d = .mac b p x') (XP := fun er => errOf b p x' = some er) (at_of sg6 sd6 n0) (ad_cons (ed_var rfl) ad_nil) ⟨b, p, x', rfl, hj.wb, hj.wp, hj.wx, fun e => ⟨e, rfl⟩, fun er e => e⟩
    (fun v d G' H' st rc da pd => kq pd.1 v d G' H' st rc da pd.2) kx) hj.wb hj.wp hj.wx sg6 rc6 (fun v G7 H7 s1 s2 s3 rc7 fr7 da7 => ?_)
  refine ⟨by show 1 ≤ sizeLine; decide, fun l hl => ?_⟩
  have sd7 := sd6.mono s1
  have a8 := at_hide (i := 7) s2 sd7 rc7 hl (.cons da7 .nil)
  have hT7 : LamX.Tabs (tabs P) H7 := hT6.ext s3
  have hT8 : LamX.Tabs (tabs P) (upd H7 l (.lst [v])) := hT7.ext (fun b o e => by rw [upd_ne (ne_of_none e hl)]; exact e)
  refine ⟨.ref l, List.getElem?_set_self (by rw [sd6.len]; show 7 < 11; decide), Or.inl ⟨rfl, _, SqL.of upd_same⟩, ?_⟩
  refine ⟨hT8, fun H9 e9 hT9 => ?_⟩
  obtain ⟨G9, sg9, sd9, rc9, hm9⟩ := a8.out e9
  obtain ⟨hlc, g9, vs9, hl9, dv9⟩ := hm9 l _ rfl
  refine caught_out (b := b) (p := p) (t := x') (c := some cup) (G := G9) xm (fun E Q' kq kx => x_makeK hgV (at_of sg9 sd9 n0) (ad_cons (ed_ixT (ed_var rfl) ed_int rfl) (ad_cons (ed_ixT (ed_var rfl) ed_int rfl) (ad_cons (ed_ixT (ed_var rfl) ed_int rfl) ad_nil))) hj.wb hj.wp hj.wx kq kx) hj.wb hj.wp hj.wx sg9 rc9 (fun v2 G10 H10 t1 t2 t3 rc10 fr10 da10 => ?_)
  have l10 : H10 l = some (.lst vs9) := t3 _ _ hl9
  have g10 : G10 l = none := by
    cases q : G10 l with
    | none => rfl
    | some o =>
      rcases fr10 l o q g9 with z | z
      · rw [hl9] at z
        cases z
      · have h2 := t2 l o q
        rw [l10] at h2
        exact absurd (Option.some.inj h2).symm (z _)
  refine ⟨l, vs9, v2, rfl, rfl, l10, by rw [dv9.length]; show 1 < sizeLine; decide, ?_⟩
  have hcl : (some cup : Option Addr) ≠ some l := fun z => hlc (Option.some.inj z).symm
  have a11 := at_told (i := 7) (c := some cup) (H := upd H10 l (.lst (vs9 ++ [v2]))) (G := G10) (fun b o q => by rw [upd_ne (ne_of_none q g10)]; exact t2 b o q) (sd9.mono t1) (rc10.mut hcl) hcl g10 upd_same ((dv9.mono t1).append (.cons da10 .nil)) rfl
  have hT11 : LamX.Tabs (tabs P) (upd H10 l (.lst (vs9 ++ [v2]))) := tabs_keepL (hT9.ext t3) ⟨_, l10⟩ fun b o hb e => by rw [upd_ne hb]; exact e
  have hk11 : ∀ b o, H b = some o → b ≠ cup → (∀ ps, o ≠ .tbl ps) → (upd H10 l (.lst (vs9 ++ [v2]))) b = some o := fun b o h hb hn => by
    obtain ⟨G5, st5, _⟩ := a5.ex
    have q1 := hk1 b o h hb hn
    have q7 := s3 _ _ (e6 b o (st5.keep b o (fun z => hb (Option.some.inj z).symm) q1) hn)
    have hbl : b ≠ l := ne_of_none q7 hl
    rw [upd_ne hbl]
    refine t3 _ _ (e9 b o ?_ hn)
    rw [upd_ne hbl]
    exact q7
  have fin : ∀ {σ' : L2.St} {H' : Hp} {δ' : Sl}, At ⟨W.K, W.C, some cup, none⟩ ⟨upd G10 l (.lst (vs9 ++ [v2])), upd H10 l (.lst (vs9 ++ [v2])), upd G10 l (.lst (vs9 ++ [v2]))⟩ (some (.adr cup) :: δ') σ' H' → δ'.length = 10 →
      σ'.length = 11 ∧ σ'[0]? = some (some (.ref cup)) ∧ CupAt H' cup ∧ LamX.Tabs (tabs P) H' ∧ ∀ b o, H b = some o → b ≠ cup → (∀ ps, o ≠ .tbl ps) → H' b = some o := fun {σ' H' δ'} a hl' => by
    obtain ⟨G', st, sb, sd, rc, rm⟩ := a.ex
    have kp : ∀ b o, b ≠ cup → (upd H10 l (.lst (vs9 ++ [v2]))) b = some o → H' b = some o := fun b o hb e => st.keep b o (fun z => hb (Option.some.inj z).symm) e
    refine ⟨by rw [sd.len, List.length_cons, hl'], ?_, (rc cup rfl).2, tabs_keep hT11 (a.rc0 cup rfl).2 kp, fun b o h hb hn => kp b o hb (hk11 b o h hb hn)⟩
    obtain ⟨u, hu', du⟩ := sd.at_ 0 _ rfl
    cases du
    exact hu'
  cases he : errOf b p x' with
  | some er =>
    have eL : lamD b p x' = keptD er := by unfold lamD; rw [he]
    rw [he, due_kept, eL] at a11
    obtain ⟨o1, q1, _⟩ := kept_list er 1
    obtain ⟨o2, q2, r2⟩ := kept_list er 2
    refine x_if (T := (· = true)) a11 (Td.to (td_test (ed_op (ed_var rfl) (ed_lst ad_nil) (rop_neD o1 rfl q1 rfl))) (by rw [eqv_nil]; rfl)) (fun _ H12 a12 => ?_) (fun h _ _ => by cases h)
    refine x_if (T := (· = false)) a12 (Td.to (td_test (ed_op (ed_var rfl) (ed_op (ed_var rfl) ed_int (rop_repL (xs := [keptD er]) (by decide) (by decide) (by show 1 ≤ 50; decide))) (rop_neD o2 o2 q2 q2))) (not_eqv r2)) (fun h _ _ => by cases h) fun _ H13 a13 => ?_
    exact fin a13 rfl
  | none =>
    obtain ⟨xs', pps', bx', rfl, rfl, rfl, hok⟩ := errOf_none he
    have eL : lamD (nums xs') (.tup (pps'.map nums)) (.tup (bx'.map pr)) = backD (nums xs') (.tup (pps'.map nums)) (.tup (bx'.map pr)) := by unfold lamD; rw [he]
    rw [he, eL] at a11
    obtain ⟨o2, q2, r2⟩ := strs_list "back" 2
    refine x_if (T := (· = false)) a11 (Td.to (td_test (ed_op (ed_var rfl) (ed_lst ad_nil) (rop_neD rfl rfl rfl rfl))) (by rw [eqv_nil]; rfl)) (fun h _ _ => by cases h) (fun _ H12 a12 => ?_)
    refine x_if (T := (· = false)) a12 (Td.to (td_or (a := false) (b := false) (Td.to (td_test (ed_op (ed_lcL (g := fun _ => .str ("back" : PySem.Str)) (ed_var rfl) (by show 2 ≤ 100000; decide) (by decide) fun x hx => ?_) (ed_op (ed_lst (ad_cons ed_str ad_nil)) ed_int (rop_repL (by decide) (by decide) (by decide))) (rop_neD o2 o2 q2 q2))) (not_eqv r2)) fun _ => td_test (ed_op (ed_ixL (ed_var rfl) ed_int rfl) (ed_ixL (ed_var rfl) ed_int rfl) (rop_neM hok))) rfl) (fun h _ _ => by cases h) fun _ H13 a13 => ?_
    · have ex : x = backD (nums xs') (.tup (pps'.map nums)) (.tup (bx'.map pr)) := by
        have h2 : x ∈ [backD (nums xs') (.tup (pps'.map nums)) (.tup (bx'.map pr)), backD (nums xs') (.tup (pps'.map nums)) (.tup (bx'.map pr))] := hx
        rcases List.mem_cons.mp h2 with z | z
        · exact z
        · exact List.mem_singleton.mp z
      rw [ex]
      exact ed_ixT (ed_var rfl) ed_int rfl
    have lxm : ((xs'.map fd).length : Int) - 1 = (xs'.length : Int) - 1 := by rw [List.length_map]
    have lx9 : (xs'.map fd).length ≤ 1000 := by rw [List.length_map]; have := hok.1.2; omega
    refine q_set a13 (ed_ixT (ed_ixL (ed_var rfl) ed_int rfl) ed_int rfl) fun σ14 H14 a14 => ?_
    refine q_set (d := .lst (toldD xs' pps' bx')) a14 (ed_lst (ad_cons (ed_prop ⟨_, _, _, rfl, rfl⟩ (ed_var rfl)) (ad_cons (ed_prop ⟨_, _, _, rfl, rfl⟩ (ed_var rfl)) (ad_cons (ed_prop ⟨_, _, _, rfl, rfl⟩ (ed_var rfl)) (ad_cons (Ed.to (ed_prop ⟨_, _, _, rfl, lx9, rfl⟩ (ed_var rfl)) (congrArg D.int lxm))
      (ad_cons (ed_prop ⟨xs', pps', bx', rfl, hok, rfl⟩ (ed_var rfl)) (ad_cons (ed_boolM (ed_var rfl)) ad_nil)))))) (by show 6 ≤ 100000; decide)) fun σ15 H15 a15 => ?_
    refine x_if (T := (· = false)) a15 (Td.to (td_test (ed_op (ed_shown (ed_var rfl) ⟨_, rfl⟩ (sw_told hok) (by decide) (by decide)) (ed_shown (d := .lst (toldD xs' pps' bx')) (ed_op (ed_cb (ad_cons (ed_var rfl) ad_nil) rca_listOf) (ed_lst (ad_cons (Ed.to (ed_sub (ed_lenT (ed_ixT (ed_var rfl) ed_int rfl)) ed_int) (congrArg D.int lxm))
      (ad_cons (ed_call (ad_cons (ed_var rfl) ad_nil) ⟨xs', pps', bx', rfl, hok, rfl⟩) (ad_cons ed_bl ad_nil))) (by show 3 ≤ 100000; decide)) (rop_catL (by show 3 + 3 ≤ 100000; decide))) ⟨_, rfl⟩ (sw_told hok) (by decide) (by decide)) rop_neS)) (by rw [decide_eq_true rfl]; rfl)) (fun h _ _ => by cases h) fun _ H16 a16 => ?_
    exact fin a16 rfl
end
end K10
set_option Elab.async false
set_option linter.all false
set_option maxRecDepth 100000
set_option maxHeartbeats 4000000
/-! _law_cup; defs that run where nothing is being shown. -/
namespace K10
open PySem PySem.Spec PyProof.Rows L2 StX RZ
abbrev s__law_cup : Stmt := top 69
abbrev N__law_cup : List PySem.Str := ["_law_cells", "_law_k", "_law_cell", "_law_mixed", "_law_each"]
theorem sc__law_cup : FnScope N__law_cup ["_law_cells", "_law_k"] (defScope s__law_cup) := ⟨rfl, rfl, rfl, by decide +kernel, rfl, by decide +kernel, by decide +kernel⟩
/-- a def of the top, its promise in the raw -/
theorem fx_raw {W : Wd} {x : PySem.Str} {j k : Nat} {N ps : List PySem.Str} {sp : Sp} (D : DefP W x j) (S : FnScope N ps (defScope (top j)))
    (hb : ∀ (kV doc pm : Value) (an : Option Addr) (cdv ct : Value) (us : List Value), us.length = ps.length → bindArgs (PySem.W.fnOf x x (defArgs (top j)) (defBody (top j)) (defScope (top j)) .none kV doc pm an cdv ct) ⟨us, []⟩ = pure (ps.zip us))
    (len : ∀ vs H Q E, sp vs H Q E → vs.length = ps.length)
    (body : ∀ (f : Addr) (cdv : Value) (A : Around) (outer : List Env) (s : Shared) (H : Hp) (E : XK) (vs : List V) (Q : VK), Room k (A.deeper (envOfC x (defScope (top j)) s.heap.objs.size f cdv)) → sp vs H Q E →
      ∃ t, PSs (cxOf CX0 W.P W.w W.K W.mg W.base N x (defScope (top j)) f cdv A outer s H E) (defBody (top j)) t ∧ t { nx := fun _ H' => Q .non H', rt := Q } (L2.start N vs) H) : Fx W CX0 (k + 1) x ps sp := by
  obtain ⟨f, fd, F, g⟩ := D
  exact ⟨f, fd, F.ok S len (fun cdv A outer s H vs Q E hr h => body f cdv A outer s H E vs Q hr h), F.bindsN hb, g, F.kp⟩
theorem pe_fx {X : Cx} {C : Addr} {k : Nat} {x : PySem.Str} {ps : List PySem.Str} {sp : Sp} {p pos : Pos} {e : Expr} {es : List Expr} {t : TA} (F : Fx (wdOf X C) CX0 k x ps sp) (hr : Room k X.A) (ha : PA X (e :: es) t) (hg : Gl X x := by rfl)
    (hdb : (x == ("__debug__" : Str)) = false := by decide) (he : starEach (e :: es) X.env = (false, eval e X.env) :: starEach es X.env := by rfl) (hpl : (backTo pos (starEach es X.env)).any (·.1) = false := by rfl) :
    PE X (.Call (.Name x p) (e :: es) [] pos) (tCall sp [] E0 t) := by
  obtain ⟨f, fd, G, b, m, kp⟩ := F
  exact pe_call G hr hg m kp b .nil pass0 ha hdb he hpl
/-- the cup: a new list of three ints -/
def spCup (K : PySem.W.Frag) : Sp := fun vs H Q _ => ∃ (a : Addr) (ns : List Int) (k : Nat), vs = [.ref a, .int k] ∧ SqL K H a (ns.map V.int) ∧ k ≤ 10 ∧ ns.length ≤ 100 ∧ ∀ cup H', H cup = none → CupAt H' cup → (∀ b o, H b = some o → H' b = some o) → Q (.ref cup) H'
section
variable {p : Pm} {δ : Sl} {te ta tb : TE}
theorem ed_p18 : Ed p (tOp (rI CPow fun i j => .int (i ^ j.toNat)) (tC (.int 10)) (tC (.int 18))) δ (.int 1000000000000000000) := ed_op ed_int ed_int ((rop_I (g := fun i j => i ^ j.toNat) ⟨by decide, by decide, by decide⟩).imp fun d e => by rw [e]; rfl)
end
theorem cut_ints {ns : List Int} {lo hi : Option Int} {d : D} (h : d ∈ cutD (ns.map D.int) lo hi) : ∃ i, d = .int i := by
  unfold cutD at h
  have h2 := List.mem_of_mem_drop (List.mem_of_mem_take h)
  obtain ⟨i, _, e⟩ := List.mem_map.mp h2
  exact ⟨i, e.symm⟩
section
variable {W : Wd}
theorem ok__law_cup (T : Fr W.mg) (hD : DefP W "_law_cup" 69) : Fx W CX0 2 "_law_cup" ["_law_cells", "_law_k"] (spCup W.K) := by
  have nd := sc__law_cup.nd
  refine fx_raw hD sc__law_cup (fun _ _ _ _ _ _ us hl => match us, hl with | [_, _], _ => rfl) (fun vs H Q E h => by obtain ⟨_, _, _, e, _⟩ := h; rw [e]; rfl) fun f cdv A outer s H E vs Q hr h => ?_
  refine ⟨_, PSs.nox (pss_cons (ps_set (i := 2) nd rfl (by first | exact Or.inl rfl | exact Or.inr rfl) (pe_ifExp (pt_cmpR op_lt (pv 1) (pe_callB call_len_seq rfl T.n_len (by decide +kernel) (pa_cons (pv 0) pa_nil)) (nomark _)) (pe_callTy call_int1 rfl T.n_int (by decide +kernel) (pa_cons (pe_ix ix_list (pv 0) (pv 1) (fun _ _ => rfl)) pa_nil)) (pe_op op_add (pe_op op_mulW pe_int (pv 1)) pe_int)))
      (pss_cons (ps_set (i := 3) nd rfl (by first | exact Or.inl rfl | exact Or.inr rfl) (pe_op op_add pe_int (pe_op op_mulW pe_int (pv 1))))
      (pss_cons (ps_for PassesOwn.never rfl (pi_list (pe_op op_cat (pe_slice sl_list (pv 0) po_none (po_some pe_int)) (pe_lst (pa_cons (pv 2) pa_nil)))) (pg_name (i := 4) nd rfl (by first | exact Or.inl rfl | exact Or.inr rfl)) (pss_one (ps_set (i := 3) nd rfl (by first | exact Or.inl rfl | exact Or.inr rfl) (pe_op op_mod (pe_callTy call_int1 rfl T.n_int (by decide +kernel) (pa_cons (pe_op op_add (pe_op op_mulW (pv 3) pe_int) (pe_callTy call_int1 rfl T.n_int (by decide +kernel) (pa_cons (pv 4) pa_nil))) pa_nil)) pe_int))))
      (pss_one (ps_ret (pe_lst (pa_cons (pe_ifExp (PW.pt (pw_or (pt_cmpR op_lt (pv 2) pe_int (nomark _)) (pw_or1 (pt_cmpR op_ge (pv 2) (pe_op op_pow pe_int pe_int) (nomark _))))) (pe_callB call_abs rfl T.n_abs (by decide +kernel) (pa_cons (pv 2) pa_nil)) pe_int) (pa_cons (pv 3) (pa_cons pe_int pa_nil))))))))), ?_⟩
  obtain ⟨a, ns, k, rfl, hS, hk, hn, q⟩ := h
  have a0 : At ⟨W.K, W.C, none, none⟩ ⟨H, H, H⟩ (startD N__law_cup [.scr ns, .int k]) (L2.start N__law_cup [.ref a, .int k]) H := At.begin (Same.refl H) (fun a e => by cases e) (.cons (.scr hS) (.cons (.int _) .nil))
  refine q_asg (P := fun d => ∃ i, d = .int i) a0 (en_if (T := (· = decide ((k : Int) < (ns.length : Int)))) (td_test (ed_lt (ed_var rfl) (ed_cb (ad_cons (ed_var rfl) ad_nil) rca_lenR))) (fun e => ?_) fun e => ?_) fun d σ1 H1 hd a1 => ?_
  · have hlt : (k : Int) < (ns.length : Int) := of_decide_eq_true e.symm
    have hlt2 : k < ns.length := by omega
    refine En.of (ed_cb (ad_cons (ed_op (ed_var rfl) (ed_var rfl) (rop_ixR (k := ns[k]) ?_)) ad_nil) rca_int) ⟨_, rfl⟩
    show (ixN ns.length (k : Int)).bind (fun j => ns[j]?) = some ns[k]
    have e3 : ixN ns.length (k : Int) = some k := by
      unfold ixN
      rw [if_pos (by omega), if_pos (by omega)]
      rfl
    rw [e3]
    exact List.getElem?_eq_getElem hlt2
  · exact En.of (ed_add (ed_mul (a := 20) (b := 20) (by decide) (show (k : Int).natAbs < 2 ^ 20 by omega) ed_int (ed_var rfl)) ed_int) ⟨_, rfl⟩
  obtain ⟨cell, rfl⟩ := hd
  refine q_set a1 (ed_add ed_int (ed_mul (a := 20) (b := 20) (by decide) (show (k : Int).natAbs < 2 ^ 20 by omega) ed_int (ed_var rfl))) fun σ2 H2 a2 => ?_
  refine q_forL (xs := cutD (ns.map D.int) none (some 5) ++ [.int cell]) a2 (ed_op (ed_slR (ed_var rfl) od_none (od_some ed_int)) (ed_lst (ad_cons (ed_var rfl) ad_nil)) (rop_catL ?_))
    (fun _ δ m => m = none ∧ ∃ (x : Int) (o4 : Option D), 0 ≤ x ∧ x < 2147482951 ∧ δ = [some (.scr ns), some (.int k), some (.int cell), some (.int x), o4]) ⟨rfl, _, none, by omega, by omega, rfl⟩ ?_ ?_
  · have h1 : (cutD (ns.map D.int) none (some 5)).length ≤ (ns.map D.int).length := by
      unfold cutD
      rw [List.length_take, List.length_drop]
      omega
    rw [List.length_map] at h1
    show _ + 1 ≤ _
    omega
  · rintro b i y δ m σ3 H3 hy ⟨rfl, x, o4, x0, x1, rfl⟩ a3
    obtain ⟨j, rfl⟩ : ∃ j, y = .int j := by
      rcases List.mem_append.mp (List.mem_of_getElem? hy) with h | h
      · exact cut_ints h
      · exact ⟨_, List.mem_singleton.mp h⟩
    refine x_set a3 (ed_mod (by decide) (ed_cb (ad_cons (ed_add (ed_mul (a := 40) (b := 20) (show x.natAbs < 2 ^ 40 by omega) (by decide) (ed_var rfl) ed_int) (ed_cb (ad_cons (ed_var rfl) ad_nil) rca_int)) ad_nil) rca_int) ed_int) fun σ4 H4 a4 => ?_
    exact ⟨_, none, ⟨rfl, _, _, Int.emod_nonneg _ (by decide), Int.emod_lt_of_pos _ (by decide), rfl⟩, a4⟩
  · rintro δ m σ3 H3 ⟨rfl, x, o4, x0, x1, rfl⟩ a3
    have fin : ∀ (vs : List V) (G' H' : Hp), Stp none H H G' H' → (∃ a' : Int, 0 ≤ a' ∧ vs = [.int a', .int x, .int 0]) → vs.length ≤ sizeLine ∧ ∀ l, H' l = none → Q (.ref l) (upd H' l (.lst vs)) := fun vs G' H' st ⟨a', ha, e⟩ => by
      subst e
      refine ⟨by show 3 ≤ sizeLine; decide, fun l hl => q l _ (st.freeC hl (by simp)) ⟨a', x, 0, upd_same, ha, x0, x1, Int.le_refl 0⟩ fun b o hb => ?_⟩
      have hb2 := st.keep b o (by simp) hb
      rw [upd_ne (ne_of_none hb2 hl)]
      exact hb2
    refine a3.runA (R := fun ds => ∃ a' : Int, 0 ≤ a' ∧ ds = [.int a', .int x, .int 0]) (an_cons (P := fun d => ∃ a' : Int, 0 ≤ a' ∧ d = .int a') (R := (· = [.int x, .int 0])) (en_if (T := fun _ => True) ?_ (fun _ => En.of (ed_cb (ad_cons (ed_var (i := 2) (d := .int cell) rfl) ad_nil) rca_absN) ⟨(cell.natAbs : Int), by omega, rfl⟩) fun _ => En.of ed_int ⟨0, Int.le_refl 0, rfl⟩) (fun _ _ => ad_cons (ed_var (i := 3) rfl) (ad_cons ed_int ad_nil)) fun d ds ⟨a', h0, e⟩ e2 => ⟨a', h0, by rw [e, e2]⟩)
      fun vs ds G' H' st sb sd rc rm da ⟨a', h0, e⟩ => fin vs G' H' st ⟨a', h0, ?_⟩
    · exact Tn.imp (td_or (td_test (ed_lt (ed_var rfl) ed_int)) fun _ => td_test (ed_ge (ed_var rfl) ed_p18)) fun _ _ => trivial
    · subst e
      cases da with
      | cons d1 da =>
        cases da with
        | cons d2 da =>
          cases da with
          | cons d3 da =>
            cases da
            cases d1
            cases d2
            cases d3
            rfl
end
end K10
set_option Elab.async false
set_option linter.all false
set_option maxRecDepth 100000
set_option maxHeartbeats 4000000
/-! _law_right as a def, law. -/
namespace K10
open PySem PySem.Spec PyProof.Rows L2 StX RZ
abbrev SpG := List V → Hp → VK → Prop
/-- a def that is run where nothing is being shown -/
structure FnG (W : Wd) (k : Nat) (f : Addr) (fd : FuncData) (ps : List PySem.Str) (sp : SpG) : Prop where
  len : ∀ vs H Q, sp vs H Q → vs.length = ps.length
  run : ∀ (A : Around) (outer : List Env) (s : Shared) (H : Hp) (args : Args) (us : List Value) (vs : List V) (Q : VK), A.guards = some [] → Room k A → Env0 W.P W.w W.K W.mg W.base A outer s H → BindsTo s fd args (ps.zip us) → Vals vs us → sp vs H Q →
    codeAny (model W.P W.w) A (.call (.ref f) args) (CR CX0 outer W.P W.w H s Q E0) s
/-- x holds it; its code is c -/
def Fg (W : Wd) (k : Nat) (x : PySem.Str) (ps : List PySem.Str) (sp : SpG) : Prop := ∃ f fd, FnG W k f fd ps sp ∧ Binds W.K fd ps [] ∧ W.mg x = some (.ref f) ∧ PySem.W.keepIn W.K (.ref f) = true
def DefC (W : Wd) (x : PySem.Str) (j : Nat) (c : Addr) (f : Addr) (fd : FuncData) : Prop := FunD W.K x x (defArgs (top j)) (defBody (top j)) (defScope (top j)) [] [] f fd ∧ W.mg x = some (.ref f) ∧ fd.code = .ref c
theorem fg_run {W : Wd} {x : PySem.Str} {j k : Nat} {c f : Addr} {fd : FuncData} {N ps : List PySem.Str} {sp : SpG} (D : DefC W x j c f fd) (S : FnScope N ps (defScope (top j))) (len : ∀ vs H Q, sp vs H Q → vs.length = ps.length)
    (body : ∀ (A : Around) (outer : List Env) (s : Shared) (H : Hp) (vs : List V) (Q : VK), A.guards = some [] → Room k (A.deeper (envOfC x (defScope (top j)) s.heap.objs.size f (.ref c))) → sp vs H Q →
      ∃ t, PSs (cxOf CX0 W.P W.w W.K W.mg W.base N x (defScope (top j)) f (.ref c) A outer s H E0) (defBody (top j)) t ∧ t { nx := fun _ H' => Q .non H', rt := Q } (L2.start N vs) H) : FnG W (k + 1) f fd ps sp := by
  obtain ⟨F, g, hc⟩ := D
  obtain ⟨oc, od, dV, kV, doc, pm, an, cdv, ct, osl, rfl, lk, hcd, _, _⟩ := F.ex
  have hc2 : cdv = .ref c := hc
  subst hc2
  exact ⟨len, fun A outer s H args us vs Q hg hr e0 hb r h => LamX.run_ofS (N := N) lk hcd S hr e0 hb r (len _ _ _ h) fun hr2 => body A outer s H vs Q hg hr2 h⟩
theorem pe_cg {X : Cx} {C : Addr} {k : Nat} {x : PySem.Str} {ps : List PySem.Str} {sp : SpG} {q pos : Pos} {e : Expr} {es : List Expr} {t : TA} (F : Fg (wdOf X C) k x ps sp) (hgd : X.A.guards = some []) (hr : Room k X.A) (ha : PA X (e :: es) t) (hg : Gl X x := by rfl)
    (hdb : (x == ("__debug__" : Str)) = false := by decide) (he : starEach (e :: es) X.env = (false, eval e X.env) :: starEach es X.env := by rfl) (hpl : (backTo pos (starEach es X.env)).any (·.1) = false := by rfl) :
    PE X (.Call (.Name x q) (e :: es) [] pos) (fun σ H Q => t σ H fun vs H1 => sp vs H1 Q) := by
  obtain ⟨f, fd, F, hb, hm, hk⟩ := F
  refine ⟨fun pins s σ H Q I h => wpAny_Call_Name_kw (ld_glob I hg hm ?_ hdb)⟩
  refine PySem.W.callWith_K (h₀ := X.base) I.ok.mod.kin hk (thn (ha.run pos pins s σ H _ I h) fun us s1 hh => ?_) he hpl
  obtain ⟨vs, H1, I1, r, w⟩ := hh
  refine ⟨I1.kIn, ?_⟩
  have hl : us.length = ps.length := by rw [← r.length]; exact F.len _ _ _ w
  have b := hb s1 us I1.kIn (by rw [List.append_nil]; exact hl)
  rw [List.append_nil] at b
  refine wpAny_call (codeAny_mono (F.run X.A X.stack s1 H1 ⟨us, []⟩ us vs Q hgd hr I1.env0 b r w) fun rr s' hq => ?_)
  cases rr with
  | error e => exact hq.elim
  | ok fl =>
    cases fl with
    | ret u => exact I1.after hq
    | next => exact False.elim hq
    | brk => exact False.elim hq
    | cont => exact False.elim hq
/-- what _law_right does: the cup is written, the table of lambdas -/
def spRight (P : Addr) : SpG := fun vs H Q => ∃ cup, vs = [.ref cup] ∧ CupAt H cup ∧ LamX.Tabs (tabs P) H ∧ ∀ H', (∀ b o, H b = some o → b ≠ cup → (∀ ps, o ≠ .tbl ps) → H' b = some o) → LamX.Tabs (tabs P) H' → Q (.bl true) H'
/-- .. law -/
def spLaw (K : PySem.W.Frag) (P : Addr) : SpG := fun vs H Q => ∃ (a : Addr) (ns : List Int), vs = [.ref a] ∧ SqL K H a (ns.map V.int) ∧ ns.length ≤ 63 ∧ LamX.Tabs (tabs P) H ∧ ∀ H', Q (.bl true) H'
section
variable {W : Wd} {x : Xc}
theorem ok__law_right {kt : KT W x} {c P f : Addr} {fd : FuncData} (F : RtF W x kt c P) (D : DefC W "_law_right" 101 c f fd) : Fg W 61 "_law_right" ["_law_cup_here"] (spRight P) := by
  refine ⟨f, fd, fg_run D sc__law_right (fun vs H Q h => by obtain ⟨_, e, _⟩ := h; rw [e]; rfl) (fun A outer s H vs Q hg hr h => ?_), D.1.bindsN (fun _ _ _ _ _ _ us hl => match us, hl with | [_], _ => rfl), D.2.1, D.1.kp⟩
  obtain ⟨cup, rfl, hc, hT, hQ⟩ := h
  obtain ⟨t, ht, k⟩ := right_body F (f := f) (outer := outer) (H0 := H) hg hr (by have h1 : A.units + 3 + 16 * 60 + 200 < cLine := hr.un; omega)
  exact ⟨t, ht, k cup H Q hc hT hQ⟩
theorem ret_cb1 {r : List V → Hp → VK → Prop} {te : TE} {D' : Ends} {σ : L2.St} {H : Hp} (h : te σ H fun v H1 => r [v] H1 D'.rt) : tRet (tCB r (tCons te tNil)) D' σ H := h
abbrev s_law : Stmt := top 102
abbrev N_law : List PySem.Str := ["_law_cells", "_law_k"]
theorem sc_law : FnScope N_law ["_law_cells"] (defScope s_law) := ⟨rfl, rfl, rfl, by decide +kernel, rfl, by decide +kernel, by decide +kernel⟩
theorem ok_law (T : Fr W.mg) {c P f : Addr} {fd : FuncData} (fR : Fg W 61 "_law_right" ["_law_cup_here"] (spRight P)) (fC : Fx W CX0 2 "_law_cup" ["_law_cells", "_law_k"] (spCup W.K)) (D : DefC W "law" 102 c f fd) : FnG W 63 f fd ["_law_cells"] (spLaw W.K P) := by
  have nd := sc_law.nd
  refine fg_run D sc_law (fun vs H Q h => by obtain ⟨_, _, e, _⟩ := h; rw [e]; rfl) fun A outer s H vs Q hgd hr h => ?_
  refine ⟨_, PSs.nox (pss_one (ps_ret (pe_callB (cr_all rfl) rfl T.n_all (by decide +kernel) (pa_cons (pe_lc (own := [("_law_k", 1)]) (g := gName 1) (te := (fun σ H Q => (tCons (tCall (spCup W.K) [] E0 (tCons (tVar 0) (tCons (tVar 1) tNil))) tNil) σ H fun vs H1 => spRight P vs H1 Q)) (tt := tYes) rfl nd (pi_range1 rfl T.n_range (pa_cons (pe_callB (call_max2 rfl) rfl T.n_max (by decide +kernel) (pa_cons pe_int (pa_cons (pe_callB (call_min2 rfl) rfl T.n_min (by decide +kernel) (pa_cons (pe_callB call_len_seq rfl T.n_len (by decide +kernel) (pa_cons (pv 0) pa_nil)) (pa_cons pe_int pa_nil))) pa_nil))) pa_nil)) (blkOk_by (own := [("_law_k", 1)]) (N := N_law) (sc := defScope s_law) (by decide +kernel)) (fun _ _ _ _ _ => (pg_name (i := 1) nd rfl (by first | exact Or.inl rfl | exact Or.inr rfl))) (fun _ _ _ _ _ => pts_nil) (fun _ _ _ _ _ => (pe_cg (X := Cx.blk _ _ _ _ _ _) fR hgd (hr.mono (by omega)) (pa_cons (pe_fx fC (hr.mono (by omega)) (pa_cons (pv 0) (pa_cons (pv 1) pa_nil))) pa_nil)))) pa_nil)))), ?_⟩
  obtain ⟨a, ns, rfl, hS, hn, hT, hQ⟩ := h
  have a0 : At ⟨W.K, W.C, none, none⟩ ⟨H, H, H⟩ (startD N_law [.scr ns]) (L2.start N_law [.ref a]) H := At.begin (Same.refl H) (fun a e => by cases e) (.cons (.scr hS) .nil)
  have hA : Ad ⟨W.K, W.C, none, none⟩ _ (startD N_law [.scr ns]) _ := ad_cons (ed_cb (ad_cons (ed_int (i := 2)) (ad_cons (ed_cb (ad_cons (ed_cb (ad_cons (ed_var (i := 0) (d := .scr ns) rfl) ad_nil) rca_lenR) (ad_cons (ed_int (i := 6)) ad_nil)) rca_min) ad_nil)) rca_max) ad_nil
  obtain ⟨n, hn0, hn1, hn2⟩ : ∃ n : Int, n = (if (if (6 : Int) < (ns.length : Int) then (6 : Int) else (ns.length : Int)) > 2 then (if (6 : Int) < (ns.length : Int) then (6 : Int) else (ns.length : Int)) else 2) ∧ 2 ≤ n ∧ n ≤ 6 := by
    refine ⟨_, rfl, ?_, ?_⟩
    · split <;> omega
    · split
      · split <;> omega
      · omega
  refine ret_cb1 ?_
  unfold tLc iRng1
  refine a0.runA hA fun vs ds G1 H1 st sb sd rc rm da pd => ?_
  rw [← hn0] at pd
  subst pd
  cases da with
  | cons d1 da =>
    cases da
    cases d1
    refine ⟨n, rfl, by omega, by omega, fun Dl hDl => ?_⟩
    have hT1 : LamX.Tabs (tabs P) H1 := hT.ext fun b o e => st.keep b o (by simp) e
    have hS1 : SqL W.K H1 a (ns.map V.int) := sqL_ext (fun b o e _ => st.keep b o (by simp) e) hS
    refine lc_range (lo := 0) (n := n.toNat) (g := gName 1) (tt := tYes) (te := fun σ H Q => (tCons (tCall (spCup W.K) [] E0 (tCons (tVar 0) (tCons (tVar 1) tNil))) tNil) σ H fun vs H1 => spRight P vs H1 Q) (vs := [1]) (σ := L2.start N_law [.ref a]) (Qd := fun H' => rAll W.K [.ref Dl] H' Q) (fun i H' => H' Dl = some (.lst (List.replicate i (.bl true))) ∧ LamX.Tabs (tabs P) H' ∧ LamX.ExtN H1 H') ⟨upd_same, hT1.ext fun b o e => by rw [upd_ne (ne_of_none e hDl)]; exact e, fun b o e _ => by rw [upd_ne (ne_of_none e hDl)]; exact e⟩ (fun i H' hi ⟨h1, h2, h3⟩ => ?_) fun H' ⟨h1, h2, h3⟩ => ?_
    · show L2.wipe ((L2.wipe (L2.start N_law [.ref a]) [1]).set 1 (some (.int ((0 : Int) + (i : Int))))) [1] = L2.wipe (L2.start N_law [.ref a]) [1] ∧ _
      refine ⟨wipe_set (by decide), ?_⟩
      refine ⟨.ref a, rfl, .int _, rfl, a, ns, i, by rw [Int.zero_add]; rfl, sqL_ext h3 hS1, by omega, by omega, fun cup H2 hc1 hcup kp => ?_⟩
      refine ⟨cup, rfl, hcup, h2.ext kp, fun H3 k3 hT3 => ?_⟩
      have e3 : LamX.ExtN H' H3 := fun b o e m => k3 b o (kp b o e) (ne_of_none e hc1) m
      have hD3 : H3 Dl = some (.lst (List.replicate i (.bl true))) := e3 _ _ h1 fun ps z => by cases z
      refine ⟨_, hD3, by rw [List.length_replicate]; exact Nat.lt_of_lt_of_le (show i < 10 by omega) (by decide), ?_, tabs_keepL hT3 ⟨_, hD3⟩ fun b o hb e => by rw [upd_ne hb]; exact e, fun b o e m => ?_⟩
      · rw [upd_same, List.replicate_succ']
      · rw [upd_ne (ne_of_none e hDl)]
        exact e3 b o (h3 b o e m) m
    · refine ⟨Dl, List.replicate n.toNat true, rfl, SqL.of (by rw [List.map_replicate]; exact h1), ?_⟩
      have ea : (List.replicate n.toNat true).all id = true := List.all_eq_true.mpr fun b hb => (List.mem_replicate.mp hb).2
      rw [ea]
      exact hQ H'
end
end K10
set_option Elab.async false
set_option linter.all false
set_option maxRecDepth 100000
set_option maxHeartbeats 0
/-! What the head leaves: the facts that the walk leans on. -/
namespace K10
open PySem PySem.Spec PyProof.Rows L2 StX RZ
theorem clsR_ok {K : PySem.W.Frag} {C : Addr} {newId : String} {P : List Value → Bool} (h : clsR K C newId P = true) :
    ∃ nm q N bs bm sn sub ab col dd k0 k1 k2 k3 k5, K.lookup C = some (excClassObj nm q C N bs bm true sn sub ab col dd k0 k1 k2 k3 k5 newId) ∧ P bm = true := by
  unfold clsR at h
  split at h
  · cases h
  · rename_i o ho
    split at h
    · rename_i dd z w
      obtain ⟨h1, h⟩ := He.ba h
      obtain ⟨h2, h⟩ := He.ba h
      split at h
      · rename_i a rest k0 k1 k2 k3 b k5 hm hs
        obtain ⟨h3, h⟩ := He.ba h
        obtain ⟨h4, h5⟩ := He.ba h
        obtain ⟨nm, bs, mro, ns, qn, hd, sn, sub, ab, col, del⟩ := z
        dsimp only at hm h1 h2
        have e3 : a = C := beq_iff_eq.mp h3
        have e4 : b = newId := beq_iff_eq.mp h4
        have e2 : del = false := by simpa using h2
        have ew : w = #[k0, k1, k2, k3, some (.builtin b), k5] := by
          obtain ⟨l⟩ := w
          have : l = [k0, k1, k2, k3, some (.builtin b), k5] := hs
          rw [this]
        subst e3 e4 e2 ew hm h1
        exact ⟨nm, qn, ns, bs, rest, sn, sub, ab, col, dd, k0, k1, k2, k3, k5, ho, h5⟩
      · cases h
    · cases h

/-! ### the errors' classes -/
def xOf (K : PySem.W.Frag) : Xc := ⟨He.ga K "InvalidNumbers", fI K "InvalidNumbers", He.ga K "InvalidParts", fI K "InvalidParts", He.ga K "InvalidBox", fI K "InvalidBox", He.ga K "NotHigh", fI K "NotHigh"⟩
theorem oB_ok {a : Option Bool} {b : Bool} (h : oB a b = true) : a = some b := of_decide_eq_true h
theorem oV_ok {a : Option Value} {v : Value} (h : oV a v = true) : a = some v := of_decide_eq_true h
theorem ixB_ok {K : PySem.W.Frag} {mg : PySem.Str → Option Value} {cn cq : PySem.Str} {j : Nat} {fd : FuncData} (h : ixB K cn = true) (g : mg cn = some (.ref (He.ga K cn))) (hN : (cn == ("__debug__" : PySem.Str)) = false) (F : FunD K "__init__" cq (defArgs (inClass (top j) 0)) (defBody (inClass (top j) 0)) (defScope (inClass (top j) 0)) [] [] (fI K cn) fd)
    (e : ∃ p1 p2 q1 q2 q3 q4, defArgs (inClass (top j) 0) = PySem.IxX.iA p1 p2 ∧ defBody (inClass (top j) 0) = PySem.IxX.iB q1 q2 q3 q4 ∧ defScope (inClass (top j) 0) = PySem.IxX.iS) : PySem.IxX.IxTxt K mg cn cq (He.ga K cn) (fI K cn) := by
  obtain ⟨h1, h⟩ := He.ba h
  obtain ⟨h2, h⟩ := He.ba h
  obtain ⟨h3, h⟩ := He.ba h
  obtain ⟨h4, h⟩ := He.ba h
  obtain ⟨h5, h⟩ := He.ba h
  obtain ⟨h6, h⟩ := He.ba h
  obtain ⟨h7, h⟩ := He.ba h
  obtain ⟨h8, h⟩ := He.ba h
  obtain ⟨h9, h⟩ := He.ba h
  obtain ⟨ha, h⟩ := He.ba h
  obtain ⟨hb, hc⟩ := He.ba h
  obtain ⟨p1, p2, q1, q2, q3, q4, e1, e2, e3⟩ := e
  obtain ⟨oc, od, dV, kV, doc, pm, an, cdv, ct, osl, rfl, lk, hcd, hD, _⟩ := F.ex
  have hdV : dV = .none := by
    rcases hD with ⟨_, e⟩ | ⟨z, _⟩
    · exact e
    · exact absurd rfl z
  subst hdV
  rw [e1, e2, e3] at lk
  exact ⟨g, hN, clsR_ok h1, He.eqO_ok h2, He.eqO_ok h3, He.eqO_ok h4, He.eqO_ok h5, He.eqO_ok h6, oV_ok h7, h8, oB_ok h9, oV_ok ha, hb, oB_ok hc, oc, od, kV, doc, pm, an, cdv, ct, osl, p1, p2, q1, q2, q3, q4, lk, hcd⟩
theorem noB_ok {K : PySem.W.Frag} {mg : PySem.Str → Option Value} {cn cq : PySem.Str} {j : Nat} {fd : FuncData} (h : noB K cn = true) (g : mg cn = some (.ref (He.ga K cn))) (hN : (cn == ("__debug__" : PySem.Str)) = false) (F : FunD K "__init__" cq (defArgs (inClass (top j) 0)) (defBody (inClass (top j) 0)) (defScope (inClass (top j) 0)) [] [] (fI K cn) fd)
    (e : ∃ p1 q1, defArgs (inClass (top j) 0) = { posonlyargs := [], args := [{ arg := "self", annotation := none, pos := p1 }], vararg := none, kwonlyargs := [], kw_defaults := [], kwarg := none, defaults := [] } ∧ defBody (inClass (top j) 0) = [.Pass q1] ∧ defScope (inClass (top j) 0) = { kind := .function, names := [(PySem.Str.ofString "self", .local)], isGenerator := false, isCoroutine := false, more := [] }) :
    PySem.IxX.NoTxt K mg cn cq (He.ga K cn) (fI K cn) := by
  obtain ⟨h1, h⟩ := He.ba h
  obtain ⟨h2, h⟩ := He.ba h
  obtain ⟨h3, h⟩ := He.ba h
  obtain ⟨h4, h⟩ := He.ba h
  obtain ⟨h5, h6⟩ := He.ba h
  obtain ⟨p1, q1, e1, e2, e3⟩ := e
  obtain ⟨oc, od, dV, kV, doc, pm, an, cdv, ct, osl, rfl, lk, hcd, hD, _⟩ := F.ex
  have hdV : dV = .none := by
    rcases hD with ⟨_, e⟩ | ⟨z, _⟩
    · exact e
    · exact absurd rfl z
  subst hdV
  rw [e1, e2, e3] at lk
  obtain ⟨nm, q, N, bs, bm, sn, sub, ab, col, dd, k0, k1, k2, k3, k5, hC, hP⟩ := clsR_ok h1
  obtain ⟨r, rfl⟩ : ∃ r, bm = .ref r :: PySem.IxX.aTail := by
    unfold noTail at hP
    split at hP
    · rename_i r l
      exact ⟨r, by rw [beq_iff_eq.mp hP]⟩
    · cases hP
  exact ⟨g, hN, ⟨nm, q, N, bs, r, sn, sub, ab, col, dd, k0, k1, k2, k3, k5, hC⟩, He.eqO_ok h2, oV_ok h3, h4, oB_ok h5, oV_ok h6, oc, od, kV, doc, pm, an, cdv, ct, osl, p1, q1, lk, hcd⟩
theorem ecB_ok {K : PySem.W.Frag} {D : Addr} (h : ecB K D = true) : ExcC K D := by
  obtain ⟨h1, h⟩ := He.ba h
  obtain ⟨h2, h⟩ := He.ba h
  obtain ⟨h3, h⟩ := He.ba h
  obtain ⟨h4, h⟩ := He.ba h
  obtain ⟨h5, h⟩ := He.ba h
  obtain ⟨h6, h⟩ := He.ba h
  obtain ⟨h7, h8⟩ := He.ba h
  exact ⟨He.eqO_ok h1, He.eqO_ok h2, oB_ok h3, h4, He.eqO_ok h5, He.eqO_ok h6, oB_ok h7, oB_ok h8⟩
def erQ (er : Er) : PySem.Str × PySem.Str × Bool := (er.nm, er.up, er.isLow)
theorem erB_all {K : PySem.W.Frag} (h : erL.all (erB K) = true) (er : Er) : erB K (erQ er) = true := by
  have h2 := List.all_eq_true.mp h
  cases er with
  | numbers d => exact h2 ("InvalidNumbers", "BadValue", false) (by unfold erL; simp)
  | parts d => exact h2 ("InvalidParts", "BadValue", false) (by unfold erL; simp)
  | box d => exact h2 ("InvalidBox", "BadValue", false) (by unfold erL; simp)
  | low => exact h2 ("NotHigh", "NoAnswer", true) (by unfold erL; simp)
theorem cls_ga {K : PySem.W.Frag} (er : Er) : er.cls (xOf K) = He.ga K (erQ er).1 := by cases er <;> rfl
theorem kit_of {K : PySem.W.Frag} (h : erL.all (erB K) = true) (er : Er) : (∀ nm ∈ exNames, PySem.W.kitOne K (.ref (er.cls (xOf K))) (.ref (He.ga K nm)) = some (kb er nm)) ∧ PySem.W.kitOne K (.ref (er.cls (xOf K))) (.type "ValueError") = some (!er.isLow) ∧ PySem.W.kitOne K (.ref (er.cls (xOf K))) (.type "LookupError") = some false ∧
    PySem.W.kitOne K (.ref (er.cls (xOf K))) (.type "ArithmeticError") = some er.isLow ∧ ExcC K (er.cls (xOf K)) ∧ PySem.W.exmAny K (.ref (er.cls (xOf K))) [.ref (He.ga K "BadValue"), .ref (He.ga K "BadName"), .ref (He.ga K "NoAnswer")] = some true := by
  rw [cls_ga]
  obtain ⟨h1, h⟩ := He.ba (erB_all h er)
  obtain ⟨h2, h⟩ := He.ba h
  obtain ⟨h3, h⟩ := He.ba h
  obtain ⟨h4, h⟩ := He.ba h
  obtain ⟨h5, h6⟩ := He.ba h
  exact ⟨fun nm hn => oB_ok (List.all_eq_true.mp h1 nm hn), oB_ok h2, oB_ok h3, oB_ok h4, ecB_ok h5, oB_ok h6⟩
def kt_of {W : Wd} (hg : ∀ nm ∈ exNames, W.mg nm = some (.ref (He.ga W.K nm))) (h : erL.all (erB W.K) = true) : KT W (xOf W.K) where
  c := He.ga W.K
  g := hg
  kit := fun er nm hn => (kit_of h er).1 nm hn
  kV := fun er => (kit_of h er).2.1
  kL := fun er => (kit_of h er).2.2.1
  kA := fun er => (kit_of h er).2.2.2.1
  ec := fun er => (kit_of h er).2.2.2.2.1
theorem xm_of {W : Wd} (hg : ∀ nm ∈ exNames, W.mg nm = some (.ref (He.ga W.K nm))) (h : erL.all (erB W.K) = true) (er : Er) : PySem.W.exmAny W.K (.ref (er.cls (xOf W.K))) (ccs (kt_of hg h)) = some true := (kit_of h er).2.2.2.2.2
/-! ### the class of machines -/
theorem insB_ok {K : PySem.W.Frag} {C : Addr} (cl : Cls K C) (h : insB K C = true) : C8.InsC K C := by
  obtain ⟨h1, h⟩ := He.ba h
  obtain ⟨h2, h⟩ := He.ba h
  obtain ⟨h3, h⟩ := He.ba h
  obtain ⟨h4, h5⟩ := He.ba h
  exact ⟨cl, He.eqO_ok h1, He.eqO_ok h2, oB_ok h3, oB_ok h4, oB_ok h5⟩
theorem proB_ok {W : Wd} {q : PySem.Str × PySem.Str × Nat} (hC : W.C = He.ga W.K "Machine") (h : proB W.K q = true) (e : fnAt W.K (gA W.K q.1) = some (q.1, q.2.1, defArgs (mIn q.2.2), .stmts (defBody (mIn q.2.2)), defScope (mIn q.2.2), mainGlobals, [], builtinsNs)) : DefPr W q.1 q.2.1 q.2.2 := by
  obtain ⟨h1, h⟩ := He.ba h
  obtain ⟨h2, h⟩ := He.ba h
  obtain ⟨h3, h⟩ := He.ba h
  obtain ⟨h4, h⟩ := He.ba h
  obtain ⟨h5, h6⟩ := He.ba h
  have hr : ∃ rest, PySem.W.recIn W.K (pA W.K q.1) "property" = some (.ref (gA W.K q.1) :: rest) := by
    unfold gA
    split at h4
    · rename_i g rest hq
      exact ⟨rest, by rw [hq]⟩
    · cases h4
  unfold fnAt at e
  split at h6
  · rename_i oc od z sl hl
    rw [hl] at e
    obtain ⟨n1, n2, n3, n4, n5, n6, n7, n8, n9, n10, n11, n12, n13, n14, n15⟩ := z
    have e2 : (some (n1, n2, n3, n4, n5, n6, n7, n15) : He.FnW) = some (q.1, q.2.1, defArgs (mIn q.2.2), .stmts (defBody (mIn q.2.2)), defScope (mIn q.2.2), mainGlobals, [], builtinsNs) := e
    simp only [Option.some.injEq, Prod.mk.injEq] at e2
    obtain ⟨i1, i2, i3, i4, i5, i6, i7, i8⟩ := e2
    subst i1 i2 i3 i4 i5 i6 i7 i8
    obtain ⟨k1, k2⟩ := He.ba h6
    exact ⟨pA W.K q.1, gA W.K q.1, _, ⟨by rw [hC]; exact He.eqO_ok h1, He.eqO_ok h2, oB_ok h3, hr⟩, ⟨oc, od, n8, n9, n10, n11, n12, n13, n14, sl, rfl, hl, k1, He.dflB_ok k2, .inl rfl⟩, h5⟩
  · cases h6
/-! ### the Hook -/
/-- what the head says -/
structure SaysK (h : Heap) (K : PySem.W.Frag) : Prop where
  c : He.SaysD faL fnL K
  ex : exB K = true
  hd : PySem.W.codeHdIn K (He.cT K pR).1 (He.cT K pR).2 = true
  out : K.lookup (He.cT K pR).2 = none
  empty : h.get? (He.cT K pR).2 = some { cls := .none, data := .fields #[] }
  gs : (proL.map fun q => fnAt K (gA K q.1)) = valG
theorem saysK_of {h : Heap} (e : obsK h.get? = ((He.valD fnL, true), valG)) : SaysK h (frK h.get?) := by
  have e12 := congrArg (fun z : AlK => z.1.2) e
  obtain ⟨x1, x2⟩ := He.ba (show (exB (frK h.get?) && He.tabsB h.get? tfL (frK h.get?)) = true from e12)
  obtain ⟨y1, y2⟩ := He.ba (List.all_eq_true.mp x2 pR (List.mem_singleton.mpr rfl))
  obtain ⟨o, q, z⟩ : ∃ o, h.get? (He.cT (frK h.get?) pR).2 = some o ∧ He.emptyTab o = true := by
    revert y2
    cases h.get? (He.cT (frK h.get?) pR).2 with
    | none => exact fun y2 => by cases y2
    | some o => exact fun y2 => ⟨o, rfl, y2⟩
  exact ⟨congrArg (fun z : AlK => z.1.1) e, x1, y1, He.frT_none q z, by rw [q, He.emptyTab_eq z], congrArg (fun z : AlK => z.2) e⟩
def hookK : PySem.W.Hook where
  α := AlK
  obs := fun s => obsK s.heap.get?
  val := fun _ => ((He.valD fnL, true), valG)
  says := fun _ h => ∃ K : PySem.W.Frag, K.In h ∧ SaysK h K
  of := fun _ _ e => ⟨_, He.frT_in, saysK_of e⟩
  keeps := fun _ _ _ ⟨K, hK, y⟩ k => ⟨K, PySem.W.Frag.In.keeps hK k, ⟨y.c, y.ex, y.hd, y.out, k _ _ y.empty, y.gs⟩⟩
def obK (s : PySem.W.SharedT) : hookK.α := obsK (HandSHeadRun.getT s)
theorem obK_eq (s : PySem.W.SharedT) : obK s = hookK.obs s.abs := congrArg obsK (funext fun a => HandSHeadRun.getT_eq s a)
theorem map_two {α β γ : Type} {o : Option α} {f : α → β} {g : α → γ} {b : β} {c : γ} (h1 : o.map f = some b) (h2 : o.map g = some c) : o.map (fun s => (f s, g s)) = some (b, c) := by
  cases o with
  | none => cases h1
  | some s =>
    have e1 : f s = b := Option.some.inj h1
    have e2 : g s = c := Option.some.inj h2
    rw [← e1, ← e2]
    rfl
theorem runK (w : World) : HandSHeadRun.RunEq Rw qv hookK obK 20000 names w := by
  intro os
  have h := map_two (run_a w os) (map_two (run_b w os) (run_c w os))
  show (endK w os).map _ = _
  cases q : endK w os with
  | none =>
    rw [q] at h
    cases h
  | some s =>
    rw [q] at h
    have e := Option.some.inj h
    have e1 := congrArg (fun z => z.1.1) e
    have e2 := congrArg (fun z => z.1.2) e
    have e3 := congrArg (fun z => z.2.1) e
    have e4 := congrArg (fun z => z.2.2.1) e
    have e5 := congrArg (fun z => z.2.2.2) e
    exact congrArg some (Prod.ext e1 (Prod.ext e2 (Prod.ext (Prod.ext e3 e4) e5)))
end K10
set_option Elab.async false
set_option linter.all false
set_option maxRecDepth 100000
set_option maxHeartbeats 4000000
/-! From what the head says: law keeps its promise. -/
namespace K10
open PySem PySem.Spec PyProof.Rows L2 StX RZ
section
variable {K : PySem.W.Frag} {h0 : Heap} {h : Heap} {mg : PySem.Str → Option Value}
theorem fa_mem (y : SaysK h K) {f : He.Fa} (hf : f ∈ faL) : f.ok K = true := y.c.facts hf
theorem glo_def (X : K.In h0) (G : h0.Ns mainGlobals mg) (y : SaysK h K) {x : PySem.Str} {j : Nat} (hq : (x, j) ∈ usedDefs) : mg x = some (.ref (He.ga K x)) :=
  He.glo_ok X G (fa_mem y (f := .glo x) (List.mem_append_left _ (List.mem_append_left _ (List.mem_append_right _ (List.mem_map.mpr ⟨(x, j), hq, rfl⟩)))))
theorem glo_exc (X : K.In h0) (G : h0.Ns mainGlobals mg) (y : SaysK h K) {x : PySem.Str} (hq : x ∈ exNames) : mg x = some (.ref (He.ga K x)) :=
  He.glo_ok X G (fa_mem y (f := .glo x) (List.mem_append_left _ (List.mem_append_right _ (List.mem_map.mpr ⟨x, hq, rfl⟩))))
theorem free_nm (X : K.In h0) (G : h0.Ns mainGlobals mg) (y : SaysK h K) {x : PySem.Str} (hq : x ∈ freeNames) : mg x = none :=
  He.free_ok X G (fa_mem y (f := .free x) (List.mem_append_right _ (List.mem_map.mpr ⟨x, hq, rfl⟩)))
theorem fa_at (y : SaysK h K) {f : He.Fa} (i : Nat) (hf : faL[i]? = some f := by rfl) : f.ok K = true := fa_mem y (List.mem_of_getElem? hf)
theorem fr_of (X : K.In h0) (G : h0.Ns mainGlobals mg) (y : SaysK h K) : Fr mg where
  n_len := free_nm X G y (by decide +kernel)
  n_abs := free_nm X G y (by decide +kernel)
  n_isinstance := free_nm X G y (by decide +kernel)
  n_all := free_nm X G y (by decide +kernel)
  n_divmod := free_nm X G y (by decide +kernel)
  n_max := free_nm X G y (by decide +kernel)
  n_min := free_nm X G y (by decide +kernel)
  n_int := free_nm X G y (by decide +kernel)
  n_bool := free_nm X G y (by decide +kernel)
  n_str := free_nm X G y (by decide +kernel)
  n_tuple := free_nm X G y (by decide +kernel)
  n_list := free_nm X G y (by decide +kernel)
  n_repr := free_nm X G y (by decide +kernel)
  n_range := free_nm X G y (by decide +kernel)
  n_zip := free_nm X G y (by decide +kernel)
  n_enumerate := free_nm X G y (by decide +kernel)
  n_ValueError := free_nm X G y (by decide +kernel)
  n_LookupError := free_nm X G y (by decide +kernel)
  n_ArithmeticError := free_nm X G y (by decide +kernel)
  c_SHORT := He.int_ok X G (fa_at y (f := .int "MOST_SHORT" 1000000000000) 0)
  c_PARTS := He.int_ok X G (fa_at y (f := .int "MOST_PARTS" 3) 1)
  c_NUMBERS := He.int_ok X G (fa_at y (f := .int "MOST_NUMBERS" 6) 2)
theorem def_at (y : SaysK h K) {d : He.DefD} (i : Nat) (hd : fnL[i]? = some d := by rfl) : ∃ fd, FunD K d.name d.qual d.params d.body d.scope (d.dvs K) (d.kws K) (He.fAd K d.at_) fd := y.c.def_ i hd
theorem def_nm (y : SaysK h K) {x : PySem.Str} {j : Nat} (hq : (x, j) ∈ usedDefs) : ∃ fd, FunD K x x (defArgs (top j)) (defBody (top j)) (defScope (top j)) [] [] (He.ga K x) fd :=
  y.c.defs (d := ddT (x, j)) (List.mem_append_right _ (List.mem_map.mpr ⟨(x, j), hq, rfl⟩))
theorem defC_of (X : K.In h0) (G : h0.Ns mainGlobals mg) (y : SaysK h K) (P : Program) (w : World) (base : Heap) {x : PySem.Str} {j : Nat} (hq : (x, j) ∈ usedDefs) : ∃ fd, DefC ⟨P, w, K, mg, base, He.ga K "Machine"⟩ x j (He.codeOf K (x, none)) (He.ga K x) fd := by
  obtain ⟨fd, F⟩ := def_nm y hq
  obtain ⟨oc, od, dV, kV, doc, pm, an, cdv, ct, osl, e, lk, hcd, _, _⟩ := id F.ex
  obtain ⟨c, rfl⟩ := He.codeIn_ref hcd
  have e2 : fd.code = .ref c := by rw [e]
  have e3 : He.codeOf K (x, none) = c := He.codeOf_eq (K := K) (p := (x, none)) lk e2
  exact ⟨fd, F, glo_def X G y hq, by rw [e2, e3]⟩
theorem fnG_law (X : K.In h0) (G : h0.Ns mainGlobals mg) (y : SaysK h K) (P : Program) (w : World) (base : Heap) (TB : LamX.TabB base mg (He.cT K pR).1 (He.cT K pR).2) :
    ∃ fd, FnG ⟨P, w, K, mg, base, He.ga K "Machine"⟩ 63 (He.ga K "law") fd ["_law_cells"] (spLaw K (He.cT K pR).2) ∧ ∀ (s : Shared) (u : Value), BindsTo s fd ⟨[u], []⟩ [("_law_cells", u)] := by
  obtain ⟨x1, x⟩ := He.ba y.ex
  obtain ⟨x2, x⟩ := He.ba x
  obtain ⟨x3, x⟩ := He.ba x
  obtain ⟨x4, x⟩ := He.ba x
  obtain ⟨x5, x⟩ := He.ba x
  obtain ⟨x6, x7⟩ := He.ba x
  generalize hW : (⟨P, w, K, mg, base, He.ga K "Machine"⟩ : Wd) = W
  have hK : W.K = K := by rw [← hW]
  have hm : W.mg = mg := by rw [← hW]
  have hbs : W.base = base := by rw [← hW]
  have hC : W.C = He.ga K "Machine" := by rw [← hW]
  have T : Fr W.mg := by rw [hm]; exact fr_of X G y
  have dP : ∀ (x : PySem.Str) (j : Nat), (x, j) ∈ usedDefs → DefP W x j := fun x j hq => by
    obtain ⟨fd, F⟩ := def_nm y hq
    exact ⟨_, fd, by rw [hK]; exact F, by rw [hm]; exact glo_def X G y hq⟩
  have gE : ∀ nm ∈ exNames, W.mg nm = some (.ref (He.ga W.K nm)) := fun nm hn => by rw [hm, hK]; exact glo_exc X G y hn
  have cl : Cls W.K W.C := by rw [hK, hC]; exact He.cls_ok (fa_at y (f := .cls "Machine") 4)
  have gM : W.mg "Machine" = some (.ref W.C) := by rw [hm, hC]; exact He.glo_ok X G (fa_at y (f := .glo "Machine") 3)
  have M : Mt W := ⟨cl, by rw [hK, hC]; exact He.noat_ok (fa_at y (f := .noat "Machine" fB) 5), by rw [hK, hC]; exact He.noat_ok (fa_at y (f := .noat "Machine" fP) 6), by rw [hK, hC]; exact He.noat_ok (fa_at y (f := .noat "Machine" fX) 7)⟩
  have xe : erL.all (erB W.K) = true := by rw [hK]; exact x5
  have hX : XTx W (xOf W.K) := by
    obtain ⟨f1, F1⟩ := def_at y (d := ddE "InvalidNumbers" "InvalidNumbers.__init__" 16) 4
    obtain ⟨f2, F2⟩ := def_at y (d := ddE "InvalidParts" "InvalidParts.__init__" 18) 5
    obtain ⟨f3, F3⟩ := def_at y (d := ddE "InvalidBox" "InvalidBox.__init__" 19) 6
    obtain ⟨f4, F4⟩ := def_at y (d := ddE "NotHigh" "NotHigh.__init__" 24) 7
    rw [← hK] at x1 x2 x3 x4 F1 F2 F3 F4
    exact ⟨ixB_ok (j := 16) x1 (gE _ (by decide +kernel)) (by decide +kernel) F1 ⟨_, _, _, _, _, _, rfl, rfl, rfl⟩, ixB_ok (j := 18) x2 (gE _ (by decide +kernel)) (by decide +kernel) F2 ⟨_, _, _, _, _, _, rfl, rfl, rfl⟩, ixB_ok (j := 19) x3 (gE _ (by decide +kernel)) (by decide +kernel) F3 ⟨_, _, _, _, _, _, rfl, rfl, rfl⟩,
      noB_ok (j := 24) x4 (gE _ (by decide +kernel)) (by decide +kernel) F4 ⟨_, _, rfl, rfl, rfl⟩⟩
  have f_divisor := ok_divisor T (dP "divisor" 32 (by decide +kernel)) 
  have f_lowest := ok_lowest T (dP "lowest" 33 (by decide +kernel)) f_divisor
  have f_added := ok_added T (dP "added" 34 (by decide +kernel)) f_lowest
  have f_multiplied := ok_multiplied T (dP "multiplied" 35 (by decide +kernel)) f_lowest
  have f_is_less := ok_is_less T (dP "is_less" 37 (by decide +kernel)) 
  have f_sign := ok_sign T (dP "sign" 36 (by decide +kernel)) 
  have f__law_low := ok__law_low T (dP "_law_low" 72 (by decide +kernel)) 
  have f__law_sum := ok__law_sum T (dP "_law_sum" 73 (by decide +kernel)) f__law_low
  have f__law_mul := ok__law_mul T (dP "_law_mul" 74 (by decide +kernel)) f__law_low
  have f__law_less := ok__law_less T (dP "_law_less" 75 (by decide +kernel)) 
  have f_is_integer := ok_is_integer T (dP "is_integer" 40 (by decide +kernel)) 
  have f_is_fraction := ok_is_fraction T (dP "is_fraction" 41 (by decide +kernel)) f_is_integer f_lowest
  have f_is_short := ok_is_short T (dP "is_short" 42 (by decide +kernel)) f_is_fraction
  have f_is_stretch := ok_is_stretch T (dP "is_stretch" 43 (by decide +kernel)) f_is_less f_is_fraction f_is_short
  have f_are_numbers := ok_are_numbers T (dP "are_numbers" 49 (by decide +kernel)) f_is_short
  have f_number_fault := ok_number_fault T (dP "number_fault" 50 (by decide +kernel)) f_is_short
  have f__law_is_number := ok__law_is_number T (dP "_law_is_number" 85 (by decide +kernel)) 
  have f__law_is_short := ok__law_is_short T (dP "_law_is_short" 86 (by decide +kernel)) f__law_low f__law_is_number
  have f__law_first_bad := ok__law_first_bad T (dP "_law_first_bad" 87 (by decide +kernel)) f__law_is_short
  have f__law_is_stretch := ok__law_is_stretch T (dP "_law_is_stretch" 88 (by decide +kernel)) f__law_is_short f__law_less
  have f_put_to := ok_put_to T (dP "put_to" 58 (by decide +kernel)) f_added f_multiplied
  have f_with_parts := ok_with_parts T (dP "with_parts" 59 (by decide +kernel)) f_put_to
  have f_corners_in := ok_corners_in T (dP "corners_in" 60 (by decide +kernel)) 
  have f_is_high := ok_is_high T (dP "is_high" 61 (by decide +kernel)) f_sign f_corners_in f_with_parts
  have f__law_put := ok__law_put T (dP "_law_put" 80 (by decide +kernel)) f__law_sum f__law_mul
  have f__law_at := ok__law_at T (dP "_law_at" 95 (by decide +kernel)) f__law_put
  have f__law_corners := ok__law_corners T (dP "_law_corners" 96 (by decide +kernel)) 
  have f__law_is_high := ok__law_is_high T (dP "_law_is_high" 97 (by decide +kernel)) f__law_corners f__law_at
  have f_fraction_text := ok_fraction_text T (dP "fraction_text" 46 (by decide +kernel)) 
  have f__law_word := ok__law_word T (dP "_law_word" 76 (by decide +kernel)) 
  have f_numbers_text := ok_numbers_text T (dP "numbers_text" 47 (by decide +kernel)) f_fraction_text
  have f__law_words := ok__law_words T (dP "_law_words" 77 (by decide +kernel)) f__law_word
  have f__law_page := ok__law_page T (dP "_law_page" 94 (by decide +kernel)) f__law_words f__law_word
  have f__law_sip := ok__law_sip T (dP "_law_sip" 70 (by decide +kernel)) 
  have f__law_of := ok__law_of T (dP "_law_of" 71 (by decide +kernel)) f__law_sip
  have f__law_share := ok__law_share T (dP "_law_share" 78 (by decide +kernel)) f__law_low f__law_of f__law_sip
  have f__law_plus_share := ok__law_plus_share T (dP "_law_plus_share" 79 (by decide +kernel)) f__law_low f__law_of f__law_sip
  have f__law_by := ok__law_by T (dP "_law_by" 81 (by decide +kernel)) f__law_sum f__law_mul
  have f__law_numbers := ok__law_numbers T (dP "_law_numbers" 90 (by decide +kernel)) f__law_sip f__law_plus_share f__law_by f__law_share
  have f__law_span := ok__law_span T (dP "_law_span" 91 (by decide +kernel)) f__law_share f__law_less
  have f__law_rig := ok__law_rig T (dP "_law_rig" 92 (by decide +kernel)) f__law_sip f__law_numbers f__law_of f__law_sum f__law_span f__law_share
  have f__law_steep := ok__law_steep T (dP "_law_steep" 100 (by decide +kernel)) f__law_sip
  have f__law_bent := ok__law_bent T (dP "_law_bent" 89 (by decide +kernel)) f__law_of f__law_sip 3 (by decide)
  have f__law_changed := ok__law_changed T (dP "_law_changed" 99 (by decide +kernel)) f__law_sip f__law_of f__law_bent
  have f__law_due := ok__law_due T (dP "_law_due" 98 (by decide +kernel)) f__law_first_bad f__law_is_high f__law_is_stretch
  have f_check_parts := ok_check_parts T hX (dP "check_parts" 62 (by decide +kernel)) f_are_numbers
  have f_check_box := ok_check_box T hX (dP "check_box" 63 (by decide +kernel)) f_is_stretch
  have mI : Mk W.K W.C (He.ma K (He.ga K "Machine") "__init__") := by rw [hK, hC]; exact He.mkr_ok (fa_at y (f := .mkr "Machine") 11)
  have mt : Meth W.K W.C "take" (He.ma K (He.ga K "Machine") "take") := by rw [hK, hC]; exact He.meth_ok (fa_at y (f := .meth "Machine" "take") 8)
  have me : Meth W.K W.C "__eq__" (He.ma K (He.ga K "Machine") "__eq__") := by rw [hK, hC]; exact He.meth_ok (fa_at y (f := .meth "Machine" "__eq__") 9)
  have mb : Meth W.K W.C "__bool__" (He.ma K (He.ga K "Machine") "__bool__") := by rw [hK, hC]; exact He.meth_ok (fa_at y (f := .meth "Machine" "__bool__") 10)
  obtain ⟨fdI, DI0⟩ := def_at y (d := ddM "__init__" "Machine.__init__" 0 initDv) 0
  obtain ⟨fdT, DT0⟩ := def_at y (d := ddM "take" "Machine.take" 1 []) 1
  obtain ⟨fdE, DE0⟩ := def_at y (d := ddM "__eq__" "Machine.__eq__" 15 []) 2
  obtain ⟨fdB, DB0⟩ := def_at y (d := ddM "__bool__" "Machine.__bool__" 16 []) 3
  have DI : DefM W "__init__" "Machine.__init__" 0 (initDv.map (He.Dv.v K)) (He.ma K (He.ga K "Machine") "__init__") fdI := by unfold DefM; rw [hK]; exact DI0
  have DT : DefM W "take" "Machine.take" 1 [] (He.ma K (He.ga K "Machine") "take") fdT := by unfold DefM; rw [hK]; exact DT0
  have DE : DefM W "__eq__" "Machine.__eq__" 15 [] (He.ma K (He.ga K "Machine") "__eq__") fdE := by unfold DefM; rw [hK]; exact DE0
  have DB : DefM W "__bool__" "Machine.__bool__" 16 [] (He.ma K (He.ga K "Machine") "__bool__") fdB := by unfold DefM; rw [hK]; exact DB0
  have f_init := ok_init T hX M DI DT mt f_are_numbers f_number_fault f_check_parts f_check_box f_is_high
  have bI : Binds W.K fdI ["self", "base", "parts", "box"] [] := by
    obtain ⟨ds, hv, hb⟩ := FunD.binds1 (ps := ["self", "base", "parts", "box"]) DI 4 2 (by unfold initDv; simp) rfl (fun T kV doc pm an cdv ct us its hu hi => match us, its, hu, hi with
      | [_, _, _, _], [_, _], _, _ => ⟨_, rfl, rfl⟩)
    have hd : ds = [] := by
      have hv2 : Vals [] ds := hv
      cases hv2
      rfl
    rw [hd] at hb
    exact hb
  have kI : ∃ g gV, KBn W.K fdI ["self", "base", "parts", "box"] 1 ["box", "parts", "base"] g gV ∧ ∀ s v1 v2 v3, gV [s] [v1, v2, v3] = [s, v3, v2, v1] := by
    obtain ⟨its, hk⟩ := FunD.kbindsD (ps := ["self", "base", "parts", "box"]) DI 1 ["box", "parts", "base"] (fun us _ ws => us ++ ws.reverse) (by unfold initDv; simp) (fun r1 _ r3 => r1.append (vals_rev r3)) (fun T kV doc pm an cdv ct us its ws hu hi hw => match us, its, ws, hu, hi, hw with
      | [_], [_, _], [_, _, _], _, _, _ => ⟨_, rfl, rfl⟩)
    exact ⟨_, _, hk, fun s v1 v2 v3 => rfl⟩
  have mf : MkF W (xOf W.K) := ⟨gM, _, fdI, mI, f_init, bI, kI⟩
  have f_mach := ok__law_machine mf (dP "_law_machine" 93 (by decide +kernel))
  have kind := ok__law_kind T (kt_of gE xe) (dP "_law_kind" 82 (by decide +kernel))
  have kept := ok__law_kept T hX (dP "_law_kept" 83 (by decide +kernel)) kind
  have prop : ∀ q, q ∈ proL → DefPr W q.1 q.2.1 q.2.2 := fun q hq => by
    refine proB_ok (by rw [hK]; exact hC) (by rw [hK]; exact List.all_eq_true.mp x7 q hq) ?_
    rw [hK]
    exact (List.map_inj_left.mp y.gs) q hq
  have p_text := ok_text T M (prop ("text", "Machine.text", 7) (by unfold proL; simp)) f_numbers_text
  have bE : Binds W.K fdE ["self", "other"] [] := FunD.bindsN DE fun _ _ _ _ _ _ us hl => match us, hl with | [_, _], _ => rfl
  have bB : Binds W.K fdB ["self"] [] := FunD.bindsN DB fun _ _ _ _ _ _ us hl => match us, hl with | [_], _ => rfl
  have ic : C8.InsC W.K W.C := insB_ok cl (by rw [hK, hC]; exact x6)
  have R : RtF W (xOf W.K) (kt_of gE xe) (He.cT K pR).1 (He.cT K pR).2 :=
    { T := T, M := M, mf := mf, xm := xm_of gE xe, rig := f__law_rig, steep := f__law_steep, sip := f__law_sip, chg := f__law_changed, due := f__law_due, page := f__law_page, kept := kept, mach := f_mach, caught := dP "_law_caught" 84 (by decide +kernel),
      TB := by rw [hm, hbs]; exact TB, nB := T.n_bool,
      base := ok_base M (prop ("base", "Machine.base", 3) (by unfold proL; simp)), parts := ok_parts M (prop ("parts", "Machine.parts", 4) (by unfold proL; simp)), box := ok_box M (prop ("box", "Machine.box", 5) (by unfold proL; simp)), degree := ok_degree T M (prop ("degree", "Machine.degree", 6) (by unfold proL; simp)), text := p_text,
      eq := ⟨_, fdE, ok_eq T M ic gM DE p_text, me.at_, me.fn, bE⟩, boo := ⟨_, fdB, ok_bool DB, mb.at_, mb.fn, bB⟩ }
  obtain ⟨fdR, DR⟩ := defC_of X G y P w base (x := "_law_right") (j := 101) (by decide +kernel)
  obtain ⟨fdL, DL⟩ := defC_of X G y P w base (x := "law") (j := 102) (by decide +kernel)
  rw [hW] at DR DL
  have fR := ok__law_right R DR
  have fC := ok__law_cup T (dP "_law_cup" 69 (by decide +kernel))
  have fL := ok_law T fR fC DL
  refine ⟨fdL, by rw [hK] at fL; exact fL, fun s u => ?_⟩
  exact FunD.bindsA (ps := ["_law_cells"]) DL.1 (fun _ _ _ _ _ _ us hl => match us, hl with | [_], _ => rfl) s [u] rfl
end
end K10
set_option Elab.async false
set_option linter.all false
set_option maxRecDepth 100000
set_option maxHeartbeats 4000000
/-! The law is called. -/
namespace K10
open PySem PySem.Spec PyProof.Rows L2 StX RZ
/-- what is told of the heap behind the top: the table of lambdas, the script -/
def trkH (Pt a : Addr) (ob : Obj) (xs : List V) (m : Bool) : Hp := fun b => if b = Pt then some (.tbl #[]) else if b = a then (if m = true then some (.frz ob (.lst xs)) else none) else none
theorem trkH_inv {Pt a b : Addr} {ob : Obj} {xs : List V} {m : Bool} {u : HO} (h : trkH Pt a ob xs m b = some u) : (b = Pt ∧ u = .tbl #[]) ∨ (b = a ∧ m = true ∧ u = .frz ob (.lst xs)) := by
  unfold trkH at h
  by_cases h1 : b = Pt
  · rw [if_pos h1] at h
    exact Or.inl ⟨h1, (Option.some.inj h).symm⟩
  · rw [if_neg h1] at h
    by_cases h2 : b = a
    · rw [if_pos h2] at h
      cases m with
      | true => exact Or.inr ⟨h2, rfl, (Option.some.inj h).symm⟩
      | false => cases h
    · rw [if_neg h2] at h
      cases h
section
variable {prog : Program} {w : World} {K : PySem.W.Frag} {mg mb : PySem.Str → Option Value} {fa a : Addr} {z : Shared} {vs : List Value} {ns : List Int}
theorem law_end (KX : K.In z.heap) (y : SaysK z.heap K) (g1 : z.heap.Ns mainGlobals mg) (g2 : z.heap.Ns builtinsNs mb) (g3 : ∀ x : PySem.Str, x ≠ "__name__" → mb x = bootBuiltins x) (g4 : z.heap.NoLimit) (g5 : z.gens = #[])
    (g6 : ∃ (bm : Addr) (o : Obj), mg "__builtins__" = some (.ref bm) ∧ bm ≠ builtinsNs ∧ z.heap.get? bm = some o ∧ o.cls = .type "module" ∧ o.dict = some builtinsNs ∧ o.data = .plain)
    (hfa : mg "law" = some (.ref fa)) (ha : z.heap.get? a = some { cls := .type "list", data := .seq vs.toArray }) (hi : IntsAre vs ns) (hl : ns.length ≤ 63) :
    codeAny (model prog w) callerA (.call (.ref fa) ⟨[.ref a], []⟩) (fun r s' => r = .ok (.ret (.bool true)) ∧ OldK z.heap s'.heap ∧ s'.os = z.os ∧ AllBare s'.gens) z := by
  have rv := L2.vals_ints hi
  have lv : vs.length = ns.length := hi.length
  have l9 : ns.length ≤ sizeLine := Nat.le_trans hl (by decide)
  have hP := y.empty
  generalize hPt : (He.cT K pR).2 = Pt at hP
  have hne : a ≠ Pt := fun e => by
    rw [e, hP] at ha
    cases ha
  have main : ∀ m : Bool, (m = true → K.lookup a = none) → SqL K (trkH Pt a { cls := .type "list", data := .seq vs.toArray } (ns.map V.int) m) a (ns.map V.int) →
      codeAny (model prog w) callerA (.call (.ref fa) ⟨[.ref a], []⟩) (fun r s' => r = .ok (.ret (.bool true)) ∧ OldK z.heap s'.heap ∧ s'.os = z.os ∧ AllBare s'.gens) z := fun m hm hS => by
    have inv := @trkH_inv Pt a
    have atP : trkH Pt a { cls := .type "list", data := .seq vs.toArray } (ns.map V.int) m Pt = some (.tbl #[]) := if_pos rfl
    generalize hH : trkH Pt a { cls := .type "list", data := .seq vs.toArray } (ns.map V.int) m = H at hS atP
    have iv : ∀ b u, H b = some u → (b = Pt ∧ u = .tbl #[]) ∨ (b = a ∧ m = true ∧ u = .frz { cls := .type "list", data := .seq vs.toArray } (.lst (ns.map V.int))) := fun b u h => trkH_inv (by rw [hH]; exact h)
    -- what is neither the table nor the script stays in the base
    have fr : ∀ b o, z.heap.get? b = some o → o ≠ { cls := .none, data := .fields #[] } → o ≠ { cls := .type "list", data := .seq vs.toArray } → H b = none := fun b o e n1 n2 => by
      cases q : H b with
      | none => rfl
      | some u =>
        rcases iv b u q with ⟨e1, _⟩ | ⟨e1, _⟩
        · rw [e1, hP] at e
          exact absurd (Option.some.inj e).symm n1
        · rw [e1, ha] at e
          exact absurd (Option.some.inj e).symm n2
    have dct : ∀ {b : Addr} {m' : PySem.Str → Option Value}, z.heap.Ns b m' → (L2.hidT z.heap H).Ns b m' := fun {b m'} h => by
      obtain ⟨o, es, ep, e, hd, r⟩ := h
      refine ⟨o, es, ep, L2.hidT_get e (fr b o e (fun q => ?_) fun q => ?_), hd, r⟩
      · rw [q] at hd
        cases hd
      · rw [q] at hd
        cases hd
    have hKb : K.In (L2.hidT z.heap H) := fun b o e => L2.hidT_get (KX b o e) (by
      cases q : H b with
      | none => rfl
      | some u =>
        rcases iv b u q with ⟨e1, _⟩ | ⟨e1, e2, _⟩
        · rw [e1, ← hPt, y.out] at e
          cases e
        · rw [e1, hm e2] at e
          cases e)
    have hM : L2.Mod K mg (L2.hidT z.heap H) := by
      obtain ⟨mc, c1, c2⟩ := g4
      exact ⟨hKb, dct g1, ⟨mb, dct g2, g3⟩, ⟨mc, dct c1, c2⟩⟩
    have hok : L2.HOk prog w H z.heap := fun b u h => by
      rcases iv b u h with ⟨e1, rfl⟩ | ⟨e1, _, rfl⟩
      · rw [e1]
        exact hP
      · rw [e1]
        exact ⟨ha, by rw [List.length_map]; exact l9, vs, _, rv, ha⟩
    have hG : mainGlobals ≠ Pt := fun q => by
      obtain ⟨o, es, ep, e, hd, _⟩ := g1
      rw [q, hP] at e
      cases e
      cases hd
    have hB : (L2.hidT z.heap H).BuiltinsAt mg Pt := by
      obtain ⟨bm, o, b1, b2, b3, b4, b5, b6⟩ := g6
      refine ⟨bm, o, b1, b2, fun q => ?_, fun q => ?_, L2.hidT_get b3 (fr bm o b3 (fun q => ?_) fun q => ?_), b4, b5, b6⟩
      · obtain ⟨o2, es, ep, e, hd, _⟩ := g1
        rw [q, e] at b3
        cases b3
        rw [hd] at b6
        cases b6
      · rw [q, hP] at b3
        cases b3
        cases b6
      · rw [q] at b6
        cases b6
      · rw [q] at b6
        cases b6
    have TB : LamX.TabB (L2.hidT z.heap H) mg (He.cT K pR).1 (He.cT K pR).2 := ⟨PySem.W.codeHd_of_K hKb y.hd, by rw [hPt]; exact hB, by rw [hPt]; exact hG⟩
    obtain ⟨fd, FG, hb⟩ := fnG_law hKb (dct g1) y prog w (L2.hidT z.heap H) TB
    have efa : He.ga K "law" = fa := by
      have e := glo_def KX g1 y (x := "law") (j := 102) (by decide +kernel)
      rw [hfa] at e
      exact (Value.ref.inj (Option.some.inj e)).symm
    rw [efa] at FG
    have e0 : L2.Env0 prog w K mg (L2.hidT z.heap H) callerA [] z H := ⟨rfl, hM, fun b o e => L2.of_hidT e, Nat.le_of_eq (L2.hidT_size _ _), trivial, (fun b hb => by cases hb), hok, .of_eq g5⟩
    have hT : LamX.Tabs (tabs (He.cT K pR).2) H := fun p hp => by
      rw [List.mem_singleton.mp hp]
      exact LamX.TabS.nil (by rw [hPt]; exact atP)
    refine codeAny_mono (FG.run callerA [] z H ⟨[.ref a], []⟩ [.ref a] [.ref a] (fun v _ => v = .bl true) rfl ⟨rfl, by decide, by decide⟩ e0 (hb z (.ref a)) (.cons rfl .nil) ⟨a, ns, rfl, hS, hl, hT, fun _ => rfl⟩) fun r s' h => ?_
    match r, h with
    | .error _, h => exact h.elim
    | .ok .next, h => exact False.elim h
    | .ok .brk, h => exact False.elim h
    | .ok .cont, h => exact False.elim h
    | .ok (.ret u), h =>
      obtain ⟨v, H', os, bare, un, hok2, rvu, hv⟩ := h
      have hv2 : v = .bl true := hv
      subst hv2
      cases rvu
      have same : ∀ b o, b ≠ Pt → z.heap.get? b = some o → s'.heap.get? b = some o := fun b o nb e => by
        cases q : H b with
        | none => exact un.keep b o e q (fun q2 => by cases q2) (fun q2 => by cases q2)
        | some u =>
          rcases iv b u q with ⟨e1, _⟩ | ⟨e1, _, rfl⟩
          · exact absurd e1 nb
          · obtain ⟨e2, _⟩ := hok2 b _ (un.frzs b _ _ q)
            rw [e1, ha] at e
            rw [← Option.some.inj e]
            exact e2
      obtain ⟨more, gm⟩ := un.tbls Pt #[] atP
      have gm2 : s'.heap.get? Pt = some { cls := .none, data := .fields (#[] ++ more) } := hok2 Pt _ gm
      have tb : isCodeTable z.heap Pt := by
        have CH := PySem.W.codeHd_of_K KX y.hd
        rw [hPt] at CH
        exact (PySem.W.CodeHd.tab CH hP).isCodeTable
      refine ⟨rfl, ⟨fun b o e => ?_, fun b o e => ?_⟩, os, bare⟩
      · by_cases hb2 : b = Pt
        · subst hb2
          rw [hP] at e
          cases e
          exact .inr (.inl ⟨tb, rfl, #[], more, rfl, gm2⟩)
        · exact .inl (same b o hb2 e)
      · by_cases hb2 : b = Pt
        · rw [hb2]
          exact ⟨_, gm2⟩
        · exact ⟨o, same b o hb2 e⟩
  cases hk : K.lookup a with
  | none =>
    refine main true (fun _ => hk) (.inl (.inr ⟨{ cls := .type "list", data := .seq vs.toArray }, ?_⟩))
    unfold trkH
    rw [if_neg hne, if_pos rfl, if_pos rfl]
  | some o =>
    have e := KX a o hk
    rw [ha] at e
    cases e
    exact main false (fun q => by cases q) (.inr ⟨_, vs.toArray, _, hk, rfl, rfl, rfl, by rw [List.size_toArray, lv]; exact l9, by simpa using rv⟩)
end
/-- the law's walk -/
theorem law_walk : PySem.W.WalkO qv names (PySem.W.XL qv []) hookK.says (PySem.W.OpenLaw.row PySem.Challenge.rw_fourcorners_k10_whole_parts_of_machines).toRowW (HandSHeadRun.topDef Rw.prog 102) [] (fun f vs => PySem.call f vs) := by
  refine Att.attach_callB (l := PySem.Challenge.rw_fourcorners_k10_whole_parts_of_machines) (n := 63) rfl (by kernel_rfl) fun w s₀ z mg mb fa o pm cd doc a vs ns G Y ho hd hcd hmg hobj hints hlen _ hg => ?_
  obtain ⟨K, KX, y⟩ := Y
  have hn : (HandSHeadRun.topDef Rw.prog 102).name = ("law" : PySem.Str) := by kernel_rfl
  rw [hn] at hmg
  exact law_end KX y G.T.g G.T.b G.T.builtins G.T.nolimit hg G.T.bmain hmg hobj hints hlen
end K10
set_option Elab.async false
set_option linter.all false
set_option maxRecDepth 100000
set_option maxHeartbeats 0
open PySem PySem.W PySem.Calls PyProof.Rows
theorem PySem.Challenge.cw_fourcorners_k10_whole_parts_of_machines_holds : PySem.Challenge.rw_fourcorners_k10_whole_parts_of_machines.Holds := by
  w_on; o_law
  refine HandSHeadRun.head_any (r := K10.Rw) (q := K10.qv) (H := K10.hookK) (ob := K10.obK) (M := 20000) (loose := K10.names) (d := HandSHeadRun.topDef K10.Rw.prog 102) (kwd := []) K10.obK_eq
    (by kernel_rfl) (fun s => by kernel_rfl) K10.runK (by kernel_rfl) (by kernel_rfl) (by kernel_rfl) (by rfl) (by first | assumption | decide +kernel) (by decide +kernel) ⟨rfl, rfl, rfl, rfl, rfl, by decide +kernel⟩ ?hw ?hc
  case hw => w_witness2
  case hc => exact K10.law_walk
