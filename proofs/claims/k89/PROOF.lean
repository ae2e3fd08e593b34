import PyProof.Rows.All
import Wide.All
import OpenK.AllK
import Wide.FinOn
import HandS.ForMost
import HandS.ForExc
import HandS.ExcField
import HandS.ClsMeth
import HandS.Head0
import HandS.Head1
import HandS.Head2
import HandS.HeadHook1
import HandS.HeadHook2
import HandS.CallSlots
import HandS.Flow
import HandS.Walk
import HandS.Defaults
import HandS.ExcCtx
import HandS.ExcOwn
import HandS.SuiteRaise
import PyProof.NeKinds
import PyProof.P3Eq
import HandS.Deep
import HandS.TupAny
import HandS.TupLe
import HandS.Set
import HandS.SetFor
import HandS.SetTxt0
import HandS.RaiseMore
import PyProof.SetRoads
import PyProof.Rows.SortShellAny
import HandS.Strs
import HandS.IsInst
import HandS.TupLen
import HandS.SortInts
import HandS.WordsDict
import HandS.Conv
import HandS.FStr
import HandS.ExcIs
import HandS.Text
import PyProof.FString3
import PyProof.Rows.StrIntSpec
import HandS.Star
import HandS.Property
import HandS.ExcInit
import HandS.ExcInitHot
import HandS.TryOnly
import HandS.Style
import HandS.More
import HandS.DictTup
import HandS.Small
import HandS.DictComp
import HandS.HeadEnd
import PyProof.ReprRoads
import KE.KCallOwn
import OpenK.KMeth
import HandS.IterVal
import PyProof.Draws
import PyProof.EnumMake
import KE.GoesMore
import KE.IntTextLaws
import PyProof.Rows.StrSplitJoin
import PyProof.Rows.StrSplitCount
import PyProof.Rows.StrJoinMade
import PySem.Challenge.RW_closinground_k89_texts_of_papers_refused
set_option Elab.async false
set_option linter.all false
set_option maxRecDepth 100000
set_option maxHeartbeats 2000000
namespace DL
open PySem PySem.Spec L2
inductive Kd where
  | non | bl | int | str | tup | lst | dic
  | ins (C : Addr)
  | err (C : Addr)
def Kd.v : Kd → Value
  | .non => .type "NoneType" | .bl => .type "bool" | .int => .type "int" | .str => .type "str"
  | .tup => .type "tuple" | .lst => .type "list" | .dic => .type "dict" | .ins C => .ref C | .err C => .ref C
/-- the right side's type fills no slot -/
def rightNo (K : PySem.W.Frag) (t : Addr) (nm : String) : Bool := match PySem.W.clsIn K t with
  | some cd => cd.mro.all fun c => decide (PySem.W.findIn K c (PySem.dunder nm) = some none) && decide (PySem.W.findIn K c (PySem.dunderR nm) = some none)
  | none => false
end DL
namespace HX
open PySem PySem.Spec L2 DL
open He (ga ma ba eqO eqO_ok Dv)
/-- the object behind a property | classmethod | staticmethod record -/
def inner (K : PySem.W.Frag) (T : String) (o : Option (Option Value)) : Addr × Addr := match o with
  | some (some (.ref p)) => (match PySem.W.recIn K p T with
    | some (.ref g :: _) => (p, g)
    | _ => (p, 0))
  | _ => (0, 0)
/-- a class's attribute as the class has it -/
def rawAt (K : PySem.W.Frag) (C : Addr) (m : Str) : Option (Option Value) := PySem.W.findIn K (.ref C) m
def pa (K : PySem.W.Frag) (C : Addr) (m : Str) : Addr := (inner K "property" (rawAt K C m)).2
def ca (K : PySem.W.Frag) (C : Addr) (m : Str) : Addr := (inner K "classmethod" (rawAt K C m)).2
def sa (K : PySem.W.Frag) (C : Addr) (m : Str) : Addr := (inner K "staticmethod" (rawAt K C m)).2
def mcl (_ : PySem.W.Frag) (_ : Str) : Value := .type "type"
/-- where a def stands -/
inductive Ad where
  | glo (x : Str) | me (c m : Str) | pr (c m : Str) | cm (c m : Str) | sm (c m : Str)
def Ad.at (K : PySem.W.Frag) : Ad → Addr
  | .glo x => ga K x
  | .me c m => ma K (ga K c) m
  | .pr c m => pa K (ga K c) m
  | .cm c m => ca K (ga K c) m
  | .sm c m => sa K (ga K c) m
def tyName : Kd → String
  | .non => "NoneType" | .bl => "bool" | .int => "int" | .str => "str" | .tup => "tuple" | .lst => "list" | .dic => "dict"
  | .ins _ => "" | .err _ => ""
def pickC (K : PySem.W.Frag) (C : Addr) : List (Str × Bool) → Option Bool
  | [] => none
  | (x, b) :: r => if C = ga K x then some b else pickC K C r
/-- isinstance(_, an own class) -/
def gT (K : PySem.W.Frag) (ti te : List (Str × Bool)) : Kd → Option Bool
  | .ins C => pickC K C ti
  | .err C => pickC K C te
  | _ => some false
/-- isinstance(_, a built-in class) -/
def gB (K : PySem.W.Frag) (n : String) (ti te : List (Str × Bool)) : Kd → Option Bool
  | .ins C => pickC K C ti
  | .err C => pickC K C te
  | .bl => some (n == "bool" || n == "int")
  | k => some (tyName k == n)
/-- except x -/
def aT (K : PySem.W.Frag) (te : List (Str × Bool)) (C : Addr) : Option Bool := pickC K C te
def iscB (K : PySem.W.Frag) (C : Addr) : Bool := (PySem.W.plainGet K C Str.empty && PySem.W.hasDictIn K C && PySem.W.plainOver K C && eqO (PySem.W.findIn K (.ref C) "__setattr__") (some (some (.builtin "object.__setattr__")))) &&
  eqO (PySem.W.findIn K (.ref C) "__class__") (some (some (.builtin "object.__class__"))) && eqO (PySem.W.specialIn K (.builtin "object.__class__") "__get__") (some (some (.builtin "getset_descriptor.__get__"))) &&
  decide (PySem.W.takesIn K (.builtin "object.__class__") = some true) && decide (PySem.W.mroIn K C (.type "object") = some true)
def excB (K : PySem.W.Frag) (C : Addr) : Bool := eqO (PySem.W.findIn K (.ref C) "__getattribute__") (some (some (.builtin "BaseException.__getattribute__"))) && eqO (PySem.W.findIn K (.ref C) "__getattr__") (some none) &&
  decide (PySem.W.subIn K (.ref C) (.type "BaseException") = some true) && PySem.W.hasDictIn K C && eqO (PySem.W.findIn K (.ref C) "__class__") (some (some (.builtin "object.__class__"))) &&
  eqO (PySem.W.specialIn K (.builtin "object.__class__") "__get__") (some (some (.builtin "getset_descriptor.__get__"))) && decide (PySem.W.takesIn K (.builtin "object.__class__") = some true) && decide (PySem.W.mroIn K C (.type "object") = some true)
/-- the record of an own error class -/
def oexB (K : PySem.W.Frag) (C : Addr) : Bool := (match K.lookup C with
    | some ⟨.type "type", _, .cls cd, sl⟩ => (match cd.mro with
      | .ref D :: bm => D == C && PySem.HandSPX.refsVE bm && cd.hasDict && !cd.hasDel
      | _ => false) && (match sl.toList with
      | [_, _, _, _, some (.builtin n), _] => n == "ValueError.__new__"
      | _ => false)
    | _ => false) &&
  eqO (PySem.W.findIn K (.ref C) "__setattr__") (some (some (.builtin "object.__setattr__"))) && decide (PySem.W.subIn K (.ref C) (.type "BaseException") = some true) && decide (PySem.W.typeIn K (.ref C) = some (.type "type")) && PySem.W.keepIn K (.ref C)
def foundB (o : Option PySem.W.CFound) (id : String) (p C : Addr) : Bool := match o with
  | some (.get (.builtin n) (.ref a) .none (.ref D)) => n == id && a == p && D == C
  | _ => false
inductive FaX where
  | fa (f : He.Fa)
  | dun (x m : Str) | prop (x m : Str) | cread (x : Str) | cmet (x m : Str) | smet (x m : Str)
  | isa (x : Str) (ti te : List (Str × Bool)) | isb (n : String) (ti te : List (Str × Bool))
  | oex (x : Str) (fs : List Str)
  | xf (f : Str) (cs : List Str)
  | ans (x : Str) (te : List (Str × Bool))
  | apart (xs : List Str)
  | same (x y m : Str)
  | cval (x f : Str) (i : Int) | gtup (x : Str) (zs : List Str) | bin (x y : Str) (nm : String) | nf (x y : Str)
def baseKds : List Kd := [.non, .bl, .int, .str, .tup, .lst, .dic]
def isaB (K : PySem.W.Frag) (u : Value) (g : Kd → Option Bool) (ti te : List (Str × Bool)) : Bool := (baseKds.all fun k => decide (PySem.W.kitOne K k.v u = g k)) &&
  (ti.all fun p => decide (PySem.W.kitOne K (.ref (ga K p.1)) u = some p.2) && iscB K (ga K p.1)) && te.all fun p => decide (PySem.W.kitOne K (.ref (ga K p.1)) u = some p.2) && excB K (ga K p.1)
def FaX.ok (K : PySem.W.Frag) : FaX → Bool
  | .fa f => f.ok K
  | .dun x m => eqO (PySem.W.findIn K (.ref (ga K x)) m) (some (some (.ref (ma K (ga K x) m)))) && PySem.W.isFn K (.ref (ma K (ga K x) m)) && PySem.W.fnIn K (ma K (ga K x) m)
  | .prop x m => eqO (rawAt K (ga K x) m) (some (some (.ref (inner K "property" (rawAt K (ga K x) m)).1))) && eqO (PySem.W.specialIn K (.ref (inner K "property" (rawAt K (ga K x) m)).1) "__get__") (some (some (.builtin "property.__get__"))) &&
      decide (PySem.W.takesIn K (.ref (inner K "property" (rawAt K (ga K x) m)).1) = some true) && decide (((PySem.W.recIn K (inner K "property" (rawAt K (ga K x) m)).1 "property").bind List.head?) = some (.ref (pa K (ga K x) m)))
  | .cread x => PySem.W.readsIn K (ga K x) (.type "type") && eqO (PySem.W.specialIn K (.ref (ga K x)) "__getattribute__") (some (some (.builtin "type.__getattribute__")))
  | .cmet x m => foundB (PySem.W.findCls K (.ref (ga K x)) (.type "type") m) "classmethod.__get__" (inner K "classmethod" (rawAt K (ga K x) m)).1 (ga K x) &&
      decide (((PySem.W.recIn K (inner K "classmethod" (rawAt K (ga K x) m)).1 "classmethod").bind List.head?) = some (.ref (ca K (ga K x) m))) && PySem.W.fnIn K (ca K (ga K x) m)
  | .smet x m => foundB (PySem.W.findCls K (.ref (ga K x)) (.type "type") m) "staticmethod.__get__" (inner K "staticmethod" (rawAt K (ga K x) m)).1 (ga K x) &&
      decide (((PySem.W.recIn K (inner K "staticmethod" (rawAt K (ga K x) m)).1 "staticmethod").bind List.head?) = some (.ref (sa K (ga K x) m))) && PySem.W.keepIn K (.ref (sa K (ga K x) m))
  | .isa x ti te => isaB K (.ref (ga K x)) (gT K ti te) ti te
  | .isb n ti te => isaB K (.type n) (gB K n ti te) ti te
  | .oex x fs => oexB K (ga K x) && eqO (PySem.W.findIn K (.ref (ga K x)) "__init__") (some (some (.ref (ma K (ga K x) "__init__")))) && decide (PySem.W.typeIn K (.ref (ma K (ga K x) "__init__")) = some (.type "function")) &&
      fs.all fun f => eqO (PySem.W.findIn K (.ref (ga K x)) f) (some none)
  | .xf f cs => cs.all fun c => xfB K (ga K c) && eqO (PySem.W.findIn K (.ref (ga K c)) f) (some none)
  | .ans x te => te.all fun p => decide (PySem.W.exmOne K (.ref (ga K p.1)) (.ref (ga K x)) = some p.2)
  | .apart xs => decide (xs.map (ga K)).Nodup
  | .same x y m => decide (ma K (ga K x) m = ma K (ga K y) m)
  | .cval x f i => (match PySem.W.findCls K (.ref (ga K x)) (.type "type") f with
    | some (.val (.int j _)) => decide (j = i)
    | _ => false)
  | .gtup x zs => He.tupB K x (zs.map Dv.str)
  | .bin x y nm => PySem.W.selfFirst K (ga K x) && (decide (ga K y = ga K x) || rightNo K (ga K y) nm)
  | .nf x y => PySem.W.notFirst K (ga K x) (.ref (ga K y))
structure DX where
  ad : Ad
  name : Str
  qual : Str
  params : Arguments
  body : List Stmt
  scope : Scope
  dfl : List Dv := []
abbrev Seen : Type := Option (FuncBody × Scope × Arguments × Str × Str × (Addr × Addr) × List (Str × Addr))
def seeF (fd : FuncData) : Seen := some (fd.body, fd.scope, fd.params, fd.name, fd.qualname, (fd.globals, fd.builtins), fd.closure)
def DX.see (K : PySem.W.Frag) (d : DX) : Seen := match K.lookup (d.ad.at K) with
  | some ⟨_, _, .func fd, _⟩ => seeF fd
  | _ => none
def DX.want (d : DX) : Seen := some (.stmts d.body, d.scope, d.params, d.name, d.qual, (mainGlobals, builtinsNs), [])
def DX.dvs (K : PySem.W.Frag) (d : DX) : List V := d.dfl.map (Dv.v K)
def DX.ok (K : PySem.W.Frag) (d : DX) : Bool := (match K.lookup (d.ad.at K) with
  | some ⟨_, _, .func fd, _⟩ => PySem.W.codeIn K fd.code d.qual && He.dflB K fd.defaults (d.dvs K)
  | _ => false) && PySem.W.keepIn K (.ref (d.ad.at K))
abbrev AlX : Type := Bool × List Seen
def obsX (xs : List FaX) (ds : List DX) (K : PySem.W.Frag) : AlX := (xs.all (FaX.ok K) && ds.all (DX.ok K), ds.map (DX.see K))
def valX (ds : List DX) : AlX := (true, ds.map DX.want)
def SaysX (xs : List FaX) (ds : List DX) (K : PySem.W.Frag) : Prop := obsX xs ds K = valX ds
/-- what a head's facts look at: what the module's names reach in n steps, the defs named, what they name -/
def wide (ds : List DX) (g : Addr → Option Obj) (as : List Addr) : List Addr := let fs := ds.map fun d => d.ad.at (He.frG g as); as ++ (fs ++ fs.flatMap fun a => ((g a).map He.refsD).getD [])
def obsGX (n : Nat) (xs : List FaX) (ds : List DX) (g : Addr → Option Obj) : AlX := obsX xs ds (He.frG g (wide ds g (PySem.cStatics :: He.asD g n)))
def hookX (n : Nat) (xs : List FaX) (ds : List DX) : PySem.W.Hook :=
  ⟨AlX, fun s => obsGX n xs ds s.heap.get?, fun _ => valX ds, fun _ h => ∃ K : PySem.W.Frag, K.In h ∧ SaysX xs ds K, fun _ _ e => ⟨_, He.frG_in, e⟩, fun _ _ _ ⟨K, q, c⟩ k => ⟨K, q.keeps k, c⟩⟩
theorem obsGX_eq {n : Nat} {xs : List FaX} {ds : List DX} {g : Addr → Option Obj} {s : Shared} (h : ∀ a, g a = s.heap.get? a) : obsGX n xs ds g = (hookX n xs ds).obs s := by
  rw [show g = s.heap.get? from funext h] <;> rfl
end HX
set_option Elab.async false
set_option linter.all false
set_option maxRecDepth 100000
set_option maxHeartbeats 4000000
namespace G
open PySem PySem.Spec L2 DL
open He (ga ma)
abbrev pw := PySem.Challenge.pw_closinground_k89_texts_of_papers_refused
abbrev top (i : Nat) : Stmt := pw.main.body.getD i (.Pass ⟨0, 0, 0, 0⟩)
def mth : Stmt → Nat → Stmt
  | .ClassDef _ _ _ body _ _ _ _ _ _ _, m => body.getD m (.Pass ⟨0, 0, 0, 0⟩)
  | s, _ => s
end G
set_option Elab.async false
set_option linter.all false
set_option maxRecDepth 100000
set_option maxHeartbeats 0
namespace Hd
open PySem PySem.Spec PyProof.Rows L2 HX G
def nm0 : List PySem.Str := ["_wall", "HouseError", "BadInput", "Refused", "BadHouse", "BadLocks", "BadOrder", "BadRounds", "BadText", "NoRoom", "Unlike", "TooMany", "LETTERS", "MOST_LETTERS", "is_int", "is_name", "COMMA", "NONE_locks", "need_locks", "names_in", "Locks", "MOST_ROOMS", "NONE_orders", "rooms_of_part", "moments_in", "Order", "FEWEST", "is_row", "in_order", "Rounds"]
def nm1 : List PySem.Str := ["sums_of", "Priced", "Least", "FIGURES", "MOST_FIGURES", "number_in", "Page", "MOST_NUMBER", "is_short", "is_plain", "least_text", "order_in", "locks_in", "row_in", "read_least", "_law_pen", "_law_draw", "_law_pick", "_law_mixed", "_law_is_name", "_law_is_number", "_law_is_row", "_law_are_locks", "_law_is_order", "_law_due", "_law_heard", "_law_text", "_law_bent", "_law_right"]
def names : List PySem.Str := nm0 ++ nm1
def fa0 : List FaX := [.fa (.free "list"), .fa (.free "int"), .fa (.free "len"), .fa (.free "abs"), .fa (.keep "_law_draw"), .fa (.glo "_law_draw"), .fa (.keep "_law_pick"), .fa (.glo "_law_pick"), .fa (.free "str"), .fa (.free "sorted"), .fa (.free "set"), .fa (.keep "_law_is_name"), .fa (.glo "_law_is_name"), .fa (.keep "_law_is_number"), .fa (.glo "_law_is_number"), .fa (.keep "_law_are_locks"), .fa (.glo "_law_are_locks"), .fa (.keep "_law_is_order"), .fa (.glo "_law_is_order"), .fa (.free "range"), .fa (.free "tuple"), .fa (.keep "_law_is_row"), .fa (.glo "_law_is_row"), .isb "bool" [] [], .fa (.free "isinstance")]
def fa1 : List FaX := [.fa (.free "bool"), .isb "int" [] [], .fa (.int "MOST_NUMBER" (999999999999)), .fa (.keep "is_int"), .fa (.glo "is_int"), .fa (.free "iter"), .fa (.cls "Rounds"), .fa (.noat "Rounds" "own_rows"), .isb "str" [("Locks", false), ("Order", false)] [], .fa (.int "MOST_LETTERS" (8)), .fa (.free "all"), .fa (.str "LETTERS" "abcdefghijklmnopqrstuvwxyz"), .isb "tuple" [] [], .fa (.int "FEWEST" (2)), .fa (.keep "is_name"), .fa (.glo "is_name"), .fa (.free "any"), .fa (.free "enumerate"), .fa (.keep "is_row"), .fa (.glo "is_row"), .fa (.glo "BadRounds"), .fa (.noat "Rounds" "own_parts"), .isa "Least" [("Least", true)] [], .fa (.glo "Least"), .fa (.keep "is_short")]
def fa2 : List FaX := [.fa (.glo "is_short"), .fa (.cls "Least"), .fa (.noat "Least" "cost"), .isa "Locks" [("Locks", true), ("Order", false)] [], .fa (.glo "Locks"), .fa (.noat "Least" "locks"), .isa "Order" [("Order", true)] [], .fa (.glo "Order"), .fa (.noat "Least" "order"), .isa "Rounds" [("Rounds", true)] [], .fa (.glo "Rounds"), .fa (.noat "Least" "rounds"), .dun "Rounds" "__iter__", .dun "Rounds" "__getitem__", .fa (.cls "Order"), .fa (.noat "Order" "own_moments"), .fa (.cls "Locks"), .fa (.noat "Locks" "own_names"), .fa (.keep "is_plain"), .fa (.glo "is_plain"), .fa (.glo "BadHouse"), .dun "Order" "__str__", .dun "Locks" "__str__", .fa (.glo "BadText"), .fa (.cls "Page")]
def fa3 : List FaX := [.fa (.noat "Page" "rows"), .fa (.noat "Page" "at"), .fa (.noat "Page" "spot"), .fa (.meth "Page" "is_over"), .fa (.meth "Page" "upcoming"), .fa (.meth "Page" "refuse"), .fa (.meth "Page" "skip"), .fa (.meth "Page" "take"), .fa (.int "MOST_FIGURES" (12)), .fa (.str "FIGURES" "0123456789"), .fa (.keep "number_in"), .fa (.glo "number_in"), .fa (.str "NONE_locks" "-"), .fa (.str "COMMA" ","), .fa (.glo "BadLocks"), .fa (.keep "names_in"), .fa (.glo "names_in"), .fa (.mkr "Locks"), .fa (.keep "Locks"), .fa (.meth "Page" "rest"), .ans "BadText" [("BadText", true), ("BadHouse", false)], .cread "Locks", .cmet "Locks" "read", .fa (.meth "Page" "go_on"), .fa (.str "NONE_orders" "-")]
def fa4 : List FaX := [.fa (.int "MOST_ROOMS" (8)), .fa (.glo "BadOrder"), .fa (.keep "rooms_of_part"), .fa (.glo "rooms_of_part"), .fa (.glo "Unlike"), .fa (.glo "TooMany"), .fa (.noat "Order" "own_places"), .fa (.keep "moments_in"), .fa (.glo "moments_in"), .fa (.mkr "Order"), .fa (.keep "Order"), .cread "Order", .cmet "Order" "read", .fa (.meth "Page" "take_number"), .fa (.keep "in_order"), .fa (.glo "in_order"), .isb "dict" [] [], .fa (.free "dict"), .fa (.mkr "Page"), .fa (.keep "Page"), .fa (.glo "Page"), .fa (.meth "Page" "take_of"), .fa (.keep "locks_in"), .fa (.glo "locks_in"), .fa (.keep "order_in")]
def fa5 : List FaX := [.fa (.glo "order_in"), .fa (.keep "row_in"), .fa (.glo "row_in"), .fa (.mkr "Least"), .same "Least" "Priced" "__init__", .fa (.keep "Least"), .fa (.mkr "Rounds"), .fa (.keep "Rounds"), .ans "HouseError" [("BadText", true), ("BadHouse", true)], .fa (.glo "HouseError"), .fa (.keep "least_text"), .fa (.glo "least_text"), .fa (.keep "read_least"), .fa (.glo "read_least"), .isa "BadText" [] [("BadText", true), ("BadHouse", false)], .isa "BadInput" [] [("BadText", true), ("BadHouse", true)], .fa (.glo "BadInput"), .xf "word" ["BadText"], .xf "line" ["BadText"], .fa (.keep "_law_due"), .fa (.glo "_law_due"), .fa (.free "repr"), .fa (.keep "_law_heard"), .fa (.glo "_law_heard"), .fa (.keep "_law_pen")]
def fa6 : List FaX := [.fa (.glo "_law_pen"), .fa (.keep "_law_text"), .fa (.glo "_law_text"), .fa (.keep "_law_right"), .fa (.glo "_law_right"), .fa (.keep "_law_bent"), .fa (.glo "_law_bent"), .smet "Locks" "none", .oex "BadRounds" ["part"], .oex "BadHouse" ["part"], .oex "BadText" ["line", "word"], .oex "BadLocks" ["part"], .oex "BadOrder" ["part"], .oex "Unlike" ["part"], .oex "TooMany" ["what", "most"], .fa (.glo "law")]
def fa : List FaX := fa0 ++ fa1 ++ fa2 ++ fa3 ++ fa4 ++ fa5 ++ fa6
def d0 : DX := ⟨.glo "_law_pen", "_law_pen", "_law_pen", defArgs (top 55), defBody (top 55), defScope (top 55), []⟩
def d1 : DX := ⟨.glo "_law_draw", "_law_draw", "_law_draw", defArgs (top 56), defBody (top 56), defScope (top 56), []⟩
def d2 : DX := ⟨.glo "_law_pick", "_law_pick", "_law_pick", defArgs (top 57), defBody (top 57), defScope (top 57), []⟩
def d3 : DX := ⟨.glo "_law_text", "_law_text", "_law_text", defArgs (top 66), defBody (top 66), defScope (top 66), []⟩
def d4 : DX := ⟨.glo "_law_is_number", "_law_is_number", "_law_is_number", defArgs (top 60), defBody (top 60), defScope (top 60), []⟩
def d5 : DX := ⟨.glo "_law_is_name", "_law_is_name", "_law_is_name", defArgs (top 59), defBody (top 59), defScope (top 59), []⟩
def d6 : DX := ⟨.glo "_law_are_locks", "_law_are_locks", "_law_are_locks", defArgs (top 62), defBody (top 62), defScope (top 62), []⟩
def d7 : DX := ⟨.glo "_law_is_order", "_law_is_order", "_law_is_order", defArgs (top 63), defBody (top 63), defScope (top 63), []⟩
def d8 : DX := ⟨.glo "_law_is_row", "_law_is_row", "_law_is_row", defArgs (top 61), defBody (top 61), defScope (top 61), []⟩
def d9 : DX := ⟨.glo "_law_due", "_law_due", "_law_due", defArgs (top 64), defBody (top 64), defScope (top 64), []⟩
def d10 : DX := ⟨.glo "is_int", "is_int", "is_int", defArgs (top 16), defBody (top 16), defScope (top 16), []⟩
def d11 : DX := ⟨.glo "is_short", "is_short", "is_short", defArgs (top 46), defBody (top 46), defScope (top 46), []⟩
def d12 : DX := ⟨.me "Rounds" "__iter__", "__iter__", "Rounds.__iter__", defArgs (mth (top 34) 9), defBody (mth (top 34) 9), defScope (mth (top 34) 9), []⟩
def d13 : DX := ⟨.glo "is_name", "is_name", "is_name", defArgs (top 17), defBody (top 17), defScope (top 17), []⟩
def d14 : DX := ⟨.glo "is_row", "is_row", "is_row", defArgs (top 32), defBody (top 32), defScope (top 32), []⟩
def d15 : DX := ⟨.me "Rounds" "__getitem__", "__getitem__", "Rounds.__getitem__", defArgs (mth (top 34) 5), defBody (mth (top 34) 5), defScope (mth (top 34) 5), []⟩
def d16 : DX := ⟨.glo "is_plain", "is_plain", "is_plain", defArgs (top 47), defBody (top 47), defScope (top 47), []⟩
def d17 : DX := ⟨.me "Order" "__str__", "__str__", "Order.__str__", defArgs (mth (top 29) 11), defBody (mth (top 29) 11), defScope (mth (top 29) 11), []⟩
def d18 : DX := ⟨.me "Locks" "__str__", "__str__", "Locks.__str__", defArgs (mth (top 23) 15), defBody (mth (top 23) 15), defScope (mth (top 23) 15), []⟩
def d19 : DX := ⟨.glo "least_text", "least_text", "least_text", defArgs (top 48), defBody (top 48), defScope (top 48), []⟩
def d20 : DX := ⟨.me "Page" "__init__", "__init__", "Page.__init__", defArgs (mth (top 43) 0), defBody (mth (top 43) 0), defScope (mth (top 43) 0), []⟩
def d21 : DX := ⟨.me "Page" "is_over", "is_over", "Page.is_over", defArgs (mth (top 43) 1), defBody (mth (top 43) 1), defScope (mth (top 43) 1), []⟩
def d22 : DX := ⟨.me "Page" "upcoming", "upcoming", "Page.upcoming", defArgs (mth (top 43) 2), defBody (mth (top 43) 2), defScope (mth (top 43) 2), []⟩
def d23 : DX := ⟨.me "Page" "refuse", "refuse", "Page.refuse", defArgs (mth (top 43) 3), defBody (mth (top 43) 3), defScope (mth (top 43) 3), []⟩
def d24 : DX := ⟨.me "Page" "skip", "skip", "Page.skip", defArgs (mth (top 43) 4), defBody (mth (top 43) 4), defScope (mth (top 43) 4), []⟩
def d25 : DX := ⟨.me "Page" "take", "take", "Page.take", defArgs (mth (top 43) 5), defBody (mth (top 43) 5), defScope (mth (top 43) 5), []⟩
def d26 : DX := ⟨.me "Page" "take_of", "take_of", "Page.take_of", defArgs (mth (top 43) 6), defBody (mth (top 43) 6), defScope (mth (top 43) 6), []⟩
def d27 : DX := ⟨.glo "number_in", "number_in", "number_in", defArgs (top 42), defBody (top 42), defScope (top 42), []⟩
def d28 : DX := ⟨.me "Page" "take_number", "take_number", "Page.take_number", defArgs (mth (top 43) 8), defBody (mth (top 43) 8), defScope (mth (top 43) 8), []⟩
def d29 : DX := ⟨.me "Page" "go_on", "go_on", "Page.go_on", defArgs (mth (top 43) 10), defBody (mth (top 43) 10), defScope (mth (top 43) 10), []⟩
def d30 : DX := ⟨.me "Page" "rest", "rest", "Page.rest", defArgs (mth (top 43) 9), defBody (mth (top 43) 9), defScope (mth (top 43) 9), []⟩
def d31 : DX := ⟨.glo "names_in", "names_in", "names_in", defArgs (top 22), defBody (top 22), defScope (top 22), []⟩
def d32 : DX := ⟨.me "Locks" "__init__", "__init__", "Locks.__init__", defArgs (mth (top 23) 0), defBody (mth (top 23) 0), defScope (mth (top 23) 0), []⟩
def d33 : DX := ⟨.cm "Locks" "read", "read", "Locks.read", defArgs (mth (top 23) 3), defBody (mth (top 23) 3), defScope (mth (top 23) 3), []⟩
def d34 : DX := ⟨.glo "locks_in", "locks_in", "locks_in", defArgs (top 51), defBody (top 51), defScope (top 51), []⟩
def d35 : DX := ⟨.glo "moments_in", "moments_in", "moments_in", defArgs (top 28), defBody (top 28), defScope (top 28), []⟩
def d36 : DX := ⟨.glo "rooms_of_part", "rooms_of_part", "rooms_of_part", defArgs (top 27), defBody (top 27), defScope (top 27), []⟩
def d37 : DX := ⟨.me "Order" "__init__", "__init__", "Order.__init__", defArgs (mth (top 29) 0), defBody (mth (top 29) 0), defScope (mth (top 29) 0), []⟩
def d38 : DX := ⟨.cm "Order" "read", "read", "Order.read", defArgs (mth (top 29) 1), defBody (mth (top 29) 1), defScope (mth (top 29) 1), []⟩
def d39 : DX := ⟨.glo "order_in", "order_in", "order_in", defArgs (top 50), defBody (top 50), defScope (top 50), []⟩
def d40 : DX := ⟨.glo "in_order", "in_order", "in_order", defArgs (top 33), defBody (top 33), defScope (top 33), []⟩
def d41 : DX := ⟨.glo "row_in", "row_in", "row_in", defArgs (top 52), defBody (top 52), defScope (top 52), []⟩
def d42 : DX := ⟨.me "Priced" "__init__", "__init__", "Priced.__init__", defArgs (mth (top 37) 0), defBody (mth (top 37) 0), defScope (mth (top 37) 0), []⟩
def d43 : DX := ⟨.me "Rounds" "__init__", "__init__", "Rounds.__init__", defArgs (mth (top 34) 0), defBody (mth (top 34) 0), defScope (mth (top 34) 0), []⟩
def d44 : DX := ⟨.glo "read_least", "read_least", "read_least", defArgs (top 53), defBody (top 53), defScope (top 53), []⟩
def d45 : DX := ⟨.glo "_law_heard", "_law_heard", "_law_heard", defArgs (top 65), defBody (top 65), defScope (top 65), []⟩
def d46 : DX := ⟨.glo "_law_right", "_law_right", "_law_right", defArgs (top 68), defBody (top 68), defScope (top 68), []⟩
def d47 : DX := ⟨.glo "_law_bent", "_law_bent", "_law_bent", defArgs (top 67), defBody (top 67), defScope (top 67), []⟩
def d48 : DX := ⟨.sm "Locks" "none", "none", "Locks.none", defArgs (mth (top 23) 1), defBody (mth (top 23) 1), defScope (mth (top 23) 1), []⟩
def d49 : DX := ⟨.glo "law", "law", "law", defArgs (top 69), defBody (top 69), defScope (top 69), []⟩
def d50 : DX := ⟨.me "BadHouse" "__init__", "__init__", "BadHouse.__init__", defArgs (mth (top 5) 0), defBody (mth (top 5) 0), defScope (mth (top 5) 0), []⟩
def d51 : DX := ⟨.me "BadLocks" "__init__", "__init__", "BadLocks.__init__", defArgs (mth (top 6) 0), defBody (mth (top 6) 0), defScope (mth (top 6) 0), []⟩
def d52 : DX := ⟨.me "BadOrder" "__init__", "__init__", "BadOrder.__init__", defArgs (mth (top 7) 0), defBody (mth (top 7) 0), defScope (mth (top 7) 0), []⟩
def d53 : DX := ⟨.me "BadRounds" "__init__", "__init__", "BadRounds.__init__", defArgs (mth (top 8) 0), defBody (mth (top 8) 0), defScope (mth (top 8) 0), []⟩
def d54 : DX := ⟨.me "BadText" "__init__", "__init__", "BadText.__init__", defArgs (mth (top 9) 0), defBody (mth (top 9) 0), defScope (mth (top 9) 0), []⟩
def d55 : DX := ⟨.me "TooMany" "__init__", "__init__", "TooMany.__init__", defArgs (mth (top 12) 0), defBody (mth (top 12) 0), defScope (mth (top 12) 0), []⟩
def d56 : DX := ⟨.me "Unlike" "__init__", "__init__", "Unlike.__init__", defArgs (mth (top 11) 0), defBody (mth (top 11) 0), defScope (mth (top 11) 0), []⟩
def dx0 : List DX := [d0, d1, d2, d3, d4, d5, d6, d7, d8, d9, d10, d11, d12, d13, d14, d15, d16, d17, d18, d19]
def dx1 : List DX := [d20, d21, d22, d23, d24, d25, d26, d27, d28, d29, d30, d31, d32, d33, d34, d35, d36, d37, d38, d39]
def dx2 : List DX := [d40, d41, d42, d43, d44, d45, d46, d47, d48, d49, d50, d51, d52, d53, d54, d55, d56]
def dx : List DX := dx0 ++ dx1 ++ dx2
abbrev R : PySem.W.OpenRow := PySem.W.OpenLaw.row PySem.Challenge.rw_closinground_k89_texts_of_papers_refused
abbrev hk : PySem.W.Hook := hookX 4 fa dx
def ob (s : PySem.W.SharedT) : AlX := obsGX 4 fa dx (HandSHeadRun.getT s)
theorem ob_eq (s : PySem.W.SharedT) : ob s = hk.obs s.abs := obsGX_eq (HandSHeadRun.getT_eq s)
theorem run (w : World) : HandSHeadRun.RunEq R (PySem.W.view R.prog [69]) hk ob 8500 names w := by
  intro os
  kernel_rfl
end Hd
set_option Elab.async false
set_option linter.all false
set_option maxRecDepth 100000
set_option maxHeartbeats 2000000
namespace DL
open PySem PySem.Spec PyProof.Rows L2
/-- a value by its content; ref: an object by its address (a cell of the store, a class, a def) -/
inductive D where
  | non | bl (b : Bool) | int (i : Int) | str (s : Str) | ref (a : Addr) | ty (n : String)
  | tup (xs : List D) | lst (xs : List D)
  | dK (kvs : List (Key × D)) | dT (kvs : List (List Key × D))
  | ins (C : Addr) (fs : List (Str × D))
  /-- the law's own script -/
  | scr (ns : List Int)
  /-- a caught error of a class of the text, held -/
  | err (C : Addr) (fs : List (Str × D))
/-- what stands in the store: things that change -/
inductive MO where
  | lst (xs : List D)
  | dK (kvs : List (Key × D)) | dT (kvs : List (List Key × D))
  | ins (C dx : Addr) (fs : List (Str × D))
/-- a dict that a loop holds is the dict -/
def dcor : HO → HO
  | .frz _ (.dK k) => .dK k
  | .frz _ (.dT k) => .dT k
  | o => o
/-- a caught error at a, its fields' dict at d -/
def xeo (a C d : Addr) : HO := .ext fun h => ∃ oe, h.get? a = some oe ∧ oe.cls = .ref C ∧ oe.dict = some d ∧ ∃ vs, oe.data = .fields vs
section
variable (K : PySem.W.Frag) (F : Hp)
mutual
def Rp : D → V → Prop
  | .non, v => v = .non
  | .bl b, v => v = .bl b
  | .int i, v => v = .int i
  | .str s, v => v = .str s
  | .ref a, v => v = .ref a
  | .ty n, v => v = .ty n
  | .tup xs, v => ∃ a vs, v = .ref a ∧ F a = some (.tup vs) ∧ Rps xs vs
  | .lst xs, v => ∃ a vs, v = .ref a ∧ F a = some (.lst vs) ∧ Rps xs vs
  | .scr ns, v => ∃ a, v = .ref a ∧ SqL K F a (ns.map V.int)
  | .dK kvs, v => ∃ a ws, v = .ref a ∧ (∃ o, F a = some o ∧ dcor o = .dK ws) ∧ RpK kvs ws
  | .dT kvs, v => ∃ a ws, v = .ref a ∧ (∃ o, F a = some o ∧ dcor o = .dT ws) ∧ RpT kvs ws
  | .ins C fs, v => ∃ a dx ws, v = .ref a ∧ F a = some (.ins C dx ws) ∧ RpF fs ws
  | .err C fs, v => ∃ a d ws, v = .ref a ∧ F a = some (xeo a C d) ∧ F d = some (.xd ws) ∧ RpF fs ws
def Rps : List D → List V → Prop
  | [], vs => vs = []
  | d :: ds, vs => ∃ v ws, vs = v :: ws ∧ Rp d v ∧ Rps ds ws
def RpK : List (Key × D) → List (Key × V) → Prop
  | [], vs => vs = []
  | (k, d) :: ds, vs => ∃ v ws, vs = (k, v) :: ws ∧ Rp d v ∧ RpK ds ws
def RpT : List (List Key × D) → List (List Key × V) → Prop
  | [], vs => vs = []
  | (k, d) :: ds, vs => ∃ v ws, vs = (k, v) :: ws ∧ Rp d v ∧ RpT ds ws
def RpF : List (Str × D) → List (Str × V) → Prop
  | [], vs => vs = []
  | (k, d) :: ds, vs => ∃ v ws, vs = (k, v) :: ws ∧ Rp d v ∧ RpF ds ws
end
end
/-- what was frozen stays (a dict may be held by a loop) -/
def Ext (F F' : Hp) : Prop := ∀ a o, F a = some o → ∃ o', F' a = some o' ∧ dcor o' = dcor o ∧ ∀ b u, o = .frz b u → o' = o
theorem Ext.refl (F : Hp) : Ext F F := fun _ o h => ⟨o, h, rfl, fun _ _ _ => rfl⟩
theorem Ext.trans {F G L : Hp} (a : Ext F G) (b : Ext G L) : Ext F L := fun x o h => by
  obtain ⟨o1, h1, e1, k1⟩ := a x o h
  obtain ⟨o2, h2, e2, k2⟩ := b x o1 h1
  refine ⟨o2, h2, e2.trans e1, fun c u q => ?_⟩
  have z := k1 c u q
  rw [← z]
  exact k2 c u (z.trans q)
theorem dcor_of {o u : HO} (h : dcor o = dcor u) (hu : ∀ k, u ≠ .dK k) (hu2 : ∀ k, u ≠ .dT k) (hu3 : ∀ b k, u ≠ .frz b (.dK k)) (hu4 : ∀ b k, u ≠ .frz b (.dT k)) : o = u := by
  have e : dcor u = u := by
    unfold dcor
    split
    · exact absurd rfl (hu3 _ _)
    · exact absurd rfl (hu4 _ _)
    · rfl
  rw [e] at h
  unfold dcor at h
  split at h
  · exact absurd h.symm (hu _)
  · exact absurd h.symm (hu2 _)
  · exact h
theorem Ext.lst {F G : Hp} (e : Ext F G) {a : Addr} {xs : List V} (h : F a = some (.lst xs)) : G a = some (.lst xs) := by
  obtain ⟨o, h1, h2, _⟩ := e a _ h
  rw [h1, dcor_of h2 (by intro k; nofun) (by intro k; nofun) (by intro b k; nofun) (by intro b k; nofun)]
theorem Ext.tup {F G : Hp} (e : Ext F G) {a : Addr} {xs : List V} (h : F a = some (.tup xs)) : G a = some (.tup xs) := by
  obtain ⟨o, h1, h2, _⟩ := e a _ h
  rw [h1, dcor_of h2 (by intro k; nofun) (by intro k; nofun) (by intro b k; nofun) (by intro b k; nofun)]
theorem Ext.ins {F G : Hp} (e : Ext F G) {a C dx : Addr} {ws : List (Str × V)} (h : F a = some (.ins C dx ws)) : G a = some (.ins C dx ws) := by
  obtain ⟨o, h1, h2, _⟩ := e a _ h
  rw [h1, dcor_of h2 (by intro k; nofun) (by intro k; nofun) (by intro b k; nofun) (by intro b k; nofun)]
theorem Ext.own {F G : Hp} (e : Ext F G) {a x : Addr} (h : F a = some (.own x)) : G a = some (.own x) := by
  obtain ⟨o, h1, h2, _⟩ := e a _ h
  rw [h1, dcor_of h2 (by intro k; nofun) (by intro k; nofun) (by intro b k; nofun) (by intro b k; nofun)]
theorem Ext.frzL {F G : Hp} (e : Ext F G) {a : Addr} {b : Obj} {xs : List V} (h : F a = some (.frz b (.lst xs))) : G a = some (.frz b (.lst xs)) := by
  obtain ⟨o, h1, h2, _⟩ := e a _ h
  rw [h1, dcor_of h2 (by intro k; nofun) (by intro k; nofun) (by intro b k; nofun) (by intro b k; nofun)]
theorem Ext.frzT {F G : Hp} (e : Ext F G) {a : Addr} {b : Obj} {xs : List V} (h : F a = some (.frz b (.tup xs))) : G a = some (.frz b (.tup xs)) := by
  obtain ⟨o, h1, h2, _⟩ := e a _ h
  rw [h1, dcor_of h2 (by intro k; nofun) (by intro k; nofun) (by intro b k; nofun) (by intro b k; nofun)]
theorem Ext.sqL {K : PySem.W.Frag} {F G : Hp} (e : Ext F G) {a : Addr} {xs : List V} (h : SqL K F a xs) : SqL K G a xs := by
  rcases h with (h | ⟨o, h⟩) | h
  · exact .inl (.inl (e.lst h))
  · exact .inl (.inr ⟨o, e.frzL h⟩)
  · exact .inr h
theorem Ext.sqT {K : PySem.W.Frag} {F G : Hp} (e : Ext F G) {a : Addr} {xs : List V} (h : SqT K F a xs) : SqT K G a xs := by
  rcases h with (h | ⟨o, h⟩) | h
  · exact .inl (.inl (e.tup h))
  · exact .inl (.inr ⟨o, e.frzT h⟩)
  · exact .inr h
theorem Ext.xeo {F G : Hp} (e : Ext F G) {a b C d : Addr} (h : F a = some (DL.xeo b C d)) : G a = some (DL.xeo b C d) := by
  obtain ⟨o, h1, h2, _⟩ := e a _ h
  rw [h1, dcor_of h2 (by intro k; unfold DL.xeo; nofun) (by intro k; unfold DL.xeo; nofun) (by intro b k; unfold DL.xeo; nofun) (by intro b k; unfold DL.xeo; nofun)]
theorem Ext.xd {F G : Hp} (e : Ext F G) {a : Addr} {ws : List (Str × V)} (h : F a = some (.xd ws)) : G a = some (.xd ws) := by
  obtain ⟨o, h1, h2, _⟩ := e a _ h
  rw [h1, dcor_of h2 (by intro k; nofun) (by intro k; nofun) (by intro b k; nofun) (by intro b k; nofun)]
theorem Ext.new {F : Hp} {p : Addr} {o : HO} (h : F p = none) : Ext F (upd F p o) := fun a u e => ⟨u, by rw [upd_ne (ne_of_none e h)]; exact e, rfl, fun _ _ _ => rfl⟩
theorem Ext.lockK {F G : Hp} (e : Ext F G) {a : Addr} {b : Obj} {u : HO} (h : F a = some (.frz b u)) : G a = some (.frz b u) := by
  obtain ⟨o, h1, _, k⟩ := e a _ h
  rw [h1, k b u rfl]
section
variable {K : PySem.W.Frag} {F G : Hp} (e : Ext F G)
include e
mutual
theorem Rp.mono : ∀ (d : D) (v : V), Rp K F d v → Rp K G d v
  | .non, _, h => by unfold Rp at *; exact h
  | .bl _, _, h => by unfold Rp at *; exact h
  | .int _, _, h => by unfold Rp at *; exact h
  | .str _, _, h => by unfold Rp at *; exact h
  | .ref _, _, h => by unfold Rp at *; exact h
  | .ty _, _, h => by unfold Rp at *; exact h
  | .tup xs, _, h => by unfold Rp at *; obtain ⟨a, vs, rfl, s, r⟩ := h; exact ⟨a, vs, rfl, e.tup s, Rps.mono xs vs r⟩
  | .lst xs, _, h => by unfold Rp at *; obtain ⟨a, vs, rfl, s, r⟩ := h; exact ⟨a, vs, rfl, e.lst s, Rps.mono xs vs r⟩
  | .scr ns, _, h => by unfold Rp at *; obtain ⟨a, rfl, s⟩ := h; exact ⟨a, rfl, e.sqL s⟩
  | .dK kvs, _, h => by
    unfold Rp at *
    obtain ⟨a, ws, rfl, ⟨o, s, c⟩, r⟩ := h
    obtain ⟨o', s', c', _⟩ := e a o s
    exact ⟨a, ws, rfl, ⟨o', s', c'.trans c⟩, RpK.mono kvs ws r⟩
  | .dT kvs, _, h => by
    unfold Rp at *
    obtain ⟨a, ws, rfl, ⟨o, s, c⟩, r⟩ := h
    obtain ⟨o', s', c', _⟩ := e a o s
    exact ⟨a, ws, rfl, ⟨o', s', c'.trans c⟩, RpT.mono kvs ws r⟩
  | .ins C fs, _, h => by unfold Rp at *; obtain ⟨a, dx, ws, rfl, s, r⟩ := h; exact ⟨a, dx, ws, rfl, e.ins s, RpF.mono fs ws r⟩
  | .err C fs, _, h => by unfold Rp at *; obtain ⟨a, d, ws, rfl, s, s2, r⟩ := h; exact ⟨a, d, ws, rfl, e.xeo s, e.xd s2, RpF.mono fs ws r⟩
theorem Rps.mono : ∀ (ds : List D) (vs : List V), Rps K F ds vs → Rps K G ds vs
  | [], _, h => by unfold Rps at *; exact h
  | d :: ds, _, h => by unfold Rps at *; obtain ⟨v, ws, rfl, r, q⟩ := h; exact ⟨v, ws, rfl, Rp.mono d v r, Rps.mono ds ws q⟩
theorem RpK.mono : ∀ (ds : List (Key × D)) (vs : List (Key × V)), RpK K F ds vs → RpK K G ds vs
  | [], _, h => by unfold RpK at *; exact h
  | (k, d) :: ds, _, h => by unfold RpK at *; obtain ⟨v, ws, rfl, r, q⟩ := h; exact ⟨v, ws, rfl, Rp.mono d v r, RpK.mono ds ws q⟩
theorem RpT.mono : ∀ (ds : List (List Key × D)) (vs : List (List Key × V)), RpT K F ds vs → RpT K G ds vs
  | [], _, h => by unfold RpT at *; exact h
  | (k, d) :: ds, _, h => by unfold RpT at *; obtain ⟨v, ws, rfl, r, q⟩ := h; exact ⟨v, ws, rfl, Rp.mono d v r, RpT.mono ds ws q⟩
theorem RpF.mono : ∀ (ds : List (Str × D)) (vs : List (Str × V)), RpF K F ds vs → RpF K G ds vs
  | [], _, h => by unfold RpF at *; exact h
  | (k, d) :: ds, _, h => by unfold RpF at *; obtain ⟨v, ws, rfl, r, q⟩ := h; exact ⟨v, ws, rfl, Rp.mono d v r, RpF.mono ds ws q⟩
end
end
abbrev Store := Addr → Option MO
def sup (S : Store) (a : Addr) (m : MO) : Store := fun b => if b = a then some m else S b
theorem sup_same {S : Store} {a : Addr} {m : MO} : sup S a m a = some m := by unfold sup; rw [if_pos rfl]
theorem sup_ne {S : Store} {a b : Addr} {m : MO} (h : b ≠ a) : sup S a m b = S b := by unfold sup; rw [if_neg h]
def sdel (S : Store) (a : Addr) : Store := fun b => if b = a then none else S b
def RpM (K : PySem.W.Frag) (F : Hp) : MO → HO → Prop
  | .lst xs, o => ∃ vs, o = .lst vs ∧ Rps K F xs vs
  | .dK kvs, o => ∃ ws, o = .dK ws ∧ RpK K F kvs ws
  | .dT kvs, o => ∃ ws, o = .dT ws ∧ RpT K F kvs ws
  | .ins C dx fs, o => ∃ ws, o = .ins C dx ws ∧ RpF K F fs ws
theorem RpM.mono {K : PySem.W.Frag} {F G : Hp} (e : Ext F G) {m : MO} {o : HO} (h : RpM K F m o) : RpM K G m o := by
  cases m with
  | lst xs => obtain ⟨vs, rfl, r⟩ := h; exact ⟨vs, rfl, Rps.mono e _ _ r⟩
  | dK xs => obtain ⟨vs, rfl, r⟩ := h; exact ⟨vs, rfl, RpK.mono e _ _ r⟩
  | dT xs => obtain ⟨vs, rfl, r⟩ := h; exact ⟨vs, rfl, RpT.mono e _ _ r⟩
  | ins C dx xs => obtain ⟨vs, rfl, r⟩ := h; exact ⟨vs, rfl, RpF.mono e _ _ r⟩
/-- the heap: what is frozen, and the store -/
structure Sep (K : PySem.W.Frag) (F : Hp) (S : Store) (H : Hp) : Prop where
  fz : ∀ a o, F a = some o → H a = some o
  st : ∀ a m, S a = some m → F a = none ∧ ∃ o, H a = some o ∧ RpM K F m o
abbrev Env := List (Option D)
structure Envr (K : PySem.W.Frag) (F : Hp) (σ : L2.St) (ρ : Env) : Prop where
  len : σ.length = ρ.length
  at_ : ∀ (i : Nat) (d : D), ρ[i]? = some (some d) → ∃ v, σ[i]? = some (some v) ∧ Rp K F d v
section
variable {K : PySem.W.Frag} {F G : Hp} {S : Store} {H : Hp} {σ : L2.St} {ρ : Env}
theorem Envr.mono (e : Ext F G) (h : Envr K F σ ρ) : Envr K G σ ρ := ⟨h.len, fun i d q => let ⟨v, a, b⟩ := h.at_ i d q; ⟨v, a, Rp.mono e d v b⟩⟩
theorem Envr.set (h : Envr K F σ ρ) {i : Nat} {d : D} {v : V} (r : Rp K F d v) : Envr K F (σ.set i (some v)) (ρ.set i (some d)) := by
  refine ⟨by rw [List.length_set, List.length_set]; exact h.len, fun j u q => ?_⟩
  by_cases e : i = j
  · subst e
    have hl : i < ρ.length := by
      have := (List.getElem?_eq_some_iff.mp q).1
      rw [List.length_set] at this
      exact this
    rw [List.getElem?_set_self hl] at q
    cases q
    exact ⟨v, List.getElem?_set_self (by rw [h.len]; exact hl), r⟩
  · rw [List.getElem?_set_ne e] at q
    rw [List.getElem?_set_ne e]
    exact h.at_ j u q
/-- something new, frozen at once -/
theorem Sep.new (s : Sep K F S H) {p : Addr} {o : HO} (hp : H p = none) : Ext F (upd F p o) ∧ Sep K (upd F p o) S (upd H p o) := by
  have hF : F p = none := by
    cases q : F p with
    | none => rfl
    | some u => rw [s.fz p u q] at hp; cases hp
  refine ⟨Ext.new hF, fun a u q => ?_, fun a m q => ?_⟩
  · by_cases e : a = p
    · subst e; rw [upd_same] at q ⊢; exact q
    · rw [upd_ne e] at q ⊢; exact s.fz a u q
  · obtain ⟨h1, u, h2, h3⟩ := s.st a m q
    have e : a ≠ p := fun z => by subst z; rw [h2] at hp; cases hp
    exact ⟨by rw [upd_ne e]; exact h1, u, by rw [upd_ne e]; exact h2, h3.mono (Ext.new hF)⟩
/-- something new, put into the store -/
theorem Sep.newM (s : Sep K F S H) {p : Addr} {o : HO} {m : MO} (hp : H p = none) (r : RpM K F m o) : S p = none ∧ Sep K F (sup S p m) (upd H p o) := by
  have hF : F p = none := by
    cases q : F p with
    | none => rfl
    | some u => rw [s.fz p u q] at hp; cases hp
  have hS : S p = none := by
    cases q : S p with
    | none => rfl
    | some u => obtain ⟨_, o, h2, _⟩ := s.st p u q; rw [h2] at hp; cases hp
  refine ⟨hS, fun a u q => ?_, fun a m' q => ?_⟩
  · have e : a ≠ p := fun z => by subst z; rw [hF] at q; cases q
    rw [upd_ne e]; exact s.fz a u q
  · by_cases e : a = p
    · subst e
      rw [sup_same] at q
      cases q
      exact ⟨hF, o, upd_same, r⟩
    · rw [sup_ne e] at q
      obtain ⟨h1, u, h2, h3⟩ := s.st a m' q
      exact ⟨h1, u, by rw [upd_ne e]; exact h2, h3⟩
/-- what stands in the store is changed -/
theorem Sep.put (s : Sep K F S H) {p : Addr} {o : HO} {m m' : MO} (hp : S p = some m) (r : RpM K F m' o) : Sep K F (sup S p m') (upd H p o) := by
  obtain ⟨hF, _⟩ := s.st p m hp
  refine ⟨fun a u q => ?_, fun a m' q => ?_⟩
  · have e : a ≠ p := fun z => by subst z; rw [hF] at q; cases q
    rw [upd_ne e]; exact s.fz a u q
  · by_cases e : a = p
    · subst e
      rw [sup_same] at q
      cases q
      exact ⟨hF, o, upd_same, r⟩
    · rw [sup_ne e] at q
      obtain ⟨h1, u, h2, h3⟩ := s.st a m' q
      exact ⟨h1, u, by rw [upd_ne e]; exact h2, h3⟩
/-- what stands in the store is frozen -/
theorem Sep.freeze (s : Sep K F S H) {p : Addr} {o : HO} {m : MO} (hp : S p = some m) (ho : H p = some o) : Ext F (upd F p o) ∧ Sep K (upd F p o) (sdel S p) H := by
  obtain ⟨hF, _⟩ := s.st p m hp
  refine ⟨Ext.new hF, fun a u q => ?_, fun a m' q => ?_⟩
  · by_cases e : a = p
    · subst e; rw [upd_same] at q; cases q; exact ho
    · rw [upd_ne e] at q; exact s.fz a u q
  · unfold sdel at q
    by_cases e : a = p
    · rw [if_pos e] at q; cases q
    · rw [if_neg e] at q
      obtain ⟨h1, u, h2, h3⟩ := s.st a m' q
      exact ⟨by rw [upd_ne e]; exact h1, u, h2, h3.mono (Ext.new hF)⟩
end
/-- from a state to a later one: what was frozen stays, what is neither frozen nor in the store stays as it is (a tuple may be frozen at any time) -/
def Go (F : Hp) (S : Store) (H F' : Hp) (S' : Store) (H' : Hp) : Prop := Ext F F' ∧ ∀ a o, H a = some o → F a = none → S a = none → (∀ vs, o ≠ .tup vs) → H' a = some o ∧ F' a = none ∧ S' a = none
section
variable {F F1 F2 : Hp} {S S1 S2 : Store} {H H1 H2 : Hp} {K : PySem.W.Frag}
theorem Go.rfl : Go F S H F S H := ⟨Ext.refl F, fun _ _ h f s _ => ⟨h, f, s⟩⟩
theorem Go.trans (a : Go F S H F1 S1 H1) (b : Go F1 S1 H1 F2 S2 H2) : Go F S H F2 S2 H2 := ⟨a.1.trans b.1, fun x o h f s nt => by
  obtain ⟨h1, f1, s1⟩ := a.2 x o h f s nt
  exact b.2 x o h1 f1 s1 nt⟩
theorem Go.new {p : Addr} {o : HO} (s : Sep K F S H) (hp : H p = none) : Go F S H (upd F p o) S (upd H p o) := ⟨(s.new hp).1, fun a u h f q _ => by
  have e : a ≠ p := fun z => by subst z; rw [hp] at h; cases h
  exact ⟨by rw [upd_ne e]; exact h, by rw [upd_ne e]; exact f, q⟩⟩
theorem Go.newM {p : Addr} {o : HO} {m : MO} (hp : H p = none) : Go F S H F (sup S p m) (upd H p o) := ⟨Ext.refl F, fun a u h f q _ => by
  have e : a ≠ p := fun z => by subst z; rw [hp] at h; cases h
  exact ⟨by rw [upd_ne e]; exact h, f, by rw [sup_ne e]; exact q⟩⟩
theorem Go.put {p : Addr} {o : HO} {m m' : MO} (hp : S p = some m) : Go F S H F (sup S p m') (upd H p o) := ⟨Ext.refl F, fun a u h f q _ => by
  have e : a ≠ p := fun z => by subst z; rw [hp] at q; cases q
  exact ⟨by rw [upd_ne e]; exact h, f, by rw [sup_ne e]; exact q⟩⟩
theorem Go.freeze {p : Addr} {o : HO} {m : MO} (s : Sep K F S H) (hp : S p = some m) (ho : H p = some o) : Go F S H (upd F p o) (sdel S p) H := ⟨(s.freeze hp ho).1, fun a u h f q _ => by
  have e : a ≠ p := fun z => by subst z; rw [hp] at q; cases q
  exact ⟨h, by rw [upd_ne e]; exact f, by unfold sdel; rw [if_neg e]; exact q⟩⟩
/-- a tuple that stands in the heap is taken among what is frozen -/
theorem Sep.adopt (s : Sep K F S H) {q : Addr} {vs : List V} (hq : H q = some (.tup vs)) (hF : F q = none) : Go F S H (upd F q (.tup vs)) S H ∧ Sep K (upd F q (.tup vs)) S H := by
  have hS : S q = none := by
    cases z : S q with
    | none => rfl
    | some m =>
      obtain ⟨_, o, h2, h3⟩ := s.st q m z
      rw [hq] at h2
      cases h2
      cases m with
      | lst xs => obtain ⟨_, e, _⟩ := h3; cases e
      | dK xs => obtain ⟨_, e, _⟩ := h3; cases e
      | dT xs => obtain ⟨_, e, _⟩ := h3; cases e
      | ins C dx xs => obtain ⟨_, e, _⟩ := h3; cases e
  refine ⟨⟨Ext.new hF, fun a u h f g nt => ?_⟩, ⟨fun a u h => ?_, fun a m h => ?_⟩⟩
  · have e : a ≠ q := fun z => by subst z; rw [hq] at h; cases h; exact nt vs (Eq.refl _)
    exact ⟨h, by rw [upd_ne e]; exact f, g⟩
  · by_cases e : a = q
    · subst e; rw [upd_same] at h; cases h; exact hq
    · rw [upd_ne e] at h; exact s.fz a u h
  · obtain ⟨h1, u, h2, h3⟩ := s.st a m h
    have e : a ≠ q := fun z => by subst z; rw [hS] at h; cases h
    exact ⟨by rw [upd_ne e]; exact h1, u, h2, h3.mono (Ext.new hF)⟩
end
end DL
set_option Elab.async false
set_option linter.all false
set_option maxRecDepth 100000
set_option maxHeartbeats 2000000
namespace DL
open PySem PySem.Spec L2
abbrev DE := Env → Store → (D → Store → Prop) → Prop
abbrev DT := Env → Store → (Bool → Store → Prop) → Prop
abbrev DA := Env → Store → (List D → Store → Prop) → Prop
structure DEnds where
  nx : Env → Store → Prop
  rt : D → Store → Prop
  bk : Env → Store → Prop := fun _ _ => False
  ct : Env → Store → Prop := fun _ _ => False
abbrev DS := DEnds → Env → Store → Prop
/-- an error of a class of the text: its class, its fields -/
structure Exn where
  C : Addr
  fs : List (Str × D)
abbrev DW := Exn → Env → Store → Prop
abbrev DSp := List D → Store → (D → Store → Prop) → (Exn → Store → Prop) → Prop
def LkE (K : PySem.W.Frag) (F : Hp) (S : Store) (H : Hp) (Qd : D → Store → Prop) (Q : VK) : Prop := ∀ d S' v F' H', Qd d S' → Go F S H F' S' H' → Sep K F' S' H' → Rp K F' d v → Q v H'
def LkT (K : PySem.W.Frag) (F : Hp) (S : Store) (H : Hp) (Qd : Bool → Store → Prop) (Q : Bool → Hp → Prop) : Prop := ∀ b S' F' H', Qd b S' → Go F S H F' S' H' → Sep K F' S' H' → Q b H'
def LkA (K : PySem.W.Frag) (F : Hp) (S : Store) (H : Hp) (Qd : List D → Store → Prop) (Q : List V → Hp → Prop) : Prop := ∀ ds S' vs F' H', Qd ds S' → Go F S H F' S' H' → Sep K F' S' H' → Rps K F' ds vs → Q vs H'
def LkS (K : PySem.W.Frag) (F : Hp) (S : Store) (H : Hp) (N : Env → Store → Prop) (M : L2.St → Hp → Prop) : Prop := ∀ ρ S' σ F' H', N ρ S' → Go F S H F' S' H' → Sep K F' S' H' → Envr K F' σ ρ → M σ H'
structure LkD (K : PySem.W.Frag) (F : Hp) (S : Store) (H : Hp) (Δ : DEnds) (D : Ends) : Prop where
  nx : LkS K F S H Δ.nx D.nx
  rt : LkE K F S H Δ.rt D.rt
  bk : LkS K F S H Δ.bk D.bk
  ct : LkS K F S H Δ.ct D.ct
def RpX (K : PySem.W.Frag) (F : Hp) (cls : Value) (dx : Option Addr) (ex : Exn) : Prop :=
  cls = .ref ex.C ∧ ((dx = none ∧ ex.fs = []) ∨ ∃ d ws, dx = some d ∧ F d = some (.xd ws) ∧ RpF K F ex.fs ws)
def LkX (K : PySem.W.Frag) (F : Hp) (S : Store) (H : Hp) (ε : Exn → Store → Prop) (E : XK) : Prop := ∀ ex S' cls dx F' H', ε ex S' → Go F S H F' S' H' → Sep K F' S' H' → RpX K F' cls dx ex → E cls dx H'
def LkW (K : PySem.W.Frag) (F : Hp) (S : Store) (H : Hp) (ω : DW) (W : WX) : Prop := ∀ ex ρ S' cls dx σ F' H', ω ex ρ S' → Go F S H F' S' H' → Sep K F' S' H' → Envr K F' σ ρ → RpX K F' cls dx ex → W cls dx σ H'
section
variable {K : PySem.W.Frag} {F G : Hp} {S S1 : Store} {H H1 : Hp}
theorem LkE.mono {Qd : D → Store → Prop} {Q : VK} (e : Go F S H G S1 H1) (h : LkE K F S H Qd Q) : LkE K G S1 H1 Qd Q := fun d S' v F' H' q x => h d S' v F' H' q (e.trans x)
theorem LkT.mono {Qd : Bool → Store → Prop} {Q : Bool → Hp → Prop} (e : Go F S H G S1 H1) (h : LkT K F S H Qd Q) : LkT K G S1 H1 Qd Q := fun d S' F' H' q x => h d S' F' H' q (e.trans x)
theorem LkA.mono {Qd : List D → Store → Prop} {Q : List V → Hp → Prop} (e : Go F S H G S1 H1) (h : LkA K F S H Qd Q) : LkA K G S1 H1 Qd Q := fun d S' v F' H' q x => h d S' v F' H' q (e.trans x)
theorem LkS.mono {N : Env → Store → Prop} {M : L2.St → Hp → Prop} (e : Go F S H G S1 H1) (h : LkS K F S H N M) : LkS K G S1 H1 N M := fun ρ S σ F' H q x => h ρ S σ F' H q (e.trans x)
theorem LkD.mono {Δ : DEnds} {D : Ends} (e : Go F S H G S1 H1) (h : LkD K F S H Δ D) : LkD K G S1 H1 Δ D := ⟨h.nx.mono e, h.rt.mono e, h.bk.mono e, h.ct.mono e⟩
theorem LkX.mono {ε : Exn → Store → Prop} {E : XK} (e : Go F S H G S1 H1) (h : LkX K F S H ε E) : LkX K G S1 H1 ε E := fun ex S' c d F' H' q x => h ex S' c d F' H' q (e.trans x)
theorem LkW.mono {ω : DW} {W : WX} (e : Go F S H G S1 H1) (h : LkW K F S H ω W) : LkW K G S1 H1 ω W := fun ex ρ S' c d σ F' H' q x => h ex ρ S' c d σ F' H' q (e.trans x)
theorem lkS_no {M : L2.St → Hp → Prop} : LkS K F S H (fun _ _ => False) M := fun _ _ _ _ _ q => q.elim
theorem lkW_no {W : WX} : LkW K F S H (fun _ _ _ => False) W := fun _ _ _ _ _ _ _ _ q => q.elim
end
/-- where a reading begins: what is frozen, the store, the heap -/
structure Bs where
  F : Hp
  S : Store
  H : Hp
def Bs.to (B : Bs) (F : Hp) (S : Store) (H : Hp) : Prop := Go B.F B.S B.H F S H
theorem Bs.to.trans {B : Bs} {F F1 : Hp} {S S1 : Store} {H H1 : Hp} (a : B.to F S H) (b : Go F S H F1 S1 H1) : B.to F1 S1 H1 := Go.trans a b
def SimE (K : PySem.W.Frag) (F0 : Bs) (t : TE) (δ : DE) : Prop := ∀ σ ρ H F S Q Qd, F0.to F S H → Sep K F S H → Envr K F σ ρ → LkE K F S H Qd Q → δ ρ S Qd → t σ H Q
def SimT (K : PySem.W.Frag) (F0 : Bs) (t : TT) (δ : DT) : Prop := ∀ σ ρ H F S Q Qd, F0.to F S H → Sep K F S H → Envr K F σ ρ → LkT K F S H Qd Q → δ ρ S Qd → t σ H Q
def SimA (K : PySem.W.Frag) (F0 : Bs) (t : TA) (δ : DA) : Prop := ∀ σ ρ H F S Q Qd, F0.to F S H → Sep K F S H → Envr K F σ ρ → LkA K F S H Qd Q → δ ρ S Qd → t σ H Q
def SimS (K : PySem.W.Frag) (F0 : Bs) (t : TS) (δ : DS) : Prop := ∀ σ ρ H F S D Δ, F0.to F S H → Sep K F S H → Envr K F σ ρ → LkD K F S H Δ D → δ Δ ρ S → t D σ H
abbrev DR2 := D → D → Store → (D → Store → Prop) → Prop
def SimR (K : PySem.W.Frag) (F0 : Bs) (r : R2) (o : DR2) : Prop := ∀ x y dx dy H F S Q Qd, F0.to F S H → Sep K F S H → Rp K F dx x → Rp K F dy y → LkE K F S H Qd Q → o dx dy S Qd → r x y H Q
abbrev DR1 := D → Store → (D → Store → Prop) → Prop
def SimU (K : PySem.W.Frag) (F0 : Bs) (r : V → Hp → VK → Prop) (o : DR1) : Prop := ∀ x dx H F S Q Qd, F0.to F S H → Sep K F S H → Rp K F dx x → LkE K F S H Qd Q → o dx S Qd → r x H Q
abbrev DRn := List D → Store → (D → Store → Prop) → Prop
def SimC (K : PySem.W.Frag) (F0 : Bs) (r : List V → Hp → VK → Prop) (o : DRn) : Prop := ∀ xs ds H F S Q Qd, F0.to F S H → Sep K F S H → Rps K F ds xs → LkE K F S H Qd Q → o ds S Qd → r xs H Q
def SimM (K : PySem.W.Frag) (F0 : Bs) (r : V → List V → Hp → VK → Prop) (o : D → DRn) : Prop := ∀ x dx xs ds H F S Q Qd, F0.to F S H → Sep K F S H → Rp K F dx x → Rps K F ds xs → LkE K F S H Qd Q → o dx ds S Qd → r x xs H Q
structure PD (X : Cx) (F0 : Bs) (e : Expr) (t : TE) (δ : DE) : Prop where
  pe : PE X e t
  sim : SimE X.K F0 t δ
structure PDT (X : Cx) (F0 : Bs) (e : Expr) (t : TT) (δ : DT) : Prop where
  pt : PT X e t
  sim : SimT X.K F0 t δ
structure PDW (X : Cx) (F0 : Bs) (e : Expr) (t : TT) (δ : DT) : Prop where
  pw : PW X e t
  sim : SimT X.K F0 t δ
structure PDA (X : Cx) (F0 : Bs) (es : List Expr) (t : TA) (δ : DA) : Prop where
  pa : PA X es t
  sim : SimA X.K F0 t δ
structure PDS (X : Cx) (F0 : Bs) (st : Stmt) (t : TS) (δ : DS) : Prop where
  ps : PS X st t
  sim : SimS X.K F0 t δ
structure PDSs (X : Cx) (F0 : Bs) (st : List Stmt) (t : TS) (δ : DS) : Prop where
  pss : PSs X st t
  sim : SimS X.K F0 t δ
section
variable {K : PySem.W.Frag} {F : Hp} {v : V} {vs : List V}
theorem rp_non (h : Rp K F .non v) : v = .non := by unfold Rp at h; exact h
theorem rp_bl {b : Bool} (h : Rp K F (.bl b) v) : v = .bl b := by unfold Rp at h; exact h
theorem rp_int {i : Int} (h : Rp K F (.int i) v) : v = .int i := by unfold Rp at h; exact h
theorem rp_str {s : Str} (h : Rp K F (.str s) v) : v = .str s := by unfold Rp at h; exact h
theorem rp_ref {a : Addr} (h : Rp K F (.ref a) v) : v = .ref a := by unfold Rp at h; exact h
theorem rp_tup {xs : List D} (h : Rp K F (.tup xs) v) : ∃ a vs, v = .ref a ∧ F a = some (.tup vs) ∧ Rps K F xs vs := by unfold Rp at h; exact h
theorem rp_lst {xs : List D} (h : Rp K F (.lst xs) v) : ∃ a vs, v = .ref a ∧ F a = some (.lst vs) ∧ Rps K F xs vs := by unfold Rp at h; exact h
theorem rp_ins {C : Addr} {fs : List (Str × D)} (h : Rp K F (.ins C fs) v) : ∃ a dx ws, v = .ref a ∧ F a = some (.ins C dx ws) ∧ RpF K F fs ws := by unfold Rp at h; exact h
theorem rp_mk_non : Rp K F .non .non := by unfold Rp; rfl
theorem rp_mk_bl {b : Bool} : Rp K F (.bl b) (.bl b) := by unfold Rp; rfl
theorem rp_mk_int {i : Int} : Rp K F (.int i) (.int i) := by unfold Rp; rfl
theorem rp_mk_str {s : Str} : Rp K F (.str s) (.str s) := by unfold Rp; rfl
theorem rp_mk_ref {a : Addr} : Rp K F (.ref a) (.ref a) := by unfold Rp; rfl
theorem rp_mk_ty {n : String} : Rp K F (.ty n) (.ty n) := by unfold Rp; rfl
theorem rp_mk_tup {a : Addr} {xs : List D} (h : F a = some (.tup vs)) (r : Rps K F xs vs) : Rp K F (.tup xs) (.ref a) := by unfold Rp; exact ⟨a, vs, rfl, h, r⟩
theorem rp_mk_lst {a : Addr} {xs : List D} (h : F a = some (.lst vs)) (r : Rps K F xs vs) : Rp K F (.lst xs) (.ref a) := by unfold Rp; exact ⟨a, vs, rfl, h, r⟩
theorem rps_nil : Rps K F [] vs ↔ vs = [] := by unfold Rps; exact Iff.rfl
theorem rps_cons {d : D} {ds : List D} : Rps K F (d :: ds) vs ↔ ∃ v ws, vs = v :: ws ∧ Rp K F d v ∧ Rps K F ds ws := by
  constructor
  · intro h; unfold Rps at h; exact h
  · intro h; unfold Rps; exact h
theorem rps_mk_nil : Rps K F [] [] := rps_nil.mpr rfl
theorem rps_mk {d : D} {ds : List D} (h : Rp K F d v) (r : Rps K F ds vs) : Rps K F (d :: ds) (v :: vs) := rps_cons.mpr ⟨v, vs, rfl, h, r⟩
theorem rps_1 {d : D} (h : Rps K F [d] vs) : ∃ v, vs = [v] ∧ Rp K F d v := by
  obtain ⟨v, ws, rfl, r, q⟩ := rps_cons.mp h
  rw [rps_nil.mp q]
  exact ⟨v, rfl, r⟩
theorem rps_2 {d e : D} (h : Rps K F [d, e] vs) : ∃ v w, vs = [v, w] ∧ Rp K F d v ∧ Rp K F e w := by
  obtain ⟨v, ws, rfl, r, q⟩ := rps_cons.mp h
  obtain ⟨w, e2, q2⟩ := rps_1 q
  subst e2
  exact ⟨v, w, rfl, r, q2⟩
theorem Rps.length : ∀ {ds : List D} {vs : List V}, Rps K F ds vs → vs.length = ds.length
  | [], vs, h => by rw [rps_nil.mp h]; rfl
  | d :: ds, vs, h => by
    obtain ⟨v, ws, rfl, r, q⟩ := rps_cons.mp h
    rw [List.length_cons, List.length_cons, Rps.length q]
theorem Rps.append : ∀ {ds es : List D} {vs ws : List V}, Rps K F ds vs → Rps K F es ws → Rps K F (ds ++ es) (vs ++ ws)
  | [], es, vs, ws, h, q => by rw [rps_nil.mp h]; exact q
  | d :: ds, es, vs, ws, h, q => by
    obtain ⟨v, us, rfl, r, h'⟩ := rps_cons.mp h
    exact rps_mk r (Rps.append h' q)
theorem Rps.get : ∀ {ds : List D} {vs : List V} {i : Nat} {d : D}, Rps K F ds vs → ds[i]? = some d → ∃ v, vs[i]? = some v ∧ Rp K F d v
  | [], vs, i, d, h, e => by simp at e
  | x :: ds, vs, 0, d, h, e => by
    obtain ⟨v, us, rfl, r, h'⟩ := rps_cons.mp h
    simp at e
    subst e
    exact ⟨v, rfl, r⟩
  | x :: ds, vs, i + 1, d, h, e => by
    obtain ⟨v, us, rfl, r, h'⟩ := rps_cons.mp h
    exact Rps.get (i := i) h' (by simpa using e)
theorem Rps.got : ∀ {ds : List D} {vs : List V} {i : Nat} {v : V}, Rps K F ds vs → vs[i]? = some v → ∃ d, ds[i]? = some d ∧ Rp K F d v
  | [], vs, i, v, h, e => by rw [rps_nil.mp h] at e; simp at e
  | x :: ds, vs, 0, v, h, e => by
    obtain ⟨v', us, rfl, r, h'⟩ := rps_cons.mp h
    simp at e
    subst e
    exact ⟨x, rfl, r⟩
  | x :: ds, vs, i + 1, v, h, e => by
    obtain ⟨v', us, rfl, r, h'⟩ := rps_cons.mp h
    exact Rps.got (i := i) h' (by simpa using e)
theorem Rps.strs : ∀ {ss : List Str} {vs : List V}, Rps K F (ss.map D.str) vs → vs = ss.map V.str
  | [], vs, h => rps_nil.mp h
  | s :: ss, vs, h => by
    obtain ⟨v, us, rfl, r, h'⟩ := rps_cons.mp h
    rw [rp_str r, Rps.strs h']; rfl
theorem Rps.ints : ∀ {ss : List Int} {vs : List V}, Rps K F (ss.map D.int) vs → vs = ss.map V.int
  | [], vs, h => rps_nil.mp h
  | s :: ss, vs, h => by
    obtain ⟨v, us, rfl, r, h'⟩ := rps_cons.mp h
    rw [rp_int r, Rps.ints h']; rfl
theorem Rps.bls : ∀ {ss : List Bool} {vs : List V}, Rps K F (ss.map D.bl) vs → vs = ss.map V.bl
  | [], vs, h => rps_nil.mp h
  | s :: ss, vs, h => by
    obtain ⟨v, us, rfl, r, h'⟩ := rps_cons.mp h
    rw [rp_bl r, Rps.bls h']; rfl
theorem Rps.mk_strs : ∀ (ss : List Str), Rps K F (ss.map D.str) (ss.map V.str)
  | [] => rps_mk_nil
  | s :: ss => rps_mk rp_mk_str (Rps.mk_strs ss)
theorem Rps.mk_ints : ∀ (ss : List Int), Rps K F (ss.map D.int) (ss.map V.int)
  | [] => rps_mk_nil
  | s :: ss => rps_mk rp_mk_int (Rps.mk_ints ss)
theorem Rps.mk_bls : ∀ (ss : List Bool), Rps K F (ss.map D.bl) (ss.map V.bl)
  | [] => rps_mk_nil
  | s :: ss => rps_mk rp_mk_bl (Rps.mk_bls ss)
end
section
variable {X : Cx} {F0 : Bs} {a b c e : Expr} {ta tb tc : TE} {da db dc : DE} {pos : Pos}
def dVar (i : Nat) : DE := fun ρ S Q => match ρ[i]? with
  | some (some d) => Q d S
  | _ => False
theorem sim_var {K : PySem.W.Frag} {i : Nat} : SimE K F0 (tVar i) (dVar i) := fun σ ρ H F S Q Qd _ s en lk h => by
  unfold dVar at h
  split at h
  · rename_i d e
    obtain ⟨v, h1, h2⟩ := en.at_ i d e
    exact ⟨v, h1, lk d S v F H h Go.rfl s h2⟩
  · exact h.elim
theorem d_var (i : Nat) {x : Str} {pos : Pos} (hN : X.N[i]? = some x := by rfl) (hv : Vis X.env.scope x := by first | exact Or.inl rfl | exact Or.inr (Or.inl rfl) | exact Or.inr (Or.inr rfl)) (hd : (x == ("__debug__" : Str)) = false := by decide)
    (hcd : (x == ("__classdict__" : Str)) = false := by decide) : PD X F0 (.Name x pos) (tVar i) (dVar i) := ⟨pe_var hN hv hd hcd, sim_var⟩
def dC (d : D) : DE := fun _ S Q => Q d S
theorem sim_c {K : PySem.W.Frag} {v : V} {d : D} (h : ∀ F, Rp K F d v) : SimE K F0 (tC v) (dC d) := fun σ ρ H F S Q Qd _ s en lk q => lk d S v F H q Go.rfl s (h F)
theorem d_int {i j pos} : PD X F0 (.Constant (.int i) j pos) (tC (.int i)) (dC (.int i)) := ⟨pe_int, sim_c fun _ => rp_mk_int⟩
theorem d_bl {i j pos} : PD X F0 (.Constant (.bool i) j pos) (tC (.bl i)) (dC (.bl i)) := ⟨pe_bl, sim_c fun _ => rp_mk_bl⟩
theorem d_non {j pos} : PD X F0 (.Constant .none j pos) (tC .non) (dC .non) := ⟨pe_non, sim_c fun _ => rp_mk_non⟩
theorem d_str {i j pos} : PD X F0 (.Constant (.str i) j pos) (tC (.str i)) (dC (.str i)) := ⟨pe_str, sim_c fun _ => rp_mk_str⟩
theorem d_gint {x : Str} {i : Int} {t : Tok} {pos : Pos} (hm : X.mg x = some (.int i t)) (hg : Gl X x := by rfl) (hd : (x == ("__debug__" : Str)) = false := by decide) : PD X F0 (.Name x pos) (tC (.int i)) (dC (.int i)) := ⟨pe_glob hg hm ⟨t, rfl⟩ hd, sim_c fun _ => rp_mk_int⟩
theorem d_gstr {x : Str} {i : Str} {t : Tok} {pos : Pos} (hm : X.mg x = some (.str i t)) (hg : Gl X x := by rfl) (hd : (x == ("__debug__" : Str)) = false := by decide) : PD X F0 (.Name x pos) (tC (.str i)) (dC (.str i)) := ⟨pe_glob hg hm ⟨t, rfl⟩ hd, sim_c fun _ => rp_mk_str⟩
def dOp (o : DR2) (a b : DE) : DE := fun ρ S Q => a ρ S fun x S1 => b ρ S1 fun y S2 => o x y S2 Q
theorem sim_op {K : PySem.W.Frag} {r : R2} {o : DR2} (hr : SimR K F0 r o) (ha : SimE K F0 ta da) (hb : SimE K F0 tb db) : SimE K F0 (tOp r ta tb) (dOp o da db) := by
  intro σ ρ H F S Q Qd e0 s en lk h
  refine ha σ ρ H F S _ _ e0 s en ?_ h
  intro x S1 v F1 H1 q1 e1 s1 r1
  refine hb σ ρ H1 F1 S1 _ _ (e0.trans e1) s1 (en.mono e1.1) ?_ q1
  intro y S2 w F2 H2 q2 e2 s2 r2
  exact hr v w x y H2 F2 S2 Q Qd ((e0.trans e1).trans e2) s2 (Rp.mono e2.1 _ _ r1) r2 (lk.mono (e1.trans e2)) q2
/-- an operator's rule at both levels -/
structure DOp (X : Cx) (F0 : Bs) (f : Value → Value → Sem Value) (r : R2) (o : DR2) : Prop where
  op : OpR X f r
  sim : SimR X.K F0 r o
theorem d_op {op : Operator} {r : R2} {o : DR2} (ho : DOp X F0 (binaryOp op) r o) (ha : PD X F0 a ta da) (hb : PD X F0 b tb db) : PD X F0 (.BinOp a op b pos) (tOp r ta tb) (dOp o da db) := ⟨pe_op ho.op ha.pe hb.pe, sim_op ho.sim ha.sim hb.sim⟩
theorem d_cmp {op : CmpOp} {r : R2} {o : DR2} (ho : DOp X F0 (compareOp op) r o) (ha : PD X F0 a ta da) (hb : PD X F0 b tb db) (hm : behindInMarks op b = false := by rfl) : PD X F0 (.Compare a [op] [b] pos) (tOp r ta tb) (dOp o da db) := ⟨pe_cmpR ho.op ha.pe hb.pe hm, sim_op ho.sim ha.sim hb.sim⟩
def dTest (t : DE) : DT := fun ρ S Q => t ρ S fun d S1 => match d with
  | .bl b => Q b S1
  | _ => False
theorem sim_test {K : PySem.W.Frag} {t : TE} {d : DE} (h : SimE K F0 t d) : SimT K F0 (tTest t) (dTest d) := by
  intro σ ρ H F S Q Qd e0 s en lk q
  refine h σ ρ H F S _ _ e0 s en ?_ q
  intro x S1 v F1 H1 q1 e1 s1 r1
  cases x with
  | bl b => exact ⟨b, rp_bl r1, lk b S1 F1 H1 q1 e1 s1⟩
  | _ => exact q1.elim
theorem d_tcmp {op : CmpOp} {r : R2} {o : DR2} (ho : DOp X F0 (compareOp op) r o) (ha : PD X F0 a ta da) (hb : PD X F0 b tb db) (hm : behindInMarks op b = false := by rfl) : PDT X F0 (.Compare a [op] [b] pos) (tTest (tOp r ta tb)) (dTest (dOp o da db)) := ⟨pt_cmpR ho.op ha.pe hb.pe hm, sim_test (sim_op ho.sim ha.sim hb.sim)⟩
theorem d_tval {t : TE} {d : DE} (h : PD X F0 e t d) (he : ∀ whole, isTrue e X.env whole = (do let v ← whole; standAt e.pos; holding [v] (truthy v)) := by intro _; rfl) : PDT X F0 e (tB t) (dTest d) := ⟨pt_val h.pe he, sim_test h.sim⟩
/-- a < b < c -/
def dChain (o o' : DR2) (a b c : DE) : DE := fun ρ S Q => a ρ S fun x S1 => b ρ S1 fun y S2 => o x y S2 fun z S3 => match z with
  | .bl true => c ρ S3 fun w S4 => o' y w S4 Q
  | .bl false => Q (.bl false) S3
  | _ => False
end
end DL
set_option Elab.async false
set_option linter.all false
set_option maxRecDepth 100000
set_option maxHeartbeats 2000000
namespace DL
open PySem PySem.Spec L2
section
variable {X : Cx} {F0 : Bs} {K : PySem.W.Frag} {a b c e : Expr} {ta tb tc te : TE} {da db dc de : DE} {pos : Pos} {t u : TT} {dt du : DT} {rest : List Expr} {es : List Expr}
theorem d_chain {op op' : CmpOp} {r r' : R2} {o o' : DR2} (ho : DOp X F0 (compareOp op) r o) (ho' : DOp X F0 (compareOp op') r' o') (ha : PD X F0 a ta da) (hb : PD X F0 b tb db) (hc : PD X F0 c tc dc)
    (hm : lastMarks [op, op'] [b, c] = false := by with_unfolding_all rfl) : PD X F0 (.Compare a [op, op'] [b, c] pos) (tChain r r' ta tb tc) (dChain o o' da db dc) := by
  refine ⟨pe_chain ho.op ho'.op ha.pe hb.pe hc.pe hm, ?_⟩
  intro σ ρ H F S Q Qd e0 s en lk h
  refine ha.sim σ ρ H F S _ _ e0 s en ?_ h
  intro x S1 v F1 H1 q1 e1 s1 r1
  refine hb.sim σ ρ H1 F1 S1 _ _ (e0.trans e1) s1 (en.mono e1.1) ?_ q1
  intro y S2 w F2 H2 q2 e2 s2 r2
  refine ho.sim v w x y H2 F2 S2 _ _ ((e0.trans e1).trans e2) s2 (Rp.mono e2.1 _ _ r1) r2 ?_ q2
  intro z S3 zv F3 H3 q3 e3 s3 r3
  cases z with
  | bl k =>
    refine ⟨k, rp_bl r3, ?_⟩
    cases k with
    | true =>
      show tc σ H3 fun w' H4 => r' w w' H4 Q
      refine hc.sim σ ρ H3 F3 S3 _ _ (((e0.trans e1).trans e2).trans e3) s3 (en.mono ((e1.trans e2).trans e3).1) ?_ q3
      intro z S4 zv F4 H4 q4 e4 s4 r4
      exact ho'.sim w zv y z H4 F4 S4 Q Qd ((((e0.trans e1).trans e2).trans e3).trans e4) s4 (Rp.mono (e3.trans e4).1 _ _ r2) r4 (lk.mono (((e1.trans e2).trans e3).trans e4)) q4
    | false => exact lk _ S3 _ F3 H3 q3 ((e1.trans e2).trans e3) s3 rp_mk_bl
  | _ => exact q3.elim
theorem d_tchain {op op' : CmpOp} {r r' : R2} {o o' : DR2} (ho : DOp X F0 (compareOp op) r o) (ho' : DOp X F0 (compareOp op') r' o') (ha : PD X F0 a ta da) (hb : PD X F0 b tb db) (hc : PD X F0 c tc dc)
    (hm : lastMarks [op, op'] [b, c] = false := by with_unfolding_all rfl) : PDT X F0 (.Compare a [op, op'] [b, c] pos) (tTest (tChain r r' ta tb tc)) (dTest (dChain o o' da db dc)) :=
  ⟨pt_chain ho.op ho'.op ha.pe hb.pe hc.pe hm, sim_test (PD.sim (e := .Compare a [op, op'] [b, c] pos) (d_chain (pos := pos) ho ho' ha hb hc hm))⟩
def dAnd (t u : DT) : DT := fun ρ S Q => t ρ S fun c S1 => match c with | true => u ρ S1 Q | false => Q false S1
def dOr (t u : DT) : DT := fun ρ S Q => t ρ S fun c S1 => match c with | true => Q true S1 | false => u ρ S1 Q
def dNot (t : DT) : DT := fun ρ S Q => t ρ S fun c S1 => Q (!c) S1
theorem sim_and (h1 : SimT K F0 t dt) (h2 : SimT K F0 u du) : SimT K F0 (tAnd t u) (dAnd dt du) := by
  intro σ ρ H F S Q Qd e0 s en lk h
  refine h1 σ ρ H F S _ _ e0 s en ?_ h
  intro c S1 F1 H1 q1 e1 s1
  cases c with
  | true =>
    show u σ H1 Q
    exact h2 σ ρ H1 F1 S1 Q Qd (e0.trans e1) s1 (en.mono e1.1) (lk.mono e1) q1
  | false => exact lk false S1 F1 H1 q1 e1 s1
theorem sim_or (h1 : SimT K F0 t dt) (h2 : SimT K F0 u du) : SimT K F0 (tOr t u) (dOr dt du) := by
  intro σ ρ H F S Q Qd e0 s en lk h
  refine h1 σ ρ H F S _ _ e0 s en ?_ h
  intro c S1 F1 H1 q1 e1 s1
  cases c with
  | false =>
    show u σ H1 Q
    exact h2 σ ρ H1 F1 S1 Q Qd (e0.trans e1) s1 (en.mono e1.1) (lk.mono e1) q1
  | true => exact lk true S1 F1 H1 q1 e1 s1
theorem d_and1 (ha : PDT X F0 a t dt) : PDW X F0 (.BoolOp .And [a] pos) t dt := ⟨pw_and1 ha.pt, ha.sim⟩
theorem d_or1 (ha : PDT X F0 a t dt) : PDW X F0 (.BoolOp .Or [a] pos) t dt := ⟨pw_or1 ha.pt, ha.sim⟩
theorem d_and (ha : PDT X F0 a t dt) (hb : PDW X F0 (.BoolOp .And (b :: rest) pos) u du) : PDW X F0 (.BoolOp .And (a :: b :: rest) pos) (tAnd t u) (dAnd dt du) := ⟨pw_and ha.pt hb.pw, sim_and ha.sim hb.sim⟩
theorem d_or (ha : PDT X F0 a t dt) (hb : PDW X F0 (.BoolOp .Or (b :: rest) pos) u du) : PDW X F0 (.BoolOp .Or (a :: b :: rest) pos) (tOr t u) (dOr dt du) := ⟨pw_or ha.pt hb.pw, sim_or ha.sim hb.sim⟩
theorem PDW.test (h : PDW X F0 e t dt) : PDT X F0 e t dt := ⟨h.pw.pt, h.sim⟩
theorem d_not (ha : PDT X F0 a t dt) : PDT X F0 (.UnaryOp .Not a pos) (tNot t) (dNot dt) := by
  refine ⟨pt_not ha.pt, ?_⟩
  intro σ ρ H F S Q Qd e0 s en lk h
  exact ha.sim σ ρ H F S _ _ e0 s en (fun c S1 F1 H1 q1 e1 s1 => lk _ S1 F1 H1 q1 e1 s1) h
/-- .. as values (bools) -/
def dAndV (a b : DE) : DE := fun ρ S Q => a ρ S fun x S1 => match x with | .bl true => b ρ S1 Q | .bl false => Q (.bl false) S1 | _ => False
def dOrV (a b : DE) : DE := fun ρ S Q => a ρ S fun x S1 => match x with | .bl true => Q (.bl true) S1 | .bl false => b ρ S1 Q | _ => False
def dNotV (a : DE) : DE := fun ρ S Q => a ρ S fun x S1 => match x with | .bl c => Q (.bl (!c)) S1 | _ => False
theorem d_one {op} (h : PD X F0 a ta da) : PD X F0 (.BoolOp op [a] pos) ta da := ⟨pe_one h.pe, h.sim⟩
theorem d_andV (ha : PD X F0 a ta da) (hb : PD X F0 (.BoolOp .And (b :: rest) pos) tb db) : PD X F0 (.BoolOp .And (a :: b :: rest) pos) (tAndV ta tb) (dAndV da db) := by
  refine ⟨pe_and ha.pe hb.pe, ?_⟩
  intro σ ρ H F S Q Qd e0 s en lk h
  refine ha.sim σ ρ H F S _ _ e0 s en ?_ h
  intro x S1 v F1 H1 q1 e1 s1 r1
  cases x with
  | bl k =>
    refine ⟨k, rp_bl r1, ?_⟩
    cases k with
    | true =>
      show tb σ H1 Q
      exact hb.sim σ ρ H1 F1 S1 Q Qd (e0.trans e1) s1 (en.mono e1.1) (lk.mono e1) q1
    | false => exact lk _ S1 _ F1 H1 q1 e1 s1 rp_mk_bl
  | _ => exact q1.elim
theorem d_orV (ha : PD X F0 a ta da) (hb : PD X F0 (.BoolOp .Or (b :: rest) pos) tb db) : PD X F0 (.BoolOp .Or (a :: b :: rest) pos) (tOrV ta tb) (dOrV da db) := by
  refine ⟨pe_or ha.pe hb.pe, ?_⟩
  intro σ ρ H F S Q Qd e0 s en lk h
  refine ha.sim σ ρ H F S _ _ e0 s en ?_ h
  intro x S1 v F1 H1 q1 e1 s1 r1
  cases x with
  | bl k =>
    refine ⟨k, rp_bl r1, ?_⟩
    cases k with
    | false =>
      show tb σ H1 Q
      exact hb.sim σ ρ H1 F1 S1 Q Qd (e0.trans e1) s1 (en.mono e1.1) (lk.mono e1) q1
    | true => exact lk _ S1 _ F1 H1 q1 e1 s1 rp_mk_bl
  | _ => exact q1.elim
theorem d_notV (ha : PD X F0 a ta da) : PD X F0 (.UnaryOp .Not a pos) (tNotV ta) (dNotV da) := by
  refine ⟨pe_not ha.pe, ?_⟩
  intro σ ρ H F S Q Qd e0 s en lk h
  refine ha.sim σ ρ H F S _ _ e0 s en ?_ h
  intro x S1 v F1 H1 q1 e1 s1 r1
  cases x with
  | bl k => exact ⟨k, rp_bl r1, lk _ S1 _ F1 H1 q1 e1 s1 rp_mk_bl⟩
  | _ => exact q1.elim
def dIf (t : DT) (a b : DE) : DE := fun ρ S Q => t ρ S fun c S1 => match c with | true => a ρ S1 Q | false => b ρ S1 Q
theorem d_if {tA : TT} {dA : DT} (hc : PDT X F0 c tA dA) (ha : PD X F0 a ta da) (hb : PD X F0 b tb db) : PD X F0 (.IfExp c a b pos) (tIf tA ta tb) (dIf dA da db) := by
  refine ⟨pe_ifExp hc.pt ha.pe hb.pe, ?_⟩
  intro σ ρ H F S Q Qd e0 s en lk h
  refine hc.sim σ ρ H F S _ _ e0 s en ?_ h
  intro x S1 F1 H1 q1 e1 s1
  cases x with
  | true =>
    show ta σ H1 Q
    exact ha.sim σ ρ H1 F1 S1 Q Qd (e0.trans e1) s1 (en.mono e1.1) (lk.mono e1) q1
  | false =>
    show tb σ H1 Q
    exact hb.sim σ ρ H1 F1 S1 Q Qd (e0.trans e1) s1 (en.mono e1.1) (lk.mono e1) q1
def dNil : DA := fun _ S Q => Q [] S
def dCons (a : DE) (r : DA) : DA := fun ρ S Q => a ρ S fun x S1 => r ρ S1 fun xs S2 => Q (x :: xs) S2
theorem da_nil : PDA X F0 [] tNil dNil := ⟨pa_nil, fun σ ρ H F S Q Qd e0 s en lk h => lk [] S [] F H h Go.rfl s rps_mk_nil⟩
theorem da_cons {tr : TA} {dr : DA} (ha : PD X F0 e te de) (hr : PDA X F0 es tr dr) (hs : starEach (e :: es) X.env = (false, eval e X.env) :: starEach es X.env := by rfl) : PDA X F0 (e :: es) (tCons te tr) (dCons de dr) := by
  refine ⟨pa_cons ha.pe hr.pa hs, ?_⟩
  intro σ ρ H F S Q Qd e0 s en lk h
  refine ha.sim σ ρ H F S _ _ e0 s en ?_ h
  intro x S1 v F1 H1 q1 e1 s1 r1
  refine hr.sim σ ρ H1 F1 S1 _ _ (e0.trans e1) s1 (en.mono e1.1) ?_ q1
  intro xs S2 vs F2 H2 q2 e2 s2 r2
  exact lk _ S2 _ F2 H2 q2 (e1.trans e2) s2 (rps_mk (Rp.mono e2.1 _ _ r1) r2)
def dTup (r : DA) : DE := fun ρ S Q => r ρ S fun xs S1 => xs.length ≤ sizeLine ∧ Q (.tup xs) S1
theorem d_tup {x1} {tr : TA} {dr : DA} (h : PDA X F0 es tr dr) : PD X F0 (.Tuple es x1 pos) (tTup tr) (dTup dr) := by
  refine ⟨pe_tup h.pa, ?_⟩
  intro σ ρ H F S Q Qd e0 s en lk q
  refine h.sim σ ρ H F S _ _ e0 s en ?_ q
  intro xs S1 vs F1 H1 q1 e1 s1 r1
  refine ⟨by rw [r1.length]; exact q1.1, fun p hp => ?_⟩
  obtain ⟨x1, x2⟩ := s1.new (o := .tup vs) hp
  exact lk _ S1 _ _ _ q1.2 (e1.trans (Go.new s1 hp)) x2 (rp_mk_tup upd_same (Rps.mono x1 _ _ r1))
/-- a new list: not yet frozen, not yet in the store -/
abbrev DN := Env → Store → (List D → Store → Prop) → Prop
def LkN (K : PySem.W.Frag) (F : Hp) (S : Store) (H : Hp) (Qd : List D → Store → Prop) (Q : VK) : Prop := ∀ xs S' vs F' H' p, Qd xs S' → Go F S H F' S' H' → Sep K F' S' H' → Rps K F' xs vs → H' p = none → Q (.ref p) (upd H' p (.lst vs))
def SimN (K : PySem.W.Frag) (F0 : Bs) (t : TE) (δ : DN) : Prop := ∀ σ ρ H F S Q Qd, F0.to F S H → Sep K F S H → Envr K F σ ρ → LkN K F S H Qd Q → δ ρ S Qd → t σ H Q
structure PN (X : Cx) (F0 : Bs) (e : Expr) (t : TE) (δ : DN) : Prop where
  pe : PE X e t
  sim : SimN X.K F0 t δ
/-- as data -/
def dFz (n : DN) : DE := fun ρ S Q => n ρ S fun xs S1 => Q (.lst xs) S1
theorem PN.d {n : DN} (h : PN X F0 e te n) : PD X F0 e te (dFz n) := by
  refine ⟨h.pe, ?_⟩
  intro σ ρ H F S Q Qd e0 s en lk q
  refine h.sim σ ρ H F S Q _ e0 s en ?_ q
  intro xs S1 vs F1 H1 p q1 e1 s1 r1 hp
  obtain ⟨x1, x2⟩ := s1.new (o := .lst vs) hp
  exact lk _ S1 _ _ _ q1 (e1.trans (Go.new s1 hp)) x2 (rp_mk_lst upd_same (Rps.mono x1 _ _ r1))
/-- as a cell of the store -/
def dCell (n : DN) : DE := fun ρ S Q => n ρ S fun xs S1 => ∀ p, S1 p = none → Q (.ref p) (sup S1 p (.lst xs))
theorem PN.cell {n : DN} (h : PN X F0 e te n) : PD X F0 e te (dCell n) := by
  refine ⟨h.pe, ?_⟩
  intro σ ρ H F S Q Qd e0 s en lk q
  refine h.sim σ ρ H F S Q _ e0 s en ?_ q
  intro xs S1 vs F1 H1 p q1 e1 s1 r1 hp
  obtain ⟨x1, x2⟩ := s1.newM (o := .lst vs) (m := .lst xs) hp ⟨vs, rfl, r1⟩
  exact lk _ _ _ _ _ (q1 p x1) (e1.trans (Go.newM hp)) x2 rp_mk_ref
def nLst (r : DA) : DN := fun ρ S Q => r ρ S fun xs S1 => xs.length ≤ sizeLine ∧ Q xs S1
theorem n_lst {tr : TA} {dr : DA} (h : PDA X F0 es tr dr) : PN X F0 (.List es pos) (tLst tr) (nLst dr) := by
  refine ⟨pe_lst h.pa, ?_⟩
  intro σ ρ H F S Q Qd e0 s en lk q
  refine h.sim σ ρ H F S _ _ e0 s en ?_ q
  intro xs S1 vs F1 H1 q1 e1 s1 r1
  exact ⟨by rw [r1.length]; exact q1.1, fun p hp => lk xs S1 vs F1 H1 p q1.2 e1 s1 r1 hp⟩
end
section
variable {X : Cx} {F0 : Bs} {K : PySem.W.Frag} {st : Stmt} {rest sts : List Stmt} {t u : TS} {δ ε : DS} {e : Expr} {te : TE} {de : DE} {pos : Pos}
def dNext : DS := fun Δ ρ S => Δ.nx ρ S
def dSeq (a b : DS) : DS := fun Δ ρ S => a { Δ with nx := b Δ } ρ S
theorem ds_nil : PDSs X F0 [] tNext dNext := ⟨pss_nil, fun σ ρ H F S D Δ e0 s en lk h => lk.nx ρ S σ F H h Go.rfl s en⟩
theorem ds_cons (h1 : PDS X F0 st t δ) (h2 : PDSs X F0 rest u ε) : PDSs X F0 (st :: rest) (tSeq t u) (dSeq δ ε) := by
  refine ⟨pss_cons h1.ps h2.pss, ?_⟩
  intro σ ρ H F S D Δ e0 s en lk h
  refine h1.sim σ ρ H F S _ { Δ with nx := ε Δ } e0 s en ⟨?_, lk.rt, lk.bk, lk.ct⟩ h
  intro ρ1 S1 σ1 F1 H1 q1 e1 s1 en1
  exact h2.sim σ1 ρ1 H1 F1 S1 D Δ (e0.trans e1) s1 en1 (lk.mono e1) q1
theorem ds_one (h : PDS X F0 st t δ) : PDSs X F0 [st] t δ := ⟨pss_one h.ps, h.sim⟩
theorem d_pass : PDS X F0 (.Pass pos) tNext dNext := ⟨ps_pass, ds_nil.sim⟩
def dBreak : DS := fun Δ ρ S => Δ.bk ρ S
def dCont : DS := fun Δ ρ S => Δ.ct ρ S
theorem d_break : PDS X F0 (.Break pos) tBreak dBreak := ⟨ps_break, fun σ ρ H F S D Δ e0 s en lk h => lk.bk ρ S σ F H h Go.rfl s en⟩
theorem d_continue : PDS X F0 (.Continue pos) tCont dCont := ⟨ps_continue, fun σ ρ H F S D Δ e0 s en lk h => lk.ct ρ S σ F H h Go.rfl s en⟩
def dDrop (de : DE) : DS := fun Δ ρ S => de ρ S fun _ S1 => Δ.nx ρ S1
theorem d_expr (he : PD X F0 e te de) (hs : swapsWith e none pos.line X.env = pure false := by rfl) : PDS X F0 (.Expr e pos) (tDrop te) (dDrop de) := by
  refine ⟨ps_expr he.pe hs, ?_⟩
  intro σ ρ H F S D Δ e0 s en lk h
  refine he.sim σ ρ H F S _ _ e0 s en ?_ h
  intro x S1 v F1 H1 q1 e1 s1 r1
  exact lk.nx ρ S1 σ F1 H1 q1 e1 s1 (en.mono e1.1)
def dRet (de : DE) : DS := fun Δ ρ S => de ρ S Δ.rt
theorem d_ret (he : PD X F0 e te de) : PDS X F0 (.Return (some e) pos) (tRet te) (dRet de) := ⟨ps_ret he.pe, fun σ ρ H F S D Δ e0 s en lk h => he.sim σ ρ H F S _ _ e0 s en lk.rt h⟩
def dRetN : DS := fun Δ _ S => Δ.rt .non S
theorem d_retN : PDS X F0 (.Return none pos) tRetN dRetN := ⟨ps_retN, fun σ ρ H F S D Δ e0 s en lk h => lk.rt .non S .non F H h Go.rfl s rp_mk_non⟩
def dIfS (c : DT) (a b : DS) : DS := fun Δ ρ S => c ρ S fun k S1 => match k with | true => a Δ ρ S1 | false => b Δ ρ S1
theorem d_ifS {c : Expr} {a b : List Stmt} {tc : TT} {dc : DT} (hc : PDT X F0 c tc dc) (ha : PDSs X F0 a t δ) (hb : PDSs X F0 b u ε) : PDS X F0 (.If c a b pos) (tIfS tc t u) (dIfS dc δ ε) := by
  refine ⟨ps_if hc.pt ha.pss hb.pss, ?_⟩
  intro σ ρ H F S D Δ e0 s en lk h
  refine hc.sim σ ρ H F S _ _ e0 s en ?_ h
  intro k S1 F1 H1 q1 e1 s1
  cases k with
  | true =>
    show t D σ H1
    exact ha.sim σ ρ H1 F1 S1 D Δ (e0.trans e1) s1 (en.mono e1.1) (lk.mono e1) q1
  | false =>
    show u D σ H1
    exact hb.sim σ ρ H1 F1 S1 D Δ (e0.trans e1) s1 (en.mono e1.1) (lk.mono e1) q1
/-- a statement that isn't reached -/
def dNever : DS := fun _ _ _ => False
theorem ds_never : PDSs X F0 sts tNever dNever := ⟨pss_never, fun _ _ _ _ _ _ _ _ _ _ _ h => h.elim⟩
theorem d_never : PDS X F0 st tNever dNever := ⟨ps_never, fun _ _ _ _ _ _ _ _ _ _ _ h => h.elim⟩
/-- what name i holds in the store is frozen ahead of a block -/
def dFreeze (i : Nat) (δ : DS) : DS := fun Δ ρ S => ∃ a xs, ρ[i]? = some (some (.ref a)) ∧ S a = some (.lst xs) ∧ δ Δ (ρ.set i (some (.lst xs))) (sdel S a)
theorem ds_freeze (i : Nat) (h : PDSs X F0 sts t δ) : PDSs X F0 sts t (dFreeze i δ) := by
  refine ⟨h.pss, ?_⟩
  intro σ ρ H F S D Δ e0 s en lk q
  obtain ⟨a, xs, h1, h2, q⟩ := q
  obtain ⟨v, g1, g2⟩ := en.at_ i _ h1
  have ev := rp_ref g2
  subst ev
  obtain ⟨_, o, k1, vs, rfl, k2⟩ := s.st a _ h2
  obtain ⟨x1, x2⟩ := s.freeze h2 k1
  have en2 : Envr X.K (upd F a (.lst vs)) σ (ρ.set i (some (.lst xs))) := by
    have z := (en.mono x1).set (i := i) (d := .lst xs) (v := .ref a) (rp_mk_lst upd_same (Rps.mono x1 _ _ k2))
    have e : σ.set i (some (.ref a)) = σ := by
      apply List.ext_getElem?
      intro j
      by_cases hj : i = j
      · subst hj
        rw [List.getElem?_set_self (List.getElem?_eq_some_iff.mp g1).1, g1]
      · rw [List.getElem?_set_ne hj]
    rw [e] at z
    exact z
  exact h.sim σ _ H _ _ D Δ (e0.trans (Go.freeze s h2 k1)) x2 en2 (lk.mono (Go.freeze s h2 k1)) q
abbrev DG := D → Env → Store → (Env → Store → Prop) → Prop
abbrev DGs := List D → Env → Store → (Env → Store → Prop) → Prop
def SimG (K : PySem.W.Frag) (F0 : Bs) (g : TG) (δ : DG) : Prop := ∀ v d σ ρ H F S Q Qd, F0.to F S H → Sep K F S H → Envr K F σ ρ → Rp K F d v → LkS K F S H Qd Q → δ d ρ S Qd → g v σ H Q
def SimGs (K : PySem.W.Frag) (F0 : Bs) (g : TGs) (δ : DGs) : Prop := ∀ v d σ ρ H F S Q Qd, F0.to F S H → Sep K F S H → Envr K F σ ρ → Rps K F d v → LkS K F S H Qd Q → δ d ρ S Qd → g v σ H Q
structure PDG (X : Cx) (F0 : Bs) (e : Expr) (g : TG) (δ : DG) : Prop where
  pg : PG X e g
  sim : SimG X.K F0 g δ
structure PDGs (X : Cx) (F0 : Bs) (e : List Expr) (g : TGs) (δ : DGs) : Prop where
  pg : PGs X e g
  sim : SimGs X.K F0 g δ
def dgName (i : Nat) : DG := fun d ρ S Q => Q (ρ.set i (some d)) S
theorem sim_gname {i : Nat} : SimG K F0 (gName i) (dgName i) := fun v d σ ρ H F S Q Qd e0 s en r lk h => lk _ S _ F H h Go.rfl s (en.set r)
theorem g_name (i : Nat) {x : Str} (hN : X.N.Nodup) (hi : X.N[i]? = some x := by rfl) (hx : Loc X.env.scope x := by first | exact Or.inl rfl | exact Or.inr rfl) (hf : X.fn x = true ∨ X.env.scope.names.lookup x = some .local := by first | exact .inl rfl | exact .inr rfl | assumption) :
    PDG X F0 (.Name x pos) (gName i) (dgName i) := ⟨pg_name hN hi hx hf, sim_gname⟩
def dgNil : DGs := fun ds ρ S Q => match ds with | [] => Q ρ S | _ => False
def dgCons (g : DG) (r : DGs) : DGs := fun ds ρ S Q => match ds with | d :: ds => g d ρ S fun ρ1 S1 => r ds ρ1 S1 Q | [] => False
theorem gs_nil : PDGs X F0 [] gNil dgNil := by
  refine ⟨pgs_nil, ?_⟩
  intro v d σ ρ H F S Q Qd e0 s en r lk h
  cases d with
  | nil => exact ⟨rps_nil.mp r, lk ρ S σ F H h Go.rfl s en⟩
  | cons _ _ => exact h.elim
theorem gs_cons {es : List Expr} {g : TG} {gs : TGs} {dg : DG} {dgs : DGs} (h1 : PDG X F0 e g dg) (h2 : PDGs X F0 es gs dgs)
    (hs : (assignEach (e :: es) X.env).map (·.2) = assign e X.env :: (assignEach es X.env).map (·.2) := by rfl) : PDGs X F0 (e :: es) (gCons g gs) (dgCons dg dgs) := by
  refine ⟨pgs_cons h1.pg h2.pg hs, ?_⟩
  intro v d σ ρ H F S Q Qd e0 s en r lk h
  cases d with
  | nil => exact h.elim
  | cons d ds =>
    obtain ⟨w, ws, rfl, r1, r2⟩ := rps_cons.mp r
    refine ⟨w, ws, rfl, ?_⟩
    refine h1.sim w d σ ρ H F S _ _ e0 s en r1 ?_ h
    intro ρ1 S1 σ1 F1 H1 q1 e1 s1 en1
    exact h2.sim ws ds σ1 ρ1 H1 F1 S1 Q Qd (e0.trans e1) s1 en1 (Rps.mono e1.1 _ _ r2) (lk.mono e1) q1
def dgTup (n : Nat) (g : DGs) : DG := fun d ρ S Q => match d with | .tup ds => ds.length = n ∧ g ds ρ S Q | _ => False
theorem g_tup {es : List Expr} {k : Nat} {g : TGs} {dg : DGs} {n : Nat} (hc : X.calm = true) (h : PDGs X F0 es g dg)
    (hn : (assignEach es X.env).length = n := by rfl) (hst : (assignEach es X.env).findIdx? (·.1) = none := by rfl) : PDG X F0 (.Tuple es k pos) (gTup X.K n g) (dgTup n dg) := by
  refine ⟨pg_tup hc h.pg hn hst, ?_⟩
  intro v d σ ρ H F S Q Qd e0 s en r lk q
  cases d with
  | tup ds =>
    obtain ⟨a, vs, rfl, hs, r2⟩ := rp_tup r
    exact ⟨a, vs, rfl, .inl (.inl (s.fz _ _ hs)), by rw [r2.length]; exact q.1, h.sim vs ds σ ρ H F S Q Qd e0 s en r2 lk q.2⟩
  | _ => exact q.elim
def dAsg (de : DE) (g : DG) : DS := fun Δ ρ S => de ρ S fun x S1 => g x ρ S1 Δ.nx
theorem sim_asg {g : TG} {dg : DG} (he : SimE K F0 te de) (hg : SimG K F0 g dg) : SimS K F0 (tAsg te g) (dAsg de dg) := by
  intro σ ρ H F S D Δ e0 s en lk h
  refine he σ ρ H F S _ _ e0 s en ?_ h
  intro x S1 v F1 H1 q1 e1 s1 r1
  exact hg v x σ ρ H1 F1 S1 _ _ (e0.trans e1) s1 (en.mono e1.1) r1 (lk.nx.mono e1) q1
theorem d_asg {tg : Expr} {g : TG} {dg : DG} (he : PD X F0 e te de) (hg : PDG X F0 tg g dg) (hs : swapsWithSole [tg] e pos.line X.env = pure false := by rfl) (hw : swappedStores [tg] e X.env = pure none := by rfl)
    (h1 : (assignEach [tg] X.env).map (·.2) = [assign tg X.env] := by rfl) : PDS X F0 (.Assign [tg] e pos) (tAsg te g) (dAsg de dg) := ⟨ps_asg he.pe hg.pg hs hw h1, sim_asg he.sim hg.sim⟩
theorem d_set (i : Nat) {x : Str} {pos' : Pos} (hN : X.N.Nodup) (he : PD X F0 e te de) (hi : X.N[i]? = some x := by rfl) (hx : Loc X.env.scope x := by first | exact Or.inl rfl | exact Or.inr rfl) (hs : swapsWith e (some (.Name x pos')) pos.line X.env = pure false := by rfl)
    (hf : X.fn x = true ∨ X.env.scope.names.lookup x = some .local := by first | exact .inl rfl | exact .inr rfl | assumption) : PDS X F0 (.Assign [.Name x pos'] e pos) (tAsg te (gName i)) (dAsg de (dgName i)) := ⟨ps_set hN hi hx he.pe hs hf, sim_asg he.sim sim_gname⟩
end
end DL
set_option Elab.async false
set_option linter.all false
set_option maxRecDepth 100000
set_option maxHeartbeats 2000000
namespace DL
open PySem PySem.Spec L2
structure Wk (K : PySem.W.Frag) (F : Hp) (J : It) (ds : List D) : Prop where
  ex : ∃ (G : Hp → Prop) (Y : Nat → Hp → V → Hp → Prop), Walk J ds.length G Y ∧ (∀ F' S' H', Ext F F' → Sep K F' S' H' → G H') ∧
    (∀ i H1 x H2 F1 S1, i < ds.length → Ext F F1 → Sep K F1 S1 H1 → Y i H1 x H2 → ∃ F2 d, Go F1 S1 H1 F2 S1 H2 ∧ Sep K F2 S1 H2 ∧ ds[i]? = some d ∧ Rp K F2 d x)
abbrev DI := Env → Store → (List D → Store → Prop) → Prop
def SimI (K : PySem.W.Frag) (F0 : Bs) (wi : TI) (δ : DI) : Prop := ∀ σ ρ H F S (R : It → Hp → Prop) Qd, F0.to F S H → Sep K F S H → Envr K F σ ρ →
  (∀ ds S' J F' H', Qd ds S' → Go F S H F' S' H' → Sep K F' S' H' → Wk K F' J ds → R J H') → δ ρ S Qd → wi σ H R
structure PDI (X : Cx) (F0 : Bs) (tg iter : Expr) (wi : TI) (δ : DI) : Prop where
  pi : PI X tg iter wi
  sim : SimI X.K F0 wi δ
section
variable {X : Cx} {F0 : Bs} {K : PySem.W.Frag}
theorem Sep.sqL {F : Hp} {S : Store} {H : Hp} {a : Addr} {vs : List V} (s : Sep K F S H) (h : SqL K F a vs) : SqL K H a vs := by
  rcases h with (z | ⟨o, z⟩) | z
  · exact .inl (.inl (s.fz _ _ z))
  · exact .inl (.inr ⟨o, s.fz _ _ z⟩)
  · exact .inr z
theorem Sep.sqT {F : Hp} {S : Store} {H : Hp} {a : Addr} {vs : List V} (s : Sep K F S H) (h : SqT K F a vs) : SqT K H a vs := by
  rcases h with (z | ⟨o, z⟩) | z
  · exact .inl (.inl (s.fz _ _ z))
  · exact .inl (.inr ⟨o, s.fz _ _ z⟩)
  · exact .inr z
theorem wk_list {F : Hp} {a : Addr} {vs : List V} {ds : List D} (h : F a = some (.lst vs)) (r : Rps K F ds vs) : Wk K F (Itl K a) ds := by
  refine ⟨_, _, by rw [← r.length]; exact walk_list (xs := vs), fun F' S' H' e s => (show SqL K H' a vs from .inl (.inl (s.fz _ _ (e.lst h)))), ?_⟩
  intro i H1 x H2 F1 S1 hi e s y
  obtain ⟨rfl, y⟩ := y
  obtain ⟨d, h1, h2⟩ := (Rps.mono e _ _ r).got y
  exact ⟨F1, d, Go.rfl, s, h1, h2⟩
theorem wk_tup {F : Hp} {a : Addr} {vs : List V} {ds : List D} (h : F a = some (.tup vs)) (r : Rps K F ds vs) : Wk K F (Itt K a) ds := by
  refine ⟨_, _, by rw [← r.length]; exact walk_tup (xs := vs), fun F' S' H' e s => (show SqT K H' a vs from .inl (.inl (s.fz _ _ (e.tup h)))), ?_⟩
  intro i H1 x H2 F1 S1 hi e s y
  obtain ⟨rfl, y⟩ := y
  obtain ⟨d, h1, h2⟩ := (Rps.mono e _ _ r).got y
  exact ⟨F1, d, Go.rfl, s, h1, h2⟩
/-- over a list that is data -/
def diLst (de : DE) : DI := fun ρ S Q => de ρ S fun d S1 => match d with | .lst xs => Q xs S1 | _ => False
theorem i_list {tg e : Expr} {te : TE} {de : DE} (h : PD X F0 e te de) : PDI X F0 tg e (iList X.K te) (diLst de) := by
  refine ⟨pi_list h.pe, ?_⟩
  intro σ ρ H F S R Qd e0 s en lk q
  refine h.sim σ ρ H F S _ _ e0 s en ?_ q
  intro d S1 v F1 H1 q1 e1 s1 r1
  cases d with
  | lst xs =>
    obtain ⟨a, vs, rfl, h1, h2⟩ := rp_lst r1
    exact ⟨a, rfl, ⟨vs, .inl (.inl (s1.fz _ _ h1))⟩, lk xs S1 _ F1 H1 q1 e1 s1 (wk_list h1 h2)⟩
  | _ => exact q1.elim
def diTup (de : DE) : DI := fun ρ S Q => de ρ S fun d S1 => match d with | .tup xs => Q xs S1 | _ => False
theorem i_tup {tg e : Expr} {te : TE} {de : DE} (h : PD X F0 e te de) : PDI X F0 tg e (iTup X.K te) (diTup de) := by
  refine ⟨pi_tup h.pe, ?_⟩
  intro σ ρ H F S R Qd e0 s en lk q
  refine h.sim σ ρ H F S _ _ e0 s en ?_ q
  intro d S1 v F1 H1 q1 e1 s1 r1
  cases d with
  | tup xs =>
    obtain ⟨a, vs, rfl, h1, h2⟩ := rp_tup r1
    exact ⟨a, rfl, ⟨vs, .inl (.inl (s1.fz _ _ h1))⟩, lk xs S1 _ F1 H1 q1 e1 s1 (wk_tup h1 h2)⟩
  | _ => exact q1.elim
/-- a text, sign by sign -/
def signs (z : Str) : List Str := z.cps.toList.map fun c => ⟨#[c]⟩
theorem wk_str {F : Hp} {z : Str} : Wk K F (Its z) ((signs z).map D.str) := by
  have hl : ((signs z).map D.str).length = z.cps.size := by unfold signs; rw [List.length_map, List.length_map, Array.length_toList]
  refine ⟨_, _, by rw [hl]; exact walk_str (z := z), fun _ _ _ _ _ => trivial, ?_⟩
  intro i H1 x H2 F1 S1 hi e s y
  obtain ⟨rfl, c, h1, rfl⟩ := y
  refine ⟨F1, .str ⟨#[c]⟩, Go.rfl, s, ?_, rp_mk_str⟩
  unfold signs
  rw [List.getElem?_map, List.getElem?_map, Array.getElem?_toList, h1] <;> rfl
def diStr (de : DE) : DI := fun ρ S Q => de ρ S fun d S1 => match d with | .str z => Q ((signs z).map D.str) S1 | _ => False
theorem i_str {tg e : Expr} {te : TE} {de : DE} (h : PD X F0 e te de) : PDI X F0 tg e (iStr te) (diStr de) := by
  refine ⟨pi_str h.pe, ?_⟩
  intro σ ρ H F S R Qd e0 s en lk q
  refine h.sim σ ρ H F S _ _ e0 s en ?_ q
  intro d S1 v F1 H1 q1 e1 s1 r1
  cases d with
  | str z =>
    have e := rp_str r1
    subst e
    exact ⟨z, rfl, lk _ S1 _ F1 H1 q1 e1 s1 wk_str⟩
  | _ => exact q1.elim
def rangeD (lo : Int) (n : Nat) : List D := (List.range n).map fun (i : Nat) => D.int (lo + (i : Int))
theorem wk_range {F : Hp} {lo : Int} {n : Nat} : Wk K F (Itr lo n) (rangeD lo n) := by
  have hl : (rangeD lo n).length = n := by unfold rangeD; rw [List.length_map, List.length_range]
  refine ⟨_, _, by rw [hl]; exact walk_range (lo := lo) (n := n), fun _ _ _ _ _ => trivial, ?_⟩
  intro i H1 x H2 F1 S1 hi e s y
  obtain ⟨rfl, rfl⟩ := y
  rw [hl] at hi
  refine ⟨F1, .int (lo + i), Go.rfl, s, ?_, rp_mk_int⟩
  unfold rangeD
  rw [List.getElem?_map, List.getElem?_range hi] <;> rfl
def diRng1 (da : DA) : DI := fun ρ S Q => da ρ S fun ds S1 => match ds with | [.int j] => (-(2 ^ 62) ≤ j ∧ j < 2 ^ 62) ∧ Q (rangeD 0 j.toNat) S1 | _ => False
theorem i_range1 {tg a : Expr} {ta : TA} {da : DA} {p pos : Pos} (hm : X.mg "range" = none) (ha : PDA X F0 [a] ta da) (hg : Gl X "range" := by rfl) (hs : starEach [a] X.env = [(false, eval a X.env)] := by rfl) : PDI X F0 tg (.Call (.Name "range" p) [a] [] pos) (iRng1 ta) (diRng1 da) := by
  refine ⟨pi_range1 hg hm ha.pa hs, ?_⟩
  intro σ ρ H F S R Qd e0 s en lk q
  refine ha.sim σ ρ H F S _ _ e0 s en ?_ q
  intro d S1 v F1 H1 q1 e1 s1 r1
  match d, q1, r1 with
  | [.int j], q1, r1 =>
    obtain ⟨w, rfl, r2⟩ := rps_1 r1
    exact ⟨j, by rw [rp_int r2], q1.1.1, q1.1.2, lk _ S1 _ F1 H1 q1.2 e1 s1 wk_range⟩
def diRng2 (da : DA) : DI := fun ρ S Q => da ρ S fun ds S1 => match ds with | [.int i, .int j] => (-(2 ^ 62) ≤ i ∧ i < 2 ^ 62 ∧ -(2 ^ 62) ≤ j ∧ j < 2 ^ 62) ∧ Q (rangeD i (j - i).toNat) S1 | _ => False
theorem i_range2 {tg a b : Expr} {ta : TA} {da : DA} {p pos : Pos} (hm : X.mg "range" = none) (ha : PDA X F0 [a, b] ta da) (hg : Gl X "range" := by rfl) (hs : starEach [a, b] X.env = [(false, eval a X.env), (false, eval b X.env)] := by rfl) (hs2 : starEach [b] X.env = [(false, eval b X.env)] := by rfl) : PDI X F0 tg (.Call (.Name "range" p) [a, b] [] pos) (iRng2 ta) (diRng2 da) := by
  refine ⟨pi_range2 hg hm ha.pa hs hs2, ?_⟩
  intro σ ρ H F S R Qd e0 s en lk q
  refine ha.sim σ ρ H F S _ _ e0 s en ?_ q
  intro d S1 v F1 H1 q1 e1 s1 r1
  match d, q1, r1 with
  | [.int i, .int j], q1, r1 =>
    obtain ⟨w, u, rfl, r2, r3⟩ := rps_2 r1
    exact ⟨i, j, by rw [rp_int r2, rp_int r3], q1.1, lk _ S1 _ F1 H1 q1.2 e1 s1 wk_range⟩
/-- pairs -/
theorem wk_pair {F : Hp} {J : It} {n : Nat} {G : Hp → Prop} {xs ys : Nat → Option V} {dx dy : List D} (w : Walk J n G (YPair xs ys)) (hG : ∀ F' S' H', Ext F F' → Sep K F' S' H' → G H') (hx : dx.length = n) (hy : dy.length = n)
    (rx : ∀ i x, xs i = some x → i < n → ∃ d, dx[i]? = some d ∧ Rp K F d x) (ry : ∀ i x, ys i = some x → i < n → ∃ d, dy[i]? = some d ∧ Rp K F d x) : Wk K F J (List.zipWith (fun a b => D.tup [a, b]) dx dy) := by
  have hl : (List.zipWith (fun a b => D.tup [a, b]) dx dy).length = n := by rw [List.length_zipWith, hx, hy, Nat.min_self]
  refine ⟨G, _, by rw [hl]; exact w, hG, ?_⟩
  intro i H1 x H2 F1 S1 hi e s y
  rw [hl] at hi
  obtain ⟨T, u, v, rfl, hn, rfl, h1, h2⟩ := y
  obtain ⟨d1, g1, k1⟩ := rx i u h1 hi
  obtain ⟨d2, g2, k2⟩ := ry i v h2 hi
  obtain ⟨x1, x2⟩ := s.new (o := .tup [u, v]) hn
  refine ⟨_, .tup [d1, d2], Go.new s hn, x2, ?_, rp_mk_tup upd_same (rps_mk (Rp.mono (e.trans x1) _ _ k1) (rps_mk (Rp.mono (e.trans x1) _ _ k2) rps_mk_nil))⟩
  rw [List.getElem?_zipWith, g1, g2]
def enumD (xs : List D) : List D := List.zipWith (fun a b => D.tup [a, b]) ((List.range xs.length).map fun (i : Nat) => D.int (i : Int)) xs
/-- a list or a tuple by its items: data, or a cell of the store -/
def diEnum (da : DA) : DI := fun ρ S Q => da ρ S fun ds S1 => match ds with | [.lst xs] => Q (enumD xs) S1 | _ => False
theorem i_enum {tgs : List Expr} {k0 : Nat} {p0 : Pos} {a : Expr} {ta : TA} {da : DA} {p pos : Pos} (hm : X.mg "enumerate" = none) (ha : PDA X F0 [a] ta da) (hg : Gl X "enumerate" := by rfl) (hs : starEach [a] X.env = [(false, eval a X.env)] := by rfl) : PDI X F0 (.Tuple tgs k0 p0) (.Call (.Name "enumerate" p) [a] [] pos) (iEnum X.K ta) (diEnum da) := by
  refine ⟨pi_enum hg hm ha.pa hs, ?_⟩
  intro σ ρ H F S R Qd e0 s en lk q
  refine ha.sim σ ρ H F S _ _ e0 s en ?_ q
  intro d S1 v F1 H1 q1 e1 s1 r1
  match d, q1, r1 with
  | [.lst xs], q1, r1 =>
    obtain ⟨w, rfl, r2⟩ := rps_1 r1
    obtain ⟨a, vs, rfl, h1, h2⟩ := rp_lst r2
    refine ⟨a, vs, rfl, .inl (.inl (s1.fz _ _ h1)), lk _ S1 _ F1 H1 q1 e1 s1 ?_⟩
    refine wk_pair (n := vs.length) walk_enum (fun F' S' H' e s => (show SqL X.K H' a vs from .inl (.inl (s.fz _ _ (e.lst h1))))) (by rw [List.length_map, List.length_range, h2.length]) h2.length.symm (fun i x h hi => ?_) (fun i x h hi => ?_)
    · refine ⟨.int i, ?_, ?_⟩
      · rw [List.getElem?_map, List.getElem?_range (by rw [← h2.length]; exact hi)] <;> rfl
      · cases h; exact rp_mk_int
    · obtain ⟨d, g1, g2⟩ := h2.got h
      exact ⟨d, g1, g2⟩
def zipD (xs ys : List D) : List D := List.zipWith (fun a b => D.tup [a, b]) xs ys
def diZip (da : DA) : DI := fun ρ S Q => da ρ S fun ds S1 => match ds with | [.lst xs, .lst ys] => Q (zipD xs ys) S1 | _ => False
theorem i_zip {tgs : List Expr} {k0 : Nat} {p0 : Pos} {a b : Expr} {ta : TA} {da : DA} {p pos : Pos} (hm : X.mg "zip" = none) (ha : PDA X F0 [a, b] ta da) (hg : Gl X "zip" := by rfl) (hs : starEach [a, b] X.env = (false, eval a X.env) :: starEach [b] X.env := by rfl) (hpl : (backTo pos (starEach [b] X.env)).any (·.1) = false := by rfl) : PDI X F0 (.Tuple tgs k0 p0) (.Call (.Name "zip" p) [a, b] [] pos) (iZip X.K ta) (diZip da) := by
  refine ⟨pi_zip hg hm ha.pa hs hpl, ?_⟩
  intro σ ρ H F S R Qd e0 s en lk q
  refine ha.sim σ ρ H F S _ _ e0 s en ?_ q
  intro d S1 v F1 H1 q1 e1 s1 r1
  match d, q1, r1 with
  | [.lst xs, .lst ys], q1, r1 =>
    obtain ⟨w, u, rfl, r2, r3⟩ := rps_2 r1
    obtain ⟨a, vs, rfl, h1, h2⟩ := rp_lst r2
    obtain ⟨b, us, rfl, g1, g2⟩ := rp_lst r3
    refine ⟨a, b, vs, us, rfl, .inl (.inl (s1.fz _ _ h1)), .inl (.inl (s1.fz _ _ g1)), lk _ S1 _ F1 H1 q1 e1 s1 ?_⟩
    have w0 := walk_zip (K := X.K) (a := a) (b := b) (xs := vs) (ys := us) (n := min vs.length us.length) rfl
    have hl : zipD xs ys = zipD (xs.take (min vs.length us.length)) (ys.take (min vs.length us.length)) := by
      unfold zipD
      apply List.ext_getElem?
      intro i
      rw [List.getElem?_zipWith, List.getElem?_zipWith]
      rw [h2.length, g2.length]
      by_cases hi : i < min xs.length ys.length
      · rw [List.getElem?_take_of_lt hi, List.getElem?_take_of_lt hi]
      · have e1 : (xs.take (min xs.length ys.length))[i]? = none := List.getElem?_eq_none (by rw [List.length_take]; omega)
        rw [e1]
        by_cases hx : i < xs.length
        · have e2 : ys[i]? = none := List.getElem?_eq_none (by omega)
          rw [e2]
          cases xs[i]? <;> rfl
        · have e2 : xs[i]? = none := List.getElem?_eq_none (by omega)
          rw [e2]
    rw [hl]
    refine wk_pair (n := min vs.length us.length) w0 (fun F' S' H' e s => (show SqL X.K H' a vs ∧ SqL X.K H' b us from ⟨.inl (.inl (s.fz _ _ (e.lst h1))), .inl (.inl (s.fz _ _ (e.lst g1)))⟩)) (by rw [List.length_take, h2.length, g2.length]; omega) (by rw [List.length_take, h2.length, g2.length]; omega) (fun i x h hi => ?_) (fun i x h hi => ?_)
    · obtain ⟨d, k1, k2⟩ := h2.got h
      exact ⟨d, by rw [List.getElem?_take_of_lt hi]; exact k1, k2⟩
    · obtain ⟨d, k1, k2⟩ := g2.got h
      exact ⟨d, by rw [List.getElem?_take_of_lt hi]; exact k1, k2⟩
end
section
variable {X : Cx} {F0 : Bs} {K : PySem.W.Frag} {pos : Pos}
def dForL (g : DG) (b : DS) (Δ : DEnds) : List D → Env → Store → Prop
  | [] => fun ρ S => Δ.nx ρ S
  | d :: ds => fun ρ S => g d ρ S fun ρ1 S1 => b { Δ with nx := dForL g b Δ ds, ct := dForL g b Δ ds, bk := Δ.nx } ρ1 S1
def dFor (i : DI) (g : DG) (b : DS) : DS := fun Δ ρ S => i ρ S fun ds S1 => dForL g b Δ ds ρ S1
theorem sim_for {wi : TI} {di : DI} {g : TG} {dg : DG} {t : TS} {δ : DS} (hi : SimI K F0 wi di) (hg : SimG K F0 g dg) (hb : SimS K F0 t δ) : SimS K F0 (tFor wi g t) (dFor di dg δ) := by
  intro σ ρ H F S D Δ e0 s en lk q
  refine hi σ ρ H F S _ _ e0 s en ?_ q
  intro ds S1 J F1 H1 q1 e1 s1 wk
  obtain ⟨G, Y, w, hG, hY⟩ := wk.ex
  refine for_it w (fun i σ' H' => ∃ ρ' S' F', Go F1 S1 H1 F' S' H' ∧ Sep K F' S' H' ∧ Envr K F' σ' ρ' ∧ dForL dg δ Δ (ds.drop i) ρ' S') ⟨ρ, S1, F1, Go.rfl, s1, en.mono e1.1, by rw [List.drop_zero]; exact q1⟩
    (fun i σ' H' _ ⟨ρ', S', F', g1, s', _⟩ => hG F' S' H' g1.1 s') ?_ ?_
  · rintro i x σ' H' H2 hlt ⟨ρ', S', F', g1, s', en', q'⟩ hy
    obtain ⟨F2, d, g2, s2, hd, r2⟩ := hY i H' x H2 F' S' hlt g1.1 s' hy
    have ed : ds.drop i = d :: ds.drop (i + 1) := by
      have hi2 := (List.getElem?_eq_some_iff.mp hd)
      rw [List.drop_eq_getElem_cons hlt]
      obtain ⟨_, e⟩ := hi2
      rw [e]
    rw [ed] at q'
    refine hg x d σ' ρ' H2 F2 S' _ _ (((e0.trans e1).trans g1).trans g2) s2 (en'.mono g2.1) r2 ?_ q'
    intro ρ3 S3 σ3 F3 H3 q3 e3 s3 en3
    refine hb σ3 ρ3 H3 F3 S3 _ _ ((((e0.trans e1).trans g1).trans g2).trans e3) s3 en3 ?_ q3
    have step : LkS K F3 S3 H3 (dForL dg δ Δ (ds.drop (i + 1))) (fun σ' H' => ∃ ρ' S' F', Go F1 S1 H1 F' S' H' ∧ Sep K F' S' H' ∧ Envr K F' σ' ρ' ∧ dForL dg δ Δ (ds.drop (i + 1)) ρ' S') :=
      fun ρ4 S4 σ4 F4 H4 q4 e4 s4 en4 => ⟨ρ4, S4, F4, ((g1.trans g2).trans e3).trans e4, s4, en4, q4⟩
    have go3 : Go F S H F3 S3 H3 := (((e1.trans g1).trans g2).trans e3)
    exact ⟨step, lk.rt.mono go3, lk.nx.mono go3, step⟩
  · rintro σ' H' ⟨ρ', S', F', g1, s', en', q'⟩
    rw [List.drop_length] at q'
    exact lk.nx ρ' S' σ' F' H' q' (e1.trans g1) s' en'
theorem d_for {tg iter : Expr} {body : List Stmt} {wi : TI} {di : DI} {g : TG} {dg : DG} {t : TS} {δ : DS} (hp : PassesOwn (model X.prog X.w) X.A X.env X.xe) (hc : X.calm = true) (hi : PDI X F0 tg iter wi di) (hg : PDG X F0 tg g dg) (hb : PDSs X F0 body t δ)
    (hs : ∀ x, foldedSetIterable iter X.env x = pure x := by intro _; rfl) : PDS X F0 (.For tg iter body [] pos) (tFor wi g t) (dFor di dg δ) := ⟨ps_for hp hc hi.pi hg.pg hb.pss hs, sim_for hi.sim hg.sim hb.sim⟩
/-- while: W the word with its measure -/
def dWhile (c : DT) (b : DS) : DS := fun Δ ρ S => ∃ W : Nat → Env → Store → Prop, (∃ m, W m ρ S) ∧ ∀ m ρ S, W m ρ S →
  c ρ S fun k S1 => match k with | true => b { Δ with nx := fun ρ' S' => ∃ m', m' < m ∧ W m' ρ' S', ct := fun ρ' S' => ∃ m', m' < m ∧ W m' ρ' S', bk := Δ.nx } ρ S1 | false => Δ.nx ρ S1
theorem sim_while {c : TT} {dc : DT} {t : TS} {δ : DS} (hc : SimT K F0 c dc) (hb : SimS K F0 t δ) : SimS K F0 (tWhile c t) (dWhile dc δ) := by
  intro σ ρ H F S D Δ e0 s en lk q
  obtain ⟨W, ⟨m0, w0⟩, turn⟩ := q
  refine ⟨fun m σ' H' => ∃ ρ' S' F', Go F S H F' S' H' ∧ Sep K F' S' H' ∧ Envr K F' σ' ρ' ∧ W m ρ' S', ⟨m0, ρ, S, F, Go.rfl, s, en, w0⟩, ?_⟩
  rintro m σ' H' ⟨ρ', S', F', g1, s', en', w'⟩
  refine hc σ' ρ' H' F' S' _ _ (e0.trans g1) s' en' ?_ (turn m ρ' S' w')
  intro k S1 F1 H1 q1 e1 s1
  cases k with
  | true =>
    refine ⟨fun σ2 H2 => ∃ m', m' < m ∧ ∃ ρ' S' F', Go F S H F' S' H2 ∧ Sep K F' S' H2 ∧ Envr K F' σ2 ρ' ∧ W m' ρ' S', fun σ2 H2 ⟨m', l, x⟩ => ⟨m', l, x⟩, ?_⟩
    refine hb σ' ρ' H1 F1 S1 _ _ ((e0.trans g1).trans e1) s1 (en'.mono e1.1) ?_ q1
    have step : LkS K F1 S1 H1 (fun ρ' S' => ∃ m', m' < m ∧ W m' ρ' S') (fun σ2 H2 => ∃ m', m' < m ∧ ∃ ρ' S' F', Go F S H F' S' H2 ∧ Sep K F' S' H2 ∧ Envr K F' σ2 ρ' ∧ W m' ρ' S') :=
      fun ρ4 S4 σ4 F4 H4 ⟨m', l, q4⟩ e4 s4 en4 => ⟨m', l, ρ4, S4, F4, (g1.trans e1).trans e4, s4, en4, q4⟩
    exact ⟨step, lk.rt.mono (g1.trans e1), lk.nx.mono (g1.trans e1), step⟩
  | false => exact lk.nx ρ' S1 σ' F1 H1 q1 (g1.trans e1) s1 (en'.mono e1.1)
theorem d_while {c : Expr} {body : List Stmt} {tc : TT} {dc : DT} {t : TS} {δ : DS} (hp : PassesOwn (model X.prog X.w) X.A X.env X.xe) (hc : PDT X F0 c tc dc) (hb : PDSs X F0 body t δ) : PDS X F0 (.While c body [] pos) (tWhile tc t) (dWhile dc δ) :=
  ⟨ps_while hp hc.pt hb.pss, sim_while hc.sim hb.sim⟩
end
end DL
set_option Elab.async false
set_option linter.all false
set_option maxRecDepth 100000
set_option maxHeartbeats 2000000
namespace DL
open PySem PySem.Spec L2
def dwipe (ρ : Env) : List Nat → Env
  | [] => ρ
  | v :: vs => (dwipe ρ vs).set v none
theorem wipe_none {σ : L2.St} : ∀ {vs : List Nat} {i : Nat}, i ∈ vs → i < σ.length → (wipe σ vs)[i]? = some none
  | v :: vs, i, h, hl => by
    unfold wipe
    by_cases e : v = i
    · subst e
      exact List.getElem?_set_self (by rw [wipe_length]; exact hl)
    · rw [List.getElem?_set_ne e]
      exact wipe_none ((List.mem_cons.mp h).resolve_left fun z => e z.symm) hl
theorem wipe_ext {σ τ : L2.St} {vs : List Nat} (hl : σ.length = τ.length) (h : ∀ i, i ∉ vs → σ[i]? = τ[i]?) : wipe σ vs = wipe τ vs := by
  apply List.ext_getElem?
  intro i
  by_cases hi : i ∈ vs
  · by_cases hs : i < σ.length
    · rw [wipe_none hi hs, wipe_none hi (by rw [← hl]; exact hs)]
    · rw [List.getElem?_eq_none (by rw [wipe_length]; omega), List.getElem?_eq_none (by rw [wipe_length]; omega)]
  · rw [wipe_out hi, wipe_out hi, h i hi]
theorem wipe_wipe {σ : L2.St} {vs : List Nat} : wipe (wipe σ vs) vs = wipe σ vs := wipe_ext (wipe_length _ _) fun i hi => wipe_out hi
theorem wipe_set {σ : L2.St} {vs : List Nat} {j : Nat} {x : Option V} (h : j ∈ vs) : wipe (σ.set j x) vs = wipe σ vs := wipe_ext (by rw [List.length_set]) fun i hi => by
  rw [List.getElem?_set_ne]
  intro e
  exact hi (e ▸ h)
theorem Envr.wipe {K : PySem.W.Frag} {F : Hp} {σ : L2.St} {ρ : Env} (h : Envr K F σ ρ) : ∀ vs : List Nat, Envr K F (L2.wipe σ vs) (dwipe ρ vs)
  | [] => h
  | v :: vs => by
    have ih := Envr.wipe h vs
    unfold L2.wipe dwipe
    refine ⟨by rw [List.length_set, List.length_set]; exact ih.len, fun i d q => ?_⟩
    by_cases e : v = i
    · subst e
      by_cases hl : v < (dwipe ρ vs).length
      · rw [List.getElem?_set_self hl] at q; cases q
      · rw [List.getElem?_eq_none (by rw [List.length_set]; omega)] at q; cases q
    · rw [List.getElem?_set_ne e] at q
      rw [List.getElem?_set_ne e]
      exact ih.at_ i d q
/-- a target within a comprehension: it stores into its own slots alone -/
def SimGv (K : PySem.W.Frag) (F0 : Bs) (vs : List Nat) (g : TG) (δ : DG) : Prop := ∀ v d σ ρ H F S (Q : L2.St → Hp → Prop) Qd, F0.to F S H → Sep K F S H → Envr K F σ ρ → Rp K F d v →
  (∀ ρ' S' σ' F' H', Qd ρ' S' → Go F S H F' S' H' → Sep K F' S' H' → Envr K F' σ' ρ' → wipe σ' vs = wipe σ vs → Q σ' H') → δ d ρ S Qd → g v σ H Q
def SimGsv (K : PySem.W.Frag) (F0 : Bs) (vs : List Nat) (g : TGs) (δ : DGs) : Prop := ∀ v d σ ρ H F S (Q : L2.St → Hp → Prop) Qd, F0.to F S H → Sep K F S H → Envr K F σ ρ → Rps K F d v →
  (∀ ρ' S' σ' F' H', Qd ρ' S' → Go F S H F' S' H' → Sep K F' S' H' → Envr K F' σ' ρ' → wipe σ' vs = wipe σ vs → Q σ' H') → δ d ρ S Qd → g v σ H Q
structure PDGv (X : Cx) (F0 : Bs) (vs : List Nat) (e : Expr) (g : TG) (δ : DG) : Prop where
  pg : PG X e g
  sim : SimGv X.K F0 vs g δ
structure PDGsv (X : Cx) (F0 : Bs) (vs : List Nat) (e : List Expr) (g : TGs) (δ : DGs) : Prop where
  pg : PGs X e g
  sim : SimGsv X.K F0 vs g δ
section
variable {X : Cx} {F0 : Bs} {K : PySem.W.Frag} {vs : List Nat} {pos : Pos} {e : Expr}
theorem gv_name (i : Nat) {x : Str} (hN : X.N.Nodup) (hv : i ∈ vs := by first | exact List.mem_singleton_self _ | decide) (hi : X.N[i]? = some x := by rfl) (hx : Loc X.env.scope x := by first | exact Or.inl rfl | exact Or.inr rfl) (hf : X.fn x = true ∨ X.env.scope.names.lookup x = some .local := by first | exact .inl rfl | exact .inr rfl | assumption) :
    PDGv X F0 vs (.Name x pos) (gName i) (dgName i) := ⟨pg_name hN hi hx hf, fun v d σ ρ H F S Q Qd e0 s en r lk h => lk _ S _ F H h Go.rfl s (en.set r) (wipe_set hv)⟩
theorem gsv_nil : PDGsv X F0 vs [] gNil dgNil := by
  refine ⟨pgs_nil, ?_⟩
  intro v d σ ρ H F S Q Qd e0 s en r lk h
  cases d with
  | nil => exact ⟨rps_nil.mp r, lk ρ S σ F H h Go.rfl s en rfl⟩
  | cons _ _ => exact h.elim
theorem gsv_cons {es : List Expr} {g : TG} {gs : TGs} {dg : DG} {dgs : DGs} (h1 : PDGv X F0 vs e g dg) (h2 : PDGsv X F0 vs es gs dgs)
    (hs : (assignEach (e :: es) X.env).map (·.2) = assign e X.env :: (assignEach es X.env).map (·.2) := by rfl) : PDGsv X F0 vs (e :: es) (gCons g gs) (dgCons dg dgs) := by
  refine ⟨pgs_cons h1.pg h2.pg hs, ?_⟩
  intro v d σ ρ H F S Q Qd e0 s en r lk h
  cases d with
  | nil => exact h.elim
  | cons d ds =>
    obtain ⟨w, ws, rfl, r1, r2⟩ := rps_cons.mp r
    refine ⟨w, ws, rfl, ?_⟩
    refine h1.sim w d σ ρ H F S _ _ e0 s en r1 ?_ h
    intro ρ1 S1 σ1 F1 H1 q1 e1 s1 en1 w1
    refine h2.sim ws ds σ1 ρ1 H1 F1 S1 _ _ (e0.trans e1) s1 en1 (Rps.mono e1.1 _ _ r2) ?_ q1
    intro ρ2 S2 σ2 F2 H2 q2 e2 s2 en2 w2
    exact lk ρ2 S2 σ2 F2 H2 q2 (e1.trans e2) s2 en2 (w2.trans w1)
theorem gv_tup {es : List Expr} {k : Nat} {g : TGs} {dg : DGs} {n : Nat} (hc : X.calm = true) (h : PDGsv X F0 vs es g dg)
    (hn : (assignEach es X.env).length = n := by rfl) (hst : (assignEach es X.env).findIdx? (·.1) = none := by rfl) : PDGv X F0 vs (.Tuple es k pos) (gTup X.K n g) (dgTup n dg) := by
  refine ⟨pg_tup hc h.pg hn hst, ?_⟩
  intro v d σ ρ H F S Q Qd e0 s en r lk q
  cases d with
  | tup ds =>
    obtain ⟨a, vs', rfl, hs, r2⟩ := rp_tup r
    exact ⟨a, vs', rfl, .inl (.inl (s.fz _ _ hs)), by rw [r2.length]; exact q.1, h.sim vs' ds σ ρ H F S Q Qd e0 s en r2 lk q.2⟩
  | _ => exact q.elim
end
/-- a clause's tests -/
structure PDTs (X : Cx) (F0 : Bs) (ifs : List Expr) (t : TT) (δ : DT) : Prop where
  pts : PTs X ifs t
  sim : SimT X.K F0 t δ
def dYes : DT := fun _ S Q => Q true S
theorem ts_nil {X : Cx} {F0 : Bs} : PDTs X F0 [] tYes dYes := ⟨pts_nil, fun σ ρ H F S Q Qd e0 s en lk h => lk true S F H h Go.rfl s⟩
theorem ts_one {X : Cx} {F0 : Bs} {c : Expr} {t : TT} {δ : DT} (h : PDT X F0 c t δ) : PDTs X F0 [c] t δ := ⟨pts_one h.pt, h.sim⟩
def dLcL (g : DG) (tt : DT) (te : DE) (ρ0 : Env) (Q : List D → Store → Prop) : List D → List D → Store → Prop
  | [] => fun acc S => Q acc S
  | d :: ds => fun acc S => g d ρ0 S fun ρ1 S1 => tt ρ1 S1 fun b S2 => match b with
    | true => te ρ1 S2 fun y S3 => acc.length < sizeLine ∧ dLcL g tt te ρ0 Q ds (acc ++ [y]) S3
    | false => dLcL g tt te ρ0 Q ds acc S2
def nLc (di : DI) (g : DG) (tt : DT) (te : DE) (vs : List Nat) : DN := fun ρ S Q => di ρ S fun ds S1 => dLcL g tt te (dwipe ρ vs) Q ds [] S1
/-- the heap without an object that is neither frozen nor stored -/
def hdrop (H : Hp) (p : Addr) : Hp := fun a => if a = p then none else H a
theorem sim_lc {K : PySem.W.Frag} {F0 : Bs} {wi : TI} {di : DI} {g : TG} {dg : DG} {tt : TT} {dt : DT} {te : TE} {de : DE} {vs : List Nat} (hi : SimI K F0 wi di) (hg : SimGv K F0 vs g dg) (ht : SimT K F0 tt dt) (he : SimE K F0 te de) :
    SimN K F0 (tLc wi g tt te vs) (nLc di dg dt de vs) := by
  intro σ ρ H F S Q Qd e0 s en lk q
  refine hi σ ρ H F S _ _ e0 s en ?_ q
  intro ds S1 J F1 H1 q1 e1 s1 wk Dl hD
  obtain ⟨G, Y, w, hG, hY⟩ := wk.ex
  have fD : F1 Dl = none := by
    cases z : F1 Dl with
    | none => rfl
    | some o => rw [s1.fz _ _ z] at hD; cases hD
  have sD : S1 Dl = none := by
    cases z : S1 Dl with
    | none => rfl
    | some o =>
      obtain ⟨_, o', z', _⟩ := s1.st _ _ z
      rw [z'] at hD; cases hD
  refine lc_it w (fun i H' => ∃ acc S' F' ws, Go F1 S1 H1 F' S' (hdrop H' Dl) ∧ H' Dl = some (.lst ws) ∧ F' Dl = none ∧ S' Dl = none ∧ Sep K F' S' H' ∧ Rps K F' acc ws ∧ dLcL dg dt de (dwipe ρ vs) Qd (ds.drop i) acc S')
    ?_ (fun i H' _ ⟨acc, S', F', ws, g1, _, _, _, s', _⟩ => hG F' S' H' g1.1 s') ?_ ?_
  · refine ⟨[], S1, F1, [], ⟨Ext.refl _, fun a o h f q nt => ?_⟩, upd_same, fD, sD, ⟨fun a o h => ?_, fun a m h => ?_⟩, rps_mk_nil, by rw [List.drop_zero]; exact q1⟩
    · have ne : a ≠ Dl := fun z => by rw [z, hD] at h; cases h
      refine ⟨?_, f, q⟩
      unfold hdrop
      rw [if_neg ne, upd_ne ne]
      exact h
    · have ne : a ≠ Dl := fun z => by rw [z, fD] at h; cases h
      rw [upd_ne ne]; exact s1.fz a o h
    · have ne : a ≠ Dl := fun z => by rw [z, sD] at h; cases h
      obtain ⟨h1, o, h2, h3⟩ := s1.st a m h
      exact ⟨h1, o, by rw [upd_ne ne]; exact h2, h3⟩
  · rintro i x H' H2 hlt ⟨acc, S', F', ws, g1, hl, fl, sl, s', ra, q'⟩ hy
    obtain ⟨F2, d, g2, s2, hd, r2⟩ := hY i H' x H2 F' S' hlt g1.1 s' hy
    have ed : ds.drop i = d :: ds.drop (i + 1) := by
      obtain ⟨_, e⟩ := List.getElem?_eq_some_iff.mp hd
      rw [List.drop_eq_getElem_cons hlt, e]
    rw [ed] at q'
    -- what stays of Dl through a step that knows nothing of it
    have hop : ∀ {Fa Fb : Hp} {Sa Sb : Store} {Ha Hb : Hp} {l : List V}, Go F1 S1 H1 Fa Sa (hdrop Ha Dl) → Ha Dl = some (.lst l) → Fa Dl = none → Sa Dl = none → Go Fa Sa Ha Fb Sb Hb → Go F1 S1 H1 Fb Sb (hdrop Hb Dl) ∧ Hb Dl = some (.lst l) ∧ Fb Dl = none ∧ Sb Dl = none := by
      intro Fa Fb Sa Sb Ha Hb l ga hla fla sla gb
      obtain ⟨k1, k2, k3⟩ := gb.2 Dl _ hla fla sla (fun _ => nofun)
      refine ⟨⟨ga.1.trans gb.1, fun a o h f q nt => ?_⟩, k1, k2, k3⟩
      obtain ⟨m1, m2, m3⟩ := ga.2 a o h f q nt
      have ne : a ≠ Dl := fun z => by rw [z] at m1; unfold hdrop at m1; rw [if_pos rfl] at m1; cases m1
      unfold hdrop at m1
      rw [if_neg ne] at m1
      obtain ⟨p1, p2, p3⟩ := gb.2 a o m1 m2 m3 nt
      refine ⟨?_, p2, p3⟩
      unfold hdrop
      rw [if_neg ne]
      exact p1
    have base : F0.to F' S' H' := by
      have z : F0.to F1 S1 H1 := e0.trans e1
      refine ⟨z.1.trans g1.1, fun a o h f q nt => ?_⟩
      obtain ⟨m1, m2, m3⟩ := z.2 a o h f q nt
      obtain ⟨p1, p2, p3⟩ := g1.2 a o m1 m2 m3 nt
      have ne : a ≠ Dl := fun z => by rw [z, hD] at m1; cases m1
      unfold hdrop at p1
      rw [if_neg ne] at p1
      exact ⟨p1, p2, p3⟩
    obtain ⟨b1, b2, b3, b4⟩ := hop g1 hl fl sl g2
    refine hg x d (wipe σ vs) (dwipe ρ vs) H2 F2 S' _ _ (base.trans g2) s2 (((en.mono e1.1).wipe vs).mono (g1.1.trans g2.1)) r2 ?_ q'
    intro ρ3 S3 σ3 F3 H3 q3 e3 s3 en3 w3
    obtain ⟨c1, c2, c3, c4⟩ := hop b1 b2 b3 b4 e3
    refine ⟨by rw [w3, wipe_wipe], ?_⟩
    refine ht σ3 ρ3 H3 F3 S3 _ _ ((base.trans g2).trans e3) s3 en3 ?_ q3
    intro b S4 F4 H4 q4 e4 s4
    obtain ⟨d1, d2, d3, d4⟩ := hop c1 c2 c3 c4 e4
    cases b with
    | true =>
      show te σ3 H4 _
      refine he σ3 ρ3 H4 F4 S4 _ _ (((base.trans g2).trans e3).trans e4) s4 (en3.mono e4.1) ?_ q4
      intro y S5 v F5 H5 q5 e5 s5 r5
      obtain ⟨f1, f2, f3, f4⟩ := hop d1 d2 d3 d4 e5
      have rr := Rps.mono (((g2.trans e3).trans e4).trans e5).1 _ _ ra
      refine ⟨ws, f2, by rw [ra.length]; exact q5.1, acc ++ [y], S5, F5, ws ++ [v], ⟨f1.1, fun a o h f q nt => ?_⟩, upd_same, f3, f4, ⟨fun a o h => ?_, fun a m h => ?_⟩, rr.append (rps_mk r5 rps_mk_nil), q5.2⟩
      · obtain ⟨m1, m2, m3⟩ := f1.2 a o h f q nt
        have ne : a ≠ Dl := fun z => by rw [z] at m1; unfold hdrop at m1; rw [if_pos rfl] at m1; cases m1
        refine ⟨?_, m2, m3⟩
        unfold hdrop at m1 ⊢
        rw [if_neg ne] at m1 ⊢
        rw [upd_ne ne]
        exact m1
      · have ne : a ≠ Dl := fun z => by rw [z, f3] at h; cases h
        rw [upd_ne ne]; exact s5.fz a o h
      · have ne : a ≠ Dl := fun z => by rw [z, f4] at h; cases h
        obtain ⟨h1, o, h2, h3⟩ := s5.st a m h
        exact ⟨h1, o, by rw [upd_ne ne]; exact h2, h3⟩
    | false => exact ⟨acc, S4, F4, ws, d1, d2, d3, d4, s4, Rps.mono ((g2.trans e3).trans e4).1 _ _ ra, q4⟩
  · rintro H' ⟨acc, S', F', ws, g1, hl, fl, sl, s', ra, q'⟩
    rw [List.drop_length] at q'
    have eH : upd (hdrop H' Dl) Dl (.lst ws) = H' := by
      funext a
      by_cases h : a = Dl
      · rw [h, upd_same, hl]
      · rw [upd_ne h]
        unfold hdrop
        rw [if_neg h]
    have z := lk acc S' ws F' (hdrop H' Dl) Dl q' (e1.trans g1) ⟨fun a o h => ?_, fun a m h => ?_⟩ ra (by unfold hdrop; rw [if_pos rfl])
    · rw [eH] at z; exact z
    · have ne : a ≠ Dl := fun z => by rw [z, fl] at h; cases h
      unfold hdrop
      rw [if_neg ne]; exact s'.fz a o h
    · have ne : a ≠ Dl := fun z => by rw [z, sl] at h; cases h
      obtain ⟨h1, o, h2, h3⟩ := s'.st a m h
      refine ⟨h1, o, ?_, h3⟩
      unfold hdrop
      rw [if_neg ne]
      exact h2
section
variable {X : Cx} {F0 : Bs}
theorem n_lc {elt tg iter : Expr} {ifs : List Expr} {scope : Scope} {own : List (Str × Nat)} {pos : Pos} {wi : TI} {di : DI} {g : TG} {dg : DG} {tt : TT} {dt : DT} {te : TE} {de : DE} (own' : List (Str × Nat) := own) (hc : X.calm = true) (hN : X.N.Nodup) (ok : BlkOk X.N X.env.scope scope own) (hi : PDI X F0 tg iter wi di)
    (hg : ∀ (s : Shared) (H : Hp) (C : Addr) (cl : List (Str × Addr)) (fp : List Addr), PDGv (X.blk s H scope (compEnvC scope cl C X.env) fp) F0 (own.map (·.2)) tg g dg) (ht : ∀ (s : Shared) (H : Hp) (C : Addr) (cl : List (Str × Addr)) (fp : List Addr), PDTs (X.blk s H scope (compEnvC scope cl C X.env) fp) F0 ifs tt dt)
    (he : ∀ (s : Shared) (H : Hp) (C : Addr) (cl : List (Str × Addr)) (fp : List Addr), PD (X.blk s H scope (compEnvC scope cl C X.env) fp) F0 elt te de) (hs : ∀ x, foldedSetIterable iter X.env x = pure x := by intro _; rfl) :
    PN X F0 (.ListComp elt [⟨tg, iter, ifs, 0⟩] scope pos) (tLc wi g tt te (own.map (·.2))) (nLc di dg dt de (own.map (·.2))) :=
  ⟨pe_lc hc hN hi.pi ok (fun s H C cl fp => (hg s H C cl fp).pg) (fun s H C cl fp => (ht s H C cl fp).pts) (fun s H C cl fp => (he s H C cl fp).pe) hs,
    sim_lc hi.sim (hg X.s_0 F0.H 0 [] []).sim (ht X.s_0 F0.H 0 [] []).sim (he X.s_0 F0.H 0 [] []).sim⟩
end
end DL
set_option Elab.async false
set_option linter.all false
set_option maxRecDepth 100000
set_option maxHeartbeats 2000000
namespace DL
open PySem PySem.Spec L2
section
variable {X : Cx} {ι : Type}
theorem pe_any {e : Expr} {A : ι → Prop} {t : ι → TE} (h : ∀ i, A i → PE X e (t i)) : PE X e (fun σ H Q => ∃ i, A i ∧ t i σ H Q) := ⟨fun pins s σ H Q I ⟨i, a, q⟩ => (h i a).run pins s σ H Q I q⟩
end
def lift (K : PySem.W.Frag) (δ : DSp) : Sp := fun vs H Q E => ∃ ds F S Qd ε, Sep K F S H ∧ Rps K F ds vs ∧ δ ds S Qd ε ∧ LkE K F S H Qd Q ∧ LkX K F S H ε E
/-- the wish of a def's body: what leaves it -/
abbrev wOf (E : XK) : WX := fun cls d _ H => E cls d H
abbrev oOf (ε : Exn → Store → Prop) : DW := fun ex _ S => ε ex S
def startD (n : Nat) (ds : List D) : Env := ds.map some ++ List.replicate (n - ds.length) none
theorem envr_start {K : PySem.W.Frag} {F : Hp} {N : List Str} {ds : List D} {vs : List V} (r : Rps K F ds vs) : Envr K F (L2.start N vs) (startD N.length ds) := by
  unfold L2.start startD
  refine ⟨by rw [List.length_append, List.length_append, List.length_map, List.length_map, List.length_replicate, List.length_replicate, r.length], fun i d q => ?_⟩
  by_cases hi : i < ds.length
  · rw [List.getElem?_append_left (by simpa using hi), List.getElem?_map] at q
    rw [List.getElem?_append_left (by rw [List.length_map, r.length]; exact hi), List.getElem?_map]
    cases e : ds[i]? with
    | none => rw [e] at q; cases q
    | some d' =>
      rw [e] at q
      cases q
      obtain ⟨v, h1, h2⟩ := r.get e
      exact ⟨v, by rw [h1]; rfl, h2⟩
  · rw [List.getElem?_append_right (by simpa using hi), List.getElem?_replicate] at q
    split at q <;> cases q
def CXn (n : Bool) (P : Program) (w : World) : CXT := match n with
  | true => L2N.CX P w
  | false => L2.CX P w
def Tkn (n : Bool) (X : Cx) (W : WX) : Prop := match n with
  | true => L2N.Takes X W
  | false => L2.Takes X W
theorem takesN {X : Cx} {W : WX} (tk : L2.Takes X W) : L2N.Takes X W := by
  rintro u s' ⟨a, B, sI, pins, σ, H, cls, d, e, I, nb, up, sky, r⟩
  refine tk u s' ⟨a, B, sI, pins, σ, H, cls, d, e, I, nb, up, ?_, r⟩
  rcases sky with ⟨h1, h2, h3, oe, vs, h4, h5, h6, h7⟩ | h | ⟨h1, h2, h3, h4⟩
  · exact .inl ⟨h1, h2, h3, oe, vs, h4, h5.zc, h6, h7⟩
  · exact .inr (.inl (L2H.flyingZ_imp (fun o z => z.zc) h))
  · exact .inr (.inr ⟨h1, h2, h3, L2H.tracedZ_imp (fun o z => z.zc) h4⟩)
theorem Tkn.imp {n : Bool} {X : Cx} {W W' : WX} (t : Tkn n X W) (h : ∀ c d σ H, W' c d σ H → W c d σ H) : Tkn n X W' := by
  cases n with
  | true => exact L2N.Takes.imp (W := W) t h
  | false => exact L2.Takes.imp (W := W) t h
theorem tkn0 {n : Bool} {X : Cx} : Tkn n X (fun _ _ _ _ => False) := by
  cases n with
  | true => rintro u s' ⟨a, B, sI, pins, σ, H, cls, d, e, I, nb, up, sky, na, os, ag, w⟩; exact w.elim
  | false => exact takes0
theorem passN {n n' : Bool} {X : Cx} {W : WX} (hn : n = true → n' = true) (tk : Tkn n X W) (σ : L2.St) : PassesAt (CXn n' X.prog X.w) X σ (WE W σ) := by
  cases n with
  | true => rw [hn rfl]; exact L2N.passAt tk σ
  | false => cases n' with
    | true => exact L2N.passAt (takesN tk) σ
    | false => exact passAt tk σ
/-- what may leave a piece of code, at both levels -/
structure Ctx (n : Bool) (X : Cx) (F0 : Bs) (ω : DW) (W : WX) : Prop where
  tk : Tkn n X W
  lk : LkW X.K F0.F F0.S F0.H ω W
abbrev o0 : DW := fun _ _ _ => False
abbrev w0 : WX := fun _ _ _ _ => False
theorem ctx0 {n : Bool} {X : Cx} {F0 : Bs} : Ctx n X F0 o0 w0 := ⟨tkn0, lkW_no⟩
abbrev FnP (n : Bool) (P : Program) (w : World) (K : PySem.W.Frag) (mg : Str → Option Value) (base : Heap) (k : Nat) (f : Addr) (fd : FuncData) (ps : List Str) (δ : DSp) : Prop := FnOk P w K mg base (CXn n P w) k f fd ps (lift K δ)
section
variable {n : Bool} {P : Program} {w : World} {K : PySem.W.Frag} {mg : Str → Option Value} {base : Heap}
/-- THE RULE for a def -/
theorem fn_d {x qual : Str} {params : Arguments} {body : List Stmt} {scope : Scope} {dvs : List V} {kws : List (Str × V)} {f : Addr} {fd : FuncData} {N ps : List Str} {k : Nat} {δ : DSp} (Fd : FunD K x qual params body scope dvs kws f fd) (S : FnScope N ps scope)
    (len : ∀ ds S Q ε, δ ds S Q ε → ds.length = ps.length)
    (hbody : ∀ (cdv : Value) (A : Around) (outer : List PySem.Env) (s : Shared) (H : Hp) (E : XK) (F0 : Bs) (ε : Exn → Store → Prop), Room k (A.deeper (PyProof.Rows.envOfC qual scope s.heap.objs.size f cdv)) →
      Ctx n (cxOf (CXn n P w) P w K mg base N qual scope f cdv A outer s H E) F0 (oOf ε) (wOf E) →
      ∃ t db, PDSs (cxOf (CXn n P w) P w K mg base N qual scope f cdv A outer s H E) F0 body t db ∧ ∀ ds S Q, δ ds S Q ε → db { nx := fun _ S' => Q .non S', rt := Q } (startD N.length ds) S) :
    FnP n P w K mg base (k + 1) f fd ps δ := by
  refine Fd.ok S (fun vs H Q E h => ?_) (fun cdv A outer s H vs Q E hr h => ?_)
  · obtain ⟨ds, F, S, Qd, ε, s, r, h, _⟩ := h
    rw [r.length]
    exact len ds S Qd ε h
  · obtain ⟨ds, F, St, Qd, ε, sp, r, h, lk, lx⟩ := h
    have tk : Tkn n (cxOf (CXn n P w) P w K mg base N qual scope f cdv A outer s H E) (wOf E) := by
      cases n with
      | true => exact L2N.takes_of rfl rfl rfl rfl
      | false => exact takes_of rfl rfl rfl rfl
    obtain ⟨t, db, hb, hd⟩ := hbody cdv A outer s H E ⟨F, St, H⟩ ε hr ⟨tk, fun ex ρ S' cls dx σ F' H' q g s' en rx => lx ex S' cls dx F' H' q g s' rx⟩
    refine ⟨t, hb.pss, ?_⟩
    refine hb.sim (L2.start N vs) (startD N.length ds) H F St _ { nx := fun _ S' => Qd .non S', rt := Qd } Go.rfl sp (envr_start r) ⟨?_, lk, lkS_no, lkS_no⟩ (hd ds St Qd h)
    intro ρ S' σ F' H' q g s' en
    exact lk .non S' .non F' H' q g s' rp_mk_non
end
end DL
set_option Elab.async false
set_option linter.all false
set_option maxRecDepth 100000
set_option maxHeartbeats 4000000
namespace DL
open PySem PySem.Spec L2
mutual
def nd : PyData → Bool
  | .dict _ => false
  | .list xs => nds xs
  | .tuple xs => nds xs
  | _ => true
def nds : List PyData → Bool
  | [] => true
  | x :: xs => nd x && nds xs
end
mutual
theorem rd_same {h : Heap} : ∀ (d e : PyData) (v : Value) (as bs : List Addr), nd d = true → Reads h v d as → Reads h v e bs → d = e
  | .none, e, v, as, bs, _, r, q => by cases r; cases q; rfl
  | .bool _, e, v, as, bs, _, r, q => by cases r; cases q; rfl
  | .int _, e, v, as, bs, _, r, q => by cases r; cases q; rfl
  | .str _, e, v, as, bs, _, r, q => by cases r; cases q; rfl
  | .dict _, e, v, as, bs, n, _, _ => by unfold nd at n; cases n
  | .list xs, e, v, as, bs, n, r, q => by
    unfold nd at n
    cases r with
    | list h1 h2 h3 h4 => cases q with
      | list k1 k2 k3 k4 =>
        rw [h1] at k1
        cases k1
        rw [h3] at k3
        cases k3
        exact congrArg PyData.list (rds_same xs _ _ _ _ n h4 k4)
      | tuple k1 k2 k3 k4 => rw [h1] at k1; cases k1; rw [h2] at k2; exact absurd k2 (by simp)
      | dict k1 k2 k3 k4 k5 => rw [h1] at k1; cases k1; rw [h2] at k2; exact absurd k2 (by simp)
  | .tuple xs, e, v, as, bs, n, r, q => by
    unfold nd at n
    cases r with
    | tuple h1 h2 h3 h4 => cases q with
      | tuple k1 k2 k3 k4 =>
        rw [h1] at k1
        cases k1
        rw [h3] at k3
        cases k3
        exact congrArg PyData.tuple (rds_same xs _ _ _ _ n h4 k4)
      | list k1 k2 k3 k4 => rw [h1] at k1; cases k1; rw [h2] at k2; exact absurd k2 (by simp)
      | dict k1 k2 k3 k4 k5 => rw [h1] at k1; cases k1; rw [h2] at k2; exact absurd k2 (by simp)
theorem rds_same {h : Heap} : ∀ (ds es : List PyData) (vs : List Value) (as bs : List Addr), nds ds = true → ReadsAll h vs ds as → ReadsAll h vs es bs → ds = es
  | [], es, vs, as, bs, _, r, q => by cases r; cases q; rfl
  | d :: ds, es, vs, as, bs, n, r, q => by
    unfold nds at n
    obtain ⟨n1, n2⟩ := Bool.and_eq_true_iff.mp n
    cases r with
    | cons r1 r2 => cases q with
      | cons q1 q2 => rw [rd_same d _ _ _ _ n1 r1 q1, rds_same ds _ _ _ _ n2 r2 q2]
end
mutual
theorem eqv_self : ∀ d : PyData, nd d = true → PyData.eqv d d = true
  | .none, _ => by unfold PyData.eqv; rfl
  | .bool _, _ => by unfold PyData.eqv; exact beq_self_eq_true _
  | .int _, _ => by unfold PyData.eqv; exact beq_self_eq_true _
  | .str _, _ => by unfold PyData.eqv; exact beq_self_eq_true _
  | .dict _, n => by unfold nd at n; cases n
  | .list xs, n => by unfold PyData.eqv; unfold nd at n; exact eqvs_self xs n
  | .tuple xs, n => by unfold PyData.eqv; unfold nd at n; exact eqvs_self xs n
theorem eqvs_self : ∀ ds : List PyData, nds ds = true → PyData.eqvAll ds ds = true
  | [], _ => by unfold PyData.eqvAll; rfl
  | d :: ds, n => by
    unfold nds at n
    obtain ⟨n1, n2⟩ := Bool.and_eq_true_iff.mp n
    unfold PyData.eqvAll
    rw [eqv_self d n1, eqvs_self ds n2] <;> rfl
end
open SeqAt in
mutual
theorem eq_rd : ∀ (x y : PyData) (A : Around) (s : Shared) (a b : Value) (as bs : List Addr), Reads s.heap a x as → Reads s.heap b y bs → nd x = true → nd y = true → A.units + min x.depth y.depth < cLine → EqAt A s a b (PyData.eqv x y)
  | .none, y, A, s, a, b, as, bs, ra, rb, _, ny, hu => by
    cases ra with
    | none => cases rb with
      | none => exact EqAt.same _
      | bool z => exact EqAt.none_bool  z
      | int z u => exact EqAt.none_int  z u
      | str z u => exact EqAt.none_str  z u
      | list k1 k2 k3 k4 => exact EqAt.none_list ⟨_, k1, k2, _, k3⟩ (room_here hu)
      | tuple k1 k2 k3 k4 => exact EqAt.none_tuple ⟨_, k1, k2, _, k3⟩ (room_here hu)
      | dict => unfold nd at ny; cases ny
  | .bool w, y, A, s, a, b, as, bs, ra, rb, _, ny, hu => by
    cases ra with
    | bool _ => cases rb with
      | none => exact EqAt.bool_none w
      | bool z => exact EqAt.bool_bool w z
      | int z u => exact EqAt.bool_int w z u
      | str z u => exact EqAt.bool_str w z u
      | list k1 k2 k3 k4 => exact EqAt.bool_list w ⟨_, k1, k2, _, k3⟩ (room_here hu)
      | tuple k1 k2 k3 k4 => exact EqAt.bool_tuple w ⟨_, k1, k2, _, k3⟩ (room_here hu)
      | dict => unfold nd at ny; cases ny
  | .int w, y, A, s, a, b, as, bs, ra, rb, _, ny, hu => by
    cases ra with
    | int _ t => cases rb with
      | none => exact EqAt.int_none w t
      | bool z => exact EqAt.int_bool w t z
      | int z u => exact EqAt.int_int w t z u
      | str z u => exact EqAt.int_str w t z u
      | list k1 k2 k3 k4 => exact EqAt.int_list w t ⟨_, k1, k2, _, k3⟩ (room_here hu)
      | tuple k1 k2 k3 k4 => exact EqAt.int_tuple w t ⟨_, k1, k2, _, k3⟩ (room_here hu)
      | dict => unfold nd at ny; cases ny
  | .str w, y, A, s, a, b, as, bs, ra, rb, _, ny, hu => by
    cases ra with
    | str _ t => cases rb with
      | none => exact EqAt.str_none w t
      | bool z => exact EqAt.str_bool w t z
      | int z u => exact EqAt.str_int w t z u
      | str z u => exact EqAt.str_str w t z u
      | list k1 k2 k3 k4 => exact EqAt.str_list w t ⟨_, k1, k2, _, k3⟩ (room_here hu)
      | tuple k1 k2 k3 k4 => exact EqAt.str_tuple w t ⟨_, k1, k2, _, k3⟩ (room_here hu)
      | dict => unfold nd at ny; cases ny
  | .dict _, y, A, s, a, b, as, bs, ra, rb, nx, ny, hu => by unfold nd at nx; cases nx
  | .list xs, y, A, s, a, b, as, bs, ra, rb, nx, ny, hu => by
    unfold nd at nx
    cases ra with
    | @list l o vs n _ as₁ h1 h2 h3 h4 =>
      have hl : s.heap.IsList l vs := ⟨_, h1, h2, _, h3⟩
      cases rb with
      | none => exact EqAt.list_none hl (room_here hu)
      | bool z => exact EqAt.list_bool z hl (room_here hu)
      | int z u => exact EqAt.list_int z u hl (room_here hu)
      | str z u => exact EqAt.list_str z u hl (room_here hu)
      | tuple k1 k2 k3 k4 => exact EqAt.list_tuple hl ⟨_, k1, k2, _, k3⟩ (room_here hu)
      | dict => unfold nd at ny; cases ny
      | @list l' o' vs' n' ys bs₁ k1 k2 k3 k4 =>
        unfold nd at ny
        have sz : vs.size = xs.length ∧ vs'.size = ys.length := ⟨by simpa using ReadsAll.length _ _ _ h4, by simpa using ReadsAll.length _ _ _ k4⟩
        rw [PyData.eqv]
        by_cases same : l = l'
        · subst same
          have e := rd_same (.list xs) (.list ys) _ _ _ (by unfold nd; exact nx) (.list h1 h2 h3 h4) (.list k1 k2 k3 k4)
          cases e
          rw [eqvs_self xs nx]
          exact EqAt.same _
        · by_cases long : vs.size = vs'.size
          · rw [← eqvAll_same_length (by omega), ← sz.1]
            exact EqAt.of_refs same (RcAt.lists hl ⟨_, k1, k2, _, k3⟩ long (room_here hu) fun j j1 j2 => by
              (have z := eqs_rd xs ys A.in1 s vs.toList vs'.toList _ _ h4 k4 nx ny (room_in hu) j (by simpa using j1) (by simpa using j2); simpa using z))
          · rw [eqvAll_other_length (by omega)]
            exact EqAt.of_refs same (RcAt.lists_lengths hl ⟨_, k1, k2, _, k3⟩ (by simpa using long) (room_here hu))
  | .tuple xs, y, A, s, a, b, as, bs, ra, rb, nx, ny, hu => by
    unfold nd at nx
    cases ra with
    | @tuple l o vs n _ as₁ h1 h2 h3 h4 =>
      have hl : s.heap.IsTuple l vs := ⟨_, h1, h2, _, h3⟩
      cases rb with
      | none => exact EqAt.tuple_none hl (room_here hu)
      | bool z => exact EqAt.tuple_bool z hl (room_here hu)
      | int z u => exact EqAt.tuple_int z u hl (room_here hu)
      | str z u => exact EqAt.tuple_str z u hl (room_here hu)
      | list k1 k2 k3 k4 => exact EqAt.tuple_list hl ⟨_, k1, k2, _, k3⟩ (room_here hu)
      | dict => unfold nd at ny; cases ny
      | @tuple l' o' vs' n' ys bs₁ k1 k2 k3 k4 =>
        unfold nd at ny
        have sz : vs.size = xs.length ∧ vs'.size = ys.length := ⟨by simpa using ReadsAll.length _ _ _ h4, by simpa using ReadsAll.length _ _ _ k4⟩
        rw [PyData.eqv]
        by_cases same : l = l'
        · subst same
          have e := rd_same (.tuple xs) (.tuple ys) _ _ _ (by unfold nd; exact nx) (.tuple h1 h2 h3 h4) (.tuple k1 k2 k3 k4)
          cases e
          rw [eqvs_self xs nx]
          exact EqAt.same _
        · rw [← eqvAll_eq xs ys, ← sz.1, ← sz.2]
          exact EqAt.of_refs same (RcAt.tuples hl ⟨_, k1, k2, _, k3⟩ (room_here hu) fun j j1 j2 => by
            (have z := eqs_rd xs ys A.in1 s vs.toList vs'.toList _ _ h4 k4 nx ny (room_in hu) j (by simpa using j1) (by simpa using j2); simpa using z))
theorem eqs_rd : ∀ (xs ys : List PyData) (A : Around) (s : Shared) (vs ws : List Value) (as bs : List Addr), ReadsAll s.heap vs xs as → ReadsAll s.heap ws ys bs → nds xs = true → nds ys = true →
    A.units + min (PyData.depthAll xs) (PyData.depthAll ys) < cLine → ∀ j (h1 : j < vs.length) (h2 : j < ws.length), EqAt A s vs[j] ws[j] (pairEq xs ys j)
  | [], ys, A, s, vs, ws, as, bs, ra, rb, _, _, _, j, h1, _ => by cases ra; exact absurd h1 (Nat.not_lt_zero _)
  | x :: xs, [], A, s, vs, ws, as, bs, ra, rb, _, _, _, j, _, h2 => by cases rb; exact absurd h2 (Nat.not_lt_zero _)
  | x :: xs, y :: ys, A, s, vs, ws, as, bs, ra, rb, nx, ny, hu, j, h1, h2 => by
    unfold nds at nx ny
    obtain ⟨n1, n2⟩ := Bool.and_eq_true_iff.mp nx
    obtain ⟨m1, m2⟩ := Bool.and_eq_true_iff.mp ny
    cases ra with
    | cons r rs => cases rb with
      | cons q qs => cases j with
        | zero => exact eq_rd x y A s _ _ _ _ r q n1 m1 (room_head hu)
        | succ j => exact eqs_rd xs ys A s _ _ _ _ rs qs n2 m2 (room_tail hu) j (Nat.lt_of_succ_lt_succ h1) (Nat.lt_of_succ_lt_succ h2)
end
open SeqAt in
theorem rc_rd : ∀ (x y : PyData) (A : Around) (s : Shared) (a b : Value) (as bs : List Addr), Reads s.heap a x as → Reads s.heap b y bs → nd x = true → nd y = true → A.units + min x.depth y.depth < cLine → RcAt A s a b (PyData.eqv x y) ∧ RcNeAt A s a b (!PyData.eqv x y) := by
  intro x y A s a b as bs ra rb nx ny hu
  cases ra with
  | none => cases rb with
    | none => exact ⟨RcAt.none_none, RcNeAt.none_none⟩
    | bool z => exact ⟨RcAt.none_bool z, RcNeAt.none_bool z⟩
    | int z u => exact ⟨RcAt.none_int z u, RcNeAt.none_int z u⟩
    | str z u => exact ⟨RcAt.none_str z u, RcNeAt.none_str z u⟩
    | list k1 k2 k3 k4 => exact ⟨RcAt.none_list ⟨_, k1, k2, _, k3⟩ (room_here hu), RcNeAt.none_list ⟨_, k1, k2, _, k3⟩ (room_here hu)⟩
    | tuple k1 k2 k3 k4 => exact ⟨RcAt.none_tuple ⟨_, k1, k2, _, k3⟩ (room_here hu), RcNeAt.none_tuple ⟨_, k1, k2, _, k3⟩ (room_here hu)⟩
    | dict => unfold nd at ny; cases ny
  | bool w => cases rb with
    | none => exact ⟨RcAt.bool_none w, RcNeAt.bool_none w⟩
    | bool z => exact ⟨RcAt.bool_bool w z, RcNeAt.bool_bool w z⟩
    | int z u => exact ⟨RcAt.bool_int w z u, RcNeAt.bool_int w z u⟩
    | str z u => exact ⟨RcAt.bool_str w z u, RcNeAt.bool_str w z u⟩
    | list k1 k2 k3 k4 => exact ⟨RcAt.bool_list w ⟨_, k1, k2, _, k3⟩ (room_here hu), RcNeAt.bool_list w ⟨_, k1, k2, _, k3⟩ (room_here hu)⟩
    | tuple k1 k2 k3 k4 => exact ⟨RcAt.bool_tuple w ⟨_, k1, k2, _, k3⟩ (room_here hu), RcNeAt.bool_tuple w ⟨_, k1, k2, _, k3⟩ (room_here hu)⟩
    | dict => unfold nd at ny; cases ny
  | int w t => cases rb with
    | none => exact ⟨RcAt.int_none w t, RcNeAt.int_none w t⟩
    | bool z => exact ⟨RcAt.int_bool w t z, RcNeAt.int_bool w t z⟩
    | int z u => exact ⟨RcAt.int_int w t z u, RcNeAt.int_int w t z u⟩
    | str z u => exact ⟨RcAt.int_str w t z u, RcNeAt.int_str w t z u⟩
    | list k1 k2 k3 k4 => exact ⟨RcAt.int_list w t ⟨_, k1, k2, _, k3⟩ (room_here hu), RcNeAt.int_list w t ⟨_, k1, k2, _, k3⟩ (room_here hu)⟩
    | tuple k1 k2 k3 k4 => exact ⟨RcAt.int_tuple w t ⟨_, k1, k2, _, k3⟩ (room_here hu), RcNeAt.int_tuple w t ⟨_, k1, k2, _, k3⟩ (room_here hu)⟩
    | dict => unfold nd at ny; cases ny
  | str w t => cases rb with
    | none => exact ⟨RcAt.str_none w t, RcNeAt.str_none w t⟩
    | bool z => exact ⟨RcAt.str_bool w t z, RcNeAt.str_bool w t z⟩
    | int z u => exact ⟨RcAt.str_int w t z u, RcNeAt.str_int w t z u⟩
    | str z u => exact ⟨RcAt.str_str w t z u, RcNeAt.str_str w t z u⟩
    | list k1 k2 k3 k4 => exact ⟨RcAt.str_list w t ⟨_, k1, k2, _, k3⟩ (room_here hu), RcNeAt.str_list w t ⟨_, k1, k2, _, k3⟩ (room_here hu)⟩
    | tuple k1 k2 k3 k4 => exact ⟨RcAt.str_tuple w t ⟨_, k1, k2, _, k3⟩ (room_here hu), RcNeAt.str_tuple w t ⟨_, k1, k2, _, k3⟩ (room_here hu)⟩
    | dict => unfold nd at ny; cases ny
  | dict => unfold nd at nx; cases nx
  | @list l o vs n xs as₁ h1 h2 h3 h4 =>
    unfold nd at nx
    have hl : s.heap.IsList l vs := ⟨_, h1, h2, _, h3⟩
    cases rb with
    | none => exact ⟨RcAt.list_none hl (room_here hu), RcNeAt.list_none hl (room_here hu)⟩
    | bool z => exact ⟨RcAt.list_bool z hl (room_here hu), RcNeAt.list_bool z hl (room_here hu)⟩
    | int z u => exact ⟨RcAt.list_int z u hl (room_here hu), RcNeAt.list_int z u hl (room_here hu)⟩
    | str z u => exact ⟨RcAt.list_str z u hl (room_here hu), RcNeAt.list_str z u hl (room_here hu)⟩
    | tuple k1 k2 k3 k4 => exact ⟨RcAt.list_tuple hl ⟨_, k1, k2, _, k3⟩ (room_here hu), RcNeAt.list_tuple hl ⟨_, k1, k2, _, k3⟩ (room_here hu)⟩
    | dict => unfold nd at ny; cases ny
    | @list l' o' vs' n' ys bs₁ k1 k2 k3 k4 =>
      unfold nd at ny
      have sz : vs.size = xs.length ∧ vs'.size = ys.length := ⟨by simpa using ReadsAll.length _ _ _ h4, by simpa using ReadsAll.length _ _ _ k4⟩
      have he : ∀ j (j1 : j < vs.size) (j2 : j < vs'.size), EqAt A.in1 s vs[j] vs'[j] (pairEq xs ys j) := fun j j1 j2 => by
        (have z := eqs_rd xs ys A.in1 s vs.toList vs'.toList _ _ h4 k4 nx ny (room_in hu) j (by simpa using j1) (by simpa using j2); simpa using z)
      rw [PyData.eqv]
      by_cases long : vs.size = vs'.size
      · rw [← eqvAll_same_length (by omega), ← sz.1]
        exact ⟨RcAt.lists hl ⟨_, k1, k2, _, k3⟩ long (room_here hu) he, RcNeAt.lists hl ⟨_, k1, k2, _, k3⟩ long (room_here hu) he⟩
      · rw [eqvAll_other_length (by omega)]
        exact ⟨RcAt.lists_lengths hl ⟨_, k1, k2, _, k3⟩ (by simpa using long) (room_here hu), RcNeAt.lists_lengths hl ⟨_, k1, k2, _, k3⟩ (by simpa using long) (room_here hu)⟩
  | @tuple l o vs n xs as₁ h1 h2 h3 h4 =>
    unfold nd at nx
    have hl : s.heap.IsTuple l vs := ⟨_, h1, h2, _, h3⟩
    cases rb with
    | none => exact ⟨RcAt.tuple_none hl (room_here hu), RcNeAt.tuple_none hl (room_here hu)⟩
    | bool z => exact ⟨RcAt.tuple_bool z hl (room_here hu), RcNeAt.tuple_bool z hl (room_here hu)⟩
    | int z u => exact ⟨RcAt.tuple_int z u hl (room_here hu), RcNeAt.tuple_int z u hl (room_here hu)⟩
    | str z u => exact ⟨RcAt.tuple_str z u hl (room_here hu), RcNeAt.tuple_str z u hl (room_here hu)⟩
    | list k1 k2 k3 k4 => exact ⟨RcAt.tuple_list hl ⟨_, k1, k2, _, k3⟩ (room_here hu), RcNeAt.tuple_list hl ⟨_, k1, k2, _, k3⟩ (room_here hu)⟩
    | dict => unfold nd at ny; cases ny
    | @tuple l' o' vs' n' ys bs₁ k1 k2 k3 k4 =>
      unfold nd at ny
      have sz : vs.size = xs.length ∧ vs'.size = ys.length := ⟨by simpa using ReadsAll.length _ _ _ h4, by simpa using ReadsAll.length _ _ _ k4⟩
      have he : ∀ j (j1 : j < vs.size) (j2 : j < vs'.size), EqAt A.in1 s vs[j] vs'[j] (pairEq xs ys j) := fun j j1 j2 => by
        (have z := eqs_rd xs ys A.in1 s vs.toList vs'.toList _ _ h4 k4 nx ny (room_in hu) j (by simpa using j1) (by simpa using j2); simpa using z)
      rw [PyData.eqv, ← eqvAll_eq xs ys, ← sz.1, ← sz.2]
      exact ⟨RcAt.tuples hl ⟨_, k1, k2, _, k3⟩ (room_here hu) he, RcNeAt.tuples hl ⟨_, k1, k2, _, k3⟩ (room_here hu) he⟩
end DL
set_option Elab.async false
set_option linter.all false
set_option maxRecDepth 100000
set_option maxHeartbeats 4000000
namespace DL
open PySem PySem.Spec L2
mutual
def pyOf : D → Option PyData
  | .non => some .none
  | .bl b => some (.bool b)
  | .int i => some (.int i)
  | .str s => some (.str s)
  | .tup xs => (pyAll xs).map .tuple
  | .lst xs => (pyAll xs).map .list
  | _ => none
def pyAll : List D → Option (List PyData)
  | [] => some []
  | d :: ds => match pyOf d, pyAll ds with
    | some p, some ps => some (p :: ps)
    | _, _ => none
end
/-- a list of the store by its items -/
def res (S : Store) : D → D
  | .ref a => match S a with
    | some (.lst xs) => .lst xs
    | some (.dK kvs) => .dK kvs
    | some (.dT kvs) => .dT kvs
    | _ => .ref a
  | d => d
section
variable {K : PySem.W.Frag} {F : Hp} {S : Store} {H : Hp}
/-- a list that stands in the heap: frozen, or of the store -/
theorem res_lst (s : Sep K F S H) {d : D} {v : V} {xs : List D} (r : Rp K F d v) (h : res S d = .lst xs) : ∃ p vs, v = .ref p ∧ H p = some (.lst vs) ∧ Rps K F xs vs := by
  cases d with
  | lst ys =>
    cases h
    obtain ⟨p, vs, rfl, h1, h2⟩ := rp_lst r
    exact ⟨p, vs, rfl, s.fz _ _ h1, h2⟩
  | ref a =>
    unfold res at h
    cases e : S a with
    | none => simp only [e] at h; cases h
    | some m =>
      simp only [e] at h
      cases m with
      | lst ys =>
        cases h
        obtain ⟨_, o, h1, vs, rfl, h2⟩ := s.st a _ e
        exact ⟨a, vs, rp_ref r, h1, h2⟩
      | _ => cases h
  | _ => cases h
theorem res_tup (s : Sep K F S H) {d : D} {v : V} {xs : List D} (r : Rp K F d v) (h : res S d = .tup xs) : ∃ p vs, v = .ref p ∧ F p = some (.tup vs) ∧ H p = some (.tup vs) ∧ Rps K F xs vs := by
  cases d with
  | tup ys =>
    cases h
    obtain ⟨p, vs, rfl, h1, h2⟩ := rp_tup r
    exact ⟨p, vs, rfl, h1, s.fz _ _ h1, h2⟩
  | ref a =>
    unfold res at h
    cases e : S a with
    | none => simp only [e] at h; cases h
    | some m => simp only [e] at h; cases m <;> cases h
  | _ => cases h
theorem res_flat {d e : D} (h : res S d = e) (he : ∀ a, d ≠ .ref a) : d = e := by
  cases d with
  | ref a => exact absurd rfl (he a)
  | _ => exact h
mutual
theorem dp_of (s : Sep K F S H) : ∀ (d : D) (p : PyData) (v : V), pyOf d = some p → Rp K F d v → Dp K H v p
  | .non, p, v, h, r => by unfold pyOf at h; cases h; rw [rp_non r]; exact .non
  | .bl b, p, v, h, r => by unfold pyOf at h; cases h; rw [rp_bl r]; exact .bl b
  | .int i, p, v, h, r => by unfold pyOf at h; cases h; rw [rp_int r]; exact .int i
  | .str x, p, v, h, r => by unfold pyOf at h; cases h; rw [rp_str r]; exact .str x
  | .tup xs, p, v, h, r => by
    unfold pyOf at h
    cases e : pyAll xs with
    | none => rw [e] at h; cases h
    | some ps =>
      rw [e] at h
      cases h
      obtain ⟨a, vs, rfl, h1, h2⟩ := rp_tup r
      exact .tup (.inl (.inl (s.fz _ _ h1))) (dps_of s xs ps vs e h2)
  | .lst xs, p, v, h, r => by
    unfold pyOf at h
    cases e : pyAll xs with
    | none => rw [e] at h; cases h
    | some ps =>
      rw [e] at h
      cases h
      obtain ⟨a, vs, rfl, h1, h2⟩ := rp_lst r
      exact .lst (.inl (.inl (s.fz _ _ h1))) (dps_of s xs ps vs e h2)
  | .ref _, p, v, h, r => by unfold pyOf at h; cases h
  | .ty _, p, v, h, r => by unfold pyOf at h; cases h
  | .dK _, p, v, h, r => by unfold pyOf at h; cases h
  | .dT _, p, v, h, r => by unfold pyOf at h; cases h
  | .ins _ _, p, v, h, r => by unfold pyOf at h; cases h
  | .scr _, p, v, h, r => by unfold pyOf at h; cases h
  | .err _ _, p, v, h, r => by unfold pyOf at h; cases h
theorem dps_of (s : Sep K F S H) : ∀ (ds : List D) (ps : List PyData) (vs : List V), pyAll ds = some ps → Rps K F ds vs → DpAll K H vs ps
  | [], ps, vs, h, r => by unfold pyAll at h; cases h; rw [rps_nil.mp r]; exact .nil
  | d :: ds, ps, vs, h, r => by
    unfold pyAll at h
    obtain ⟨v, ws, rfl, r1, r2⟩ := rps_cons.mp r
    cases e1 : pyOf d with
    | none => rw [e1] at h; cases h
    | some q =>
      cases e2 : pyAll ds with
      | none => rw [e1, e2] at h; cases h
      | some qs =>
        rw [e1, e2] at h
        cases h
        exact .cons (dp_of s d q v e1 r1) (dps_of s ds qs ws e2 r2)
end
theorem dp_res (s : Sep K F S H) {d : D} {p : PyData} {v : V} (h : pyOf (res S d) = some p) (r : Rp K F d v) : Dp K H v p := by
  by_cases hd : ∃ xs, res S d = .lst xs
  · obtain ⟨xs, e⟩ := hd
    obtain ⟨q, vs, rfl, h1, h2⟩ := res_lst s r e
    rw [e] at h
    unfold pyOf at h
    cases e2 : pyAll xs with
    | none => rw [e2] at h; cases h
    | some ps =>
      rw [e2] at h
      cases h
      exact .lst (.inl (.inl h1)) (dps_of s xs ps vs e2 h2)
  · cases d with
    | ref a =>
      unfold res at h hd
      cases e : S a with
      | none => simp only [e] at h; unfold pyOf at h; cases h
      | some m =>
        simp only [e] at h hd
        cases m with
        | lst xs => exact absurd ⟨xs, rfl⟩ hd
        | _ => unfold pyOf at h; cases h
    | _ => exact dp_of s _ p v h r
end
mutual
theorem nd_py : ∀ (d : D) (p : PyData), pyOf d = some p → nd p = true
  | .non, p, h => by unfold pyOf at h; cases h; rfl
  | .bl _, p, h => by unfold pyOf at h; cases h; rfl
  | .int _, p, h => by unfold pyOf at h; cases h; rfl
  | .str _, p, h => by unfold pyOf at h; cases h; rfl
  | .tup xs, p, h => by
    unfold pyOf at h
    cases e : pyAll xs with
    | none => rw [e] at h; cases h
    | some ps => rw [e] at h; cases h; unfold nd; exact nds_py xs ps e
  | .lst xs, p, h => by
    unfold pyOf at h
    cases e : pyAll xs with
    | none => rw [e] at h; cases h
    | some ps => rw [e] at h; cases h; unfold nd; exact nds_py xs ps e
  | .ref _, p, h => by unfold pyOf at h; cases h
  | .ty _, p, h => by unfold pyOf at h; cases h
  | .dK _, p, h => by unfold pyOf at h; cases h
  | .dT _, p, h => by unfold pyOf at h; cases h
  | .ins _ _, p, h => by unfold pyOf at h; cases h
  | .scr _, p, h => by unfold pyOf at h; cases h
  | .err _ _, p, h => by unfold pyOf at h; cases h
theorem nds_py : ∀ (ds : List D) (ps : List PyData), pyAll ds = some ps → nds ps = true
  | [], ps, h => by unfold pyAll at h; cases h; rfl
  | d :: ds, ps, h => by
    unfold pyAll at h
    cases e1 : pyOf d with
    | none => rw [e1] at h; cases h
    | some q =>
      cases e2 : pyAll ds with
      | none => rw [e1, e2] at h; cases h
      | some qs =>
        rw [e1, e2] at h
        cases h
        unfold nds
        rw [nd_py d q e1, nds_py ds qs e2] <;> rfl
end
def rEqP (K : PySem.W.Frag) (neg : Bool) : R2 := fun x y H Q => ∃ d e, Dp K H x d ∧ Dp K H y e ∧ nd d = true ∧ nd e = true ∧ min d.depth e.depth ≤ 64 ∧ Q (.bl (if neg then !PyData.eqv d e else PyData.eqv d e)) H
def opEqP (neg : Bool) : DR2 := fun x y S Q => match pyOf (res S x), pyOf (res S y) with
  | some p, some q => min p.depth q.depth ≤ 64 ∧ Q (.bl (if neg then !PyData.eqv p q else PyData.eqv p q)) S
  | _, _ => False
section
variable {X : Cx} {F0 : Bs}
theorem sim_eqP {neg : Bool} : SimR X.K F0 (rEqP X.K neg) (opEqP neg) := by
  intro x y dx dy H F S Q Qd e0 s rx ry lk h
  unfold opEqP at h
  split at h
  · rename_i p q e1 e2
    exact ⟨p, q, dp_res s e1 rx, dp_res s e2 ry, nd_py _ _ e1, nd_py _ _ e2, h.1, lk _ S _ F H h.2 Go.rfl s rp_mk_bl⟩
  · exact h.elim
theorem o_eq {k : Nat} (hr : Room k X.A) : DOp X F0 (compareOp .Eq) (rEqP X.K false) (opEqP false) := by
  refine ⟨?_, sim_eqP⟩
  intro pins s σ H x y v u Q I rx ry h
  obtain ⟨d, e, hd, he, nd, ne, dep, q⟩ := h
  obtain ⟨as, r1⟩ := Dp.reads I d x v hd rx
  obtain ⟨bs, r2⟩ := Dp.reads I e y u he ry
  exact (rc_rd d e X.A s v u as bs r1 r2 nd ne (by have := hr.units; omega)).1 X.prog X.w X.xe _ ⟨.bl _, H, I, rfl, q⟩
theorem o_ne {k : Nat} (hr : Room k X.A) : DOp X F0 (compareOp .NotEq) (rEqP X.K true) (opEqP true) := by
  refine ⟨?_, sim_eqP⟩
  intro pins s σ H x y v u Q I rx ry h
  obtain ⟨d, e, hd, he, nd, ne, dep, q⟩ := h
  obtain ⟨as, r1⟩ := Dp.reads I d x v hd rx
  obtain ⟨bs, r2⟩ := Dp.reads I e y u he ry
  exact (rc_rd d e X.A s v u as bs r1 r2 nd ne (by have := hr.units; omega)).2 X.prog X.w X.xe _ ⟨.bl _, H, I, rfl, q⟩
theorem DOp.or {f : Value → Value → Sem Value} {r1 r2 : R2} {o1 o2 : DR2} (h1 : DOp X F0 f r1 o1) (h2 : DOp X F0 f r2 o2) : DOp X F0 f (fun x y H Q => r1 x y H Q ∨ r2 x y H Q) (fun x y S Q => o1 x y S Q ∨ o2 x y S Q) :=
  ⟨fun pins s σ H x y v u Q I rx ry h => h.elim (h1.op pins s σ H x y v u Q I rx ry) (h2.op pins s σ H x y v u Q I rx ry),
   fun x y dx dy H F S Q Qd e0 s rx ry lk h => h.elim (fun q => .inl (h1.sim x y dx dy H F S Q Qd e0 s rx ry lk q)) fun q => .inr (h2.sim x y dx dy H F S Q Qd e0 s rx ry lk q)⟩
/-- the same reading in other words -/
theorem DOp.as {f : Value → Value → Sem Value} {r : R2} {o o' : DR2} (h : DOp X F0 f r o) (e : ∀ x y S Q, o' x y S Q → o x y S Q) : DOp X F0 f r o' :=
  ⟨h.op, fun x y dx dy H F S Q Qd e0 s rx ry lk q => h.sim x y dx dy H F S Q Qd e0 s rx ry lk (e _ _ _ _ q)⟩
def opI (C : Int → Int → Prop) (g : Int → Int → D) : DR2 := fun x y S Q => match x, y with
  | .int i, .int j => C i j ∧ Q (g i j) S
  | _, _ => False
theorem sim_I {C : Int → Int → Prop} {g : Int → Int → V} {gd : Int → Int → D} (hg : ∀ i j F, Rp X.K F (gd i j) (g i j)) : SimR X.K F0 (rI C g) (opI C gd) := by
  intro x y dx dy H F S Q Qd e0 s rx ry lk h
  unfold opI at h
  split at h
  · rename_i i j
    exact ⟨i, j, rp_int rx, rp_int ry, h.1, lk _ S _ F H h.2 Go.rfl s (hg i j F)⟩
  · exact h.elim
def opI0 (g : Int → Int → D) : DR2 := fun x y S Q => match x, y with
  | .int i, .int j => Q (g i j) S
  | _, _ => False
theorem sim_I0 {g : Int → Int → V} {gd : Int → Int → D} (hg : ∀ i j F, Rp X.K F (gd i j) (g i j)) : SimR X.K F0 (rI0 g) (opI0 gd) := by
  intro x y dx dy H F S Q Qd e0 s rx ry lk h
  unfold opI0 at h
  split at h
  · rename_i i j
    exact ⟨i, j, rp_int rx, rp_int ry, lk _ S _ F H h Go.rfl s (hg i j F)⟩
  · exact h.elim
theorem o_sub : DOp X F0 (binaryOp .Sub) (rI0 fun i j => .int (i - j)) (opI0 fun i j => .int (i - j)) := ⟨op_sub, sim_I0 fun _ _ _ => rp_mk_int⟩
theorem o_mul : DOp X F0 (binaryOp .Mult) (rI CMul fun i j => .int (i * j)) (opI CMul fun i j => .int (i * j)) := ⟨op_mul, sim_I fun _ _ _ => rp_mk_int⟩
theorem o_fdiv : DOp X F0 (binaryOp .FloorDiv) (rI CDivN fun i j => .int (i.fdiv j)) (opI CDivN fun i j => .int (i.fdiv j)) := ⟨op_fdivN, sim_I fun _ _ _ => rp_mk_int⟩
theorem o_mod : DOp X F0 (binaryOp .Mod) (rI (fun _ j => j ≠ 0) fun i j => .int (i.fmod j)) (opI (fun _ j => j ≠ 0) fun i j => .int (i.fmod j)) := ⟨op_modN, sim_I fun _ _ _ => rp_mk_int⟩
theorem o_pow : DOp X F0 (binaryOp .Pow) (rI CPow fun i j => .int (i ^ j.toNat)) (opI CPow fun i j => .int (i ^ j.toNat)) := ⟨op_pow, sim_I fun _ _ _ => rp_mk_int⟩
theorem o_addI : DOp X F0 (binaryOp .Add) (rI0 fun i j => .int (i + j)) (opI0 fun i j => .int (i + j)) := ⟨op_add, sim_I0 fun _ _ _ => rp_mk_int⟩
def opAddS : DR2 := fun x y S Q => match x, y with
  | .str i, .str j => i.length + j.length ≤ sizeLine ∧ Q (.str (i ++ j)) S
  | _, _ => False
theorem o_addS : DOp X F0 (binaryOp .Add) (fun x y H Q => ∃ i j, x = .str i ∧ y = .str j ∧ i.length + j.length ≤ sizeLine ∧ Q (.str (i ++ j)) H) opAddS := by
  refine ⟨op_add_str, ?_⟩
  intro x y dx dy H F S Q Qd e0 s rx ry lk h
  unfold opAddS at h
  split at h
  · rename_i i j
    exact ⟨i, j, rp_str rx, rp_str ry, h.1, lk _ S _ F H h.2 Go.rfl s rp_mk_str⟩
  · exact h.elim
def opCat : DR2 := fun x y S Q => match res S x, res S y with
  | .lst xs, .lst ys => xs.length + ys.length ≤ sizeLine ∧ Q (.lst (xs ++ ys)) S
  | _, _ => False
theorem o_cat : DOp X F0 (binaryOp .Add) rCat opCat := by
  refine ⟨op_cat, ?_⟩
  intro x y dx dy H F S Q Qd e0 s rx ry lk h
  unfold opCat at h
  split at h
  · rename_i xs ys e1 e2
    obtain ⟨p, vs, rfl, h1, h2⟩ := res_lst s rx e1
    obtain ⟨q, ws, rfl, g1, g2⟩ := res_lst s ry e2
    refine ⟨p, q, vs, ws, rfl, rfl, h1, g1, by rw [h2.length, g2.length]; exact h.1, fun r hr => ?_⟩
    exact lk _ S _ _ _ h.2 (Go.new s hr) (s.new hr).2 (rp_mk_lst upd_same (Rps.mono (s.new hr).1 _ _ (h2.append g2)))
  · exact h.elim
/-- + of ints, texts, lists -/
def opAdd : DR2 := fun x y S Q => match res S x, res S y with
  | .int i, .int j => Q (.int (i + j)) S
  | .str i, .str j => i.length + j.length ≤ sizeLine ∧ Q (.str (i ++ j)) S
  | .lst xs, .lst ys => xs.length + ys.length ≤ sizeLine ∧ Q (.lst (xs ++ ys)) S
  | _, _ => False
theorem res_int {S : Store} {d : D} {i : Int} (h : res S d = .int i) : d = .int i := by
  cases d with
  | ref a =>
    unfold res at h
    cases e : S a with
    | none => simp only [e] at h; cases h
    | some m => simp only [e] at h; cases m <;> cases h
  | _ => exact h
theorem res_str {S : Store} {d : D} {i : Str} (h : res S d = .str i) : d = .str i := by
  cases d with
  | ref a =>
    unfold res at h
    cases e : S a with
    | none => simp only [e] at h; cases h
    | some m => simp only [e] at h; cases m <;> cases h
  | _ => exact h
abbrev rAddA : R2 := fun x y H Q => rI0 (fun i j => .int (i + j)) x y H Q ∨ (∃ i j, x = .str i ∧ y = .str j ∧ i.length + j.length ≤ sizeLine ∧ Q (.str (i ++ j)) H) ∨ rCat x y H Q
theorem o_add : DOp X F0 (binaryOp .Add) rAddA opAdd := (o_addI.or (o_addS.or o_cat)).as fun x y S Q h => by
  unfold opAdd at h
  split at h
  · rename_i i j e1 e2
    rw [res_int e1, res_int e2]
    exact .inl h
  · rename_i i j e1 e2
    rw [res_str e1, res_str e2]
    exact .inr (.inl h)
  · rename_i xs ys e1 e2
    refine .inr (.inr ?_)
    unfold opCat
    rw [e1, e2]
    exact h
  · exact h.elim
def opLt (neg sw : Bool) : DR2 := fun x y S Q => match x, y with
  | .int i, .int j => Q (.bl (if neg then decide (if sw then i ≤ j else j ≤ i) else decide (if sw then j < i else i < j))) S
  | .str i, .str j => Q (.bl (if neg then !decide (if sw then j.cps.toList < i.cps.toList else i.cps.toList < j.cps.toList) else decide (if sw then j.cps.toList < i.cps.toList else i.cps.toList < j.cps.toList))) S
  | _, _ => False
def opLtI : DR2 := fun x y S Q => match x, y with
  | .int i, .int j => Q (.bl (decide (i < j))) S
  | .str i, .str j => Q (.bl (decide (i.cps.toList < j.cps.toList))) S
  | _, _ => False
def opLeI : DR2 := fun x y S Q => match x, y with
  | .int i, .int j => Q (.bl (decide (i ≤ j))) S
  | .str i, .str j => Q (.bl (!decide (j.cps.toList < i.cps.toList))) S
  | _, _ => False
def opGtI : DR2 := fun x y S Q => match x, y with
  | .int i, .int j => Q (.bl (decide (j < i))) S
  | .str i, .str j => Q (.bl (decide (j.cps.toList < i.cps.toList))) S
  | _, _ => False
def opGeI : DR2 := fun x y S Q => match x, y with
  | .int i, .int j => Q (.bl (decide (j ≤ i))) S
  | .str i, .str j => Q (.bl (!decide (i.cps.toList < j.cps.toList))) S
  | _, _ => False
abbrev rTwo (g : Int → Int → Bool) (k : Str → Str → Bool) : R2 := fun x y H Q => rI0 (fun i j => .bl (g i j)) x y H Q ∨ ∃ i j, x = .str i ∧ y = .str j ∧ Q (.bl (k i j)) H
/-- a rule over two ints and one over two texts -/
theorem o_two {f : Value → Value → Sem Value} {g : Int → Int → Bool} {k : Str → Str → Bool} (h1 : OpR X f (rI0 fun i j => .bl (g i j))) (h2 : OpR X f (fun x y H Q => ∃ i j, x = .str i ∧ y = .str j ∧ Q (.bl (k i j)) H)) :
    DOp X F0 f (rTwo g k) (fun x y S Q => match x, y with
      | .int i, .int j => Q (.bl (g i j)) S
      | .str i, .str j => Q (.bl (k i j)) S
      | _, _ => False) := by
  refine ⟨fun pins s σ H x y v u Q I rx ry h => h.elim (h1 pins s σ H x y v u Q I rx ry) (h2 pins s σ H x y v u Q I rx ry), ?_⟩
  intro x y dx dy H F S Q Qd e0 s rx ry lk h
  split at h
  · rename_i i j
    exact .inl ⟨i, j, rp_int rx, rp_int ry, lk _ S _ F H h Go.rfl s rp_mk_bl⟩
  · rename_i i j
    exact .inr ⟨i, j, rp_str rx, rp_str ry, lk _ S _ F H h Go.rfl s rp_mk_bl⟩
  · exact h.elim
theorem o_lt : DOp X F0 (compareOp .Lt) (rTwo (fun i j => decide (i < j)) fun i j => decide (i.cps.toList < j.cps.toList)) opLtI := o_two op_lt op_lt_str
theorem o_le : DOp X F0 (compareOp .LtE) (rTwo (fun i j => decide (i ≤ j)) fun i j => !decide (j.cps.toList < i.cps.toList)) opLeI := o_two op_le op_le_str
theorem o_gt : DOp X F0 (compareOp .Gt) (rTwo (fun i j => decide (j < i)) fun i j => decide (j.cps.toList < i.cps.toList)) opGtI := o_two op_gt op_gt_str
theorem o_ge : DOp X F0 (compareOp .GtE) (rTwo (fun i j => decide (j ≤ i)) fun i j => !decide (i.cps.toList < j.cps.toList)) opGeI := o_two op_ge op_ge_str
def isNon : D → Bool
  | .non => true
  | _ => false
theorem non_of {K : PySem.W.Frag} {F : Hp} {d : D} {v : V} (r : Rp K F d v) : decide (v = .non) = isNon d := by
  cases d with
  | non => have e := rp_non r; subst e; rfl
  | bl _ => have e := rp_bl r; subst e; rfl
  | int _ => have e := rp_int r; subst e; rfl
  | str _ => have e := rp_str r; subst e; rfl
  | ref _ => have e := rp_ref r; subst e; rfl
  | ty _ => unfold Rp at r; subst r; rfl
  | tup _ => obtain ⟨_, _, rfl, _⟩ := rp_tup r; rfl
  | lst _ => obtain ⟨_, _, rfl, _⟩ := rp_lst r; rfl
  | dK _ => unfold Rp at r; obtain ⟨_, _, rfl, _⟩ := r; rfl
  | dT _ => unfold Rp at r; obtain ⟨_, _, rfl, _⟩ := r; rfl
  | ins _ _ => obtain ⟨_, _, _, rfl, _⟩ := rp_ins r; rfl
  | scr _ => unfold Rp at r; obtain ⟨_, rfl, _⟩ := r; rfl
  | err _ _ => unfold Rp at r; obtain ⟨_, _, _, rfl, _⟩ := r; rfl
def opIs (neg : Bool) : DR2 := fun x y S Q => match y with
  | .non => Q (.bl (if neg then !isNon x else isNon x)) S
  | _ => False
theorem o_is : DOp X F0 (compareOp .Is) (fun x y H Q => y = .non ∧ Q (.bl (decide (x = .non))) H) (opIs false) := by
  refine ⟨op_isN, ?_⟩
  intro x y dx dy H F S Q Qd e0 s rx ry lk h
  cases dy with
  | non =>
    refine ⟨rp_non ry, ?_⟩
    rw [non_of rx]
    exact lk _ S _ F H h Go.rfl s rp_mk_bl
  | _ => exact h.elim
theorem o_isnot : DOp X F0 (compareOp .IsNot) (fun x y H Q => y = .non ∧ Q (.bl (!decide (x = .non))) H) (opIs true) := by
  refine ⟨op_notN, ?_⟩
  intro x y dx dy H F S Q Qd e0 s rx ry lk h
  cases dy with
  | non =>
    refine ⟨rp_non ry, ?_⟩
    rw [non_of rx]
    exact lk _ S _ F H h Go.rfl s rp_mk_bl
  | _ => exact h.elim
end
end DL
set_option Elab.async false
set_option linter.all false
set_option maxRecDepth 100000
set_option maxHeartbeats 4000000
namespace DL
open PySem PySem.Spec L2
def keyOf : D → Option Key
  | .int i => some (.inl i)
  | .str s => some (.inr s)
  | _ => none
def keysOf : List D → Option (List Key)
  | [] => some []
  | d :: ds => match keyOf d, keysOf ds with
    | some k, some ks => some (k :: ks)
    | _, _ => none
def kD : Key → D
  | .inl i => .int i
  | .inr s => .str s
section
variable {κ : Type} [DecidableEq κ]
def valD (kvs : List (κ × D)) (k : κ) : Option D := (kvs.find? fun kv => decide (kv.1 = k)).map (·.2)
def putD (kvs : List (κ × D)) (k : κ) (v : D) : List (κ × D) := if kvs.any (fun kv => decide (kv.1 = k)) then kvs.map (fun kv => if kv.1 = k then (k, v) else kv) else kvs ++ [(k, v)]
end
section
variable {K : PySem.W.Frag} {F : Hp} {S : Store} {H : Hp}
theorem key_rp {d : D} {k : Key} {v : V} (h : keyOf d = some k) (r : Rp K F d v) : v = kV k := by
  cases d with
  | int i => cases h; exact rp_int r
  | str s => cases h; exact rp_str r
  | _ => cases h
theorem keys_rp : ∀ {ds : List D} {ks : List Key} {vs : List V}, keysOf ds = some ks → Rps K F ds vs → vs = ks.map kV
  | [], ks, vs, h, r => by cases h; exact rps_nil.mp r
  | d :: ds, ks, vs, h, r => by
    obtain ⟨v, ws, rfl, r1, r2⟩ := rps_cons.mp r
    unfold keysOf at h
    cases e1 : keyOf d with
    | none => rw [e1] at h; cases h
    | some k =>
      cases e2 : keysOf ds with
      | none => rw [e1, e2] at h; cases h
      | some ks' =>
        rw [e1, e2] at h
        cases h
        rw [key_rp e1 r1, keys_rp e2 r2] <;> rfl
theorem rpK_cons {k : Key} {d : D} {ds : List (Key × D)} {ws : List (Key × V)} : RpK K F ((k, d) :: ds) ws ↔ ∃ v us, ws = (k, v) :: us ∧ Rp K F d v ∧ RpK K F ds us := by
  constructor
  · intro h; unfold RpK at h; exact h
  · intro h; unfold RpK; exact h
theorem rpT_cons {k : List Key} {d : D} {ds : List (List Key × D)} {ws : List (List Key × V)} : RpT K F ((k, d) :: ds) ws ↔ ∃ v us, ws = (k, v) :: us ∧ Rp K F d v ∧ RpT K F ds us := by
  constructor
  · intro h; unfold RpT at h; exact h
  · intro h; unfold RpT; exact h
theorem rpF_cons {k : Str} {d : D} {ds : List (Str × D)} {ws : List (Str × V)} : RpF K F ((k, d) :: ds) ws ↔ ∃ v us, ws = (k, v) :: us ∧ Rp K F d v ∧ RpF K F ds us := by
  constructor
  · intro h; unfold RpF at h; exact h
  · intro h; unfold RpF; exact h
theorem rpK_nil {ws : List (Key × V)} : RpK K F [] ws ↔ ws = [] := by unfold RpK; exact Iff.rfl
theorem rpT_nil {ws : List (List Key × V)} : RpT K F [] ws ↔ ws = [] := by unfold RpT; exact Iff.rfl
theorem rpF_nil {ws : List (Str × V)} : RpF K F [] ws ↔ ws = [] := by unfold RpF; exact Iff.rfl
theorem rpK_len : ∀ {ds : List (Key × D)} {ws : List (Key × V)}, RpK K F ds ws → ws.length = ds.length
  | [], ws, h => by rw [rpK_nil.mp h]; rfl
  | (k, d) :: ds, ws, h => by obtain ⟨v, us, rfl, _, q⟩ := rpK_cons.mp h; rw [List.length_cons, List.length_cons, rpK_len q]
theorem rpT_len : ∀ {ds : List (List Key × D)} {ws : List (List Key × V)}, RpT K F ds ws → ws.length = ds.length
  | [], ws, h => by rw [rpT_nil.mp h]; rfl
  | (k, d) :: ds, ws, h => by obtain ⟨v, us, rfl, _, q⟩ := rpT_cons.mp h; rw [List.length_cons, List.length_cons, rpT_len q]
theorem rpF_len : ∀ {ds : List (Str × D)} {ws : List (Str × V)}, RpF K F ds ws → ws.length = ds.length
  | [], ws, h => by rw [rpF_nil.mp h]; rfl
  | (k, d) :: ds, ws, h => by obtain ⟨v, us, rfl, _, q⟩ := rpF_cons.mp h; rw [List.length_cons, List.length_cons, rpF_len q]
theorem rpK_val : ∀ {ds : List (Key × D)} {ws : List (Key × V)} (k : Key), RpK K F ds ws → (valD ds k = none ∧ valV ws k = none) ∨ ∃ d v, valD ds k = some d ∧ valV ws k = some v ∧ Rp K F d v
  | [], ws, k, h => by rw [rpK_nil.mp h]; exact .inl ⟨rfl, rfl⟩
  | (j, d) :: ds, ws, k, h => by
    obtain ⟨v, us, rfl, r, q⟩ := rpK_cons.mp h
    unfold valD valV
    by_cases e : j = k
    · rw [List.find?_cons_of_pos (by simpa using e), List.find?_cons_of_pos (by simpa using e)]
      exact .inr ⟨d, v, rfl, rfl, r⟩
    · rw [List.find?_cons_of_neg (by simpa using e), List.find?_cons_of_neg (by simpa using e)]
      exact rpK_val k q
theorem rpT_val : ∀ {ds : List (List Key × D)} {ws : List (List Key × V)} (k : List Key), RpT K F ds ws → (valD ds k = none ∧ valV ws k = none) ∨ ∃ d v, valD ds k = some d ∧ valV ws k = some v ∧ Rp K F d v
  | [], ws, k, h => by rw [rpT_nil.mp h]; exact .inl ⟨rfl, rfl⟩
  | (j, d) :: ds, ws, k, h => by
    obtain ⟨v, us, rfl, r, q⟩ := rpT_cons.mp h
    unfold valD valV
    by_cases e : j = k
    · rw [List.find?_cons_of_pos (by simpa using e), List.find?_cons_of_pos (by simpa using e)]
      exact .inr ⟨d, v, rfl, rfl, r⟩
    · rw [List.find?_cons_of_neg (by simpa using e), List.find?_cons_of_neg (by simpa using e)]
      exact rpT_val k q
theorem rpF_val : ∀ {ds : List (Str × D)} {ws : List (Str × V)} (k : Str), RpF K F ds ws → (ds.lookup k = none ∧ ws.lookup k = none) ∨ ∃ d v, ds.lookup k = some d ∧ ws.lookup k = some v ∧ Rp K F d v
  | [], ws, k, h => by rw [rpF_nil.mp h]; exact .inl ⟨rfl, rfl⟩
  | (j, d) :: ds, ws, k, h => by
    obtain ⟨v, us, rfl, r, q⟩ := rpF_cons.mp h
    rw [List.lookup_cons, List.lookup_cons]
    by_cases e : (k == j) = true
    · rw [e]
      exact .inr ⟨d, v, rfl, rfl, r⟩
    · have e2 : (k == j) = false := by simpa using e
      rw [e2]
      exact rpF_val k q
/-- a dict by its entries -/
theorem res_dK (s : Sep K F S H) {d : D} {v : V} {kvs : List (Key × D)} (r : Rp K F d v) (h : res S d = .dK kvs) : ∃ p ws, v = .ref p ∧ Rd H p (.dK ws) ∧ RpK K F kvs ws := by
  cases d with
  | dK ys =>
    cases h
    unfold Rp at r
    obtain ⟨p, ws, rfl, ⟨o, h1, h2⟩, h3⟩ := r
    refine ⟨p, ws, rfl, ?_, h3⟩
    have h4 := s.fz _ _ h1
    unfold dcor at h2
    split at h2
    · cases h2; exact .inr ⟨_, h4⟩
    · cases h2
    · subst h2; exact .inl h4
  | ref a =>
    unfold res at h
    cases e : S a with
    | none => simp only [e] at h; cases h
    | some m =>
      simp only [e] at h
      cases m with
      | dK ys =>
        cases h
        obtain ⟨_, o, h1, vs, rfl, h2⟩ := s.st a _ e
        exact ⟨a, vs, rp_ref r, .inl h1, h2⟩
      | _ => cases h
  | _ => cases h
theorem res_dT (s : Sep K F S H) {d : D} {v : V} {kvs : List (List Key × D)} (r : Rp K F d v) (h : res S d = .dT kvs) : ∃ p ws, v = .ref p ∧ Rd H p (.dT ws) ∧ RpT K F kvs ws := by
  cases d with
  | dT ys =>
    cases h
    unfold Rp at r
    obtain ⟨p, ws, rfl, ⟨o, h1, h2⟩, h3⟩ := r
    refine ⟨p, ws, rfl, ?_, h3⟩
    have h4 := s.fz _ _ h1
    unfold dcor at h2
    split at h2
    · cases h2
    · cases h2; exact .inr ⟨_, h4⟩
    · subst h2; exact .inl h4
  | ref a =>
    unfold res at h
    cases e : S a with
    | none => simp only [e] at h; cases h
    | some m =>
      simp only [e] at h
      cases m with
      | dT ys =>
        cases h
        obtain ⟨_, o, h1, vs, rfl, h2⟩ := s.st a _ e
        exact ⟨a, vs, rp_ref r, .inl h1, h2⟩
      | _ => cases h
  | _ => cases h
/-- what a dict holds at a key, by data -/
def dGet (S : Store) (d k : D) : Option (Option D) := match res S d with
  | .dK kvs => (keyOf k).map (valD kvs)
  | .dT kvs => (match k with
    | .tup ks => (keysOf ks).map (valD kvs)
    | _ => none)
  | _ => none
theorem dGet_ok (s : Sep K F S H) {d k : D} {v y : V} {o : Option D} (h : dGet S d k = some o) (r : Rp K F d v) (ry : Rp K F k y) : ∃ a w, v = .ref a ∧ DGet H a y w ∧ ((o = none ∧ w = none) ∨ ∃ x u, o = some x ∧ w = some u ∧ Rp K F x u) := by
  unfold dGet at h
  split at h
  · rename_i kvs e
    obtain ⟨p, ws, rfl, h1, h2⟩ := res_dK s r e
    cases ek : keyOf k with
    | none => rw [ek] at h; cases h
    | some k' =>
      rw [ek] at h
      cases h
      refine ⟨p, valV ws k', rfl, .inl ⟨ws, k', h1, key_rp ek ry, rfl⟩, ?_⟩
      rcases rpK_val k' h2 with ⟨a, b⟩ | ⟨x, u, a, b, c⟩
      · exact .inl ⟨a, b⟩
      · exact .inr ⟨x, u, a, b, c⟩
  · rename_i kvs e
    obtain ⟨p, ws, rfl, h1, h2⟩ := res_dT s r e
    split at h
    · rename_i ks
      cases ek : keysOf ks with
      | none => rw [ek] at h; cases h
      | some k' =>
        rw [ek] at h
        cases h
        obtain ⟨b, us, rfl, g1, g2⟩ := rp_tup ry
        rw [keys_rp ek g2] at g1
        refine ⟨p, valV ws k', rfl, .inr ⟨ws, k', b, h1, rfl, s.fz _ _ g1, rfl⟩, ?_⟩
        rcases rpT_val k' h2 with ⟨a, b⟩ | ⟨x, u, a, b, c⟩
        · exact .inl ⟨a, b⟩
        · exact .inr ⟨x, u, a, b, c⟩
    · cases h
  · cases h
end
/-- in data: a sign in a text, an item of a list or tuple, a key of a dict -/
def inD (S : Store) (x y : D) : Option Bool := match res S y with
  | .str z => (match x with
    | .str w => if w.cps.size = 1 then some (decide (w.cps.getD 0 0 ∈ z.cps.toList)) else none
    | _ => none)
  | .lst ys => (match pyOf (res S x), pyAll ys with
    | some p, some ps => if p.depth ≤ 64 then some (ps.any fun q => PyData.eqv q p) else none
    | _, _ => none)
  | .tup ys => (match pyOf (res S x), pyAll ys with
    | some p, some ps => if p.depth ≤ 64 then some (ps.any fun q => PyData.eqv q p) else none
    | _, _ => none)
  | d => (dGet S d x).map Option.isSome
def opIn (neg : Bool) : DR2 := fun x y S Q => match inD S x y with
  | some b => Q (.bl (if neg then !b else b)) S
  | none => False
def rInP (K : PySem.W.Frag) (neg : Bool) : R2 := fun x y H Q =>
  (∃ (c : Nat) (z : Str), x = .str ⟨#[c]⟩ ∧ y = .str z ∧ Q (.bl (if neg then !decide (c ∈ z.cps.toList) else decide (c ∈ z.cps.toList))) H) ∨
  (∃ d ds, Dp K H x d ∧ (Dp K H y (.list ds) ∨ Dp K H y (.tuple ds)) ∧ nd d = true ∧ nds ds = true ∧ d.depth ≤ 64 ∧ Q (.bl (if neg then !(ds.any fun z => PyData.eqv z d) else ds.any fun z => PyData.eqv z d)) H) ∨
  (∃ a o, y = .ref a ∧ DGet H a x o ∧ Q (.bl (if neg then !o.isSome else o.isSome)) H)
section
variable {X : Cx} {F0 : Bs}
open SeqAt in
/-- an item of written-out data, whichever of both kinds -/
theorem in_rd {A : Around} {s : Shared} {u v : Value} {d : PyData} {ds : List PyData} {as bs : List Addr} {Q : Value → Shared → Prop} {E : Value → Shared → Prop} {P : Program} {w : World} (neg : Bool)
    (ry : Reads s.heap u (.list ds) bs ∨ Reads s.heap u (.tuple ds) bs) (rx : Reads s.heap v d as) (nx : nd d = true) (nn : nds ds = true) (hu : A.units + 65 < cLine) (hd : d.depth ≤ 64)
    (h : Q (.bool (if neg then !(ds.any fun z => PyData.eqv z d) else ds.any fun z => PyData.eqv z d)) s) : wpAny (model P w) A (compareOp (if neg then .NotIn else .In) v u) Q E s := by
  have items : ∀ (us : List Value) (ps : List PyData) (cs : List Addr), ReadsAll s.heap us ps cs → nds ps = true → ∃ e : Value → Bool, (∀ y ∈ us, EqAt A.in1 s y v (e y)) ∧ us.any e = ps.any fun z => PyData.eqv z d := by
    classical
    intro us ps cs ra np
    have one : ∀ (us : List Value) (ps : List PyData) (cs : List Addr), ReadsAll s.heap us ps cs → nds ps = true → ∀ y ∈ us, ∃ b : Bool, EqAt A.in1 s y v b ∧ ∀ p c, nd p = true → Reads s.heap y p c → PyData.eqv p d = b := by
      intro us
      induction us with
      | nil => intro ps cs ra np y hy; cases hy
      | cons w ws ih =>
        intro ps cs ra np y hy
        cases ra with
        | @cons _ _ q qs _ _ r1 r2 =>
          unfold nds at np
          obtain ⟨n1, n2⟩ := Bool.and_eq_true_iff.mp np
          rcases List.mem_cons.mp hy with rfl | hy
          · refine ⟨PyData.eqv q d, eq_rd q d A.in1 s _ _ _ _ r1 rx n1 nx (by show A.units + 1 + _ < _; omega), fun p c np' rp => ?_⟩
            rw [rd_same p q _ _ _ np' rp r1]
          · exact ih _ _ r2 n2 y hy
    refine ⟨fun y => if h : ∃ b : Bool, EqAt A.in1 s y v b ∧ ∀ p c, nd p = true → Reads s.heap y p c → PyData.eqv p d = b then h.choose else false, fun y hy => ?_, ?_⟩
    · have z := one us ps cs ra np y hy
      simp only [dif_pos z]
      exact z.choose_spec.1
    · clear ry h
      induction us generalizing ps cs with
      | nil => cases ra; rfl
      | cons w ws ih =>
        have z0 := one (w :: ws) ps cs ra np w List.mem_cons_self
        cases ra with
        | @cons _ _ q qs _ _ r1 r2 =>
          unfold nds at np
          obtain ⟨n1, n2⟩ := Bool.and_eq_true_iff.mp np
          rw [List.any_cons, List.any_cons, ih _ _ r2 n2]
          simp only [dif_pos z0]
          rw [z0.choose_spec.2 q _ n1 r1]
  rcases ry with ry | ry
  · cases ry with
    | @list l o vs n _ as₁ h1 h2 h3 h4 =>
      obtain ⟨e, he, ha⟩ := items vs.toList ds _ h4 nn
      have sz : vs.any e = ds.any fun z => PyData.eqv z d := by rw [← ha, Array.any_toList]
      cases neg with
      | true => exact notIn_listAt e ⟨_, h1, h2, _, h3⟩ (fun y hy => he y (by simpa using hy)) (by rw [sz]; exact h)
      | false => exact in_listAt e ⟨_, h1, h2, _, h3⟩ (fun y hy => he y (by simpa using hy)) (by rw [sz]; exact h)
  · cases ry with
    | @tuple l o vs n _ as₁ h1 h2 h3 h4 =>
      obtain ⟨e, he, ha⟩ := items vs.toList ds _ h4 nn
      have sz : vs.any e = ds.any fun z => PyData.eqv z d := by rw [← ha, Array.any_toList]
      cases neg with
      | true => exact notIn_tupleAt e ⟨_, h1, h2, _, h3⟩ (fun y hy => he y (by simpa using hy)) (by rw [sz]; exact h)
      | false => exact in_tupleAt e ⟨_, h1, h2, _, h3⟩ (fun y hy => he y (by simpa using hy)) (by rw [sz]; exact h)
theorem str_one {w : Str} (h : w.cps.size = 1) : w = ⟨#[w.cps.getD 0 0]⟩ := by
  obtain ⟨a⟩ := w
  obtain ⟨l⟩ := a
  match l, h with
  | [c], _ => rfl
theorem sim_in {neg : Bool} : SimR X.K F0 (rInP X.K neg) (opIn neg) := by
  intro x y dx dy H F S Q Qd e0 s rx ry lk h
  unfold opIn at h
  split at h
  · rename_i b eb
    unfold inD at eb
    split at eb
    · rename_i z ez
      split at eb
      · rename_i w
        split at eb
        · rename_i hw
          cases eb
          have e1 := rp_str rx
          have e2 := res_str ez
          subst e2
          have e3 := rp_str ry
          refine .inl ⟨w.cps.getD 0 0, z, by rw [e1, ← str_one hw], e3, lk _ S _ F H h Go.rfl s rp_mk_bl⟩
        · cases eb
      · cases eb
    · rename_i ys ey
      split at eb
      · rename_i p ps e1 e2
        split at eb
        · rename_i hd
          cases eb
          have d1 : Dp X.K H y (.list ps) := dp_res s (by rw [ey]; unfold pyOf; rw [e2]; rfl) ry
          exact .inr (.inl ⟨p, ps, dp_res s e1 rx, .inl d1, nd_py _ _ e1, nds_py _ _ e2, hd, lk _ S _ F H h Go.rfl s rp_mk_bl⟩)
        · cases eb
      · cases eb
    · rename_i ys ey
      split at eb
      · rename_i p ps e1 e2
        split at eb
        · rename_i hd
          cases eb
          have d1 : Dp X.K H y (.tuple ps) := dp_res s (by rw [ey]; unfold pyOf; rw [e2]; rfl) ry
          exact .inr (.inl ⟨p, ps, dp_res s e1 rx, .inr d1, nd_py _ _ e1, nds_py _ _ e2, hd, lk _ S _ F H h Go.rfl s rp_mk_bl⟩)
        · cases eb
      · cases eb
    · cases eo : dGet S (res S dy) dx with
      | none => rw [eo] at eb; cases eb
      | some o =>
        rw [eo] at eb
        cases eb
        have eo2 : dGet S dy dx = some o := by
          have idem : res S (res S dy) = res S dy := by
            cases dy with
            | ref a =>
              show res S (res S (.ref a)) = res S (.ref a)
              cases em : S a with
              | none => simp only [res, em]
              | some m => cases m <;> simp only [res, em]
            | _ => rfl
          unfold dGet at eo ⊢
          rw [idem] at eo
          exact eo
        obtain ⟨a, w, rfl, g, ho⟩ := dGet_ok s eo2 ry rx
        refine .inr (.inr ⟨a, w, rfl, g, ?_⟩)
        have e3 : w.isSome = o.isSome := by
          rcases ho with ⟨rfl, rfl⟩ | ⟨_, _, rfl, rfl, _⟩ <;> rfl
        rw [e3]
        exact lk _ S _ F H h Go.rfl s rp_mk_bl
  · exact h.elim
theorem o_in {k : Nat} (hr : Room k X.A) : DOp X F0 (compareOp .In) (rInP X.K false) (opIn false) := by
  refine ⟨?_, sim_in⟩
  intro pins s σ H x y v u Q I rx ry h
  rcases h with ⟨c, z, e1, e2, q⟩ | ⟨d, ds, hd, hy, n1, n2, dep, q⟩ | ⟨a, o, rfl, g, q⟩
  · exact op_in_sign pins s σ H x y v u Q I rx ry ⟨c, z, e1, e2, q⟩
  · obtain ⟨as, r1⟩ := Dp.reads I d x v hd rx
    have r2 : ∃ bs, Reads s.heap u (.list ds) bs ∨ Reads s.heap u (.tuple ds) bs := by
      rcases hy with hy | hy
      · obtain ⟨bs, r⟩ := Dp.reads I _ y u hy ry; exact ⟨bs, .inl r⟩
      · obtain ⟨bs, r⟩ := Dp.reads I _ y u hy ry; exact ⟨bs, .inr r⟩
    obtain ⟨bs, r2⟩ := r2
    exact in_rd (P := X.prog) (w := X.w) false r2 r1 n1 n2 (by have := hr.un; omega) dep ⟨.bl _, H, I, rfl, q⟩
  · cases ry
    exact d_in (hu_of hr) I g rx fun s3 I3 => ⟨.bl _, H, I3, rfl, q⟩
theorem o_notin {k : Nat} (hr : Room k X.A) : DOp X F0 (compareOp .NotIn) (rInP X.K true) (opIn true) := by
  refine ⟨?_, sim_in⟩
  intro pins s σ H x y v u Q I rx ry h
  rcases h with ⟨c, z, e1, e2, q⟩ | ⟨d, ds, hd, hy, n1, n2, dep, q⟩ | ⟨a, o, rfl, g, q⟩
  · exact op_notIn_sign pins s σ H x y v u Q I rx ry ⟨c, z, e1, e2, q⟩
  · obtain ⟨as, r1⟩ := Dp.reads I d x v hd rx
    have r2 : ∃ bs, Reads s.heap u (.list ds) bs ∨ Reads s.heap u (.tuple ds) bs := by
      rcases hy with hy | hy
      · obtain ⟨bs, r⟩ := Dp.reads I _ y u hy ry; exact ⟨bs, .inl r⟩
      · obtain ⟨bs, r⟩ := Dp.reads I _ y u hy ry; exact ⟨bs, .inr r⟩
    obtain ⟨bs, r2⟩ := r2
    exact in_rd (P := X.prog) (w := X.w) true r2 r1 n1 n2 (by have := hr.un; omega) dep ⟨.bl _, H, I, rfl, q⟩
  · cases ry
    exact d_notIn (hu_of hr) I g rx fun s3 I3 => ⟨.bl _, H, I3, rfl, q⟩
end
end DL
set_option Elab.async false
set_option linter.all false
set_option maxRecDepth 100000
set_option maxHeartbeats 4000000
namespace DL
open PySem PySem.Spec PyProof.Rows L2
/-- what an add leaves: the old ones and the new one, in some order; the table's places rise still -/
theorem addTx_all (hh : Int) (v : Value) (D : Froz.SD) : (Froz.addTx hh v D).1.toList.Perm ((hh, v) :: D.1.toList) ∧
    (Ris D.2.2.place.toList → Ris (Froz.addTx hh v D).2.2.place.toList) ∧ (Froz.addTx hh v D).2.2.led = D.2.2.led := by
  obtain ⟨es, ep, t⟩ := D
  have pm := layNew_perm t es hh v
  have ri := layNew_ris t es hh v
  have le := layNew_led t es hh v
  unfold Froz.addTx Froz.tailTx
  generalize layNew t es hh v = Z at pm ri le ⊢
  obtain ⟨es1, t1, wd, gv⟩ := Z
  dsimp only at pm ri le ⊢
  rw [Array.toList_push] at pm
  have pc : es1.toList.Perm ((hh, v) :: es.toList) := pm.trans (List.perm_append_singleton _ _)
  have pl : ∀ tt : SetTable, (tt = if t1.plain = true then { t1 with plain := false } else t1) → tt.place = t1.place ∧ tt.led = t1.led := by
    intro tt e
    by_cases c : t1.plain = true
    · rw [if_pos c] at e; subst e; exact ⟨rfl, rfl⟩
    · rw [if_neg c] at e; subst e; exact ⟨rfl, rfl⟩
  generalize htt : (if t1.plain = true then { t1 with plain := false } else t1) = tt
  obtain ⟨a1, a2⟩ := pl tt htt.symm
  by_cases c : (!wd && tt.tooFull) = true
  · rw [if_pos c]
    dsimp only
    exact ⟨(relayAll_perm tt es1 _).trans pc, fun _ => relayAll_ris tt es1 _, by rw [relayAll_led, a2, le]⟩
  · rw [if_neg c]
    dsimp only
    exact ⟨pc, fun h => by rw [a1]; exact ri h, by rw [a2, le]⟩
structure TxS (P : Program) (w : World) (h : Heap) (a : Addr) (l : List Str) (D : Froz.SD) : Prop where
  ob : h.get? a = some (Froz.sObj "set" D)
  ok : Froz.TxOk P w D l
  pm : (D.1.toList.map fun e => strOf e.2).Perm l
  ri : Ris D.2.2.place.toList
  ld : w.params.followText "set-order" = true ∨ D.2.2.led = true
/-- one text more, if it isn't in -/
def plus (l : List Str) (k : Str) : List Str := if k ∈ l then l else k :: l
section
variable {P : Program} {w : World} {A : Around} {E : Value → Shared → Prop} {s : Shared} {a : Addr} {l : List Str} {D : Froz.SD}
theorem TxS.keep {h h' : Heap} (R : TxS P w h a l D) (k : ∀ o, h.get? a = some o → h'.get? a = some o) : TxS P w h' a l D := ⟨k _ R.ob, R.ok, R.pm, R.ri, R.ld⟩
theorem txs_add {k : Str} {u : Tok} {Q : Bool → Shared → Prop} (R : TxS P w s.heap a l D) (hb : l.length + 1 < scanBound)
    (h : ∀ b h' D', Heap.SameBut a s.heap h' → TxS P w h' a (plus l k) D' → Q b { s with heap := h' }) : wpAny (model P w) A (setAddHashed a (.str k u) (hashStr w k)) Q E s := by
  by_cases hk : k ∈ l
  · have ep : plus l k = l := if_pos hk
    have hd : (Froz.sObj "set" D).data = .set D.1 D.2.1 D.2.2 := rfl
    have hkey : (strKind P w).is k (.str k u) = true := Froz.is_str k u
    have hb0 : D.1.size < scanBound := by rw [R.ok.sz]; omega
    unfold setAddHashed setAddHashedIn
    refine wpAny_holding (wpAny_bind (wpAny_setState_of R.ob hd R.ok.fit ?_))
    dsimp only
    rw [byScan_of rfl hb0 R.ok.el]
    simp only [↓reduceIte]
    unfold setAddByScan
    refine wpAny_bind (wpAny_bind (wpAny_rule ?_))
    refine wpAny_bind (wpAny_setScan_of (knd := strKind P w) (k := k) hkey R.ob hd R.ok.fit R.ok.el ?_)
    cases hfi : List.findIdx? (fun e => (strKind P w).is k e.2) D.1.toList with
    | some j =>
      dsimp only
      refine wpAny_pure (wpAny_pure ?_)
      have q := h false s.heap D (Heap.SameBut.refl a s.heap)
      rw [ep] at q
      exact q R
    | none =>
      obtain ⟨e, he, q⟩ := (R.ok.mem k).mp hk
      have c := List.findIdx?_eq_none_iff.mp hfi e he
      rw [q] at c
      cases c
  · have ep : plus l k = k :: l := if_neg hk
    obtain ⟨p1, p2, p3⟩ := addTx_all (hashStr w k) (.str k u) D
    refine Froz.add_x R.ob R.ok hk hb (h true _ (Froz.addTx (hashStr w k) (.str k u) D) (Heap.SameBut.update ..) ?_)
    rw [ep]
    exact ⟨Froz.get_upd _ R.ob rfl, Froz.add_ok u R.ok, (p1.map fun e => strOf e.2).trans (List.Perm.cons _ R.pm), p2 R.ri, by rw [p3]; exact R.ld⟩
/-- all of a list, from the left -/
def plusAll (xs : List Str) : List Str := xs.foldl plus []
theorem plus_mem {l : List Str} {k x : Str} : x ∈ plus l k ↔ x ∈ l ∨ x = k := by
  unfold plus
  by_cases h : k ∈ l
  · rw [if_pos h]
    exact ⟨.inl, fun z => z.elim id fun e => e ▸ h⟩
  · rw [if_neg h, List.mem_cons]
    exact ⟨fun z => z.elim .inr .inl, fun z => z.elim .inr .inl⟩
theorem plus_nodup {l : List Str} {k : Str} (h : l.Nodup) : (plus l k).Nodup := by
  unfold plus
  by_cases hk : k ∈ l
  · rw [if_pos hk]; exact h
  · rw [if_neg hk]; exact List.nodup_cons.mpr ⟨hk, h⟩
theorem plus_len {l : List Str} {k : Str} : (plus l k).length ≤ l.length + 1 := by
  unfold plus
  by_cases hk : k ∈ l
  · rw [if_pos hk]; omega
  · rw [if_neg hk, List.length_cons]; exact Nat.le_refl _
theorem fold_mem : ∀ (xs l : List Str) (x : Str), x ∈ xs.foldl plus l ↔ x ∈ l ∨ x ∈ xs
  | [], l, x => by simp
  | y :: ys, l, x => by
    rw [List.foldl_cons, fold_mem ys, plus_mem, List.mem_cons]
    exact ⟨fun z => z.elim (fun q => q.elim .inl fun e => .inr (.inl e)) fun q => .inr (.inr q), fun z => z.elim (fun q => .inl (.inl q)) fun q => q.elim (fun e => .inl (.inr e)) .inr⟩
theorem fold_nodup : ∀ (xs l : List Str), l.Nodup → (xs.foldl plus l).Nodup
  | [], l, h => h
  | y :: ys, l, h => by rw [List.foldl_cons]; exact fold_nodup ys _ (plus_nodup h)
theorem fold_len : ∀ (xs l : List Str), (xs.foldl plus l).length ≤ l.length + xs.length
  | [], l => by simp
  | y :: ys, l => by
    rw [List.foldl_cons, List.length_cons]
    have h1 := fold_len ys (plus l y)
    have h2 := @plus_len l y
    omega
theorem plusAll_mem {xs : List Str} {x : Str} : x ∈ plusAll xs ↔ x ∈ xs := by
  unfold plusAll
  rw [fold_mem]
  simp
theorem plusAll_nodup (xs : List Str) : (plusAll xs).Nodup := fold_nodup xs [] List.nodup_nil
theorem plusAll_len (xs : List Str) : (plusAll xs).length ≤ xs.length := by
  have h := fold_len xs []
  simp at h
  exact h
theorem plusAll_snoc {xs : List Str} {k : Str} : plus (plusAll xs) k = plusAll (xs ++ [k]) := by unfold plusAll; rw [List.foldl_append] <;> rfl
theorem fold_nodup_eq : ∀ (xs l : List Str), (∀ x ∈ xs, x ∉ l) → xs.Nodup → (xs.foldl plus l).length = l.length + xs.length
  | [], l, _, _ => by simp
  | y :: ys, l, h, n => by
    obtain ⟨n1, n2⟩ := List.nodup_cons.mp n
    have e : plus l y = y :: l := if_neg (h y List.mem_cons_self)
    rw [List.foldl_cons, e, fold_nodup_eq ys (y :: l) (fun x hx hm => ?_) n2, List.length_cons, List.length_cons]
    · omega
    · rcases List.mem_cons.mp hm with z | z
      · exact n1 (z ▸ hx)
      · exact h x (List.mem_cons_of_mem _ hx) z
theorem plusAll_len_iff {xs : List Str} : (plusAll xs).length = xs.length ↔ xs.Nodup := by
  constructor
  · intro h
    have key : ∀ (xs l : List Str), (xs.foldl plus l).length = l.length + xs.length → (∀ x ∈ xs, x ∉ l) ∧ xs.Nodup := by
      intro xs
      induction xs with
      | nil => intro l _; exact ⟨fun x hx => (by cases hx), List.nodup_nil⟩
      | cons y ys ih =>
        intro l e
        rw [List.foldl_cons, List.length_cons] at e
        have h1 := fold_len ys (plus l y)
        by_cases hy : y ∈ l
        · have e2 : plus l y = l := if_pos hy
          rw [e2] at e h1
          omega
        · have e2 : plus l y = y :: l := if_neg hy
          rw [e2] at e
          obtain ⟨q1, q2⟩ := ih (y :: l) (by rw [List.length_cons]; omega)
          refine ⟨fun x hx => ?_, List.nodup_cons.mpr ⟨fun hm => q1 y hm List.mem_cons_self, q2⟩⟩
          rcases List.mem_cons.mp hx with z | z
          · rw [z]; exact hy
          · exact fun hm => q1 x z (List.mem_cons_of_mem _ hm)
    have := key xs [] (by unfold plusAll at h; rw [h]; simp)
    exact this.2
  · intro h
    have := fold_nodup_eq xs [] (fun _ _ z => by cases z) h
    unfold plusAll
    rw [this]
    simp
/-- the loop of set(..) over texts -/
theorem txs_loop {I : Addr} {fp wr : List Addr} {G : Array GenState → Array GenState → Prop} {n : Nat} {Pv : Nat → Value → Prop} {St : Nat → Shared → Prop} {Rr : Result → Shared → Prop}
    (W : WalksS P w A.in1 I fp wr G n Pv St) (S : Addr) (hSf : S ∉ fp) (xs : List Str) (hn : n = xs.length) (hb : xs.length + 1 < scanBound) (hval : ∀ i v, Pv i v → ∃ k u, xs[i]? = some k ∧ v = .str k u) :
    ∀ (j i : Nat) (s : Shared), n - i = j → i ≤ n → St i s → (∃ D, TxS P w s.heap S (plusAll (xs.take i)) D) →
      (∀ s' D, Moved (S :: wr) G s s' → TxS P w s'.heap S (plusAll xs) D → Rr (.ok (.ret .none)) s') →
      codeAny (model P w) A (.builtin "set.update.loop" ⟨[.ref S, .ref I], []⟩) Rr s := by
  have out : S ∉ wr := fun hm => hSf (W.sub _ hm)
  have into : ∀ b ∈ wr, b ∈ S :: wr := fun b hm => List.mem_cons_of_mem _ hm
  intro j
  induction j with
  | zero =>
    intro i s hj hi st ⟨D, R⟩ fin
    have e : i = n := by omega
    subst e
    refine codeAny_builtin F.entry_set_update_loop ?_
    rw [Around.under_plainId F.plain_set_update_loop _]
    refine wpAny_bind (m := pyNext (.ref I)) (W.done s _ _ st fun s' mv => ?_)
    rw [List.take_of_length_le (by omega)] at R
    exact wpAny_pure (fin s' D (mv.mono into) (R.keep fun o q => mv.heap S o out q))
  | succ j ih =>
    intro i s hj hi st ⟨D, R⟩ fin
    have lt : i < n := by omega
    refine codeAny_builtin F.entry_set_update_loop ?_
    rw [Around.under_plainId F.plain_set_update_loop _]
    refine wpAny_bind (m := pyNext (.ref I)) (W.item i s _ _ lt st fun v s' pv st' mv => ?_)
    obtain ⟨k, u, hk, rfl⟩ := hval i v pv
    have R' : TxS P w s'.heap S (plusAll (xs.take i)) D := R.keep fun o q => mv.heap S o out q
    refine wpAny_bind (m := holding [Value.str k u] (setAdd S (.str k u))) (wpAny_holding ?_)
    unfold setAdd
    refine wpAny_holding (wpAny_bind ((strKind P w).pyHash (k := k) (strKind_is _ _ _ _) ?_))
    have hl := plusAll_len (xs.take i)
    rw [List.length_take] at hl
    refine txs_add (s := { s' with toks := s'.toks + 1 }) R' (by omega) fun b h' D' sb R2 => ?_
    rw [plusAll_snoc, show xs.take i ++ [k] = xs.take (i + 1) by rw [List.take_add_one, hk] <;> rfl] at R2
    refine wpAny_pure ⟨plainId_quiet F.plain_set_update_loop _, ih (i + 1) _ (by omega) lt (W.frame _ s' _ _ st' (Nat.le_succ _) fun c hc o q => ?_) ⟨D', R2⟩ fun s2 D2 mv2 R3 => ?_⟩
    · rw [sb.2 c fun z => hSf (z ▸ hc)]; exact q
    · refine fin s2 D2 (Moved.trans W.gtrans ((mv.mono into).then_heap (Nat.le_succ _) fun c o hc q => ?_) mv2) R3
      rw [sb.2 c fun z => hc (by rw [z]; exact List.mem_cons_self)]; exact q
end
end DL
set_option Elab.async false
set_option linter.all false
set_option maxRecDepth 100000
set_option maxHeartbeats 4000000
namespace DL
open PySem PySem.Spec PyProof.Rows L2
/-- a set just made -/
abbrev nset (w : World) : Obj := { cls := .type "set", dict := none, data := .set #[] 0 (.fresh 0 0 (!w.params.followText "set-order")) }
section
variable {P : Program} {w : World} {A : Around} {E : Value → Shared → Prop} {s : Shared} {a : Addr} {l : List Str} {D : Froz.SD}
theorem txs_new {h : Heap} {a : Addr} (ho : h.get? a = some (nset w)) : TxS P w h a [] (#[], 0, .fresh 0 0 (!w.params.followText "set-order")) where
  ob := ho
  ok := Froz.TxOk.nil rfl
  pm := List.Perm.refl _
  ri := List.Pairwise.nil
  ld := by
    show _ ∨ (!w.params.followText "set-order") = true
    cases w.params.followText "set-order"
    · exact .inr rfl
    · exact .inl rfl
set_option maxHeartbeats 8000000 in
theorem call_setTx {q : Addr} {items : Array Value} (xs : List Str) {Q : Value → Shared → Prop} (hh : A.handled = none) (hl : s.heap.IsList q items) (hit : StrsAre items.toList xs) (hb : xs.length + 1 < scanBound)
    (h : ∀ (h' : Heap) (tk : Nat) (D : Froz.SD), TxS P w h' s.heap.objs.size (plusAll xs) D → (∀ b o, s.heap.get? b = some o → h'.get? b = some o) → Q (.ref s.heap.objs.size) { s with heap := h', toks := tk }) :
    wpAny (model P w) A (call (.type "set") [.ref q]) Q E s := by
  have size : items.size = xs.length := by
    rw [← StrsAre.len_eq hit, Array.length_toList]
  have ⟨c, tl, hmro⟩ := F.called_set.mro
  have made := F.called_set.made
  have sub := F.called_set.sub
  refine wpAny_call (codeAny_of_tree ?_)
  refine wpAny_pure (Q := _) ⟨Code.quiet_builtin _ (by decide +kernel), codeAny_builtin F.entry_type_call ?_⟩
  rw [Around.under_plain (weight_type_call_type "set" [.ref q] []) rfl]
  have k1 := F.called_set.notType
  have k2 := F.called_set.canCreate
  have k3 := F.typeCall_set_1 (.ref q)
  repeat (any_goals (first | assumption | wp_step))
  refine codeAny_mono (code_set_led1 (.ref q) (E := E) (Q₁ := fun obj s₁ => obj = .ref s.heap.objs.size ∧ s₁ = { s with heap := s.heap.push (nset w) }) ⟨rfl, rfl⟩) fun r s₁ hr => ?_
  cases r with
  | error e => exact hr
  | ok fl =>
    cases fl with
    | ret obj =>
      obtain ⟨rfl, rfl⟩ := hr
      have hS : (s.heap.push (nset w)).get? s.heap.objs.size = some (nset w) := Heap.get?_push_size _ rfl
      have hT : Shared.TypeIs { s with heap := s.heap.push (nset w) } (.ref s.heap.objs.size) "set" := ⟨_, hS, rfl⟩
      have li := F.called_set.init.lookup
      have bi := F.called_set.init.bind (.ref s.heap.objs.size)
      repeat (any_goals (first | assumption | wp_step))
      refine codeAny_mono (codeAny_call_builtin (R := wants (fun r s₂ => r = .none ∧ ∃ h' tk D, s₂ = { s with heap := h', toks := tk } ∧ TxS P w h' s.heap.objs.size (plusAll xs) D ∧
          (∀ b o, s.heap.get? b = some o → h'.get? b = some o)) E) F.called_set.init.plain F.entry_set_init (check_set_init_1 hT ?_)) fun r₂ s₂ hr₂ => ?_
      · have hl1 : (s.heap.push (nset w)).IsList q items := hl.push _
        obtain ⟨ol, hol, hcl, nl, hdl⟩ := hl
        obtain ⟨ocls, odict, odata, oslots⟩ := ol
        simp only at hcl hdl
        subst hcl; subst hdl
        have hol1 : (s.heap.push (nset w)).get? q = some { cls := .type "list", dict := odict, data := .seq items nl, slots := oslots } := Heap.get?_push_of_some _ hol
        have u1 := F.sub_list_set
        have u2 := F.sub_list_frozenset
        have u3 : (Value.type "list" == Value.type "dict") = false := by decide
        unfold Builtin.«set.__init__» noKeywords Builtin.Frozenset.updateFrom
        generalize hPI : pyIter = PI
        wp_walk
        subst hPI
        refine wpAny_pyIter_list hl1 ?_
        refine wpAny_bind (wpAny_runValue ?_)
        have lt : q < s.heap.objs.size := Heap.lt_size hol
        have h3 : A.in1.in1.in1.handled = none := by simp [hh]
        have z1 : (s.heap.push (nset w)).objs.size = s.heap.objs.size + 1 := Heap.size_push ..
        have n1 : q ≠ (s.heap.push (nset w)).objs.size := by
          rw [z1]; exact Nat.ne_of_lt (Nat.lt_succ_of_lt lt)
        have n2 : s.heap.objs.size ∉ [(s.heap.push (nset w)).objs.size, q] := by
          rw [z1]
          intro z
          rcases List.mem_cons.mp z with z | z
          · exact absurd z (Nat.ne_of_lt (Nat.lt_succ_self _))
          · exact absurd (List.mem_singleton.mp z) (Nat.ne_of_gt lt)
        have val : ∀ (i : Nat) (v : Value), items[i]? = some v → ∃ k u, xs[i]? = some k ∧ v = .str k u := fun i v hv => by
          have hi : i < xs.length := by rw [← size]; exact (Array.getElem?_eq_some_iff.mp hv).1
          obtain ⟨t, e⟩ := SS.strs_at hit i v (by rw [Array.getElem?_toList]; exact hv)
          refine ⟨xs[i], t, List.getElem?_eq_getElem hi, ?_⟩
          rw [e, List.getD_eq_getElem?_getD, List.getElem?_eq_getElem hi] <;> rfl
        refine txs_loop ((Walks.list h3 _ q n1 items).toS) s.heap.objs.size
          n2 xs size hb val (items.size - 0) 0 _ (by omega) (Nat.zero_le _)
          ⟨⟨_, Heap.get?_push_size _ rfl, rfl, rfl⟩, (hl1.push _)⟩ ⟨_, txs_new (Heap.get?_push_of_some _ hS)⟩ ?_
        intro s' D' hm hS'
        obtain ⟨h', g2, d', tk', os'⟩ := s'
        obtain rfl : g2 = s.gens := hm.gens
        obtain rfl : d' = s.drawn := hm.drawn
        obtain rfl : os' = s.os := hm.os
        show wpAny _ _ _ _ _ _
        refine wpAny_pure ?_
        show wpAny _ _ (ret Value.none) _ _ _
        refine wpAny_pure ⟨rfl, h', tk', D', rfl, hS', fun b o e => ?_⟩
        have b0 : b < s.heap.objs.size := Heap.lt_size e
        refine hm.heap b o (fun z => ?_) (Heap.get?_push_of_some _ (Heap.get?_push_of_some _ e))
        rcases List.mem_cons.mp z with z | z
        · exact absurd z (Nat.ne_of_lt b0)
        · have z2 := List.mem_singleton.mp z
          rw [z1] at z2
          exact absurd z2 (Nat.ne_of_lt (Nat.lt_succ_of_lt b0))
      · cases r₂ with
        | error e => exact hr₂
        | ok fl₂ =>
          cases fl₂ with
          | ret r =>
            obtain ⟨rfl, h', tk, D', rfl, hS', hk'⟩ := hr₂
            repeat (any_goals (first | assumption | wp_step))
            exact h _ _ _ hS' hk'
          | _ => exact hr₂.elim
    | _ => exact hr.elim
end
end DL
set_option Elab.async false
set_option linter.all false
set_option maxRecDepth 100000
set_option maxHeartbeats 4000000
namespace DL
open PySem PySem.Spec PyProof.Rows L2
def leS (a b : Str) : Bool := !ltCps b.cps.toList a.cps.toList
theorem ltCps_iff {a b : List Nat} : ltCps a b = true ↔ a < b := by rw [ltCps_eq]; exact decide_eq_true_iff
theorem leS_iff {a b : Str} : leS a b = true ↔ ¬ b.cps.toList < a.cps.toList := by
  unfold leS
  rw [Bool.not_eq_true', ← Bool.not_eq_true, ltCps_iff]
theorem leS_trans {a b c : Str} (h1 : leS a b = true) (h2 : leS b c = true) : leS a c = true := by
  rw [leS_iff] at *
  exact List.le_trans h1 h2
theorem leS_total (a b : Str) : (leS a b || leS b a) = true := by
  rw [Bool.or_eq_true, leS_iff, leS_iff]
  exact List.le_total _ _
theorem str_ext {a b : Str} (h : a.cps.toList = b.cps.toList) : a = b := by
  obtain ⟨x⟩ := a
  obtain ⟨y⟩ := b
  exact congrArg Str.mk (Array.toList_inj.mp h)
theorem leS_anti {a b : Str} (h1 : leS a b = true) (h2 : leS b a = true) : a = b := by
  rw [leS_iff] at *
  exact str_ext (List.le_antisymm h1 h2)
def sortS (xs : List Str) : List Str := xs.mergeSort leS
theorem sortS_perm (xs : List Str) : (sortS xs).Perm xs := List.mergeSort_perm _ _
theorem sortS_pw (xs : List Str) : (sortS xs).Pairwise (fun a b => leS a b = true) := List.pairwise_mergeSort (fun a b c => @leS_trans a b c) leS_total xs
theorem sorted_uniq : ∀ {l m : List Str}, l.Pairwise (fun a b => leS a b = true) → m.Pairwise (fun a b => leS a b = true) → l.Perm m → l = m
  | [], m, _, _, p => (List.nil_perm.mp p).symm
  | x :: l, [], _, _, p => absurd p.symm (fun q => by cases List.nil_perm.mp q)
  | x :: l, y :: m, h1, h2, p => by
    obtain ⟨a1, a2⟩ := List.pairwise_cons.mp h1
    obtain ⟨b1, b2⟩ := List.pairwise_cons.mp h2
    have e : x = y := by
      have hx : x ∈ y :: m := p.mem_iff.mp List.mem_cons_self
      have hy : y ∈ x :: l := p.mem_iff.mpr List.mem_cons_self
      rcases List.mem_cons.mp hx with q | q
      · exact q
      · rcases List.mem_cons.mp hy with r | r
        · exact r.symm
        · exact leS_anti (a1 y r) (b1 x q)
    subst e
    rw [sorted_uniq a2 b2 (List.Perm.cons_inv p)]
theorem rising_pw : ∀ {p : Str} {l : List Str}, risingS p l = true → (p :: l).Pairwise (fun a b => leS a b = true)
  | p, [], _ => List.pairwise_singleton _ _
  | p, x :: r, h => by
    have h' : (leS p x && risingS x r) = true := h
    obtain ⟨h1, h2⟩ := Bool.and_eq_true_iff.mp h'
    have q := rising_pw h2
    refine List.pairwise_cons.mpr ⟨fun y hy => ?_, q⟩
    rcases List.mem_cons.mp hy with e | hy
    · rw [e]; exact h1
    · exact leS_trans h1 ((List.pairwise_cons.mp q).1 y hy)
theorem sortedS_pw : ∀ {l : List Str}, sortedS l = true → l.Pairwise (fun a b => leS a b = true)
  | [], _ => List.Pairwise.nil
  | x :: r, h => rising_pw h
theorem sortS_of {ys xs : List Str} (p : ys.Perm xs) (h : sortedS ys = true) : ys = sortS xs := sorted_uniq (sortedS_pw h) (sortS_pw xs) (p.trans (sortS_perm xs).symm)
theorem sortS_congr {xs ys : List Str} (p : xs.Perm ys) : sortS xs = sortS ys := sorted_uniq (sortS_pw xs) (sortS_pw ys) ((sortS_perm xs).trans (p.trans (sortS_perm ys).symm))
theorem sortS_mem {xs : List Str} {x : Str} : x ∈ sortS xs ↔ x ∈ xs := (sortS_perm xs).mem_iff
theorem sortS_len {xs : List Str} : (sortS xs).length = xs.length := (sortS_perm xs).length_eq
/-- sorted(set(xs)) -/
def sortU (xs : List Str) : List Str := sortS (plusAll xs)
theorem sortU_mem {xs : List Str} {x : Str} : x ∈ sortU xs ↔ x ∈ xs := by unfold sortU; rw [sortS_mem, plusAll_mem]
theorem sortU_nodup (xs : List Str) : (sortU xs).Nodup := (sortS_perm _).nodup_iff.mpr (plusAll_nodup xs)
def TxO (P : Program) (w : World) (a : Addr) (l : List Str) : HO := .ext fun h => ∃ D, TxS P w h a l D
def rSetTx (K : PySem.W.Frag) (P : Program) (w : World) : List V → Hp → VK → Prop := fun xs H Q => ∃ (q : Addr) (ss : List Str), xs = [V.ref q] ∧ SqL K H q (ss.map V.str) ∧ ss.length + 1 < scanBound ∧
  ∀ p, H p = none → Q (.ref p) (upd H p (TxO P w p (plusAll ss)))
def rLenTx (P : Program) (w : World) : List V → Hp → VK → Prop := fun xs H Q => ∃ (p : Addr) (l : List Str), xs = [V.ref p] ∧ H p = some (TxO P w p l) ∧ l.length < scanBound ∧ Q (.int l.length) H
def rSortTx (P : Program) (w : World) : List V → Hp → VK → Prop := fun xs H Q => ∃ (p : Addr) (l : List Str), xs = [V.ref p] ∧ H p = some (TxO P w p l) ∧ l.length < scanBound ∧
  ∀ q, H q = none → Q (.ref q) (upd H q (.lst ((sortS l).map V.str)))
/-- sorted(xs), xs a list of texts -/
def rSortL (K : PySem.W.Frag) : List V → Hp → VK → Prop := fun xs H Q => ∃ (p : Addr) (l : List Str), xs = [V.ref p] ∧ SqL K H p (l.map V.str) ∧
  ∀ q, H q = none → Q (.ref q) (upd H q (.lst ((sortS l).map V.str)))
section
variable {X : Cx}
theorem txO_new {P : Program} {w : World} {H : Hp} {h : Heap} {a : Addr} {l : List Str} (R : ∃ D, TxS P w h a l D) : ObjOk P w H h a (TxO P w a l) := by
  have ⟨D, r⟩ := R
  exact ⟨R, ⟨_, r.ob⟩, fun h1 h2 p k => p.imp fun D r => r.keep k⟩
theorem strs_back {vs : List Value} : (∀ v ∈ vs, ∃ k u, v = Value.str k u) → StrsAre vs (vs.map strOf) := by
  induction vs with
  | nil => intro _; exact .nil
  | cons v vs ih =>
    intro h
    obtain ⟨k, u, rfl⟩ := h v List.mem_cons_self
    exact .cons k u (ih fun x hx => h x (List.mem_cons_of_mem _ hx))
theorem cr_setTx (hc : X.calm = true) : CallR X (.type "set") (rSetTx X.K X.prog X.w) := by
  intro pins s σ H xs us Q I r h
  obtain ⟨l, ss, rfl, hl, hb, q⟩ := h
  rw [Vals.ref1 r]
  obtain ⟨its, rv, pl, hz⟩ := I.list hl
  refine call_setTx (P := X.prog) (w := X.w) ss (I.ok.hd hc) pl.isList (by simpa using rv.strs) hb fun h' tk D R k => ?_
  exact ⟨.ref s.heap.objs.size, upd H s.heap.objs.size (TxO X.prog X.w s.heap.objs.size (plusAll ss)), I.laid (t' := tk) k (Nat.le_refl _) (txO_new ⟨D, R⟩), rfl, q _ (I.hok.fresh (Nat.le_refl _))⟩
theorem cr_lenTx : CallR X (.builtin "len") (rLenTx X.prog X.w) := by
  intro pins s σ H xs us Q I r h
  obtain ⟨p, l, rfl, hp, hb, q⟩ := h
  rw [Vals.ref1 r]
  obtain ⟨D, R⟩ := (I.hok p _ hp).1
  have sz := R.ok.sz
  have hs : scanBound = 4096 := rfl
  refine call_len_set (o := Froz.sObj "set" D) R.ob ⟨rfl, rfl, rfl⟩ rfl R.ok.fit (by rw [sz]; omega) ⟨.int l.length, H, I.tok _, ⟨_, by rw [sz]⟩, q⟩
theorem cr_sortTx (hc : X.calm = true) : CallR X (.builtin "sorted") (rSortTx X.prog X.w) := by
  intro pins s σ H xs us Q I r h
  obtain ⟨p, l, rfl, hp, hb, q⟩ := h
  rw [Vals.ref1 r]
  obtain ⟨D, R⟩ := (I.hok p _ hp).1
  have sz := R.ok.sz
  have hs : scanBound = 4096 := rfl
  refine Calls.call_function_entry kind_sorted plain_sorted entry_sorted (args_sorted1 _) ?_
  unfold Builtin.«sorted»
  refine wpAny_bind (m := checkCount "sorted" 1 1 _) (wpAny_pure ?_)
  refine wpAny_bind (collect_set (A := X.A.in1) (I.ok.hd hc) ⟨Froz.sObj "set" D, R.ob, rfl, rfl⟩ R.ok.fit (by rw [sz]; omega) R.ri R.ld fun s1 vs k1 hz g1 o1 pm => ?_)
  have hstr : ∀ v ∈ vs, ∃ k u, v = Value.str k u := fun v hv => by
    obtain ⟨e, he, q⟩ := List.mem_map.mp (pm.mem_iff.mp hv)
    obtain ⟨⟨k, hk, _⟩, _⟩ := R.ok.el e he
    obtain ⟨t, ht⟩ := Value.isStrOf_shape hk
    exact ⟨k, t, by rw [← q]; exact ht⟩
  have hS := strs_back hstr
  have pk : (vs.map strOf).Perm l := by
    have e := pm.map strOf
    rw [List.map_map] at e
    exact e.trans R.pm
  have hvl : vs.length ≤ sizeLine := by rw [pm.length_eq, List.length_map, Array.length_toList, sz, sizeLine_eq]; omega
  refine wpAny_bind (wpAny_newList ?_ hvl)
  have hoL : (s1.heap.push (seqObj "list" vs.toArray 0)).get? s1.heap.objs.size = some (seqObj "list" vs.toArray 0) := Heap.get?_push_size _ rfl
  refine wpAny_bind (wpAny_holding (wpAny_call_entry slot_list_sort ⟨_, hoL, rfl⟩ entry_list_sort (list_sort_treeKAny strKind_oneLt hoL hS.keysOf (fun v₁ v₂ rest e => keyKind_strs (by rw [← e]; exact hS)) hvl fun st' hp hs => ⟨_, rfl, ?_⟩) (args_list_sort _)))
  obtain ⟨ss', h1, h2, h3⟩ := sorted_out_str hS hp hs
  have e1 : ss' = sortS l := sortS_of (h2.trans pk) h3
  subst e1
  obtain ⟨c, hc'⟩ := sortedHeap_at (vs := vs) (out := (arrOf st').map (·.2)) hoL
  refine wpAny_pure ⟨_, rfl, ?_⟩
  have keep : ∀ b o, s.heap.get? b = some o → (sortedHeap (s1.heap.push (seqObj "list" vs.toArray 0)) s1.heap.objs.size vs ((arrOf st').map (·.2))).get? b = some o := fun b u e => by
    have q := k1 b u e
    have hlt := Heap.lt_size q
    rw [sortedHeap_old (Nat.ne_of_lt hlt) (by rw [size_push']; exact Nat.lt_succ_of_lt hlt)]
    exact Heap.get?_push_of_some _ q
  have hn : H s1.heap.objs.size = none := I.hok.fresh hz
  have hlen : ((sortS l).map V.str).length ≤ sizeLine := by rw [List.length_map, sortS_len, sizeLine_eq]; omega
  have J : Inv X pins σ (upd H s1.heap.objs.size (.lst ((sortS l).map V.str))) { s with heap := sortedHeap (s1.heap.push (seqObj "list" vs.toArray 0)) s1.heap.objs.size vs ((arrOf st').map (·.2)), gens := s1.gens, drawn := s1.drawn, toks := s1.toks } :=
    I.call (ch := []) (Un.laid keep hz hn) (I.hok.laid keep hz ⟨hlen, ((arrOf st').map (·.2)).toList, c, vals_of_strs h1, hc'⟩) (by rw [g1]; exact I.bare) (fun _ z => nomatch z)
  have e : ({ s1 with heap := sortedHeap (s1.heap.push (seqObj "list" vs.toArray 0)) s1.heap.objs.size vs ((arrOf st').map (·.2)) } : Shared) =
      { s with heap := sortedHeap (s1.heap.push (seqObj "list" vs.toArray 0)) s1.heap.objs.size vs ((arrOf st').map (·.2)), gens := s1.gens, drawn := s1.drawn, toks := s1.toks } := by
    cases s1
    cases s
    cases o1
    rfl
  show EP X pins σ Q _ { s1 with heap := sortedHeap (s1.heap.push (seqObj "list" vs.toArray 0)) s1.heap.objs.size vs ((arrOf st').map (·.2)) }
  rw [e]
  exact ⟨.ref _, _, J, rfl, q _ hn⟩
theorem cr_sortL : CallR X (.builtin "sorted") (rSortL X.K) := by
  intro pins s σ H xs us Q I r h
  obtain ⟨p, l, rfl, hs, q⟩ := h
  obtain ⟨its, rv, hl, hz⟩ := I.list hs
  rw [Vals.ref1 r]
  have n0 := rv.length
  rw [List.length_map] at n0 hz
  refine sorted_strsAny hl.isList rv.strs (by rw [← n0]; exact hz) fun out ys h1 h2 h3 => ?_
  have e1 : ys = sortS l := sortS_of h2 h3
  subst e1
  obtain ⟨ep, he'⟩ := sortedAll_at s.heap its out
  have hlen : ((sortS l).map V.str).length ≤ sizeLine := by rw [List.length_map, sortS_len]; exact hz
  exact ⟨.ref _, upd H (s.heap.objs.size + 1) (.lst ((sortS l).map V.str)), I.laid (t' := s.toks) (fun _ _ => sortedAll_old) (Nat.le_succ _) ⟨hlen, out.toList, ep, vals_of_strs h1, he'⟩, rfl, q _ (I.hok.fresh (Nat.le_succ _))⟩
end
end DL
set_option Elab.async false
set_option linter.all false
set_option maxRecDepth 100000
set_option maxHeartbeats 4000000
namespace DL
open PySem PySem.Spec L2
def lsOf (S : Store) (d : D) : Option (List D) := match res S d with
  | .lst xs => some xs
  | .scr ns => some (ns.map D.int)
  | _ => none
def tpOf : D → Option (List D)
  | .tup xs => some xs
  | _ => none
def strsOf : List D → Option (List Str)
  | [] => some []
  | .str s :: r => (strsOf r).map (s :: ·)
  | _ :: _ => none
def intsOf : List D → Option (List Int)
  | [] => some []
  | .int s :: r => (intsOf r).map (s :: ·)
  | _ :: _ => none
def blsOf : List D → Option (List Bool)
  | [] => some []
  | .bl s :: r => (blsOf r).map (s :: ·)
  | _ :: _ => none
theorem strsOf_map (ss : List Str) : strsOf (ss.map D.str) = some ss := by
  induction ss with
  | nil => rfl
  | cons s r ih => show (strsOf (r.map D.str)).map (s :: ·) = _; rw [ih]; rfl
theorem intsOf_map (ss : List Int) : intsOf (ss.map D.int) = some ss := by
  induction ss with
  | nil => rfl
  | cons s r ih => show (intsOf (r.map D.int)).map (s :: ·) = _; rw [ih]; rfl
theorem blsOf_map (ss : List Bool) : blsOf (ss.map D.bl) = some ss := by
  induction ss with
  | nil => rfl
  | cons s r ih => show (blsOf (r.map D.bl)).map (s :: ·) = _; rw [ih]; rfl
theorem strsOf_eq : ∀ {ds : List D} {ss : List Str}, strsOf ds = some ss → ds = ss.map D.str
  | [], ss, h => by cases h; rfl
  | d :: r, ss, h => by
    cases d with
    | str s =>
      have h' : (strsOf r).map (s :: ·) = some ss := h
      cases e : strsOf r with
      | none => rw [e] at h'; cases h'
      | some t => rw [e] at h'; cases h'; rw [strsOf_eq e]; rfl
    | _ => cases h
theorem intsOf_eq : ∀ {ds : List D} {ss : List Int}, intsOf ds = some ss → ds = ss.map D.int
  | [], ss, h => by cases h; rfl
  | d :: r, ss, h => by
    cases d with
    | int s =>
      have h' : (intsOf r).map (s :: ·) = some ss := h
      cases e : intsOf r with
      | none => rw [e] at h'; cases h'
      | some t => rw [e] at h'; cases h'; rw [intsOf_eq e]; rfl
    | _ => cases h
theorem blsOf_eq : ∀ {ds : List D} {ss : List Bool}, blsOf ds = some ss → ds = ss.map D.bl
  | [], ss, h => by cases h; rfl
  | d :: r, ss, h => by
    cases d with
    | bl s =>
      have h' : (blsOf r).map (s :: ·) = some ss := h
      cases e : blsOf r with
      | none => rw [e] at h'; cases h'
      | some t => rw [e] at h'; cases h'; rw [blsOf_eq e]; rfl
    | _ => cases h
section
variable {K : PySem.W.Frag} {F : Hp} {S : Store} {H : Hp}
theorem ls_of (s : Sep K F S H) {d : D} {v : V} {xs : List D} (r : Rp K F d v) (h : lsOf S d = some xs) : ∃ p vs, v = .ref p ∧ SqL K H p vs ∧ Rps K F xs vs := by
  unfold lsOf at h
  split at h
  · rename_i ys e
    cases h
    obtain ⟨p, vs, rfl, h1, h2⟩ := res_lst s r e
    exact ⟨p, vs, rfl, .inl (.inl h1), h2⟩
  · rename_i ns e
    cases h
    have ed : d = .scr ns := by
      cases d with
      | ref a =>
        unfold res at e
        cases em : S a with
        | none => simp only [em] at e; cases e
        | some m => simp only [em] at e; cases m <;> cases e
      | _ => exact e
    subst ed
    unfold Rp at r
    obtain ⟨p, rfl, h1⟩ := r
    exact ⟨p, _, rfl, s.sqL h1, Rps.mk_ints ns⟩
  · cases h
theorem tp_of (s : Sep K F S H) {d : D} {v : V} {xs : List D} (r : Rp K F d v) (h : tpOf d = some xs) : ∃ p vs, v = .ref p ∧ F p = some (.tup vs) ∧ H p = some (.tup vs) ∧ Rps K F xs vs := by
  cases d with
  | tup ys =>
    cases h
    obtain ⟨p, vs, rfl, h1, h2⟩ := rp_tup r
    exact ⟨p, vs, rfl, h1, s.fz _ _ h1, h2⟩
  | _ => cases h
theorem Rps.drop : ∀ {ds : List D} {vs : List V} (n : Nat), Rps K F ds vs → Rps K F (ds.drop n) (vs.drop n)
  | ds, vs, 0, h => h
  | [], vs, n + 1, h => by rw [rps_nil.mp h]; exact rps_mk_nil
  | d :: ds, vs, n + 1, h => by
    obtain ⟨v, ws, rfl, r, q⟩ := rps_cons.mp h
    exact Rps.drop (ds := ds) n q
theorem Rps.take : ∀ {ds : List D} {vs : List V} (n : Nat), Rps K F ds vs → Rps K F (ds.take n) (vs.take n)
  | ds, vs, 0, h => rps_mk_nil
  | [], vs, n + 1, h => by rw [rps_nil.mp h]; exact rps_mk_nil
  | d :: ds, vs, n + 1, h => by
    obtain ⟨v, ws, rfl, r, q⟩ := rps_cons.mp h
    exact rps_mk r (Rps.take (ds := ds) n q)
end
def opIx : DR2 := fun x y S Q => match y with
  | .int i => (match res S x with
    | .str z => z.length ≤ sizeLine ∧ ∃ c, atI z.cps.toList i = some c ∧ Q (.str ⟨#[c]⟩) S
    | _ => ∃ xs d, (lsOf S x = some xs ∨ tpOf x = some xs) ∧ atI xs i = some d ∧ Q d S)
  | _ => False
/-- where what is walked is known -/
theorem opIx_l {S : Store} {x : D} {xs : List D} {i : Int} {d : D} {Q : D → Store → Prop} (h : lsOf S x = some xs) (e : atI xs i = some d) (q : Q d S) : opIx x (.int i) S Q := by
  have ne : ∀ z, res S x ≠ .str z := fun z c => by unfold lsOf at h; rw [c] at h; cases h
  unfold opIx
  dsimp only
  split
  · rename_i z c; exact absurd c (ne z)
  · exact ⟨xs, d, .inl h, e, q⟩
theorem opIx_t {S : Store} {xs : List D} {i : Int} {d : D} {Q : D → Store → Prop} (e : atI xs i = some d) (q : Q d S) : opIx (.tup xs) (.int i) S Q := ⟨xs, d, .inr rfl, e, q⟩
theorem opIx_s {S : Store} {z : Str} {i : Int} {c : Nat} {Q : D → Store → Prop} (hz : z.length ≤ sizeLine) (e : atI z.cps.toList i = some c) (q : Q (.str ⟨#[c]⟩) S) : opIx (.str z) (.int i) S Q := ⟨hz, c, e, q⟩
section
variable {X : Cx} {F0 : Bs} {a b c e : Expr} {ta tb tc te : TE} {da db dc de : DE} {pos p2 : Pos}
theorem at_rp {K : PySem.W.Frag} {F : Hp} {ds : List D} {vs : List V} {i : Int} {d : D} (r : Rps K F ds vs) (h : atI ds i = some d) : ∃ v, atI vs i = some v ∧ Rp K F d v := by
  unfold atI at h ⊢
  rw [r.length]
  cases ej : ixN ds.length i with
  | none => rw [ej] at h; cases h
  | some j =>
    rw [ej] at h
    exact r.get h
theorem sim_ix : SimR X.K F0 (rIx X.K) opIx := by
  intro x y dx dy H F S Q Qd e0 s rx ry lk h
  unfold opIx at h
  split at h
  · rename_i i
    have ey := rp_int ry
    subst ey
    split at h
    · rename_i z ez
      obtain ⟨h1, c, h2, q⟩ := h
      have e2 := res_str ez
      subst e2
      exact .inr (.inr ⟨z, i, c, rp_str rx, rfl, h1, h2, lk _ S _ F H q Go.rfl s rp_mk_str⟩)
    · obtain ⟨xs, d, hx, h2, q⟩ := h
      rcases hx with hx | hx
      · obtain ⟨p, vs, rfl, g1, g2⟩ := ls_of s rx hx
        obtain ⟨v, k1, k2⟩ := at_rp g2 h2
        exact .inl ⟨p, vs, i, v, rfl, rfl, g1, k1, lk _ S _ F H q Go.rfl s k2⟩
      · obtain ⟨p, vs, rfl, _, g1, g2⟩ := tp_of s rx hx
        obtain ⟨v, k1, k2⟩ := at_rp g2 h2
        exact .inr (.inl ⟨p, vs, i, v, rfl, rfl, .inl (.inl g1), k1, lk _ S _ F H q Go.rfl s k2⟩)
  · exact h.elim
theorem d_ix (ha : PD X F0 a ta da) (hb : PD X F0 b tb db) (hs : PlainIx b := by intro _ _; rfl) : PD X F0 (.Subscript a b pos) (tOp (rIx X.K) ta tb) (dOp opIx da db) := ⟨pe_ix ix_seq ha.pe hb.pe hs, sim_op sim_ix ha.sim hb.sim⟩
/-- d[k] -/
def opDx : DR2 := fun x y S Q => match dGet S x y with
  | some (some d) => Q d S
  | _ => False
theorem d_dx {k : Nat} (hr : Room k X.A) (ha : PD X F0 a ta da) (hb : PD X F0 b tb db) (hs : NoSl b := by intro _ _; rfl) : PD X F0 (.Subscript a b pos) (tDGet ta tb) (dOp opDx da db) := by
  refine ⟨pe_dget (hu_of hr) ha.pe hb.pe hs, ?_⟩
  intro σ ρ H F S Q Qd e0 s en lk h
  refine ha.sim σ ρ H F S _ _ e0 s en ?_ h
  intro x S1 v F1 H1 q1 e1 s1 r1
  refine hb.sim σ ρ H1 F1 S1 _ _ (e0.trans e1) s1 (en.mono e1.1) ?_ q1
  intro y S2 w F2 H2 q2 e2 s2 r2
  unfold opDx at q2
  split at q2
  · rename_i d ed
    obtain ⟨a, u, rfl, g, ho⟩ := dGet_ok s2 ed (Rp.mono e2.1 _ _ r1) r2
    rcases ho with ⟨z, _⟩ | ⟨x', u', z, rfl, rr⟩
    · cases z
    · cases z
      exact ⟨a, u', rfl, g, lk _ S2 _ F2 H2 q2 (e1.trans e2) s2 rr⟩
  · exact q2.elim
abbrev DO := Env → Store → (Option Int → Store → Prop) → Prop
def SimO (K : PySem.W.Frag) (F0 : Bs) (t : TO) (δ : DO) : Prop := ∀ σ ρ H F S (Q : Option Int → Hp → Prop) Qd, F0.to F S H → Sep K F S H → Envr K F σ ρ → (∀ o S' F' H', Qd o S' → Go F S H F' S' H' → Sep K F' S' H' → Q o H') → δ ρ S Qd → t σ H Q
structure PDO (X : Cx) (F0 : Bs) (e : Option Expr) (t : TO) (δ : DO) : Prop where
  po : PO X e t
  sim : SimO X.K F0 t δ
def doN : DO := fun _ S Q => Q none S
def doS (de : DE) : DO := fun ρ S Q => de ρ S fun d S1 => match d with | .int i => Q (some i) S1 | _ => False
theorem do_none : PDO X F0 none tNoPart doN := ⟨po_none, fun σ ρ H F S Q Qd e0 s en lk h => lk none S F H h Go.rfl s⟩
theorem do_some (h : PD X F0 e te de) : PDO X F0 (some e) (tPart te) (doS de) := by
  refine ⟨po_some h.pe, ?_⟩
  intro σ ρ H F S Q Qd e0 s en lk q
  refine h.sim σ ρ H F S _ _ e0 s en ?_ q
  intro d S1 v F1 H1 q1 e1 s1 r1
  cases d with
  | int i => exact ⟨i, rp_int r1, lk _ S1 F1 H1 q1 e1 s1⟩
  | _ => exact q1.elim
/-- xs[lo:hi], by places -/
def cutL {α : Type} (xs : List α) (lo hi : Option Int) : List α := (xs.drop (HT.sIx xs.length 0 lo)).take (HT.sIx xs.length xs.length hi - HT.sIx xs.length 0 lo)
def opSl : D → Option Int → Option Int → Store → (D → Store → Prop) → Prop := fun x lo hi S Q => match res S x with
  | .str z => z.length ≤ sizeLine ∧ Q (.str (cutS z lo hi)) S
  | .tup xs => Q (.tup (cutL xs lo hi)) S
  | _ => match lsOf S x with
    | some xs => Q (.lst (cutL xs lo hi)) S
    | none => False
def dSl (de : DE) (dl dh : DO) : DE := fun ρ S Q => de ρ S fun x S1 => dl ρ S1 fun l S2 => dh ρ S2 fun u S3 => opSl x l u S3 Q
theorem cut_rps {K : PySem.W.Frag} {F : Hp} {ds : List D} {vs : List V} {lo hi : Option Int} (r : Rps K F ds vs) : Rps K F (cutL ds lo hi) (cutV vs lo hi) := by
  unfold cutL cutV
  rw [r.length]
  exact Rps.take _ (Rps.drop _ r)
theorem cutL_whole {α : Type} {xs : List α} {lo hi : Option Int} (h : HT.sIx xs.length 0 lo = 0 ∧ HT.sIx xs.length xs.length hi = xs.length) : cutL xs lo hi = xs := by
  unfold cutL
  rw [h.1, h.2]
  simp
theorem d_slice {lo hi : Option Expr} {tl th : TO} {dl dh : DO} (he : PD X F0 e te de) (hl : PDO X F0 lo tl dl) (hu : PDO X F0 hi th dh) :
    PD X F0 (.Subscript e (.Slice lo hi none p2) pos) (tSl (fun x lo hi H Q => rSlL X.K x lo hi H Q ∨ rSlA X.K x lo hi H Q ∨ rSlS x lo hi H Q) te tl th) (dSl de dl dh) := by
  refine ⟨pe_slice (sl_list.or (sl_tupA.or sl_str)) he.pe hl.po hu.po, ?_⟩
  intro σ ρ H F S Q Qd e0 s en lk h
  refine he.sim σ ρ H F S _ _ e0 s en ?_ h
  intro x S1 v F1 H1 q1 e1 s1 r1
  refine hl.sim σ ρ H1 F1 S1 _ _ (e0.trans e1) s1 (en.mono e1.1) ?_ q1
  intro l S2 F2 H2 q2 e2 s2
  refine hu.sim σ ρ H2 F2 S2 _ _ ((e0.trans e1).trans e2) s2 (en.mono (e1.trans e2).1) ?_ q2
  intro u S3 F3 H3 q3 e3 s3
  have r3 := Rp.mono (e2.trans e3).1 _ _ r1
  have lk3 := lk.mono ((e1.trans e2).trans e3)
  unfold opSl at q3
  split at q3
  · rename_i z ez
    have e2 := res_str ez
    subst e2
    exact .inr (.inr ⟨z, rp_str r3, q3.1, lk3 _ S3 _ F3 H3 q3.2 Go.rfl s3 rp_mk_str⟩)
  · rename_i xs ex
    obtain ⟨p, vs, rfl, h0, h1, h2⟩ := res_tup s3 r3 ex
    refine .inr (.inl ⟨p, vs, rfl, .inl (.inl h1), fun hw => ?_, fun _ q hq => ?_⟩)
    · rw [h2.length] at hw
      rw [cutL_whole hw] at q3
      exact lk3 _ S3 _ F3 H3 q3 Go.rfl s3 (rp_mk_tup h0 h2)
    · exact lk3 _ S3 _ _ _ q3 (Go.new s3 hq) (s3.new hq).2 (rp_mk_tup upd_same (Rps.mono (s3.new hq).1 _ _ (cut_rps h2)))
  · split at q3
    · rename_i xs hx
      obtain ⟨p, vs, rfl, h1, h2⟩ := ls_of s3 r3 hx
      exact .inl ⟨p, vs, rfl, h1, fun q hq => lk3 _ S3 _ _ _ q3 (Go.new s3 hq) (s3.new hq).2 (rp_mk_lst upd_same (Rps.mono (s3.new hq).1 _ _ (cut_rps h2)))⟩
    · exact q3.elim
structure DCB (X : Cx) (F0 : Bs) (f : Value) (r : List V → Hp → VK → Prop) (o : DRn) : Prop where
  call : CallR X f r
  sim : SimC X.K F0 r o
theorem DCB.or {f : Value} {r1 r2 : List V → Hp → VK → Prop} {o1 o2 : DRn} (h1 : DCB X F0 f r1 o1) (h2 : DCB X F0 f r2 o2) : DCB X F0 f (fun x H Q => r1 x H Q ∨ r2 x H Q) (fun x S Q => o1 x S Q ∨ o2 x S Q) :=
  ⟨h1.call.or h2.call, fun x dx H F S Q Qd e0 s rx lk h => h.elim (fun q => .inl (h1.sim x dx H F S Q Qd e0 s rx lk q)) fun q => .inr (h2.sim x dx H F S Q Qd e0 s rx lk q)⟩
theorem DCB.as {f : Value} {r : List V → Hp → VK → Prop} {o o' : DRn} (h : DCB X F0 f r o) (e : ∀ x S Q, o' x S Q → o x S Q) : DCB X F0 f r o' :=
  ⟨h.call, fun x dx H F S Q Qd e0 s rx lk q => h.sim x dx H F S Q Qd e0 s rx lk (e _ _ _ q)⟩
def dCB (o : DRn) (da : DA) : DE := fun ρ S Q => da ρ S fun ds S1 => o ds S1 Q
theorem sim_cb {r : List V → Hp → VK → Prop} {o : DRn} {t : TA} {da : DA} (ho : SimC X.K F0 r o) (ha : SimA X.K F0 t da) : SimE X.K F0 (tCB r t) (dCB o da) := by
  intro σ ρ H F S Q Qd e0 s en lk h
  refine ha σ ρ H F S _ _ e0 s en ?_ h
  intro ds S1 vs F1 H1 q1 e1 s1 r1
  exact ho vs ds H1 F1 S1 Q Qd (e0.trans e1) s1 r1 (lk.mono e1) q1
section
variable {id T : String} {x : Str} {p : Pos} {es : List Expr} {t : TA} {d : DA} {r : List V → Hp → VK → Prop} {o : DRn}
theorem d_callB (hv : bootBuiltins x = some (.builtin id)) (c : DCB X F0 (.builtin id) r o) (hm : X.mg x = none) (ha : PDA X F0 (e :: es) t d) (hg : Gl X x := by rfl) (hn : x ≠ "__name__" := by decide) (hdb : (x == ("__debug__" : Str)) = false := by decide)
    (he : starEach (e :: es) X.env = (false, eval e X.env) :: starEach es X.env := by rfl) (hpl : (backTo pos (starEach es X.env)).any (·.1) = false := by rfl) : PD X F0 (.Call (.Name x p) (e :: es) [] pos) (tCB r t) (dCB o d) :=
  ⟨pe_callB c.call hg hm hv ha.pa hn hdb he hpl, sim_cb c.sim ha.sim⟩
theorem d_callTy (hv : bootBuiltins x = some (.type T)) (c : DCB X F0 (.type T) r o) (hm : X.mg x = none) (ha : PDA X F0 (e :: es) t d) (hg : Gl X x := by rfl) (hn : x ≠ "__name__" := by decide) (hdb : (x == ("__debug__" : Str)) = false := by decide)
    (he : starEach (e :: es) X.env = (false, eval e X.env) :: starEach es X.env := by rfl) (hpl : (backTo pos (starEach es X.env)).any (·.1) = false := by rfl) : PD X F0 (.Call (.Name x p) (e :: es) [] pos) (tCB r t) (dCB o d) :=
  ⟨pe_callTy c.call hg hm hv ha.pa hn hdb he hpl, sim_cb c.sim ha.sim⟩
end
def lenD (S : Store) (d : D) : Option Nat := match res S d with
  | .str z => if z.length ≤ sizeLine then some z.length else none
  | .lst xs => some xs.length
  | .tup xs => some xs.length
  | .scr ns => some ns.length
  | _ => none
def oLen : DRn := fun ds S Q => match ds with
  | [d] => (match lenD S d with
    | some n => Q (.int n) S
    | none => False)
  | _ => False
theorem c_len : DCB X F0 (.builtin "len") (fun xs H Q => ∃ x n, xs = [x] ∧ LenV X.K x H n ∧ Q (.int n) H) oLen := by
  refine ⟨call_len, ?_⟩
  intro xs ds H F S Q Qd e0 s rx lk h
  unfold oLen at h
  split at h
  · rename_i d
    obtain ⟨v, rfl, rv⟩ := rps_1 rx
    split at h
    · rename_i n en
      refine ⟨v, n, rfl, ?_, lk _ S _ F H h Go.rfl s rp_mk_int⟩
      unfold lenD at en
      split at en
      · rename_i z ez
        have e2 := res_str ez
        subst e2
        have e3 := rp_str rv
        subst e3
        split at en
        · rename_i hz
          cases en
          exact ⟨hz, rfl⟩
        · cases en
      · rename_i xs ex
        cases en
        obtain ⟨p, vs, rfl, h1, h2⟩ := ls_of s rv (by unfold lsOf; rw [ex])
        exact .inl ⟨vs, h1, h2.length.symm⟩
      · rename_i xs ex
        cases en
        obtain ⟨p, vs, rfl, _, h1, h2⟩ := res_tup s rv ex
        exact .inr ⟨vs, .inl (.inl h1), h2.length.symm⟩
      · rename_i ns ex
        cases en
        obtain ⟨p, vs, rfl, h1, h2⟩ := ls_of s rv (by unfold lsOf; rw [ex])
        exact .inl ⟨vs, h1, by rw [h2.length, List.length_map]⟩
      · cases en
    · exact h.elim
  · exact h.elim
theorem b_len {es : List Expr} {t : TA} {d : DA} {p : Pos} (hm : X.mg "len" = none) (ha : PDA X F0 [e] t d) (hg : Gl X "len" := by rfl) (he : starEach [e] X.env = (false, eval e X.env) :: starEach [] X.env := by rfl) :
    PD X F0 (.Call (.Name "len" p) [e] [] pos) (tCB (fun xs H Q => ∃ x n, xs = [x] ∧ LenV X.K x H n ∧ Q (.int n) H) t) (dCB oLen d) := d_callB PySem.boot_len c_len hm ha hg (by decide) (by decide) he rfl
end
end DL
set_option Elab.async false
set_option linter.all false
set_option maxRecDepth 100000
set_option maxHeartbeats 4000000
namespace DL
open PySem PySem.Spec L2
section
variable {X : Cx} {F0 : Bs} {e a b : Expr} {te ta tb : TE} {de da db : DE} {pos p p2 : Pos} {es : List Expr} {t : TA} {d : DA}
theorem dbt_int : bootBuiltins "int" = some (.type "int") := by decide +kernel
theorem dbt_str : bootBuiltins "str" = some (.type "str") := by decide +kernel
theorem dbt_tuple : bootBuiltins "tuple" = some (.type "tuple") := by decide +kernel
theorem dbt_list : bootBuiltins "list" = some (.type "list") := by decide +kernel
theorem dbt_set : bootBuiltins "set" = some (.type "set") := by decide +kernel
theorem dbt_abs : bootBuiltins "abs" = some (.builtin "abs") := by decide +kernel
theorem dbt_all : bootBuiltins "all" = some (.builtin "all") := by decide +kernel
theorem dbt_any : bootBuiltins "any" = some (.builtin "any") := by decide +kernel
theorem dbt_sum : bootBuiltins "sum" = some (.builtin "sum") := by decide +kernel
theorem dbt_min : bootBuiltins "min" = some (.builtin "min") := by decide +kernel
theorem dbt_max : bootBuiltins "max" = some (.builtin "max") := by decide +kernel
theorem dbt_sorted : bootBuiltins "sorted" = some (.builtin "sorted") := by decide +kernel
theorem dbt_isi : bootBuiltins "isinstance" = some (.builtin "isinstance") := by decide +kernel
def b2I (b : Bool) : Int := if b then 1 else 0
def oInt : DRn := fun ds S Q => match ds with
  | [.int i] => Q (.int i) S
  | [.bl b] => Q (.int (if b then 1 else 0)) S
  | [.str z] => z.length ≤ 640 ∧ ∃ n, PySem.intText? z = some n ∧ Q (.int n) S
  | _ => False
abbrev rIntA : List V → Hp → VK → Prop := fun xs H Q => ((∃ i, xs = [.int i] ∧ Q (.int i) H) ∨ ∃ k, xs = [.bl k] ∧ Q (.int (if k then 1 else 0)) H) ∨ ∃ a n, xs = [.str a] ∧ PySem.intText? a = some n ∧ a.length ≤ 640 ∧ Q (.int n) H
theorem c_int : DCB X F0 (.type "int") rIntA oInt := by
  refine ⟨call_int1.or call_int_str, ?_⟩
  intro xs ds H F S Q Qd e0 s rx lk h
  unfold oInt at h
  split at h
  · obtain ⟨v, rfl, rv⟩ := rps_1 rx
    have ev := rp_int rv
    subst ev
    exact .inl (.inl ⟨_, rfl, lk _ S _ F H h Go.rfl s rp_mk_int⟩)
  · obtain ⟨v, rfl, rv⟩ := rps_1 rx
    have ev := rp_bl rv
    subst ev
    exact .inl (.inr ⟨_, rfl, lk _ S _ F H h Go.rfl s rp_mk_int⟩)
  · obtain ⟨v, rfl, rv⟩ := rps_1 rx
    have ev := rp_str rv
    subst ev
    obtain ⟨hz, n, hn, q⟩ := h
    exact .inr ⟨_, n, rfl, hn, hz, lk _ S _ F H q Go.rfl s rp_mk_int⟩
  · exact h.elim
theorem b_int (hm : X.mg "int" = none) (ha : PDA X F0 [e] t d) (hg : Gl X "int" := by rfl) (he : starEach [e] X.env = (false, eval e X.env) :: starEach [] X.env := by rfl) : PD X F0 (.Call (.Name "int" p) [e] [] pos) (tCB rIntA t) (dCB oInt d) :=
  d_callTy dbt_int c_int hm ha hg (by decide) (by decide) he rfl
def oStr : DRn := fun ds S Q => match ds with
  | [.int i] => i.natAbs.log2 < 1920 ∧ Q (.str (toString i)) S
  | [.str z] => Q (.str z) S
  | _ => False
abbrev rStrA : List V → Hp → VK → Prop := fun xs H Q => (∃ i, xs = [.int i] ∧ i.natAbs.log2 < 1920 ∧ Q (.str (toString i)) H) ∨ ∃ a, xs = [.str a] ∧ Q (.str a) H
theorem c_str : DCB X F0 (.type "str") rStrA oStr := by
  refine ⟨call_str_int.or SkE.call_str_str, ?_⟩
  intro xs ds H F S Q Qd e0 s rx lk h
  unfold oStr at h
  split at h
  · obtain ⟨v, rfl, rv⟩ := rps_1 rx
    have ev := rp_int rv
    subst ev
    exact .inl ⟨_, rfl, h.1, lk _ S _ F H h.2 Go.rfl s rp_mk_str⟩
  · obtain ⟨v, rfl, rv⟩ := rps_1 rx
    have ev := rp_str rv
    subst ev
    exact .inr ⟨_, rfl, lk _ S _ F H h Go.rfl s rp_mk_str⟩
  · exact h.elim
theorem b_str (hm : X.mg "str" = none) (ha : PDA X F0 [e] t d) (hg : Gl X "str" := by rfl) (he : starEach [e] X.env = (false, eval e X.env) :: starEach [] X.env := by rfl) : PD X F0 (.Call (.Name "str" p) [e] [] pos) (tCB rStrA t) (dCB oStr d) :=
  d_callTy dbt_str c_str hm ha hg (by decide) (by decide) he rfl
def oAbs : DRn := fun ds S Q => match ds with
  | [.int i] => Q (.int (if i < 0 then -i else i)) S
  | _ => False
abbrev rAbsA : List V → Hp → VK → Prop := fun xs H Q => ∃ i, xs = [.int i] ∧ Q (.int (if i < 0 then -i else i)) H
theorem c_abs : DCB X F0 (.builtin "abs") rAbsA oAbs := by
  refine ⟨call_abs, ?_⟩
  intro xs ds H F S Q Qd e0 s rx lk h
  unfold oAbs at h
  split at h
  · obtain ⟨v, rfl, rv⟩ := rps_1 rx
    have ev := rp_int rv
    subst ev
    exact ⟨_, rfl, lk _ S _ F H h Go.rfl s rp_mk_int⟩
  · exact h.elim
theorem b_abs (hm : X.mg "abs" = none) (ha : PDA X F0 [e] t d) (hg : Gl X "abs" := by rfl) (he : starEach [e] X.env = (false, eval e X.env) :: starEach [] X.env := by rfl) : PD X F0 (.Call (.Name "abs" p) [e] [] pos) (tCB rAbsA t) (dCB oAbs d) :=
  d_callB dbt_abs c_abs hm ha hg (by decide) (by decide) he rfl
def oAll : DRn := fun ds S Q => match ds with
  | [x] => ∃ xs bs, lsOf S x = some xs ∧ blsOf xs = some bs ∧ Q (.bl (bs.all id)) S
  | _ => False
def oAny : DRn := fun ds S Q => match ds with
  | [x] => ∃ xs bs, lsOf S x = some xs ∧ blsOf xs = some bs ∧ Q (.bl (bs.any id)) S
  | _ => False
def oSum : DRn := fun ds S Q => match ds with
  | [x] => ∃ xs ns, lsOf S x = some xs ∧ intsOf xs = some ns ∧ Q (.int ns.sum) S
  | _ => False
def oMinL : DRn := fun ds S Q => match ds with
  | [x] => ∃ xs ns, lsOf S x = some xs ∧ intsOf xs = some ns ∧ 0 < ns.length ∧ ∀ m, m ∈ ns → (∀ y, y ∈ ns → m ≤ y) → Q (.int m) S
  | _ => False
def oMaxL : DRn := fun ds S Q => match ds with
  | [x] => ∃ xs ns, lsOf S x = some xs ∧ intsOf xs = some ns ∧ 0 < ns.length ∧ ∀ m, m ∈ ns → (∀ y, y ∈ ns → y ≤ m) → Q (.int m) S
  | _ => False
theorem c_all (hc : X.calm = true) : DCB X F0 (.builtin "all") (rAll X.K) oAll := by
  refine ⟨cr_all hc, ?_⟩
  intro xs ds H F S Q Qd e0 s rx lk h
  unfold oAll at h
  split at h
  · obtain ⟨v, rfl, rv⟩ := rps_1 rx
    obtain ⟨ys, bs, h1, h2, q⟩ := h
    obtain ⟨p, vs, rfl, g1, g2⟩ := ls_of s rv h1
    rw [blsOf_eq h2] at g2
    rw [g2.bls] at g1
    exact ⟨p, bs, rfl, g1, lk _ S _ F H q Go.rfl s rp_mk_bl⟩
  · exact h.elim
theorem c_any (hc : X.calm = true) : DCB X F0 (.builtin "any") (rAny X.K) oAny := by
  refine ⟨cr_any hc, ?_⟩
  intro xs ds H F S Q Qd e0 s rx lk h
  unfold oAny at h
  split at h
  · obtain ⟨v, rfl, rv⟩ := rps_1 rx
    obtain ⟨ys, bs, h1, h2, q⟩ := h
    obtain ⟨p, vs, rfl, g1, g2⟩ := ls_of s rv h1
    rw [blsOf_eq h2] at g2
    rw [g2.bls] at g1
    exact ⟨p, bs, rfl, g1, lk _ S _ F H q Go.rfl s rp_mk_bl⟩
  · exact h.elim
theorem c_sum (hc : X.calm = true) : DCB X F0 (.builtin "sum") (rSum X.K) oSum := by
  refine ⟨cr_sum hc, ?_⟩
  intro xs ds H F S Q Qd e0 s rx lk h
  unfold oSum at h
  split at h
  · obtain ⟨v, rfl, rv⟩ := rps_1 rx
    obtain ⟨ys, bs, h1, h2, q⟩ := h
    obtain ⟨p, vs, rfl, g1, g2⟩ := ls_of s rv h1
    rw [intsOf_eq h2] at g2
    rw [g2.ints] at g1
    exact ⟨p, bs, rfl, g1, lk _ S _ F H q Go.rfl s rp_mk_int⟩
  · exact h.elim
theorem c_minL (hc : X.calm = true) : DCB X F0 (.builtin "min") (rMin X.K) oMinL := by
  refine ⟨cr_min hc, ?_⟩
  intro xs ds H F S Q Qd e0 s rx lk h
  unfold oMinL at h
  split at h
  · obtain ⟨v, rfl, rv⟩ := rps_1 rx
    obtain ⟨ys, bs, h1, h2, h3, q⟩ := h
    obtain ⟨p, vs, rfl, g1, g2⟩ := ls_of s rv h1
    rw [intsOf_eq h2] at g2
    rw [g2.ints] at g1
    exact ⟨p, bs, rfl, g1, h3, fun m k1 k2 => lk _ S _ F H (q m k1 k2) Go.rfl s rp_mk_int⟩
  · exact h.elim
theorem c_maxL (hc : X.calm = true) : DCB X F0 (.builtin "max") (rMax X.K) oMaxL := by
  refine ⟨cr_max hc, ?_⟩
  intro xs ds H F S Q Qd e0 s rx lk h
  unfold oMaxL at h
  split at h
  · obtain ⟨v, rfl, rv⟩ := rps_1 rx
    obtain ⟨ys, bs, h1, h2, h3, q⟩ := h
    obtain ⟨p, vs, rfl, g1, g2⟩ := ls_of s rv h1
    rw [intsOf_eq h2] at g2
    rw [g2.ints] at g1
    exact ⟨p, bs, rfl, g1, h3, fun m k1 k2 => lk _ S _ F H (q m k1 k2) Go.rfl s rp_mk_int⟩
  · exact h.elim
theorem b_all (hc : X.calm = true) (hm : X.mg "all" = none) (ha : PDA X F0 [e] t d) (hg : Gl X "all" := by rfl) (he : starEach [e] X.env = (false, eval e X.env) :: starEach [] X.env := by rfl) : PD X F0 (.Call (.Name "all" p) [e] [] pos) (tCB (rAll X.K) t) (dCB oAll d) :=
  d_callB dbt_all (c_all hc) hm ha hg (by decide) (by decide) he rfl
theorem b_any (hc : X.calm = true) (hm : X.mg "any" = none) (ha : PDA X F0 [e] t d) (hg : Gl X "any" := by rfl) (he : starEach [e] X.env = (false, eval e X.env) :: starEach [] X.env := by rfl) : PD X F0 (.Call (.Name "any" p) [e] [] pos) (tCB (rAny X.K) t) (dCB oAny d) :=
  d_callB dbt_any (c_any hc) hm ha hg (by decide) (by decide) he rfl
theorem b_sum (hc : X.calm = true) (hm : X.mg "sum" = none) (ha : PDA X F0 [e] t d) (hg : Gl X "sum" := by rfl) (he : starEach [e] X.env = (false, eval e X.env) :: starEach [] X.env := by rfl) : PD X F0 (.Call (.Name "sum" p) [e] [] pos) (tCB (rSum X.K) t) (dCB oSum d) :=
  d_callB dbt_sum (c_sum hc) hm ha hg (by decide) (by decide) he rfl
theorem b_minL (hc : X.calm = true) (hm : X.mg "min" = none) (ha : PDA X F0 [e] t d) (hg : Gl X "min" := by rfl) (he : starEach [e] X.env = (false, eval e X.env) :: starEach [] X.env := by rfl) : PD X F0 (.Call (.Name "min" p) [e] [] pos) (tCB (rMin X.K) t) (dCB oMinL d) :=
  d_callB dbt_min (c_minL hc) hm ha hg (by decide) (by decide) he rfl
theorem b_maxL (hc : X.calm = true) (hm : X.mg "max" = none) (ha : PDA X F0 [e] t d) (hg : Gl X "max" := by rfl) (he : starEach [e] X.env = (false, eval e X.env) :: starEach [] X.env := by rfl) : PD X F0 (.Call (.Name "max" p) [e] [] pos) (tCB (rMax X.K) t) (dCB oMaxL d) :=
  d_callB dbt_max (c_maxL hc) hm ha hg (by decide) (by decide) he rfl
def oMin2 : DRn := fun ds S Q => match ds with
  | [.int i, .int j] => Q (.int (if j < i then j else i)) S
  | _ => False
abbrev rMin2 : List V → Hp → VK → Prop := fun xs H Q => ∃ i j, xs = [.int i, .int j] ∧ Q (.int (if j < i then j else i)) H
theorem c_min2 (hc : X.calm = true) : DCB X F0 (.builtin "min") rMin2 oMin2 := by
  refine ⟨call_min2 hc, ?_⟩
  intro xs ds H F S Q Qd e0 s rx lk h
  unfold oMin2 at h
  split at h
  · obtain ⟨v, u, rfl, rv, ru⟩ := rps_2 rx
    have ev := rp_int rv
    have eu := rp_int ru
    subst ev eu
    exact ⟨_, _, rfl, lk _ S _ F H h Go.rfl s rp_mk_int⟩
  · exact h.elim
def oMax2 : DRn := fun ds S Q => match ds with
  | [.int i, .int j] => Q (.int (if j > i then j else i)) S
  | _ => False
abbrev rMax2 : List V → Hp → VK → Prop := fun xs H Q => ∃ i j, xs = [.int i, .int j] ∧ Q (.int (if j > i then j else i)) H
theorem c_max2 (hc : X.calm = true) : DCB X F0 (.builtin "max") rMax2 oMax2 := by
  refine ⟨call_max2 hc, ?_⟩
  intro xs ds H F S Q Qd e0 s rx lk h
  unfold oMax2 at h
  split at h
  · obtain ⟨v, u, rfl, rv, ru⟩ := rps_2 rx
    have ev := rp_int rv
    have eu := rp_int ru
    subst ev eu
    exact ⟨_, _, rfl, lk _ S _ F H h Go.rfl s rp_mk_int⟩
  · exact h.elim
theorem b_min2 (hc : X.calm = true) (hm : X.mg "min" = none) (ha : PDA X F0 [a, b] t d) (hg : Gl X "min" := by rfl) (he : starEach [a, b] X.env = (false, eval a X.env) :: starEach [b] X.env := by rfl) (hpl : (backTo pos (starEach [b] X.env)).any (·.1) = false := by rfl) : PD X F0 (.Call (.Name "min" p) [a, b] [] pos) (tCB rMin2 t) (dCB oMin2 d) :=
  d_callB dbt_min (c_min2 hc) hm ha hg (by decide) (by decide) he hpl
theorem b_max2 (hc : X.calm = true) (hm : X.mg "max" = none) (ha : PDA X F0 [a, b] t d) (hg : Gl X "max" := by rfl) (he : starEach [a, b] X.env = (false, eval a X.env) :: starEach [b] X.env := by rfl) (hpl : (backTo pos (starEach [b] X.env)).any (·.1) = false := by rfl) : PD X F0 (.Call (.Name "max" p) [a, b] [] pos) (tCB rMax2 t) (dCB oMax2 d) :=
  d_callB dbt_max (c_max2 hc) hm ha hg (by decide) (by decide) he hpl
def oTup : DRn := fun ds S Q => match ds with
  | [.tup xs] => Q (.tup xs) S
  | [x] => ∃ xs, lsOf S x = some xs ∧ Q (.tup xs) S
  | _ => False
abbrev rTupA (K : PySem.W.Frag) : List V → Hp → VK → Prop := fun xs H Q => ∃ p ys, xs = [.ref p] ∧ ((SqL K H p ys ∧ ∀ l, H l = none → Q (.ref l) (upd H l (.tup ys))) ∨ (SqT K H p ys ∧ Q (.ref p) H))
theorem c_tup : DCB X F0 (.type "tuple") (rTupA X.K) oTup := by
  refine ⟨call_tuple_of, ?_⟩
  intro xs ds H F S Q Qd e0 s rx lk h
  unfold oTup at h
  split at h
  · obtain ⟨v, rfl, rv⟩ := rps_1 rx
    obtain ⟨q, vs, rfl, h1, h2⟩ := rp_tup rv
    exact ⟨q, vs, rfl, .inr ⟨.inl (.inl (s.fz _ _ h1)), lk _ S _ F H h Go.rfl s (rp_mk_tup h1 h2)⟩⟩
  · obtain ⟨v, rfl, rv⟩ := rps_1 rx
    obtain ⟨ys, h1, q⟩ := h
    obtain ⟨r, vs, rfl, g1, g2⟩ := ls_of s rv h1
    exact ⟨r, vs, rfl, .inl ⟨g1, fun l hl => lk _ S _ _ _ q (Go.new s hl) (s.new hl).2 (rp_mk_tup upd_same (Rps.mono (s.new hl).1 _ _ g2))⟩⟩
  · exact h.elim
theorem b_tup (hm : X.mg "tuple" = none) (ha : PDA X F0 [e] t d) (hg : Gl X "tuple" := by rfl) (he : starEach [e] X.env = (false, eval e X.env) :: starEach [] X.env := by rfl) : PD X F0 (.Call (.Name "tuple" p) [e] [] pos) (tCB (rTupA X.K) t) (dCB oTup d) :=
  d_callTy dbt_tuple c_tup hm ha hg (by decide) (by decide) he rfl
def SimCN (K : PySem.W.Frag) (F0 : Bs) (r : List V → Hp → VK → Prop) (o : List D → Store → (List D → Store → Prop) → Prop) : Prop := ∀ xs ds H F S Q Qd, F0.to F S H → Sep K F S H → Rps K F ds xs → LkN K F S H Qd Q → o ds S Qd → r xs H Q
structure DNB (X : Cx) (F0 : Bs) (f : Value) (r : List V → Hp → VK → Prop) (o : List D → Store → (List D → Store → Prop) → Prop) : Prop where
  call : CallR X f r
  sim : SimCN X.K F0 r o
theorem LkN.mono {K : PySem.W.Frag} {F G : Hp} {S S1 : Store} {H H1 : Hp} {Qd : List D → Store → Prop} {Q : VK} (e : Go F S H G S1 H1) (h : LkN K F S H Qd Q) : LkN K G S1 H1 Qd Q := fun d S' v F' H' p q x => h d S' v F' H' p q (e.trans x)
def nCB (o : List D → Store → (List D → Store → Prop) → Prop) (da : DA) : DN := fun ρ S Q => da ρ S fun ds S1 => o ds S1 Q
theorem sim_ncb {r : List V → Hp → VK → Prop} {o : List D → Store → (List D → Store → Prop) → Prop} (ho : SimCN X.K F0 r o) (ha : SimA X.K F0 t d) : SimN X.K F0 (tCB r t) (nCB o d) := by
  intro σ ρ H F S Q Qd e0 s en lk h
  refine ha σ ρ H F S _ _ e0 s en ?_ h
  intro ds S1 vs F1 H1 q1 e1 s1 r1
  exact ho vs ds H1 F1 S1 Q Qd (e0.trans e1) s1 r1 (lk.mono e1) q1
/-- list(x) of a list or a tuple -/
def oLst : List D → Store → (List D → Store → Prop) → Prop := fun ds S Q => match ds with
  | [.tup xs] => Q xs S
  | [x] => ∃ xs, lsOf S x = some xs ∧ Q xs S
  | _ => False
abbrev rLstA (K : PySem.W.Frag) : List V → Hp → VK → Prop := fun xs H Q => ∃ p ys, xs = [.ref p] ∧ (SqL K H p ys ∨ SqT K H p ys) ∧ ∀ l, H l = none → Q (.ref l) (upd H l (.lst ys))
theorem c_lst : DNB X F0 (.type "list") (rLstA X.K) oLst := by
  refine ⟨call_list_of, ?_⟩
  intro xs ds H F S Q Qd e0 s rx lk h
  unfold oLst at h
  split at h
  · obtain ⟨v, rfl, rv⟩ := rps_1 rx
    obtain ⟨q, vs, rfl, h1, h2⟩ := rp_tup rv
    exact ⟨q, vs, rfl, .inr (.inl (.inl (s.fz _ _ h1))), fun l hl => lk _ S vs F H l h Go.rfl s h2 hl⟩
  · obtain ⟨v, rfl, rv⟩ := rps_1 rx
    obtain ⟨ys, h1, q⟩ := h
    obtain ⟨r, vs, rfl, g1, g2⟩ := ls_of s rv h1
    exact ⟨r, vs, rfl, .inl g1, fun l hl => lk _ S vs F H l q Go.rfl s g2 hl⟩
  · exact h.elim
theorem n_list (hm : X.mg "list" = none) (ha : PDA X F0 [e] t d) (hg : Gl X "list" := by rfl) (he : starEach [e] X.env = (false, eval e X.env) :: starEach [] X.env := by rfl) : PN X F0 (.Call (.Name "list" p) [e] [] pos) (tCB (rLstA X.K) t) (nCB oLst d) :=
  ⟨pe_callTy (c_lst (F0 := F0)).call hg hm dbt_list ha.pa (by decide) (by decide) he rfl, sim_ncb c_lst.sim ha.sim⟩
/-- sorted(x): texts or ints -/
def leI (a b : Int) : Bool := decide (a ≤ b)
def sortI (ns : List Int) : List Int := ns.mergeSort leI
theorem sortI_perm (xs : List Int) : (sortI xs).Perm xs := List.mergeSort_perm _ _
theorem sortI_pw (xs : List Int) : (sortI xs).Pairwise (· ≤ ·) := by
  have h := List.pairwise_mergeSort (le := leI) (fun a b c h1 h2 => by unfold leI at *; rw [decide_eq_true_iff] at *; omega) (fun a b => by unfold leI; rw [Bool.or_eq_true, decide_eq_true_iff, decide_eq_true_iff]; omega) xs
  exact h.imp fun {a b} z => by unfold leI at z; exact of_decide_eq_true z
theorem ints_uniq : ∀ {l m : List Int}, l.Pairwise (· ≤ ·) → m.Pairwise (· ≤ ·) → l.Perm m → l = m
  | [], m, _, _, p => (List.nil_perm.mp p).symm
  | x :: l, [], _, _, p => absurd p.symm (fun q => by cases List.nil_perm.mp q)
  | x :: l, y :: m, h1, h2, p => by
    obtain ⟨a1, a2⟩ := List.pairwise_cons.mp h1
    obtain ⟨b1, b2⟩ := List.pairwise_cons.mp h2
    have e : x = y := by
      have hx : x ∈ y :: m := p.mem_iff.mp List.mem_cons_self
      have hy : y ∈ x :: l := p.mem_iff.mpr List.mem_cons_self
      rcases List.mem_cons.mp hx with q | q
      · exact q
      · rcases List.mem_cons.mp hy with r | r
        · exact r.symm
        · have := a1 y r; have := b1 x q; omega
    subst e
    rw [ints_uniq a2 b2 (List.Perm.cons_inv p)]
def oSort : List D → Store → (List D → Store → Prop) → Prop := fun ds S Q => match ds with
  | [x] => ∃ xs, lsOf S x = some xs ∧ ((∃ ss, strsOf xs = some ss ∧ Q ((sortS ss).map D.str) S) ∨ ∃ ns, intsOf xs = some ns ∧ Q ((sortI ns).map D.int) S)
  | _ => False
abbrev rSortA (K : PySem.W.Frag) : List V → Hp → VK → Prop := fun xs H Q => rSortL K xs H Q ∨ rSortedI K xs H Q
theorem c_sort : DNB X F0 (.builtin "sorted") (rSortA X.K) oSort := by
  refine ⟨cr_sortL.or cr_sortedI, ?_⟩
  intro xs ds H F S Q Qd e0 s rx lk h
  unfold oSort at h
  split at h
  · obtain ⟨v, rfl, rv⟩ := rps_1 rx
    obtain ⟨ys, h1, h⟩ := h
    obtain ⟨r, vs, rfl, g1, g2⟩ := ls_of s rv h1
    rcases h with ⟨ss, h2, q⟩ | ⟨ns, h2, q⟩
    · rw [strsOf_eq h2] at g2
      rw [g2.strs] at g1
      exact .inl ⟨r, ss, rfl, g1, fun l hl => lk _ S _ F H l q Go.rfl s (Rps.mk_strs _) hl⟩
    · rw [intsOf_eq h2] at g2
      rw [g2.ints] at g1
      refine .inr ⟨r, ns, rfl, g1, fun ns' l p1 p2 hl => ?_⟩
      have e1 : ns' = sortI ns := ints_uniq p2 (sortI_pw ns) (p1.trans (sortI_perm ns).symm)
      subst e1
      exact lk _ S _ F H l q Go.rfl s (Rps.mk_ints _) hl
  · exact h.elim
theorem n_sorted (hm : X.mg "sorted" = none) (ha : PDA X F0 [e] t d) (hg : Gl X "sorted" := by rfl) (he : starEach [e] X.env = (false, eval e X.env) :: starEach [] X.env := by rfl) : PN X F0 (.Call (.Name "sorted" p) [e] [] pos) (tCB (rSortA X.K) t) (nCB oSort d) :=
  ⟨pe_callB (c_sort (F0 := F0)).call hg hm dbt_sorted ha.pa (by decide) (by decide) he rfl, sim_ncb c_sort.sim ha.sim⟩
def tSet (K : PySem.W.Frag) (P : Program) (w : World) (t : TA) : TA := tCons (tCB (rSetTx K P w) t) tNil
def nSortSet (da : DA) : DN := fun ρ S Q => da ρ S fun ds S1 => match ds with
  | [x] => ∃ xs ss, lsOf S1 x = some xs ∧ strsOf xs = some ss ∧ ss.length + 1 < scanBound ∧ Q ((sortU ss).map D.str) S1
  | _ => False
theorem pa_set (hc : X.calm = true) (hm2 : X.mg "set" = none) (ha : PDA X F0 [e] t d) (hg2 : Gl X "set" := by rfl) (he : starEach [e] X.env = (false, eval e X.env) :: starEach [] X.env := by rfl) (he2 : starEach [.Call (.Name "set" p2) [e] [] pos] X.env = (false, eval (.Call (.Name "set" p2) [e] [] pos) X.env) :: starEach [] X.env := by rfl) :
    PA X [.Call (.Name "set" p2) [e] [] pos] (tSet X.K X.prog X.w t) := pa_cons (pe_callTy (cr_setTx hc) hg2 hm2 dbt_set ha.pa (by decide) (by decide) he rfl) pa_nil he2
theorem sim_setgo {F : Hp} {S : Store} {H : Hp} {K : PySem.W.Frag} (s : Sep K F S H) {p : Addr} {o : HO} (hp : H p = none) : Go F S H F S (upd H p o) ∧ Sep K F S (upd H p o) := by
  have hF : F p = none := by
    cases z : F p with
    | none => rfl
    | some u => rw [s.fz p u z] at hp; cases hp
  refine ⟨⟨Ext.refl F, fun a u h f q nt => ?_⟩, ⟨fun a u q => ?_, fun a m q => ?_⟩⟩
  · have ne : a ≠ p := fun z => by rw [z, hp] at h; cases h
    exact ⟨by rw [upd_ne ne]; exact h, f, q⟩
  · have ne : a ≠ p := fun z => by rw [z, hF] at q; cases q
    rw [upd_ne ne]; exact s.fz a u q
  · obtain ⟨h1, u, h2, h3⟩ := s.st a m q
    have ne : a ≠ p := fun z => by rw [z, hp] at h2; cases h2
    exact ⟨h1, u, by rw [upd_ne ne]; exact h2, h3⟩
theorem n_sortedSet {pos2 pos3 : Pos} (hc : X.calm = true) (hm : X.mg "sorted" = none) (hm2 : X.mg "set" = none) (ha : PDA X F0 [e] t d) (hg : Gl X "sorted" := by rfl) (hg2 : Gl X "set" := by rfl) (he : starEach [e] X.env = (false, eval e X.env) :: starEach [] X.env := by rfl)
    (he2 : starEach [.Call (.Name "set" p2) [e] [] pos2] X.env = (false, eval (.Call (.Name "set" p2) [e] [] pos2) X.env) :: starEach [] X.env := by rfl) :
    PN X F0 (.Call (.Name "sorted" p) [.Call (.Name "set" p2) [e] [] pos2] [] pos3) (tCB (rSortTx X.prog X.w) (tSet X.K X.prog X.w t)) (nSortSet d) := by
  refine ⟨pe_callB (cr_sortTx hc) hg hm dbt_sorted (pa_set hc hm2 ha hg2 he he2) (by decide) (by decide) he2 rfl, ?_⟩
  intro σ ρ H F S Q Qd e0 s en lk h
  refine ha.sim σ ρ H F S _ _ e0 s en ?_ h
  intro ds S1 vs F1 H1 q1 e1 s1 r1
  split at q1
  · obtain ⟨xs, ss, h1, h2, h3, q⟩ := q1
    obtain ⟨v, rfl, rv⟩ := rps_1 r1
    obtain ⟨r, us, rfl, g1, g2⟩ := ls_of s1 rv h1
    rw [strsOf_eq h2] at g2
    rw [g2.strs] at g1
    refine ⟨r, ss, rfl, g1, h3, fun pp hpp => ?_⟩
    obtain ⟨k1, k2⟩ := sim_setgo (o := TxO X.prog X.w pp (plusAll ss)) s1 hpp
    refine ⟨pp, plusAll ss, rfl, upd_same, by have := plusAll_len ss; omega, fun l hl => ?_⟩
    exact lk _ S1 _ F1 _ l q (e1.trans k1) k2 (Rps.mk_strs _) hl
  · exact q1.elim
def dLenSet (da : DA) : DE := fun ρ S Q => da ρ S fun ds S1 => match ds with
  | [x] => ∃ xs ss, lsOf S1 x = some xs ∧ strsOf xs = some ss ∧ ss.length + 1 < scanBound ∧ Q (.int (plusAll ss).length) S1
  | _ => False
theorem d_lenSet {pos2 pos3 : Pos} (hc : X.calm = true) (hm : X.mg "len" = none) (hm2 : X.mg "set" = none) (ha : PDA X F0 [e] t d) (hg : Gl X "len" := by rfl) (hg2 : Gl X "set" := by rfl) (he : starEach [e] X.env = (false, eval e X.env) :: starEach [] X.env := by rfl)
    (he2 : starEach [.Call (.Name "set" p2) [e] [] pos2] X.env = (false, eval (.Call (.Name "set" p2) [e] [] pos2) X.env) :: starEach [] X.env := by rfl) :
    PD X F0 (.Call (.Name "len" p) [.Call (.Name "set" p2) [e] [] pos2] [] pos3) (tCB (rLenTx X.prog X.w) (tSet X.K X.prog X.w t)) (dLenSet d) := by
  refine ⟨pe_callB cr_lenTx hg hm PySem.boot_len (pa_set hc hm2 ha hg2 he he2) (by decide) (by decide) he2 rfl, ?_⟩
  intro σ ρ H F S Q Qd e0 s en lk h
  refine ha.sim σ ρ H F S _ _ e0 s en ?_ h
  intro ds S1 vs F1 H1 q1 e1 s1 r1
  split at q1
  · obtain ⟨xs, ss, h1, h2, h3, q⟩ := q1
    obtain ⟨v, rfl, rv⟩ := rps_1 r1
    obtain ⟨r, us, rfl, g1, g2⟩ := ls_of s1 rv h1
    rw [strsOf_eq h2] at g2
    rw [g2.strs] at g1
    refine ⟨r, ss, rfl, g1, h3, fun pp hpp => ?_⟩
    obtain ⟨k1, k2⟩ := sim_setgo (o := TxO X.prog X.w pp (plusAll ss)) s1 hpp
    exact ⟨pp, plusAll ss, rfl, upd_same, by have := plusAll_len ss; omega, lk _ S1 _ F1 _ q (e1.trans k1) k2 rp_mk_int⟩
  · exact q1.elim
end
end DL
set_option Elab.async false
set_option linter.all false
set_option maxRecDepth 100000
set_option maxHeartbeats 4000000
namespace DL
open PySem PySem.Spec L2
def kdOf (S : Store) : D → Option Kd
  | .non => some .non
  | .bl _ => some .bl
  | .int _ => some .int
  | .str _ => some .str
  | .tup _ => some .tup
  | .lst _ => some .lst
  | .dK _ => some .dic
  | .dT _ => some .dic
  | .ins C _ => some (.ins C)
  | .err C _ => some (.err C)
  | .ref a => match S a with
    | some (.lst _) => some .lst
    | some (.dK _) => some .dic
    | some (.dT _) => some .dic
    | some (.ins C _ _) => some (.ins C)
    | none => none
  | _ => none
/-- the class of an own error that has a dict -/
theorem xi_class {prog : Program} {w : World} {A : Around} {E : Value → Shared → Prop} {s : Shared} {K : PySem.W.Frag} {x D : Addr} {ox od : Obj} {Q : Option Value → Shared → Prop} (c : ExcC K D)
    (X : K.In s.heap) (I : PySem.W.InstAt s.heap x ox D (some od)) (h : Q (some (.ref D)) { s with toks := s.toks + 1 }) : wpAny (model prog w) A (getAttr? (.ref x) "__class__") Q E s := by
  have hc : (PySem.W.clsIn K D).isSome = true := (by obtain ⟨cd, hc, _⟩ := PySem.W.any_some c.hd; rw [hc]; rfl)
  have hf := PySem.W.findObj_data (od := od) hc c.ha c.hn c.ht
  obtain ⟨hp, g, d, t, os⟩ := s
  have a0 := I.type (M := model prog w)
  have a1 := PySem.W.looks_findIn (M := model prog w) X c.hg
  have a2 := PySem.W.looks_findIn (M := model prog w) X c.hk
  have a3 := PySem.W.looks_find (M := model prog w) X I hf
  have sub : PySem.W.Looks (model prog w) hp (isInstance (.ref x) (.type "BaseException")) true := a0.andThen (PySem.W.looks_subIn X c.hs)
  have z0 : (false && onTheHeap (Value.builtin "BaseException.__getattribute__")) = false := rfl
  have z2 : (Value.builtin "BaseException.__getattribute__" == Value.builtin "object.__getattribute__") = false := by decide +kernel
  have z1 : (onTheHeap (Value.ref D) && Value.builtin "BaseException.__getattribute__" == Value.builtin "object.__getattribute__") = false := by rw [z2]; rfl
  unfold getAttr? getAttrBy? getAttrBy
  refine wpAny_bind (wpAny_mkText (wpAny_bind (wpAny_attempt (wpAny_holding (wpAny_bind (a0.at (wpAny_bind (a1.at ?_))))))))
  show wpAny _ _ (if (onTheHeap (Value.ref D) && Value.builtin "BaseException.__getattribute__" == Value.builtin "object.__getattribute__") = true then _ else _) _ _ _; rw [z1, if_neg Bool.false_ne_true]
  unfold getAttrByItsOwn hookBefore; refine wpAny_bind ?_
  rw [if_pos (show onTheHeap (Value.ref D) = true from rfl)]; refine a2.at ?_
  refine wpAny_bind (wpAny_attempt (wpAny_holding ?_)); unfold callGetattribute
  rw [z0, if_neg Bool.false_ne_true]; unfold boundAndCalled
  rw [PySem.F.excAttr_ValueError.ga.bind (.ref x)]; refine wpAny_bind (wpAny_pure ?_)
  show wpAny _ _ (call (.builtin "BaseException.__getattribute__") [.ref x, .str "__class__" t]) _ _ _; refine wpAny_call (codeAny_call_builtin PySem.F.excAttr_ValueError.ga.plain PySem.F.entry_bexc_ga ?_)
  refine @PySem.W.check_slot (model prog w) _ _ ⟨hp, g, d, t + 1, os⟩ "BaseException.__getattribute__" "BaseException" "__getattribute__" (.ref x) [.str "__class__" t] [] _ (by decide +kernel) (by decide +kernel) sub (PySem.F.args_bexc_ga (.ref x) (.str "__class__" t)) ?_; unfold Builtin.«object.__getattribute__»
  refine wpAny_bind (wpAny_of_eq (a := ((Value.ref x : Value), [Value.str "__class__" t])) (by first | rfl | (simp only [slotArgs]; rfl)) ?_); refine wpAny_bind (wpAny_pure (wpAny_bind (a0.at (wpAny_bind (a3.at ?_)))))
  show wpAny _ _ (holding [Value.builtin "object.__class__"] (call (.builtin "getset_descriptor.__get__") [.builtin "object.__class__", .ref x, .ref D]) >>= ret) _ _ _; refine wpAny_bind (wpAny_holding (wpAny_call (PySem.W.class_get (s := ⟨hp, g, d, t + 1, os⟩) (ox := ox) (od := some od) X I c.hm ?_)))
  refine wpAny_pure ?_
  show wpAny _ _ (handedOut (.ref D)) _ _ _; rw [PySem.W.handedOut_of (v := .ref D) rfl]
  first | exact wpAny_pure (wpAny_pure h) | exact wpAny_pure h | exact wpAny_pure (wpAny_bind (wpAny_pure (wpAny_pure h)))
theorem xi_kit {K : PySem.W.Frag} {x D : Addr} {ox od : Obj} (c : ExcC K D) : PySem.W.KitX K (.ref x) (.ref D) (fun h => PySem.W.InstAt h x ox D (some od)) := by
  have st : ∃ o, K.lookup D = some o ∧ (∃ cd, o.data = .cls cd) := by
    obtain ⟨cd, hc, _⟩ := PySem.W.any_some c.hd
    unfold PySem.W.clsIn at hc
    split at hc
    · rename_i c' d' cd' sl' ho; exact ⟨_, ho, cd', rfl⟩
    · cases hc
  obtain ⟨o, ho, cd, hcd⟩ := st
  refine ⟨fun _ _ _ I => I.type, fun _ _ X _ => ?_, fun h tp dd its n sl X htp => ?_, fun X I k => xi_class c X I k⟩
  · intro A' Q' E' s' k q
    unfold isType loadHead
    refine wpAny_bind (wpAny_loadPart (k _ _ (X _ _ ho)) (wpAny_pure ?_))
    obtain ⟨o1, o2, o3, o4⟩ := o
    dsimp only at hcd
    subst hcd
    exact q
  · refine Bool.eq_false_iff.mpr fun q => ?_
    have e : D = tp := Value.ref.inj (beq_iff_eq.mp q)
    subst e
    have z := (X _ _ ho).symm.trans htp
    cases z
    cases hcd
/-- what isinstance asks of an own class -/
structure IsC (K : PySem.W.Frag) (C : Addr) : Prop where
  cl : Cls K C
  ha : PySem.W.findIn K (.ref C) "__class__" = some (some (.builtin "object.__class__"))
  hn : PySem.W.specialIn K (.builtin "object.__class__") "__get__" = some (some (.builtin "getset_descriptor.__get__"))
  tk : PySem.W.takesIn K (.builtin "object.__class__") = some true
  mo : PySem.W.mroIn K C (.type "object") = some true
/-- the answers that are known, for the class u -/
def IsA (K : PySem.W.Frag) (u : Value) (g : Kd → Option Bool) : Prop := ∀ k b, g k = some b → PySem.W.kitOne K k.v u = some b ∧ (∀ C, k = .ins C → IsC K C) ∧ ∀ C, k = .err C → ExcC K C
def rIsiX (K : PySem.W.Frag) : List V → Hp → VK → Prop := fun xs H Q => ∃ (a C d : Addr) (ws : List (Str × V)) (c : V) (u : Value) (b : Bool), xs = [.ref a, c] ∧ H a = some (xeo a C d) ∧ H d = some (.xd ws) ∧ ExcC K C ∧ ClsV c u ∧ PySem.W.kitOne K (.ref C) u = some b ∧ Q (.bl b) H
def rIsiF (K : PySem.W.Frag) : List V → Hp → VK → Prop := fun xs H Q => ∃ (a : Addr) (ob : Obj) (kvs : List (List Key × V)) (c : V) (u : Value) (b : Bool), xs = [.ref a, c] ∧ H a = some (.frz ob (.dT kvs)) ∧ ClsV c u ∧ PySem.W.kitOne K (.type "dict") u = some b ∧ Q (.bl b) H
section
variable {X : Cx} {F0 : Bs} {e a b o : Expr} {te ta tb to : TE} {de da db do_ : DE} {pos p p2 apos : Pos} {es : List Expr} {t : TA} {d : DA}
theorem cr_isiF : CallR X (.builtin "isinstance") (rIsiF X.K) := by
  intro pins s σ H xs us Q I r h
  obtain ⟨a, ob, kvs, c, u, b, rfl, hp, k, e, q⟩ := h
  obtain ⟨u1, u2, rfl, r1, r2⟩ := vals2 r
  have e2 := k.eq r2
  subst e2
  cases (show u1 = Value.ref a from r1)
  have z := I.hok a _ hp
  obtain ⟨_, _, _, xs, _, o, es, ep, h1, h2, _⟩ := (show ObjOk X.prog X.w H s.heap a (.frz ob (.dT kvs)) from z)
  exact PySem.W.kia_one PySem.W.kitx_dict I.kIn ⟨o, h1, h2.1⟩ e (fun z => nomatch z) fun tk => ⟨.bl b, H, I.tok tk, rfl, q⟩
theorem cr_isiX : CallR X (.builtin "isinstance") (rIsiX X.K) := by
  intro pins s σ H xs us Q I r h
  obtain ⟨a, C, d, ws, c, u, b, rfl, ha, hd, x, k, e, q⟩ := h
  obtain ⟨u1, u2, rfl, r1, r2⟩ := vals2 r
  have e2 := k.eq r2
  subst e2
  cases (show u1 = Value.ref a from r1)
  obtain ⟨oe, h1, h2, h3, vs, h4⟩ := (I.hok a _ ha).1
  obtain ⟨mA, hns, hr⟩ := (show ObjOk X.prog X.w H s.heap d (.xd ws) from I.hok d _ hd)
  obtain ⟨od, ho, _⟩ := lookIn_ns hns
  have J : PySem.W.InstAt s.heap a oe C (some od) := ⟨h1, h2, by unfold PySem.W.notCls; rw [h4] <;> rfl, by rw [h3]; exact ho⟩
  exact PySem.W.kia_one (xi_kit x) I.kIn J e (fun z => nomatch z) fun tk => ⟨.bl b, H, I.tok tk, rfl, q⟩
def oIsi (u : Value) (g : Kd → Option Bool) : DRn := fun ds S Q => match ds with
  | [x, c] => (match c with
    | .ty n => u = .type n
    | .ref C => u = .ref C
    | _ => False) ∧ (match kdOf S x with
    | some k => (match g k with
      | some b => Q (.bl b) S
      | none => False)
    | none => False)
  | _ => False
abbrev rIsiA (K : PySem.W.Frag) : List V → Hp → VK → Prop := fun xs H Q => rIsi K xs H Q ∨ rIsiF K xs H Q ∨ rIsiX K xs H Q
theorem ty_of {K : PySem.W.Frag} {F : Hp} {S : Store} {H : Hp} (s : Sep K F S H) {d : D} {v : V} {k : Kd} (r : Rp K F d v) (h : kdOf S d = some k) (hk : ∀ C, k = .ins C → IsC K C) : TyX K H v k.v ∨ (k = .dic ∧ ∃ a ob kvs, v = .ref a ∧ H a = some (.frz ob (.dT kvs))) ∨ ∃ C a d ws, k = .err C ∧ v = .ref a ∧ H a = some (xeo a C d) ∧ H d = some (.xd ws) := by
  cases d with
  | non => cases h; rw [rp_non r]; exact .inl (.base .non)
  | bl b => cases h; rw [rp_bl r]; exact .inl (.base (.bl b))
  | int b => cases h; rw [rp_int r]; exact .inl (.base (.int b))
  | str b => cases h; rw [rp_str r]; exact .inl (.base (.str b))
  | tup xs => cases h; obtain ⟨a, vs, rfl, h1, h2⟩ := rp_tup r; exact .inl (.base (.tup (s.fz _ _ h1)))
  | lst xs => cases h; obtain ⟨a, vs, rfl, h1, h2⟩ := rp_lst r; exact .inl (.base (.lst (s.fz _ _ h1)))
  | dK kvs =>
    cases h
    obtain ⟨q, ws, rfl, hd, _⟩ := res_dK (S := S) s r rfl
    rcases hd with hd | ⟨ob, hd⟩
    · exact .inl (.base (.dK hd))
    · exact .inl (.fDict hd)
  | dT kvs =>
    cases h
    obtain ⟨q, ws, rfl, hd, _⟩ := res_dT (S := S) s r rfl
    rcases hd with hd | ⟨ob, hd⟩
    · exact .inl (.base (.dT hd))
    · exact .inr (.inl ⟨rfl, q, ob, ws, rfl, hd⟩)
  | ins C fs =>
    cases h
    obtain ⟨q, dx, ws, rfl, h1, _⟩ := rp_ins r
    have c := hk C rfl
    exact .inl (.base (.ins (s.fz _ _ h1) c.cl c.ha c.hn c.tk c.mo))
  | ref q =>
    have er := rp_ref r
    subst er
    unfold kdOf at h
    cases em : S q with
    | none => simp only [em] at h; cases h
    | some m =>
      obtain ⟨_, o, h1, h2⟩ := s.st q m em
      simp only [em] at h
      cases m with
      | lst xs => cases h; obtain ⟨vs, rfl, _⟩ := h2; exact .inl (.base (.lst h1))
      | dK xs => cases h; obtain ⟨vs, rfl, _⟩ := h2; exact .inl (.base (.dK h1))
      | dT xs => cases h; obtain ⟨vs, rfl, _⟩ := h2; exact .inl (.base (.dT h1))
      | ins C dx fs =>
        cases h
        obtain ⟨ws, rfl, _⟩ := h2
        have c := hk C rfl
        exact .inl (.base (.ins h1 c.cl c.ha c.hn c.tk c.mo))
  | ty _ => cases h
  | scr _ => cases h
  | err C fs =>
    cases h
    unfold Rp at r
    obtain ⟨a, d, ws, rfl, h1, h2, _⟩ := r
    exact .inr (.inr ⟨C, a, d, ws, rfl, rfl, s.fz _ _ h1, s.fz _ _ h2⟩)
theorem c_isi {u : Value} {g : Kd → Option Bool} (hA : IsA X.K u g) : DCB X F0 (.builtin "isinstance") (rIsiA X.K) (oIsi u g) := by
  refine ⟨call_isi.or (cr_isiF.or cr_isiX), ?_⟩
  intro xs ds H F S Q Qd e0 s rx lk h
  unfold oIsi at h
  split at h
  · rename_i x c
    obtain ⟨v, w, rfl, rv, rw'⟩ := rps_2 rx
    obtain ⟨hc, h⟩ := h
    split at h
    · rename_i k ek
      split at h
      · rename_i b eb
        obtain ⟨h1, h2, h3⟩ := hA k b eb
        have hq : Q (.bl b) H := lk _ S _ F H h Go.rfl s rp_mk_bl
        have hw : ClsV w u := by
          cases c with
          | ty n => unfold Rp at rw'; subst rw'; subst hc; exact .ty n
          | ref C => have := rp_ref rw'; subst this; subst hc; exact .own C
          | _ => exact hc.elim
        rcases ty_of s rv ek h2 with z | ⟨rfl, q, ob, kvs, rfl, z⟩ | ⟨C, q, d, ws, rfl, rfl, z1, z2⟩
        · exact .inl ⟨v, w, k.v, u, b, rfl, hw, z, h1, hq⟩
        · exact .inr (.inl ⟨q, ob, kvs, w, u, b, rfl, z, hw, h1, hq⟩)
        · exact .inr (.inr ⟨q, C, d, ws, w, u, b, rfl, z1, z2, h3 C rfl, hw, h1, hq⟩)
      · exact h.elim
    · exact h.elim
  · exact h.elim
theorem b_isi {u : Value} {g : Kd → Option Bool} (hA : IsA X.K u g) (hm : X.mg "isinstance" = none) (ha : PDA X F0 [a, b] t d) (hg : Gl X "isinstance" := by rfl) (he : starEach [a, b] X.env = (false, eval a X.env) :: starEach [b] X.env := by rfl) (hpl : (backTo pos (starEach [b] X.env)).any (·.1) = false := by rfl) : PD X F0 (.Call (.Name "isinstance" p) [a, b] [] pos) (tCB (rIsiA X.K) t) (dCB (oIsi u g) d) :=
  d_callB dbt_isi (c_isi hA) hm ha hg (by decide) (by decide) he hpl
/-- a builtin class as a value -/
theorem d_ty {n : String} {x : Str} (hm : X.mg x = none) (hv : bootBuiltins x = some (.type n)) (hg : Gl X x := by rfl) (hn : x ≠ "__name__" := by decide) (hd : (x == ("__debug__" : Str)) = false := by decide) : PD X F0 (.Name x pos) (tC (.ty n)) (dC (.ty n)) :=
  ⟨pe_bltn hg hm hv (show RelV (.ty n) (.type n) from rfl) hn hd, sim_c fun _ => rp_mk_ty⟩
/-- a class, a def by its name as a value -/
theorem d_gref {x : Str} {C : Addr} (hm : X.mg x = some (.ref C)) (hg : Gl X x := by rfl) (hd : (x == ("__debug__" : Str)) = false := by decide) : PD X F0 (.Name x pos) (tC (.ref C)) (dC (.ref C)) := ⟨pe_glob hg hm rfl hd, sim_c fun _ => rp_mk_ref⟩
abbrev rSplit : V → List V → Hp → VK → Prop := fun x xs H Q => ∃ a b, x = .str a ∧ xs = [.str b] ∧ (b.length == 0) = false ∧ a.length + 2 ≤ sizeLine ∧ rNewStrs (Txt.split a b) H Q
def nSplit (do_ de : DE) : DN := fun ρ S Q => do_ ρ S fun x S1 => match x with
  | .str a => de ρ S1 fun y S2 => (match y with
    | .str b => (b.length == 0) = false ∧ a.length + 2 ≤ sizeLine ∧ Q ((Txt.split a b).map D.str) S2
    | _ => False)
  | _ => False
theorem n_split (ho : PD X F0 o to do_) (he : PD X F0 e te de) (hs : starEach [e] X.env = [(false, eval e X.env)] := by rfl) (hbase : attributeBase o "split" X.env (eval o X.env) = eval o X.env := by rfl) (hline : (apos.endLine == pos.line) = true := by rfl) :
    PN X F0 (.Call (.Attribute o "split" apos) [e] [] pos) (tM1 rSplit to te) (nSplit do_ de) := by
  refine ⟨pe_split ho.pe he.pe hs hbase hline, ?_⟩
  intro σ ρ H F S Q Qd e0 s en lk h
  refine ho.sim σ ρ H F S _ _ e0 s en ?_ h
  intro x S1 v F1 H1 q1 e1 s1 r1
  cases x with
  | str z =>
    have ev := rp_str r1
    subst ev
    refine ⟨⟨z, rfl⟩, he.sim σ ρ H1 F1 S1 _ _ (e0.trans e1) s1 (en.mono e1.1) ?_ q1⟩
    intro y S2 u F2 H2 q2 e2 s2 r2
    cases y with
    | str w =>
      have eu := rp_str r2
      subst eu
      exact ⟨z, w, rfl, rfl, q2.1, q2.2.1, fun l hl => lk _ S2 _ F2 H2 l q2.2.2 (e1.trans e2) s2 (Rps.mk_strs _) hl⟩
    | _ => exact q2.elim
  | _ => exact q1.elim
abbrev rJoin (K : PySem.W.Frag) : V → List V → Hp → VK → Prop := fun x xs H Q => ∃ a p, ∃ ys : List Str, x = .str a ∧ xs = [.ref p] ∧ (SqL K H p (ys.map V.str) ∨ SqT K H p (ys.map V.str)) ∧ (ys.map (·.length)).sum + ys.length * a.length ≤ 16777216 ∧ Q (.str (Txt.join a ys)) H
def dJoin (do_ de : DE) : DE := fun ρ S Q => do_ ρ S fun x S1 => match x with
  | .str a => de ρ S1 fun y S2 => ∃ xs ys, (lsOf S2 y = some xs ∨ tpOf y = some xs) ∧ strsOf xs = some ys ∧ (ys.map (·.length)).sum + ys.length * a.length ≤ 16777216 ∧ Q (.str (Txt.join a ys)) S2
  | _ => False
theorem d_join (ho : PD X F0 o to do_) (he : PD X F0 e te de) (hs : starEach [e] X.env = [(false, eval e X.env)] := by rfl) (hbase : attributeBase o "join" X.env (eval o X.env) = eval o X.env := by rfl) (hline : (apos.endLine == pos.line) = true := by rfl) :
    PD X F0 (.Call (.Attribute o "join" apos) [e] [] pos) (tM1 (rJoin X.K) to te) (dJoin do_ de) := by
  refine ⟨pe_join ho.pe he.pe hs hbase hline, ?_⟩
  intro σ ρ H F S Q Qd e0 s en lk h
  refine ho.sim σ ρ H F S _ _ e0 s en ?_ h
  intro x S1 v F1 H1 q1 e1 s1 r1
  cases x with
  | str z =>
    have ev := rp_str r1
    subst ev
    refine ⟨⟨z, rfl⟩, he.sim σ ρ H1 F1 S1 _ _ (e0.trans e1) s1 (en.mono e1.1) ?_ q1⟩
    intro y S2 u F2 H2 q2 e2 s2 r2
    obtain ⟨xs, ys, hx, h2, h3, q⟩ := q2
    have fin := lk _ S2 _ F2 H2 q (e1.trans e2) s2 (rp_mk_str (s := Txt.join z ys))
    rcases hx with hx | hx
    · obtain ⟨r, vs, rfl, g1, g2⟩ := ls_of s2 r2 hx
      rw [strsOf_eq h2] at g2
      rw [g2.strs] at g1
      exact ⟨z, r, ys, rfl, rfl, .inl g1, h3, fin⟩
    · obtain ⟨r, vs, rfl, _, g1, g2⟩ := tp_of s2 r2 hx
      rw [strsOf_eq h2] at g2
      rw [g2.strs] at g1
      exact ⟨z, r, ys, rfl, rfl, .inr (.inl (.inl g1)), h3, fin⟩
  | _ => exact q1.elim
def dFmt (de : DE) : DE := fun ρ S Q => de ρ S fun x S1 => match x with
  | .str y => y.length ≤ sizeLine ∧ Q (.str y) S1
  | .int i => i.natAbs.log2 < 1920 ∧ Q (.str (toString i)) S1
  | _ => False
theorem d_fmt (he : PD X F0 e te de) : PD X F0 (.FormattedValue e (-1) none pos) (tFmt te) (dFmt de) := by
  refine ⟨pe_fmt he.pe, ?_⟩
  intro σ ρ H F S Q Qd e0 s en lk h
  refine he.sim σ ρ H F S _ _ e0 s en ?_ h
  intro x S1 v F1 H1 q1 e1 s1 r1
  cases x with
  | str y => exact .inl ⟨y, rp_str r1, q1.1, lk _ S1 _ F1 H1 q1.2 e1 s1 rp_mk_str⟩
  | int y => exact .inr ⟨y, rp_int r1, q1.1, lk _ S1 _ F1 H1 q1.2 e1 s1 rp_mk_str⟩
  | _ => exact q1.elim
def pad2 (i : Int) : Str := if i < 10 then (⟨#[48]⟩ : Str) ++ (toString i : Str) else toString i
def spec02 : Builtin.Float.FormatSpec := { fill := 48, align := 61, width := some 2, type := some 100 }
theorem spec02_ok : Builtin.Float.parseFormatSpec (Str.ofString "02d").cps.toList "int" 62 = .ok spec02 := by with_unfolding_all rfl
theorem pad2_eq {a : Int} (h0 : 0 ≤ a) (h1 : a < 100) : PyProof.Rows.intSpecText spec02 a = pad2 a := by
  rw [PyProof.Rows.intSpecText_pad2 (f := spec02) rfl rfl rfl rfl rfl h0 h1]
  unfold pad2
  by_cases h : a < 10
  · rw [if_pos (decide_eq_true h), if_pos h] <;> rfl
  · rw [if_neg (by simpa using h), if_neg h] <;> rfl
theorem small_log {a : Int} (h0 : 0 ≤ a) (h1 : a < 100) : a.natAbs.log2 < 1920 := by
  have h : a.natAbs < 2 ^ 7 := by
    have : (2 : Nat) ^ 7 = 128 := by decide
    omega
  by_cases z : a.natAbs = 0
  · rw [z]; decide
  · have q := (Nat.log2_lt z).mpr h
    omega
theorem meets02 {a : Int} {t u : Tok} {sp : Str} {f : Builtin.Float.FormatSpec} (h0 : 0 ≤ a) (h1 : a < 100) (hp : Builtin.Float.parseFormatSpec sp.cps.toList "int" 62 = .ok f) (ef : f = spec02) (hne : (sp.length == 0) = false)
    (hasc : ((sp.cps.toList.drop 1).any (· ≥ 128) || (sp.cps.getD 0 0 ≥ 128 && !([60, 62, 61, 94] : List Nat).contains (sp.cps.getD 1 0))) = false) :
    Meets (Builtin.«int.__format__» ⟨[.int a t, .str sp u], []⟩) (fun _ R s => ∀ t' k, R (.ok (.ret (.str (pad2 a) t'))) { s with toks := k }) := by
  apply W.KPc.meets_of
  intro prog w A s Q E hq
  have ty : f.type = some 100 := by rw [ef]; rfl
  have pr : f.precision = none := by rw [ef]; rfl
  have zz : f.noNeg0 = false := by rw [ef]; rfl
  have al : f.alt = false := by rw [ef]; rfl
  have wi : f.width.getD 0 = 2 := by rw [ef]; rfl
  have tx : PyProof.Rows.intSpecText f a = pad2 a := by rw [ef]; exact pad2_eq h0 h1
  have ef2 := ef
  clear ef
  unfold Builtin.«int.__format__»
  simp only [selfAndOne, noKeywords, Builtin.Int.intOfSelf, asInt?, asStr?, List.isEmpty_nil, if_true, pure_bind, bind_pure, bind_assoc, hne, hasc, Bool.false_eq_true, if_false,
    show (Value.str sp u == Value.none) = false from rfl]
  refine wpAny_bind (wpAny_typeNameOf (T := "str") (typeIs_str _ _ _) (by decide) fun _ => ?_)
  refine wpAny_bind (PyProof.Rows.wpAny_typeNameOfCut_int ?_)
  simp only [hp, ty, Option.getD_some]
  rw [if_pos (by decide)]
  show wpAny _ _ (if _ then _ else _) _ _ _
  rw [if_neg (by simp [pr])]
  show wpAny _ _ (if _ then _ else _) _ _ _
  rw [if_neg (by simp [zz])]
  show wpAny _ _ (if _ then _ else _) _ _ _
  rw [if_neg (by decide)]
  refine wpAny_bind (m := Builtin.overDigitLimit? a) (wpAny_of_eq (PyProof.Rows.overDigitLimit_small (small_log h0 h1)) ?_)
  show wpAny _ _ (if _ then _ else _) _ _ _
  rw [if_neg (by simp [wi])]
  have gr : f.grouping = none := by rw [ef2]; rfl
  have sg : f.sign = none := by rw [ef2]; rfl
  have len : (PyProof.Rows.intSpecText f a).length ≤ sizeLine := by
    rw [PyProof.Rows.intSpecText_length a gr sg, sizeLine_eq, wi]
    have dl := (Nat.length_repr_le_iff (n := a.natAbs) (by decide : 0 < 2)).mpr (by have : (10 : Nat) ^ 2 = 100 := by decide
                                                                                    omega)
    rw [← String.length_toList, Nat.toList_repr] at dl
    split <;> omega
  refine W.KXf.ret_text (T := PyProof.Rows.intSpecText f a) ?_ ?_ (by rw [tx]; exact hq)
  · simp only [al, Bool.false_eq_true, if_false, show ((10 : Nat) == 10) = true by decide, if_true]
    conv => lhs; whnf
    simp only [PyProof.Rows.intSpecText, PyProof.Rows.intField', gr, sg, al, Bool.false_eq_true, if_false, show ((10 : Nat) == 10) = true by decide, if_true]
    rfl
  · simp only [al, Bool.false_eq_true, if_false, show ((10 : Nat) == 10) = true by decide, if_true]
    conv => lhs; arg 1; whnf
    simp only [PyProof.Rows.intSpecText, PyProof.Rows.intField', gr, sg, al, Bool.false_eq_true, if_false, show ((10 : Nat) == 10) = true by decide, if_true] at len ⊢
    exact len
end
end DL
set_option Elab.async false
set_option linter.all false
set_option maxRecDepth 100000
set_option maxHeartbeats 4000000
namespace DL
open PySem PySem.Spec L2
section
variable {X : Cx} {F0 : Bs} {e a b o sp : Expr} {te ta tb to : TE} {de da db do_ : DE} {pos p p2 apos : Pos} {es : List Expr}
/-- {e:02d} -/
def tFmt02 (te : TE) : TE := fun σ H Q => te σ H fun x H1 => ∃ i : Int, x = .int i ∧ 0 ≤ i ∧ i < 100 ∧ Q (.str (pad2 i)) H1
theorem pe_fmt02 (he : PE X e te) (hs : PE X sp (tC (.str (Str.ofString "02d")))) : PE X (.FormattedValue e (-1) (some sp) pos) (tFmt02 te) := by
  refine ⟨fun pins s σ H Q I h => ?_⟩
  refine wpAny_FormattedValue_spec (thn (he.run pins s σ H _ I h) fun v s1 ⟨x, H1, I1, r1, i, ex, h0, h1, q⟩ => ?_)
  subst ex
  obtain ⟨t, rfl⟩ := r1
  refine thn (hs.run pins s1 σ H1 (fun y H2 => y = .str (Str.ofString "02d") ∧ Q (.str (pad2 i)) H2) I1 ⟨rfl, q⟩) fun u s2 ⟨y, H2, I2, r2, ey, q2⟩ => ?_
  subst ey
  obtain ⟨t2, rfl⟩ := r2
  exact ⟨_, t2, rfl, W.KXf.field_int (y := pad2 i) rfl (by decide) (by show 3 ≤ sizeLine; rw [sizeLine_eq]; decide) (fun u => meets02 h0 h1 spec02_ok rfl (by decide) (by decide)) fun t' k => ⟨.str (pad2 i), H2, I2.tok k, ⟨t', rfl⟩, q2⟩⟩
def dFmt02 (de : DE) : DE := fun ρ S Q => de ρ S fun x S1 => match x with
  | .int i => 0 ≤ i ∧ i < 100 ∧ Q (.str (pad2 i)) S1
  | _ => False
theorem d_fmt02 (he : PD X F0 e te de) (hs : PE X sp (tC (.str (Str.ofString "02d"))) := by exact pe_joined1 pe_str) : PD X F0 (.FormattedValue e (-1) (some sp) pos) (tFmt02 te) (dFmt02 de) := by
  refine ⟨pe_fmt02 he.pe hs, ?_⟩
  intro σ ρ H F S Q Qd e0 s en lk h
  refine he.sim σ ρ H F S _ _ e0 s en ?_ h
  intro x S1 v F1 H1 q1 e1 s1 r1
  cases x with
  | int y => exact ⟨y, rp_int r1, q1.1, q1.2.1, lk _ S1 _ F1 H1 q1.2.2 e1 s1 rp_mk_str⟩
  | _ => exact q1.elim
/-- the parts -/
inductive DJ (X : Cx) (F0 : Bs) : List Expr → List TE → List DE → Prop where
  | nil : DJ X F0 [] [] []
  | cons {e : Expr} {t : TE} {d : DE} {es : List Expr} {ts : List TE} {ds : List DE} (h : PD X F0 e t d) (r : DJ X F0 es ts ds) : DJ X F0 (e :: es) (t :: ts) (d :: ds)
theorem DJ.pj {ts : List TE} {ds : List DE} (h : DJ X F0 es ts ds) : PJ X es ts := by
  induction h with
  | nil => exact .nil
  | cons h r ih => exact .cons h.pe ih
def dJs : List DE → Str → Env → Store → (Str → Store → Prop) → Prop
  | [], acc, _, S, Q => Q acc S
  | t :: ts, acc, ρ, S, Q => t ρ S fun x S1 => match x with
    | .str y => (acc ++ y).length ≤ sizeLine ∧ dJs ts (acc ++ y) ρ S1 Q
    | _ => False
theorem sim_js {ts : List TE} {ds : List DE} (h : DJ X F0 es ts ds) : ∀ (acc : Str) σ ρ H F S (Q : Str → Hp → Prop) (Qd : Str → Store → Prop), F0.to F S H → Sep X.K F S H → Envr X.K F σ ρ → (∀ o S' F' H', Qd o S' → Go F S H F' S' H' → Sep X.K F' S' H' → Q o H') → dJs ds acc ρ S Qd → tJs ts acc σ H Q := by
  induction h with
  | nil => intro acc σ ρ H F S Q Qd e0 s en lk q; exact lk acc S F H q Go.rfl s
  | cons h r ih =>
    intro acc σ ρ H F S Q Qd e0 s en lk q
    refine h.sim σ ρ H F S _ _ e0 s en ?_ q
    intro x S1 v F1 H1 q1 e1 s1 r1
    cases x with
    | str y => exact ⟨y, rp_str r1, q1.1, ih (acc ++ y) σ ρ H1 F1 S1 Q Qd (e0.trans e1) s1 (en.mono e1.1) (fun o S' F' H' z g s' => lk o S' F' H' z (e1.trans g) s') q1.2⟩
    | _ => exact q1.elim
def dJnd (ds : List DE) : DE := fun ρ S Q => dJs ds Str.empty ρ S fun out S1 => Q (.str out) S1
theorem d_joined {v1 v2 : Expr} {rest : List Expr} {ts : List TE} {ds : List DE} (h : DJ X F0 (v1 :: v2 :: rest) ts ds) : PD X F0 (.JoinedStr (v1 :: v2 :: rest) pos) (fun σ H Q => tJs ts Str.empty σ H fun out H1 => Q (.str out) H1) (dJnd ds) :=
  ⟨pe_joined h.pj, fun σ ρ H F S Q Qd e0 s en lk q => sim_js h Str.empty σ ρ H F S _ _ e0 s en (fun o S' F' H' z g s' => lk _ S' _ F' H' z g s' rp_mk_str) q⟩
end
end DL
set_option Elab.async false
set_option linter.all false
set_option maxRecDepth 100000
set_option maxHeartbeats 4000000
namespace DL
open PySem PySem.Spec L2
abbrev FnD (n : Bool) (P : Program) (w : World) (K : PySem.W.Frag) (mg : Str → Option Value) (base : Heap) (k : Nat) (f : Addr) (δ : DSp) : Prop := FnR P w K mg base (CXn n P w) k f (lift K δ)
theorem fnD_of {n : Bool} {P : Program} {w : World} {K : PySem.W.Frag} {mg : Str → Option Value} {base : Heap} {k : Nat} {f : Addr} {fd : FuncData} {ps : List Str} {δ : DSp} {ds : List Value} {dvs : List V} (dds : List D) (F : FnP n P w K mg base k f fd ps δ) (hb : Binds K fd ps ds) (hd : Vals dvs ds) (hr : ∀ F, Rps K F dds dvs) :
    FnD n P w K mg base k f (fun xs S Q ε => δ (xs ++ dds) S Q ε) := by
  refine (F.raw hb hd).imp fun vs H Q E h => ?_
  obtain ⟨xs, F', S, Qd, ε, s, r, h, l1, l2⟩ := h
  exact ⟨xs ++ dds, F', S, Qd, ε, s, r.append (hr F'), h, l1, l2⟩
theorem fnD_of0 {n : Bool} {P : Program} {w : World} {K : PySem.W.Frag} {mg : Str → Option Value} {base : Heap} {k : Nat} {f : Addr} {fd : FuncData} {ps : List Str} {δ : DSp} (F : FnP n P w K mg base k f fd ps δ) (hb : Binds K fd ps []) : FnD n P w K mg base k f δ := by
  refine (F.raw hb .nil).imp fun vs H Q E h => ?_
  rw [List.append_nil]
  exact h
theorem FnD.or {n : Bool} {P : Program} {w : World} {K : PySem.W.Frag} {mg : Str → Option Value} {base : Heap} {k : Nat} {f : Addr} {δ δ' : DSp} (a : FnD n P w K mg base k f δ) (b : FnD n P w K mg base k f δ') : FnD n P w K mg base k f (fun xs S Q ε => δ xs S Q ε ∨ δ' xs S Q ε) := by
  intro A outer s H us vs Q E hr e0 r h
  obtain ⟨xs, F', S, Qd, ε, sp, rr, h, l1, l2⟩ := h
  rcases h with h | h
  · exact a A outer s H us vs Q E hr e0 r ⟨xs, F', S, Qd, ε, sp, rr, h, l1, l2⟩
  · exact b A outer s H us vs Q E hr e0 r ⟨xs, F', S, Qd, ε, sp, rr, h, l1, l2⟩
theorem FnD.as {n : Bool} {P : Program} {w : World} {K : PySem.W.Frag} {mg : Str → Option Value} {base : Heap} {k : Nat} {f : Addr} {δ δ' : DSp} (a : FnD n P w K mg base k f δ) (b : ∀ xs S Q ε, δ' xs S Q ε → δ xs S Q ε) : FnD n P w K mg base k f δ' :=
  FnR.imp a fun vs H Q E h => by
    obtain ⟨xs, F', S, Qd, ε, sp, rr, h, l1, l2⟩ := h
    exact ⟨xs, F', S, Qd, ε, sp, rr, b _ _ _ _ h, l1, l2⟩
section
variable {n n' : Bool} {CX : CXT} {X : Cx} {F0 : Bs} {ω : DW} {W : WX} {j k : Nat} {f C g : Addr} {δ : DSp} {x m : Str} {e o fe : Expr} {es : List Expr} {t : TA} {da : DA} {ta tf te : TE} {do_ df de : DE} {p pos apos : Pos}
/-- the callee runs, its exceptions at the slots σ -/
theorem run_at {pins : List (Addr × Obj)} {σ : L2.St} {H : Hp} {s : Shared} {Q : VK} {us : List Value} {vs : List V} {sp : Sp} {E : XK} (F : FnR X.prog X.w X.K X.mg X.base CX k f sp) (hr : Room k X.A) (hx : PassesAt CX X σ E) (I : Inv X pins σ H s) (r : Vals vs us) (h : sp vs H Q E) :
    wpAny (model X.prog X.w) X.A (call (.ref f) us) (EP X pins σ Q) X.xe s := by
  refine wpAny_call (codeAny_mono (F X.A X.stack s H us vs Q E hr I.env0 r h) fun r s' hq => ?_)
  cases r with
  | error e => exact hx pins H s e s' I hq
  | ok fl =>
    cases fl with
    | ret u => exact I.after hq
    | next => exact False.elim hq
    | brk => exact False.elim hq
    | cont => exact False.elim hq
abbrev SimCal (K : PySem.W.Frag) (F0 : Bs) (r : L2.St → List V → Hp → VK → Prop) (o : Env → DRn) : Prop := ∀ σ ρ vs ds H F S Q Qd, F0.to F S H → Sep K F S H → Envr K F σ ρ → Rps K F ds vs → LkE K F S H Qd Q → o ρ ds S Qd → r σ vs H Q
/-- the call of what stands at f -/
structure CalD (X : Cx) (F0 : Bs) (f : Addr) (r : L2.St → List V → Hp → VK → Prop) (o : Env → DRn) : Prop where
  run : ∀ (pins : List (Addr × Obj)) (s : Shared) (σ : L2.St) (H : Hp) (us : List Value) (vs : List V) (Q : VK), Inv X pins σ H s → Vals vs us → r σ vs H Q → wpAny (model X.prog X.w) X.A (call (.ref f) us) (EP X pins σ Q) X.xe s
  sim : SimCal X.K F0 r o
def oFn (δ : DSp) (ω : DW) : Env → DRn := fun ρ ds S Q => δ ds S Q fun ex S2 => ω ex ρ S2
theorem cal_fn (F : FnD n' X.prog X.w X.K X.mg X.base j f δ) (cx : Ctx n X F0 ω W) (hr : Room k X.A) (hj : j ≤ k) (hn : n = true → n' = true := by decide) : CalD X F0 f (fun σ vs H Q => lift X.K δ vs H Q (WE W σ)) (oFn δ ω) := by
  refine ⟨fun pins s σ H us vs Q I r h => run_at F (hr.mono hj) (passN hn cx.tk σ) I r h, ?_⟩
  intro σ ρ vs ds H F' S Q Qd e0 s en r lk h
  refine ⟨ds, F', S, Qd, (fun ex S2 => ω ex ρ S2), s, r, h, lk, ?_⟩
  intro ex S2 cls dx F2 H2 q2 e2 s2 r2
  exact cx.lk ex ρ S2 cls dx σ F2 H2 q2 (e0.trans e2) s2 (en.mono e2.1) r2
/-- a new instance, a cell of the store while its __init__ runs and behind it -/
def oMk (C : Addr) (δ : DSp) (ω : DW) : Env → DRn := fun ρ ds S Q => ∀ a dx, S a = none → δ (.ref a :: ds) (sup S a (.ins C dx [])) (fun d S' => d = .non ∧ Q (.ref a) S') fun ex S2 => ω ex ρ S2
/-- .. frozen behind it -/
def oMkF (C : Addr) (δ : DSp) (ω : DW) : Env → DRn := fun ρ ds S Q => ∀ a dx, S a = none → δ (.ref a :: ds) (sup S a (.ins C dx [])) (fun d S' => d = .non ∧ ∃ dx' fs, S' a = some (.ins C dx' fs) ∧ Q (.ins C fs) (sdel S' a)) fun ex S2 => ω ex ρ S2
abbrev rMk (K : PySem.W.Frag) (C : Addr) (δ : DSp) (W : WX) : L2.St → List V → Hp → VK → Prop := fun σ vs H Q => ∀ x dx, H x = none → H dx = none → dx ≠ x → lift K δ (.ref x :: vs) (upd (upd H dx (.own x)) x (.ins C dx [])) (fun v H2 => v = .non ∧ Q (.ref x) H2) (WE W σ)
theorem run_mk {pins : List (Addr × Obj)} {σ : L2.St} {H : Hp} {s : Shared} {Q : VK} {us : List Value} {vs : List V} {sp : Sp} {E : XK} (M : Mk X.K C g) (F : FnR X.prog X.w X.K X.mg X.base CX j g sp) (hr : Room (j + 1) X.A) (hx : PassesAt CX X σ E) (I : Inv X pins σ H s) (r : Vals vs us)
    (h : ∀ x dx, H x = none → H dx = none → dx ≠ x → sp (V.ref x :: vs) (upd (upd H dx (.own x)) x (.ins C dx [])) (fun v H2 => v = .non ∧ Q (.ref x) H2) E) :
    wpAny (model X.prog X.w) X.A (call (.ref C) us) (EP X pins σ Q) X.xe s := by
  have hq := h (s.heap.objs.size + 1) s.heap.objs.size (I.hok.fresh (Nat.le_succ _)) (I.hok.fresh (Nat.le_refl _)) (Nat.ne_of_lt (Nat.lt_succ_self _))
  have I2 := Inv.made (C := C) I
  have r2 : Vals (V.ref (s.heap.objs.size + 1) :: vs) (Value.ref (s.heap.objs.size + 1) :: us) := .cons rfl r
  refine wpAny_call (make_map (f := g) I.kIn M.makes M.init (beq_iff_eq.mp M.fn) (codeAny_mono (F _ X.stack _ _ (Value.ref (s.heap.objs.size + 1) :: us) _ _ E (hr.make C us []) (I2.env0.make C us []) r2 hq) fun r s' hq' => ?_))
  cases r with
  | error e => exact hx pins _ _ e s' I2 hq'
  | ok fl =>
    cases fl with
    | ret u =>
      obtain ⟨v, H', I3, rv, ev, q3⟩ := I2.after hq'
      subst ev
      exact ⟨rv, ⟨V.ref (s.heap.objs.size + 1), H', I3, rfl, q3⟩⟩
    | next => exact False.elim hq'
    | brk => exact False.elim hq'
    | cont => exact False.elim hq'
/-- what a new instance is, at both levels -/
theorem mk_sep {K : PySem.W.Frag} {F : Hp} {S : Store} {H : Hp} (s : Sep K F S H) {x dx : Addr} (hx : H x = none) (hd : H dx = none) (ne : dx ≠ x) : S x = none ∧ Sep K F (sup S x (.ins C dx [])) (upd (upd H dx (.own x)) x (.ins C dx [])) ∧ Go F S H F (sup S x (.ins C dx [])) (upd (upd H dx (.own x)) x (.ins C dx [])) := by
  obtain ⟨g1, s1⟩ := sim_setgo (o := .own x) s hd
  have hx1 : upd H dx (.own x) x = none := by rw [upd_ne (Ne.symm ne)]; exact hx
  obtain ⟨a, b⟩ := s1.newM (o := .ins C dx []) (m := .ins C dx []) hx1 ⟨[], rfl, rpF_nil.mpr rfl⟩
  exact ⟨a, b, g1.trans (Go.newM hx1)⟩
theorem cal_mk (M : Mk X.K C g) (F : FnD n' X.prog X.w X.K X.mg X.base j g δ) (cx : Ctx n X F0 ω W) (hr : Room k X.A) (hj : j + 1 ≤ k) (hn : n = true → n' = true := by decide) : CalD X F0 C (rMk X.K C δ W) (oMk C δ ω) := by
  refine ⟨fun pins s σ H us vs Q I r h => run_mk M F (hr.mono hj) (passN hn cx.tk σ) I r h, ?_⟩
  intro σ ρ vs ds H F' S Q Qd e0 s en r lk h x dx hx hd ne
  obtain ⟨h1, h2, h3⟩ := mk_sep (C := C) s hx hd ne
  refine ⟨.ref x :: ds, F', sup S x (.ins C dx []), _, _, h2, rps_mk rp_mk_ref r, h x dx h1, ?_, ?_⟩
  · intro d S' v F2 H2 q e2 s2 rv
    obtain ⟨rfl, q⟩ := q
    exact ⟨rp_non rv, lk _ S' _ F2 H2 q (h3.trans e2) s2 rp_mk_ref⟩
  · intro ex S2 cls dx' F2 H2 q2 e2 s2 r2
    exact cx.lk ex ρ S2 cls dx' σ F2 H2 q2 ((e0.trans h3).trans e2) s2 (en.mono (h3.1.trans e2.1)) r2
theorem rp_mk_ins {K : PySem.W.Frag} {F : Hp} {a dx : Addr} {fs : List (Str × D)} {ws : List (Str × V)} (h : F a = some (.ins C dx ws)) (r : RpF K F fs ws) : Rp K F (.ins C fs) (.ref a) := by unfold Rp; exact ⟨a, dx, ws, rfl, h, r⟩
theorem cal_mkF (M : Mk X.K C g) (F : FnD n' X.prog X.w X.K X.mg X.base j g δ) (cx : Ctx n X F0 ω W) (hr : Room k X.A) (hj : j + 1 ≤ k) (hn : n = true → n' = true := by decide) : CalD X F0 C (rMk X.K C δ W) (oMkF C δ ω) := by
  refine ⟨fun pins s σ H us vs Q I r h => run_mk M F (hr.mono hj) (passN hn cx.tk σ) I r h, ?_⟩
  intro σ ρ vs ds H F' S Q Qd e0 s en r lk h x dx hx hd ne
  obtain ⟨h1, h2, h3⟩ := mk_sep (C := C) s hx hd ne
  refine ⟨.ref x :: ds, F', sup S x (.ins C dx []), _, _, h2, rps_mk rp_mk_ref r, h x dx h1, ?_, ?_⟩
  · intro d S' v F2 H2 q e2 s2 rv
    obtain ⟨rfl, dx', fs, hs, q⟩ := q
    obtain ⟨_, o, ho, ws, rfl, hw⟩ := s2.st x _ hs
    obtain ⟨x1, x2⟩ := s2.freeze hs ho
    exact ⟨rp_non rv, lk _ _ _ _ H2 q ((h3.trans e2).trans (Go.freeze s2 hs ho)) x2 (rp_mk_ins upd_same (RpF.mono x1 _ _ hw))⟩
  · intro ex S2 cls dx' F2 H2 q2 e2 s2 r2
    exact cx.lk ex ρ S2 cls dx' σ F2 H2 q2 ((e0.trans h3).trans e2) s2 (en.mono (h3.1.trans e2.1)) r2
def tCal (f : Addr) (r : L2.St → List V → Hp → VK → Prop) (tf : TE) (t : TA) : TE := fun σ H Q => tf σ H fun y H1 => y = .ref f ∧ t σ H1 fun vs H2 => r σ vs H2 Q
def dCal (f : Addr) (o : Env → DRn) (df : DE) (da : DA) : DE := fun ρ S Q => df ρ S fun y S1 => y = .ref f ∧ da ρ S1 fun ds S2 => o ρ ds S2 Q
theorem sim_cal {r : L2.St → List V → Hp → VK → Prop} {o : Env → DRn} (c : SimCal X.K F0 r o) (hf : SimE X.K F0 tf df) (ha : SimA X.K F0 t da) : SimE X.K F0 (tCal f r tf t) (dCal f o df da) := by
  intro σ ρ H F S Q Qd e0 s en lk h
  refine hf σ ρ H F S _ _ e0 s en ?_ h
  intro y S1 v F1 H1 q1 e1 s1 r1
  obtain ⟨rfl, q1⟩ := q1
  refine ⟨rp_ref r1, ha σ ρ H1 F1 S1 _ _ (e0.trans e1) s1 (en.mono e1.1) ?_ q1⟩
  intro ds S2 vs F2 H2 q2 e2 s2 r2
  exact c σ ρ vs ds H2 F2 S2 Q Qd ((e0.trans e1).trans e2) s2 (en.mono (e1.trans e2).1) r2 (lk.mono (e1.trans e2)) q2
/-- x(e, ..) -/
theorem d_cal {r : L2.St → List V → Hp → VK → Prop} {o : Env → DRn} (c : CalD X F0 f r o) (hk : PySem.W.keepIn X.K (.ref f) = true) (hf : PD X F0 (.Name x p) tf df) (ha : PDA X F0 (e :: es) t da)
    (he : starEach (e :: es) X.env = (false, eval e X.env) :: starEach es X.env := by rfl) (hpl : (backTo pos (starEach es X.env)).any (·.1) = false := by rfl) : PD X F0 (.Call (.Name x p) (e :: es) [] pos) (tCal f r tf t) (dCal f o df da) := by
  refine ⟨⟨fun pins s σ H Q I h => ?_⟩, sim_cal c.sim hf.sim ha.sim⟩
  refine wpAny_Call_Name_kw (thn (hf.pe.run pins s σ H _ I h) fun u s1 ⟨v, H1, I1, r1, ev, q⟩ => ?_)
  subst ev
  cases r1
  refine PySem.W.callWith_K (h₀ := X.base) I1.ok.mod.kin hk (thn (ha.pa.run pos pins s1 σ H1 _ I1 q) fun us s2 ⟨vs, H2, I2, r2, q2⟩ => ⟨I2.kIn, ?_⟩) he hpl
  exact c.run pins s2 σ H2 us vs Q I2 r2 q2
/-- x() -/
theorem d_cal0 {r : L2.St → List V → Hp → VK → Prop} {o : Env → DRn} (c : CalD X F0 f r o) (hk : PySem.W.keepIn X.K (.ref f) = true) (hf : PD X F0 (.Name x p) tf df) : PD X F0 (.Call (.Name x p) [] [] pos) (tCal f r tf tNil) (dCal f o df dNil) := by
  refine ⟨⟨fun pins s σ H Q I h => ?_⟩, sim_cal c.sim hf.sim da_nil.sim⟩
  refine wpAny_Call_Name_kw (thn (hf.pe.run pins s σ H _ I h) fun u s1 ⟨v, H1, I1, r1, ev, q⟩ => ?_)
  subst ev
  cases r1
  exact PySem.W.callWith_K0 I1.kIn hk (c.run pins s1 σ H1 [] [] Q I1 .nil q)
/-- x(*e) -/
def tStar1 (K : PySem.W.Frag) (te : TE) : TA := fun σ H Q => te σ H fun x H1 => ∃ p xs, x = V.ref p ∧ (SqT K H1 p xs ∨ SqL K H1 p xs) ∧ Q xs H1
def dStar1 (de : DE) : DA := fun ρ S Q => de ρ S fun x S1 => ∃ xs, (lsOf S1 x = some xs ∨ tpOf x = some xs) ∧ Q xs S1
theorem sim_star1 (he : SimE X.K F0 te de) : SimA X.K F0 (tStar1 X.K te) (dStar1 de) := by
  intro σ ρ H F S Q Qd e0 s en lk h
  refine he σ ρ H F S _ _ e0 s en ?_ h
  intro x S1 v F1 H1 q1 e1 s1 r1
  obtain ⟨xs, hx, q⟩ := q1
  rcases hx with hx | hx
  · obtain ⟨r, vs, rfl, g1, g2⟩ := ls_of s1 r1 hx
    exact ⟨r, vs, rfl, .inr g1, lk _ S1 _ F1 H1 q e1 s1 g2⟩
  · obtain ⟨r, vs, rfl, _, g1, g2⟩ := tp_of s1 r1 hx
    exact ⟨r, vs, rfl, .inl (.inl (.inl g1)), lk _ S1 _ F1 H1 q e1 s1 g2⟩
theorem d_calS {sp : Pos} {r : L2.St → List V → Hp → VK → Prop} {o : Env → DRn} (c : CalD X F0 f r o) (hk : PySem.W.keepIn X.K (.ref f) = true) (hf : PD X F0 (.Name x p) tf df) (he : PD X F0 e te de)
    (hst : starEach [.Starred e sp] X.env = [(true, eval e X.env)] := by rfl) : PD X F0 (.Call (.Name x p) [.Starred e sp] [] pos) (tCal f r tf (tStar1 X.K te)) (dCal f o df (dStar1 de)) := by
  refine ⟨⟨fun pins s σ H Q I h => ?_⟩, sim_cal c.sim hf.sim (sim_star1 he.sim)⟩
  refine wpAny_Call_Name_kw (thn (hf.pe.run pins s σ H _ I h) fun u s1 ⟨v, H1, I1, r1, ev, q⟩ => ?_)
  subst ev
  cases r1
  refine PySem.W.callWith_S (h₀ := X.base) I1.ok.mod.kin hk (thn (he.pe.run pins s1 σ H1 _ I1 q) fun v s2 ⟨y, H2, I2, ry, a, xs, ey, hxs, q2⟩ => ?_) hst
  subst ey
  obtain rfl : v = Value.ref a := ry
  exact StX.star_any I2 hxs fun us s3 I3 rv => ⟨I3.kIn, c.run pins s3 σ H2 us xs Q I3 rv q2⟩
end
end DL
set_option Elab.async false
set_option linter.all false
set_option maxRecDepth 100000
set_option maxHeartbeats 4000000
namespace DL
open PySem PySem.Spec L2
def insOf (S : Store) : D → Option (Addr × List (Str × D))
  | .ins C fs => some (C, fs)
  | .ref a => match S a with
    | some (.ins C _ fs) => some (C, fs)
    | _ => none
  | _ => none
def putFD (f : Str) (v : D) : List (Str × D) → List (Str × D)
  | [] => [(f, v)]
  | (g, x) :: r => if g = f then (g, v) :: r else (g, x) :: putFD f v r
section
variable {K : PySem.W.Frag} {F : Hp} {S : Store} {H : Hp}
theorem ins_of (s : Sep K F S H) {d : D} {v : V} {C : Addr} {fs : List (Str × D)} (r : Rp K F d v) (h : insOf S d = some (C, fs)) : ∃ a dx ws, v = .ref a ∧ H a = some (.ins C dx ws) ∧ RpF K F fs ws := by
  cases d with
  | ins C' fs' =>
    cases h
    obtain ⟨a, dx, ws, rfl, h1, h2⟩ := rp_ins r
    exact ⟨a, dx, ws, rfl, s.fz _ _ h1, h2⟩
  | ref a =>
    have er := rp_ref r
    subst er
    unfold insOf at h
    cases em : S a with
    | none => simp only [em] at h; cases h
    | some m =>
      obtain ⟨_, o, h1, h2⟩ := s.st a m em
      simp only [em] at h
      cases m with
      | ins C' dx fs' => cases h; obtain ⟨ws, rfl, h3⟩ := h2; exact ⟨a, dx, ws, rfl, h1, h3⟩
      | _ => cases h
  | _ => cases h
theorem rpF_put {f : Str} {d : D} {v : V} (r : Rp K F d v) : ∀ {fs : List (Str × D)} {ws : List (Str × V)}, RpF K F fs ws → RpF K F (putFD f d fs) (putF f v ws)
  | [], ws, h => by rw [rpF_nil.mp h]; exact rpF_cons.mpr ⟨v, [], rfl, r, rpF_nil.mpr rfl⟩
  | (g, x) :: fs, ws, h => by
    obtain ⟨u, us, rfl, r1, r2⟩ := rpF_cons.mp h
    unfold putFD putF
    by_cases e : g = f
    · rw [if_pos e, if_pos e]
      exact rpF_cons.mpr ⟨v, us, rfl, r, r2⟩
    · rw [if_neg e, if_neg e]
      exact rpF_cons.mpr ⟨u, _, rfl, r1, rpF_put r r2⟩
end
section
variable {n n' : Bool} {CX : CXT} {X : Cx} {F0 : Bs} {ω : DW} {W : WX} {j k : Nat} {f C g pp : Addr} {δ : DSp} {x m fl : Str} {e o v : Expr} {es : List Expr} {t : TA} {da : DA} {ta tf te to tv : TE} {do_ df de dv : DE} {p pos pos' tpos apos : Pos} {mc : Value}
/-- e.f -/
def dFld (C : Addr) (fl : Str) (de : DE) : DE := fun ρ S Q => de ρ S fun x S1 => ∃ fs d, insOf S1 x = some (C, fs) ∧ fs.lookup fl = some d ∧ Q d S1
theorem d_fld (c : Cls X.K C) (n : NoAttr X.K C fl) (he : PD X F0 e te de) (hb : attributeBase e fl X.env (eval e X.env) = eval e X.env := by rfl) : PD X F0 (.Attribute e fl pos) (tFld X.K te fl) (dFld C fl de) := by
  refine ⟨pe_fld he.pe hb, ?_⟩
  intro σ ρ H F S Q Qd e0 s en lk h
  refine he.sim σ ρ H F S _ _ e0 s en ?_ h
  intro x S1 w F1 H1 q1 e1 s1 r1
  obtain ⟨fs, d, h1, h2, q⟩ := q1
  obtain ⟨a, dx, ws, rfl, g1, g2⟩ := ins_of s1 r1 h1
  rcases rpF_val fl g2 with ⟨z, _⟩ | ⟨d', u, z1, z2, z3⟩
  · rw [h2] at z; cases z
  · rw [h2] at z1
    cases z1
    exact ⟨a, C, dx, ws, u, rfl, g1, c, n, z2, lk _ S1 _ F1 H1 q e1 s1 z3⟩
/-- o.f = v, o a cell of the store -/
def sFldD (C : Addr) (fl : Str) (do_ dv : DE) : DS := fun Δ ρ S => dv ρ S fun y S1 => do_ ρ S1 fun x S2 => ∃ a dx fs, x = .ref a ∧ S2 a = some (.ins C dx fs) ∧ fs.length < 1000 ∧ Δ.nx ρ (sup S2 a (.ins C dx (putFD fl y fs)))
theorem d_setfld (c : Cls X.K C) (n : NoAttr X.K C fl) (ho : PD X F0 o to do_) (hv : PD X F0 v tv dv) (hs : swapsWith v (some (.Attribute o fl pos')) pos.line X.env = pure false := by rfl) : PDS X F0 (.Assign [.Attribute o fl pos'] v pos) (sFld X.K to tv fl) (sFldD C fl do_ dv) := by
  refine ⟨ps_fld ho.pe hv.pe hs, ?_⟩
  intro σ ρ H F S D Δ e0 s en lk h
  refine hv.sim σ ρ H F S _ _ e0 s en ?_ h
  intro y S1 w F1 H1 q1 e1 s1 r1
  refine ho.sim σ ρ H1 F1 S1 _ _ (e0.trans e1) s1 (en.mono e1.1) ?_ q1
  intro x S2 u F2 H2 q2 e2 s2 r2
  obtain ⟨a, dx, fs, rfl, h1, h2, q⟩ := q2
  obtain ⟨_, ob, ho', ws, rfl, hw⟩ := s2.st a _ h1
  refine ⟨a, C, dx, ws, rp_ref r2, ho', c, n, by rw [rpF_len hw]; exact h2, ?_⟩
  exact lk.nx ρ _ σ F2 _ q ((e1.trans e2).trans (Go.put h1)) (s2.put h1 ⟨_, rfl, rpF_put (Rp.mono e2.1 _ _ r1) hw⟩) (en.mono (e1.trans e2).1)
/-- o.f += v, whole numbers (sg: the operator's sum) -/
def sFldAugD (C : Addr) (fl : Str) (sg : Int → Int → Int) (do_ dv : DE) : DS := fun Δ ρ S => do_ ρ S fun x S1 => ∃ a dx fs i, x = .ref a ∧ S1 a = some (.ins C dx fs) ∧ fs.lookup fl = some (.int i) ∧ dv ρ S1 fun y S2 => ∃ j dx' fs', y = .int j ∧ S2 a = some (.ins C dx' fs') ∧ fs'.length < 1000 ∧ Δ.nx ρ (sup S2 a (.ins C dx' (putFD fl (.int (sg i j)) fs')))
theorem d_augfld (c : Cls X.K C) (n : NoAttr X.K C fl) (ho : PD X F0 o to do_) (hv : PD X F0 v tv dv) : PDS X F0 (.AugAssign (.Attribute o fl tpos) .Add v pos) (sFldAug X.K to tv rAdd fl) (sFldAugD C fl (fun i j => i + j) do_ dv) := by
  refine ⟨ps_fldaug ho.pe hv.pe in_add, ?_⟩
  intro σ ρ H F S D Δ e0 s en lk h
  refine ho.sim σ ρ H F S _ _ e0 s en ?_ h
  intro x S1 u F1 H1 q1 e1 s1 r1
  obtain ⟨a, dx, fs, i, rfl, h1, h2, q⟩ := q1
  have eu := rp_ref r1
  subst eu
  obtain ⟨_, ob, ho', ws, rfl, hw⟩ := s1.st a _ h1
  rcases rpF_val fl hw with ⟨z, _⟩ | ⟨d', u, z1, z2, z3⟩
  · rw [h2] at z; cases z
  · rw [h2] at z1
    cases z1
    refine ⟨a, C, dx, ws, u, rfl, ho', c, n, z2, ?_⟩
    refine hv.sim σ ρ H1 F1 S1 _ _ (e0.trans e1) s1 (en.mono e1.1) ?_ q
    intro y S2 w F2 H2 q2 e2 s2 r2
    obtain ⟨j, dx', fs', rfl, k1, k2, q3⟩ := q2
    obtain ⟨_, ob2, ho2, ws2, rfl, hw2⟩ := s2.st a _ k1
    have ew := rp_int r2
    have eu := rp_int z3
    subst ew eu
    refine ⟨i, j, rfl, rfl, dx', ws2, ho2, by rw [rpF_len hw2]; exact k2, ?_⟩
    exact lk.nx ρ _ σ F2 _ q3 ((e1.trans e2).trans (Go.put k1)) (s2.put k1 ⟨_, rfl, rpF_put rp_mk_int hw2⟩) (en.mono (e1.trans e2).1)
def tMet (C : Addr) (m : Str) (r : L2.St → List V → Hp → VK → Prop) (to : TE) (t : TA) : TE := fun σ H Q => to σ H fun x H1 => ∃ a dx fs, x = .ref a ∧ H1 a = some (.ins C dx fs) ∧ fs.lookup m = none ∧ t σ H1 fun vs H2 => r σ (.ref a :: vs) H2 Q
def dMet (C : Addr) (m : Str) (q : Env → DRn) (do_ : DE) (da : DA) : DE := fun ρ S Q => do_ ρ S fun x S1 => ∃ fs, insOf S1 x = some (C, fs) ∧ fs.lookup m = none ∧ da ρ S1 fun ds S2 => q ρ (x :: ds) S2 Q
theorem sim_met {r : L2.St → List V → Hp → VK → Prop} {q : Env → DRn} (c : CalD X F0 g r q) (ho : SimE X.K F0 to do_) (ha : SimA X.K F0 t da) : SimE X.K F0 (tMet C m r to t) (dMet C m q do_ da) := by
  intro σ ρ H F S Q Qd e0 s en lk h
  refine ho σ ρ H F S _ _ e0 s en ?_ h
  intro x S1 v F1 H1 q1 e1 s1 r1
  obtain ⟨fs, h1, h2, q1⟩ := q1
  obtain ⟨a, dx, ws, rfl, g1, g2⟩ := ins_of s1 r1 h1
  have hn : ws.lookup m = none := by
    rcases rpF_val m g2 with ⟨_, z⟩ | ⟨d', u, z1, z2, z3⟩
    · exact z
    · rw [h2] at z1; cases z1
  refine ⟨a, dx, ws, rfl, g1, hn, ha σ ρ H1 F1 S1 _ _ (e0.trans e1) s1 (en.mono e1.1) ?_ q1⟩
  intro ds S2 vs F2 H2 q2 e2 s2 r2
  exact c.sim σ ρ (.ref a :: vs) (x :: ds) H2 F2 S2 Q Qd ((e0.trans e1).trans e2) s2 (en.mono (e1.trans e2).1) (rps_mk (Rp.mono e2.1 _ _ r1) r2) (lk.mono (e1.trans e2)) q2
theorem d_meth {pl : Sem Bool} {r : L2.St → List V → Hp → VK → Prop} {q : Env → DRn} (cl : Cls X.K C) (hm : Meth X.K C m g) (c : CalD X F0 g r q) (ho : PD X F0 o to do_) (ha : PDA X F0 (e :: es) t da)
    (hst : starEach (e :: es) X.env = (false, eval e X.env) :: starEach es X.env := by rfl) (hpl : (backTo pos (starEach es X.env)).any (·.1) = false := by rfl)
    (ht : eval (.Call (.Attribute o m apos) (e :: es) [] pos) X.env = (do
      let ov ← eval o X.env
      standAt apos.atName
      let (f, first) ← holding [ov] (getMethod ov m pl)
      callWith pos f first (backTo pos (starEach (e :: es) X.env)) (backToKw pos (keywordEach [] X.env))) := by rfl) : PD X F0 (.Call (.Attribute o m apos) (e :: es) [] pos) (tMet C m r to t) (dMet C m q do_ da) := by
  refine ⟨⟨fun pins s σ H Q I h => ?_⟩, sim_met c ho.sim ha.sim⟩
  refine PySem.W.methodCall_KW (pl := pl) (thn (ho.pe.run pins s σ H _ I h) fun u s1 ⟨x, H1, I1, rx, a, dx, fs, ex, ea, l, q⟩ => ?_) ht
  subst ex
  obtain rfl : u = Value.ref a := rx
  refine getmeth_ok I1 ea cl hm l ?_
  refine PySem.W.callWith_K (first := [.ref a]) (h₀ := X.base) I.ok.mod.kin hm.kp (thn (ha.pa.run pos pins s1 σ H1 _ I1 q) fun us s2 ⟨vs, H2, I2, r, q2⟩ => ⟨I2.kIn, ?_⟩) hst hpl
  exact c.run pins s2 σ H2 (.ref a :: us) (.ref a :: vs) Q I2 (.cons rfl r) q2
theorem d_meth0 {pl : Sem Bool} {r : L2.St → List V → Hp → VK → Prop} {q : Env → DRn} (cl : Cls X.K C) (hm : Meth X.K C m g) (c : CalD X F0 g r q) (ho : PD X F0 o to do_)
    (ht : eval (.Call (.Attribute o m apos) [] [] pos) X.env = (do
      let ov ← eval o X.env
      standAt apos.atName
      let (f, first) ← holding [ov] (getMethod ov m pl)
      callWith pos f first (backTo pos (starEach [] X.env)) (backToKw pos (keywordEach [] X.env))) := by rfl) : PD X F0 (.Call (.Attribute o m apos) [] [] pos) (tMet C m r to tNil) (dMet C m q do_ dNil) := by
  refine ⟨⟨fun pins s σ H Q I h => ?_⟩, sim_met c ho.sim da_nil.sim⟩
  refine PySem.W.methodCall_KW (pl := pl) (thn (ho.pe.run pins s σ H _ I h) fun u s1 ⟨x, H1, I1, rx, a, dx, fs, ex, ea, l, q⟩ => ?_) ht
  subst ex
  obtain rfl : u = Value.ref a := rx
  refine getmeth_ok I1 ea cl hm l ?_
  exact PySem.W.callWith_K0 (first := [.ref a]) I1.kIn hm.kp (c.run pins s1 σ H1 [.ref a] [.ref a] Q I1 (.cons rfl .nil) q)
theorem code_at {pins : List (Addr × Obj)} {σ : L2.St} {H : Hp} {s : Shared} {Q : VK} {us : List Value} {vs : List V} {sp : Sp} {E : XK} (F : FnR X.prog X.w X.K X.mg X.base CX k g sp) (hr : Room k X.A) (hx : PassesAt CX X σ E) (I : Inv X pins σ H s) (r : Vals vs us) (h : sp vs H Q E) :
    codeAny (model X.prog X.w) X.A (.call (.ref g) ⟨us, []⟩) (fun r s' => match r with | .ok (.ret v) => EP X pins σ Q v s' | .ok _ => False | .error e => X.xe e s') s := by
  refine codeAny_mono (F X.A X.stack s H us vs Q E hr I.env0 r h) fun r s' hq => ?_
  cases r with
  | error e => exact hx pins H s e s' I hq
  | ok fl =>
    cases fl with
    | ret u => exact I.after hq
    | next => exact False.elim hq
    | brk => exact False.elim hq
    | cont => exact False.elim hq
def dCm (C : Addr) (δ : DSp) (ω : DW) (do_ : DE) (da : DA) : DE := dCal C (fun ρ ds S Q => oFn δ ω ρ (.ref C :: ds) S Q) do_ da
abbrev rCm (K : PySem.W.Frag) (C : Addr) (δ : DSp) (W : WX) : L2.St → List V → Hp → VK → Prop := fun σ vs H Q => lift K δ (.ref C :: vs) H Q (WE W σ)
theorem d_cmeth {pl : Sem Bool} (rd : ClX.CRead X.K C mc) (cm : ClX.CMet X.K C mc m pp g) (F : FnD n' X.prog X.w X.K X.mg X.base j g δ) (cx : Ctx n X F0 ω W) (hr : Room k X.A) (hj : j ≤ k) (ho : PD X F0 o to do_) (ha : PDA X F0 (e :: es) t da) (hn : n = true → n' = true := by decide)
    (hst : starEach (e :: es) X.env = (false, eval e X.env) :: starEach es X.env := by rfl) (hpl : (backTo pos (starEach es X.env)).any (·.1) = false := by rfl)
    (ht : eval (.Call (.Attribute o m apos) (e :: es) [] pos) X.env = (do
      let ov ← eval o X.env
      standAt apos.atName
      let (f, first) ← holding [ov] (getMethod ov m pl)
      callWith pos f first (backTo pos (starEach (e :: es) X.env)) (backToKw pos (keywordEach [] X.env))) := by rfl) :
    PD X F0 (.Call (.Attribute o m apos) (e :: es) [] pos) (tCal C (rCm X.K C δ W) to t) (dCm C δ ω do_ da) := by
  have cd := cal_fn F cx hr hj hn
  refine ⟨⟨fun pins s σ H Q I h => ?_⟩, sim_cal (r := rCm X.K C δ W) (o := fun ρ ds S Q => oFn δ ω ρ (.ref C :: ds) S Q) (fun σ ρ vs ds H F S Q Qd e0 s en r lk h => ?_) ho.sim ha.sim⟩
  · refine PySem.W.methodCall_KW (pl := pl) (thn (ho.pe.run pins s σ H _ I h) fun u s1 ⟨x, H1, I1, rx, ex, q⟩ => ?_) ht
    subst ex
    obtain rfl : u = Value.ref C := rx
    refine ClX.getmethcm_ok I1 rd cm fun s2 I2 => ?_
    refine ClX.callwith_cm I2 (ClX.base_none I1 (Nat.le_refl _)) cm.fi (thn (ha.pa.run pos _ s2 σ H1 _ I2 q) fun us s3 ⟨vs, H2, I3, rv, q2⟩ => ⟨⟨ClX.pin_at I3, I3.kIn⟩, ?_⟩) hst hpl
    have z := wpAny_call (PySem.W.method_call (ClX.pin_at I3) (code_at (us := .ref C :: us) (vs := .ref C :: vs) F (hr.mono hj) (passN hn cx.tk σ) I3 (.cons rfl rv) q2))
    exact thn z fun _ _ y => ClX.unpinE y
  · exact cd.sim σ ρ (.ref C :: vs) (.ref C :: ds) H F S Q Qd e0 s en (rps_mk rp_mk_ref r) lk h
/-- C.m is a staticmethod: its record at p, its def at g -/
structure SMet (K : PySem.W.Frag) (C : Addr) (mc : Value) (m : Str) (p g : Addr) : Prop where
  at_ : PySem.W.findCls K (.ref C) mc m = some (.get (.builtin "staticmethod.__get__") (.ref p) .none (.ref C))
  rc : ∃ rest, PySem.W.recIn K p "staticmethod" = some (.ref g :: rest)
  kp : PySem.W.keepIn K (.ref g) = true
def tSm (C : Addr) (r : L2.St → List V → Hp → VK → Prop) (to : TE) (t : TA) : TE := tCal C r to t
theorem getsm_ok {pins : List (Addr × Obj)} {σ : L2.St} {H : Hp} {s : Shared} {A : Around} {E : Value → Shared → Prop} {pl : Sem Bool} {Q : Value × List Value → Shared → Prop} (I : Inv X pins σ H s) (rd : ClX.CRead X.K C mc) (sm : SMet X.K C mc m pp g)
    (h : ∀ s', Inv X pins σ H s' → Q (.ref g, []) s') : wpAny (model X.prog X.w) A (getMethod (.ref C) m pl) Q E s := by
  obtain ⟨rest, hp⟩ := sm.rc
  refine PySem.W.method_cls I.kIn rd.ga (PySem.W.cls_bind I.kIn rd.rd sm.at_ ?_)
  refine wpAny_call (PySem.W.sm_get (s := { s with toks := s.toks + 1 }) I.kIn hp (PySem.W.handed_on rfl ?_))
  exact h _ (I.tok _)
theorem d_smeth {pl : Sem Bool} {r : L2.St → List V → Hp → VK → Prop} {q : Env → DRn} (rd : ClX.CRead X.K C mc) (sm : SMet X.K C mc m pp g) (c : CalD X F0 g r q) (ho : PD X F0 o to do_) (ha : PDA X F0 (e :: es) t da)
    (hst : starEach (e :: es) X.env = (false, eval e X.env) :: starEach es X.env := by rfl) (hpl : (backTo pos (starEach es X.env)).any (·.1) = false := by rfl)
    (ht : eval (.Call (.Attribute o m apos) (e :: es) [] pos) X.env = (do
      let ov ← eval o X.env
      standAt apos.atName
      let (f, first) ← holding [ov] (getMethod ov m pl)
      callWith pos f first (backTo pos (starEach (e :: es) X.env)) (backToKw pos (keywordEach [] X.env))) := by rfl) : PD X F0 (.Call (.Attribute o m apos) (e :: es) [] pos) (tCal C r to t) (dCal C q do_ da) := by
  refine ⟨⟨fun pins s σ H Q I h => ?_⟩, sim_cal c.sim ho.sim ha.sim⟩
  refine PySem.W.methodCall_KW (pl := pl) (thn (ho.pe.run pins s σ H _ I h) fun u s1 ⟨x, H1, I1, rx, ex, q⟩ => ?_) ht
  subst ex
  obtain rfl : u = Value.ref C := rx
  refine getsm_ok I1 rd sm fun s2 I2 => ?_
  refine PySem.W.callWith_K (first := []) (h₀ := X.base) I.ok.mod.kin sm.kp (thn (ha.pa.run pos pins s2 σ H1 _ I2 q) fun us s3 ⟨vs, H2, I3, r, q2⟩ => ⟨I3.kIn, ?_⟩) hst hpl
  exact c.run pins s3 σ H2 us vs Q I3 r q2
theorem d_smeth0 {pl : Sem Bool} {r : L2.St → List V → Hp → VK → Prop} {q : Env → DRn} (rd : ClX.CRead X.K C mc) (sm : SMet X.K C mc m pp g) (c : CalD X F0 g r q) (ho : PD X F0 o to do_)
    (ht : eval (.Call (.Attribute o m apos) [] [] pos) X.env = (do
      let ov ← eval o X.env
      standAt apos.atName
      let (f, first) ← holding [ov] (getMethod ov m pl)
      callWith pos f first (backTo pos (starEach [] X.env)) (backToKw pos (keywordEach [] X.env))) := by rfl) : PD X F0 (.Call (.Attribute o m apos) [] [] pos) (tCal C r to tNil) (dCal C q do_ dNil) := by
  refine ⟨⟨fun pins s σ H Q I h => ?_⟩, sim_cal c.sim ho.sim da_nil.sim⟩
  refine PySem.W.methodCall_KW (pl := pl) (thn (ho.pe.run pins s σ H _ I h) fun u s1 ⟨x, H1, I1, rx, ex, q⟩ => ?_) ht
  subst ex
  obtain rfl : u = Value.ref C := rx
  refine getsm_ok I1 rd sm fun s2 I2 => ?_
  exact PySem.W.callWith_K0 (first := []) I2.kIn sm.kp (c.run pins s2 σ H1 [] [] Q I2 .nil q)
def tPrp (C : Addr) (sp : Sp) (te : TE) : TE := fun σ H Q => te σ H fun x H1 => ∃ a dx fs, x = .ref a ∧ H1 a = some (.ins C dx fs) ∧ sp [.ref a] H1 Q (fun _ _ _ => False)
def dPrp (C : Addr) (δ : DSp) (de : DE) : DE := fun ρ S Q => de ρ S fun x S1 => ∃ fs, insOf S1 x = some (C, fs) ∧ δ [x] S1 Q fun _ _ => False
theorem passNo {n : Bool} {X : Cx} : Passes (CXn n X.prog X.w) X.nox (fun _ _ _ => False) := fun pins σ H s e s' I c => by
  cases n with
  | true => obtain ⟨a, B, H', cls, d, ea, fl, hok, ub, na, os, ag, he⟩ := c; exact he.elim
  | false => obtain ⟨a, B, H', cls, d, ea, fl, hok, ub, na, os, ag, he⟩ := c; exact he.elim
theorem d_prop (c : Cls X.K C) (hp : PropOf X.K C fl pp g) (F : FnD n' X.prog X.w X.K X.mg X.base j g δ) (hr : Room k X.A) (hj : j + 1 ≤ k) (he : PD X F0 e te de) (hb : attributeBase e fl X.env (eval e X.env) = eval e X.env := by rfl) : PD X F0 (.Attribute e fl pos) (tPrp C (lift X.K δ) te) (dPrp C δ de) := by
  refine ⟨⟨fun pins s σ H Q I h => ?_⟩, ?_⟩
  · refine attr_of hb (thn (he.pe.run pins s σ H _ I h) fun u s1 ⟨x, H1, I1, rx, a, dx, fs, ex, ea, q⟩ => ?_)
    subst ex
    obtain rfl : u = Value.ref a := rx
    obtain ⟨mA, O, _, _, _, _⟩ := ins_get I1.hok ea
    obtain ⟨od, J, _⟩ := O.look
    obtain ⟨rest, hrec⟩ := hp.rec_
    have I2 := I1.tok (s1.toks + 1)
    have hc : (PySem.W.clsIn X.K C).isSome = true := by
      obtain ⟨cd, hc, _⟩ := PySem.W.any_some c.hd
      rw [hc]
      rfl
    refine PySem.W.get_bind I1.kIn J (PySem.W.plainGet_of (c.get fl)).1 (PySem.W.findObj_data hc hp.at_ hp.get hp.tak) (PySem.W.plainGet_of (c.get fl)).2 (wpAny_call (PySem.W.prop_get (s := { s1 with toks := s1.toks + 1 }) I1.kIn hrec ?_))
    refine codeAny_mono (F X.A.in1 X.stack { s1 with toks := s1.toks + 1 } H1 [.ref a] [.ref a] Q (fun _ _ _ => False) (hr.mono hj).in1 I2.env0.in1 (.cons rfl .nil) q) fun r s' hq => ?_
    cases r with
    | error er => exact False.elim (passNo (n := n') pins σ H1 { s1 with toks := s1.toks + 1 } er s' (I2.wish _) hq)
    | ok fl' =>
      cases fl' with
      | ret u =>
        obtain ⟨v, H', I3, rv, q3⟩ := I2.after hq
        show wpAny _ _ (handedOut u) _ _ _
        rw [PySem.W.handedOut_of (handed_of rv)]
        exact wpAny_pure ⟨v, H', I3, rv, q3⟩
      | next => exact False.elim hq
      | brk => exact False.elim hq
      | cont => exact False.elim hq
  · intro σ ρ H F' S Q Qd e0 s en lk h
    refine he.sim σ ρ H F' S _ _ e0 s en ?_ h
    intro x S1 v F1 H1 q1 e1 s1 r1
    obtain ⟨fs, h1, q⟩ := q1
    obtain ⟨a, dx, ws, rfl, g1, g2⟩ := ins_of s1 r1 h1
    exact ⟨a, dx, ws, rfl, g1, [x], F1, S1, Qd, (fun _ _ => False), s1, rps_mk r1 rps_mk_nil, q, lk.mono e1, fun _ _ _ _ _ _ z => z.elim⟩
end
end DL
set_option Elab.async false
set_option linter.all false
set_option maxRecDepth 100000
set_option maxHeartbeats 4000000
namespace DL
open PySem PySem.Spec L2
def spX1 (C : Addr) (f1 : Str) : Sp := fun vs H Q _ => ∃ a y, vs = [.ref a, y] ∧ H a = some (exo a C none) ∧ ∀ dx, H dx = none → dx ≠ a → Q .non (upd (upd H dx (exd dx [(f1, y)])) a (exo a C (some dx)))
def spX2 (C : Addr) (f1 f2 : Str) : Sp := fun vs H Q _ => ∃ a y z, vs = [.ref a, y, z] ∧ H a = some (exo a C none) ∧ ∀ dx, H dx = none → dx ≠ a → Q .non (upd (upd (upd H dx (exd dx [(f1, y)])) a (exo a C (some dx))) dx (exd dx [(f2, z), (f1, y)]))
section
variable {P : Program} {w : World} {K : PySem.W.Frag} {mg : Str → Option Value} {base : Heap} {x qual g1 g2 f1 f2 : Str} {params : Arguments} {body : List Stmt} {scope : Scope} {fI C : Addr} {fd : FuncData} {N : List Str} {k : Nat} {CX : CXT} {q1 q2 q3 q4 r1 r2 r3 r4 : Pos}
theorem visP {ps : List Str} (S : FnScope N ps scope) {y : Str} (h : y ∈ ps) : Vis scope y := (S.par y h).elim (fun z => .inl z) fun z => .inr (.inl z)
theorem body1 {X : Cx} (eK : X.K = K) (eN : X.N = N) (eS : X.env.scope = scope) (S : FnScope N ["self", g1] scope) (T : OexC K C) (hno : PySem.W.findIn K (.ref C) f1 = some none) (h0 : N[0]? = some ("self" : Str)) (h1 : N[1]? = some g1) (hd : (g1 == ("__debug__" : Str)) = false) (hcd : (g1 == ("__classdict__" : Str)) = false)
    (hs : swapsWith (.Name g1 q3) (some (.Attribute (.Name "self" q1) f1 q2)) q4.line X.env = pure false) {vs : List V} {H : Hp} {Q : VK} {E : XK} (h : spX1 C f1 vs H Q E) :
    PSs X [.Assign [.Attribute (.Name "self" q1) f1 q2] (.Name g1 q3) q4] (tOst K f1 (tVar 0) (tVar 1)) ∧ tOst K f1 (tVar 0) (tVar 1) { nx := fun _ H' => Q .non H', rt := Q } (L2.start N vs) H := by
  subst eK eN eS
  refine ⟨pss_one (ps_ost (pe_var h0 (visP S (List.Mem.head _))) (pe_var h1 (visP S (List.Mem.tail _ (List.Mem.head _))) hd hcd) hs), ?_⟩
  obtain ⟨a, y, rfl, ha, q⟩ := h
  have s0 : (L2.start X.N [V.ref a, y])[0]? = some (some (V.ref a)) := by unfold L2.start; rfl
  have s1 : (L2.start X.N [V.ref a, y])[1]? = some (some y) := by unfold L2.start; rfl
  exact ⟨y, s1, .ref a, s0, a, C, rfl, T, hno, .inl ⟨ha, fun dx n ne => q dx n ne⟩⟩
theorem body2 {X : Cx} (eK : X.K = K) (eN : X.N = N) (eS : X.env.scope = scope) (S : FnScope N ["self", g1, g2] scope) (T : OexC K C) (no1 : PySem.W.findIn K (.ref C) f1 = some none) (no2 : PySem.W.findIn K (.ref C) f2 = some none) (h0 : N[0]? = some ("self" : Str)) (h1 : N[1]? = some g1) (h2 : N[2]? = some g2)
    (hd : (g1 == ("__debug__" : Str)) = false) (hcd : (g1 == ("__classdict__" : Str)) = false) (hd2 : (g2 == ("__debug__" : Str)) = false) (hcd2 : (g2 == ("__classdict__" : Str)) = false)
    (hs : swapsWith (.Name g1 q3) (some (.Attribute (.Name "self" q1) f1 q2)) q4.line X.env = pure false) (hs2 : swapsWith (.Name g2 r3) (some (.Attribute (.Name "self" r1) f2 r2)) r4.line X.env = pure false) {vs : List V} {H : Hp} {Q : VK} {E : XK} (h : spX2 C f1 f2 vs H Q E) :
    PSs X [.Assign [.Attribute (.Name "self" q1) f1 q2] (.Name g1 q3) q4, .Assign [.Attribute (.Name "self" r1) f2 r2] (.Name g2 r3) r4] (tSeq (tOst K f1 (tVar 0) (tVar 1)) (tOst K f2 (tVar 0) (tVar 2))) ∧
      tSeq (tOst K f1 (tVar 0) (tVar 1)) (tOst K f2 (tVar 0) (tVar 2)) { nx := fun _ H' => Q .non H', rt := Q } (L2.start N vs) H := by
  subst eK eN eS
  have v0 := visP S (y := "self") (List.Mem.head _)
  refine ⟨pss_cons (ps_ost (pe_var h0 v0) (pe_var h1 (visP S (List.Mem.tail _ (List.Mem.head _))) hd hcd) hs) (pss_one (ps_ost (pe_var h0 v0) (pe_var h2 (visP S (List.Mem.tail _ (List.Mem.tail _ (List.Mem.head _)))) hd2 hcd2) hs2)), ?_⟩
  obtain ⟨a, y, z, rfl, ha, q⟩ := h
  have s0 : (L2.start X.N [V.ref a, y, z])[0]? = some (some (V.ref a)) := by unfold L2.start; rfl
  have s1 : (L2.start X.N [V.ref a, y, z])[1]? = some (some y) := by unfold L2.start; rfl
  have s2 : (L2.start X.N [V.ref a, y, z])[2]? = some (some z) := by unfold L2.start; rfl
  refine ⟨y, s1, .ref a, s0, a, C, rfl, T, no1, .inl ⟨ha, fun dx n ne => ?_⟩⟩
  refine ⟨z, s2, .ref a, s0, a, C, rfl, T, no2, .inr ⟨dx, [(f1, y)], upd_same, ?_, Nat.le_of_ble_eq_true rfl, q dx n ne⟩⟩
  rw [upd_ne ne, upd_same]
end
/-- an own error class whose __init__ stores its arguments as the fields -/
def spX (C : Addr) : List Str → Sp
  | [f] => spX1 C f
  | [f, g] => spX2 C f g
  | _ => fun _ _ _ _ => False
structure ErrC (P : Program) (w : World) (K : PySem.W.Frag) (mg : Str → Option Value) (base : Heap) (C : Addr) (fs : List Str) : Prop where
  oex : OexC K C
  ini : ∃ fI fd ps, PySem.W.findIn K (.ref C) "__init__" = some (some (.ref fI)) ∧ PySem.W.typeIn K (.ref fI) = some (.type "function") ∧ FnOk P w K mg base (L2N.CX P w) 1 fI fd ps (spX C fs) ∧ L2H.FnH P w K mg base (L2N.CX P w) 1 fI fd ps (spX C fs) ∧ Binds K fd ps []
section
variable {P : Program} {w : World} {K : PySem.W.Frag} {mg : Str → Option Value} {base : Heap} {x qual g1 g2 f1 f2 : Str} {params : Arguments} {body : List Stmt} {scope : Scope} {fI C : Addr} {fd : FuncData} {N : List Str} {q1 q2 q3 q4 r1 r2 r3 r4 : Pos}
theorem err1 (T : OexC K C) (iC : PySem.W.findIn K (.ref C) "__init__" = some (some (.ref fI))) (tI : PySem.W.typeIn K (.ref fI) = some (.type "function")) (F : FunD K x qual params body scope [] [] fI fd) (S : FnScope N ["self", g1] scope)
    (eb : body = [.Assign [.Attribute (.Name "self" q1) f1 q2] (.Name g1 q3) q4]) (no1 : PySem.W.findIn K (.ref C) f1 = some none) (hb : Binds K fd ["self", g1] []) (h0 : N[0]? = some ("self" : Str) := by rfl) (h1 : N[1]? = some g1 := by rfl)
    (hd : (g1 == ("__debug__" : Str)) = false := by decide) (hcd : (g1 == ("__classdict__" : Str)) = false := by decide) : ErrC P w K mg base C [f1] := by
  subst eb
  have len : ∀ (vs : List V) (H : Hp) (Q : VK) (E : XK), spX C [f1] vs H Q E → vs.length = (["self", g1] : List Str).length := fun vs H Q E h => by
    obtain ⟨a, y, rfl, _⟩ := h; rfl
  refine ⟨T, fI, fd, ["self", g1], iC, tI, F.ok S len (fun cdv A outer s H vs Q E hr h => ?_), ?_, hb⟩
  · obtain ⟨p1, p2⟩ := body1 (X := (cxOf (L2N.CX P w) P w K mg base N qual scope fI cdv A outer s H E).nox) (E := E) (q1 := q1) (q2 := q2) (q3 := q3) (q4 := q4) rfl rfl rfl S T no1 h0 h1 hd hcd rfl h
    exact ⟨_, p1.nox, p2⟩
  · obtain ⟨oc, od, dV, kV, doc, pm, an, cdv, ct, osl, rfl, lk, hcd', _, _⟩ := F.ex
    refine L2H.fn_ofH (k := 0) lk hcd' S len fun A outer s H vs Q E p hot hr h => ?_
    obtain ⟨p1, p2⟩ := body1 (X := L2H.cxH (L2N.CX P w) P w K mg base N qual scope fI cdv A outer s H E p) (E := E) (q1 := q1) (q2 := q2) (q3 := q3) (q4 := q4) rfl rfl rfl S T no1 h0 h1 hd hcd rfl h
    exact ⟨_, p1, p2⟩
theorem err2 (T : OexC K C) (iC : PySem.W.findIn K (.ref C) "__init__" = some (some (.ref fI))) (tI : PySem.W.typeIn K (.ref fI) = some (.type "function")) (F : FunD K x qual params body scope [] [] fI fd) (S : FnScope N ["self", g1, g2] scope)
    (eb : body = [.Assign [.Attribute (.Name "self" q1) f1 q2] (.Name g1 q3) q4, .Assign [.Attribute (.Name "self" r1) f2 r2] (.Name g2 r3) r4]) (no1 : PySem.W.findIn K (.ref C) f1 = some none) (no2 : PySem.W.findIn K (.ref C) f2 = some none) (hb : Binds K fd ["self", g1, g2] [])
    (h0 : N[0]? = some ("self" : Str) := by rfl) (h1 : N[1]? = some g1 := by rfl) (h2 : N[2]? = some g2 := by rfl) (hd : (g1 == ("__debug__" : Str)) = false := by decide) (hcd : (g1 == ("__classdict__" : Str)) = false := by decide) (hd2 : (g2 == ("__debug__" : Str)) = false := by decide) (hcd2 : (g2 == ("__classdict__" : Str)) = false := by decide) : ErrC P w K mg base C [f1, f2] := by
  subst eb
  have len : ∀ (vs : List V) (H : Hp) (Q : VK) (E : XK), spX C [f1, f2] vs H Q E → vs.length = (["self", g1, g2] : List Str).length := fun vs H Q E h => by
    obtain ⟨a, y, z, rfl, _⟩ := h; rfl
  refine ⟨T, fI, fd, ["self", g1, g2], iC, tI, F.ok S len (fun cdv A outer s H vs Q E hr h => ?_), ?_, hb⟩
  · obtain ⟨p1, p2⟩ := body2 (X := (cxOf (L2N.CX P w) P w K mg base N qual scope fI cdv A outer s H E).nox) (E := E) (q1 := q1) (q2 := q2) (q3 := q3) (q4 := q4) (r1 := r1) (r2 := r2) (r3 := r3) (r4 := r4) rfl rfl rfl S T no1 no2 h0 h1 h2 hd hcd hd2 hcd2 rfl rfl h
    exact ⟨_, p1.nox, p2⟩
  · obtain ⟨oc, od, dV, kV, doc, pm, an, cdv, ct, osl, rfl, lk, hcd', _, _⟩ := F.ex
    refine L2H.fn_ofH (k := 0) lk hcd' S len fun A outer s H vs Q E p hot hr h => ?_
    obtain ⟨p1, p2⟩ := body2 (X := L2H.cxH (L2N.CX P w) P w K mg base N qual scope fI cdv A outer s H E p) (E := E) (q1 := q1) (q2 := q2) (q3 := q3) (q4 := q4) (r1 := r1) (r2 := r2) (r3 := r3) (r4 := r4) rfl rfl rfl S T no1 no2 h0 h1 h2 hd hcd hd2 hcd2 rfl rfl h
    exact ⟨_, p1, p2⟩
end
section
variable {n n' : Bool} {X : Cx} {F0 : Bs} {ω : DW} {W : WX} {k : Nat} {C : Addr} {x : Str} {e : Expr} {es : List Expr} {t : TA} {da : DA} {p pos pos' : Pos} {fs : List Str}
def dRaise (C : Addr) (fs : List Str) (ω : DW) (da : DA) : DS := fun _ ρ S => da ρ S fun ds S1 => ds.length = fs.length ∧ ω ⟨C, (fs.zip ds).reverse⟩ ρ S1
theorem del_upd {H : Hp} {a dx : Addr} {o1 o2 o3 o4 : HO} (ha : H a = none) (ne : dx ≠ a) : upd (del (upd (upd (upd H a o1) dx o2) a o3) a) dx o4 = upd H dx o4 := by
  funext b
  by_cases h1 : b = dx
  · rw [h1, upd_same, upd_same]
  · rw [upd_ne h1, upd_ne h1]
    by_cases h2 : b = a
    · rw [h2, del_same, ha]
    · rw [del_ne h2, upd_ne h2, upd_ne h1, upd_ne h2]
theorem del_upd2 {H : Hp} {a dx : Addr} {o1 o2 o3 o4 o5 : HO} (ha : H a = none) (ne : dx ≠ a) : upd (del (upd (upd (upd (upd H a o1) dx o2) a o3) dx o5) a) dx o4 = upd H dx o4 := by
  funext b
  by_cases h1 : b = dx
  · rw [h1, upd_same, upd_same]
  · rw [upd_ne h1, upd_ne h1]
    by_cases h2 : b = a
    · rw [h2, del_same, ha]
    · rw [del_ne h2, upd_ne h1, upd_ne h2, upd_ne h1, upd_ne h2]
theorem sim_raise (lk : LkW X.K F0.F F0.S F0.H ω W) (hl : fs.length = 1 ∨ fs.length = 2) (ha : SimA X.K F0 t da) : SimS X.K F0 (fun _ σ H => tMkO C (spX C fs) [] t σ H fun cls d H' => W cls d σ H') (dRaise C fs ω da) := by
  intro σ ρ H F S D Δ e0 s en _ h
  refine ha σ ρ H F S _ _ e0 s en ?_ h
  intro ds S1 vs F1 H1 q1 e1 s1 r1
  obtain ⟨q0, q1⟩ := q1
  have lv := r1.length
  refine ⟨by omega, fun a hn => ?_⟩
  rw [List.append_nil]
  have fin : ∀ (dx : Addr) (ws : List (Str × V)), upd H1 a (exo a C none) dx = none → dx ≠ a → RpF X.K F1 ((fs.zip ds).reverse) ws → H1 dx = none ∧ W (.ref C) (some dx) σ (upd H1 dx (.xd ws)) := by
    intro dx ws hd ne rw
    have hd1 : H1 dx = none := by rw [upd_ne ne] at hd; exact hd
    obtain ⟨x1, x2⟩ := s1.new (o := .xd ws) hd1
    exact ⟨hd1, lk ⟨C, (fs.zip ds).reverse⟩ ρ S1 _ _ σ _ _ q1 ((e0.trans e1).trans (Go.new s1 hd1)) x2 ((en.mono e1.1).mono x1) ⟨rfl, .inr ⟨dx, ws, rfl, upd_same, RpF.mono x1 _ _ rw⟩⟩⟩
  match fs, ds, vs, q0, hl, r1, fin with
  | [f1], [d1], _, _, _, r1, fin =>
    obtain ⟨y, rfl, ry⟩ := rps_1 r1
    refine ⟨a, y, rfl, upd_same, fun dx hd ne => ⟨rfl, dx, [(f1, y)], upd_same, by rw [upd_ne ne, upd_same], ?_⟩⟩
    obtain ⟨k1, k2⟩ := fin dx [(f1, y)] hd ne (rpF_cons.mpr ⟨y, [], rfl, ry, rpF_nil.mpr rfl⟩)
    refine ⟨k1, ?_⟩
    rw [del_upd hn ne]
    exact k2
  | [f1, f2], [d1, d2], _, _, _, r1, fin =>
    obtain ⟨y, z, rfl, ry, rz⟩ := rps_2 r1
    refine ⟨a, y, z, rfl, upd_same, fun dx hd ne => ⟨rfl, dx, [(f2, z), (f1, y)], by rw [upd_ne (Ne.symm ne), upd_same], upd_same, ?_⟩⟩
    obtain ⟨k1, k2⟩ := fin dx [(f2, z), (f1, y)] hd ne (rpF_cons.mpr ⟨z, [(f1, y)], rfl, rz, rpF_cons.mpr ⟨y, [], rfl, ry, rpF_nil.mpr rfl⟩⟩)
    refine ⟨k1, ?_⟩
    rw [del_upd2 hn ne]
    exact k2
  | [], _, _, _, hl, _, _ => simp at hl
  | _ :: _ :: _ :: _, _, _, _, hl, _, _ => simp at hl
  | [_], [], _, q0, _, _, _ => simp at q0
  | [_], _ :: _ :: _, _, q0, _, _, _ => simp at q0
  | [_, _], [], _, q0, _, _, _ => simp at q0
  | [_, _], [_], _, q0, _, _, _ => simp at q0
  | [_, _], _ :: _ :: _ :: _, _, q0, _, _, _ => simp at q0
end
end DL
set_option Elab.async false
set_option linter.all false
set_option maxRecDepth 100000
set_option maxHeartbeats 4000000
namespace DL
open PySem PySem.Spec L2
section
variable {n n' : Bool} {X : Cx} {F0 : Bs} {ω : DW} {W : WX} {k : Nat} {C : Addr} {x : Str} {e : Expr} {es : List Expr} {t : TA} {da : DA} {p pos pos' : Pos} {fs : List Str}
theorem passE {CX : CXT} (h : CX = L2N.CX X.prog X.w) : Passes CX X (fun _ _ _ => False) := fun pins σ H s e s' I c => by
  subst h
  obtain ⟨a, B, H', cls, d, ea, fl, hok, ub, na, os, ag, he⟩ := c
  exact he.elim
/-- C(e, ..) where nothing is handled, its context None -/
theorem pmkN {fI : Addr} {fd : FuncData} {ps : List Str} {sp : Sp} (T : OexC X.K C) (iC : PySem.W.findIn X.K (.ref C) "__init__" = some (some (.ref fI))) (tI : PySem.W.typeIn X.K (.ref fI) = some (.type "function"))
    (F1 : FnOk X.prog X.w X.K X.mg X.base (L2N.CX X.prog X.w) k fI fd ps sp) (hr : Room (k + 1) X.A) (hb : Binds X.K fd ps []) (hg : Gl X x) (hm : X.mg x = some (.ref C)) (ha : PA X (e :: es) t)
    (hdb : (x == ("__debug__" : Str)) = false) (he : starEach (e :: es) X.env = (false, eval e X.env) :: starEach es X.env) (hpl : (backTo pos (starEach es X.env)).any (·.1) = false) :
    L2N.PMk X (.Call (.Name x p) (e :: es) [] pos) (tMkO C sp [] t) := by
  intro pins s σ H Q I h
  have ⟨nm, q, N, bs, bm, sn, sub, ab, col, dd, k0, k1, k2, k3, k5, hC, hbm⟩ := T.cls
  refine wpAny_Call_Name_kw (ld_glob I hg hm ?_ hdb)
  refine PySem.W.callWith_K (h₀ := X.base) I.ok.mod.kin T.kC (thn (ha.run pos pins s σ H _ I h) fun us s1 ⟨vs, H1, I1, r1, hz, q1⟩ => ⟨I1.kIn, ?_⟩) he hpl
  obtain ⟨hp, g, dr, tk, os⟩ := s1
  have le : hp.objs.size ≤ hp.objs.size + 1 := Nat.le_succ _
  have hn : H1 (hp.objs.size + 1) = none := I1.hok.fresh le
  have hq := q1 (hp.objs.size + 1) hn
  rw [List.append_nil] at hq
  have kk : ∀ b o, hp.get? b = some o → ((hp.push (PySem.W.kdv_tup us)).push (PySem.HandSPX.excO C hp.objs.size)).get? b = some o := fun b o z => Heap.get?_push_of_some _ (Heap.get?_push_of_some _ z)
  have got : ((hp.push (PySem.W.kdv_tup us)).push (PySem.HandSPX.excO C hp.objs.size)).get? (hp.objs.size + 1) = some (PySem.HandSPX.excO C hp.objs.size) := by heap_get
  have I2 : Inv X pins σ (upd H1 (hp.objs.size + 1) (exo (hp.objs.size + 1) C none)) ⟨(hp.push (PySem.W.kdv_tup us)).push (PySem.HandSPX.excO C hp.objs.size), g, dr, tk, os⟩ := I1.laid (t' := tk) kk le (exo_ok got)
  have r2 : Vals (V.ref (hp.objs.size + 1) :: vs) (Value.ref (hp.objs.size + 1) :: us) := .cons rfl r1
  have hl : (Value.ref (hp.objs.size + 1) :: us ++ []).length = ps.length := by
    rw [← F1.len _ _ _ _ hq, List.append_nil]
    exact r2.length.symm
  have short : us.length ≤ sizeLine := by rw [← Paired.length r1, sizeLine_eq]; omega
  have b2 := hb _ (Value.ref (hp.objs.size + 1) :: us) I2.kIn hl
  rw [List.append_nil] at b2
  refine wpAny_call (PySem.HandSPX.call_own F.excBase_ValueError (fun Y => PySem.HandSPX.refsVE_contains Y bm hbm) (I1.kIn _ _ hC) (PySem.W.looks_findIn I1.kIn iC) (fun self => PySem.W.bind_fn I1.kIn self tI) short
    (codeAny_mono (F1.run _ X.stack _ _ ⟨Value.ref (hp.objs.size + 1) :: us, []⟩ (Value.ref (hp.objs.size + 1) :: us) _ _ (fun _ _ _ => False) (hr.make C us []) (I2.env0.make C us []) b2 r2 hq) fun r s' hq' => ?_))
  cases r with
  | error er => exact passE rfl pins σ _ _ er s' I2 hq'
  | ok fl =>
    cases fl with
    | ret u =>
      obtain ⟨v, H2, os2, bare2, un2, hok2, rv, ev, d, fs, ea, ed, hd1, q2⟩ := hq'
      subst ev
      obtain ⟨h2, g2, d2, t2, os'⟩ := s'
      obtain ⟨t0, G, J, kG, ge, hoe, na⟩ := mk_end0 (d2 := d2) (t2 := t2) I1 le kk un2 hok2 os2 bare2 ea ed hd1
      refine ⟨rv, ⟨hp.objs.size + 1, _, _, ⟨G, g2, d2, t2, os'⟩, _, .ref C, some d, rfl, J, kG, ge, hoe, ⟨rfl, rfl, fun vs hv => ?_⟩, rfl, rfl, na, rfl, bare2, raises_own T.exC T.tyC, q2⟩⟩
      cases hv
      rfl
    | next => exact False.elim hq'
    | brk => exact False.elim hq'
    | cont => exact False.elim hq'
/-- raise C(e, ..) -/
theorem d_raise (E : ErrC X.prog X.w X.K X.mg X.base C fs) (hl : fs.length = 1 ∨ fs.length = 2) (hm : X.mg x = some (.ref C)) (cx : Ctx n X F0 ω W) (hc : X.calm = true) (hr : Room k X.A) (hk : 2 ≤ k) (ha : PDA X F0 (e :: es) t da) (hg : Gl X x := by rfl)
    (hdb : (x == ("__debug__" : Str)) = false := by decide) (he : starEach (e :: es) X.env = (false, eval e X.env) :: starEach es X.env := by rfl) (hpl : (backTo pos (starEach es X.env)).any (·.1) = false := by rfl) :
    PDS X F0 (.Raise (some (.Call (.Name x p) (e :: es) [] pos)) none pos') (fun _ σ H => tMkO C (spX C fs) [] t σ H fun cls d H' => W cls d σ H') (dRaise C fs ω da) := by
  obtain ⟨fI, fd, ps, iC, tI, F1, _, hb⟩ := E.ini
  have tk : L2N.Takes X W := by
    have z := cx.tk
    cases n with
    | true => exact z
    | false => exact takesN z
  exact ⟨L2N.ps_raise hc tk (pmkN E.oex iC tI F1 (hr.mono hk) hb hg hm ha.pa hdb he hpl), sim_raise cx.lk hl ha.sim⟩
/-- raise C(e, ..) from None, in an except suite -/
theorem d_raiseH {j : Nat} {cpos : Pos} {A0 : Around} {hd : Option Value} (E : ErrC X.prog X.w X.K X.mg X.base C fs) (hl : fs.length = 1 ∨ fs.length = 2) (hm : X.mg x = some (.ref C)) (tk : L2.Takes X W) (lk : LkW X.K F0.F F0.S F0.H ω W) (hot : L2H.HotC X) (hr : L2H.RoomH 2 X.A) (ha : PDA X F0 (e :: es) t da) (hg : Gl X x := by rfl)
    (hdb : (x == ("__debug__" : Str)) = false := by decide) (he : starEach (e :: es) X.env = (false, eval e X.env) :: starEach es X.env := by rfl) (hpl : (backTo pos (starEach es X.env)).any (·.1) = false := by rfl) :
    PDS X F0 (.Raise (some (.Call (.Name x p) (e :: es) [] pos)) (some (.Constant .none j cpos)) pos') (fun _ σ H => tMkO C (spX C fs) [] t σ H fun cls d H' => W cls d σ H') (dRaise C fs ω da) := by
  obtain ⟨fI, fd, ps, iC, tI, _, F1, hb⟩ := E.ini
  exact ⟨L2H.ps_raiseHN hot tk (L2H.pmk5_oexH E.oex iC tI F1 hr hot hb (passE rfl) hg hm ha.pa hdb he hpl), sim_raise lk hl ha.sim⟩
end
end DL
set_option Elab.async false
set_option linter.all false
set_option maxRecDepth 100000
set_option maxHeartbeats 4000000
namespace DL
open PySem PySem.Spec L2
section
variable {n n' : Bool} {X : Cx} {F0 : Bs} {ω : DW} {W : WX} {k : Nat} {C : Addr} {c : Value} {x y nm : Str} {e : Expr} {es : List Expr} {t : TA} {da : DA} {p np pos pos' pos2 pos3 cpos : Pos} {fs : List Str} {body suite : List Stmt} {b0 : Stmt} {tb : WX → TS} {db : DW → DS} {ts : TS} {ds : DS} {ans : Addr → Option Bool}
theorem trN {pn : List (Addr × Obj)} {W' : WX} : L2N.Takes (X.tr pn fun _ _ => True) W' := fun _ _ _ => trivial
theorem trF {pn : List (Addr × Obj)} {W' : WX} : L2.Takes (X.tr pn fun _ _ => True) W' := fun _ _ _ => trivial
def nB : Bs := ⟨fun _ => none, fun _ => none, fun _ => none⟩
/-- what an except clause that names c says of own errors -/
def AnsX (K : PySem.W.Frag) (c : Value) (ans : Addr → Option Bool) : Prop := ∀ C b, ans C = some b → PySem.W.exmOne K (.ref C) c = some b
/-- try: body, except x: suite -/
def oTry (ans : Addr → Option Bool) (ds : DS) (ω : DW) (Δ : DEnds) : DW := fun ex ρ S => ∃ b, ans ex.C = some b ∧ (b = true → ds Δ ρ S) ∧ (b = false → ω ex ρ S)
def dTry (ans : Addr → Option Bool) (db : DW → DS) (ds : DS) (ω : DW) : DS := fun Δ ρ S => db (oTry ans ds ω Δ) Δ ρ S
theorem sim_try (hA : AnsX X.K c ans) (lk : LkW X.K F0.F F0.S F0.H ω W) (hb : ∀ (W' : WX) (F1 : Bs) (ω' : DW), LkW X.K F1.F F1.S F1.H ω' W' → SimS X.K F1 (tb W') (db ω')) (hs : ∀ F1 : Bs, LkW X.K F1.F F1.S F1.H ω W → SimS X.K F1 ts ds) :
    SimS X.K F0 (fun D σ H => tb (wOnly X.K c (fun _ _ _ => ts) W D) D σ H) (dTry ans db ds ω) := by
  intro σ ρ H F S D Δ e0 s en lkd h
  refine hb _ ⟨F, S, H⟩ _ ?_ σ ρ H F S D Δ Go.rfl s en lkd h
  intro ex ρ1 S1 cls dx σ1 F1 H1 q1 g1 s1 en1 rx
  obtain ⟨b, hb1, h1, h2⟩ := q1
  refine ⟨b, by rw [rx.1]; exact hA _ _ hb1, fun hb2 a ha => ?_, fun hb2 => ?_⟩
  · exact hs ⟨F1, S1, H1⟩ (lk.mono (Go.trans e0 g1)) σ1 ρ1 H1 F1 S1 D Δ Go.rfl s1 en1 (lkd.mono g1) (h1 hb2)
  · exact lk ex ρ1 S1 cls dx σ1 F1 H1 (h2 hb2) (Go.trans e0 g1) s1 en1 rx
/-- .. the suite raises an own error from None -/
theorem d_tryR {j : Nat} (hs : X.stack = X.env :: X.outer) (hf : X.env.frame = some X.env.locals) (hpa : ∀ hd : Option Value, PassesOwnAt (model X.prog X.w) (X.A.mark hd) X.A X.env X.xe) (hc : Names X x c) (hA : AnsX X.K c ans) (cx : Ctx false X F0 ω W) (hr : Room k X.A) (hk : 2 ≤ k)
    (hb : ∀ (W' : WX) (pn : List (Addr × Obj)) (xe : Value → Shared → Prop) (F1 : Bs) (ω' : DW), Ctx true (X.tr pn xe) F1 ω' W' → PDSs (X.tr pn xe) F1 body (tb W') (db ω'))
    (E : ErrC X.prog X.w X.K X.mg X.base C fs) (hl : fs.length = 1 ∨ fs.length = 2) (hm : X.mg y = some (.ref C)) (ha : ∀ (a : Addr) (pn : List (Addr × Obj)) (F1 : Bs), PDA (L2H.suiteX X a pn) F1 (e :: es) t da) (hg : Gl X y := by rfl)
    (hdb : (y == ("__debug__" : Str)) = false := by decide) (he : starEach (e :: es) X.env = (false, eval e X.env) :: starEach es X.env := by rfl) (hpl : (backTo pos (starEach es X.env)).any (·.1) = false := by rfl) :
    PDS X F0 (.Try body [.ExceptHandler (some (.Name x np)) none [.Raise (some (.Call (.Name y p) (e :: es) [] pos)) (some (.Constant .none j cpos)) pos'] pos2] [] [] pos3)
      (fun D σ H => tb (wOnly X.K c (fun _ _ _ => fun _ σ H => tMkO C (spX C fs) [] t σ H fun cls d H' => W cls d σ H') W D) D σ H) (dTry ans db (dRaise C fs ω da) ω) := by
  refine ⟨L2H.ps_try_onlyX hs hf hc hpa cx.tk (fun W' pn xe tk _ _ => (hb W' pn xe nB o0 ⟨tk, lkW_no⟩).pss) (fun a oe cls d pn hz hfv tk hot => pss_one ?_), ?_⟩
  · exact (d_raiseH (X := L2H.suiteX X a ((a, oe) :: pn)) (F0 := nB) (ω := o0) (A0 := X.A) (hd := none) E hl hm tk lkW_no hot (L2H.roomH_mark (hr.mono hk) _) (ha a _ nB) hg hdb he hpl).ps
  · exact sim_try hA cx.lk (fun W' F1 ω' l => (hb W' [] (fun _ _ => True) F1 ω' ⟨trN, l⟩).sim) (fun F1 l => sim_raise (F0 := F1) (X := X) l hl (ha 0 [] F1).sim)
/-- .. the suite raises nothing, nothing else leaves the body -/
theorem d_tryO (hs : X.stack = X.env :: X.outer) (hf : X.env.frame = some X.env.locals) (hc : Names X x c) (hA : AnsX X.K c ans)
    (hb : ∀ (W' : WX) (pn : List (Addr × Obj)) (xe : Value → Shared → Prop) (F1 : Bs) (ω' : DW), Ctx false (X.tr pn xe) F1 ω' W' → PDSs (X.tr pn xe) F1 body (tb W') (db ω'))
    (hsu : ∀ (a : Addr) (pn : List (Addr × Obj)) (F1 : Bs), PDSs (X.suite a pn) F1 (b0 :: suite) ts ds) :
    PDS X F0 (.Try body [.ExceptHandler (some (.Name x np)) none (b0 :: suite) pos2] [] [] pos3) (fun D σ H => tb (wOnly X.K c (fun _ _ _ => ts) w0 D) D σ H) (dTry ans db ds o0) :=
  ⟨ps_try_only hs hf hc takes0 (fun W' pn xe tk _ => (hb W' pn xe nB o0 ⟨tk, lkW_no⟩).pss) (fun a oe cls d pn hz hfv => (hsu a _ nB).pss), sim_try hA lkW_no (fun W' F1 ω' l => (hb W' [] (fun _ _ => True) F1 ω' ⟨trF, l⟩).sim) fun F1 _ => (hsu 0 [] F1).sim⟩
end
end DL
set_option Elab.async false
set_option linter.all false
set_option maxRecDepth 100000
set_option maxHeartbeats 4000000
namespace DL
open PySem PySem.Spec L2
section
variable {X : Cx} {pins : List (Addr × Obj)} {σ : L2.St} {H : Hp} {s : Shared}
/-- behind the suite the error is tracked -/
theorem track {a C dd : Addr} {oe : Obj} {vs : Array Value} (S : Inv (X.suite a ((a, oe) :: (X.pn ++ pins))) [] σ H s) (ok : X.Ok) (hz : Zc (.ref C) (some dd) oe) (hd : oe.data = .fields vs) (nb : ∀ p ∈ X.pn ++ pins, p.1 ≠ a) (n0 : X.s_0.heap.get? a = none) :
    Inv X pins σ (upd H a (xeo a C dd)) s := by
  obtain ⟨ha, na, nL, nF, _⟩ := S.pin (a, oe) (List.mem_append_left _ List.mem_cons_self)
  have J : Inv X pins σ H s := S.unsuite ok
  have old : ∀ {b : Addr} {o : HO}, H b = some o → upd H a (xeo a C dd) b = some o := fun {b o} z => by rw [upd_ne (fun e => by rw [e, na] at z; cases z)]; exact z
  refine ⟨ok, J.os, J.bare, ⟨J.base.keep, J.base.slot, fun b o e hn hx => ?_, J.base.there, fun b xs z => old (J.base.tups b xs z), fun b o xs z => old (J.base.frzs b o xs z), fun b ps z => ?_⟩, J.loc, J.cell, ?_, fun y c e => ?_, fun p hp => ?_, fun b o z => ?_, J.len⟩
  · have ne : b ≠ a := fun z => by rw [z, n0] at e; cases e
    rw [upd_ne ne]
    exact J.base.free b o e hn hx
  · obtain ⟨more, q⟩ := J.base.tbls b ps z
    exact ⟨more, old q⟩
  · rw [upd_ne (Ne.symm nL)]; exact J.free
  · have ne : c ≠ a := fun z => by
      obtain ⟨v, u, h1, h2⟩ := J.cell y c e
      rw [z, ha] at h1
      cases h1
      rw [hd] at h2
      cases h2
    rw [upd_ne ne]; exact J.freeC y c e
  · obtain ⟨p1, p2, p3⟩ := J.pin p hp
    refine ⟨p1, ?_, p3⟩
    rw [upd_ne (nb p hp)]; exact p2
  · by_cases e : b = a
    · rw [e, upd_same] at z
      cases z
      rw [e]
      have there : ∃ oe, s.heap.get? a = some oe ∧ oe.cls = .ref C ∧ oe.dict = some dd ∧ ∃ vs, oe.data = .fields vs := ⟨oe, ha, hz.1, hz.2, vs, hd⟩
      exact ⟨there, ⟨oe, ha⟩, fun h1 h2 q k => by
        obtain ⟨o1, w1, w2⟩ := q
        exact ⟨o1, k _ w1, w2⟩⟩
    · rw [upd_ne e] at z
      exact (J.hok b o z).stay (fun _ _ _ q => q) (fun c q => old q) fun c xs q => old q
end
/-- what the clause 'except c as n: y = n' wishes -/
def wHold (K : PySem.W.Frag) (c : Value) (i j : Nat) (D : Ends) : WX := fun cls d σ H => PySem.W.exmOne K cls c = some true ∧ ∃ C dd, cls = .ref C ∧ d = some dd ∧ ∀ a, H a = none → D.nx (((σ.set i (some (.ref a))).set j (some (.ref a))).set i none) (upd H a (xeo a C dd))
section
variable {X : Cx} {x n y : Str} {c : Value} {i j : Nat} {body : List Stmt} {np pos pos' p1 p2 p3 : Pos} {tb : WX → TS}
theorem ps_try_hold (hs : X.stack = X.env :: X.outer) (hf : X.env.frame = some X.env.locals) (hex : X.ex = []) (hN : X.N.Nodup) (hi : X.N[i]? = some n) (hln : X.env.kindOf n = some .local) (hj : X.N[j]? = some y) (hlj : Loc X.env.scope y) (hyl : X.env.scope.names.lookup y = some .local) (hvn : Vis X.env.scope n) (hc : Names X x c)
    (hdn : (n == ("__debug__" : Str)) = false) (hcn : (n == ("__classdict__" : Str)) = false) (hsw : swapsWith (.Name n p2) (some (.Name y p1)) p3.line X.env = pure false)
    (hb : ∀ (W : WX) (pn : List (Addr × Obj)) (xe : Value → Shared → Prop), L2.Takes (X.tr pn xe) W → PSs (X.tr pn xe) body (tb W)) :
    PS X (.Try body [.ExceptHandler (some (.Name x np)) (some n) [.Assign [.Name y p1] (.Name n p2) p3] pos'] [] [] pos) (fun D σ H => tb (wHold X.K c i j D) D σ H) := by
  refine ⟨fun pins s σ H D I h => ?_⟩
  have ok := I.ok
  have fr : X.A.frames = some (X.env :: X.outer) := by rw [ok.frames, hs]
  refine wpAny_Try_except (wpAny_mono ((hb (wHold X.K c i j D) (X.pn ++ pins) (fun e s₁ => wpAny (model X.prog X.w) X.A (noteFrame e X.env) (fun _ s₂ => wpAny (model X.prog X.w) X.A (setFlight e none) (fun _ s₃ =>
    wpAny (model X.prog X.w) X.A (handleBy e X.env [.ExceptHandler (some (.Name x np)) (some n) [.Assign [.Name y p1] (.Name n p2) p3] pos']) (SP X pins D) X.xe s₃) X.xe s₂) X.xe s₁) (fun u s' xx => ?_)).run [] s σ H D (I.toTry _) h) (fun f s1 hsp => ?_) (fun e s1 he => he))
  · obtain ⟨a, B, sI, pins', σ', H', cls, d, rfl, J', nb, up, sky, na, os, ag, hb1, C, dd, rfl, rfl, fin⟩ := xx
    have J : Inv X pins σ' H' sI := J'.ofTry ok
    have sky2 : Sky B (X.env :: X.outer) a (Zc (.ref C) (some dd)) X.env.locals s'.heap := by rw [← hs]; exact sky
    refine Sky.land Zc.steady fr hf sky2 fun h3 fl3 up3 => ?_
    have J3 : Inv X pins σ' H' { s' with heap := h3 } := J.landed nb fl3.1 (up.trans up3) os ag
    obtain ⟨oe3, vs3, he3, hz3, hd3⟩ := fl3.there
    have nfr : a ∉ frs (X.env :: X.outer) := fun hm => by
      obtain ⟨_, o', e', hnf⟩ := fl3.2.2.1.mem hm
      rw [he3] at e'
      cases e'
      exact hnf _ hd3
    have nL : a ≠ X.env.locals := fun z => nfr (List.mem_filterMap.mpr ⟨X.env, List.mem_cons_self, by rw [hf, z]⟩)
    have nF : a ∉ X.fs := fun hm => by
      obtain ⟨e, he, q⟩ := List.mem_filterMap.mp hm
      exact nfr (List.mem_filterMap.mpr ⟨e, List.mem_cons_of_mem _ he, q⟩)
    have gone : sI.heap.get? a = none := by
      cases z : sI.heap.get? a with
      | none => rfl
      | some o =>
        have q := nb a o z (by rw [hs]; exact nfr)
        rw [fl3.2.1] at q
        cases q
    have S3 := J3.suite he3 hd3 na nL nF
    refine wpAny_handleBy_cons (codeAny_handlers_test ?_) (by intro q; cases q)
    have LT : PySem.W.Looks (model X.prog X.w) h3 (typeOf (.ref a)) (.ref C) := fun A Q E s k q => wpAny_typeOf_ref (k _ _ he3) (by rw [hz3.1]; exact q)
    have LM := PySem.W.exm_one (M := model X.prog X.w) (J3.kIn) LT hb1
    have test : ∀ {Q : Value → Shared → Prop} {E : Value → Shared → Prop}, Q c { s' with heap := h3 } → wpAny (model X.prog X.w) (X.A.mark (some (.ref a))) (eval (.Name x np) X.env) Q E { s' with heap := h3 } := fun {Q E} q => by
      have ⟨hg, hdb, hm⟩ := hc
      rcases hm with hm | ⟨hm, hv, hnn⟩
      · exact ld_glob (X := X.suite a ((a, oe3) :: (X.pn ++ pins))) S3 hg hm q hdb
      · exact ld_blt (X := X.suite a ((a, oe3) :: (X.pn ++ pins))) S3 hg hm hv q hnn hdb
    refine test (LM.here (codeAny_handlers_suite_as (HandSPX.lands_againZ fl3 fun h4 fl4 up4 => ?_)))
    have J4 : Inv X pins σ' H' { s' with heap := h4 } := J.landed nb fl4.1 ((up.trans up3).trans up4) os ag
    obtain ⟨oe4, vs4, he4, hz4, hd4⟩ := fl4.there
    have S4 := J4.suite he4 hd4 na nL nF
    have il : i < σ'.length := by rw [J4.len]; exact (List.getElem?_eq_some_iff.mp hi).1
    refine store_ok (X := X.suite a ((a, oe4) :: (X.pn ++ pins))) (v := .ref a) S4 hN hi (.inl hln) rfl (fun s5 S5 => ?_) (.inr hln)
    have sb : PS (X.suite a ((a, oe4) :: (X.pn ++ pins))) (.Assign [.Name y p1] (.Name n p2) p3) (tAsg (tVar i) (gName j)) := ps_set hN hj hlj (pe_var hi hvn hdn hcn) hsw (.inr hyl)
    refine wpAny_mono ((pss_one sb).run [] s5 _ H' { nx := fun σ6 H6 => σ6 = (σ'.set i (some (.ref a))).set j (some (.ref a)) ∧ H6 = H', rt := fun _ _ => False, bk := fun _ _ => False, ct := fun _ _ => False } S5 ⟨.ref a, List.getElem?_set_self il, rfl, rfl⟩) (fun f s6 hsp => ?_) (fun _ _ z => False.elim z)
    cases f with
    | next =>
      obtain ⟨σ6, H6, S6, e1, e2⟩ := hsp
      subst e1 e2
      refine gone_ok (X := X.suite a ((a, oe4) :: (X.pn ++ pins))) S6 hN hi hln fun s7 S7 => ⟨_, _, ?_, fin a na⟩
      refine track S7 ok hz4 hd4 (fun p hp z => ?_) ?_
      · have q := (J.pin p hp).1
        rw [z, gone] at q
        cases q
      · cases z : X.s_0.heap.get? a with
        | none => rfl
        | some o =>
          obtain ⟨o', q⟩ := J.base.there a o z (by rw [hex]; simp)
          rw [gone] at q
          cases q
    | brk => obtain ⟨_, _, _, z⟩ := hsp; exact False.elim z
    | cont => obtain ⟨_, _, _, z⟩ := hsp; exact False.elim z
    | ret u => obtain ⟨_, _, _, _, _, z⟩ := hsp; exact False.elim z
  · cases f with
    | next => obtain ⟨σ', H', J', q⟩ := hsp; exact wpAny_execs_nil ⟨σ', H', J'.ofTry ok, q⟩
    | brk => obtain ⟨σ', H', J', q⟩ := hsp; exact ⟨σ', H', J'.ofTry ok, q⟩
    | cont => obtain ⟨σ', H', J', q⟩ := hsp; exact ⟨σ', H', J'.ofTry ok, q⟩
    | ret u => obtain ⟨v, σ', H', J', r, q⟩ := hsp; exact ⟨v, σ', H', J'.ofTry ok, r, q⟩
end
end DL
set_option Elab.async false
set_option linter.all false
set_option maxRecDepth 100000
set_option maxHeartbeats 4000000
namespace DL
open PySem PySem.Spec L2
theorem Envr.none {K : PySem.W.Frag} {F : Hp} {σ : L2.St} {ρ : Env} (h : Envr K F σ ρ) (i : Nat) : Envr K F (σ.set i none) (ρ.set i none) := by
  refine ⟨by rw [List.length_set, List.length_set]; exact h.len, fun k d q => ?_⟩
  by_cases e : i = k
  · subst e
    by_cases hl : i < ρ.length
    · rw [List.getElem?_set_self hl] at q; cases q
    · rw [List.getElem?_eq_none (by rw [List.length_set]; omega)] at q; cases q
  · rw [List.getElem?_set_ne e] at q
    rw [List.getElem?_set_ne e]
    exact h.at_ k d q
section
variable {X : Cx} {F0 : Bs} {x n y fl : Str} {c : Value} {i j : Nat} {body : List Stmt} {np pos pos' p1 p2 p3 : Pos} {tb : WX → TS} {db : DW → DS} {ans : Addr → Option Bool} {e : Expr} {te : TE} {de : DE} {cs : List Addr}
/-- try: body, except c as n: y = n -/
def oHold (ans : Addr → Option Bool) (i j : Nat) (Δ : DEnds) : DW := fun ex ρ S => ans ex.C = some true ∧ ex.fs ≠ [] ∧ Δ.nx ((ρ.set j (some (.err ex.C ex.fs))).set i none) S
def dHold (ans : Addr → Option Bool) (i j : Nat) (db : DW → DS) : DS := fun Δ ρ S => db (oHold ans i j Δ) Δ ρ S
theorem d_tryHold (hs : X.stack = X.env :: X.outer) (hf : X.env.frame = some X.env.locals) (hex : X.ex = []) (hN : X.N.Nodup) (i j : Nat) (hc : Names X x c) (hA : AnsX X.K c ans)
    (hb : ∀ (W' : WX) (pn : List (Addr × Obj)) (xe : Value → Shared → Prop) (F1 : Bs) (ω' : DW), Ctx false (X.tr pn xe) F1 ω' W' → PDSs (X.tr pn xe) F1 body (tb W') (db ω'))
    (hij : i ≠ j := by decide) (hi : X.N[i]? = some n := by rfl) (hln : X.env.kindOf n = some .local := by rfl) (hj : X.N[j]? = some y := by rfl) (hlj : Loc X.env.scope y := by first | exact Or.inl rfl | exact Or.inr rfl) (hyl : X.env.scope.names.lookup y = some .local := by rfl) (hvn : Vis X.env.scope n := by first | exact Or.inl rfl | exact Or.inr (Or.inl rfl) | exact Or.inr (Or.inr rfl))
    (hdn : (n == ("__debug__" : Str)) = false := by decide) (hcn : (n == ("__classdict__" : Str)) = false := by decide) (hsw : swapsWith (.Name n p2) (some (.Name y p1)) p3.line X.env = pure false := by rfl) :
    PDS X F0 (.Try body [.ExceptHandler (some (.Name x np)) (some n) [.Assign [.Name y p1] (.Name n p2) p3] pos'] [] [] pos) (fun D σ H => tb (wHold X.K c i j D) D σ H) (dHold ans i j db) := by
  refine ⟨ps_try_hold hs hf hex hN hi hln hj hlj hyl hvn hc hdn hcn hsw (fun W' pn xe tk => (hb W' pn xe nB o0 ⟨tk, lkW_no⟩).pss), ?_⟩
  intro σ ρ H F S D Δ e0 s en lkd h
  refine (hb _ [] (fun _ _ => True) ⟨F, S, H⟩ _ ⟨trF, ?_⟩).sim σ ρ H F S D Δ Go.rfl s en lkd h
  intro ex ρ1 S1 cls dx σ1 F1 H1 q1 g1 s1 en1 rx
  obtain ⟨q1, q2, q3⟩ := q1
  obtain ⟨rfl, rx⟩ := rx
  rcases rx with ⟨_, z⟩ | ⟨d, ws, rfl, hd, rw'⟩
  · exact absurd z q2
  · refine ⟨hA _ _ q1, ex.C, d, rfl, rfl, fun a ha => ?_⟩
    obtain ⟨x1, x2⟩ := s1.new (o := xeo a ex.C d) ha
    have hd2 : upd F1 a (xeo a ex.C d) d = some (.xd ws) := x1.xd hd
    have re : Rp X.K (upd F1 a (xeo a ex.C d)) (.err ex.C ex.fs) (.ref a) := by unfold Rp; exact ⟨a, d, ws, rfl, upd_same, hd2, RpF.mono x1 _ _ rw'⟩
    have en2 := ((((en1.mono x1).set (i := i) re).set (i := j) re).none i)
    have er : ((ρ1.set i (some (.err ex.C ex.fs))).set j (some (.err ex.C ex.fs))).set i none = (ρ1.set j (some (.err ex.C ex.fs))).set i none := by
      apply List.ext_getElem?
      intro k
      by_cases hk : i = k
      · subst hk
        simp [List.getElem?_set]
      · rw [List.getElem?_set_ne hk, List.getElem?_set_ne hk]
        by_cases hk2 : j = k
        · subst hk2
          simp [List.getElem?_set]
        · rw [List.getElem?_set_ne hk2, List.getElem?_set_ne hk2, List.getElem?_set_ne hk]
    rw [er] at en2
    exact lkd.nx _ S1 _ _ _ q3 (Go.trans g1 (Go.new s1 ha)) x2 en2
/-- e.f, e a held error -/
def tXfH (K : PySem.W.Frag) (fl : Str) (te : TE) : TE := fun σ H Q => te σ H fun x H1 => ∃ a C dd fs v, x = .ref a ∧ H1 a = some (xeo a C dd) ∧ H1 dd = some (.xd fs) ∧ XfC K C ∧ PySem.W.findIn K (.ref C) fl = some none ∧ fs.lookup fl = some v ∧ Q v H1
theorem pe_xfH (he : PE X e te) (hb : attributeBase e fl X.env (eval e X.env) = eval e X.env) : PE X (.Attribute e fl pos) (tXfH X.K fl te) := by
  refine ⟨fun pins s σ H Q I h => ?_⟩
  refine attr_of hb (thn (he.run pins s σ H _ I h) fun u s1 ⟨x, H1, I1, rx, a, C, dd, fs, v, ex, ea, ed, T, hno, l, q⟩ => ?_)
  subst ex
  obtain rfl : u = Value.ref a := rx
  obtain ⟨oe, h1, h2, h3, vs, h4⟩ := (I1.hok a _ ea).1
  obtain ⟨mA, hns, hr⟩ := (show ObjOk X.prog X.w H1 s1.heap dd (.xd fs) from I1.hok dd _ ed)
  obtain ⟨od, ho, hl⟩ := lookIn_ns hns
  obtain ⟨u, hu, ru⟩ := RelO.some_of (v := v) (o := mA fl) (by rw [← l]; exact hr fl)
  have J : PySem.W.InstAt s1.heap a oe C (some od) := ⟨h1, h2, by unfold PySem.W.notCls; rw [h4] <;> rfl, by rw [h3]; exact ho⟩
  exact HandSPX.exc_get I1.kIn J T.ga T.gg T.exC (PySem.W.findObj_own T.hdC hno rfl (by rw [hl, hu])) (handed_of ru) ⟨v, H1, I1.tok _, ru, q⟩
def dXf (cs : List Addr) (fl : Str) (de : DE) : DE := fun ρ S Q => de ρ S fun x S1 => match x with
  | .err C fs => C ∈ cs ∧ ∃ d, fs.lookup fl = some d ∧ Q d S1
  | _ => False
theorem d_xf (hT : ∀ C ∈ cs, XfC X.K C ∧ PySem.W.findIn X.K (.ref C) fl = some none) (he : PD X F0 e te de) (hb : attributeBase e fl X.env (eval e X.env) = eval e X.env := by rfl) : PD X F0 (.Attribute e fl pos) (tXfH X.K fl te) (dXf cs fl de) := by
  refine ⟨pe_xfH he.pe hb, ?_⟩
  intro σ ρ H F S Q Qd e0 s en lk h
  refine he.sim σ ρ H F S _ _ e0 s en ?_ h
  intro x S1 w F1 H1 q1 e1 s1 r1
  cases x with
  | err C fs =>
    obtain ⟨hC, d, h2, q⟩ := q1
    unfold Rp at r1
    obtain ⟨a, dd, ws, rfl, g1, g2, g3⟩ := r1
    rcases rpF_val fl g3 with ⟨z, _⟩ | ⟨d', u, z1, z2, z3⟩
    · rw [h2] at z; cases z
    · rw [h2] at z1
      cases z1
      exact ⟨a, C, dd, ws, u, rfl, s1.fz _ _ g1, s1.fz _ _ g2, (hT C hC).1, (hT C hC).2, z2, lk _ S1 _ F1 H1 q e1 s1 z3⟩
  | _ => exact q1.elim
end
end DL
set_option Elab.async false
set_option linter.all false
set_option maxRecDepth 100000
set_option maxHeartbeats 2000000
namespace DL
open PySem PySem.Spec L2
section
variable {X : Cx} {F0 : Bs} {K : PySem.W.Frag} {a b c e : Expr} {ta : TA} {da : DA} {te : TE} {de : DE} {pos px py pz pt : Pos} {x y z : Str} {i j l : Nat}
theorem Envr.set2 {F : Hp} {σ : L2.St} {ρ : Env} (en : Envr K F σ ρ) {i : Nat} {d : D} {v : V} (r : Rp K F d v) : Envr K F (σ.set i (some v)) (ρ.set i (some d)) := en.set r
def dPar (i j : Nat) (da : DA) : DS := fun Δ ρ S => da ρ S fun ds S1 => match ds with | [d1, d2] => Δ.nx ((ρ.set i (some d1)).set j (some d2)) S1 | _ => False
theorem d_par (i j : Nat) {kt k2 pt2} (hc : X.calm = true) (hN : X.N.Nodup) (ha : PDA X F0 [a, b] ta da) (hi : X.N[i]? = some x := by rfl) (hj : X.N[j]? = some y := by rfl) (hij : i ≠ j := by decide)
    (hx : X.env.scope.names.lookup x = some .local := by rfl) (hy : X.env.scope.names.lookup y = some .local := by rfl)
    (hw : swappedStores [.Tuple [.Name x px, .Name y py] kt pt] (.Tuple [a, b] k2 pt2) X.env = pure (some [x, y]) := by with_unfolding_all rfl)
    (hs : swapsWithSole [.Tuple [.Name x px, .Name y py] kt pt] (.Tuple [a, b] k2 pt2) pos.line X.env = pure false := by rfl) :
    PDS X F0 (.Assign [.Tuple [.Name x px, .Name y py] kt pt] (.Tuple [a, b] k2 pt2) pos) (tPar i j ta) (dPar i j da) := by
  refine ⟨ps_par hc hN hi hj hij hx hy ha.pa hw hs, ?_⟩
  intro σ ρ H F S E Δ e0 s en lk h
  refine ha.sim σ ρ H F S _ _ e0 s en ?_ h
  intro ds S1 vs F1 H1 q1 e1 s1 r1
  match ds, q1, r1 with
  | [d1, d2], q1, r1 =>
    obtain ⟨v, w, rfl, r2, r3⟩ := rps_2 r1
    exact ⟨v, w, rfl, lk.nx _ S1 _ F1 H1 q1 e1 s1 (((en.mono e1.1).set r2).set r3)⟩
theorem rps_3 {F : Hp} {d1 d2 d3 : D} {vs : List V} (h : Rps K F [d1, d2, d3] vs) : ∃ u v w, vs = [u, v, w] ∧ Rp K F d1 u ∧ Rp K F d2 v ∧ Rp K F d3 w := by
  obtain ⟨u, ws, rfl, r, q⟩ := rps_cons.mp h
  obtain ⟨v, w, rfl, r2, r3⟩ := rps_2 q
  exact ⟨u, v, w, rfl, r, r2, r3⟩
def dPar3 (i j l : Nat) (da : DA) : DS := fun Δ ρ S => da ρ S fun ds S1 => match ds with | [d1, d2, d3] => Δ.nx (((ρ.set i (some d1)).set j (some d2)).set l (some d3)) S1 | _ => False
theorem d_par3 (i j l : Nat) {kt k2 pt2} (hc : X.calm = true) (hN : X.N.Nodup) (ha : PDA X F0 [a, b, c] ta da) (hi : X.N[i]? = some x := by rfl) (hj : X.N[j]? = some y := by rfl) (hl : X.N[l]? = some z := by rfl) (hij : i ≠ j := by decide) (hil : i ≠ l := by decide) (hjl : j ≠ l := by decide)
    (hx : X.env.scope.names.lookup x = some .local := by rfl) (hy : X.env.scope.names.lookup y = some .local := by rfl) (hz : X.env.scope.names.lookup z = some .local := by rfl)
    (hw : swappedStores [.Tuple [.Name x px, .Name y py, .Name z pz] kt pt] (.Tuple [a, b, c] k2 pt2) X.env = pure (some [x, y, z]) := by with_unfolding_all rfl)
    (hs : swapsWithSole [.Tuple [.Name x px, .Name y py, .Name z pz] kt pt] (.Tuple [a, b, c] k2 pt2) pos.line X.env = pure false := by rfl) :
    PDS X F0 (.Assign [.Tuple [.Name x px, .Name y py, .Name z pz] kt pt] (.Tuple [a, b, c] k2 pt2) pos) (tPar3 i j l ta) (dPar3 i j l da) := by
  refine ⟨ps_par3 hc hN hi hj hl hij hil hjl hx hy hz ha.pa hw hs, ?_⟩
  intro σ ρ H F S E Δ e0 s en lk h
  refine ha.sim σ ρ H F S _ _ e0 s en ?_ h
  intro ds S1 vs F1 H1 q1 e1 s1 r1
  match ds, q1, r1 with
  | [d1, d2, d3], q1, r1 =>
    obtain ⟨u, v, w, rfl, r2, r3, r4⟩ := rps_3 r1
    exact ⟨u, v, w, rfl, lk.nx _ S1 _ F1 H1 q1 e1 s1 ((((en.mono e1.1).set r2).set r3).set r4)⟩
/-- name += v, whole numbers -/
def dAugI (i : Nat) (f : Int → Int → Int) (de : DE) : DS := fun Δ ρ S => ∃ m, ρ[i]? = some (some (.int m)) ∧ de ρ S fun y S1 => ∃ n, y = .int n ∧ Δ.nx (ρ.set i (some (.int (f m n)))) S1
theorem sim_augI {f : Int → Int → Int} (he : SimE K F0 te de) : SimS K F0 (tAug i te (ipI f)) (dAugI i f de) := by
  intro σ ρ H F S E Δ e0 s en lk h
  obtain ⟨m, hm, h⟩ := h
  obtain ⟨v, hv, rv⟩ := en.at_ i _ hm
  refine ⟨v, hv, he σ ρ H F S _ _ e0 s en ?_ h⟩
  intro y S1 w F1 H1 q1 e1 s1 r1
  obtain ⟨n, rfl, q⟩ := q1
  exact ⟨m, n, rp_int rv, rp_int r1, lk.nx _ S1 _ F1 H1 q e1 s1 ((en.mono e1.1).set rp_mk_int)⟩
theorem d_augAdd (i : Nat) (hN : X.N.Nodup) (he : PD X F0 e te de) (hi : X.N[i]? = some x := by rfl) (hx : Loc X.env.scope x := by first | exact Or.inl rfl | exact Or.inr rfl) (hf : X.fn x = true ∨ X.env.scope.names.lookup x = some .local := by first | exact .inl rfl | exact .inr rfl | assumption) :
    PDS X F0 (.AugAssign (.Name x px) .Add e pos) (tAug i te (ipI fun i j => i + j)) (dAugI i (fun m n => m + n) de) := ⟨ps_aug hN hi hx he.pe ip_add hf, sim_augI he.sim⟩
theorem d_augSub (i : Nat) (hN : X.N.Nodup) (he : PD X F0 e te de) (hi : X.N[i]? = some x := by rfl) (hx : Loc X.env.scope x := by first | exact Or.inl rfl | exact Or.inr rfl) (hf : X.fn x = true ∨ X.env.scope.names.lookup x = some .local := by first | exact .inl rfl | exact .inr rfl | assumption) :
    PDS X F0 (.AugAssign (.Name x px) .Sub e pos) (tAug i te (ipI fun i j => i - j)) (dAugI i (fun m n => m - n) de) := ⟨ps_aug hN hi hx he.pe ip_sub hf, sim_augI he.sim⟩
end
theorem SimN.d {K : PySem.W.Frag} {F0 : Bs} {t : TE} {n : DN} (h : SimN K F0 t n) : SimE K F0 t (dFz n) := by
  intro σ ρ H F S Q Qd e0 s en lk q
  refine h σ ρ H F S Q _ e0 s en ?_ q
  intro xs S1 vs F1 H1 p q1 e1 s1 r1 hp
  obtain ⟨x1, x2⟩ := s1.new (o := .lst vs) hp
  exact lk _ S1 _ _ _ q1 (e1.trans (Go.new s1 hp)) x2 (rp_mk_lst upd_same (Rps.mono x1 _ _ r1))
theorem SimN.cell {K : PySem.W.Frag} {F0 : Bs} {t : TE} {n : DN} (h : SimN K F0 t n) : SimE K F0 t (dCell n) := by
  intro σ ρ H F S Q Qd e0 s en lk q
  refine h σ ρ H F S Q _ e0 s en ?_ q
  intro xs S1 vs F1 H1 p q1 e1 s1 r1 hp
  obtain ⟨x1, x2⟩ := s1.newM (o := .lst vs) (m := .lst xs) hp ⟨vs, rfl, r1⟩
  exact lk _ _ _ _ _ (q1 p x1) (e1.trans (Go.newM hp)) x2 rp_mk_ref
/-- name = [..], on one line -/
structure PSN (X : Cx) (F0 : Bs) (st : Stmt) (i : Nat) (t : TE) (n : DN) : Prop where
  ps : PS X st (tAsg t (gName i))
  sim : SimN X.K F0 t n
section
variable {X : Cx} {F0 : Bs} {st : Stmt} {i : Nat} {t : TE} {n : DN} {y : Str} {py pos spos : Pos}
theorem PSN.d (h : PSN X F0 st i t n) : PDS X F0 st (tAsg t (gName i)) (dAsg (dFz n) (dgName i)) := ⟨h.ps, sim_asg h.sim.d sim_gname⟩
theorem PSN.cell (h : PSN X F0 st i t n) : PDS X F0 st (tAsg t (gName i)) (dAsg (dCell n) (dgName i)) := ⟨h.ps, sim_asg h.sim.cell sim_gname⟩
theorem n_setLc (i : Nat) {elt tg iter : Expr} {ifs : List Expr} {scope : Scope} {own : List (Str × Nat)} {wi : TI} {di : DI} {g : TG} {dg : DG} {tt : TT} {dt : DT} {te : TE} {de : DE} (own' : List (Str × Nat) := own) (hc : X.calm = true) (hN : X.N.Nodup) (ok : BlkOk X.N X.env.scope scope own) (hi : PDI X F0 tg iter wi di)
    (hg : ∀ (s : Shared) (H : Hp) (C : Addr) (cl : List (Str × Addr)) (fp : List Addr), PDGv (X.blk s H scope (compEnvC scope cl C X.env) fp) F0 (own.map (·.2)) tg g dg) (ht : ∀ (s : Shared) (H : Hp) (C : Addr) (cl : List (Str × Addr)) (fp : List Addr), PDTs (X.blk s H scope (compEnvC scope cl C X.env) fp) F0 ifs tt dt)
    (he : ∀ (s : Shared) (H : Hp) (C : Addr) (cl : List (Str × Addr)) (fp : List Addr), PD (X.blk s H scope (compEnvC scope cl C X.env) fp) F0 elt te de) (hs : ∀ x, foldedSetIterable iter X.env x = pure x := by intro _; rfl)
    (hy : X.N[i]? = some y := by rfl) (hyl : X.env.scope.names.lookup y = some .local := by rfl) (hsw : swapsWith (.ListComp elt [⟨tg, iter, ifs, 0⟩] scope pos) (some (.Name y py)) spos.line X.env = pure true := by exact sw_true rfl rfl rfl rfl) :
    PSN X F0 (.Assign [.Name y py] (.ListComp elt [⟨tg, iter, ifs, 0⟩] scope pos) spos) i (tLc wi g tt te (own.map (·.2))) (nLc di dg dt de (own.map (·.2))) :=
  ⟨ps_setLc hc hN hy hyl hsw hi.pi ok (fun s H C cl fp => (hg s H C cl fp).pg) (fun s H C cl fp => (ht s H C cl fp).pts) (fun s H C cl fp => (he s H C cl fp).pe) hs,
    sim_lc hi.sim (hg X.s_0 F0.H 0 [] []).sim (ht X.s_0 F0.H 0 [] []).sim (he X.s_0 F0.H 0 [] []).sim⟩
end
/-- the list in the making at Dl; the rest from the start F1 S1 H1 on -/
structure LcJ (K : PySem.W.Frag) (F1 : Hp) (S1 : Store) (H1 : Hp) (Dl : Addr) (acc : List D) (F : Hp) (S : Store) (H : Hp) (ws : List V) : Prop where
  go : Go F1 S1 H1 F S (hdrop H Dl)
  hl : H Dl = some (.lst ws)
  fl : F Dl = none
  sl : S Dl = none
  sep : Sep K F S H
  r : Rps K F acc ws
section
variable {K : PySem.W.Frag} {F1 F F' : Hp} {S1 S S' : Store} {H1 H H' : Hp} {Dl : Addr} {acc : List D} {ws : List V}
theorem LcJ.init (s1 : Sep K F1 S1 H1) (hD : H1 Dl = none) : LcJ K F1 S1 H1 Dl [] F1 S1 (upd H1 Dl (.lst [])) [] := by
  have fD : F1 Dl = none := by
    cases z : F1 Dl with
    | none => rfl
    | some o => rw [s1.fz _ _ z] at hD; cases hD
  have sD : S1 Dl = none := by
    cases z : S1 Dl with
    | none => rfl
    | some o =>
      obtain ⟨_, o', z', _⟩ := s1.st _ _ z
      rw [z'] at hD; cases hD
  refine ⟨⟨Ext.refl _, fun a o h f q nt => ?_⟩, upd_same, fD, sD, ⟨fun a o h => ?_, fun a m h => ?_⟩, rps_mk_nil⟩
  · have ne : a ≠ Dl := fun z => by rw [z, hD] at h; cases h
    refine ⟨?_, f, q⟩
    unfold hdrop
    rw [if_neg ne, upd_ne ne]
    exact h
  · have ne : a ≠ Dl := fun z => by rw [z, fD] at h; cases h
    rw [upd_ne ne]; exact s1.fz a o h
  · have ne : a ≠ Dl := fun z => by rw [z, sD] at h; cases h
    obtain ⟨h1, o, h2, h3⟩ := s1.st a m h
    exact ⟨h1, o, by rw [upd_ne ne]; exact h2, h3⟩
theorem LcJ.step (j : LcJ K F1 S1 H1 Dl acc F S H ws) (g : Go F S H F' S' H') (s : Sep K F' S' H') : LcJ K F1 S1 H1 Dl acc F' S' H' ws := by
  obtain ⟨k1, k2, k3⟩ := g.2 Dl _ j.hl j.fl j.sl (fun _ => nofun)
  refine ⟨⟨j.go.1.trans g.1, fun a o h f q nt => ?_⟩, k1, k2, k3, s, Rps.mono g.1 _ _ j.r⟩
  obtain ⟨m1, m2, m3⟩ := j.go.2 a o h f q nt
  have ne : a ≠ Dl := fun z => by rw [z] at m1; unfold hdrop at m1; rw [if_pos rfl] at m1; cases m1
  unfold hdrop at m1
  rw [if_neg ne] at m1
  obtain ⟨p1, p2, p3⟩ := g.2 a o m1 m2 m3 nt
  refine ⟨?_, p2, p3⟩
  unfold hdrop
  rw [if_neg ne]
  exact p1
theorem LcJ.app (j : LcJ K F1 S1 H1 Dl acc F S H ws) {y : D} {v : V} (r : Rp K F y v) : LcJ K F1 S1 H1 Dl (acc ++ [y]) F S (upd H Dl (.lst (ws ++ [v]))) (ws ++ [v]) := by
  refine ⟨⟨j.go.1, fun a o h f q nt => ?_⟩, upd_same, j.fl, j.sl, ⟨fun a o h => ?_, fun a m h => ?_⟩, j.r.append (rps_mk r rps_mk_nil)⟩
  · obtain ⟨m1, m2, m3⟩ := j.go.2 a o h f q nt
    have ne : a ≠ Dl := fun z => by rw [z] at m1; unfold hdrop at m1; rw [if_pos rfl] at m1; cases m1
    refine ⟨?_, m2, m3⟩
    unfold hdrop at m1 ⊢
    rw [if_neg ne] at m1 ⊢
    rw [upd_ne ne]
    exact m1
  · have ne : a ≠ Dl := fun z => by rw [z, j.fl] at h; cases h
    rw [upd_ne ne]; exact j.sep.fz a o h
  · have ne : a ≠ Dl := fun z => by rw [z, j.sl] at h; cases h
    obtain ⟨h1, o, h2, h3⟩ := j.sep.st a m h
    exact ⟨h1, o, by rw [upd_ne ne]; exact h2, h3⟩
theorem LcJ.base {F0 : Bs} (j : LcJ K F1 S1 H1 Dl acc F S H ws) (hD : H1 Dl = none) (z : F0.to F1 S1 H1) : F0.to F S H := by
  refine ⟨z.1.trans j.go.1, fun a o h f q nt => ?_⟩
  obtain ⟨m1, m2, m3⟩ := z.2 a o h f q nt
  obtain ⟨p1, p2, p3⟩ := j.go.2 a o m1 m2 m3 nt
  have ne : a ≠ Dl := fun z => by rw [z, hD] at m1; cases m1
  unfold hdrop at p1
  rw [if_neg ne] at p1
  exact ⟨p1, p2, p3⟩
theorem LcJ.ext (j : LcJ K F1 S1 H1 Dl acc F S H ws) : Ext F1 F := j.go.1
theorem LcJ.done {F0 : Hp} {S0 : Store} {H0 : Hp} {Qd : List D → Store → Prop} {Q : VK} (j : LcJ K F1 S1 H1 Dl acc F S H ws) (lk : LkN K F0 S0 H0 Qd Q) (e1 : Go F0 S0 H0 F1 S1 H1) (q : Qd acc S) : Q (.ref Dl) H := by
  have eH : upd (hdrop H Dl) Dl (.lst ws) = H := by
    funext a
    by_cases h : a = Dl
    · rw [h, upd_same, j.hl]
    · rw [upd_ne h]
      unfold hdrop
      rw [if_neg h]
  have z := lk acc S ws F (hdrop H Dl) Dl q (e1.trans j.go) ⟨fun a o h => ?_, fun a m h => ?_⟩ j.r (by unfold hdrop; rw [if_pos rfl])
  · rw [eH] at z; exact z
  · have ne : a ≠ Dl := fun z => by rw [z, j.fl] at h; cases h
    unfold hdrop
    rw [if_neg ne]; exact j.sep.fz a o h
  · have ne : a ≠ Dl := fun z => by rw [z, j.sl] at h; cases h
    obtain ⟨h1, o, h2, h3⟩ := j.sep.st a m h
    refine ⟨h1, o, ?_, h3⟩
    unfold hdrop
    rw [if_neg ne]
    exact h2
end
/-- turns of a walk, by a word of the turn and the heap -/
theorem walk_by {J : It} {n : Nat} {G : Hp → Prop} {Y : Nat → Hp → V → Hp → Prop} (w : Walk J n G Y) {B : (Hp → Prop) → V → Hp → Prop} {E : Hp → Prop} {H0 : Hp} (Pv : Nat → Hp → Prop) (h0 : Pv 0 H0) (hG : ∀ i H, i ≤ n → Pv i H → G H)
    (hs : ∀ i x H H', i < n → Pv i H → Y i H x H' → B (Pv (i + 1)) x H') (hd : ∀ H, Pv n H → E H) :
    ∃ W : Nat → Nat → Hp → Prop, (∃ m, W 0 m H0) ∧ ∀ i m H, W i m H → (J.stop i H ∧ E H) ∨ (J.go i H ∧ ∃ Nx : Hp → Prop, (∀ H', Nx H' → ∃ m', m' < m ∧ W (i + 1) m' H') ∧ ∀ x H', J.yld i H x H' → B Nx x H') := by
  refine ⟨fun i m H => m = n - i ∧ i ≤ n ∧ Pv i H, ⟨n, by simp, Nat.zero_le _, h0⟩, ?_⟩
  rintro i m H ⟨rfl, hi, p⟩
  have q := hG i H hi p
  by_cases hlt : i < n
  · exact .inr ⟨w.goes i H hlt q, Pv (i + 1), fun H' p' => ⟨n - (i + 1), by omega, rfl, hlt, p'⟩, fun x H' y => hs i x H H' hlt p (w.yields i H x H' hlt q y)⟩
  · have e : i = n := by omega
    subst e
    exact .inl ⟨w.stops H q, hd H p⟩
def dLcL2 (g : DG) (tt : DT) (di1 : DI) (g1 : DG) (tt1 : DT) (te : DE) (vs1 : List Nat) (ρ0 : Env) (Q : List D → Store → Prop) : List D → List D → Store → Prop
  | [] => fun acc S => Q acc S
  | d :: ds => fun acc S => g d ρ0 S fun ρ1 S1 => tt ρ1 S1 fun b S2 => match b with
    | true => di1 ρ1 S2 fun ds1 S3 => dLcL g1 tt1 te (dwipe ρ1 vs1) (fun acc' S' => dLcL2 g tt di1 g1 tt1 te vs1 ρ0 Q ds acc' S') ds1 acc S3
    | false => dLcL2 g tt di1 g1 tt1 te vs1 ρ0 Q ds acc S2
def nLc2 (di : DI) (g : DG) (tt : DT) (di1 : DI) (g1 : DG) (tt1 : DT) (te : DE) (vs vs1 : List Nat) : DN := fun ρ S Q => di ρ S fun ds S1 => dLcL2 g tt di1 g1 tt1 te vs1 (dwipe ρ vs) Q ds [] S1
theorem drop_got {ds : List D} {i : Nat} {d : D} (hlt : i < ds.length) (hd : ds[i]? = some d) : ds.drop i = d :: ds.drop (i + 1) := by
  obtain ⟨_, e⟩ := List.getElem?_eq_some_iff.mp hd
  rw [List.drop_eq_getElem_cons hlt, e]
theorem sim_lc2 {K : PySem.W.Frag} {F0 : Bs} {wi wi1 : TI} {di di1 : DI} {g g1 : TG} {dg dg1 : DG} {tt tt1 : TT} {dt dt1 : DT} {te : TE} {de : DE} {vs vs1 : List Nat} (hi : SimI K F0 wi di) (hg : SimGv K F0 vs g dg) (ht : SimT K F0 tt dt) (hi1 : SimI K F0 wi1 di1) (hg1 : SimGv K F0 vs1 g1 dg1) (ht1 : SimT K F0 tt1 dt1) (he : SimE K F0 te de) :
    SimN K F0 (tLc2 wi g tt wi1 g1 tt1 te vs vs1) (nLc2 di dg dt di1 dg1 dt1 de vs vs1) := by
  intro σ ρ H F S Q Qd e0 s en lk q
  refine hi σ ρ H F S _ _ e0 s en ?_ q
  intro ds S1 J F1 H1 q1 e1 s1 wk Dl hD
  obtain ⟨G, Y, w, hG, hY⟩ := wk.ex
  have z0 : F0.to F1 S1 H1 := e0.trans e1
  refine walk_by w (fun i H' => ∃ acc S' F' ws, LcJ K F1 S1 H1 Dl acc F' S' H' ws ∧ dLcL2 dg dt di1 dg1 dt1 de vs1 (dwipe ρ vs) Qd (ds.drop i) acc S')
    ⟨[], S1, F1, [], LcJ.init s1 hD, by rw [List.drop_zero]; exact q1⟩ (fun i H' _ ⟨acc, S', F', ws, j, _⟩ => hG F' S' H' j.ext j.sep) ?_ ?_
  · rintro i x H' H2 hlt ⟨acc, S', F', ws, j, q'⟩ hy
    obtain ⟨F2, d, g2, s2, hd, r2⟩ := hY i H' x H2 F' S' hlt j.ext j.sep hy
    rw [drop_got hlt hd] at q'
    have j2 := j.step g2 s2
    refine hg x d (wipe σ vs) (dwipe ρ vs) H2 F2 S' _ _ (j2.base hD z0) s2 (((en.mono e1.1).wipe vs).mono j2.ext) r2 ?_ q'
    intro ρ3 S3 σ3 F3 H3 q3 e3 s3 en3 w3
    have j3 := j2.step e3 s3
    refine ⟨by rw [w3, wipe_wipe], ?_⟩
    refine ht σ3 ρ3 H3 F3 S3 _ _ (j3.base hD z0) s3 en3 ?_ q3
    intro b S4 F4 H4 q4 e4 s4
    have j4 := j3.step e4 s4
    cases b with
    | false => exact ⟨acc, S4, F4, ws, j4, q4⟩
    | true =>
      show wi1 σ3 H4 _
      refine hi1 σ3 ρ3 H4 F4 S4 _ _ (j4.base hD z0) s4 (en3.mono e4.1) ?_ q4
      intro ds1 S5 J1 F5 H5 q5 e5 s5 wk1
      have j5 := j4.step e5 s5
      obtain ⟨G1, Y1, w1, hG1, hY1⟩ := wk1.ex
      refine walk_by w1 (fun i1 H' => ∃ acc S' F' ws, LcJ K F1 S1 H1 Dl acc F' S' H' ws ∧ Ext F5 F' ∧ dLcL dg1 dt1 de (dwipe ρ3 vs1) (fun acc' S' => dLcL2 dg dt di1 dg1 dt1 de vs1 (dwipe ρ vs) Qd (ds.drop (i + 1)) acc' S') (ds1.drop i1) acc S')
        ⟨acc, S5, F5, ws, j5, Ext.refl _, by rw [List.drop_zero]; exact q5⟩ (fun i1 H' _ ⟨acc, S', F', ws, j, x5, _⟩ => hG1 F' S' H' x5 j.sep) ?_ ?_
      · rintro i1 x1 H' H2 hlt1 ⟨acc, S', F', ws, j, x5, q'⟩ hy1
        obtain ⟨F2, d, g2, s2, hd1, r2⟩ := hY1 i1 H' x1 H2 F' S' hlt1 x5 j.sep hy1
        rw [drop_got hlt1 hd1] at q'
        have j2 := j.step g2 s2
        refine hg1 x1 d (wipe σ3 vs1) (dwipe ρ3 vs1) H2 F2 S' _ _ (j2.base hD z0) s2 (((en3.mono e4.1).wipe vs1).mono (e5.1.trans (x5.trans g2.1))) r2 ?_ q'
        intro ρ6 S6 σ6 F6 H6 q6 e6 s6 en6 w6
        have j6 := j2.step e6 s6
        refine ⟨by rw [w6, wipe_wipe], ?_⟩
        refine ht1 σ6 ρ6 H6 F6 S6 _ _ (j6.base hD z0) s6 en6 ?_ q6
        intro b S7 F7 H7 q7 e7 s7
        have j7 := j6.step e7 s7
        cases b with
        | false => exact ⟨acc, S7, F7, ws, j7, ((x5.trans g2.1).trans e6.1).trans e7.1, q7⟩
        | true =>
          show te σ6 H7 _
          refine he σ6 ρ6 H7 F7 S7 _ _ (j7.base hD z0) s7 (en6.mono e7.1) ?_ q7
          intro y S8 v F8 H8 q8 e8 s8 r8
          have j8 := j7.step e8 s8
          exact ⟨ws, j8.hl, by rw [j8.r.length]; exact q8.1, acc ++ [y], S8, F8, ws ++ [v], j8.app r8, (((x5.trans g2.1).trans e6.1).trans e7.1).trans e8.1, q8.2⟩
      · rintro H' ⟨acc, S', F', ws, j, x5, q'⟩
        rw [List.drop_length] at q'
        exact ⟨acc, S', F', ws, j, q'⟩
  · rintro H' ⟨acc, S', F', ws, j, q'⟩
    rw [List.drop_length] at q'
    exact j.done lk e1 q'
section
variable {X : Cx} {F0 : Bs} {i : Nat} {y : Str} {py pos spos : Pos} {elt tg iter tg1 iter1 : Expr} {ifs ifs1 : List Expr} {scope : Scope} {own : List (Str × Nat)} {vs1 : List Nat} {wi wi1 : TI} {di di1 : DI} {g g1 : TG} {dg dg1 : DG} {tt tt1 : TT} {dt dt1 : DT} {te : TE} {de : DE}
theorem n_lc2 (own' : List (Str × Nat) := own) (vs' : List Nat := vs1) (hc : X.calm = true) (hN : X.N.Nodup) (ok : BlkOk X.N X.env.scope scope own) (hi : PDI X F0 tg iter wi di)
    (hg : ∀ (s : Shared) (H : Hp) (C : Addr) (cl : List (Str × Addr)) (fp : List Addr), PDGv (X.blk s H scope (compEnvC scope cl C X.env) fp) F0 (own.map (·.2)) tg g dg) (ht : ∀ (s : Shared) (H : Hp) (C : Addr) (cl : List (Str × Addr)) (fp : List Addr), PDTs (X.blk s H scope (compEnvC scope cl C X.env) fp) F0 ifs tt dt)
    (hi1 : ∀ (s : Shared) (H : Hp) (C : Addr) (cl : List (Str × Addr)) (fp : List Addr), PDI (X.blk s H scope (compEnvC scope cl C X.env) fp) F0 tg1 iter1 wi1 di1)
    (hg1 : ∀ (s : Shared) (H : Hp) (C : Addr) (cl : List (Str × Addr)) (fp : List Addr), PDGv (X.blk s H scope (compEnvC scope cl C X.env) fp) F0 vs1 tg1 g1 dg1) (ht1 : ∀ (s : Shared) (H : Hp) (C : Addr) (cl : List (Str × Addr)) (fp : List Addr), PDTs (X.blk s H scope (compEnvC scope cl C X.env) fp) F0 ifs1 tt1 dt1)
    (he : ∀ (s : Shared) (H : Hp) (C : Addr) (cl : List (Str × Addr)) (fp : List Addr), PD (X.blk s H scope (compEnvC scope cl C X.env) fp) F0 elt te de) (hv : ∀ i ∈ vs1, i ∈ own.map (·.2) := by decide) (hs : ∀ x, foldedSetIterable iter X.env x = pure x := by intro _; rfl) (hs1 : ∀ env x, foldedSetIterable iter1 env x = pure x := by intro _ _; rfl) :
    PN X F0 (.ListComp elt [⟨tg, iter, ifs, 0⟩, ⟨tg1, iter1, ifs1, 0⟩] scope pos) (tLc2 wi g tt wi1 g1 tt1 te (own.map (·.2)) vs1) (nLc2 di dg dt di1 dg1 dt1 de (own.map (·.2)) vs1) :=
  ⟨pe_lc2 hc hN hi.pi ok hv (fun s H C cl fp => (hg s H C cl fp).pg) (fun s H C cl fp => (ht s H C cl fp).pts) (fun s H C cl fp => (hi1 s H C cl fp).pi) (fun s H C cl fp => (hg1 s H C cl fp).pg) (fun s H C cl fp => (ht1 s H C cl fp).pts) (fun s H C cl fp => (he s H C cl fp).pe) hs hs1,
    sim_lc2 hi.sim (hg X.s_0 F0.H 0 [] []).sim (ht X.s_0 F0.H 0 [] []).sim (hi1 X.s_0 F0.H 0 [] []).sim (hg1 X.s_0 F0.H 0 [] []).sim (ht1 X.s_0 F0.H 0 [] []).sim (he X.s_0 F0.H 0 [] []).sim⟩
theorem n_setLc2 (i : Nat) (own' : List (Str × Nat) := own) (vs' : List Nat := vs1) (hc : X.calm = true) (hN : X.N.Nodup) (ok : BlkOk X.N X.env.scope scope own) (hi : PDI X F0 tg iter wi di)
    (hg : ∀ (s : Shared) (H : Hp) (C : Addr) (cl : List (Str × Addr)) (fp : List Addr), PDGv (X.blk s H scope (compEnvC scope cl C X.env) fp) F0 (own.map (·.2)) tg g dg) (ht : ∀ (s : Shared) (H : Hp) (C : Addr) (cl : List (Str × Addr)) (fp : List Addr), PDTs (X.blk s H scope (compEnvC scope cl C X.env) fp) F0 ifs tt dt)
    (hi1 : ∀ (s : Shared) (H : Hp) (C : Addr) (cl : List (Str × Addr)) (fp : List Addr), PDI (X.blk s H scope (compEnvC scope cl C X.env) fp) F0 tg1 iter1 wi1 di1)
    (hg1 : ∀ (s : Shared) (H : Hp) (C : Addr) (cl : List (Str × Addr)) (fp : List Addr), PDGv (X.blk s H scope (compEnvC scope cl C X.env) fp) F0 vs1 tg1 g1 dg1) (ht1 : ∀ (s : Shared) (H : Hp) (C : Addr) (cl : List (Str × Addr)) (fp : List Addr), PDTs (X.blk s H scope (compEnvC scope cl C X.env) fp) F0 ifs1 tt1 dt1)
    (he : ∀ (s : Shared) (H : Hp) (C : Addr) (cl : List (Str × Addr)) (fp : List Addr), PD (X.blk s H scope (compEnvC scope cl C X.env) fp) F0 elt te de) (hv : ∀ i ∈ vs1, i ∈ own.map (·.2) := by decide) (hs : ∀ x, foldedSetIterable iter X.env x = pure x := by intro _; rfl) (hs1 : ∀ env x, foldedSetIterable iter1 env x = pure x := by intro _ _; rfl)
    (hy : X.N[i]? = some y := by rfl) (hyl : X.env.scope.names.lookup y = some .local := by rfl) (hsw : swapsWith (.ListComp elt [⟨tg, iter, ifs, 0⟩, ⟨tg1, iter1, ifs1, 0⟩] scope pos) (some (.Name y py)) spos.line X.env = pure true := by exact sw_true rfl rfl rfl rfl) :
    PSN X F0 (.Assign [.Name y py] (.ListComp elt [⟨tg, iter, ifs, 0⟩, ⟨tg1, iter1, ifs1, 0⟩] scope pos) spos) i (tLc2 wi g tt wi1 g1 tt1 te (own.map (·.2)) vs1) (nLc2 di dg dt di1 dg1 dt1 de (own.map (·.2)) vs1) :=
  ⟨ps_setLc2 hc hN hy hyl hsw hi.pi ok hv (fun s H C cl fp => (hg s H C cl fp).pg) (fun s H C cl fp => (ht s H C cl fp).pts) (fun s H C cl fp => (hi1 s H C cl fp).pi) (fun s H C cl fp => (hg1 s H C cl fp).pg) (fun s H C cl fp => (ht1 s H C cl fp).pts) (fun s H C cl fp => (he s H C cl fp).pe) hs hs1,
    sim_lc2 hi.sim (hg X.s_0 F0.H 0 [] []).sim (ht X.s_0 F0.H 0 [] []).sim (hi1 X.s_0 F0.H 0 [] []).sim (hg1 X.s_0 F0.H 0 [] []).sim (ht1 X.s_0 F0.H 0 [] []).sim (he X.s_0 F0.H 0 [] []).sim⟩
end
end DL
set_option Elab.async false
set_option linter.all false
set_option maxRecDepth 100000
set_option maxHeartbeats 2000000
namespace DL
open PySem PySem.Spec L2
section
variable {K : PySem.W.Frag} {F : Hp}
theorem Rps.set : ∀ {ds : List D} {vs : List V} {i : Nat} {d : D} {v : V}, Rps K F ds vs → Rp K F d v → Rps K F (ds.set i d) (vs.set i v)
  | [], vs, i, d, v, h, r => by rw [rps_nil.mp h]; exact rps_mk_nil
  | x :: ds, vs, 0, d, v, h, r => by
    obtain ⟨w, us, rfl, _, h'⟩ := rps_cons.mp h
    exact rps_mk r h'
  | x :: ds, vs, i + 1, d, v, h, r => by
    obtain ⟨w, us, rfl, r1, h'⟩ := rps_cons.mp h
    exact rps_mk r1 (Rps.set h' r)
theorem Rps.erase : ∀ {ds : List D} {vs : List V} (n : Nat), Rps K F ds vs → Rps K F (ds.eraseIdx n) (vs.eraseIdx n)
  | [], vs, n, h => by rw [rps_nil.mp h]; exact rps_mk_nil
  | x :: ds, vs, 0, h => by
    obtain ⟨w, us, rfl, r1, h'⟩ := rps_cons.mp h
    exact h'
  | x :: ds, vs, n + 1, h => by
    obtain ⟨w, us, rfl, r1, h'⟩ := rps_cons.mp h
    exact rps_mk r1 (Rps.erase n h')
theorem Rps.dropLast {ds : List D} {vs : List V} (h : Rps K F ds vs) : Rps K F ds.dropLast vs.dropLast := by
  rw [List.dropLast_eq_take, List.dropLast_eq_take, h.length]
  exact h.take _
end
section
variable {X : Cx} {F0 : Bs} {e o : Expr} {es : List Expr} {to : TE} {t : TA} {do_ : DE} {da : DA} {pos apos cpos : Pos} {name : Str} {id : String} {r : V → List V → Hp → VK → Prop} {q : D → DRn}
def dBM (q : D → DRn) (do_ : DE) (da : DA) : DE := fun ρ S Q => do_ ρ S fun x S1 => (∃ a xs, x = .ref a ∧ S1 a = some (.lst xs)) ∧ da ρ S1 fun ds S2 => q x ds S2 Q
theorem sim_bm (hr : SimM X.K F0 r q) (ho : SimE X.K F0 to do_) (ha : SimA X.K F0 t da) : SimE X.K F0 (tBM X.K "list" r to t) (dBM q do_ da) := by
  intro σ ρ H F S Q Qd e0 s en lk h
  refine ho σ ρ H F S _ _ e0 s en ?_ h
  intro x S1 v F1 H1 q1 e1 s1 r1
  obtain ⟨⟨a, xs, rfl, ha1⟩, q1⟩ := q1
  have ev := rp_ref r1
  subst ev
  obtain ⟨_, ob, ho1, vs, rfl, _⟩ := s1.st a _ ha1
  refine ⟨.inl ⟨rfl, vs, .inl (.inl ho1)⟩, ha σ ρ H1 F1 S1 _ _ (e0.trans e1) s1 (en.mono e1.1) ?_ q1⟩
  intro ds S2 us F2 H2 q2 e2 s2 r2
  exact hr (.ref a) (.ref a) us ds H2 F2 S2 Q Qd ((e0.trans e1).trans e2) s2 rp_mk_ref r2 (lk.mono (e1.trans e2)) q2
theorem d_bm (slot : PySem.Slot "list" name id) (hty : typeOf (.builtin id) = pure (.type "method_descriptor")) (hm : MtR X id r) (hr : SimM X.K F0 r q) (ho : PD X F0 o to do_) (ha : PDA X F0 (e :: es) t da)
    (hbase : attributeBase o name X.env (eval o X.env) = eval o X.env := by rfl)
    (hfew : ((backTo cpos (starEach (e :: es) X.env)).all (fun x => !x.1) && (backToKw cpos (keywordEach [] X.env)).all (fun x => x.1.isSome)
      && decide ((e :: es).length + ([] : List Keyword).length + (if ([] : List Keyword).isEmpty then 0 else 1) < 30)) = true := by rfl)
    (hline : (apos.endLine == cpos.line) = true := by rfl) (hs : starEach (e :: es) X.env = (false, eval e X.env) :: starEach es X.env := by rfl) (hplain : (backTo cpos (starEach es X.env)).any (·.1) = false := by rfl) :
    PD X F0 (.Call (.Attribute o name apos) (e :: es) [] cpos) (tBM X.K "list" r to t) (dBM q do_ da) :=
  ⟨pe_bm F.plainAttrs_list slot hty hm ho.pe ha.pa hbase hfew hline hs hplain, sim_bm hr ho.sim ha.sim⟩
theorem d_bm0 (slot : PySem.Slot "list" name id) (hty : typeOf (.builtin id) = pure (.type "method_descriptor")) (hm : MtR X id r) (hr : SimM X.K F0 r q) (ho : PD X F0 o to do_)
    (hbase : attributeBase o name X.env (eval o X.env) = eval o X.env := by rfl) (hline : (apos.endLine == cpos.line) = true := by rfl) :
    PD X F0 (.Call (.Attribute o name apos) [] [] cpos) (tBM0 X.K "list" r to) (dBM q do_ dNil) := by
  refine ⟨pe_bm0 F.plainAttrs_list slot hty hm ho.pe hbase hline, ?_⟩
  intro σ ρ H F S Q Qd e0 s en lk h
  refine ho.sim σ ρ H F S _ _ e0 s en ?_ h
  intro x S1 v F1 H1 q1 e1 s1 r1
  obtain ⟨⟨a, xs, rfl, ha1⟩, q1⟩ := q1
  have ev := rp_ref r1
  subst ev
  obtain ⟨_, ob, ho1, vs, rfl, _⟩ := s1.st a _ ha1
  exact ⟨.inl ⟨rfl, vs, .inl (.inl ho1)⟩, hr (.ref a) (.ref a) [] [] H1 F1 S1 Q Qd (e0.trans e1) s1 rp_mk_ref rps_mk_nil (lk.mono e1) q1⟩
def oAppend : D → DRn := fun x ds S Q => match ds with | [y] => ∃ a xs, x = .ref a ∧ S a = some (.lst xs) ∧ xs.length < sizeLine ∧ Q .non (sup S a (.lst (xs ++ [y]))) | _ => False
theorem sim_append : SimM X.K F0 rAppend oAppend := by
  intro x dx xs ds H F S Q Qd e0 s rx rs lk h
  match ds, h, rs with
  | [y], h, rs =>
    obtain ⟨a, zs, rfl, h1, h2, h⟩ := h
    obtain ⟨v, rfl, rv⟩ := rps_1 rs
    obtain ⟨_, ob, ho1, vs, rfl, hv⟩ := s.st a _ h1
    exact ⟨a, vs, v, rp_ref rx, rfl, ho1, by rw [hv.length]; exact h2, lk _ _ _ F _ h (Go.put h1) (s.put h1 ⟨_, rfl, hv.append (rps_mk rv rps_mk_nil)⟩) rp_mk_non⟩
def oPop : D → DRn := fun x ds S Q => match ds with
  | [] => ∃ a xs y, x = .ref a ∧ S a = some (.lst xs) ∧ xs[xs.length - 1]? = some y ∧ Q y (sup S a (.lst xs.dropLast))
  | _ => False
theorem sim_pop : SimM X.K F0 rPop oPop := by
  intro x dx xs ds H F S Q Qd e0 s rx rs lk h
  match ds, h, rs with
  | [], h, rs =>
    obtain ⟨a, zs, y, rfl, h1, h2, h⟩ := h
    obtain ⟨_, ob, ho1, vs, rfl, hv⟩ := s.st a _ h1
    obtain ⟨v, hv1, hv2⟩ := hv.get h2
    exact ⟨a, vs, v, rp_ref rx, rps_nil.mp rs, ho1, by rw [hv.length]; exact hv1, lk _ _ _ F _ h (Go.put h1) (s.put h1 ⟨_, rfl, hv.dropLast⟩) hv2⟩
def oPopAt : D → DRn := fun x ds S Q => match ds with
  | [.int i] => ∃ a xs k y, x = .ref a ∧ S a = some (.lst xs) ∧ (-(2 ^ 63) ≤ i ∧ i < 2 ^ 63) ∧ seqIndex? i xs.length = some k ∧ xs[k]? = some y ∧ Q y (sup S a (.lst (xs.eraseIdx k)))
  | _ => False
theorem sim_popAt : SimM X.K F0 rPopAt oPopAt := by
  intro x dx xs ds H F S Q Qd e0 s rx rs lk h
  match ds, h, rs with
  | [.int i], h, rs =>
    obtain ⟨a, zs, k, y, rfl, h1, h2, h3, h4, h⟩ := h
    obtain ⟨u, rfl, ru⟩ := rps_1 rs
    have eu := rp_int ru
    subst eu
    obtain ⟨_, ob, ho1, vs, rfl, hv⟩ := s.st a _ h1
    obtain ⟨v, hv1, hv2⟩ := hv.get h4
    exact ⟨a, vs, i, k, v, rp_ref rx, rfl, ho1, h2.1, h2.2, by rw [hv.length]; exact h3, hv1, lk _ _ _ F _ h (Go.put h1) (s.put h1 ⟨_, rfl, hv.erase k⟩) hv2⟩
def oInsert : D → DRn := fun x ds S Q => match ds with
  | [.int i, y] => ∃ a xs, x = .ref a ∧ S a = some (.lst xs) ∧ xs.length < sizeLine ∧ (0 ≤ i ∧ i < 2 ^ 63) ∧ Q .non (sup S a (.lst (xs.take i.toNat ++ [y] ++ xs.drop i.toNat)))
  | _ => False
abbrev rInsert : V → List V → Hp → VK → Prop := fun x vs H Q => ∃ (l : Addr) (xs : List V) (i : Int) (y : V), x = .ref l ∧ vs = [.int i, y] ∧ H l = some (.lst xs) ∧ xs.length < sizeLine ∧ 0 ≤ i ∧ i < 2 ^ 63 ∧
    Q .non (upd H l (.lst (xs.take i.toNat ++ [y] ++ xs.drop i.toNat)))
theorem sim_insert : SimM X.K F0 rInsert oInsert := by
  intro x dx xs ds H F S Q Qd e0 s rx rs lk h
  match ds, h, rs with
  | [.int i, y], h, rs =>
    obtain ⟨a, zs, rfl, h1, h2, h3, h⟩ := h
    obtain ⟨u, v, rfl, ru, rv⟩ := rps_2 rs
    have eu := rp_int ru
    subst eu
    obtain ⟨_, ob, ho1, vs, rfl, hv⟩ := s.st a _ h1
    exact ⟨a, vs, i, v, rp_ref rx, rfl, ho1, by rw [hv.length]; exact h2, h3.1, h3.2, lk _ _ _ F _ h (Go.put h1) (s.put h1 ⟨_, rfl, ((hv.take _).append (rps_mk rv rps_mk_nil)).append (hv.drop _)⟩) rp_mk_non⟩
theorem d_append (ho : PD X F0 o to do_) (ha : PDA X F0 [e] t da) (hbase : attributeBase o "append" X.env (eval o X.env) = eval o X.env := by rfl) (hline : (apos.endLine == cpos.line) = true := by rfl)
    (hs : starEach [e] X.env = (false, eval e X.env) :: starEach [] X.env := by rfl)
    (hfew : ((backTo cpos (starEach [e] X.env)).all (fun x => !x.1) && (backToKw cpos (keywordEach [] X.env)).all (fun x => x.1.isSome)
      && decide ([e].length + ([] : List Keyword).length + (if ([] : List Keyword).isEmpty then 0 else 1) < 30)) = true := by rfl) :
    PD X F0 (.Call (.Attribute o "append" apos) [e] [] cpos) (tBM X.K "list" rAppend to t) (dBM oAppend do_ da) :=
  d_bm F.slot_list_append rfl (fun pins s σ H x xs v us Q I r1 r2 h => mt_append pins s σ H x xs v us Q I r1 r2 h) sim_append ho ha hbase hfew hline hs rfl
theorem d_pop (ho : PD X F0 o to do_) (hbase : attributeBase o "pop" X.env (eval o X.env) = eval o X.env := by rfl) (hline : (apos.endLine == cpos.line) = true := by rfl) :
    PD X F0 (.Call (.Attribute o "pop" apos) [] [] cpos) (tBM0 X.K "list" rPop to) (dBM oPop do_ dNil) :=
  d_bm0 F.slot_list_pop rfl (fun pins s σ H x xs v us Q I r1 r2 h => mt_pop pins s σ H x xs v us Q I r1 r2 h) sim_pop ho hbase hline
theorem d_popAt (ho : PD X F0 o to do_) (ha : PDA X F0 [e] t da) (hbase : attributeBase o "pop" X.env (eval o X.env) = eval o X.env := by rfl) (hline : (apos.endLine == cpos.line) = true := by rfl)
    (hs : starEach [e] X.env = (false, eval e X.env) :: starEach [] X.env := by rfl)
    (hfew : ((backTo cpos (starEach [e] X.env)).all (fun x => !x.1) && (backToKw cpos (keywordEach [] X.env)).all (fun x => x.1.isSome)
      && decide ([e].length + ([] : List Keyword).length + (if ([] : List Keyword).isEmpty then 0 else 1) < 30)) = true := by rfl) :
    PD X F0 (.Call (.Attribute o "pop" apos) [e] [] cpos) (tBM X.K "list" rPopAt to t) (dBM oPopAt do_ da) :=
  d_bm F.slot_list_pop rfl (fun pins s σ H x xs v us Q I r1 r2 h => mt_popAt pins s σ H x xs v us Q I r1 r2 h) sim_popAt ho ha hbase hfew hline hs rfl
theorem d_insert {e2 : Expr} (ho : PD X F0 o to do_) (ha : PDA X F0 [e, e2] t da) (hbase : attributeBase o "insert" X.env (eval o X.env) = eval o X.env := by rfl) (hline : (apos.endLine == cpos.line) = true := by rfl)
    (hs : starEach [e, e2] X.env = (false, eval e X.env) :: starEach [e2] X.env := by rfl) (hplain : (backTo cpos (starEach [e2] X.env)).any (·.1) = false := by rfl)
    (hfew : ((backTo cpos (starEach [e, e2] X.env)).all (fun x => !x.1) && (backToKw cpos (keywordEach [] X.env)).all (fun x => x.1.isSome)
      && decide ([e, e2].length + ([] : List Keyword).length + (if ([] : List Keyword).isEmpty then 0 else 1) < 30)) = true := by rfl) :
    PD X F0 (.Call (.Attribute o "insert" apos) [e, e2] [] cpos) (tBM X.K "list" rInsert to t) (dBM oInsert do_ da) :=
  d_bm F.slot_list_insert rfl mt_insert sim_insert ho ha hbase hfew hline hs hplain
end
abbrev DSt := D → D → D → Store → (Store → Prop) → Prop
def SimSt (K : PySem.W.Frag) (F0 : Bs) (t : TSet) (o : DSt) : Prop := ∀ x i v dx di dv H F S (Q : Hp → Prop) (Qd : Store → Prop), F0.to F S H → Sep K F S H → Rp K F dx x → Rp K F di i → Rp K F dv v →
  (∀ S' F' H', Qd S' → Go F S H F' S' H' → Sep K F' S' H' → Q H') → o dx di dv S Qd → t x i v H Q
/-- a store's rule at both levels -/
structure DStR (X : Cx) (F0 : Bs) (t : TSet) (o : DSt) : Prop where
  st : PSet X t
  sim : SimSt X.K F0 t o
def oSetL : DSt := fun x i v S Q => match i with
  | .int k => ∃ a xs j, x = .ref a ∧ S a = some (.lst xs) ∧ ixN xs.length k = some j ∧ Q (sup S a (.lst (xs.set j v)))
  | _ => False
section
variable {X : Cx} {F0 : Bs} {o i : Expr} {to ti : TE} {do_ di : DE} {pos : Pos} {t : TSet} {q : DSt}
theorem sim_setL : SimSt X.K F0 rSetL oSetL := by
  intro x i v dx di dv H F S Q Qd e0 s rx ri rv lk h
  cases di with
  | int k =>
    obtain ⟨a, xs, j, rfl, h1, h2, h⟩ := h
    obtain ⟨_, ob, ho1, vs, rfl, hv⟩ := s.st a _ h1
    exact ⟨a, vs, k, j, rp_ref rx, rp_int ri, ho1, by rw [hv.length]; exact h2, lk _ F _ h (Go.put h1) (s.put h1 ⟨_, rfl, hv.set rv⟩)⟩
  | _ => exact h.elim
theorem st_list : DStR X F0 rSetL oSetL := ⟨set_list, sim_setL⟩
def dgSub (q : DSt) (do_ di : DE) : DG := fun d ρ S Q => do_ ρ S fun x S1 => di ρ S1 fun y S2 => q x y d S2 fun S3 => Q ρ S3
theorem g_sub (hq : DStR X F0 t q) (ho : PD X F0 o to do_) (hi : PD X F0 i ti di)
    (ha : ∀ v, assign (.Subscript o i pos) X.env v = (do
      let ov ← holding [v] (eval o X.env)
      let iv ← holding [v, ov] (eval i X.env)
      standAt pos
      holding [v, ov, iv] (setItem ov iv v)
      release [v, ov, iv] []) := by intro _; rfl) : PDG X F0 (.Subscript o i pos) (gSub to ti t) (dgSub q do_ di) := by
  refine ⟨pg_sub ho.pe hi.pe hq.st ha, ?_⟩
  intro v d σ ρ H F S Q Qd e0 s en r lk h
  refine ho.sim σ ρ H F S _ _ e0 s en ?_ h
  intro x S1 u F1 H1 q1 e1 s1 r1
  refine hi.sim σ ρ H1 F1 S1 _ _ (e0.trans e1) s1 (en.mono e1.1) ?_ q1
  intro y S2 w F2 H2 q2 e2 s2 r2
  refine hq.sim u w v x y d H2 F2 S2 _ _ ((e0.trans e1).trans e2) s2 (Rp.mono e2.1 _ _ r1) r2 (Rp.mono (e1.trans e2).1 _ _ r) ?_ q2
  intro S3 F3 H3 q3 e3 s3
  exact lk ρ S3 σ F3 H3 q3 ((e1.trans e2).trans e3) s3 (en.mono ((e1.trans e2).trans e3).1)
end
end DL
set_option Elab.async false
set_option linter.all false
set_option maxRecDepth 100000
set_option maxHeartbeats 2000000
namespace DL
open PySem PySem.Spec L2 PyProof.Rows
def Iit (d : Addr) (o : Obj) (kvs : List (List Key × V)) : It :=
  ⟨fun i H => H d = some (.frz o (.dT kvs)) ∧ i < kvs.length, fun i H x H' => ∃ T k v q, kvs[i]? = some (k, v) ∧ x = .ref T ∧ H T = none ∧ H q = some (.tup (k.map kV)) ∧ H' = upd H T (.tup [.ref q, v]), fun i H => H d = some (.frz o (.dT kvs)) ∧ kvs.length ≤ i⟩
section
variable {X : Cx} {pins : List (Addr × Obj)} {σ : L2.St} {H : Hp} {s : Shared} {d : Addr} {o : Obj}
theorem frzT2 {kvs : List (List Key × V)} (I : Inv X pins σ H s) (h : H d = some (.frz o (.dT kvs))) :
    (d == sysModules) = false ∧ s.heap.get? d = some o ∧ o.ExactDict ∧ ∃ (es : Array DictEntry) (ep : Nat), o.data = .dict es ep ∧ es.size = kvs.length ∧
      ∀ (i : Nat) (k : List Key) (v : V), kvs[i]? = some (k, v) → ∃ (en : DictEntry) (q : Addr), es[i]? = some en ∧ en.key = .ref q ∧ H q = some (.tup (k.map kV)) ∧ RelV v en.val := by
  obtain ⟨hd, z, hs, xs, pr, o', es, ep, ho, hx, hdt, he, _⟩ := I.hok d _ h
  rw [hd] at ho
  cases ho
  refine ⟨hs, hd, hx, es, ep, hdt, ?_, fun i k v e => ?_⟩
  · have l1 : es.size = xs.length := size_of_entries he
    have l2 : kvs.length = xs.length := Paired.length pr
    omega
  · obtain ⟨b, hb, e1, e2, e3⟩ := paired_get pr e
    have q := entry_at he i
    rw [hb] at q
    exact ⟨_, b.2.1, q, rfl, e2, e3⟩
theorem turn_itT {P : Program} {w : World} {K : PySem.W.Frag} {es : Array DictEntry} {ep : Nat} {kvs : List (List Key × V)} {elts : List Expr} {kk : Nat} {tpos : Pos} (it : Addr) (hod : o.data = .dict es ep) :
    Turn P w K (.Tuple elts kk tpos) (Iit d o kvs) [it] it (fun i h => ∃ ok ov, IsItemIter h it d i kvs.length ep ok ov) where
  mem := by simp
  obj := fun i h st b hb => by
    have e : b = it := by simpa using hb
    subst e
    obtain ⟨ok, ov, e⟩ := st
    exact ⟨_, e, fun v z => nomatch z⟩
  keep := fun i h h' st k => let ⟨ok, ov, e⟩ := st; ⟨ok, ov, k it (by simp) _ e⟩
  item := by
    intro X hP hw hK hc i pins s σ H E I hf st hg
    subst hP hw hK
    obtain ⟨hd, hi⟩ := hg
    obtain ⟨hs, hgd, hx, es', ep', hdt, hsz, ent⟩ := frzT2 I hd
    obtain ⟨rfl, rfl⟩ := dict_ep hod hdt
    obtain ⟨⟨k, v⟩, hkv⟩ : ∃ p, kvs[i]? = some p := ⟨kvs[i], List.getElem?_eq_getElem hi⟩
    obtain ⟨en, q, hen, hkey, hq, ru⟩ := ent i k v hkv
    obtain ⟨ok, ov, he⟩ := st
    rw [← hsz] at he
    have hlt : it < s.heap.objs.size := Heap.lt_size he
    have hi' : i < es'.size := by rw [hsz]; exact hi
    have hen' : es'[i] = en := by rw [Array.getElem?_eq_getElem hi'] at hen; exact Option.some.inj hen
    refine DT.nextI he ⟨o, hgd, hx, hdt⟩ hi' fun h' ho hT hz hk => ?_
    rw [hen'] at ho hT
    refine ⟨_, rfl, wpAny_letOwnedTupleGo_items (s := { s with heap := h' }) ho fun h'' he' sb => ?_⟩
    have hT2 : h''.get? s.heap.objs.size = some { cls := .type "tuple", data := .seq #[en.key, en.val] } := (sb.2 _ (Nat.ne_of_gt hlt)).trans hT
    have new : ObjOk X.prog X.w (upd H s.heap.objs.size (.tup [.ref q, v])) h'' s.heap.objs.size (.tup [.ref q, v]) :=
      ⟨by show 2 ≤ sizeLine; decide, [en.key, en.val], .cons hkey (.cons ru .nil), ⟨_, hT2, rfl, _, rfl⟩⟩
    have I1 : Inv X pins σ (upd H s.heap.objs.size (.tup [.ref q, v])) { s with heap := h'' } :=
      I.turnedNew (t' := s.toks) (ch := [it]) (fun b ob hb e => (sb.2 b (by simpa using hb)).trans (hk b ob (by simpa using hb) e)) hf (Nat.le_refl _) new
    refine ⟨.ref s.heap.objs.size, _, I1, rfl, ⟨_, k, v, q, hkv, rfl, I.hok.fresh (Nat.le_refl _), hq, rfl⟩, ⟨en.key, en.val, ?_⟩, fun b hb => ?_⟩
    · rw [← hsz]; exact he'
    · have e : b = it := by simpa using hb
      rw [e, upd_ne (Nat.ne_of_lt hlt)]
      exact (hf it (by simp)).1
  done := by
    intro X hP hw hK hc i pins s σ H E I hf st hg
    subst hP hw hK
    obtain ⟨hd, hi⟩ := hg
    obtain ⟨f0, f1, f2, f3, f4, f5⟩ := hf it (by simp)
    obtain ⟨hs, hgd, hx, es', ep', hdt, hsz, ent⟩ := frzT2 I hd
    obtain ⟨rfl, rfl⟩ := dict_ep hod hdt
    obtain ⟨ok, ov, he⟩ := st
    rw [← hsz] at he
    exact DT.endI (I.ok.hd hc) he ⟨o, hgd, hx, hdt⟩ (by omega) fun h' eb => ⟨rfl, I.turned (t' := s.toks) (fun b ob hb e => eb b ob hb e) f0 f1 f3 f4 f5⟩
  self := fun A i s Q E st h => let ⟨_, _, e⟩ := st; PySem.W.kcp_self e h
end
/-- a dict of either kind, locked -/
def iItms (td : TE) : TI := fun σ H R => td σ H fun x H1 => ∃ d o, x = .ref d ∧ ((∃ kvs, H1 d = some (.frz o (.dK kvs)) ∧ R (Iti d o kvs) H1) ∨ ∃ kvs, H1 d = some (.frz o (.dT kvs)) ∧ R (Iit d o kvs) H1)
section
variable {X : Cx} {tg e : Expr} {td : TE} {apos cpos : Pos}
theorem pi_itms {elts : List Expr} {kk : Nat} {tpos : Pos} (he : PE X e td) (hbase : attributeBase e "items" X.env (eval e X.env) = eval e X.env := by rfl) (hline : (apos.endLine == cpos.line) = true := by rfl) :
    PI X (.Tuple elts kk tpos) (.Call (.Attribute e "items" apos) [] [] cpos) (iItms td) := by
  refine ⟨fun pins s σ H R I h => ?_⟩
  refine wpAny_Call_method (T := "dict") (id := "dict.items") hbase rfl hline F.plainAttrs_dict F.slot_dict_items F.type_dict_items (thn (he.run pins s σ H _ I h) fun u s1 ⟨x, H1, I1, rx, d, o, ex, q⟩ => ?_)
  subst ex
  obtain rfl : u = Value.ref d := rx
  rcases q with ⟨kvs, hd, q⟩ | ⟨kvs, hd, q⟩
  · obtain ⟨hs, hgd, hx, es, ep, vs, hdt, hsz, kv, hm⟩ := I1.frzK hd
    have hl : kvs.length = vs.length := Paired.length kv
    refine ⟨hm.dictOf.typeIs, hm.dictOf.mapOf.noDict, ?_⟩
    have I2 : Inv X pins σ H1 { s1 with heap := s1.heap.push { cls := .type "dict_items", data := .fields #[.ref d] } } := I1.kept (t' := s1.toks) fun b ob q => Heap.get?_push_of_some _ q
    have fin : wpAny (model X.prog X.w) X.A (pyIter (.ref s1.heap.objs.size)) (PIE X pins σ (.Tuple elts kk tpos) R) X.xe { s1 with heap := s1.heap.push { cls := .type "dict_items", data := .fields #[.ref d] } } := by
      refine wpAny_pyIter_items (d := d) (knd := mixKind X.prog X.w) ⟨_, Heap.get?_push_size _ rfl, rfl, rfl⟩ (hm.push _) (pi_one (tk := s1.toks) I2 _ (turn_items _ hdt) ⟨.none, .none, ?_⟩ q)
      rw [hl]
      exact Heap.get?_push_size _ rfl
    show wpAny _ _ (callWith cpos (.builtin "dict.items") [.ref d] [] []) _ X.xe s1
    exact method_meetsIn F.slot_dict_items F.entry_dict_items rfl (PySem.evalArgs_none ⟨rfl, hm.dictOf.typeIs, F.args_dict_items_1 _, _, meets_dict_items (mixKind X.prog X.w) d hs, ⟨vs, hm.dictOf⟩, fin⟩)
  · obtain ⟨hs, hgd, hx, es, ep, hdt, hsz, ent⟩ := frzT2 I1 hd
    have rw0 : DT.Raw s1.heap d es ep := ⟨o, hgd, hx, hdt⟩
    refine ⟨rw0.typeIs, fun a ea => by cases ea; exact ⟨o, hgd, hx.2.1⟩, ?_⟩
    have I2 : Inv X pins σ H1 { s1 with heap := s1.heap.push { cls := .type "dict_items", data := .fields #[.ref d] } } := I1.kept (t' := s1.toks) fun b ob q => Heap.get?_push_of_some _ q
    show wpAny _ _ (callWith cpos (.builtin "dict.items") [.ref d] [] []) _ X.xe s1
    refine PySem.Calls.callWith_builtin rfl (PySem.evalArgs_none ?_)
    refine DT.callItems hs rw0 ?_
    refine DT.iterI (d := d) ⟨_, Heap.get?_push_size _ rfl, rfl, rfl⟩ (rw0.push _) (pi_one (tk := s1.toks) I2 _ (turn_itT _ hdt) ⟨.none, .none, ?_⟩ q)
    rw [hsz]
    exact Heap.get?_push_size _ rfl
/-- the dict is locked from here on -/
def tLk (td : TE) : TE := fun σ H Q => td σ H fun x H1 => ∃ d, x = .ref d ∧ ((∃ od u, H1 d = some (.frz od u) ∧ Q x H1) ∨ ∃ u, H1 d = some u ∧ Mut (some u) ∧ ∀ od, Q x (upd H1 d (.frz od u)))
theorem pe_lk (he : PE X e td) : PE X e (tLk td) := by
  refine ⟨fun pins s σ H Q I h => ?_⟩
  refine thn (he.run pins s σ H _ I h) fun u s1 ⟨x, H1, I1, rx, d, ex, q⟩ => ?_
  rcases q with ⟨od, w, hd, q⟩ | ⟨w, hd, mu, q⟩
  · exact ⟨x, H1, I1, rx, q⟩
  · obtain ⟨od, I2⟩ := I1.lock hd mu
    exact ⟨x, _, I2, rx, q od⟩
end
end DL
set_option Elab.async false
set_option linter.all false
set_option maxRecDepth 100000
set_option maxHeartbeats 2000000
namespace DL
open PySem PySem.Spec L2
section
variable {K : PySem.W.Frag} {F : Hp} {S : Store} {H : Hp}
theorem rp_kD : ∀ (k : Key), Rp K F (kD k) (kV k)
  | .inl i => rp_mk_int
  | .inr s => rp_mk_str
theorem rps_kD : ∀ (ks : List Key), Rps K F (ks.map kD) (ks.map kV)
  | [] => rps_mk_nil
  | k :: ks => rps_mk (rp_kD k) (rps_kD ks)
theorem rpK_at : ∀ {ds : List (Key × D)} {ws : List (Key × V)} {i : Nat} {k : Key} {v : V}, RpK K F ds ws → ws[i]? = some (k, v) → ∃ d, ds[i]? = some (k, d) ∧ Rp K F d v
  | [], ws, i, k, v, h, e => by rw [rpK_nil.mp h] at e; simp at e
  | (j, d) :: ds, ws, 0, k, v, h, e => by
    obtain ⟨w, us, rfl, r, q⟩ := rpK_cons.mp h
    simp at e
    obtain ⟨rfl, rfl⟩ := e
    exact ⟨d, rfl, r⟩
  | (j, d) :: ds, ws, i + 1, k, v, h, e => by
    obtain ⟨w, us, rfl, r, q⟩ := rpK_cons.mp h
    exact rpK_at (i := i) q (by simpa using e)
theorem rpT_at : ∀ {ds : List (List Key × D)} {ws : List (List Key × V)} {i : Nat} {k : List Key} {v : V}, RpT K F ds ws → ws[i]? = some (k, v) → ∃ d, ds[i]? = some (k, d) ∧ Rp K F d v
  | [], ws, i, k, v, h, e => by rw [rpT_nil.mp h] at e; simp at e
  | (j, d) :: ds, ws, 0, k, v, h, e => by
    obtain ⟨w, us, rfl, r, q⟩ := rpT_cons.mp h
    simp at e
    obtain ⟨rfl, rfl⟩ := e
    exact ⟨d, rfl, r⟩
  | (j, d) :: ds, ws, i + 1, k, v, h, e => by
    obtain ⟨w, us, rfl, r, q⟩ := rpT_cons.mp h
    exact rpT_at (i := i) q (by simpa using e)
theorem dcor_dK {o : HO} {ws : List (Key × V)} (h : dcor o = .dK ws) : o = .dK ws ∨ ∃ b, o = .frz b (.dK ws) := by
  unfold dcor at h
  split at h
  · cases h; exact .inr ⟨_, rfl⟩
  · cases h
  · exact .inl h
theorem dcor_dT {o : HO} {ws : List (List Key × V)} (h : dcor o = .dT ws) : o = .dT ws ∨ ∃ b, o = .frz b (.dT ws) := by
  unfold dcor at h
  split at h
  · cases h
  · cases h; exact .inr ⟨_, rfl⟩
  · exact .inl h
theorem Sep.lockd (s : Sep K F S H) {p : Addr} {o o' : HO} (hF : F p = some o) (hc : dcor o' = dcor o) (hn : ∀ b u, o ≠ .frz b u) : Go F S H (upd F p o') S (upd H p o') ∧ Sep K (upd F p o') S (upd H p o') := by
  have hx : Ext F (upd F p o') := fun a u h => by
    by_cases e : a = p
    · subst e
      rw [hF] at h
      cases h
      exact ⟨o', upd_same, hc, fun b u q => absurd q (hn b u)⟩
    · exact ⟨u, by rw [upd_ne e]; exact h, rfl, fun _ _ _ => rfl⟩
  have hS : S p = none := by
    cases z : S p with
    | none => rfl
    | some m => obtain ⟨h1, _⟩ := s.st p m z; rw [hF] at h1; cases h1
  refine ⟨⟨hx, fun a u h f g nt => ?_⟩, ⟨fun a u h => ?_, fun a m h => ?_⟩⟩
  · have e : a ≠ p := fun z => by subst z; rw [hF] at f; cases f
    exact ⟨by rw [upd_ne e]; exact h, by rw [upd_ne e]; exact f, g⟩
  · by_cases e : a = p
    · subst e; rw [upd_same] at h ⊢; exact h
    · rw [upd_ne e] at h ⊢; exact s.fz a u h
  · obtain ⟨h1, u, h2, h3⟩ := s.st a m h
    have e : a ≠ p := fun z => by subst z; rw [hS] at h; cases h
    exact ⟨by rw [upd_ne e]; exact h1, u, by rw [upd_ne e]; exact h2, h3.mono hx⟩
/-- a tuple of the heap is had among what is frozen -/
theorem Sep.had (s : Sep K F S H) {q : Addr} {vs : List V} (hq : H q = some (.tup vs)) : ∃ F', Go F S H F' S H ∧ Sep K F' S H ∧ F' q = some (.tup vs) := by
  cases hF : F q with
  | none =>
    obtain ⟨a, b⟩ := s.adopt hq hF
    exact ⟨_, a, b, upd_same⟩
  | some o =>
    have z := s.fz q o hF
    rw [hq] at z
    cases z
    exact ⟨F, Go.rfl, s, hF⟩
theorem Sep.hadAll (s : Sep K F S H) : ∀ {kvs : List (List Key × V)} {bs : List Addr}, IsKeys H kvs bs → ∃ F', Go F S H F' S H ∧ Sep K F' S H ∧ Rps K F' (kvs.map fun p => .tup (p.1.map kD)) (bs.map V.ref)
  | [], [], h => ⟨F, Go.rfl, s, rps_mk_nil⟩
  | kv :: kvs, b :: bs, h => by
    cases h with
    | cons h1 h2 =>
      obtain ⟨F1, g1, s1, r1⟩ := s.hadAll (kvs := kvs) (bs := bs) h2
      obtain ⟨F2, g2, s2, q⟩ := s1.had h1
      exact ⟨F2, g1.trans g2, s2, rps_mk (rp_mk_tup q (rps_kD _)) (Rps.mono g2.1 _ _ r1)⟩
  | kv :: kvs, [], h => by cases h
  | [], b :: bs, h => by cases h
theorem wk_keysK {d : Addr} {o : Obj} {kvs : List (Key × D)} {ws : List (Key × V)} (h : F d = some (.frz o (.dK ws))) (r : RpK K F kvs ws) : Wk K F (Itk d o ws) (kvs.map fun p => kD p.1) := by
  refine ⟨_, _, by rw [List.length_map, ← rpK_len r]; exact walk_keys (kvs := ws), fun F' S' H' e s => s.fz _ _ (e.lockK h), ?_⟩
  intro i H1 x H2 F1 S1 hi e s y
  obtain ⟨rfl, k, v, h1, rfl⟩ := y
  obtain ⟨u, g1, g2⟩ := rpK_at r h1
  exact ⟨F1, kD k, Go.rfl, s, by rw [List.getElem?_map, g1] <;> rfl, rp_kD k⟩
theorem wk_keysT {d : Addr} {o : Obj} {kvs : List (List Key × D)} {ws : List (List Key × V)} (h : F d = some (.frz o (.dT ws))) (r : RpT K F kvs ws) : Wk K F (Itkt d o ws) (kvs.map fun p => .tup (p.1.map kD)) := by
  refine ⟨_, _, by rw [List.length_map, ← rpT_len r]; exact walk_keysT (kvs := ws), fun F' S' H' e s => s.fz _ _ (e.lockK h), ?_⟩
  intro i H1 x H2 F1 S1 hi e s y
  obtain ⟨rfl, k, v, q, h1, rfl, hq⟩ := y
  obtain ⟨u, g1, g2⟩ := rpT_at r h1
  obtain ⟨F2, go, s2, hq2⟩ := s.had hq
  exact ⟨F2, .tup (k.map kD), go, s2, by rw [List.getElem?_map, g1] <;> rfl, rp_mk_tup hq2 (rps_kD k)⟩
theorem wk_valsK {d : Addr} {o : Obj} {kvs : List (Key × D)} {ws : List (Key × V)} (h : F d = some (.frz o (.dK ws))) (r : RpK K F kvs ws) : Wk K F (Itd d o ws) (kvs.map fun p => p.2) := by
  refine ⟨_, _, by rw [List.length_map, ← rpK_len r]; exact walk_values (kvs := ws), fun F' S' H' e s => s.fz _ _ (e.lockK h), ?_⟩
  intro i H1 x H2 F1 S1 hi e s y
  obtain ⟨rfl, k, h1⟩ := y
  obtain ⟨u, g1, g2⟩ := rpK_at r h1
  exact ⟨F1, u, Go.rfl, s, by rw [List.getElem?_map, g1] <;> rfl, Rp.mono e _ _ g2⟩
theorem wk_itemsK {d : Addr} {o : Obj} {kvs : List (Key × D)} {ws : List (Key × V)} (h : F d = some (.frz o (.dK ws))) (r : RpK K F kvs ws) : Wk K F (Iti d o ws) (kvs.map fun p => .tup [kD p.1, p.2]) := by
  refine ⟨fun H => H d = some (.frz o (.dK ws)), (Iti d o ws).yld, by rw [List.length_map, ← rpK_len r]; exact ⟨fun _ _ hi q => ⟨q, hi⟩, fun _ q => ⟨q, Nat.le_refl _⟩, fun _ _ _ _ _ _ y => y⟩, fun F' S' H' e s => s.fz _ _ (e.lockK h), ?_⟩
  intro i H1 x H2 F1 S1 hi e s y
  obtain ⟨T, k, v, h1, rfl, hT, rfl⟩ := y
  obtain ⟨u, g1, g2⟩ := rpK_at r h1
  obtain ⟨x1, x2⟩ := s.new (o := .tup [kV k, v]) hT
  exact ⟨_, .tup [kD k, u], Go.new s hT, x2, by rw [List.getElem?_map, g1] <;> rfl, rp_mk_tup upd_same (rps_mk (rp_kD k) (rps_mk (Rp.mono (e.trans x1) _ _ g2) rps_mk_nil))⟩
theorem wk_itemsT {d : Addr} {o : Obj} {kvs : List (List Key × D)} {ws : List (List Key × V)} (h : F d = some (.frz o (.dT ws))) (r : RpT K F kvs ws) : Wk K F (Iit d o ws) (kvs.map fun p => .tup [.tup (p.1.map kD), p.2]) := by
  refine ⟨fun H => H d = some (.frz o (.dT ws)), (Iit d o ws).yld, by rw [List.length_map, ← rpT_len r]; exact ⟨fun _ _ hi q => ⟨q, hi⟩, fun _ q => ⟨q, Nat.le_refl _⟩, fun _ _ _ _ _ _ y => y⟩, fun F' S' H' e s => s.fz _ _ (e.lockK h), ?_⟩
  intro i H1 x H2 F1 S1 hi e s y
  obtain ⟨T, k, v, q, h1, rfl, hT, hq, rfl⟩ := y
  obtain ⟨u, g1, g2⟩ := rpT_at r h1
  obtain ⟨F2, go, s2, hq2⟩ := s.had hq
  obtain ⟨x1, x2⟩ := s2.new (o := .tup [.ref q, v]) hT
  exact ⟨_, .tup [.tup (k.map kD), u], go.trans (Go.new s2 hT), x2, by rw [List.getElem?_map, g1] <;> rfl, rp_mk_tup upd_same (rps_mk (Rp.mono x1 _ _ (rp_mk_tup hq2 (rps_kD k))) (rps_mk (Rp.mono ((e.trans go.1).trans x1) _ _ g2) rps_mk_nil))⟩
/-- a dict that is data is locked -/
theorem lk_dK {kvs : List (Key × D)} {v : V} {P : V → Hp → Prop} (s : Sep K F S H) (r : Rp K F (.dK kvs) v)
    (h : ∀ p od ws F' H', v = .ref p → Go F S H F' S H' → Sep K F' S H' → F' p = some (.frz od (.dK ws)) → RpK K F' kvs ws → P v H') :
    ∃ d, v = .ref d ∧ ((∃ od u, H d = some (.frz od u) ∧ P v H) ∨ ∃ u, H d = some u ∧ Mut (some u) ∧ ∀ od, P v (upd H d (.frz od u))) := by
  unfold Rp at r
  obtain ⟨p, ws, rfl, ⟨o, h1, h2⟩, h3⟩ := r
  refine ⟨p, rfl, ?_⟩
  rcases dcor_dK h2 with rfl | ⟨b, rfl⟩
  · refine .inr ⟨_, s.fz _ _ h1, True.intro, fun od => ?_⟩
    obtain ⟨g, s2⟩ := s.lockd (o' := .frz od (.dK ws)) h1 rfl (fun _ _ => nofun)
    exact h p od ws _ _ rfl g s2 upd_same (RpK.mono g.1 _ _ h3)
  · exact .inl ⟨b, _, s.fz _ _ h1, h p b ws F H rfl Go.rfl s h1 h3⟩
theorem lk_dT {kvs : List (List Key × D)} {v : V} {P : V → Hp → Prop} (s : Sep K F S H) (r : Rp K F (.dT kvs) v)
    (h : ∀ p od ws F' H', v = .ref p → Go F S H F' S H' → Sep K F' S H' → F' p = some (.frz od (.dT ws)) → RpT K F' kvs ws → P v H') :
    ∃ d, v = .ref d ∧ ((∃ od u, H d = some (.frz od u) ∧ P v H) ∨ ∃ u, H d = some u ∧ Mut (some u) ∧ ∀ od, P v (upd H d (.frz od u))) := by
  unfold Rp at r
  obtain ⟨p, ws, rfl, ⟨o, h1, h2⟩, h3⟩ := r
  refine ⟨p, rfl, ?_⟩
  rcases dcor_dT h2 with rfl | ⟨b, rfl⟩
  · refine .inr ⟨_, s.fz _ _ h1, True.intro, fun od => ?_⟩
    obtain ⟨g, s2⟩ := s.lockd (o' := .frz od (.dT ws)) h1 rfl (fun _ _ => nofun)
    exact h p od ws _ _ rfl g s2 upd_same (RpT.mono g.1 _ _ h3)
  · exact .inl ⟨b, _, s.fz _ _ h1, h p b ws F H rfl Go.rfl s h1 h3⟩
end
section
variable {X : Cx} {F0 : Bs} {tg e o i : Expr} {te to ti : TE} {de do_ di : DE} {apos cpos pos p : Pos} {t : TA} {d : DA}
/-- by the kind of the dict -/
def byD (qk : List (Key × D) → Store → Prop) (qt : List (List Key × D) → Store → Prop) : D → Store → Prop := fun d S1 => match d with
  | .dK kvs => qk kvs S1
  | .dT kvs => qt kvs S1
  | _ => False
theorem sim_lk {K : PySem.W.Frag} {qk : List (Key × D) → Store → Prop} {qt : List (List Key × D) → Store → Prop} (h : SimE K F0 te de) (σ : L2.St) (ρ : Env) (H F : Hp) (S : Store) (P : V → Hp → Prop) (e0 : F0.to F S H) (s : Sep K F S H) (en : Envr K F σ ρ)
    (hk : ∀ p od kvs ws S1 F1 H1, qk kvs S1 → Go F S H F1 S1 H1 → Sep K F1 S1 H1 → F1 p = some (.frz od (.dK ws)) → RpK K F1 kvs ws → P (.ref p) H1)
    (ht : ∀ p od kvs ws S1 F1 H1, qt kvs S1 → Go F S H F1 S1 H1 → Sep K F1 S1 H1 → F1 p = some (.frz od (.dT ws)) → RpT K F1 kvs ws → P (.ref p) H1) (q : de ρ S (byD qk qt)) : tLk te σ H P := by
  refine h σ ρ H F S _ _ e0 s en ?_ q
  intro d S1 v F1 H1 q1 e1 s1 r1
  cases d with
  | dK kvs => exact lk_dK (P := P) s1 r1 fun p od ws F2 H2 ev g s2 hp r => by subst ev; exact hk p od kvs ws S1 F2 H2 q1 (e1.trans g) s2 hp r
  | dT kvs => exact lk_dT (P := P) s1 r1 fun p od ws F2 H2 ev g s2 hp r => by subst ev; exact ht p od kvs ws S1 F2 H2 q1 (e1.trans g) s2 hp r
  | _ => exact q1.elim
def diKeys (de : DE) : DI := fun ρ S Q => de ρ S (byD (fun kvs S1 => Q (kvs.map fun p => kD p.1) S1) fun kvs S1 => Q (kvs.map fun p => .tup (p.1.map kD)) S1)
theorem i_keys (h : PD X F0 e te de) : PDI X F0 tg e (iKeys (tLk te)) (diKeys de) := by
  refine ⟨pi_keys (pe_lk h.pe), ?_⟩
  intro σ ρ H F S R Qd e0 s en lk q
  refine sim_lk h.sim σ ρ H F S _ e0 s en ?_ ?_ q
  · exact fun p od kvs ws S1 F2 H2 q1 g s2 hp r => ⟨p, od, rfl, .inl ⟨ws, s2.fz _ _ hp, lk _ S1 _ F2 H2 q1 g s2 (wk_keysK hp r)⟩⟩
  · exact fun p od kvs ws S1 F2 H2 q1 g s2 hp r => ⟨p, od, rfl, .inr ⟨ws, s2.fz _ _ hp, lk _ S1 _ F2 H2 q1 g s2 (wk_keysT hp r)⟩⟩
def diVals (de : DE) : DI := fun ρ S Q => de ρ S (byD (fun kvs S1 => Q (kvs.map fun p => p.2) S1) fun _ _ => False)
theorem i_vals (h : PD X F0 e te de) (hbase : attributeBase e "values" X.env (eval e X.env) = eval e X.env := by rfl) (hline : (apos.endLine == cpos.line) = true := by rfl) : PDI X F0 tg (.Call (.Attribute e "values" apos) [] [] cpos) (iVals (tLk te)) (diVals de) := by
  refine ⟨pi_values (pe_lk h.pe) hbase hline, ?_⟩
  intro σ ρ H F S R Qd e0 s en lk q
  refine sim_lk h.sim σ ρ H F S _ e0 s en ?_ ?_ q
  · exact fun p od kvs ws S1 F2 H2 q1 g s2 hp r => ⟨p, od, ws, rfl, s2.fz _ _ hp, lk _ S1 _ F2 H2 q1 g s2 (wk_valsK hp r)⟩
  · exact fun p od kvs ws S1 F2 H2 q1 g s2 hp r => q1.elim
def diItems (de : DE) : DI := fun ρ S Q => de ρ S (byD (fun kvs S1 => Q (kvs.map fun p => .tup [kD p.1, p.2]) S1) fun kvs S1 => Q (kvs.map fun p => .tup [.tup (p.1.map kD), p.2]) S1)
theorem i_items {elts : List Expr} {kk : Nat} {tpos : Pos} (h : PD X F0 e te de) (hbase : attributeBase e "items" X.env (eval e X.env) = eval e X.env := by rfl) (hline : (apos.endLine == cpos.line) = true := by rfl) :
    PDI X F0 (.Tuple elts kk tpos) (.Call (.Attribute e "items" apos) [] [] cpos) (iItms (tLk te)) (diItems de) := by
  refine ⟨pi_itms (pe_lk h.pe) hbase hline, ?_⟩
  intro σ ρ H F S R Qd e0 s en lk q
  refine sim_lk h.sim σ ρ H F S _ e0 s en ?_ ?_ q
  · exact fun p od kvs ws S1 F2 H2 q1 g s2 hp r => ⟨p, od, rfl, .inl ⟨ws, s2.fz _ _ hp, lk _ S1 _ F2 H2 q1 g s2 (wk_itemsK hp r)⟩⟩
  · exact fun p od kvs ws S1 F2 H2 q1 g s2 hp r => ⟨p, od, rfl, .inr ⟨ws, s2.fz _ _ hp, lk _ S1 _ F2 H2 q1 g s2 (wk_itemsT hp r)⟩⟩
/-- list(d), keys that are tuples -/
def oLstT : List D → Store → (List D → Store → Prop) → Prop := fun ds S Q => match ds with
  | [x] => ∃ kvs, res S x = .dT kvs ∧ Q (kvs.map fun p => .tup (p.1.map kD)) S
  | _ => False
abbrev rLstT : List V → Hp → VK → Prop := fun xs H Q => ∃ d kvs, xs = [V.ref d] ∧ Rd H d (.dT kvs) ∧ ∀ p bs, H p = none → IsKeys H kvs bs → Q (.ref p) (upd H p (.lst (bs.map V.ref)))
theorem rpT_map {K : PySem.W.Frag} {F : Hp} {β : Type} (f : List Key → β) : ∀ {ds : List (List Key × D)} {ws : List (List Key × V)}, RpT K F ds ws → ws.map (fun p => f p.1) = ds.map fun p => f p.1
  | [], ws, h => by rw [rpT_nil.mp h]; rfl
  | (k, d) :: ds, ws, h => by obtain ⟨v, us, rfl, _, q⟩ := rpT_cons.mp h; rw [List.map_cons, List.map_cons, rpT_map f q]
theorem sim_lstT : SimCN X.K F0 rLstT oLstT := by
  intro xs ds H F S Q Qd e0 s rx lk h
  unfold oLstT at h
  split at h
  · obtain ⟨v, rfl, rv⟩ := rps_1 rx
    obtain ⟨kvs, h1, q⟩ := h
    obtain ⟨p, ws, rfl, hr, r⟩ := res_dT s rv h1
    refine ⟨p, ws, rfl, hr, fun l bs hl hk => ?_⟩
    obtain ⟨F2, g, s2, r2⟩ := s.hadAll hk
    rw [rpT_map (fun k => D.tup (k.map kD)) r] at r2
    exact lk _ S _ F2 H l q g s2 r2 hl
  · exact h.elim
theorem n_listT (hc : X.calm = true) (hm : X.mg "list" = none) (ha : PDA X F0 [e] t d) (hg : Gl X "list" := by rfl) (he : starEach [e] X.env = (false, eval e X.env) :: starEach [] X.env := by rfl) : PN X F0 (.Call (.Name "list" p) [e] [] pos) (tCB rLstT t) (nCB oLstT d) :=
  ⟨pe_callTy (call_list_dT hc) hg hm dbt_list ha.pa (by decide) (by decide) he rfl, sim_ncb sim_lstT ha.sim⟩
theorem d_dnewK : PD X F0 (.Dict [] [] pos) tDNewK (dC (.dK [])) := by
  refine ⟨pe_dnewK, ?_⟩
  intro σ ρ H F S Q Qd e0 s en lk q p hp
  obtain ⟨x1, x2⟩ := s.new (o := .dK []) hp
  exact lk _ S _ _ _ q (Go.new s hp) x2 (by unfold Rp; exact ⟨p, [], rfl, ⟨_, upd_same, rfl⟩, rpK_nil.mpr rfl⟩)
theorem d_dnewT : PD X F0 (.Dict [] [] pos) tDNewT (dC (.dT [])) := by
  refine ⟨pe_dnewT, ?_⟩
  intro σ ρ H F S Q Qd e0 s en lk q p hp
  obtain ⟨x1, x2⟩ := s.new (o := .dT []) hp
  exact lk _ S _ _ _ q (Go.new s hp) x2 (by unfold Rp; exact ⟨p, [], rfl, ⟨_, upd_same, rfl⟩, rpT_nil.mpr rfl⟩)
def dNewC (m : MO) : DE := fun _ S Q => ∀ p, S p = none → Q (.ref p) (sup S p m)
theorem d_cellK : PD X F0 (.Dict [] [] pos) tDNewK (dNewC (.dK [])) := by
  refine ⟨pe_dnewK, ?_⟩
  intro σ ρ H F S Q Qd e0 s en lk q p hp
  obtain ⟨x1, x2⟩ := s.newM (o := .dK []) (m := .dK []) hp ⟨[], rfl, rpK_nil.mpr rfl⟩
  exact lk _ _ _ _ _ (q p x1) (Go.newM hp) x2 rp_mk_ref
theorem d_cellT : PD X F0 (.Dict [] [] pos) tDNewT (dNewC (.dT [])) := by
  refine ⟨pe_dnewT, ?_⟩
  intro σ ρ H F S Q Qd e0 s en lk q p hp
  obtain ⟨x1, x2⟩ := s.newM (o := .dT []) (m := .dT []) hp ⟨[], rfl, rpT_nil.mpr rfl⟩
  exact lk _ _ _ _ _ (q p x1) (Go.newM hp) x2 rp_mk_ref
theorem rpK_any {K : PySem.W.Frag} {F : Hp} (k : Key) : ∀ {ds : List (Key × D)} {ws : List (Key × V)}, RpK K F ds ws → (ws.any fun kv => decide (kv.1 = k)) = ds.any fun kv => decide (kv.1 = k)
  | [], ws, h => by rw [rpK_nil.mp h]; rfl
  | (j, d) :: ds, ws, h => by obtain ⟨v, us, rfl, _, q⟩ := rpK_cons.mp h; rw [List.any_cons, List.any_cons, rpK_any k q]
theorem rpK_new {K : PySem.W.Frag} {F : Hp} {k : Key} {d : D} {v : V} (r : Rp K F d v) : ∀ {ds : List (Key × D)} {ws : List (Key × V)}, RpK K F ds ws → RpK K F (ds ++ [(k, d)]) (ws ++ [(k, v)])
  | [], ws, h => by rw [rpK_nil.mp h]; exact rpK_cons.mpr ⟨v, [], rfl, r, rpK_nil.mpr rfl⟩
  | (j, x) :: ds, ws, h => by obtain ⟨u, us, rfl, r1, q⟩ := rpK_cons.mp h; exact rpK_cons.mpr ⟨u, _, rfl, r1, rpK_new r q⟩
theorem rpK_in {K : PySem.W.Frag} {F : Hp} {k : Key} {d : D} {v : V} (r : Rp K F d v) : ∀ {ds : List (Key × D)} {ws : List (Key × V)}, RpK K F ds ws → RpK K F (ds.map fun kv => if kv.1 = k then (k, d) else kv) (ws.map fun kv => if kv.1 = k then (kv.1, v) else kv)
  | [], ws, h => by rw [rpK_nil.mp h]; exact rpK_nil.mpr rfl
  | (j, x) :: ds, ws, h => by
    obtain ⟨u, us, rfl, r1, q⟩ := rpK_cons.mp h
    rw [List.map_cons, List.map_cons]
    by_cases e : j = k
    · subst e
      simp only [if_true]
      exact rpK_cons.mpr ⟨v, _, rfl, r, rpK_in r q⟩
    · simp only [e, if_false]
      exact rpK_cons.mpr ⟨u, _, rfl, r1, rpK_in r q⟩
theorem rpK_put {K : PySem.W.Frag} {F : Hp} {k : Key} {d : D} {v : V} {ds : List (Key × D)} {ws : List (Key × V)} (r : Rp K F d v) (h : RpK K F ds ws) : RpK K F (putD ds k d) (putK ws k v) := by
  unfold putD putK
  rw [rpK_any k h]
  split
  · exact rpK_in r h
  · exact rpK_new r h
theorem rpT_any {K : PySem.W.Frag} {F : Hp} (k : List Key) : ∀ {ds : List (List Key × D)} {ws : List (List Key × V)}, RpT K F ds ws → (ws.any fun kv => decide (kv.1 = k)) = ds.any fun kv => decide (kv.1 = k)
  | [], ws, h => by rw [rpT_nil.mp h]; rfl
  | (j, d) :: ds, ws, h => by obtain ⟨v, us, rfl, _, q⟩ := rpT_cons.mp h; rw [List.any_cons, List.any_cons, rpT_any k q]
theorem rpT_new {K : PySem.W.Frag} {F : Hp} {k : List Key} {d : D} {v : V} (r : Rp K F d v) : ∀ {ds : List (List Key × D)} {ws : List (List Key × V)}, RpT K F ds ws → RpT K F (ds ++ [(k, d)]) (ws ++ [(k, v)])
  | [], ws, h => by rw [rpT_nil.mp h]; exact rpT_cons.mpr ⟨v, [], rfl, r, rpT_nil.mpr rfl⟩
  | (j, x) :: ds, ws, h => by obtain ⟨u, us, rfl, r1, q⟩ := rpT_cons.mp h; exact rpT_cons.mpr ⟨u, _, rfl, r1, rpT_new r q⟩
theorem rpT_in {K : PySem.W.Frag} {F : Hp} {k : List Key} {d : D} {v : V} (r : Rp K F d v) : ∀ {ds : List (List Key × D)} {ws : List (List Key × V)}, RpT K F ds ws → RpT K F (ds.map fun kv => if kv.1 = k then (k, d) else kv) (ws.map fun kv => if kv.1 = k then (kv.1, v) else kv)
  | [], ws, h => by rw [rpT_nil.mp h]; exact rpT_nil.mpr rfl
  | (j, x) :: ds, ws, h => by
    obtain ⟨u, us, rfl, r1, q⟩ := rpT_cons.mp h
    rw [List.map_cons, List.map_cons]
    by_cases e : j = k
    · subst e
      simp only [if_true]
      exact rpT_cons.mpr ⟨v, _, rfl, r, rpT_in r q⟩
    · simp only [e, if_false]
      exact rpT_cons.mpr ⟨u, _, rfl, r1, rpT_in r q⟩
theorem rpT_put {K : PySem.W.Frag} {F : Hp} {k : List Key} {d : D} {v : V} {ds : List (List Key × D)} {ws : List (List Key × V)} (r : Rp K F d v) (h : RpT K F ds ws) : RpT K F (putD ds k d) (putK ws k v) := by
  unfold putD putK
  rw [rpT_any k h]
  split
  · exact rpT_in r h
  · exact rpT_new r h
def oSetD : DSt := fun x i v S Q => ∃ a, x = .ref a ∧ ((∃ kvs k, S a = some (.dK kvs) ∧ keyOf i = some k ∧ kvs.length < sizeLine ∧ Q (sup S a (.dK (putD kvs k v)))) ∨
  ∃ kvs ks k, S a = some (.dT kvs) ∧ i = .tup ks ∧ keysOf ks = some k ∧ kvs.length < sizeLine ∧ Q (sup S a (.dT (putD kvs k v))))
theorem sim_setD : SimSt X.K F0 rSetD oSetD := by
  intro x i v dx di dv H F S Q Qd e0 s rx ri rv lk h
  obtain ⟨a, rfl, h⟩ := h
  rcases h with ⟨kvs, k, h1, h2, h3, q⟩ | ⟨kvs, ks, k, h1, rfl, h2, h3, q⟩
  · obtain ⟨_, ob, ho1, ws, rfl, hv⟩ := s.st a _ h1
    exact ⟨a, _, rp_ref rx, .inl ⟨ws, k, ho1, key_rp h2 ri, by rw [rpK_len hv]; exact h3, rfl⟩, lk _ F _ q (Go.put h1) (s.put h1 ⟨_, rfl, rpK_put rv hv⟩)⟩
  · obtain ⟨_, ob, ho1, ws, rfl, hv⟩ := s.st a _ h1
    obtain ⟨b, us, rfl, g1, g2⟩ := rp_tup ri
    rw [keys_rp h2 g2] at g1
    exact ⟨a, _, rp_ref rx, .inr ⟨ws, k, b, ho1, rfl, s.fz _ _ g1, by rw [rpT_len hv]; exact h3, rfl⟩, lk _ F _ q (Go.put h1) (s.put h1 ⟨_, rfl, rpT_put rv hv⟩)⟩
theorem st_dict {k : Nat} (hr : Room k X.A) : DStR X F0 rSetD oSetD := ⟨set_dict (hu_of hr), sim_setD⟩
def moD : MO → D
  | .lst xs => .lst xs
  | .dK kvs => .dK kvs
  | .dT kvs => .dT kvs
  | .ins C _ fs => .ins C fs
theorem rp_moD {K : PySem.W.Frag} {F : Hp} {m : MO} {o : HO} {a : Addr} (r : RpM K F m o) (h : F a = some o) : Rp K F (moD m) (.ref a) := by
  cases m with
  | lst xs => obtain ⟨vs, rfl, q⟩ := r; exact rp_mk_lst h q
  | dK xs => obtain ⟨vs, rfl, q⟩ := r; unfold moD Rp; exact ⟨a, vs, rfl, ⟨_, h, rfl⟩, q⟩
  | dT xs => obtain ⟨vs, rfl, q⟩ := r; unfold moD Rp; exact ⟨a, vs, rfl, ⟨_, h, rfl⟩, q⟩
  | ins C dx xs => obtain ⟨vs, rfl, q⟩ := r; unfold moD Rp; exact ⟨a, dx, vs, rfl, h, q⟩
def dFreezeM (i : Nat) (δ : DS) : DS := fun Δ ρ S => ∃ a m, ρ[i]? = some (some (.ref a)) ∧ S a = some m ∧ δ Δ (ρ.set i (some (moD m))) (sdel S a)
theorem ds_freezeM {sts : List Stmt} {t : TS} {δ : DS} (i : Nat) (h : PDSs X F0 sts t δ) : PDSs X F0 sts t (dFreezeM i δ) := by
  refine ⟨h.pss, ?_⟩
  intro σ ρ H F S D Δ e0 s en lk q
  obtain ⟨a, m, h1, h2, q⟩ := q
  obtain ⟨v, g1, g2⟩ := en.at_ i _ h1
  have ev := rp_ref g2
  subst ev
  obtain ⟨_, o, k1, k2⟩ := s.st a _ h2
  obtain ⟨x1, x2⟩ := s.freeze h2 k1
  have en2 : Envr X.K (upd F a o) σ (ρ.set i (some (moD m))) := by
    have z := (en.mono x1).set (i := i) (d := moD m) (v := .ref a) (rp_moD (k2.mono x1) upd_same)
    have e : σ.set i (some (.ref a)) = σ := by
      apply List.ext_getElem?
      intro j
      by_cases hj : i = j
      · subst hj
        rw [List.getElem?_set_self (List.getElem?_eq_some_iff.mp g1).1, g1]
      · rw [List.getElem?_set_ne hj]
    rw [e] at z
    exact z
  exact h.sim σ _ H _ _ D Δ (e0.trans (Go.freeze s h2 k1)) x2 en2 (lk.mono (Go.freeze s h2 k1)) q
end
end DL
set_option Elab.async false
set_option linter.all false
set_option maxRecDepth 100000
set_option maxHeartbeats 2000000
namespace DLK
open PySem PySem.Spec L2 PyProof.Rows
theorem no_empty {P : Program} {w : World} {H : Hp} {h : Heap} {o0 : HO} (h0 : o0 = .dK [] ∨ o0 = .dT []) (hb : sysModules < h.objs.size) : ObjOk P w H (h.push { cls := .type "dict", data := .dict #[] }) h.objs.size o0 := by
  rcases h0 with rfl | rfl
  · exact dk_empty h hb
  · exact dt_empty h hb
theorem d_dset {X : Cx} {pins : List (Addr × Obj)} {σ : L2.St} {H H' : Hp} {s : Shared} {E : Value → Shared → Prop} {a : Addr} {y v : V} {u r : Value} {Q : Unit → Shared → Prop} (hu : X.A.units + 1 < cLine) (Iv : Inv X pins σ H s) (g : DPut H a y v H')
    (ry : RelV y u) (rv : RelV v r) (h : ∀ s', Inv X pins σ H' s' → Q () s') : wpAny (model X.prog X.w) X.A (dictSet a u r) Q E s := by
  rcases g with ⟨kvs, k, e, ey, l, eH⟩ | ⟨kvs, k, b, e, ey, eb, l, eH⟩
  · subst ey eH
    exact d_dictSet Iv e l ry rv h
  · subst ey eH
    cases (show u = Value.ref b from ry)
    obtain ⟨lz, nd, xs, rel, dd⟩ := dt_of Iv.hok e
    have l1 : xs.length ≤ sizeLine := by rw [← Paired.length rel]; exact lz
    have l2 : (putK kvs k v).length ≤ sizeLine := by have := length_putK kvs k v; omega
    refine wpAny_dictSet_heap (hsz := l1) (show X.A.units < cLine by omega) (key_of Iv.hok eb) dd fun h' dd' hs => h _ ?_
    obtain ⟨q, es, ep, hq, g2, g3, g4, _, g5⟩ := dd'
    refine d_write Iv (by rw [e]; exact True.intro) hs ⟨q, hq⟩ ⟨l2, nd, _, (rel.put k eb rv).keeps fun c ys ec => ?_, q, es, ep, hq, g2, g3, g4, g5⟩
    rw [upd_ne (ne_of ec e (fun z => nomatch z))]
    exact ec
section
variable {X : Cx}
/-- {k: v for target in iter if ..}: o0 the empty dict at the start -/
def tDg (o0 : HO) (wi : TI) (g : TG) (tt : TT) (tk tv : TE) (vs : List Nat) : TE := fun σ H Q => wi σ H fun J H1 => ∀ D, H1 D = none → ∃ W : Nat → Nat → Hp → Prop, (∃ m, W 0 m (upd H1 D o0)) ∧ ∀ i m H, W i m H →
  (J.stop i H ∧ Q (.ref D) H) ∨ (J.go i H ∧ ∃ Nx : Hp → Prop, (∀ H', Nx H' → ∃ m', m' < m ∧ W (i + 1) m' H') ∧ ∀ x H', J.yld i H x H' → g x (wipe σ vs) H' fun σ2 H2 => wipe σ2 vs = wipe σ vs ∧ tt σ2 H2 fun b H3 =>
    if b = true then tk σ2 H3 fun y H4 => tv σ2 H4 fun z H5 => ∃ H6, DPut H5 D y z H6 ∧ Nx H6 else Nx H3)
def tDg2 (o0 : HO) (wi : TI) (g : TG) (tt : TT) (wi1 : TI) (g1 : TG) (tt1 : TT) (tk tv : TE) (vs vs1 : List Nat) : TE := fun σ H Q => wi σ H fun J H1 => ∀ D, H1 D = none → ∃ W : Nat → Nat → Hp → Prop, (∃ m, W 0 m (upd H1 D o0)) ∧ ∀ i m H, W i m H →
  (J.stop i H ∧ Q (.ref D) H) ∨ (J.go i H ∧ ∃ Nx : Hp → Prop, (∀ H', Nx H' → ∃ m', m' < m ∧ W (i + 1) m' H') ∧ ∀ x H', J.yld i H x H' → g x (wipe σ vs) H' fun σ2 H2 => wipe σ2 vs = wipe σ vs ∧ tt σ2 H2 fun b H3 =>
    if b = true then wi1 σ2 H3 fun J1 H4 => ∃ W1 : Nat → Nat → Hp → Prop, (∃ m, W1 0 m H4) ∧ ∀ j k H, W1 j k H →
      (J1.stop j H ∧ Nx H) ∨ (J1.go j H ∧ ∃ Nx1 : Hp → Prop, (∀ H', Nx1 H' → ∃ k', k' < k ∧ W1 (j + 1) k' H') ∧ ∀ x H', J1.yld j H x H' → g1 x (wipe σ2 vs1) H' fun σ3 H5 => wipe σ3 vs1 = wipe σ2 vs1 ∧ tt1 σ3 H5 fun b H6 =>
        if b = true then tk σ3 H6 fun y H7 => tv σ3 H7 fun z H8 => ∃ H9, DPut H8 D y z H9 ∧ Nx1 H9 else Nx1 H6)
    else Nx H3)
theorem dg_core {o0 : HO} (h0 : o0 = .dK [] ∨ o0 = .dT []) (hu : X.A.units + 1 < cLine) {pins : List (Addr × Obj)} {s : Shared} {σ : L2.St} {H : Hp} {Q : VK} {kx vx tg iter : Expr} {ifs : List Expr} {scope : Scope} {own : List (Str × Nat)} {pos pos' : Pos} {wi : TI} {g : TG} {tt : TT} {tk tv : TE} {use : Option (Value → Sem Unit)} {Qf : Value → Shared → Prop}
    (hc : X.calm = true) (hN : X.N.Nodup) (Iv : Inv X pins σ H s) (hi : PI X tg iter wi) (ok : BlkOk X.N X.env.scope scope own)
    (hg : ∀ (s : Shared) (H : Hp) (C : Addr) (cl : List (Str × Addr)) (afp : List Addr), PG (X.blk s H scope (compEnvC scope cl C X.env) afp) tg g) (ht : ∀ (s : Shared) (H : Hp) (C : Addr) (cl : List (Str × Addr)) (afp : List Addr), PTs (X.blk s H scope (compEnvC scope cl C X.env) afp) ifs tt)
    (hk : ∀ (s : Shared) (H : Hp) (C : Addr) (cl : List (Str × Addr)) (afp : List Addr), PE (X.blk s H scope (compEnvC scope cl C X.env) afp) kx tk)
    (he : ∀ (s : Shared) (H : Hp) (C : Addr) (cl : List (Str × Addr)) (afp : List Addr), PE (X.blk s H scope (compEnvC scope cl C X.env) afp) vx tv) (hs : ∀ x, foldedSetIterable iter X.env x = pure x)
    (h : tDg o0 wi g tt tk tv (own.map (·.2)) σ H Q)
    (ahRR : ∀ D C s' m H', Inv X pins σ H' s' → Q (.ref D) H' → s'.heap.Ns C m → FpOk X pins H' C → compPost (model X.prog X.w) X.A X.xe use Qf (.ref D) C (.ok .next) s') :
    wpAny (model X.prog X.w) X.A (comprehension (.DictComp kx vx [⟨tg, iter, ifs, 0⟩] scope pos) scope X.env pos' newDict false (eval iter X.env) use) Qf X.xe s := by
  have ahfree : ∀ y ∈ scope.names, y.2 = .free → ∃ c, X.env.cells.lookup y.1 = some c := fun y hy e => by
    rcases ok.free y hy e with k | k
    · exact Iv.ok.has _ (.inl k)
    · exact Iv.ok.has _ (.inr k)
  refine wpAny_comprehension_free (use := use) rfl hs (closure_ok ahfree) ok.kind (fun y hy e => by rw [ok.uniq y hy, e])
    (thn (hi.run pins s σ H _ Iv h) fun xv as1 hx => thn hx fun itv as2 ah2 => ?_)
  obtain ⟨it, afp, atn, aJ, aH2, e, aI2, aT, ast2, af2, q⟩ := ah2
  subst e
  refine wpAny_newObj_type (newEnv_comp ?_)
  generalize ahD : as2.heap.objs.size = D
  have ahDn : aH2 D = none := aI2.hok.fresh (Nat.le_of_eq ahD)
  obtain ⟨aW, ⟨am0, aw0⟩, aturn⟩ := q D ahDn
  -- the new list
  generalize ahs3 : ({ as2 with heap := as2.heap.push { cls := .type "dict", data := .dict #[] } } : Shared) = as3
  have aI3 : Inv X pins σ (upd aH2 D o0) as3 := by
    rw [← ahs3]
    refine aI2.laid (t' := as2.toks) (fun b o e => Heap.get?_push_of_some _ e) (Nat.le_of_eq ahD) ?_
    rw [← ahD]
    exact no_empty h0 aI2.big
  have ah3 : as3.heap = as2.heap.push { cls := .type "dict", data := .dict #[] } := by rw [← ahs3]
  have asz : ∀ b ∈ afp, b < as2.heap.objs.size := fun b hb => by
    obtain ⟨o, e, _⟩ := aT.obj _ _ ast2 b hb
    exact Heap.lt_size e
  have af3 : ∀ b ∈ afp, FpOk X pins (upd aH2 D o0) b ∧ b < as3.heap.objs.size := fun b hb => by
    have hlt := asz b hb
    refine ⟨⟨?_, (af2 b hb).2⟩, by rw [ah3, Heap.size_push]; exact Nat.lt_succ_of_lt hlt⟩
    rw [upd_ne (by rw [← ahD]; exact Nat.ne_of_lt hlt)]
    exact (af2 b hb).1
  have ast3 : atn 0 as3.heap := aT.keep _ _ _ ast2 fun b _ o e => by rw [ah3]; exact Heap.get?_push_of_some _ e
  have aI4 := block_start aI3 ok hN af3
  have apg := hg as3 (upd aH2 D o0) as3.heap.objs.size (cellsFrom (as3.heap.objs.size + 1) scope.names (cloFrom X.env.cells scope.names [])) afp
  have apt := ht as3 (upd aH2 D o0) as3.heap.objs.size (cellsFrom (as3.heap.objs.size + 1) scope.names (cloFrom X.env.cells scope.names [])) afp
  have apk := hk as3 (upd aH2 D o0) as3.heap.objs.size (cellsFrom (as3.heap.objs.size + 1) scope.names (cloFrom X.env.cells scope.names [])) afp
  have ape := he as3 (upd aH2 D o0) as3.heap.objs.size (cellsFrom (as3.heap.objs.size + 1) scope.names (cloFrom X.env.cells scope.names [])) afp
  show codeAny _ _ (.compStart (.DictComp kx vx [⟨tg, iter, ifs, 0⟩] scope pos) 0 (.ref it) (.ref D) (compEnvC scope (cellsFrom (as3.heap.objs.size + 1) scope.names (cloFrom X.env.cells scope.names [])) as3.heap.objs.size X.env)) (compPost (model X.prog X.w) X.A X.xe use Qf (.ref D) as3.heap.objs.size) { as3 with heap := pushCells (as3.heap.push { cls := .type "dict", data := .dict #[] }) scope.names }
  have anfp : ∀ b ∈ afp, (upd aH2 D o0) b = none := fun b hb => (af3 b hb).1.1
  generalize ahce : compEnvC scope (cellsFrom (as3.heap.objs.size + 1) scope.names (cloFrom X.env.cells scope.names [])) as3.heap.objs.size X.env = ace at aI4 apg apt apk ape ⊢
  have acL : ace.locals = as3.heap.objs.size := by subst ahce; rfl
  generalize ahH3 : upd aH2 D o0 = aH3 at aI3 aI4 apg apt apk ape aw0 anfp af3
  generalize ahs4 : ({ as3 with heap := pushCells (as3.heap.push { cls := .type "dict", data := .dict #[] }) scope.names } : Shared) = as4 at aI4 ⊢
  have ast4 : atn 0 as4.heap := aT.keep _ _ _ ast3 fun b _ o e => by rw [← ahs4]; exact pushCells_keeps _ _ _ _ (Heap.get?_push_of_some _ e)
  have astat : ∀ {σ' : L2.St} {H' : Hp} {s' : Shared}, Inv (X.blk as3 aH3 scope ace afp) [] σ' H' s' → (∀ b ∈ afp, H' b = none) → ∀ b ∈ afp, FpOk (X.blk as3 aH3 scope ace afp) [] H' b := fun {σ' H' s'} Iw ahn b hb =>
    ⟨ahn b hb, (Iw.ok.exf b hb).1, Iw.ok.exfs b hb, .inl hb, fun x c e => (Iw.ok.exf b hb).2 x c e, fun p hp => absurd (show p ∈ ([] : List (Addr × Obj)) ++ [] from hp) (by simp)⟩
  have aloop : codeAny (model X.prog X.w) X.A (.compLoop (.DictComp kx vx [⟨tg, iter, ifs, 0⟩] scope pos) 0 (.ref it) (.ref D) ace) (compPost (model X.prog X.w) X.A X.xe use Qf (.ref D) as3.heap.objs.size) as4 := by
    refine compLoop_anyD (fun n s' => ∃ i H', Inv (X.blk as3 aH3 scope ace afp) [] (wipe σ (own.map (·.2))) H' s' ∧ atn i s'.heap ∧ (∀ b ∈ afp, H' b = none) ∧ aW i n H') ?_ am0 ⟨0, aH3, aI4, ast4, anfp, aw0⟩
    rintro n as5 ⟨i, aH5, aI5, ast5, an5, aw5⟩
    rcases aturn i n aH5 aw5 with ⟨astop, qq⟩ | ⟨ago, aNx, ahNx, astep⟩
    · have td := aT.done (X.blk as3 aH3 scope ace afp) rfl rfl rfl hc i [] as5 _ aH5 (fun _ _ => False) aI5 (astat aI5 an5) ast5 astop
      refine thnF td fun r as6 ⟨hr, aI6⟩ => ?_
      subst hr
      -- back in the def's context
      have aI7 : Inv X pins σ aH5 as6 := aI3.call' (ch := afp) aI6.os aI6.base aI6.hok aI6.bare fun b hb => ⟨(af3 b hb).1.2.2.2.1, (af3 b hb).1.2.1, (af3 b hb).1.2.2.2.2.1, (af3 b hb).1.2.2.2.2.2⟩
      have anC : aH5 as3.heap.objs.size = none := by
        have z : aH5 ace.locals = none := aI6.free
        rw [acL] at z
        exact z
      obtain ⟨m, ahn, _⟩ := aI6.loc
      have ahn : as6.heap.Ns ace.locals m := ahn
      rw [acL] at ahn
      exact ahRR D as3.heap.objs.size as6 m aH5 aI7 qq ahn (aI3.fpOk (Nat.le_refl _) anC)
    · have ti := aT.item (X.blk as3 aH3 scope ace afp) rfl rfl rfl hc i [] as5 _ aH5 (fun _ _ => False) aI5 (astat aI5 an5) ast5 ago
      refine thnF ti fun r as6 ⟨u, hr, ah6⟩ => ?_
      subst hr
      refine thnF ah6 fun _ as7 ⟨x, aH7, aI7, ar7, ay7, ast7, an7⟩ => ?_
      have aI7' := aI7.pinned (astat aI7 an7) (aT.obj _ _ ast7)
      refine thnF (apg.run _ as7 _ aH7 x u _ aI7' ar7 (astep x aH7 ay7)) fun _ as8 ⟨σ8, aH8, aI8, ahw8, aq8⟩ => ?_
      refine thnF (apt.run _ as8 σ8 aH8 _ aI8 aq8) fun b as9 ⟨aH9, aI9, aq9⟩ => ?_
      -- the turn's end
      have afin : ∀ {s' : Shared} {H' : Hp}, Inv (X.blk as3 aH3 scope ace afp) ([] ++ pinsAt afp as7.heap) σ8 H' s' → aNx H' → ∃ m, m < n ∧ ∃ i H', Inv (X.blk as3 aH3 scope ace afp) [] (wipe σ (own.map (·.2))) H' s' ∧ atn i s'.heap ∧ (∀ b ∈ afp, H' b = none) ∧ aW i m H' := fun {s' H'} Iw nx => by
        obtain ⟨m', hm, w'⟩ := ahNx H' nx
        have pin' : ∀ b ∈ afp, ∀ o, as7.heap.get? b = some o → s'.heap.get? b = some o ∧ H' b = none := fun b hb o e =>
          let z := Iw.pin (b, o) (List.mem_append_right _ (List.mem_append_right _ (mem_pinsAt hb e)))
          ⟨z.1, z.2.1⟩
        have hl : (wipe σ (own.map (·.2))).length = σ8.length := by rw [← ahw8, wipe_length]
        refine ⟨m', hm, i + 1, H', (Iw.unpinned (pins := [])).weak hl (fun j v e => ?_), aT.keep _ _ _ ast7 fun b hb o e => (pin' b hb o e).1, fun b hb => ?_, w'⟩
        · rw [← ahw8] at e
          exact (wipe_some e).1
        · obtain ⟨o, e, _⟩ := aT.obj _ _ ast7 b hb
          exact (pin' b hb o e).2
      cases b with
      | false =>
        simp only [Bool.false_eq_true, if_false] at aq9 ⊢
        exact afin aI9 aq9
      | true =>
        simp only [if_true] at aq9 ⊢
        refine thnF (apk.run _ as9 σ8 aH9 _ aI9 aq9) fun z as10 ⟨yk, aH10, aI10, ar10, aq10⟩ => ?_
        refine thnF (ape.run _ as10 σ8 aH10 _ aI10 aq10) fun z2 as11 ⟨yv, aH11, aI11, ar11, aH12, g12, nx⟩ => ?_
        exact d_dset (X := X.blk as3 aH3 scope ace afp) hu aI11 g12 ar10 ar11 fun as12 aI12 => afin aI12 nx
  exact codeAny_compStart_dict aloop (aT.self X.A 0 _ _ _ ast4 aloop)
end
theorem compTurn2D_out (kx vx tgA itA tgB itB : Expr) (ifsA ifsB : List Expr) (scope : Scope) (pos : Pos) (it : Value) (D : Addr) (env : Env) :
    compTurn (.DictComp kx vx [⟨tgA, itA, ifsA, 0⟩, ⟨tgB, itB, ifsB, 0⟩] scope pos) 0 it (.ref D) env = (do
      standAt itA.pos
      match ← pyNext it with
      | none => pure (.done .next)
      | some v =>
        letOwnedTupleGo tgA it v
        assign tgA env v
        let mut ok := true
        for c in ifsA do
          if ok then ok ← isTrue c env (eval c env)
        if ok then
          let x ← eval itB env
          standAt itB.pos
          let x ← foldedSetIterable itB env x
          let _ ← runOwn (.compStart (.DictComp kx vx [⟨tgA, itA, ifsA, 0⟩, ⟨tgB, itB, ifsB, 0⟩] scope pos) 1 (← holding [x] (pyIter x)) (.ref D) env) env
        again (.compLoop (.DictComp kx vx [⟨tgA, itA, ifsA, 0⟩, ⟨tgB, itB, ifsB, 0⟩] scope pos) 0 it (.ref D) env)) := by rfl
theorem compTurn2D_in (kx vx tgA itA tgB itB : Expr) (ifsA ifsB : List Expr) (scope : Scope) (pos : Pos) (it : Value) (D : Addr) (env : Env) :
    compTurn (.DictComp kx vx [⟨tgA, itA, ifsA, 0⟩, ⟨tgB, itB, ifsB, 0⟩] scope pos) 1 it (.ref D) env = (do
      standAt itB.pos
      match ← pyNext it with
      | none => pure (.done .next)
      | some v =>
        letOwnedTupleGo tgB it v
        assign tgB env v
        let mut ok := true
        for c in ifsB do
          if ok then ok ← isTrue c env (eval c env)
        if ok then
          (do
            let keyv ← eval kx env
            let valv ← holding [keyv] (eval vx env)
            standAt { kx.pos with endLine := vx.pos.endLine, endCol := vx.pos.endCol }
            holding [keyv, valv] (dictSet D keyv valv))
        again (.compLoop (.DictComp kx vx [⟨tgA, itA, ifsA, 0⟩, ⟨tgB, itB, ifsB, 0⟩] scope pos) 1 it (.ref D) env)) := by rfl
section
variable {prog : Program} {w : World} {A : Around} {R : Result → Shared → Prop} {s : Shared} {kx vx tgA itA tgB itB : Expr} {ifsA ifsB : List Expr} {scope : Scope} {pos : Pos} {it : Value} {D : Addr} {env : Env}
/-- the loop of the first clause -/
theorem compLoop2D_out (hs : ∀ x, foldedSetIterable itB env x = pure x) (I : Nat → Shared → Prop)
    (turn : ∀ n s, I n s → wpAny (model prog w) A (pyNext it) (fun r z₁ => match r with
      | none => R (.ok .next) z₁
      | some v => wpAny (model prog w) A (letOwnedTupleGo tgA it v) (fun _ z₁' => wpAny (model prog w) A (assign tgA env v) (fun _ z₂ =>
          wpAny (model prog w) A (forIn ifsA true fun c r => if r = true then do let ok ← isTrue c env (eval c env); pure (ForInStep.yield ok) else pure (ForInStep.yield r)) (fun ok z₃ =>
            if ok = true then wpAny (model prog w) A (eval itB env) (fun x z₄ => wpAny (model prog w) A (pyIter x) (fun it1 z₅ =>
              codeAny (model prog w) A (.compStart (.DictComp kx vx [⟨tgA, itA, ifsA, 0⟩, ⟨tgB, itB, ifsB, 0⟩] scope pos) 1 it1 (.ref D) env) (fun r s' => match r with
                | .ok _ => ∃ m, m < n ∧ I m s'
                | .error _ => False) z₅) (notedBy (model prog w) A env fun e s' => R (.error e) s') z₄) (notedBy (model prog w) A env fun e s' => R (.error e) s') z₃
            else ∃ m, m < n ∧ I m z₃) (notedBy (model prog w) A env fun e s' => R (.error e) s') z₂) (notedBy (model prog w) A env fun e s' => R (.error e) s') z₁') (notedBy (model prog w) A env fun e s' => R (.error e) s') z₁) (notedBy (model prog w) A env fun e s' => R (.error e) s') s)
    (n : Nat) (h : I n s) :
    codeAny (model prog w) A (.compLoop (.DictComp kx vx [⟨tgA, itA, ifsA, 0⟩, ⟨tgB, itB, ifsB, 0⟩] scope pos) 0 it (.ref D) env) R s := by
  refine codeAny_loop rfl I (fun n s hI => ?_) n h
  show wpAny _ A ((compTurn (.DictComp kx vx [⟨tgA, itA, ifsA, 0⟩, ⟨tgB, itB, ifsB, 0⟩] scope pos) 0 it (.ref D) env).onRaise (fun x => do noteFrame x env; theTreesLotGoes x)) _ _ s
  refine wpAny_noted ?_
  rw [compTurn2D_out]
  refine wpAny_bind (wpAny_standAt (wpAny_bind (wpAny_mono (turn n s hI) (fun r z₁ p₁ => ?_) fun _ _ hh => hh)))
  cases r with
  | none => exact wpAny_pure p₁
  | some v =>
    refine wpAny_bind (wpAny_mono p₁ (fun _ z₁' p₁' => ?_) fun _ _ hh => hh)
    refine wpAny_bind (wpAny_mono p₁' (fun _ z₂ p₂ => wpAny_bind (wpAny_mono p₂ (fun ok z₃ p₃ => ?_) fun _ _ hh => hh)) fun _ _ hh => hh)
    cases ok with
    | false => exact wpAny_pure ⟨rfl, p₃⟩
    | true =>
      refine wpAny_bind (wpAny_mono p₃ (fun x z₄ p₄ => ?_) fun _ _ hh => hh)
      refine wpAny_bind (wpAny_standAt (wpAny_bind (wpAny_of_eq (hs x) (wpAny_bind (wpAny_holding (wpAny_mono p₄ (fun it1 z₅ p₅ => ?_) fun _ _ hh => hh))))))
      refine wpAny_bind (wpAny_runOwn ?_)
      rw [Around.mark_none]
      refine codeAny_mono p₅ fun r s' hr => ?_
      cases r with
      | ok f =>
        first
          | exact wpAny_pure ⟨rfl, hr⟩
          | exact wpAny_bind (wpAny_pure (wpAny_pure ⟨rfl, hr⟩))
      | error e => exact hr.elim
/-- the loop of the second -/
theorem compLoop2D_in (I : Nat → Shared → Prop)
    (turn : ∀ n s, I n s → wpAny (model prog w) A (pyNext it) (fun r z₁ => match r with
      | none => R (.ok .next) z₁
      | some v => wpAny (model prog w) A (letOwnedTupleGo tgB it v) (fun _ z₁' => wpAny (model prog w) A (assign tgB env v) (fun _ z₂ =>
          wpAny (model prog w) A (forIn ifsB true fun c r => if r = true then do let ok ← isTrue c env (eval c env); pure (ForInStep.yield ok) else pure (ForInStep.yield r)) (fun ok z₃ =>
            if ok = true then wpAny (model prog w) A (eval kx env) (fun kv z₄ => wpAny (model prog w) A (eval vx env) (fun vv z₅ =>
              wpAny (model prog w) A (dictSet D kv vv) (fun _ z₆ => ∃ m, m < n ∧ I m z₆) (notedBy (model prog w) A env fun e s' => R (.error e) s') z₅) (notedBy (model prog w) A env fun e s' => R (.error e) s') z₄) (notedBy (model prog w) A env fun e s' => R (.error e) s') z₃
            else ∃ m, m < n ∧ I m z₃) (notedBy (model prog w) A env fun e s' => R (.error e) s') z₂) (notedBy (model prog w) A env fun e s' => R (.error e) s') z₁') (notedBy (model prog w) A env fun e s' => R (.error e) s') z₁) (notedBy (model prog w) A env fun e s' => R (.error e) s') s)
    (n : Nat) (h : I n s) :
    codeAny (model prog w) A (.compLoop (.DictComp kx vx [⟨tgA, itA, ifsA, 0⟩, ⟨tgB, itB, ifsB, 0⟩] scope pos) 1 it (.ref D) env) R s := by
  refine codeAny_loop rfl I (fun n s hI => ?_) n h
  show wpAny _ A ((compTurn (.DictComp kx vx [⟨tgA, itA, ifsA, 0⟩, ⟨tgB, itB, ifsB, 0⟩] scope pos) 1 it (.ref D) env).onRaise (fun x => do noteFrame x env; theTreesLotGoes x)) _ _ s
  refine wpAny_noted ?_
  rw [compTurn2D_in]
  refine wpAny_bind (wpAny_standAt (wpAny_bind (wpAny_mono (turn n s hI) (fun r z₁ p₁ => ?_) fun _ _ hh => hh)))
  cases r with
  | none => exact wpAny_pure p₁
  | some v =>
    refine wpAny_bind (wpAny_mono p₁ (fun _ z₁' p₁' => ?_) fun _ _ hh => hh)
    refine wpAny_bind (wpAny_mono p₁' (fun _ z₂ p₂ => wpAny_bind (wpAny_mono p₂ (fun ok z₃ p₃ => ?_) fun _ _ hh => hh)) fun _ _ hh => hh)
    cases ok with
    | false => exact wpAny_pure ⟨rfl, p₃⟩
    | true =>
      exact wpAny_bind (wpAny_bind (wpAny_mono p₃ (fun kv z₄ p₄ => wpAny_bind (wpAny_holding (wpAny_mono p₄ (fun vv z₅ p₅ => wpAny_bind (wpAny_standAt (wpAny_holding (wpAny_mono p₅ (fun _ z₆ p₆ => wpAny_pure ⟨rfl, p₆⟩) fun _ _ hh => hh)))) fun _ _ hh => hh))) fun _ _ hh => hh))
/-- the second clause's start -/
theorem compStart1D_ok (h0 : codeAny (model prog w) A (.compLoop (.DictComp kx vx [⟨tgA, itA, ifsA, 0⟩, ⟨tgB, itB, ifsB, 0⟩] scope pos) 1 it (.ref D) env) R s)
    (h : wpAny (model prog w) A (pyIter it) (fun it' s' => codeAny (model prog w) A (.compLoop (.DictComp kx vx [⟨tgA, itA, ifsA, 0⟩, ⟨tgB, itB, ifsB, 0⟩] scope pos) 1 it' (.ref D) env) R s')
      (notedBy (model prog w) A env fun x s' => R (.error x) s') s) :
    codeAny (model prog w) A (.compStart (.DictComp kx vx [⟨tgA, itA, ifsA, 0⟩, ⟨tgB, itB, ifsB, 0⟩] scope pos) 1 it (.ref D) env) R s := by
  refine codeAny_of_tree ?_
  show wpAny _ _ ((compStart (.DictComp kx vx [⟨tgA, itA, ifsA, 0⟩, ⟨tgB, itB, ifsB, 0⟩] scope pos) 1 it (.ref D) env).onRaise (fun x => do noteFrame x env; standAt theWindowsPlace)) _ _ s
  refine wpAny_notedAt ?_
  unfold compStart
  show wpAny _ _ (ask >>= _) _ _ s
  refine wpAny_bind (wpAny_askSetting (wpAny_ite ?_))
  split
  · first
      | exact wpAny_bind (wpAny_pure (wpAny_pure (And.intro rfl h0)))
      | exact wpAny_pure (And.intro rfl h0)
  · first
      | exact wpAny_bind (wpAny_rule (wpAny_bind (wpAny_standAt (wpAny_bind (wpAny_mono h (fun it' s' h' => wpAny_pure (And.intro rfl h')) fun _ _ x => x)))))
      | (refine wpAny_bind (wpAny_rule ?_); show wpAny _ _ (standAt itB.pos >>= _) _ _ s; exact wpAny_bind (wpAny_standAt (wpAny_bind (wpAny_mono h (fun it' s' h' => wpAny_pure (And.intro rfl h')) fun _ _ x => x))))
end
section
variable {X : Cx}
theorem dg2_core {o0 : HO} (h0 : o0 = .dK [] ∨ o0 = .dT []) (hu : X.A.units + 1 < cLine) {pins : List (Addr × Obj)} {s : Shared} {σ : L2.St} {H : Hp} {Q : VK} {kx vx tg iter tg1 iter1 : Expr} {ifs ifs1 : List Expr} {scope : Scope} {own : List (Str × Nat)} {vs1 : List Nat} {pos pos' : Pos} {wi wi1 : TI} {g g1 : TG} {tt tt1 : TT} {tk tv : TE} {use : Option (Value → Sem Unit)} {Qf : Value → Shared → Prop}
    (hc : X.calm = true) (hN : X.N.Nodup) (Iv : Inv X pins σ H s) (hi : PI X tg iter wi) (ok : BlkOk X.N X.env.scope scope own) (hv : ∀ i ∈ vs1, i ∈ own.map (·.2))
    (hg : ∀ (s : Shared) (H : Hp) (C : Addr) (cl : List (Str × Addr)) (afp : List Addr), PG (X.blk s H scope (compEnvC scope cl C X.env) afp) tg g) (ht : ∀ (s : Shared) (H : Hp) (C : Addr) (cl : List (Str × Addr)) (afp : List Addr), PTs (X.blk s H scope (compEnvC scope cl C X.env) afp) ifs tt)
    (hk : ∀ (s : Shared) (H : Hp) (C : Addr) (cl : List (Str × Addr)) (afp : List Addr), PE (X.blk s H scope (compEnvC scope cl C X.env) afp) kx tk)
    (he : ∀ (s : Shared) (H : Hp) (C : Addr) (cl : List (Str × Addr)) (afp : List Addr), PE (X.blk s H scope (compEnvC scope cl C X.env) afp) vx tv) (hs : ∀ x, foldedSetIterable iter X.env x = pure x)
    (hi1 : ∀ (s : Shared) (H : Hp) (C : Addr) (cl : List (Str × Addr)) (afp : List Addr), PI (X.blk s H scope (compEnvC scope cl C X.env) afp) tg1 iter1 wi1)
    (hg1 : ∀ (s : Shared) (H : Hp) (C : Addr) (cl : List (Str × Addr)) (afp : List Addr), PG (X.blk s H scope (compEnvC scope cl C X.env) afp) tg1 g1)
    (ht1 : ∀ (s : Shared) (H : Hp) (C : Addr) (cl : List (Str × Addr)) (afp : List Addr), PTs (X.blk s H scope (compEnvC scope cl C X.env) afp) ifs1 tt1)
    (hs1 : ∀ env x, foldedSetIterable iter1 env x = pure x)
    (h : tDg2 o0 wi g tt wi1 g1 tt1 tk tv (own.map (·.2)) vs1 σ H Q)
    (ahRR : ∀ D C s' m H', Inv X pins σ H' s' → Q (.ref D) H' → s'.heap.Ns C m → FpOk X pins H' C → compPost (model X.prog X.w) X.A X.xe use Qf (.ref D) C (.ok .next) s') :
    wpAny (model X.prog X.w) X.A (comprehension (.DictComp kx vx [⟨tg, iter, ifs, 0⟩, ⟨tg1, iter1, ifs1, 0⟩] scope pos) scope X.env pos' newDict false (eval iter X.env) use) Qf X.xe s := by
  have ahfree : ∀ y ∈ scope.names, y.2 = .free → ∃ c, X.env.cells.lookup y.1 = some c := fun y hy e => by
    rcases ok.free y hy e with k | k
    · exact Iv.ok.has _ (.inl k)
    · exact Iv.ok.has _ (.inr k)
  refine wpAny_comprehension_free (use := use) rfl hs (closure_ok ahfree) ok.kind (fun y hy e => by rw [ok.uniq y hy, e])
    (thn (hi.run pins s σ H _ Iv h) fun xv as1 hx => thn hx fun itv as2 ah2 => ?_)
  obtain ⟨it, afp, atn, aJ, aH2, e, aI2, aT, ast2, af2, q⟩ := ah2
  subst e
  refine wpAny_newObj_type (newEnv_comp ?_)
  generalize ahD : as2.heap.objs.size = D
  have ahDn : aH2 D = none := aI2.hok.fresh (Nat.le_of_eq ahD)
  obtain ⟨aW, ⟨am0, aw0⟩, aturn⟩ := q D ahDn
  -- the new list
  generalize ahs3 : ({ as2 with heap := as2.heap.push { cls := .type "dict", data := .dict #[] } } : Shared) = as3
  have aI3 : Inv X pins σ (upd aH2 D o0) as3 := by
    rw [← ahs3]
    refine aI2.laid (t' := as2.toks) (fun b o e => Heap.get?_push_of_some _ e) (Nat.le_of_eq ahD) ?_
    rw [← ahD]
    exact no_empty h0 aI2.big
  have ah3 : as3.heap = as2.heap.push { cls := .type "dict", data := .dict #[] } := by rw [← ahs3]
  have asz : ∀ b ∈ afp, b < as2.heap.objs.size := fun b hb => by
    obtain ⟨o, e, _⟩ := aT.obj _ _ ast2 b hb
    exact Heap.lt_size e
  have af3 : ∀ b ∈ afp, FpOk X pins (upd aH2 D o0) b ∧ b < as3.heap.objs.size := fun b hb => by
    have hlt := asz b hb
    refine ⟨⟨?_, (af2 b hb).2⟩, by rw [ah3, Heap.size_push]; exact Nat.lt_succ_of_lt hlt⟩
    rw [upd_ne (by rw [← ahD]; exact Nat.ne_of_lt hlt)]
    exact (af2 b hb).1
  have ast3 : atn 0 as3.heap := aT.keep _ _ _ ast2 fun b _ o e => by rw [ah3]; exact Heap.get?_push_of_some _ e
  have aI4 := block_start aI3 ok hN af3
  have apg := hg as3 (upd aH2 D o0) as3.heap.objs.size (cellsFrom (as3.heap.objs.size + 1) scope.names (cloFrom X.env.cells scope.names [])) afp
  have apt := ht as3 (upd aH2 D o0) as3.heap.objs.size (cellsFrom (as3.heap.objs.size + 1) scope.names (cloFrom X.env.cells scope.names [])) afp
  have apk := hk as3 (upd aH2 D o0) as3.heap.objs.size (cellsFrom (as3.heap.objs.size + 1) scope.names (cloFrom X.env.cells scope.names [])) afp
  have ape := he as3 (upd aH2 D o0) as3.heap.objs.size (cellsFrom (as3.heap.objs.size + 1) scope.names (cloFrom X.env.cells scope.names [])) afp
  have api1 := hi1 as3 (upd aH2 D o0) as3.heap.objs.size (cellsFrom (as3.heap.objs.size + 1) scope.names (cloFrom X.env.cells scope.names [])) afp
  have apg1 := hg1 as3 (upd aH2 D o0) as3.heap.objs.size (cellsFrom (as3.heap.objs.size + 1) scope.names (cloFrom X.env.cells scope.names [])) afp
  have apt1 := ht1 as3 (upd aH2 D o0) as3.heap.objs.size (cellsFrom (as3.heap.objs.size + 1) scope.names (cloFrom X.env.cells scope.names [])) afp
  show codeAny _ _ (.compStart (.DictComp kx vx [⟨tg, iter, ifs, 0⟩, ⟨tg1, iter1, ifs1, 0⟩] scope pos) 0 (.ref it) (.ref D) (compEnvC scope (cellsFrom (as3.heap.objs.size + 1) scope.names (cloFrom X.env.cells scope.names [])) as3.heap.objs.size X.env)) (compPost (model X.prog X.w) X.A X.xe use Qf (.ref D) as3.heap.objs.size) { as3 with heap := pushCells (as3.heap.push { cls := .type "dict", data := .dict #[] }) scope.names }
  have anfp : ∀ b ∈ afp, (upd aH2 D o0) b = none := fun b hb => (af3 b hb).1.1
  generalize ahce : compEnvC scope (cellsFrom (as3.heap.objs.size + 1) scope.names (cloFrom X.env.cells scope.names [])) as3.heap.objs.size X.env = ace at aI4 apg apt apk ape api1 apg1 apt1 ⊢
  have acL : ace.locals = as3.heap.objs.size := by subst ahce; rfl
  generalize ahH3 : upd aH2 D o0 = aH3 at aI3 aI4 apg apt apk ape api1 apg1 apt1 aw0 anfp af3
  generalize ahs4 : ({ as3 with heap := pushCells (as3.heap.push { cls := .type "dict", data := .dict #[] }) scope.names } : Shared) = as4 at aI4 ⊢
  have ast4 : atn 0 as4.heap := aT.keep _ _ _ ast3 fun b _ o e => by rw [← ahs4]; exact pushCells_keeps _ _ _ _ (Heap.get?_push_of_some _ e)
  have astat : ∀ {σ' : L2.St} {H' : Hp} {s' : Shared}, Inv (X.blk as3 aH3 scope ace afp) [] σ' H' s' → (∀ b ∈ afp, H' b = none) → ∀ b ∈ afp, FpOk (X.blk as3 aH3 scope ace afp) [] H' b := fun {σ' H' s'} Iw ahn b hb =>
    ⟨ahn b hb, (Iw.ok.exf b hb).1, Iw.ok.exfs b hb, .inl hb, fun x c e => (Iw.ok.exf b hb).2 x c e, fun p hp => absurd (show p ∈ ([] : List (Addr × Obj)) ++ [] from hp) (by simp)⟩
  have aloop : codeAny (model X.prog X.w) X.A (.compLoop (.DictComp kx vx [⟨tg, iter, ifs, 0⟩, ⟨tg1, iter1, ifs1, 0⟩] scope pos) 0 (.ref it) (.ref D) ace) (compPost (model X.prog X.w) X.A X.xe use Qf (.ref D) as3.heap.objs.size) as4 := by
    refine compLoop2D_out (hs1 ace) (fun n s' => ∃ i H', Inv (X.blk as3 aH3 scope ace afp) [] (wipe σ (own.map (·.2))) H' s' ∧ atn i s'.heap ∧ (∀ b ∈ afp, H' b = none) ∧ aW i n H') ?_ am0 ⟨0, aH3, aI4, ast4, anfp, aw0⟩
    rintro n as5 ⟨i, aH5, aI5, ast5, an5, aw5⟩
    rcases aturn i n aH5 aw5 with ⟨astop, qq⟩ | ⟨ago, aNx, ahNx, astep⟩
    · have td := aT.done (X.blk as3 aH3 scope ace afp) rfl rfl rfl hc i [] as5 _ aH5 (fun _ _ => False) aI5 (astat aI5 an5) ast5 astop
      refine thnF td fun r as6 ⟨hr, aI6⟩ => ?_
      subst hr
      -- back in the def's context
      have aI7 : Inv X pins σ aH5 as6 := aI3.call' (ch := afp) aI6.os aI6.base aI6.hok aI6.bare fun b hb => ⟨(af3 b hb).1.2.2.2.1, (af3 b hb).1.2.1, (af3 b hb).1.2.2.2.2.1, (af3 b hb).1.2.2.2.2.2⟩
      have anC : aH5 as3.heap.objs.size = none := by
        have z : aH5 ace.locals = none := aI6.free
        rw [acL] at z
        exact z
      obtain ⟨m, ahn, _⟩ := aI6.loc
      have ahn : as6.heap.Ns ace.locals m := ahn
      rw [acL] at ahn
      exact ahRR D as3.heap.objs.size as6 m aH5 aI7 qq ahn (aI3.fpOk (Nat.le_refl _) anC)
    · have ti := aT.item (X.blk as3 aH3 scope ace afp) rfl rfl rfl hc i [] as5 _ aH5 (fun _ _ => False) aI5 (astat aI5 an5) ast5 ago
      refine thnF ti fun r as6 ⟨u, hr, ah6⟩ => ?_
      subst hr
      refine thnF ah6 fun _ as7 ⟨x, aH7, aI7, ar7, ay7, ast7, an7⟩ => ?_
      have aI7' := aI7.pinned (astat aI7 an7) (aT.obj _ _ ast7)
      refine thnF (apg.run _ as7 _ aH7 x u _ aI7' ar7 (astep x aH7 ay7)) fun _ as8 ⟨σ8, aH8, aI8, ahw8, aq8⟩ => ?_
      refine thnF (apt.run _ as8 σ8 aH8 _ aI8 aq8) fun b as9 ⟨aH9, aI9, aq9⟩ => ?_
      -- the turn's end, from any slots that know what the block knew at its start
      have afin : ∀ {σ9 : L2.St} {s' : Shared} {H' : Hp}, Inv (X.blk as3 aH3 scope ace afp) ([] ++ pinsAt afp as7.heap) σ9 H' s' → (wipe σ (own.map (·.2))).length = σ9.length → (∀ (j : Nat) v, (wipe σ (own.map (·.2)))[j]? = some (some v) → σ9[j]? = some (some v)) → aNx H' →
          ∃ m, m < n ∧ ∃ i H', Inv (X.blk as3 aH3 scope ace afp) [] (wipe σ (own.map (·.2))) H' s' ∧ atn i s'.heap ∧ (∀ b ∈ afp, H' b = none) ∧ aW i m H' := fun {σ9 s' H'} Iw hl hk nx => by
        obtain ⟨m', hm, w'⟩ := ahNx H' nx
        have pin' : ∀ b ∈ afp, ∀ o, as7.heap.get? b = some o → s'.heap.get? b = some o ∧ H' b = none := fun b hb o e =>
          let z := Iw.pin (b, o) (List.mem_append_right _ (List.mem_append_right _ (mem_pinsAt hb e)))
          ⟨z.1, z.2.1⟩
        refine ⟨m', hm, i + 1, H', (Iw.unpinned (pins := [])).weak hl hk, aT.keep _ _ _ ast7 fun b hb o e => (pin' b hb o e).1, fun b hb => ?_, w'⟩
        obtain ⟨o, e, _⟩ := aT.obj _ _ ast7 b hb
        exact (pin' b hb o e).2
      have ahl8 : (wipe σ (own.map (·.2))).length = σ8.length := by rw [← ahw8, wipe_length]
      have ahk8 : ∀ (j : Nat) v, (wipe σ (own.map (·.2)))[j]? = some (some v) → σ8[j]? = some (some v) := fun j v e => by
        rw [← ahw8] at e
        exact (wipe_some e).1
      have ahk9 : ∀ (j : Nat) v, (wipe σ (own.map (·.2)))[j]? = some (some v) → (wipe σ8 vs1)[j]? = some (some v) := fun j v e => by
        rw [← ahw8] at e
        obtain ⟨ae1, ae2⟩ := wipe_some e
        rw [wipe_out fun z => ae2 (hv j z)]
        exact ae1
      cases b with
      | false =>
        simp only [Bool.false_eq_true, if_false] at aq9 ⊢
        exact afin aI9 ahl8 ahk8 aq9
      | true =>
        simp only [if_true] at aq9 ⊢
        refine thnF (api1.run _ as9 σ8 aH9 _ aI9 aq9) fun xv as10 hx => thnF hx fun itv as11 ah11 => ?_
        obtain ⟨it1, afp1, atn1, aJ1, aH11, ae1, aI11, aT1, ast11, af11, aW1, ⟨am1, aw1⟩, aturn1⟩ := ah11
        subst ae1
        -- the inner aloop
        have astat1 : ∀ {H' : Hp}, (∀ b ∈ afp1, H' b = none) → ∀ b ∈ afp1, FpOk (X.blk as3 aH3 scope ace afp) ([] ++ pinsAt afp as7.heap) H' b := fun ahn b hb => ⟨ahn b hb, (af11 b hb).2⟩
        have aloop1 : codeAny (model X.prog X.w) X.A (.compLoop (.DictComp kx vx [⟨tg, iter, ifs, 0⟩, ⟨tg1, iter1, ifs1, 0⟩] scope pos) 1 (.ref it1) (.ref D) ace)
            (fun r s' => match r with
              | .ok _ => ∃ m, m < n ∧ ∃ i H', Inv (X.blk as3 aH3 scope ace afp) [] (wipe σ (own.map (·.2))) H' s' ∧ atn i s'.heap ∧ (∀ b ∈ afp, H' b = none) ∧ aW i m H'
              | .error _ => False) as11 := by
          refine compLoop2D_in (fun k s' => ∃ j H', Inv (X.blk as3 aH3 scope ace afp) ([] ++ pinsAt afp as7.heap) (wipe σ8 vs1) H' s' ∧ atn1 j s'.heap ∧ (∀ b ∈ afp1, H' b = none) ∧ aW1 j k H') ?_ am1 ⟨0, aH11, aI11.weak (wipe_length _ _) (fun j v e => (wipe_some e).1), ast11, fun b hb => (af11 b hb).1, aw1⟩
          rintro k as12 ⟨j, aH12, aI12, ast12, an12, aw12⟩
          rcases aturn1 j k aH12 aw12 with ⟨astop1, nx1⟩ | ⟨ago1, aNx1, ahNx1, astep1⟩
          · refine thnF (aT1.done (X.blk as3 aH3 scope ace afp) rfl rfl rfl hc j _ as12 (wipe σ8 vs1) aH12 (fun _ _ => False) aI12 (astat1 an12) ast12 astop1) fun r as13 ⟨hr, aI13⟩ => ?_
            subst hr
            exact afin aI13 (ahl8.trans (wipe_length σ8 vs1).symm) ahk9 nx1
          · refine thnF (aT1.item (X.blk as3 aH3 scope ace afp) rfl rfl rfl hc j _ as12 (wipe σ8 vs1) aH12 (fun _ _ => False) aI12 (astat1 an12) ast12 ago1) fun r as13 ⟨au1, hr, ah13⟩ => ?_
            subst hr
            refine thnF ah13 fun _ as14 ⟨ax1, aH14, aI14, ar14, ay14, ast14, an14⟩ => ?_
            have aI14' := aI14.pinned (astat1 an14) (aT1.obj _ _ ast14)
            refine thnF (apg1.run _ as14 (wipe σ8 vs1) aH14 ax1 au1 _ aI14' ar14 (astep1 ax1 aH14 ay14)) fun _ as15 ⟨σ15, aH15, aI15, ahw15, aq15⟩ => ?_
            refine thnF (apt1.run _ as15 σ15 aH15 _ aI15 aq15) fun b1 as16 ⟨aH16, aI16, aq16⟩ => ?_
            have afin1 : ∀ {s' : Shared} {H' : Hp}, Inv (X.blk as3 aH3 scope ace afp) (([] ++ pinsAt afp as7.heap) ++ pinsAt afp1 as14.heap) σ15 H' s' → aNx1 H' → ∃ m, m < k ∧ ∃ j H', Inv (X.blk as3 aH3 scope ace afp) ([] ++ pinsAt afp as7.heap) (wipe σ8 vs1) H' s' ∧ atn1 j s'.heap ∧ (∀ b ∈ afp1, H' b = none) ∧ aW1 j m H' := fun {s' H'} Iw nx => by
              obtain ⟨m', hm, w'⟩ := ahNx1 H' nx
              have pin' : ∀ b ∈ afp1, ∀ o, as14.heap.get? b = some o → s'.heap.get? b = some o ∧ H' b = none := fun b hb o e =>
                let z := Iw.pin (b, o) (List.mem_append_right _ (List.mem_append_right _ (mem_pinsAt hb e)))
                ⟨z.1, z.2.1⟩
              refine ⟨m', hm, j + 1, H', Iw.unpinned.weak (by rw [← ahw15, wipe_length]) (fun j v e => by rw [← ahw15] at e; exact (wipe_some e).1), aT1.keep _ _ _ ast14 fun b hb o e => (pin' b hb o e).1, fun b hb => ?_, w'⟩
              obtain ⟨o, e, _⟩ := aT1.obj _ _ ast14 b hb
              exact (pin' b hb o e).2
            cases b1 with
            | false =>
              simp only [Bool.false_eq_true, if_false] at aq16 ⊢
              exact afin1 aI16 aq16
            | true =>
              simp only [if_true] at aq16 ⊢
              refine thnF (apk.run _ as16 σ15 aH16 _ aI16 aq16) fun zk as17 ⟨yk, aH17, aI17, ar17, aq17⟩ => ?_
              refine thnF (ape.run _ as17 σ15 aH17 _ aI17 aq17) fun zv as18 ⟨yv, aH18, aI18, ar18, aH19, g19, nx⟩ => ?_
              exact d_dset (X := X.blk as3 aH3 scope ace afp) hu aI18 g19 ar17 ar18 fun as20 aI20 => afin1 aI20 nx
        exact compStart1D_ok aloop1 (aT1.self X.A 0 _ _ _ ast11 aloop1)
  exact codeAny_compStart_dict aloop (aT.self X.A 0 _ _ _ ast4 aloop)
theorem pe_dg {o0 : HO} (h0 : o0 = .dK [] ∨ o0 = .dT []) (hu : X.A.units + 1 < cLine) {kx vx tg iter : Expr} {ifs : List Expr} {scope : Scope} {own : List (Str × Nat)} {pos : Pos} {wi : TI} {g : TG} {tt : TT} {tk tv : TE} (hc : X.calm = true) (hN : X.N.Nodup) (hi : PI X tg iter wi) (ok : BlkOk X.N X.env.scope scope own)
    (hg : ∀ (s : Shared) (H : Hp) (C : Addr) (cl : List (Str × Addr)) (ch : List Addr), PG (X.blk s H scope (compEnvC scope cl C X.env) ch) tg g) (ht : ∀ (s : Shared) (H : Hp) (C : Addr) (cl : List (Str × Addr)) (ch : List Addr), PTs (X.blk s H scope (compEnvC scope cl C X.env) ch) ifs tt)
    (hk : ∀ (s : Shared) (H : Hp) (C : Addr) (cl : List (Str × Addr)) (ch : List Addr), PE (X.blk s H scope (compEnvC scope cl C X.env) ch) kx tk)
    (he : ∀ (s : Shared) (H : Hp) (C : Addr) (cl : List (Str × Addr)) (ch : List Addr), PE (X.blk s H scope (compEnvC scope cl C X.env) ch) vx tv) (hs : ∀ x, foldedSetIterable iter X.env x = pure x := by intro _; rfl) :
    PE X (.DictComp kx vx [⟨tg, iter, ifs, 0⟩] scope pos) (tDg o0 wi g tt tk tv (own.map (·.2))) := by
  refine ⟨fun pins s σ H Q Iv h => ?_⟩
  rw [arm_eval_DictComp]
  refine dg_core h0 hu hc hN Iv hi ok hg ht hk he hs h fun D C s' m H' Iw q hn f => ⟨m, hn, fun h'' sb => ?_⟩
  obtain ⟨g0, g1, g2, g3, g4, g5⟩ := f
  exact ⟨.ref D, H', Iw.turned (t' := s'.toks) (fun b o hb e => (sb.2 b hb).trans e) g0 g1 g3 g4 g5, rfl, q⟩
theorem pe_dg2 {o0 : HO} (h0 : o0 = .dK [] ∨ o0 = .dT []) (hu : X.A.units + 1 < cLine) {kx vx tg iter tg1 iter1 : Expr} {ifs ifs1 : List Expr} {scope : Scope} {own : List (Str × Nat)} {vs1 : List Nat} {pos : Pos} {wi wi1 : TI} {g g1 : TG} {tt tt1 : TT} {tk tv : TE} (hc : X.calm = true) (hN : X.N.Nodup) (hi : PI X tg iter wi) (ok : BlkOk X.N X.env.scope scope own) (hv : ∀ i ∈ vs1, i ∈ own.map (·.2))
    (hg : ∀ (s : Shared) (H : Hp) (C : Addr) (cl : List (Str × Addr)) (ch : List Addr), PG (X.blk s H scope (compEnvC scope cl C X.env) ch) tg g) (ht : ∀ (s : Shared) (H : Hp) (C : Addr) (cl : List (Str × Addr)) (ch : List Addr), PTs (X.blk s H scope (compEnvC scope cl C X.env) ch) ifs tt)
    (hk : ∀ (s : Shared) (H : Hp) (C : Addr) (cl : List (Str × Addr)) (ch : List Addr), PE (X.blk s H scope (compEnvC scope cl C X.env) ch) kx tk)
    (he : ∀ (s : Shared) (H : Hp) (C : Addr) (cl : List (Str × Addr)) (ch : List Addr), PE (X.blk s H scope (compEnvC scope cl C X.env) ch) vx tv)
    (hi1 : ∀ (s : Shared) (H : Hp) (C : Addr) (cl : List (Str × Addr)) (ch : List Addr), PI (X.blk s H scope (compEnvC scope cl C X.env) ch) tg1 iter1 wi1)
    (hg1 : ∀ (s : Shared) (H : Hp) (C : Addr) (cl : List (Str × Addr)) (ch : List Addr), PG (X.blk s H scope (compEnvC scope cl C X.env) ch) tg1 g1) (ht1 : ∀ (s : Shared) (H : Hp) (C : Addr) (cl : List (Str × Addr)) (ch : List Addr), PTs (X.blk s H scope (compEnvC scope cl C X.env) ch) ifs1 tt1)
    (hs : ∀ x, foldedSetIterable iter X.env x = pure x := by intro _; rfl) (hs1 : ∀ env x, foldedSetIterable iter1 env x = pure x := by intro _ _; rfl) :
    PE X (.DictComp kx vx [⟨tg, iter, ifs, 0⟩, ⟨tg1, iter1, ifs1, 0⟩] scope pos) (tDg2 o0 wi g tt wi1 g1 tt1 tk tv (own.map (·.2)) vs1) := by
  refine ⟨fun pins s σ H Q Iv h => ?_⟩
  rw [arm_eval_DictComp]
  refine dg2_core h0 hu hc hN Iv hi ok hv hg ht hk he hs hi1 hg1 ht1 hs1 h fun D C s' m H' Iw q hn f => ⟨m, hn, fun h'' sb => ?_⟩
  obtain ⟨g0, g1, g2, g3, g4, g5⟩ := f
  exact ⟨.ref D, H', Iw.turned (t' := s'.toks) (fun b o hb e => (sb.2 b hb).trans e) g0 g1 g3 g4 g5, rfl, q⟩
end
end DLK
set_option Elab.async false
set_option linter.all false
set_option maxRecDepth 100000
set_option maxHeartbeats 2000000
namespace DL
open PySem PySem.Spec L2 DLK
def putM (m : MO) (k v : D) : Option MO := match m with
  | .dK kvs => (keyOf k).bind fun k' => if kvs.length < sizeLine then some (.dK (putD kvs k' v)) else none
  | .dT kvs => (match k with
    | .tup ks => (keysOf ks).bind fun k' => if kvs.length < sizeLine then some (.dT (putD kvs k' v)) else none
    | _ => none)
  | _ => none
theorem putM_ok {K : PySem.W.Frag} {F : Hp} {S : Store} {H : Hp} (s : Sep K F S H) {p : Addr} {m m' : MO} {o : HO} {k v : D} {y z : V} (hp : H p = some o) (r : RpM K F m o) (hm : putM m k v = some m') (rk : Rp K F k y) (rv : Rp K F v z) :
    ∃ o', DPut H p y z (upd H p o') ∧ RpM K F m' o' := by
  cases m with
  | dK kvs =>
    obtain ⟨ws, rfl, q⟩ := r
    unfold putM at hm
    cases ek : keyOf k with
    | none => simp only [ek] at hm; cases hm
    | some k' =>
      simp only [ek] at hm
      by_cases hl : kvs.length < sizeLine
      · have hm : (if kvs.length < sizeLine then some (MO.dK (putD kvs k' v)) else none) = some m' := hm
        rw [if_pos hl] at hm
        cases hm
        exact ⟨_, .inl ⟨ws, k', hp, key_rp ek rk, by rw [rpK_len q]; exact hl, rfl⟩, _, rfl, rpK_put rv q⟩
      · have hm : (if kvs.length < sizeLine then some (MO.dK (putD kvs k' v)) else none) = some m' := hm
        rw [if_neg hl] at hm
        cases hm
  | dT kvs =>
    obtain ⟨ws, rfl, q⟩ := r
    cases k with
    | tup ks =>
      unfold putM at hm
      cases ek : keysOf ks with
      | none => simp only [ek] at hm; cases hm
      | some k' =>
        simp only [ek] at hm
        by_cases hl : kvs.length < sizeLine
        · have hm : (if kvs.length < sizeLine then some (MO.dT (putD kvs k' v)) else none) = some m' := hm
          rw [if_pos hl] at hm
          cases hm
          obtain ⟨b, us, rfl, g1, g2⟩ := rp_tup rk
          rw [keys_rp ek g2] at g1
          exact ⟨_, .inr ⟨ws, k', b, hp, rfl, s.fz _ _ g1, by rw [rpT_len q]; exact hl, rfl⟩, _, rfl, rpT_put rv q⟩
        · have hm : (if kvs.length < sizeLine then some (MO.dT (putD kvs k' v)) else none) = some m' := hm
          rw [if_neg hl] at hm
          cases hm
    | _ => cases hm
  | _ => cases hm
/-- a dict in the making -/
abbrev DNd := Env → Store → (MO → Store → Prop) → Prop
def LkNd (K : PySem.W.Frag) (F : Hp) (S : Store) (H : Hp) (Qd : MO → Store → Prop) (Q : VK) : Prop := ∀ m S' o F' H' p, Qd m S' → Go F S H F' S' H' → Sep K F' S' H' → RpM K F' m o → H' p = none → Q (.ref p) (upd H' p o)
def SimNd (K : PySem.W.Frag) (F0 : Bs) (t : TE) (δ : DNd) : Prop := ∀ σ ρ H F S Q Qd, F0.to F S H → Sep K F S H → Envr K F σ ρ → LkNd K F S H Qd Q → δ ρ S Qd → t σ H Q
structure PNd (X : Cx) (F0 : Bs) (e : Expr) (t : TE) (δ : DNd) : Prop where
  pe : PE X e t
  sim : SimNd X.K F0 t δ
def dFzM (n : DNd) : DE := fun ρ S Q => n ρ S fun m S1 => Q (moD m) S1
def dCellM (n : DNd) : DE := fun ρ S Q => n ρ S fun m S1 => ∀ p, S1 p = none → Q (.ref p) (sup S1 p m)
section
variable {X : Cx} {F0 : Bs} {e : Expr} {te : TE}
theorem PNd.d {n : DNd} (h : PNd X F0 e te n) : PD X F0 e te (dFzM n) := by
  refine ⟨h.pe, ?_⟩
  intro σ ρ H F S Q Qd e0 s en lk q
  refine h.sim σ ρ H F S Q _ e0 s en ?_ q
  intro m S1 o F1 H1 p q1 e1 s1 r1 hp
  obtain ⟨x1, x2⟩ := s1.new (o := o) hp
  exact lk _ S1 _ _ _ q1 (e1.trans (Go.new s1 hp)) x2 (rp_moD (r1.mono x1) upd_same)
theorem PNd.cell {n : DNd} (h : PNd X F0 e te n) : PD X F0 e te (dCellM n) := by
  refine ⟨h.pe, ?_⟩
  intro σ ρ H F S Q Qd e0 s en lk q
  refine h.sim σ ρ H F S Q _ e0 s en ?_ q
  intro m S1 o F1 H1 p q1 e1 s1 r1 hp
  obtain ⟨x1, x2⟩ := s1.newM (o := o) (m := m) hp r1
  exact lk _ _ _ _ _ (q1 p x1) (e1.trans (Go.newM hp)) x2 rp_mk_ref
end
structure LcM (K : PySem.W.Frag) (F1 : Hp) (S1 : Store) (H1 : Hp) (Dl : Addr) (m : MO) (F : Hp) (S : Store) (H : Hp) (o : HO) : Prop where
  go : Go F1 S1 H1 F S (hdrop H Dl)
  hl : H Dl = some o
  fl : F Dl = none
  sl : S Dl = none
  sep : Sep K F S H
  r : RpM K F m o
section
variable {K : PySem.W.Frag} {F1 F F' : Hp} {S1 S S' : Store} {H1 H H' : Hp} {Dl : Addr} {m m' : MO} {o o' : HO}
theorem RpM.notTup {K : PySem.W.Frag} {F : Hp} {m : MO} {o : HO} (r : RpM K F m o) : ∀ vs, o ≠ .tup vs := by
  intro vs e
  subst e
  cases m with
  | lst xs => obtain ⟨_, e, _⟩ := r; cases e
  | dK xs => obtain ⟨_, e, _⟩ := r; cases e
  | dT xs => obtain ⟨_, e, _⟩ := r; cases e
  | ins C dx xs => obtain ⟨_, e, _⟩ := r; cases e
theorem LcM.init (s1 : Sep K F1 S1 H1) (hD : H1 Dl = none) (r : RpM K F1 m o) : LcM K F1 S1 H1 Dl m F1 S1 (upd H1 Dl o) o := by
  have j := LcJ.init s1 hD
  have fD := j.fl
  have sD := j.sl
  refine ⟨⟨Ext.refl _, fun a u h f q nt => ?_⟩, upd_same, fD, sD, ⟨fun a u h => ?_, fun a u h => ?_⟩, r⟩
  · have ne : a ≠ Dl := fun z => by rw [z, hD] at h; cases h
    refine ⟨?_, f, q⟩
    unfold hdrop
    rw [if_neg ne, upd_ne ne]
    exact h
  · have ne : a ≠ Dl := fun z => by rw [z, fD] at h; cases h
    rw [upd_ne ne]; exact s1.fz a u h
  · have ne : a ≠ Dl := fun z => by rw [z, sD] at h; cases h
    obtain ⟨h1, w, h2, h3⟩ := s1.st a u h
    exact ⟨h1, w, by rw [upd_ne ne]; exact h2, h3⟩
theorem LcM.step (j : LcM K F1 S1 H1 Dl m F S H o) (g : Go F S H F' S' H') (s : Sep K F' S' H') : LcM K F1 S1 H1 Dl m F' S' H' o := by
  obtain ⟨k1, k2, k3⟩ := g.2 Dl _ j.hl j.fl j.sl j.r.notTup
  refine ⟨⟨j.go.1.trans g.1, fun a u h f q nt => ?_⟩, k1, k2, k3, s, j.r.mono g.1⟩
  obtain ⟨m1, m2, m3⟩ := j.go.2 a u h f q nt
  have ne : a ≠ Dl := fun z => by rw [z] at m1; unfold hdrop at m1; rw [if_pos rfl] at m1; cases m1
  unfold hdrop at m1
  rw [if_neg ne] at m1
  obtain ⟨p1, p2, p3⟩ := g.2 a u m1 m2 m3 nt
  refine ⟨?_, p2, p3⟩
  unfold hdrop
  rw [if_neg ne]
  exact p1
theorem LcM.put (j : LcM K F1 S1 H1 Dl m F S H o) (r : RpM K F m' o') : LcM K F1 S1 H1 Dl m' F S (upd H Dl o') o' := by
  refine ⟨⟨j.go.1, fun a u h f q nt => ?_⟩, upd_same, j.fl, j.sl, ⟨fun a u h => ?_, fun a u h => ?_⟩, r⟩
  · obtain ⟨m1, m2, m3⟩ := j.go.2 a u h f q nt
    have ne : a ≠ Dl := fun z => by rw [z] at m1; unfold hdrop at m1; rw [if_pos rfl] at m1; cases m1
    refine ⟨?_, m2, m3⟩
    unfold hdrop at m1 ⊢
    rw [if_neg ne] at m1 ⊢
    rw [upd_ne ne]
    exact m1
  · have ne : a ≠ Dl := fun z => by rw [z, j.fl] at h; cases h
    rw [upd_ne ne]; exact j.sep.fz a u h
  · have ne : a ≠ Dl := fun z => by rw [z, j.sl] at h; cases h
    obtain ⟨h1, w, h2, h3⟩ := j.sep.st a u h
    exact ⟨h1, w, by rw [upd_ne ne]; exact h2, h3⟩
theorem LcM.base {F0 : Bs} (j : LcM K F1 S1 H1 Dl m F S H o) (hD : H1 Dl = none) (z : F0.to F1 S1 H1) : F0.to F S H := by
  refine ⟨z.1.trans j.go.1, fun a u h f q nt => ?_⟩
  obtain ⟨m1, m2, m3⟩ := z.2 a u h f q nt
  obtain ⟨p1, p2, p3⟩ := j.go.2 a u m1 m2 m3 nt
  have ne : a ≠ Dl := fun z => by rw [z, hD] at m1; cases m1
  unfold hdrop at p1
  rw [if_neg ne] at p1
  exact ⟨p1, p2, p3⟩
theorem LcM.ext (j : LcM K F1 S1 H1 Dl m F S H o) : Ext F1 F := j.go.1
theorem LcM.done {F0 : Hp} {S0 : Store} {H0 : Hp} {Qd : MO → Store → Prop} {Q : VK} (j : LcM K F1 S1 H1 Dl m F S H o) (lk : LkNd K F0 S0 H0 Qd Q) (e1 : Go F0 S0 H0 F1 S1 H1) (q : Qd m S) : Q (.ref Dl) H := by
  have eH : upd (hdrop H Dl) Dl o = H := by
    funext a
    by_cases h : a = Dl
    · rw [h, upd_same, j.hl]
    · rw [upd_ne h]
      unfold hdrop
      rw [if_neg h]
  have z := lk m S o F (hdrop H Dl) Dl q (e1.trans j.go) ⟨fun a u h => ?_, fun a u h => ?_⟩ j.r (by unfold hdrop; rw [if_pos rfl])
  · rw [eH] at z; exact z
  · have ne : a ≠ Dl := fun z => by rw [z, j.fl] at h; cases h
    unfold hdrop
    rw [if_neg ne]; exact j.sep.fz a u h
  · have ne : a ≠ Dl := fun z => by rw [z, j.sl] at h; cases h
    obtain ⟨h1, w, h2, h3⟩ := j.sep.st a u h
    refine ⟨h1, w, ?_, h3⟩
    unfold hdrop
    rw [if_neg ne]
    exact h2
end
def dDcL (g : DG) (tt : DT) (tk tv : DE) (ρ0 : Env) (Q : MO → Store → Prop) : List D → MO → Store → Prop
  | [] => fun m S => Q m S
  | d :: ds => fun m S => g d ρ0 S fun ρ1 S1 => tt ρ1 S1 fun b S2 => match b with
    | true => tk ρ1 S2 fun k S3 => tv ρ1 S3 fun v S4 => ∃ m', putM m k v = some m' ∧ dDcL g tt tk tv ρ0 Q ds m' S4
    | false => dDcL g tt tk tv ρ0 Q ds m S2
def dDcL2 (g : DG) (tt : DT) (di1 : DI) (g1 : DG) (tt1 : DT) (tk tv : DE) (vs1 : List Nat) (ρ0 : Env) (Q : MO → Store → Prop) : List D → MO → Store → Prop
  | [] => fun m S => Q m S
  | d :: ds => fun m S => g d ρ0 S fun ρ1 S1 => tt ρ1 S1 fun b S2 => match b with
    | true => di1 ρ1 S2 fun ds1 S3 => dDcL g1 tt1 tk tv (dwipe ρ1 vs1) (fun m' S' => dDcL2 g tt di1 g1 tt1 tk tv vs1 ρ0 Q ds m' S') ds1 m S3
    | false => dDcL2 g tt di1 g1 tt1 tk tv vs1 ρ0 Q ds m S2
def nDc (m0 : MO) (di : DI) (g : DG) (tt : DT) (tk tv : DE) (vs : List Nat) : DNd := fun ρ S Q => di ρ S fun ds S1 => dDcL g tt tk tv (dwipe ρ vs) Q ds m0 S1
def nDc2 (m0 : MO) (di : DI) (g : DG) (tt : DT) (di1 : DI) (g1 : DG) (tt1 : DT) (tk tv : DE) (vs vs1 : List Nat) : DNd := fun ρ S Q => di ρ S fun ds S1 => dDcL2 g tt di1 g1 tt1 tk tv vs1 (dwipe ρ vs) Q ds m0 S1
/-- the empty dict of a kind -/
inductive Emp : MO → HO → Prop where
  | k : Emp (.dK []) (.dK [])
  | t : Emp (.dT []) (.dT [])
theorem Emp.or {m : MO} {o : HO} (h : Emp m o) : o = .dK [] ∨ o = .dT [] := by cases h; exact .inl rfl; exact .inr rfl
theorem Emp.rp {K : PySem.W.Frag} {F : Hp} {m : MO} {o : HO} (h : Emp m o) : RpM K F m o := by
  cases h
  · exact ⟨[], rfl, rpK_nil.mpr rfl⟩
  · exact ⟨[], rfl, rpT_nil.mpr rfl⟩
section
variable {K : PySem.W.Frag} {F0 : Bs} {wi wi1 : TI} {di di1 : DI} {g g1 : TG} {dg dg1 : DG} {tt tt1 : TT} {dt dt1 : DT} {tk tv : TE} {dk dv : DE} {vs vs1 : List Nat} {m0 : MO} {o0 : HO}
theorem sim_dc (h0 : Emp m0 o0) (hi : SimI K F0 wi di) (hg : SimGv K F0 vs g dg) (ht : SimT K F0 tt dt) (hk : SimE K F0 tk dk) (hv : SimE K F0 tv dv) : SimNd K F0 (tDg o0 wi g tt tk tv vs) (nDc m0 di dg dt dk dv vs) := by
  intro σ ρ H F S Q Qd e0 s en lk q
  refine hi σ ρ H F S _ _ e0 s en ?_ q
  intro ds S1 J F1 H1 q1 e1 s1 wk Dl hD
  obtain ⟨G, Y, w, hG, hY⟩ := wk.ex
  have z0 : F0.to F1 S1 H1 := e0.trans e1
  refine walk_by w (fun i H' => ∃ m S' F' o, LcM K F1 S1 H1 Dl m F' S' H' o ∧ dDcL dg dt dk dv (dwipe ρ vs) Qd (ds.drop i) m S')
    ⟨m0, S1, F1, o0, LcM.init s1 hD h0.rp, by rw [List.drop_zero]; exact q1⟩ (fun i H' _ ⟨m, S', F', o, j, _⟩ => hG F' S' H' j.ext j.sep) ?_ ?_
  · rintro i x H' H2 hlt ⟨m, S', F', o, j, q'⟩ hy
    obtain ⟨F2, d, g2, s2, hd, r2⟩ := hY i H' x H2 F' S' hlt j.ext j.sep hy
    rw [drop_got hlt hd] at q'
    have j2 := j.step g2 s2
    refine hg x d (wipe σ vs) (dwipe ρ vs) H2 F2 S' _ _ (j2.base hD z0) s2 (((en.mono e1.1).wipe vs).mono j2.ext) r2 ?_ q'
    intro ρ3 S3 σ3 F3 H3 q3 e3 s3 en3 w3
    have j3 := j2.step e3 s3
    refine ⟨by rw [w3, wipe_wipe], ?_⟩
    refine ht σ3 ρ3 H3 F3 S3 _ _ (j3.base hD z0) s3 en3 ?_ q3
    intro b S4 F4 H4 q4 e4 s4
    have j4 := j3.step e4 s4
    cases b with
    | false => exact ⟨m, S4, F4, o, j4, q4⟩
    | true =>
      show tk σ3 H4 _
      refine hk σ3 ρ3 H4 F4 S4 _ _ (j4.base hD z0) s4 (en3.mono e4.1) ?_ q4
      intro k S5 y F5 H5 q5 e5 s5 r5
      have j5 := j4.step e5 s5
      refine hv σ3 ρ3 H5 F5 S5 _ _ (j5.base hD z0) s5 (en3.mono (e4.trans e5).1) ?_ q5
      intro v S6 z F6 H6 q6 e6 s6 r6
      have j6 := j5.step e6 s6
      obtain ⟨m', hm, q7⟩ := q6
      obtain ⟨o', dp, r'⟩ := putM_ok s6 j6.hl j6.r hm (Rp.mono e6.1 _ _ r5) r6
      exact ⟨_, dp, m', S6, F6, o', j6.put r', q7⟩
  · rintro H' ⟨m, S', F', o, j, q'⟩
    rw [List.drop_length] at q'
    exact j.done lk e1 q'
theorem sim_dc2 (h0 : Emp m0 o0) (hi : SimI K F0 wi di) (hg : SimGv K F0 vs g dg) (ht : SimT K F0 tt dt) (hi1 : SimI K F0 wi1 di1) (hg1 : SimGv K F0 vs1 g1 dg1) (ht1 : SimT K F0 tt1 dt1) (hk : SimE K F0 tk dk) (hv : SimE K F0 tv dv) :
    SimNd K F0 (tDg2 o0 wi g tt wi1 g1 tt1 tk tv vs vs1) (nDc2 m0 di dg dt di1 dg1 dt1 dk dv vs vs1) := by
  intro σ ρ H F S Q Qd e0 s en lk q
  refine hi σ ρ H F S _ _ e0 s en ?_ q
  intro ds S1 J F1 H1 q1 e1 s1 wk Dl hD
  obtain ⟨G, Y, w, hG, hY⟩ := wk.ex
  have z0 : F0.to F1 S1 H1 := e0.trans e1
  refine walk_by w (fun i H' => ∃ m S' F' o, LcM K F1 S1 H1 Dl m F' S' H' o ∧ dDcL2 dg dt di1 dg1 dt1 dk dv vs1 (dwipe ρ vs) Qd (ds.drop i) m S')
    ⟨m0, S1, F1, o0, LcM.init s1 hD h0.rp, by rw [List.drop_zero]; exact q1⟩ (fun i H' _ ⟨m, S', F', o, j, _⟩ => hG F' S' H' j.ext j.sep) ?_ ?_
  · rintro i x H' H2 hlt ⟨m, S', F', o, j, q'⟩ hy
    obtain ⟨F2, d, g2, s2, hd, r2⟩ := hY i H' x H2 F' S' hlt j.ext j.sep hy
    rw [drop_got hlt hd] at q'
    have j2 := j.step g2 s2
    refine hg x d (wipe σ vs) (dwipe ρ vs) H2 F2 S' _ _ (j2.base hD z0) s2 (((en.mono e1.1).wipe vs).mono j2.ext) r2 ?_ q'
    intro ρ3 S3 σ3 F3 H3 q3 e3 s3 en3 w3
    have j3 := j2.step e3 s3
    refine ⟨by rw [w3, wipe_wipe], ?_⟩
    refine ht σ3 ρ3 H3 F3 S3 _ _ (j3.base hD z0) s3 en3 ?_ q3
    intro b S4 F4 H4 q4 e4 s4
    have j4 := j3.step e4 s4
    cases b with
    | false => exact ⟨m, S4, F4, o, j4, q4⟩
    | true =>
      show wi1 σ3 H4 _
      refine hi1 σ3 ρ3 H4 F4 S4 _ _ (j4.base hD z0) s4 (en3.mono e4.1) ?_ q4
      intro ds1 S5 J1 F5 H5 q5 e5 s5 wk1
      have j5 := j4.step e5 s5
      obtain ⟨G1, Y1, w1, hG1, hY1⟩ := wk1.ex
      refine walk_by w1 (fun i1 H' => ∃ m S' F' o, LcM K F1 S1 H1 Dl m F' S' H' o ∧ Ext F5 F' ∧ dDcL dg1 dt1 dk dv (dwipe ρ3 vs1) (fun m' S' => dDcL2 dg dt di1 dg1 dt1 dk dv vs1 (dwipe ρ vs) Qd (ds.drop (i + 1)) m' S') (ds1.drop i1) m S')
        ⟨m, S5, F5, o, j5, Ext.refl _, by rw [List.drop_zero]; exact q5⟩ (fun i1 H' _ ⟨m, S', F', o, j, x5, _⟩ => hG1 F' S' H' x5 j.sep) ?_ ?_
      · rintro i1 x1 H' H2 hlt1 ⟨m, S', F', o, j, x5, q'⟩ hy1
        obtain ⟨F2, d, g2, s2, hd1, r2⟩ := hY1 i1 H' x1 H2 F' S' hlt1 x5 j.sep hy1
        rw [drop_got hlt1 hd1] at q'
        have j2 := j.step g2 s2
        refine hg1 x1 d (wipe σ3 vs1) (dwipe ρ3 vs1) H2 F2 S' _ _ (j2.base hD z0) s2 (((en3.mono e4.1).wipe vs1).mono (e5.1.trans (x5.trans g2.1))) r2 ?_ q'
        intro ρ6 S6 σ6 F6 H6 q6 e6 s6 en6 w6
        have j6 := j2.step e6 s6
        refine ⟨by rw [w6, wipe_wipe], ?_⟩
        refine ht1 σ6 ρ6 H6 F6 S6 _ _ (j6.base hD z0) s6 en6 ?_ q6
        intro b S7 F7 H7 q7 e7 s7
        have j7 := j6.step e7 s7
        cases b with
        | false => exact ⟨m, S7, F7, o, j7, ((x5.trans g2.1).trans e6.1).trans e7.1, q7⟩
        | true =>
          show tk σ6 H7 _
          refine hk σ6 ρ6 H7 F7 S7 _ _ (j7.base hD z0) s7 (en6.mono e7.1) ?_ q7
          intro k S8 y F8 H8 q8 e8 s8 r8
          have j8 := j7.step e8 s8
          refine hv σ6 ρ6 H8 F8 S8 _ _ (j8.base hD z0) s8 (en6.mono (e7.trans e8).1) ?_ q8
          intro v S9 z F9 H9 q9 e9 s9 r9
          have j9 := j8.step e9 s9
          obtain ⟨m', hm, qA⟩ := q9
          obtain ⟨o', dp, r'⟩ := putM_ok s9 j9.hl j9.r hm (Rp.mono e9.1 _ _ r8) r9
          exact ⟨_, dp, m', S9, F9, o', j9.put r', ((((x5.trans g2.1).trans e6.1).trans e7.1).trans e8.1).trans e9.1, qA⟩
      · rintro H' ⟨m, S', F', o, j, x5, q'⟩
        rw [List.drop_length] at q'
        exact ⟨m, S', F', o, j, q'⟩
  · rintro H' ⟨m, S', F', o, j, q'⟩
    rw [List.drop_length] at q'
    exact j.done lk e1 q'
end
section
variable {X : Cx} {F0 : Bs} {pos : Pos} {kx vx tg iter tg1 iter1 : Expr} {ifs ifs1 : List Expr} {scope : Scope} {own : List (Str × Nat)} {vs1 : List Nat} {wi wi1 : TI} {di di1 : DI} {g g1 : TG} {dg dg1 : DG} {tt tt1 : TT} {dt dt1 : DT} {tk tv : TE} {dk dv : DE} {m0 : MO} {o0 : HO} {k : Nat}
theorem n_dc (h0 : Emp m0 o0) (own' : List (Str × Nat) := own) (hr : Room k X.A) (hc : X.calm = true) (hN : X.N.Nodup) (ok : BlkOk X.N X.env.scope scope own) (hi : PDI X F0 tg iter wi di)
    (hg : ∀ (s : Shared) (H : Hp) (C : Addr) (cl : List (Str × Addr)) (fp : List Addr), PDGv (X.blk s H scope (compEnvC scope cl C X.env) fp) F0 (own.map (·.2)) tg g dg) (ht : ∀ (s : Shared) (H : Hp) (C : Addr) (cl : List (Str × Addr)) (fp : List Addr), PDTs (X.blk s H scope (compEnvC scope cl C X.env) fp) F0 ifs tt dt)
    (hk : ∀ (s : Shared) (H : Hp) (C : Addr) (cl : List (Str × Addr)) (fp : List Addr), PD (X.blk s H scope (compEnvC scope cl C X.env) fp) F0 kx tk dk)
    (he : ∀ (s : Shared) (H : Hp) (C : Addr) (cl : List (Str × Addr)) (fp : List Addr), PD (X.blk s H scope (compEnvC scope cl C X.env) fp) F0 vx tv dv) (hs : ∀ x, foldedSetIterable iter X.env x = pure x := by intro _; rfl) :
    PNd X F0 (.DictComp kx vx [⟨tg, iter, ifs, 0⟩] scope pos) (tDg o0 wi g tt tk tv (own.map (·.2))) (nDc m0 di dg dt dk dv (own.map (·.2))) :=
  ⟨pe_dg h0.or (hu_of hr) hc hN hi.pi ok (fun s H C cl fp => (hg s H C cl fp).pg) (fun s H C cl fp => (ht s H C cl fp).pts) (fun s H C cl fp => (hk s H C cl fp).pe) (fun s H C cl fp => (he s H C cl fp).pe) hs,
    sim_dc h0 hi.sim (hg X.s_0 F0.H 0 [] []).sim (ht X.s_0 F0.H 0 [] []).sim (hk X.s_0 F0.H 0 [] []).sim (he X.s_0 F0.H 0 [] []).sim⟩
theorem n_dc2 (h0 : Emp m0 o0) (own' : List (Str × Nat) := own) (vs' : List Nat := vs1) (hr : Room k X.A) (hc : X.calm = true) (hN : X.N.Nodup) (ok : BlkOk X.N X.env.scope scope own) (hi : PDI X F0 tg iter wi di)
    (hg : ∀ (s : Shared) (H : Hp) (C : Addr) (cl : List (Str × Addr)) (fp : List Addr), PDGv (X.blk s H scope (compEnvC scope cl C X.env) fp) F0 (own.map (·.2)) tg g dg) (ht : ∀ (s : Shared) (H : Hp) (C : Addr) (cl : List (Str × Addr)) (fp : List Addr), PDTs (X.blk s H scope (compEnvC scope cl C X.env) fp) F0 ifs tt dt)
    (hi1 : ∀ (s : Shared) (H : Hp) (C : Addr) (cl : List (Str × Addr)) (fp : List Addr), PDI (X.blk s H scope (compEnvC scope cl C X.env) fp) F0 tg1 iter1 wi1 di1)
    (hg1 : ∀ (s : Shared) (H : Hp) (C : Addr) (cl : List (Str × Addr)) (fp : List Addr), PDGv (X.blk s H scope (compEnvC scope cl C X.env) fp) F0 vs1 tg1 g1 dg1) (ht1 : ∀ (s : Shared) (H : Hp) (C : Addr) (cl : List (Str × Addr)) (fp : List Addr), PDTs (X.blk s H scope (compEnvC scope cl C X.env) fp) F0 ifs1 tt1 dt1)
    (hk : ∀ (s : Shared) (H : Hp) (C : Addr) (cl : List (Str × Addr)) (fp : List Addr), PD (X.blk s H scope (compEnvC scope cl C X.env) fp) F0 kx tk dk)
    (he : ∀ (s : Shared) (H : Hp) (C : Addr) (cl : List (Str × Addr)) (fp : List Addr), PD (X.blk s H scope (compEnvC scope cl C X.env) fp) F0 vx tv dv) (hv : ∀ i ∈ vs1, i ∈ own.map (·.2) := by decide) (hs : ∀ x, foldedSetIterable iter X.env x = pure x := by intro _; rfl) (hs1 : ∀ env x, foldedSetIterable iter1 env x = pure x := by intro _ _; rfl) :
    PNd X F0 (.DictComp kx vx [⟨tg, iter, ifs, 0⟩, ⟨tg1, iter1, ifs1, 0⟩] scope pos) (tDg2 o0 wi g tt wi1 g1 tt1 tk tv (own.map (·.2)) vs1) (nDc2 m0 di dg dt di1 dg1 dt1 dk dv (own.map (·.2)) vs1) :=
  ⟨pe_dg2 h0.or (hu_of hr) hc hN hi.pi ok hv (fun s H C cl fp => (hg s H C cl fp).pg) (fun s H C cl fp => (ht s H C cl fp).pts) (fun s H C cl fp => (hk s H C cl fp).pe) (fun s H C cl fp => (he s H C cl fp).pe)
      (fun s H C cl fp => (hi1 s H C cl fp).pi) (fun s H C cl fp => (hg1 s H C cl fp).pg) (fun s H C cl fp => (ht1 s H C cl fp).pts) hs hs1,
    sim_dc2 h0 hi.sim (hg X.s_0 F0.H 0 [] []).sim (ht X.s_0 F0.H 0 [] []).sim (hi1 X.s_0 F0.H 0 [] []).sim (hg1 X.s_0 F0.H 0 [] []).sim (ht1 X.s_0 F0.H 0 [] []).sim (hk X.s_0 F0.H 0 [] []).sim (he X.s_0 F0.H 0 [] []).sim⟩
end
end DL
set_option Elab.async false
set_option linter.all false
set_option maxRecDepth 100000
set_option maxHeartbeats 2000000
namespace DLK
open PySem PySem.Spec L2 PyProof.Rows
structure FnOkG (P : Program) (w : World) (K : PySem.W.Frag) (mg : Str → Option Value) (base : Heap) (CX : CXT) (k : Nat) (f : Addr) (fd : FuncData) (ps : List Str) (sp : Sp) : Prop where
  len : ∀ vs H Q E, sp vs H Q E → vs.length = ps.length
  run : ∀ (A : Around) (outer : List Env) (s : Shared) (H : Hp) (args : Args) (us : List Value) (vs : List V) (Q : VK) (E : XK), Room k A → A.guards = some [] → Env0 P w K mg base A outer s H → BindsTo s fd args (ps.zip us) → Vals vs us → sp vs H Q E →
    codeAny (model P w) A (.call (.ref f) args) (CR CX outer P w H s Q E) s
theorem fnG_of {CX : CXT} {P : Program} {w : World} {K : PySem.W.Frag} {mg : Str → Option Value} {base : Heap} {k : Nat} {f : Addr} {name qual : Str} {params : Arguments} {body : List Stmt} {scope : Scope} {dV kV doc pm cdv ct oc : Value} {an od : Option Addr}
    {osl : Array (Option Value)} {N ps : List Str} {sp : Sp} (lk : K.lookup f = some ⟨oc, od, .func (PySem.W.fnOf name qual params body scope dV kV doc pm an cdv ct), osl⟩) (hcode : PySem.W.codeIn K cdv qual = true) (S : FnScope N ps scope)
    (len : ∀ vs H Q E, sp vs H Q E → vs.length = ps.length)
    (hbody : ∀ (A : Around) (outer : List Env) (s : Shared) (H : Hp) (vs : List V) (Q : VK) (E : XK), Room k (A.deeper (envOfC qual scope s.heap.objs.size f cdv)) → A.guards = some [] → sp vs H Q E →
      ∃ t, PSs (cxOf CX P w K mg base N qual scope f cdv A outer s H E) body t ∧ t { nx := fun _ H' => Q .non H', rt := Q } (start N vs) H) :
    FnOkG P w K mg base CX (k + 1) f (PySem.W.fnOf name qual params body scope dV kV doc pm an cdv ct) ps sp := by
  refine ⟨len, fun A outer s H args us vs Q E hr gd e0 hb r hsp => ?_⟩
  have lenq := len _ _ _ _ hsp
  have inK : K.In s.heap := e0.mod.kin.keeps fun b o e => (e0.bs b o e).1
  have nolim : s.heap.NoLimit := e0.mod.nolimit.keeps fun b o e => (e0.bs b o e).1
  have kinds : ∀ y ∈ ps.zip us, scope.names.lookup y.1 = some .local ∨ (scope.names.lookup y.1 = some .cell ∧ ((cellsFrom (s.heap.objs.size + 1) scope.names []).lookup y.1).isSome = true) := fun ⟨n, v⟩ hy => by
    rcases S.par n (List.of_mem_zip hy).1 with q | q
    · exact .inl q
    · exact .inr ⟨q, PySem.W.cellsFrom_some _ _ _ (.inl q)⟩
  refine codeAny_call_function hr.depth (inK _ _ lk) rfl S.co S.gen rfl (PySem.W.codeRec_of inK hcode) (hb _ _ _ _ ?_)
  refine wpAny_newFunctionEnv_cells S.kind kinds fun env he sA xx => ?_
  subst he
  refine ⟨nolim.keeps xx.toInCall.keep, codeAny_func ?_⟩
  obtain ⟨t, hT, hB⟩ := hbody A outer s H vs Q E (hr.deeper _) gd hsp
  have Iv : Inv (cxOf CX P w K mg base N qual scope f cdv A outer s H E) [] (start N vs) H sA := inv_start S hr.hd e0 lenq r xx
  refine wpAny_mono (hT.run [] sA (start N vs) H _ Iv hB) (fun fl s' hC => ?_) fun e s' hC => hC
  have endq : ∀ {τ : L2.St} {H' : Hp} {v : V} {u : Value}, Inv (cxOf CX P w K mg base N qual scope f cdv A outer s H E) [] τ H' s' → RelV v u → Q v H' → CE outer P w H s Q u s' :=
    fun {τ H' v u} Jv rv q => ⟨v, H', Jv.os, Jv.bare, Jv.base, Jv.hok, rv, q⟩
  cases fl with
  | ret u =>
    obtain ⟨v, τ, H', Jv, rv, q⟩ := hC
    exact endq Jv rv q
  | next =>
    obtain ⟨τ, H', Jv, q⟩ := hC
    exact endq (v := V.non) (u := Value.none) Jv rfl q
  | brk =>
    obtain ⟨_, _, _, q⟩ := hC
    exact False.elim q
  | cont =>
    obtain ⟨_, _, _, q⟩ := hC
    exact False.elim q
theorem law_callG {P : Program} {w : World} {K : PySem.W.Frag} {mg mbb : Str → Option Value} {CX : CXT} {k : Nat} {fa a : Addr} {fd : FuncData} {x : Str} {sp : Sp} {s₁ : Shared} {vs : List Value} {ns : List Int}
    (KX : K.In s₁.heap) (hns : s₁.heap.Ns mainGlobals mg) (hbq : s₁.heap.Ns builtinsNs mbb) (hbb : ∀ x : Str, x ≠ "__name__" → mbb x = bootBuiltins x) (hlim : s₁.heap.NoLimit) (hg : s₁.gens = #[])
    (ha : s₁.heap.get? a = some { cls := .type "list", data := .seq vs.toArray }) (hi : IntsAre vs ns) (hl : ns.length ≤ sizeLine) (hr : Room k callerA)
    (F : ∀ base : Heap, K.In base → base.Ns mainGlobals mg → FnOkG P w K mg base CX k fa fd [x] sp) (hbind : ∀ (s : Shared) (u : Value), BindsTo s fd ⟨[u], []⟩ [(x, u)])
    (hsp : ∀ H : Hp, Only H → SqL K H a (ns.map V.int) → sp [.ref a] H (fun v _ => v = .bl true) fun _ _ _ => False)
    (hCX : ∀ H e s', CX [] H s₁ (fun _ _ _ => False) e s' → False) :
    codeAny (model P w) callerA (.call (.ref fa) ⟨[.ref a], []⟩) (fun r s' => r = .ok (.ret (.bool true)) ∧ OldK s₁.heap s'.heap ∧ s'.os = s₁.os ∧ AllBare s'.gens) s₁ := by
  have rvals := vals_ints hi
  have lenq := hi.length
  -- from an abstract heap in which nothing but the script may be tracked
  have heart : ∀ H : Hp, Only H → SqL K H a (ns.map V.int) → HOk P w H s₁.heap → (∀ b, H b ≠ none → b = a) → (H a ≠ none → K.lookup a = none) →
      codeAny (model P w) callerA (.call (.ref fa) ⟨[.ref a], []⟩) (fun r s' => r = .ok (.ret (.bool true)) ∧ OldK s₁.heap s'.heap ∧ s'.os = s₁.os ∧ AllBare s'.gens) s₁ := by
    intro H honly hsq okH onlyA notK
    have toBase : ∀ {b : Addr} {o : Obj}, s₁.heap.get? b = some o → H b = none → (hidT s₁.heap H).get? b = some o := fun e n => hidT_get e n
    have notA : ∀ {b : Addr} {o : Obj} {es : Array DictEntry} {ep : Nat}, s₁.heap.get? b = some o → o.data = .dict es ep → H b = none := fun {b o es ep} e d => by
      cases q : H b with
      | none => rfl
      | some u =>
        have eqq : b = a := onlyA b (by rw [q]; simp)
        subst eqq
        rw [ha] at e; cases e
        have d' : Data.seq vs.toArray _ = Data.dict es ep := d
        cases d'
    have nsB : ∀ {b : Addr} {m : Str → Option Value}, s₁.heap.Ns b m → (hidT s₁.heap H).Ns b m := fun {b m} ⟨o, es, ep, e, d, r⟩ => ⟨o, es, ep, toBase e (notA e d), d, r⟩
    have inB : K.In (hidT s₁.heap H) := fun b o e => toBase (KX b o e) (by
      cases q : H b with
      | none => rfl
      | some u =>
        have eqq : b = a := onlyA b (by rw [q]; simp)
        subst eqq
        rw [notK (by rw [q]; simp)] at e; cases e)
    have modq : Mod K mg (hidT s₁.heap H) := ⟨inB, nsB hns, ⟨mbb, nsB hbq, hbb⟩, let ⟨mc, h1, h2⟩ := hlim; ⟨mc, nsB h1, h2⟩⟩
    have env0 : Env0 P w K mg (hidT s₁.heap H) callerA [] s₁ H := ⟨rfl, modq, fun b o e => of_hidT e, Nat.le_of_eq (hidT_size _ _), trivial, fun b hbq => absurd (show b ∈ ([] : List Addr) from hbq) (by simp), okH, .of_eq hg⟩
    refine codeAny_mono ((F _ inB (nsB hns)).run callerA [] s₁ H ⟨[.ref a], []⟩ [.ref a] [.ref a] _ _ hr rfl env0 (hbind s₁ (.ref a)) (.cons rfl .nil) (hsp H honly hsq)) fun r s' h => ?_
    cases r with
    | error e => exact (hCX H e s' h).elim
    | ok fl =>
      cases fl with
      | next => exact False.elim h
      | brk => exact False.elim h
      | cont => exact False.elim h
      | ret u =>
        obtain ⟨v, H', os, bare, un, hok', r', q⟩ := h
        have q' : v = .bl true := q
        subst q'
        obtain rfl : u = Value.bool true := r'
        refine ⟨rfl, OldK.of_keep fun b o e => ?_, os, bare⟩
        cases q : H b with
        | none => exact un.keep b o e q (by intro z; exact absurd (show b ∈ ([] : List Addr) from z) (by simp)) (by simp)
        | some u =>
          rcases honly b with z | ⟨ob, xs, z⟩
          · rw [q] at z; cases z
          · have z2 := un.frzs b ob _ z
            obtain ⟨e1, _⟩ := okH b _ z
            obtain ⟨e2, _⟩ := hok' b _ z2
            rw [e] at e1; cases e1
            exact e2
  cases hlook : K.lookup a with
  | some o =>
    -- the script is one of the module's own objects
    have e := KX a o hlook
    rw [ha] at e
    cases e
    refine heart (fun _ => none) (fun _ => .inl rfl) (.inr ⟨_, vs.toArray, _, hlook, rfl, rfl, rfl, by rw [List.size_toArray, lenq]; exact hl, by simpa using rvals⟩) (fun b u z => by have z' : (none : Option HO) = some u := z; cases z') (fun b z => absurd rfl z) fun z => absurd rfl z
  | none =>
    refine heart (fun b => if b = a then some (.frz { cls := .type "list", data := .seq vs.toArray } (.lst (ns.map V.int))) else none) (fun b => ?_) (.inl (.inr ⟨{ cls := .type "list", data := .seq vs.toArray }, if_pos rfl⟩)) (fun b u z => ?_) (fun b z => ?_) fun _ => hlook
    · by_cases hbq : b = a
      · exact .inr ⟨_, _, if_pos hbq⟩
      · exact .inl (if_neg hbq)
    · by_cases hbq : b = a
      · have z' := (if_pos hbq).symm.trans z
        cases z'
        subst hbq
        exact ⟨ha, by rw [List.length_map]; exact hl, vs, _, rvals, ha⟩
      · have z' := (if_neg hbq).symm.trans z
        cases z'
    · by_cases hbq : b = a
      · exact hbq
      · exact absurd (if_neg hbq) z
theorem walk_ofG {l : PySem.W.OpenLaw} {n k : Nat} {q : Program} {loose : List Str} {XP : (Str → Option Value) → Heap → Prop} {YP : World → Heap → Prop} {d : DefRec} {CX : World → CXT} {x : Str}
    (hn : l.most = some n) (hn2 : n ≤ sizeLine) (hdf : d.params.defaults = []) (hr : Room k callerA)
    (F : ∀ (w : World) (mg : Str → Option Value) (fa : Addr) (h : Heap), YP w h → h.Ns mainGlobals mg → mg d.name = some (.ref fa) →
      ∃ (K : PySem.W.Frag) (fd : FuncData) (sp : Sp), K.In h ∧ (∀ (s : Shared) (u : Value), BindsTo s fd ⟨[u], []⟩ [(x, u)]) ∧
        (∀ (H : Hp) (a : Addr) (ns : List Int), ns.length ≤ n → Only H → SqL K H a (ns.map V.int) → sp [.ref a] H (fun v _ => v = .bl true) fun _ _ _ => False) ∧
        ∀ base : Heap, K.In base → base.Ns mainGlobals mg → FnOkG l.prog w K mg base (CX w) k fa fd [x] sp)
    (hCX : ∀ (w : World) (H : Hp) (s : Shared) (e : Value) (s' : Shared), CX w [] H s (fun _ _ _ => False) e s' → False) :
    PySem.W.WalkO q loose XP YP l.row.toRowW d [] (fun f vs => PySem.call f vs) := by
  refine Att.attach_call hn hdf fun w s₀ s₁ mg mbb fa o pm cd doc a vs ns G Y hobjf hd hcode hmg hscr hnums hlen hg => ?_
  obtain ⟨K, fd, sp, KX, hb, hprom, hfn⟩ := F w mg fa _ Y G.T.g hmg
  exact law_callG KX G.T.g G.T.b G.T.builtins G.T.nolimit hg hscr hnums (Nat.le_trans hlen hn2) hr hfn hb (fun H hO hS => hprom H a ns hlen hO hS) fun H e s' => hCX w H s₁ e s'
end DLK
set_option Elab.async false
set_option linter.all false
set_option maxRecDepth 100000
set_option maxHeartbeats 2000000
namespace DL
open PySem PySem.Spec L2 DLK
abbrev FnPG (n : Bool) (P : Program) (w : World) (K : PySem.W.Frag) (mg : Str → Option Value) (base : Heap) (k : Nat) (f : Addr) (fd : FuncData) (ps : List Str) (δ : DSp) : Prop := FnOkG P w K mg base (CXn n P w) k f fd ps (lift K δ)
def FnG (n : Bool) (P : Program) (w : World) (K : PySem.W.Frag) (mg : Str → Option Value) (base : Heap) (k : Nat) (f : Addr) (δ : DSp) : Prop :=
  ∀ (A : Around) (outer : List PySem.Env) (s : Shared) (H : Hp) (us : List Value) (vs : List V) (Q : VK) (E : XK), Room k A → A.guards = some [] → Env0 P w K mg base A outer s H → Vals vs us → lift K δ vs H Q E →
    codeAny (model P w) A (.call (.ref f) ⟨us, []⟩) (CR (CXn n P w) outer P w H s Q E) s
section
variable {n n' : Bool} {P : Program} {w : World} {K : PySem.W.Frag} {mg : Str → Option Value} {base : Heap}
theorem FnD.g {k : Nat} {f : Addr} {δ : DSp} (F : FnD n P w K mg base k f δ) : FnG n P w K mg base k f δ := fun A outer s H us vs Q E hr _ e0 r h => F A outer s H us vs Q E hr e0 r h
theorem FnG.mono {j k : Nat} {f : Addr} {δ : DSp} (F : FnG n P w K mg base j f δ) (h : j ≤ k) : FnG n P w K mg base k f δ := fun A outer s H us vs Q E hr => F A outer s H us vs Q E (hr.mono h)
theorem fnG_of0 {k : Nat} {f : Addr} {fd : FuncData} {ps : List Str} {δ : DSp} (F : FnPG n P w K mg base k f fd ps δ) (hb : Binds K fd ps []) : FnG n P w K mg base k f δ := by
  intro A outer s H us vs Q E hr gd e0 r h
  have r2 : Vals (vs ++ []) (us ++ []) := r.append .nil
  rw [List.append_nil, List.append_nil] at r2
  have hl : (us ++ []).length = ps.length := by rw [List.append_nil, ← r2.length]; exact F.len _ _ _ _ h
  have hb' := hb s us (e0.mod.kin.keeps fun b o e => (e0.bs b o e).1) hl
  rw [List.append_nil] at hb'
  exact F.run A outer s H ⟨us, []⟩ us vs Q E hr gd e0 hb' r2 h
/-- THE RULE for such a def -/
theorem fn_dG {x qual : Str} {params : Arguments} {body : List Stmt} {scope : Scope} {dvs : List V} {kws : List (Str × V)} {f : Addr} {fd : FuncData} {N ps : List Str} {k : Nat} {δ : DSp} (Fd : FunD K x qual params body scope dvs kws f fd) (S : FnScope N ps scope)
    (len : ∀ ds S Q ε, δ ds S Q ε → ds.length = ps.length)
    (hbody : ∀ (cdv : Value) (A : Around) (outer : List PySem.Env) (s : Shared) (H : Hp) (E : XK) (F0 : Bs) (ε : Exn → Store → Prop), Room k (A.deeper (PyProof.Rows.envOfC qual scope s.heap.objs.size f cdv)) → A.guards = some [] →
      Ctx n (cxOf (CXn n P w) P w K mg base N qual scope f cdv A outer s H E) F0 (oOf ε) (wOf E) →
      ∃ t db, PDSs (cxOf (CXn n P w) P w K mg base N qual scope f cdv A outer s H E) F0 body t db ∧ ∀ ds S Q, δ ds S Q ε → db { nx := fun _ S' => Q .non S', rt := Q } (startD N.length ds) S) :
    FnPG n P w K mg base (k + 1) f fd ps δ := by
  obtain ⟨oc, od, dV, kV, doc, pm, an, cdv, ct, osl, rfl, lk, hcd, _, _⟩ := Fd.ex
  refine fnG_of lk hcd S (fun vs H Q E h => ?_) (fun A outer s H vs Q E hr gd h => ?_)
  · obtain ⟨ds, F, S, Qd, ε, s, r, h, _⟩ := h
    rw [r.length]
    exact len ds S Qd ε h
  · obtain ⟨ds, F, St, Qd, ε, sp, r, h, lk, lx⟩ := h
    have tk : Tkn n (cxOf (CXn n P w) P w K mg base N qual scope f cdv A outer s H E) (wOf E) := by
      cases n with
      | true => exact L2N.takes_of rfl rfl rfl rfl
      | false => exact takes_of rfl rfl rfl rfl
    obtain ⟨t, db, hb, hd⟩ := hbody cdv A outer s H E ⟨F, St, H⟩ ε hr gd ⟨tk, fun ex ρ S' cls dx σ F' H' q g s' en rx => lx ex S' cls dx F' H' q g s' rx⟩
    refine ⟨t, hb.pss, ?_⟩
    refine hb.sim (L2.start N vs) (startD N.length ds) H F St _ { nx := fun _ S' => Qd .non S', rt := Qd } Go.rfl sp (envr_start r) ⟨?_, lk, lkS_no, lkS_no⟩ (hd ds St Qd h)
    intro ρ S' σ F' H' q g s' en
    exact lk .non S' .non F' H' q g s' rp_mk_non
end
section
variable {n n' : Bool} {X : Cx} {F0 : Bs} {ω : DW} {W : WX} {j k : Nat} {f : Addr} {δ : DSp} {p pos : Pos} {e : Expr} {t : TA} {d : DA}
theorem cal_fnG (F : FnG n' X.prog X.w X.K X.mg X.base j f δ) (cx : Ctx n X F0 ω W) (hr : Room k X.A) (hj : j ≤ k) (gd : X.A.guards = some []) (hn : n = true → n' = true := by decide) : CalD X F0 f (fun σ vs H Q => lift X.K δ vs H Q (WE W σ)) (oFn δ ω) := by
  refine ⟨fun pins s σ H us vs Q I r h => ?_, ?_⟩
  · have hx := passN hn cx.tk σ
    refine wpAny_call (codeAny_mono (F X.A X.stack s H us vs Q _ (hr.mono hj) gd I.env0 r h) fun r s' hq => ?_)
    cases r with
    | error e => exact hx pins H s e s' I hq
    | ok fl =>
      cases fl with
      | ret u => exact I.after hq
      | next => exact False.elim hq
      | brk => exact False.elim hq
      | cont => exact False.elim hq
  · intro σ ρ vs ds H F' S Q Qd e0 s en r lk h
    refine ⟨ds, F', S, Qd, (fun ex S2 => ω ex ρ S2), s, r, h, lk, ?_⟩
    intro ex S2 cls dx F2 H2 q2 e2 s2 r2
    exact cx.lk ex ρ S2 cls dx σ F2 H2 q2 (e0.trans e2) s2 (en.mono e2.1) r2
mutual
theorem nd_hd : ∀ p : PyData, nd p = true → p.hasDict = false
  | .none, _ => by unfold PyData.hasDict; rfl
  | .bool _, _ => by unfold PyData.hasDict; rfl
  | .int _, _ => by unfold PyData.hasDict; rfl
  | .str _, _ => by unfold PyData.hasDict; rfl
  | .dict _, h => by unfold nd at h; cases h
  | .list xs, h => by unfold nd at h; unfold PyData.hasDict; exact nds_hd xs h
  | .tuple xs, h => by unfold nd at h; unfold PyData.hasDict; exact nds_hd xs h
theorem nds_hd : ∀ ps : List PyData, nds ps = true → PyData.hasDictAll ps = false
  | [], _ => by unfold PyData.hasDictAll; rfl
  | p :: ps, h => by
    unfold nds at h
    obtain ⟨h1, h2⟩ := Bool.and_eq_true_iff.mp h
    unfold PyData.hasDictAll
    rw [nd_hd p h1, nds_hd ps h2] <;> rfl
end
abbrev rRepr (K : PySem.W.Frag) : List V → Hp → VK → Prop := fun xs H Q => ∃ x p, xs = [x] ∧ Dp K H x p ∧ nd p = true ∧ p.showable = true ∧ p.shown.length ≤ sizeLine ∧ p.depth ≤ 64 ∧ Q (.str p.shown) H
def oRepr : DRn := fun ds S Q => match ds with
  | [x] => ∃ p, pyOf (res S x) = some p ∧ p.showable = true ∧ p.shown.length ≤ sizeLine ∧ p.depth ≤ 64 ∧ Q (.str p.shown) S
  | _ => False
theorem call_repr {k : Nat} (hr : Room k X.A) (gd : X.A.guards = some []) : CallR X (.builtin "repr") (rRepr X.K) := by
  intro pins s σ H xs us Q I r h
  obtain ⟨x, p, rfl, hd, hn, hs, hz, hp, q⟩ := h
  obtain ⟨u, rfl, ru⟩ := vals1 r
  have hu : X.A.units + (p.depth + 1) < cLine := by have := hr.un; omega
  cases hd with
  | non =>
    cases ru
    exact PySem.P.repr_of_none ⟨.str _, H, I.tok _, ⟨_, rfl⟩, by unfold PyData.shown at q; exact q⟩
  | bl b =>
    cases ru
    exact PySem.P.repr_of_bool ⟨.str _, H, I.tok _, ⟨_, rfl⟩, by unfold PyData.shown at q; exact q⟩
  | int i =>
    obtain ⟨t, rfl⟩ := ru
    exact PySem.P.repr_of_int (by unfold PyData.showable at hs; exact of_decide_eq_true hs) ⟨.str _, H, I.tok _, ⟨_, rfl⟩, by unfold PyData.shown at q; exact q⟩
  | str z =>
    obtain ⟨t, rfl⟩ := ru
    exact PySem.P.repr_of_str ⟨.str _, H, I.tok _, ⟨_, rfl⟩, by unfold PyData.shown at q; exact q⟩ (by unfold PyData.shown at hz; exact hz)
  | lst h1 h2 =>
    obtain ⟨as, r1⟩ := Dp.reads I _ _ u (.lst h1 h2) ru
    cases ru
    exact repr_of_reads' r1 hs (fun c => by rw [nd_hd _ hn] at c; cases c) gd hu (fun _ _ e => e) (fun h' v tk hk => ⟨.str _, H, I.kept (h' := h') (t' := tk) hk, ⟨_, rfl⟩, q⟩) hz
  | tup h1 h2 =>
    obtain ⟨as, r1⟩ := Dp.reads I _ _ u (.tup h1 h2) ru
    cases ru
    exact repr_of_reads' r1 hs (fun c => by rw [nd_hd _ hn] at c; cases c) gd hu (fun _ _ e => e) (fun h' v tk hk => ⟨.str _, H, I.kept (h' := h') (t' := tk) hk, ⟨_, rfl⟩, q⟩) hz
theorem c_repr {k : Nat} (hr : Room k X.A) (gd : X.A.guards = some []) : DCB X F0 (.builtin "repr") (rRepr X.K) oRepr := by
  refine ⟨call_repr hr gd, ?_⟩
  intro xs ds H F S Q Qd e0 s rx lk h
  unfold oRepr at h
  split at h
  · obtain ⟨v, rfl, rv⟩ := rps_1 rx
    obtain ⟨p, h1, h2, h3, h4, q⟩ := h
    exact ⟨v, p, rfl, dp_res s h1 rv, nd_py _ _ h1, h2, h3, h4, lk _ S _ F H q Go.rfl s rp_mk_str⟩
  · exact h.elim
theorem dbt_repr : bootBuiltins "repr" = some (.builtin "repr") := by decide +kernel
theorem b_repr {k : Nat} (hr : Room k X.A) (gd : X.A.guards = some []) (hm : X.mg "repr" = none) (ha : PDA X F0 [e] t d) (hg : Gl X "repr" := by rfl) (he : starEach [e] X.env = (false, eval e X.env) :: starEach [] X.env := by rfl) : PD X F0 (.Call (.Name "repr" p) [e] [] pos) (tCB (rRepr X.K) t) (dCB oRepr d) :=
  d_callB dbt_repr (c_repr hr gd) hm ha hg (by decide) (by decide) he rfl
end
end DL
set_option Elab.async false
set_option linter.all false
set_option maxRecDepth 100000
set_option maxHeartbeats 2000000
namespace DL
open PySem PySem.Spec L2 DLK PyProof.Rows
/-- C answers m by the def at f -/
structure Dun (K : PySem.W.Frag) (C : Addr) (m : Str) (f : Addr) : Prop where
  at_ : PySem.W.findIn K (.ref C) m = some (some (.ref f))
  fn : PySem.W.isFn K (.ref f) = true
  fi : PySem.W.fnIn K f = true
section
variable {n n' : Bool} {CX : CXT} {X : Cx} {F0 : Bs} {ω : DW} {W : WX} {j k : Nat} {f C : Addr} {δ : DSp} {e o i : Expr} {es : List Expr} {t : TA} {da : DA} {te to ti : TE} {de do_ di : DE} {p pos : Pos}
/-- the callee runs, deeper by what stands around -/
theorem run_atA {A : Around} {pins : List (Addr × Obj)} {σ : L2.St} {H : Hp} {s : Shared} {Q : VK} {us : List Value} {vs : List V} {sp : Sp} {E : XK} (F : FnR X.prog X.w X.K X.mg X.base CX k f sp) (hr : Room k A) (e0 : Env0 X.prog X.w X.K X.mg X.base A X.stack s H) (hx : PassesAt CX X σ E) (I : Inv X pins σ H s) (r : Vals vs us) (h : sp vs H Q E) :
    wpAny (model X.prog X.w) A (call (.ref f) us) (EP X pins σ Q) X.xe s := by
  refine wpAny_call (codeAny_mono (F A X.stack s H us vs Q E hr e0 r h) fun r s' hq => ?_)
  cases r with
  | error e => exact hx pins H s e s' I hq
  | ok fl =>
    cases fl with
    | ret u => exact I.after hq
    | next => exact False.elim hq
    | brk => exact False.elim hq
    | cont => exact False.elim hq
theorem ins_inst {pins : List (Addr × Obj)} {σ : L2.St} {H : Hp} {s : Shared} {a dx : Addr} {fs : List (Str × V)} (I : Inv X pins σ H s) (ea : H a = some (.ins C dx fs)) : ∃ od, PySem.W.InstAt s.heap a (PySem.W.instObj C dx) C (some od) := by
  obtain ⟨mA, O, _, _, _, _⟩ := ins_get I.hok ea
  obtain ⟨od, J, _⟩ := O.look
  exact ⟨od, J⟩
theorem passAtNo {n : Bool} {X : Cx} {σ : L2.St} : PassesAt (CXn n X.prog X.w) X σ (fun _ _ _ => False) := fun pins H s e s' I c => by
  cases n with
  | true => obtain ⟨a, B, H', cls, d, ea, fl, hok, ub, na, os, ag, he⟩ := c; exact he.elim
  | false => obtain ⟨a, B, H', cls, d, ea, fl, hok, ub, na, os, ag, he⟩ := c; exact he.elim
abbrev rStrIns (K : PySem.W.Frag) (C : Addr) (δ : DSp) : List V → Hp → VK → Prop := fun xs H Q => ∃ a dx fs, xs = [.ref a] ∧ H a = some (.ins C dx fs) ∧ lift K δ [.ref a] H (fun v H' => ∃ z, v = .str z ∧ Q (.str z) H') fun _ _ _ => False
def oStrIns (C : Addr) (δ : DSp) : DRn := fun ds S Q => match ds with
  | [x] => (∃ fs, insOf S x = some (C, fs)) ∧ δ [x] S (fun d S' => ∃ z, d = .str z ∧ Q (.str z) S') fun _ _ => False
  | _ => False
theorem c_strIns (F : FnD n' X.prog X.w X.K X.mg X.base j f δ) (du : Dun X.K C "__str__" f) (hr : Room k X.A) (hj : j + 2 ≤ k) : DCB X F0 (.type "str") (rStrIns X.K C δ) (oStrIns C δ) := by
  refine ⟨?_, ?_⟩
  · intro pins s σ H xs us Q I r h
    obtain ⟨a, dx, fs, rfl, ea, h⟩ := h
    obtain rfl := Vals.ref1 r
    obtain ⟨od, J⟩ := ins_inst I ea
    have r2 : Room (j + 2) X.A := hr.mono hj
    refine PySem.W.kso_call (by have := r2.un; show X.A.units + 1 + 1 < cLine; omega) I.kIn J du.at_ du.fn ?_
    refine wpAny_mono (run_atA (us := [.ref a]) (vs := [.ref a]) F r2.in1.in1 I.env0.in1.in1 passAtNo I (.cons (show RelV (V.ref a) (Value.ref a) from rfl) .nil) h) (fun v s' hv => ?_) fun _ _ z => z
    obtain ⟨y, H', I', rv, z, rfl, q⟩ := hv
    obtain ⟨tk, rfl⟩ := rv
    exact ⟨.str z, H', I', ⟨tk, rfl⟩, q⟩
  · intro xs ds H F' S Q Qd e0 s rx lk h
    unfold oStrIns at h
    split at h
    · obtain ⟨v, rfl, rv⟩ := rps_1 rx
      obtain ⟨⟨fs, hi⟩, h⟩ := h
      obtain ⟨a, dx, ws, rfl, g1, g2⟩ := ins_of s rv hi
      refine ⟨a, dx, ws, rfl, g1, _, F', S, _, (fun _ _ => False), s, rx, h, ?_, fun _ _ _ _ _ _ z => z.elim⟩
      intro d S1 u F1 H1 q1 e1 s1 r1
      obtain ⟨z, rfl, q⟩ := q1
      exact ⟨z, rp_str r1, lk _ S1 _ F1 H1 q e1 s1 rp_mk_str⟩
    · exact h.elim
theorem b_strIns (F : FnD n' X.prog X.w X.K X.mg X.base j f δ) (du : Dun X.K C "__str__" f) (hr : Room k X.A) (hj : j + 2 ≤ k) (hm : X.mg "str" = none) (ha : PDA X F0 [e] t da) (hg : Gl X "str" := by rfl) (he : starEach [e] X.env = (false, eval e X.env) :: starEach [] X.env := by rfl) :
    PD X F0 (.Call (.Name "str" p) [e] [] pos) (tCB (rStrIns X.K C δ) t) (dCB (oStrIns C δ) da) := d_callTy dbt_str (c_strIns F du hr hj) hm ha hg (by decide) (by decide) he rfl
def tSubI (K : PySem.W.Frag) (C : Addr) (δ : DSp) (W : WX) (to ti : TE) : TE := fun σ H Q => to σ H fun x H1 => ti σ H1 fun y H2 => ∃ a dx fs, x = .ref a ∧ H2 a = some (.ins C dx fs) ∧ lift K δ [.ref a, y] H2 Q (WE W σ)
def dSubI (C : Addr) (δ : DSp) (ω : DW) (do_ di : DE) : DE := fun ρ S Q => do_ ρ S fun x S1 => di ρ S1 fun y S2 => (∃ fs, insOf S2 x = some (C, fs)) ∧ δ [x, y] S2 Q fun ex S3 => ω ex ρ S3
theorem own_sub {A : Around} {E : Value → Shared → Prop} {s : Shared} {prog : Program} {w : World} {K : PySem.W.Frag} {x : Addr} {ox : Obj} {od : Option Obj} {value slice : Expr} {y : Value} {Q : Value → Shared → Prop} (inK : K.In s.heap) (J : PySem.W.InstAt s.heap x ox C od) (du : Dun K C "__getitem__" f)
    (h : wpAny (model prog w) A.in1 (call (.ref f) [.ref x, y]) Q E s)
    (hsl : subscripted slice true (.ref x) y = runValue (.builtin "lifetime.subscript" ⟨[.ref x, y], []⟩) := by with_unfolding_all rfl) : wpAny (model prog w) A (subscriptTail value slice (.ref x) y) Q E s := by
  have fi := du.fi
  unfold PySem.W.fnIn at fi
  split at fi
  · rename_i ef
    unfold subscriptTail getitemInPython
    refine wpAny_bind (wpAny_bind (wpAny_bind (J.type.here ((PySem.W.looks_findIn inK du.at_).here ?_))))
    dsimp only
    refine wpAny_bind (wpAny_load (inK _ _ ef) (wpAny_pure ?_))
    dsimp only
    rw [hsl]
    refine wpAny_bind (wpAny_runValue (codeAny_builtin PySem.W.entry_sub ?_))
    unfold Builtin.«lifetime.subscript»
    refine wpAny_bind (PySem.W.special_fn inK J du.at_ (beq_iff_eq.mp du.fn) (wpAny_mono h (fun v sB z => wpAny_pure ?_) fun _ _ z => z))
    show wpAny (model prog w) A (letTemporaryGo value (.ref x) v >>= fun _ => pure v) Q E sB
    exact wpAny_bind (wpAny_letTemporaryGo (wpAny_pure z))
  · cases fi
theorem d_subI (F : FnD n' X.prog X.w X.K X.mg X.base j f δ) (du : Dun X.K C "__getitem__" f) (cx : Ctx n X F0 ω W) (hr : Room k X.A) (hj : j + 1 ≤ k) (ho : PD X F0 o to do_) (hi : PD X F0 i ti di) (hn : n = true → n' = true := by decide)
    (hsl : ∀ (x : Addr) (y : Value), subscripted i true (.ref x) y = runValue (.builtin "lifetime.subscript" ⟨[.ref x, y], []⟩) := by intro _ _; with_unfolding_all rfl) :
    PD X F0 (.Subscript o i pos) (tSubI X.K C δ W to ti) (dSubI C δ ω do_ di) := by
  refine ⟨⟨fun pins s σ H Q I h => ?_⟩, ?_⟩
  · refine Subscript_ (thn (ho.pe.run pins s σ H _ I h) fun u s1 ⟨x, H1, I1, rx, q1⟩ => thn (hi.pe.run pins s1 σ H1 _ I1 q1) fun iv s2 ⟨y, H2, I2, ry, a, dx, fs, ex, ea, q2⟩ => ?_)
    subst ex
    obtain rfl : u = Value.ref a := rx
    obtain ⟨od, J⟩ := ins_inst I2 ea
    refine own_sub I2.kIn J du ?_ (hsl a iv)
    exact run_atA (us := [.ref a, iv]) (vs := [.ref a, y]) F (hr.mono hj).in1 I2.env0.in1 (passN hn cx.tk σ) I2 (.cons (show RelV (V.ref a) (Value.ref a) from rfl) (.cons ry .nil)) q2
  · intro σ ρ H F' S Q Qd e0 s en lk h
    refine ho.sim σ ρ H F' S _ _ e0 s en ?_ h
    intro x S1 u F1 H1 q1 e1 s1 r1
    refine hi.sim σ ρ H1 F1 S1 _ _ (e0.trans e1) s1 (en.mono e1.1) ?_ q1
    intro y S2 v F2 H2 q2 e2 s2 r2
    obtain ⟨⟨fs, hi2⟩, q2⟩ := q2
    have rx := Rp.mono e2.1 _ _ r1
    obtain ⟨a, dx, ws, rfl, g1, g2⟩ := ins_of s2 rx hi2
    refine ⟨a, dx, ws, rfl, g1, [x, y], F2, S2, Qd, (fun ex S3 => ω ex ρ S3), s2, rps_mk rx (rps_mk r2 rps_mk_nil), q2, lk.mono (e1.trans e2), ?_⟩
    intro ex S3 cls dx' F3 H3 q3 e3 s3 r3
    exact cx.lk ex ρ S3 cls dx' σ F3 H3 q3 (((e0.trans e1).trans e2).trans e3) s3 (en.mono ((e1.trans e2).trans e3).1) r3
end
end DL
set_option Elab.async false
set_option linter.all false
set_option maxRecDepth 100000
set_option maxHeartbeats 2000000
namespace DLK
open PySem PySem.Spec L2 PyProof.Rows
/-- a promise that knows the state it begins in (shaped after the kit's FnOk and fn_of) -/
structure FnOkI (P : Program) (w : World) (K : PySem.W.Frag) (mg : Str → Option Value) (base : Heap) (CX : CXT) (k : Nat) (f : Addr) (fd : FuncData) (ps : List Str) (sp : Shared → Sp) : Prop where
  len : ∀ s vs H Q E, sp s vs H Q E → vs.length = ps.length
  run : ∀ (A : Around) (outer : List Env) (s : Shared) (H : Hp) (args : Args) (us : List Value) (vs : List V) (Q : VK) (E : XK), Room k A → Env0 P w K mg base A outer s H → BindsTo s fd args (ps.zip us) → Vals vs us → sp s vs H Q E →
    codeAny (model P w) A (.call (.ref f) args) (CR CX outer P w H s Q E) s
theorem fnI_of {CX : CXT} {P : Program} {w : World} {K : PySem.W.Frag} {mg : Str → Option Value} {base : Heap} {k : Nat} {f : Addr} {name qual : Str} {params : Arguments} {body : List Stmt} {scope : Scope} {dV kV doc pm cdv ct oc : Value} {an od : Option Addr}
    {osl : Array (Option Value)} {N ps : List Str} {sp : Shared → Sp} (lk : K.lookup f = some ⟨oc, od, .func (PySem.W.fnOf name qual params body scope dV kV doc pm an cdv ct), osl⟩) (hcode : PySem.W.codeIn K cdv qual = true) (S : FnScope N ps scope)
    (len : ∀ s vs H Q E, sp s vs H Q E → vs.length = ps.length)
    (hbody : ∀ (A : Around) (outer : List Env) (s : Shared) (H : Hp) (vs : List V) (Q : VK) (E : XK), Room k (A.deeper (envOfC qual scope s.heap.objs.size f cdv)) → sp s vs H Q E →
      ∃ t, PSs (cxOf CX P w K mg base N qual scope f cdv A outer s H E) body t ∧ t { nx := fun _ H' => Q .non H', rt := Q } (start N vs) H) :
    FnOkI P w K mg base CX (k + 1) f (PySem.W.fnOf name qual params body scope dV kV doc pm an cdv ct) ps sp := by
  refine ⟨len, fun A outer s H args us vs Q E hr e0 hb r hsp => ?_⟩
  have lenq := len _ _ _ _ _ hsp
  have inK : K.In s.heap := e0.mod.kin.keeps fun b o e => (e0.bs b o e).1
  have nolim : s.heap.NoLimit := e0.mod.nolimit.keeps fun b o e => (e0.bs b o e).1
  have kinds : ∀ y ∈ ps.zip us, scope.names.lookup y.1 = some .local ∨ (scope.names.lookup y.1 = some .cell ∧ ((cellsFrom (s.heap.objs.size + 1) scope.names []).lookup y.1).isSome = true) := fun ⟨n, v⟩ hy => by
    rcases S.par n (List.of_mem_zip hy).1 with q | q
    · exact .inl q
    · exact .inr ⟨q, PySem.W.cellsFrom_some _ _ _ (.inl q)⟩
  refine codeAny_call_function hr.depth (inK _ _ lk) rfl S.co S.gen rfl (PySem.W.codeRec_of inK hcode) (hb _ _ _ _ ?_)
  refine wpAny_newFunctionEnv_cells S.kind kinds fun env he sA xx => ?_
  subst he
  refine ⟨nolim.keeps xx.toInCall.keep, codeAny_func ?_⟩
  obtain ⟨t, hT, hB⟩ := hbody A outer s H vs Q E (hr.deeper _) hsp
  have Iv : Inv (cxOf CX P w K mg base N qual scope f cdv A outer s H E) [] (start N vs) H sA := inv_start S hr.hd e0 lenq r xx
  refine wpAny_mono (hT.run [] sA (start N vs) H _ Iv hB) (fun fl s' hC => ?_) fun e s' hC => hC
  have endq : ∀ {τ : L2.St} {H' : Hp} {v : V} {u : Value}, Inv (cxOf CX P w K mg base N qual scope f cdv A outer s H E) [] τ H' s' → RelV v u → Q v H' → CE outer P w H s Q u s' :=
    fun {τ H' v u} Jv rv q => ⟨v, H', Jv.os, Jv.bare, Jv.base, Jv.hok, rv, q⟩
  cases fl with
  | ret u =>
    obtain ⟨v, τ, H', Jv, rv, q⟩ := hC
    exact endq Jv rv q
  | next =>
    obtain ⟨τ, H', Jv, q⟩ := hC
    exact endq (v := V.non) (u := Value.none) Jv rfl q
  | brk =>
    obtain ⟨_, _, _, q⟩ := hC
    exact False.elim q
  | cont =>
    obtain ⟨_, _, _, q⟩ := hC
    exact False.elim q
end DLK
namespace DL
open PySem PySem.Spec L2 DLK PyProof.Rows
theorem itlF0 {K : PySem.W.Frag} {a : Addr} : ItX.ItlF K a 0 = Itl K a := by
  unfold ItX.ItlF
  simp only [Nat.zero_add]
/-- what a def does that gives the iterator of a list that is data -/
abbrev DSi := List D → Store → (List D → Store → Prop) → Prop
def liftI (K : PySem.W.Frag) (δ : DSi) (s : Shared) : Sp := fun vs H Q _ => ∃ ds F S Qd, Sep K F S H ∧ Rps K F ds vs ∧ δ ds S Qd ∧
  ∀ xs S' F' H' l zs it, Qd xs S' → Go F S H F' S' H' → Sep K F' S' H' → F' l = some (.lst zs) → Rps K F' xs zs → H' it = none → s.heap.objs.size ≤ it → Q (.ref it) (upd H' it (ItO l it 0))
def FnI (n : Bool) (P : Program) (w : World) (K : PySem.W.Frag) (mg : Str → Option Value) (base : Heap) (k : Nat) (f : Addr) (δ : DSi) : Prop :=
  ∀ (A : Around) (outer : List PySem.Env) (s : Shared) (H : Hp) (us : List Value) (vs : List V) (Q : VK) (E : XK), Room k A → Env0 P w K mg base A outer s H → Vals vs us → liftI K δ s vs H Q E →
    codeAny (model P w) A (.call (.ref f) ⟨us, []⟩) (CR (CXn n P w) outer P w H s Q E) s
def dIterE (de : DE) (ρ : Env) : Store → (List D → Store → Prop) → Prop := fun S Q => de ρ S fun d S1 => ∃ xs, d = .lst xs ∧ Q xs S1
section
variable {n : Bool} {P : Program} {w : World} {K : PySem.W.Frag} {mg : Str → Option Value} {base : Heap}
/-- def m(self): return iter(e) -/
theorem fn_iter {x qual : Str} {params : Arguments} {scope : Scope} {dvs : List V} {kws : List (Str × V)} {f : Addr} {fd : FuncData} {N ps : List Str} {k : Nat} {δ : DSi} {e : Expr} {p pos pos' : Pos} (Fd : FunD K x qual params [.Return (some (.Call (.Name "iter" p) [e] [] pos)) pos'] scope dvs kws f fd) (S : FnScope N ps scope)
    (hb : Binds K fd ps []) (hm : mg "iter" = none) (len : ∀ ds S Q, δ ds S Q → ds.length = ps.length)
    (hbody : ∀ (cdv : Value) (A : Around) (outer : List PySem.Env) (s : Shared) (H : Hp) (E : XK) (F0 : Bs), Room k (A.deeper (PyProof.Rows.envOfC qual scope s.heap.objs.size f cdv)) →
      Gl (cxOf (CXn n P w) P w K mg base N qual scope f cdv A outer s H E) "iter" ∧ starEach [e] (cxOf (CXn n P w) P w K mg base N qual scope f cdv A outer s H E).env = (false, eval e (cxOf (CXn n P w) P w K mg base N qual scope f cdv A outer s H E).env) :: starEach [] (cxOf (CXn n P w) P w K mg base N qual scope f cdv A outer s H E).env ∧
      ∃ t de, PD (cxOf (CXn n P w) P w K mg base N qual scope f cdv A outer s H E) F0 e t de ∧ ∀ ds S Q, δ ds S Q → dIterE de (startD N.length ds) S Q) :
    FnI n P w K mg base (k + 1) f δ := by
  obtain ⟨oc, od, dV, kV, doc, pm, an, cdv, ct, osl, efd, lk, hcd, _, _⟩ := Fd.ex
  have F : FnOkI P w K mg base (CXn n P w) (k + 1) f fd ps (liftI K δ) := by
    rw [efd] at lk ⊢
    refine fnI_of lk hcd S (fun s vs H Q E h => ?_) (fun A outer s H vs Q E hr h => ?_)
    · obtain ⟨ds, F, S, Qd, sp, r, h, _⟩ := h
      rw [r.length]
      exact len ds S Qd h
    · obtain ⟨ds, F, St, Qd, sp, r, h, fin⟩ := h
      obtain ⟨gl, st, t, de, pd, hd⟩ := hbody cdv A outer s H E ⟨F, St, H⟩ hr
      refine ⟨tRet (tCB (ItX.rIterN K s.heap.objs.size) (tCons t tNil)), pss_one (ps_ret (pe_callB ItX.call_iterN gl hm (by decide +kernel) (pa_cons pd.pe pa_nil st) (by decide) (by decide) st rfl)), ?_⟩
      show tCB _ (tCons t tNil) (L2.start N vs) H Q
      refine pd.sim (L2.start N vs) (startD N.length ds) H F St _ _ Go.rfl sp (envr_start r) ?_ (hd ds St Qd h)
      intro d S1 v F1 H1 q1 e1 s1 r1
      obtain ⟨xs, rfl, q1⟩ := q1
      obtain ⟨l, zs, rfl, h1, h2⟩ := rp_lst r1
      exact ⟨l, zs, rfl, .inl (.inl (s1.fz _ _ h1)), fun it hi hs => fin xs S1 F1 H1 l zs it q1 e1 s1 h1 h2 hi hs⟩
  intro A outer s H us vs Q E hr e0 r h
  have r2 : Vals (vs ++ []) (us ++ []) := r.append .nil
  rw [List.append_nil, List.append_nil] at r2
  have hl : (us ++ []).length = ps.length := by rw [List.append_nil, ← r2.length]; exact F.len _ _ _ _ _ h
  have hb' := hb s us (e0.mod.kin.keeps fun b o e => (e0.bs b o e).1) hl
  rw [List.append_nil] at hb'
  exact F.run A outer s H ⟨us, []⟩ us vs Q E hr e0 hb' r2 h
end
section
variable {n n' : Bool} {X : Cx} {F0 : Bs} {j k : Nat} {f C : Addr} {δ : DSi} {tg e : Expr} {te : TE} {de : DE}
theorem own_iter {M : Model} {A : Around} {E : Value → Shared → Prop} {s : Shared} {K : PySem.W.Frag} {x : Addr} {ox : Obj} {od : Option Obj} {Q : Value → Shared → Prop} (inK : K.In s.heap) (J : PySem.W.InstAt s.heap x ox C od) (du : Dun K C "__iter__" f)
    (h : wpAny M A (call (.ref f) [.ref x]) (fun r s' => (∃ it l i, r = .ref it ∧ s'.heap.get? it = some (GNX.itObj l i)) ∧ Q r s') E s) : wpAny M A (pyIter (.ref x)) Q E s := by
  have calls : wpAny M A (call (.ref f) [.ref x] >>= fun v => pure (some v)) (fun r sB => ∃ v, r = some v ∧ (∃ it l i, v = .ref it ∧ sB.heap.get? it = some (GNX.itObj l i)) ∧ Q v sB) E s :=
    wpAny_bind (wpAny_mono h (fun v sB hB => wpAny_pure ⟨v, rfl, hB⟩) fun _ _ z => z)
  have once : ∀ no : Sem Value, wpAny M A (callSpecialIfBoundUnlessNone? (.ref x) "__iter__" no) (fun r sB => ∃ v, r = some v ∧ (∃ it l i, v = .ref it ∧ sB.heap.get? it = some (GNX.itObj l i)) ∧ Q v sB) E s := by
    intro no
    simp only [callSpecialIfBoundUnlessNone?, bindSpecialIfBound?]
    refine wpAny_holding (wpAny_bind (wpAny_bind (wpAny_bind (J.type.here ((PySem.W.looks_findIn inK du.at_).here ?_)))))
    refine wpAny_bind (wpAny_askSetting (wpAny_ite ?_))
    have both : wpAny M A (if (Value.ref f == Value.none) = true then (no >>= fun v => pure (some v)) else (call (.ref f) [.ref x] >>= fun v => pure (some v))) (fun r sB => ∃ v, r = some v ∧ (∃ it l i, v = .ref it ∧ sB.heap.get? it = some (GNX.itObj l i)) ∧ Q v sB) E s := by
      rw [if_neg (fun (c : (Value.ref f == Value.none) = true) => Bool.false_ne_true c)]
      exact calls
    split
    · exact wpAny_bind ((PySem.W.bind_fn inK _ (beq_iff_eq.mp du.fn)).here (wpAny_pure (by exact both)))
    · exact wpAny_tryCatch (wpAny_bind ((PySem.W.bind_fn inK _ (beq_iff_eq.mp du.fn)).here (wpAny_pure (by exact both))))
  unfold pyIter
  refine wpAny_bind (wpAny_bind (J.type.here ((PySem.W.looks_findIn inK du.at_).here ?_)))
  show wpAny M A (callSpecialIfBoundUnlessNone? (.ref x) "__iter__" _ >>= _) Q E s
  refine wpAny_bind (wpAny_mono (once _) (fun r sB hB => ?_) fun _ _ z => z)
  obtain ⟨v, rfl, ⟨it, l, i, rfl, ho⟩, q⟩ := hB
  have hT : sB.TypeIs (.ref it) "list_iterator" := ⟨_, ho, rfl⟩
  exact wpAny_bind (wpAny_specialOf (name := Str.ofString "__next__") hT slot_listiter_next.lookup (wpAny_pure q))
def iOwn (K : PySem.W.Frag) (C : Addr) (δ : DSi) (n : Nat) (te : TE) : TI := fun σ H R => te σ H fun x H1 => ∃ a dx fs, x = .ref a ∧ H1 a = some (.ins C dx fs) ∧ ∀ s : Shared, n ≤ s.heap.objs.size → liftI K δ s [.ref a] H1 (fun v H2 => ∃ it l, v = .ref it ∧ n ≤ it ∧ H2 it = some (ItO l it 0) ∧ R (ItX.ItlF K l 0) (ItX.dropH H2 it)) fun _ _ _ => False
def diOwn (C : Addr) (δ : DSi) (de : DE) : DI := fun ρ S Q => de ρ S fun x S1 => (∃ fs, insOf S1 x = some (C, fs)) ∧ δ [x] S1 Q
theorem i_own (F : FnI n' X.prog X.w X.K X.mg X.base j f δ) (du : Dun X.K C "__iter__" f) (hr : Room k X.A) (hj : j ≤ k) (h : PD X F0 e te de) : PDI X F0 tg e (iOwn X.K C δ X.s_0.heap.objs.size te) (diOwn C δ de) := by
  refine ⟨⟨fun pins s σ H R I q => ?_⟩, ?_⟩
  · refine thn (h.pe.run pins s σ H _ I q) fun u s1 ⟨x, H1, I1, rx, a, dx, fs, ex, ea, q1⟩ => ?_
    subst ex
    obtain rfl : u = Value.ref a := rx
    obtain ⟨od, J⟩ := ins_inst I1 ea
    refine own_iter I1.kIn J du ?_
    refine wpAny_call (codeAny_mono (F X.A X.stack s1 H1 [.ref a] [.ref a] _ _ (hr.mono hj) I1.env0 (.cons (show RelV (V.ref a) (Value.ref a) from rfl) .nil) (q1 s1 I1.sz)) fun r s' hq => ?_)
    cases r with
    | error er => exact passAtNo (n := n') (σ := σ) pins H1 s1 er s' I1 hq
    | ok fl =>
      cases fl with
      | ret u =>
        obtain ⟨v, H2, I2, rv, it, l, rfl, hn, hi, q2⟩ := I1.after hq
        obtain rfl : u = Value.ref it := rv
        have eo := itO_get I2 hi
        have st : s'.heap.IsListIter it l (0 + 0) := ⟨_, eo, rfl, rfl⟩
        refine ⟨⟨it, l, 0, rfl, eo⟩, ?_⟩
        have hi' := hi
        unfold ItO at hi'
        refine ⟨it, [it], _, _, ItX.dropH H2 it, rfl, ItX.inv_drop I2 hi', ItX.turn_listF l it 0, st, fun b hb => ?_, q2⟩
        have eb : b = it := by simpa using hb
        rw [eb]
        exact ItX.inv_fp I2 hi hn
      | next => exact False.elim hq
      | brk => exact False.elim hq
      | cont => exact False.elim hq
  · intro σ ρ H F' S R Qd e0 s en lk q
    refine h.sim σ ρ H F' S _ _ e0 s en ?_ q
    intro x S1 v F1 H1 q1 e1 s1 r1
    obtain ⟨⟨fs, hi⟩, q1⟩ := q1
    obtain ⟨a, dx, ws, rfl, g1, g2⟩ := ins_of s1 r1 hi
    refine ⟨a, dx, ws, rfl, g1, fun sh hsz => ⟨[x], F1, S1, Qd, s1, rps_mk r1 rps_mk_nil, q1, ?_⟩⟩
    intro xs S2 F2 H2 l zs it q2 e2 s2 h1 h2 hi2 hs2
    refine ⟨it, l, rfl, Nat.le_trans hsz hs2, upd_same, ?_⟩
    rw [ItX.dropH_upd hi2, itlF0]
    exact lk xs S2 _ F2 H2 q2 (e1.trans e2) s2 (wk_list h1 h2)
end
end DL
set_option Elab.async false
set_option linter.all false
set_option maxRecDepth 100000
set_option maxHeartbeats 2000000
namespace DL
open PySem PySem.Spec L2 DLK
mutual
def leP : PyData → PyData → Option Bool
  | .int a, .int b => some (decide (a ≤ b))
  | .str a, .str b => some (!decide (b.cps.toList < a.cps.toList))
  | .tuple xs, .tuple ys => lexP xs ys
  | _, _ => none
def lexP : List PyData → List PyData → Option Bool
  | [], _ => some true
  | _ :: _, [] => some false
  | x :: xs, y :: ys => (leP x y).bind fun b => (lexP xs ys).map fun c => if PyData.eqv x y then c else b
end
theorem lexP_cons {x y : PyData} {xs ys : List PyData} {b : Bool} (h : lexP (x :: xs) (y :: ys) = some b) : ∃ c d, leP x y = some c ∧ lexP xs ys = some d ∧ b = if PyData.eqv x y then d else c := by
  unfold lexP at h
  cases e : leP x y with
  | none => rw [e] at h; cases h
  | some c =>
    cases e2 : lexP xs ys with
    | none => rw [e, e2] at h; cases h
    | some d => rw [e, e2] at h; cases h; exact ⟨c, d, rfl, rfl, rfl⟩
theorem lexP_at : ∀ {xs ys : List PyData} {b : Bool} {j : Nat} {x y : PyData}, lexP xs ys = some b → xs[j]? = some x → ys[j]? = some y → ∃ c, leP x y = some c
  | [], ys, b, j, x, y, h, e, f => by simp at e
  | x0 :: xs, [], b, j, x, y, h, e, f => by simp at f
  | x0 :: xs, y0 :: ys, b, 0, x, y, h, e, f => by
    obtain ⟨c, d, h1, h2, _⟩ := lexP_cons h
    simp at e f
    subst e f
    exact ⟨c, h1⟩
  | x0 :: xs, y0 :: ys, b, j + 1, x, y, h, e, f => by
    obtain ⟨c, d, h1, h2, _⟩ := lexP_cons h
    exact lexP_at (j := j) h2 (by simpa using e) (by simpa using f)
theorem lex_at {e r : Nat → Bool} : ∀ {xs ys : List PyData} {b : Bool} (i : Nat), lexP xs ys = some b → (∀ j x y, xs[j]? = some x → ys[j]? = some y → e (i + j) = PyData.eqv x y ∧ ∀ c, leP x y = some c → r (i + j) = c) →
    Ob.lexAt e r (decide (xs.length ≤ ys.length)) i (min xs.length ys.length) = b
  | [], ys, b, i, h, k => by
    unfold lexP at h
    cases h
    rw [List.length_nil, Nat.zero_min, Ob.lexAt_zero]
    exact decide_eq_true (Nat.zero_le _)
  | x :: xs, [], b, i, h, k => by
    unfold lexP at h
    cases h
    rw [List.length_nil, Nat.min_zero, Ob.lexAt_zero]
    exact decide_eq_false (by rw [List.length_cons]; omega)
  | x :: xs, y :: ys, b, i, h, k => by
    obtain ⟨c, d, h1, h2, hb⟩ := lexP_cons h
    have em : min (x :: xs).length (y :: ys).length = min xs.length ys.length + 1 := by rw [List.length_cons, List.length_cons]; omega
    have ez : decide ((x :: xs).length ≤ (y :: ys).length) = decide (xs.length ≤ ys.length) := by
      rw [List.length_cons, List.length_cons]
      exact decide_eq_decide.mpr (by omega)
    rw [em, ez, Ob.lexAt_succ]
    obtain ⟨k1, k2⟩ := k 0 x y rfl rfl
    rw [Nat.add_zero] at k1 k2
    rw [k1, k2 c h1, hb, lex_at (i + 1) h2 (fun j x' y' f1 f2 => by
      have z := k (j + 1) x' y' (by simpa using f1) (by simpa using f2)
      rw [show i + 1 + j = i + (j + 1) by omega]
      exact z)]
theorem readsAll_at {h : Heap} : ∀ {vs : List Value} {ds : List PyData} {as : List Addr} {j : Nat} {v : Value}, ReadsAll h vs ds as → vs[j]? = some v → ∃ d bs, ds[j]? = some d ∧ Reads h v d bs
  | [], ds, as, j, v, r, e => by simp at e
  | u :: vs, ds, as, j, v, r, e => by
    cases r with
    | @cons _ _ d ds' _ _ r1 r2 =>
      cases j with
      | zero => simp at e; subst e; exact ⟨d, _, rfl, r1⟩
      | succ j => exact readsAll_at (j := j) r2 (by simpa using e)
theorem readsAll_len {h : Heap} : ∀ {vs : List Value} {ds : List PyData} {as : List Addr}, ReadsAll h vs ds as → vs.length = ds.length
  | [], ds, as, r => by cases r; rfl
  | u :: vs, ds, as, r => by cases r with
    | cons r1 r2 => rw [List.length_cons, List.length_cons, readsAll_len r2]
theorem mem_nd : ∀ {xs : List PyData} {x : PyData}, nds xs = true → x ∈ xs → nd x = true
  | y :: ys, x, h, m => by
    unfold nds at h
    obtain ⟨h1, h2⟩ := Bool.and_eq_true_iff.mp h
    rcases List.mem_cons.mp m with rfl | m
    · exact h1
    · exact mem_nd h2 m
theorem mem_depth : ∀ {xs : List PyData} {x : PyData}, x ∈ xs → x.depth ≤ PyData.depthAll xs
  | y :: ys, x, m => by
    unfold PyData.depthAll
    rcases List.mem_cons.mp m with rfl | m
    · exact Nat.le_max_left _ _
    · exact Nat.le_trans (mem_depth m) (Nat.le_max_right _ _)
mutual
theorem le_rd : ∀ (x y : PyData) (A : Around) (s : Shared) (u v : Value) (as bs : List Addr) (b : Bool), Reads s.heap u x as → Reads s.heap v y bs → nd x = true → nd y = true → leP x y = some b → A.units + x.depth < cLine → Ob.RcOp .LtE A s u v b
  | .int i, y, A, s, u, v, as, bs, b, ru, rv, nx, ny, h, hu => by
    cases y <;> unfold leP at h <;> cases h
    cases ru
    cases rv
    exact Ob.RcOp.le_int _ _ _ _
  | .str i, y, A, s, u, v, as, bs, b, ru, rv, nx, ny, h, hu => by
    cases y <;> unfold leP at h <;> cases h
    cases ru
    cases rv
    exact fun prog w E Q q => PySem.P.le_str (by simpa using q)
  | .tuple xs, y, A, s, u, v, as, bs, b, ru, rv, nx, ny, h, hu => by
    cases y with
    | tuple ys =>
      unfold leP at h
      unfold nd at nx ny
      cases ru with
      | @tuple p o vs n _ _ h1 h2 h3 h4 =>
        cases rv with
        | @tuple p' o' vs' n' _ _ g1 g2 g3 g4 =>
          have hd : A.units + (PyData.depthAll xs + 1) < cLine := by unfold PyData.depth at hu; omega
          have e1 : vs.size = xs.length := by rw [← readsAll_len h4, Array.length_toList]
          have e2 : vs'.size = ys.length := by rw [← readsAll_len g4, Array.length_toList]
          have R := Ob.RcOp.tuples_le (A := A) (s := s) (e := fun j => PyData.eqv (xs.getD j .none) (ys.getD j .none)) (r := fun j => (leP (xs.getD j .none) (ys.getD j .none)).getD false) ⟨o, h1, h2, n, h3⟩ ⟨o', g1, g2, n', g3⟩ (by omega) (fun j k1 k2 => by
              obtain ⟨d, cs, f1, f2⟩ := readsAll_at (j := j) h4 (by rw [Array.getElem?_toList, Array.getElem?_eq_getElem k1])
              obtain ⟨d', cs', f1', f2'⟩ := readsAll_at (j := j) g4 (by rw [Array.getElem?_toList, Array.getElem?_eq_getElem k2])
              have m1 := List.mem_of_getElem? f1
              have m2 := List.mem_of_getElem? f1'
              have z1 : xs.getD j .none = d := by rw [List.getD_eq_getElem?_getD, f1] <;> rfl
              have z2 : ys.getD j .none = d' := by rw [List.getD_eq_getElem?_getD, f1'] <;> rfl
              rw [z1, z2]
              exact eq_rd d d' A.in1 s _ _ cs cs' f2 f2' (mem_nd nx m1) (mem_nd ny m2) (by have := mem_depth m1; show A.units + 1 + _ < _; omega)) (fun j k1 k2 _ => by
              obtain ⟨d, cs, f1, f2⟩ := readsAll_at (j := j) h4 (by rw [Array.getElem?_toList, Array.getElem?_eq_getElem k1])
              obtain ⟨d', cs', f1', f2'⟩ := readsAll_at (j := j) g4 (by rw [Array.getElem?_toList, Array.getElem?_eq_getElem k2])
              have m1 := List.mem_of_getElem? f1
              have m2 := List.mem_of_getElem? f1'
              have z1 : xs.getD j .none = d := by rw [List.getD_eq_getElem?_getD, f1] <;> rfl
              have z2 : ys.getD j .none = d' := by rw [List.getD_eq_getElem?_getD, f1'] <;> rfl
              obtain ⟨c, hc⟩ := lexP_at h f1 f1'
              rw [z1, z2, hc]
              exact les_rd xs d m1 d' A.in1 s _ _ cs cs' c f2 f2' (mem_nd nx m1) (mem_nd ny m2) hc (by have := mem_depth m1; show A.units + 1 + _ < _; omega))
          rw [e1, e2, lex_at 0 h (fun j x y f1 f2 => by
            rw [Nat.zero_add]
            have z1 : xs.getD j .none = x := by rw [List.getD_eq_getElem?_getD, f1] <;> rfl
            have z2 : ys.getD j .none = y := by rw [List.getD_eq_getElem?_getD, f2] <;> rfl
            rw [z1, z2]
            exact ⟨rfl, fun c hc => by rw [hc] <;> rfl⟩)] at R
          exact R
    | _ => unfold leP at h; cases h
  | .none, y, A, s, u, v, as, bs, b, ru, rv, nx, ny, h, hu => by unfold leP at h; cases h
  | .bool _, y, A, s, u, v, as, bs, b, ru, rv, nx, ny, h, hu => by unfold leP at h; cases h
  | .list _, y, A, s, u, v, as, bs, b, ru, rv, nx, ny, h, hu => by unfold leP at h; cases h
  | .dict _, y, A, s, u, v, as, bs, b, ru, rv, nx, ny, h, hu => by unfold leP at h; cases h
theorem les_rd : ∀ (xs : List PyData) (x : PyData), x ∈ xs → ∀ (y : PyData) (A : Around) (s : Shared) (u v : Value) (as bs : List Addr) (b : Bool), Reads s.heap u x as → Reads s.heap v y bs → nd x = true → nd y = true → leP x y = some b → A.units + x.depth < cLine → Ob.RcOp .LtE A s u v b
  | [], x, m => by cases m
  | x0 :: xs, x, m => by
    intro y A s u v as bs b ru rv nx ny h hu
    by_cases e : x0 = x
    · subst e
      exact le_rd x0 y A s u v as bs b ru rv nx ny h hu
    · exact les_rd xs x ((List.mem_cons.mp m).resolve_left fun z => e z.symm) y A s u v as bs b ru rv nx ny h hu
end
def rLeP (K : PySem.W.Frag) : R2 := fun x y H Q => ∃ d e b, Dp K H x d ∧ Dp K H y e ∧ nd d = true ∧ nd e = true ∧ d.depth ≤ 64 ∧ leP d e = some b ∧ Q (.bl b) H
def opLeP : DR2 := fun x y S Q => match pyOf (res S x), pyOf (res S y) with
  | some p, some q => p.depth ≤ 64 ∧ ∃ b, leP p q = some b ∧ Q (.bl b) S
  | _, _ => False
section
variable {X : Cx} {F0 : Bs}
theorem o_leP {k : Nat} (hr : Room k X.A) : DOp X F0 (compareOp .LtE) (rLeP X.K) opLeP := by
  refine ⟨?_, ?_⟩
  · intro pins s σ H x y v u Q I rx ry h
    obtain ⟨d, e, b, hd, he, n1, n2, dep, hb, q⟩ := h
    obtain ⟨as, r1⟩ := Dp.reads I d x v hd rx
    obtain ⟨bs, r2⟩ := Dp.reads I e y u he ry
    exact le_rd d e X.A s v u as bs b r1 r2 n1 n2 hb (by have := hr.un; omega) X.prog X.w X.xe _ ⟨.bl _, H, I, rfl, q⟩
  · intro x y dx dy H F S Q Qd e0 s rx ry lk h
    unfold opLeP at h
    split at h
    · rename_i p q e1 e2
      obtain ⟨dep, b, hb, h⟩ := h
      exact ⟨p, q, b, dp_res s e1 rx, dp_res s e2 ry, nd_py _ _ e1, nd_py _ _ e2, dep, hb, lk _ S _ F H h Go.rfl s rp_mk_bl⟩
    · exact h.elim
end
end DL
set_option Elab.async false
set_option linter.all false
set_option maxRecDepth 100000
set_option maxHeartbeats 2000000
namespace DL
open PySem PySem.Spec L2 DLK
theorem ub_up {P : Program} {fr : List Addr} {s s2 : Shared} {H H2 H' : Hp} {B h : Heap} (un : Un fr [] H H2 s.heap s2.heap) (kp : ∀ b o, s.heap.get? b = some o → s2.heap.get? b = some o) (ub : UB fr H2 H' s2.heap B h) : UB fr H H' s.heap B h := by
  refine ⟨fun b o q n hb => ub.keep b o (kp b o q) (un.free b o q n (by simp)) hb, fun b o q hb => ub.slot b o (kp b o q) hb, fun b o q n => ub.free b o (kp b o q) (un.free b o q n (by simp)),
    fun b o q hb => ub.there b o (kp b o q) hb, fun b xs q => ub.tups b xs (un.tups b xs q), fun b o xs q => ub.frzs b o xs (un.frzs b o xs q), fun b ps q => ?_⟩
  obtain ⟨m1, g1⟩ := un.tbls b ps q
  obtain ⟨m2, g2⟩ := ub.tbls b _ g1
  exact ⟨m1 ++ m2, by rw [g2, Array.append_assoc]⟩
theorem cxUpN {n : Bool} {P : Program} {w : World} : StX.CXUp (CXn n P w) := by
  cases n with
  | true =>
    rintro outer s H s2 H2 E e s' un kp ho ⟨a, B, H', cls, d, ea, fl, hok, ub, na, os, ag, he⟩
    exact ⟨a, B, H', cls, d, ea, fl, hok, ub_up (P := P) un kp ub, na, os.trans ho, ag, he⟩
  | false => exact StX.cxUp
/-- def f(a, .., *v) -/
theorem fn_dStar {n : Bool} {P : Program} {w : World} {K : PySem.W.Frag} {mg : Str → Option Value} {base : Heap} {x qual pv : Str} {params : Arguments} {body : List Stmt} {scope : Scope} {kws : List (Str × V)} {f : Addr} {fd : FuncData} {N ps : List Str} {k : Nat} {δ : DSp}
    (Fd : FunD K x qual params body scope [] kws f fd) (S : FnScope N (ps ++ [pv]) scope)
    (hb : ∀ (kV doc pm : Value) (an : Option Addr) (cdv ct : Value) (us rest : List Value), us.length = ps.length → bindArgs (PySem.W.fnOf x qual params body scope .none kV doc pm an cdv ct) ⟨us ++ rest, []⟩ = (newTuple rest >>= fun t => pure (ps.zip us ++ [(pv, t)])))
    (hbody : ∀ (cdv : Value) (A : Around) (outer : List PySem.Env) (s : Shared) (H : Hp) (E : XK) (F0 : Bs) (ε : Exn → Store → Prop), Room k (A.deeper (PyProof.Rows.envOfC qual scope s.heap.objs.size f cdv)) →
      Ctx n (cxOf (CXn n P w) P w K mg base N qual scope f cdv A outer s H E) F0 (oOf ε) (wOf E) →
      ∃ t db, PDSs (cxOf (CXn n P w) P w K mg base N qual scope f cdv A outer s H E) F0 body t db ∧ ∀ ds S Q, δ ds S Q ε → db { nx := fun _ S' => Q .non S', rt := Q } (startD N.length ds) S) :
    FnD n P w K mg base (k + 1) f (fun xs S Q ε => ∃ ws rest, xs = ws ++ rest ∧ ws.length = ps.length ∧ rest.length ≤ sizeLine ∧ δ (ws ++ [.tup rest]) S Q ε) := by
  obtain ⟨oc, od, dV, kV, doc, pm, an, cdv, ct, osl, rfl, lk, hcd, hd0, _⟩ := Fd.ex
  have e0 : dV = .none := by
    rcases hd0 with ⟨_, z⟩ | ⟨z, _⟩
    · exact z
    · exact absurd rfl z
  subst e0
  refine FnR.imp (StX.fn_star (sp := lift K δ) lk hcd S cxUpN (fun us rest h => hb kV doc pm an cdv ct us rest h) (fun A outer s H vs Q E hr h => ?_)) (fun vs H Q E h => ?_)
  · obtain ⟨ds, F, St, Qd, ε, sp, r, h, lk, lx⟩ := h
    have tk : Tkn n (cxOf (CXn n P w) P w K mg base N qual scope f cdv A outer s H E) (wOf E) := by
      cases n with
      | true => exact L2N.takes_of rfl rfl rfl rfl
      | false => exact takes_of rfl rfl rfl rfl
    obtain ⟨t, db, hb, hd⟩ := hbody cdv A outer s H E ⟨F, St, H⟩ ε hr ⟨tk, fun ex ρ S' cls dx σ F' H' q g s' en rx => lx ex S' cls dx F' H' q g s' rx⟩
    refine ⟨t, hb.pss, ?_⟩
    refine hb.sim (L2.start N vs) (startD N.length ds) H F St _ { nx := fun _ S' => Qd .non S', rt := Qd } Go.rfl sp (envr_start r) ⟨?_, lk, lkS_no, lkS_no⟩ (hd ds St Qd h)
    intro ρ S' σ F' H' q g s' en
    exact lk .non S' .non F' H' q g s' rp_mk_non
  · obtain ⟨ds, F, St, Qd, ε, sp, r, ⟨wsD, restD, rfl, h1, h2, h⟩, lk, lx⟩ := h
    have r1 := r.take wsD.length
    have r2 := r.drop wsD.length
    rw [List.take_left] at r1
    rw [List.drop_left] at r2
    refine ⟨vs.take wsD.length, vs.drop wsD.length, (List.take_append_drop _ _).symm, by rw [r1.length]; exact h1, by rw [r2.length]; exact h2, fun p hp => ?_⟩
    obtain ⟨x1, x2⟩ := sp.new (o := .tup (vs.drop wsD.length)) hp
    exact ⟨wsD ++ [.tup restD], _, St, Qd, ε, x2, (Rps.mono x1 _ _ r1).append (rps_mk (rp_mk_tup upd_same (Rps.mono x1 _ _ r2)) rps_mk_nil), h, lk.mono (Go.new sp hp), lx.mono (Go.new sp hp)⟩
/-- *e within an argument list or a display: a list or a tuple, as data or as a cell -/
def dStar (de : DE) (dr : DA) : DA := fun ρ S Q => de ρ S fun x S1 => ∃ xs, (lsOf S1 x = some xs ∨ tpOf x = some xs) ∧ dr ρ S1 fun ys S2 => Q (xs ++ ys) S2
section
variable {X : Cx} {F0 : Bs} {e : Expr} {es : List Expr} {te : TE} {de : DE} {t : TA} {dr : DA} {p : Pos}
theorem da_star (he : PD X F0 e te de) (hr : PDA X F0 es t dr) (hs : starEach (.Starred e p :: es) X.env = (true, eval e X.env) :: starEach es X.env := by rfl) : PDA X F0 (.Starred e p :: es) (StX.tStar X.K te t) (dStar de dr) := by
  refine ⟨StX.pa_star he.pe hr.pa hs, ?_⟩
  intro σ ρ H F S Q Qd e0 s en lk h
  refine he.sim σ ρ H F S _ _ e0 s en ?_ h
  intro x S1 v F1 H1 q1 e1 s1 r1
  obtain ⟨xs, hx, q1⟩ := q1
  have go : ∀ zs, Rps X.K F1 xs zs → t σ H1 fun vs H2 => Q (zs ++ vs) H2 := fun zs rz => by
    refine hr.sim σ ρ H1 F1 S1 _ _ (e0.trans e1) s1 (en.mono e1.1) ?_ q1
    intro ys S2 vs F2 H2 q2 e2 s2 r2
    exact lk _ S2 _ F2 H2 q2 (e1.trans e2) s2 ((Rps.mono e2.1 _ _ rz).append r2)
  rcases hx with hx | hx
  · obtain ⟨a, zs, rfl, g1, g2⟩ := ls_of s1 r1 hx
    exact ⟨a, zs, rfl, .inr g1, go zs g2⟩
  · obtain ⟨a, zs, rfl, _, g1, g2⟩ := tp_of s1 r1 hx
    exact ⟨a, zs, rfl, .inl (.inl (.inl g1)), go zs g2⟩
end
end DL
set_option Elab.async false
set_option linter.all false
set_option maxRecDepth 100000
set_option maxHeartbeats 2000000
namespace DL
open PySem PySem.Spec L2 DLK PyProof.Rows
section
variable {X : Cx} {F0 : Bs} {tg e : Expr} {te : TE} {de : DE}
def iAny (K : PySem.W.Frag) (te : TE) : TI := fun σ H R => te σ H fun x H1 => (∃ a, x = .ref a ∧ (∃ xs, SqL K H1 a xs) ∧ R (Itl K a) H1) ∨ (∃ a, x = .ref a ∧ (∃ xs, SqT K H1 a xs) ∧ R (Itt K a) H1) ∨ ∃ z, x = .str z ∧ R (Its z) H1
theorem pi_any (he : PE X e te) : PI X tg e (iAny X.K te) := by
  refine ⟨fun pins s σ H R I h => ?_⟩
  refine thn (he.run pins s σ H _ I h) fun v s1 ⟨y, H1, I1, r1, q1⟩ => ?_
  rcases q1 with ⟨a, ey, ⟨xs, hq⟩, q⟩ | ⟨a, ey, ⟨xs, hq⟩, q⟩ | ⟨x, ex, q⟩
  · subst ey
    cases r1
    obtain ⟨its, rv, p, hz⟩ := I1.list hq
    refine wpAny_pyIter_list p.isList ?_
    refine ⟨s1.heap.objs.size, [s1.heap.objs.size], _, _, H1, rfl, I1.kept (t' := s1.toks) fun b o e => Heap.get?_push_of_some _ e, turn_list a _, ⟨_, Heap.get?_push_size _ rfl, rfl, rfl⟩, fun b hb => ?_, q⟩
    have e : b = s1.heap.objs.size := by simpa using hb
    subst e
    exact I1.fpOk (Nat.le_refl _) (I1.hok.fresh (Nat.le_refl _))
  · subst ey
    cases r1
    obtain ⟨its, rv, p, hz⟩ := I1.tuple hq
    refine wpAny_pyIter_tuple (show s1.heap.IsTuple a its.toArray from p) ?_
    refine ⟨s1.heap.objs.size, [s1.heap.objs.size], _, _, H1, rfl, I1.kept (t' := s1.toks) fun b o e => Heap.get?_push_of_some _ e, turn_tuple a _, ⟨_, Heap.get?_push_size _ rfl, rfl, rfl⟩, fun b hb => ?_, q⟩
    have e : b = s1.heap.objs.size := by simpa using hb
    subst e
    exact I1.fpOk (Nat.le_refl _) (I1.hok.fresh (Nat.le_refl _))
  · subst ex
    obtain ⟨t, rfl⟩ := r1
    cases ha : x.cps.all (· < 128)
    · exact wpAny_pyIter_wide ha (pi_one (tk := s1.toks) I1 _ (turn_str _ x t "str_iterator" (.inr rfl)) ⟨_, Heap.get?_push_size _ rfl, rfl, rfl⟩ q)
    · exact wpAny_pyIter_ascii ha (pi_one (tk := s1.toks) I1 _ (turn_str _ x t "str_ascii_iterator" (.inl rfl)) ⟨_, Heap.get?_push_size _ rfl, rfl, rfl⟩ q)
/-- the things that a walk over a value goes through -/
def itemsD : D → Option (List D)
  | .lst xs => some xs
  | .tup xs => some xs
  | .str z => some ((signs z).map D.str)
  | .scr ns => some (ns.map D.int)
  | _ => none
def diAny (de : DE) : DI := fun ρ S Q => de ρ S fun d S1 => match itemsD d with | some xs => Q xs S1 | none => False
theorem wk_scr {K : PySem.W.Frag} {F : Hp} {a : Addr} {ns : List Int} (h : SqL K F a (ns.map V.int)) : Wk K F (Itl K a) (ns.map D.int) := by
  have hl : (ns.map D.int).length = (ns.map V.int).length := by simp
  refine ⟨_, _, by rw [hl]; exact walk_list (xs := ns.map V.int), fun F' S' H' e s => (show SqL K H' a (ns.map V.int) from s.sqL (e.sqL h)), ?_⟩
  intro i H1 x H2 F1 S1 hi e s y
  obtain ⟨rfl, y⟩ := y
  obtain ⟨d, h1, h2⟩ := (Rps.mk_ints (K := K) (F := F1) ns).got y
  exact ⟨F1, d, Go.rfl, s, h1, h2⟩
theorem i_any (h : PD X F0 e te de) : PDI X F0 tg e (iAny X.K te) (diAny de) := by
  refine ⟨pi_any h.pe, ?_⟩
  intro σ ρ H F S R Qd e0 s en lk q
  refine h.sim σ ρ H F S _ _ e0 s en ?_ q
  intro d S1 v F1 H1 q1 e1 s1 r1
  cases d with
  | lst xs =>
    obtain ⟨a, vs, rfl, h1, h2⟩ := rp_lst r1
    exact .inl ⟨a, rfl, ⟨vs, .inl (.inl (s1.fz _ _ h1))⟩, lk xs S1 _ F1 H1 q1 e1 s1 (wk_list h1 h2)⟩
  | tup xs =>
    obtain ⟨a, vs, rfl, h1, h2⟩ := rp_tup r1
    exact .inr (.inl ⟨a, rfl, ⟨vs, .inl (.inl (s1.fz _ _ h1))⟩, lk xs S1 _ F1 H1 q1 e1 s1 (wk_tup h1 h2)⟩)
  | str z =>
    have e := rp_str r1
    subst e
    exact .inr (.inr ⟨z, rfl, lk _ S1 _ F1 H1 q1 e1 s1 wk_str⟩)
  | scr ns =>
    unfold Rp at r1
    obtain ⟨a, rfl, h1⟩ := r1
    exact .inl ⟨a, rfl, ⟨_, s1.sqL h1⟩, lk _ S1 _ F1 H1 q1 e1 s1 (wk_scr h1)⟩
  | _ => exact q1.elim
end
def isDct : D → Prop
  | .dK _ => True
  | .dT _ => True
  | _ => False
theorem isD_of {K : PySem.W.Frag} {F : Hp} {S : Store} {H : Hp} (s : Sep K F S H) {d : D} {v : V} (r : Rp K F d v) (h : isDct (res S d)) : ∃ a, v = .ref a ∧ IsD H a := by
  cases ed : res S d with
  | dK kvs =>
    obtain ⟨q, ws, rfl, hd, _⟩ := res_dK s r ed
    rcases hd with hd | ⟨o, hd⟩
    · exact ⟨q, rfl, .inl ⟨ws, .inl hd⟩⟩
    · exact ⟨q, rfl, .inl ⟨ws, .inr ⟨o, hd⟩⟩⟩
  | dT kvs =>
    obtain ⟨q, ws, rfl, hd, _⟩ := res_dT s r ed
    rcases hd with hd | ⟨o, hd⟩
    · exact ⟨q, rfl, .inr ⟨ws, .inl hd⟩⟩
    · exact ⟨q, rfl, .inr ⟨ws, .inr ⟨o, hd⟩⟩⟩
  | _ => rw [ed] at h; exact h.elim
def dDGet2 (da db dc : DE) : DE := fun ρ S Q => da ρ S fun x S1 => isDct (res S1 x) ∧ db ρ S1 fun y S2 => dc ρ S2 fun z S3 => match dGet S3 x y with
  | some o => Q (o.getD z) S3
  | none => False
section
variable {X : Cx} {F0 : Bs} {a b c : Expr} {ta tb tc : TE} {da db dc : DE} {apos cpos : Pos}
theorem d_dget2 {k : Nat} (hr : Room k X.A) (ha : PD X F0 a ta da) (hb : PD X F0 b tb db) (hc : PD X F0 c tc dc) (m : M2 X a "get" apos b c cpos := by exact ⟨rfl, rfl, rfl, rfl⟩) : PD X F0 (.Call (.Attribute a "get" apos) [b, c] [] cpos) (tDGet2 ta tb tc) (dDGet2 da db dc) := by
  refine ⟨pe_dget2 (hu_of hr) ha.pe hb.pe hc.pe m, ?_⟩
  intro σ ρ H F S Q Qd e0 s en lk h
  refine ha.sim σ ρ H F S _ _ e0 s en ?_ h
  intro x S1 v F1 H1 q1 e1 s1 r1
  obtain ⟨hi, q1⟩ := q1
  obtain ⟨p, rfl, isd⟩ := isD_of s1 r1 hi
  refine ⟨p, rfl, isd, ?_⟩
  refine hb.sim σ ρ H1 F1 S1 _ _ (e0.trans e1) s1 (en.mono e1.1) ?_ q1
  intro y S2 w F2 H2 q2 e2 s2 r2
  refine hc.sim σ ρ H2 F2 S2 _ _ ((e0.trans e1).trans e2) s2 (en.mono (e1.trans e2).1) ?_ q2
  intro z S3 u F3 H3 q3 e3 s3 r3
  split at q3
  · rename_i o ed
    obtain ⟨p', w', ep, g, ho⟩ := dGet_ok s3 ed (Rp.mono (e2.trans e3).1 _ _ r1) (Rp.mono e3.1 _ _ r2)
    cases ep
    refine ⟨w', g, ?_⟩
    rcases ho with ⟨rfl, rfl⟩ | ⟨x', u', rfl, rfl, rr⟩
    · exact lk _ S3 _ F3 H3 q3 ((e1.trans e2).trans e3) s3 r3
    · exact lk _ S3 _ F3 H3 q3 ((e1.trans e2).trans e3) s3 rr
  · exact q3.elim
end
section
variable {X : Cx} {F0 : Bs} {tg e : Expr} {es : List Expr} {vs : List Nat}
theorem PD.re {t t' : TE} {δ : DE} (h : PD X F0 e t δ) (q : t = t') : PD X F0 e t' δ := q ▸ h
theorem PDTs.re {t t' : TT} {δ : DT} (h : PDTs X F0 es t δ) (q : t = t') : PDTs X F0 es t' δ := q ▸ h
theorem PDI.re {t t' : TI} {δ : DI} (h : PDI X F0 tg e t δ) (q : t = t') : PDI X F0 tg e t' δ := q ▸ h
theorem PDGv.re {t t' : TG} {δ : DG} (h : PDGv X F0 vs tg t δ) (q : t = t') : PDGv X F0 vs tg t' δ := q ▸ h
theorem PDA.re {t t' : TA} {δ : DA} (h : PDA X F0 es t δ) (q : t = t') : PDA X F0 es t' δ := q ▸ h
theorem PDSs.re {sts : List Stmt} {t t' : TS} {δ : DS} (h : PDSs X F0 sts t δ) (q : t = t') : PDSs X F0 sts t' δ := q ▸ h
theorem dbt_bool : bootBuiltins "bool" = some (.type "bool") := by decide +kernel
theorem dbt_dict : bootBuiltins "dict" = some (.type "dict") := by decide +kernel
end
end DL
set_option Elab.async false
set_option linter.all false
set_option maxRecDepth 100000
set_option maxHeartbeats 2000000
namespace DLK
open PySem PySem.Spec L2 PyProof.Rows
open Sem (wp)
open AutoSeq1 (wpAny_loadPart')
set_option maxHeartbeats 1000000 in
theorem meets_enumT (l : Addr) (items : Array Value) :
    Meets (Builtin.«enumerate.__new__» ⟨[.type "enumerate", .ref l], []⟩) (fun _ R s => s.heap.IsTuple l items ∧
      R (.ok (.ret (.ref (s.heap.push { cls := .type "tuple_iterator", data := .fields #[.ref l, .int 0 0] }).objs.size)))
        { s with heap := (s.heap.push { cls := .type "tuple_iterator", data := .fields #[.ref l, .int 0 0] }).push { cls := .type "enumerate", data := .fields #[.none, .bool false, .ref s.heap.objs.size, rawInt 0, .none, .none] } }) :=
  .of_wp fun prog w A R s h => by
    obtain ⟨hp, g, d, tk, os⟩ := s; obtain ⟨hT, h⟩ := h
    obtain ⟨ob, hl, hc, n, hd⟩ := id hT
    have se := sub_enumerate
    wp_walk using wpAny_loadPart' hl
    refine wpAny_stack_any fun st => wpAny_pure ?_
    split
    · rename_i c _ _ _ _ _
      cases (c == Value.type "enumerate")
      · wp_walk using wpAny_loadPart' hl, wpAny_pyIter_tuple hT
        exact ⟨_, rfl, h⟩
      · wp_walk using wpAny_loadPart' hl, wpAny_pyIter_tuple hT
        exact ⟨_, rfl, h⟩
    · wp_walk using wpAny_loadPart' hl, wpAny_pyIter_tuple hT
      exact ⟨_, rfl, h⟩
section
variable {prog : Program} {w : World} {A : Around} {E : Value → Shared → Prop} {s : Shared}
theorem call_enumT {l : Addr} {items : Array Value} {Q : Value → Shared → Prop} (hL : s.heap.IsTuple l items)
    (h : ∀ k, IsEnum k (s.heap.objs.size + 1) s.heap.objs.size 0 .none → k.IsTupleIter s.heap.objs.size l 0 → (∀ b o, s.heap.get? b = some o → k.get? b = some o) → Q (.ref (s.heap.objs.size + 1)) { s with heap := k }) :
    wpAny (model prog w) A (call (.type "enumerate") [.ref l]) Q E s := by
  refine callType_new F.called_enumerate (by decide) (F.typeCall_enumerate_1 _) (F.newCall_enumerate_1 _) (fun obj => F.args_object_init_2 obj _) F.entry_enumerate_new (meets_enumT l items) ⟨hL, ?_⟩
  have hz : (s.heap.push { cls := .type "tuple_iterator", data := .fields #[.ref l, .int 0 0] }).objs.size = s.heap.objs.size + 1 := Heap.size_push ..
  show _ ∧ _
  rw [hz]
  have en : IsEnum ((s.heap.push { cls := .type "tuple_iterator", data := .fields #[.ref l, .int 0 0] }).push { cls := .type "enumerate", data := .fields #[.none, .bool false, .ref s.heap.objs.size, rawInt 0, .none, .none] }) (s.heap.objs.size + 1) s.heap.objs.size 0 .none := by
    have z := Heap.get?_push_size (s.heap.push { cls := .type "tuple_iterator", data := .fields #[.ref l, .int 0 0] }) (o := { cls := .type "enumerate", data := .fields #[.none, .bool false, .ref s.heap.objs.size, rawInt 0, .none, .none] }) rfl
    rw [hz] at z; exact z
  exact ⟨⟨_, en, rfl⟩, h _ en ⟨_, Heap.get?_push_of_some _ (Heap.get?_push_size _ rfl), rfl, rfl⟩ fun b o x => Heap.get?_push_of_some _ (Heap.get?_push_of_some _ x)⟩
end
/-- the tuple at a, each item in a new pair with its place -/
def Iteq (K : PySem.W.Frag) (a : Addr) : It :=
  ⟨fun i H => ∃ (xs : List V) (x : V), SqT K H a xs ∧ xs[i]? = some x,
    fun i H v H' => ∃ T x, v = .ref T ∧ H T = none ∧ H' = upd H T (.tup [.int (i : Nat), x]) ∧ ∀ xs, SqT K H a xs → xs[i]? = some x,
    fun i H => ∃ xs : List V, SqT K H a xs ∧ xs.length ≤ i⟩
theorem turn_enumT {P : Program} {w : World} {K : PySem.W.Frag} {elts : List Expr} {kk : Nat} {tpos : Pos} (a e it : Addr) :
    Turn P w K (.Tuple elts kk tpos) (Iteq K a) [e, it] e (fun i h => (∃ old, IsEnum h e it ((i : Nat) : Int) old) ∧ h.IsTupleIter it a i ∧ e ≠ it ∧ a ≠ it ∧ a ≠ e) where
  mem := List.mem_cons_self
  obj := fun i h ⟨⟨old, he⟩, ⟨o, ho, hc, hd⟩, _⟩ b hb => by
    rcases List.mem_cons.mp hb with z | z
    · rw [z]; exact ⟨_, he, fun v q => nomatch q⟩
    · rw [List.mem_singleton.mp z]; exact ⟨o, ho, fun v q => by rw [hd] at q; cases q⟩
  keep := fun i h h' ⟨⟨old, he⟩, hi, ne⟩ k => ⟨⟨old, k e List.mem_cons_self _ he⟩, hi.at fun o q => k it (List.mem_cons_of_mem _ List.mem_cons_self) o q, ne⟩
  item := by
    rintro X rfl rfl rfl hc i pins s σ H E I hf ⟨⟨old, he⟩, hit, hne, hai, hae⟩ ⟨xs, x, hq, hx⟩
    obtain ⟨its, rv, p, hz⟩ := I.tuple hq
    obtain ⟨u, hu, ru⟩ := rv.get hx
    have pT : s.heap.IsTuple a its.toArray := p
    have hel : e < s.heap.objs.size := Heap.lt_size he
    have hil : it < s.heap.objs.size := let ⟨_, q, _⟩ := hit; Heap.lt_size q
    have hlt : i < its.toArray.size := by simpa using (List.getElem?_eq_some_iff.mp hu).1
    refine wpAny_pyNext_enum_itemD (Draws.tuple (A := X.A.in1) (I.ok.hd hc) it a hai its.toArray) he ⟨hit, pT⟩ hlt hne (by simp [Ne.symm hae, hne]) fun v h' tk hv ho hst hT hsz hk => ?_
    have ev : v = u := by
      have := hv.symm.trans (show its.toArray[i]? = some u by simpa using hu)
      exact Option.some.inj this
    subst ev
    refine ⟨_, rfl, wpAny_letOwnedTupleGo_enum (s := { s with heap := h', toks := tk + 1 }) ho fun h'' he' sb => ?_⟩
    have hT2 : h''.get? s.heap.objs.size = some { cls := .type "tuple", data := .seq #[.int i tk, v] } := (sb.2 _ (Nat.ne_of_gt hel)).trans hT
    have new : ObjOk X.prog X.w (upd H s.heap.objs.size (.tup [.int (i : Nat), x])) h'' s.heap.objs.size (.tup [.int (i : Nat), x]) := ⟨by show 2 ≤ sizeLine; decide, [.int i tk, v], .cons ⟨_, rfl⟩ (.cons ru .nil), ⟨_, hT2, rfl, _, rfl⟩⟩
    have I1 : Inv X pins σ (upd H s.heap.objs.size (.tup [.int (i : Nat), x])) { s with heap := h'', toks := tk + 1 } := I.turnedNew (ch := [e, it]) (fun b ob hb q => (sb.2 b fun z => hb (by rw [z]; exact List.mem_cons_self)).trans (hk b ob (fun z => hb (by rw [z]; exact List.mem_cons_self)) (fun z => hb (by rw [z]; exact List.mem_cons_of_mem _ List.mem_cons_self)) q)) hf (Nat.le_refl _) new
    refine ⟨.ref s.heap.objs.size, _, I1, rfl, ⟨_, x, rfl, I.hok.fresh (Nat.le_refl _), rfl, fun ys hy => ?_⟩, ⟨⟨v, ?_⟩, hst.1.at fun o q => (sb.2 it (Ne.symm hne)).trans q, hne, hai, hae⟩, fun b hb => ?_⟩
    · rw [I.tuple_inj hy hq]; exact hx
    · rw [show ((i + 1 : Nat) : Int) = (i : Int) + 1 by omega]; exact he'
    · have hb' : b < s.heap.objs.size := by
        rcases List.mem_cons.mp hb with z | z
        · rw [z]; exact hel
        · rw [List.mem_singleton.mp z]; exact hil
      rw [upd_ne (Nat.ne_of_lt hb')]
      exact (hf b hb).1
  done := by
    rintro X rfl rfl rfl hc i pins s σ H E I hf ⟨⟨old, he⟩, hit, hne, hai, hae⟩ ⟨xs, hq, hx⟩
    obtain ⟨its, rv, p, hz⟩ := I.tuple hq
    have pT : s.heap.IsTuple a its.toArray := p
    obtain ⟨f0, f1, f2, f3, f4, f5⟩ := hf it (List.mem_cons_of_mem _ List.mem_cons_self)
    have hl := rv.length
    have hn : its.toArray[i]? = none := by simp; omega
    have D : Draws X.prog X.w X.A.in1 it [it, a] i (fun _ _ => False) (fun k h => k = i ∧ h.IsTupleIter it a i ∧ h.IsTuple a its.toArray) :=
      ⟨fun _ _ st => let ⟨o, ho, _⟩ := st.2.1; ⟨o, ho⟩, fun _ _ _ st hk => ⟨st.1, st.2.1.at fun o e => hk it (by simp) o e, st.2.2.at fun o e => hk a (by simp) o e⟩,
        fun k s Q E hk st _ => absurd st.1 (Nat.ne_of_lt hk), fun s Q E st hE => wpAny_nextOf_tuple_end (I.ok.hd hc) st.2.1 st.2.2 hn hE⟩
    exact wpAny_pyNext_enum_endD D he ⟨rfl, hit, pT⟩ fun h' eb => ⟨rfl, I.turned (t' := s.toks) (fun b o hb q => eb b o hb q) f0 f1 f3 f4 f5⟩
  self := fun A i s Q E ⟨⟨_, he⟩, _⟩ h => wpAny_pyIter_enum he h
/-- enumerate(e), e a list or a tuple -/
def iEnumA (K : PySem.W.Frag) (ta : TA) : TI := fun σ H R => ta σ H fun vs H1 => (∃ a xs, vs = [.ref a] ∧ SqL K H1 a xs ∧ R (Ite K a) H1) ∨ ∃ a xs, vs = [.ref a] ∧ SqT K H1 a xs ∧ R (Iteq K a) H1
theorem pi_enumA {X : Cx} {e : Expr} {ta : TA} {p pos tpos : Pos} {elts : List Expr} {kk : Nat} (gl : Gl X "enumerate") (nm : X.mg "enumerate" = none) (ha : PA X [e] ta) (st : starEach [e] X.env = [(false, eval e X.env)] := by rfl) :
    PI X (.Tuple elts kk tpos) (.Call (.Name "enumerate" p) [e] [] pos) (iEnumA X.K ta) := by
  refine ⟨fun pins s σ H R I h => ?_⟩
  refine Call_ (ld_blt I gl nm boot_enumerate (PyProof.Rows.callWith_type1 (thn (ha.run pos pins s σ H _ I h) fun us s1 ⟨vs, H1, I1, r1, q1⟩ => ?_) st rfl))
  have low : ∀ b, b ∈ [s1.heap.objs.size + 1, s1.heap.objs.size] → s1.heap.objs.size ≤ b := fun b hb => by
    rcases List.mem_cons.mp hb with z | z
    · omega
    · rw [List.mem_singleton.mp z]; exact Nat.le_refl _
  rcases q1 with ⟨a, xs, rfl, hq, q⟩ | ⟨a, xs, rfl, hq, q⟩
  · obtain ⟨u, eu, ru⟩ := vals1 r1
    subst eu
    cases ru
    obtain ⟨its, rv, p', hz⟩ := I1.list hq
    refine call_enumerate_list p'.isList fun k he hit _ hk => wpAny_pyIter_enum he ⟨s1.heap.objs.size + 1, [s1.heap.objs.size + 1, s1.heap.objs.size], _, _, H1, rfl, I1.kept (t' := s1.toks) hk, turn_enum a _ _, ⟨⟨.none, he⟩, hit, Nat.succ_ne_self _⟩, fun b hb => ?_, q⟩
    exact I1.fpOk (low b hb) (I1.hok.fresh (low b hb))
  · obtain ⟨u, eu, ru⟩ := vals1 r1
    subst eu
    cases ru
    obtain ⟨its, rv, p', hz⟩ := I1.tuple hq
    have pT : s1.heap.IsTuple a its.toArray := p'
    have al : a < s1.heap.objs.size := let ⟨_, z, _⟩ := pT; Heap.lt_size z
    refine call_enumT pT fun k he hit hk => wpAny_pyIter_enum he ⟨s1.heap.objs.size + 1, [s1.heap.objs.size + 1, s1.heap.objs.size], _, _, H1, rfl, I1.kept (t' := s1.toks) hk, turn_enumT a _ _, ⟨⟨.none, he⟩, hit, Nat.succ_ne_self _, Nat.ne_of_lt al, Nat.ne_of_lt (Nat.lt_succ_of_lt al)⟩, fun b hb => ?_, q⟩
    exact I1.fpOk (low b hb) (I1.hok.fresh (low b hb))
section
variable {K : PySem.W.Frag} {a : Addr} {xs : List V}
theorem walk_enumT : Walk (Iteq K a) xs.length (fun H => SqT K H a xs) (YPair (fun i => some (.int (i : Nat))) (fun i => xs[i]?)) := by
  refine ⟨fun i _ hi q => ⟨xs, xs[i], q, by simp [hi]⟩, fun _ q => ⟨xs, q, Nat.le_refl _⟩, ?_⟩
  rintro i H v H' _ q ⟨T, x, h1, h2, h3, h4⟩
  exact ⟨T, .int (i : Nat), x, h1, h2, h3, rfl, h4 xs q⟩
end
end DLK
namespace DL
open PySem PySem.Spec L2 DLK
/-- the items of a list or a tuple -/
def diEnumA (da : DA) : DI := fun ρ S Q => da ρ S fun ds S1 => match ds with | [.lst xs] => Q (enumD xs) S1 | [.tup xs] => Q (enumD xs) S1 | _ => False
theorem i_enumA {X : Cx} {F0 : Bs} {tgs : List Expr} {k0 : Nat} {p0 : Pos} {a : Expr} {ta : TA} {da : DA} {p pos : Pos} (hm : X.mg "enumerate" = none) (ha : PDA X F0 [a] ta da) (hg : Gl X "enumerate" := by rfl) (hs : starEach [a] X.env = [(false, eval a X.env)] := by rfl) :
    PDI X F0 (.Tuple tgs k0 p0) (.Call (.Name "enumerate" p) [a] [] pos) (iEnumA X.K ta) (diEnumA da) := by
  refine ⟨pi_enumA hg hm ha.pa hs, ?_⟩
  intro σ ρ H F S R Qd e0 s en lk q
  refine ha.sim σ ρ H F S _ _ e0 s en ?_ q
  intro ds S1 vs F1 H1 q1 e1 s1 r1
  split at q1
  · rename_i xs
    obtain ⟨v, rfl, rv⟩ := rps_1 r1
    obtain ⟨b, us, rfl, h1, h2⟩ := rp_lst rv
    refine .inl ⟨b, us, rfl, .inl (.inl (s1.fz _ _ h1)), lk _ S1 _ F1 H1 q1 e1 s1 ?_⟩
    refine wk_pair (n := us.length) walk_enum (fun F' S' H' e s => (show SqL X.K H' b us from .inl (.inl (s.fz _ _ (e.lst h1))))) (by rw [List.length_map, List.length_range, h2.length]) h2.length.symm (fun i x h hi => ?_) (fun i x h hi => h2.got h)
    refine ⟨.int i, ?_, by cases h; exact rp_mk_int⟩
    rw [List.getElem?_map, List.getElem?_range (by rw [← h2.length]; exact hi)] <;> rfl
  · rename_i xs
    obtain ⟨v, rfl, rv⟩ := rps_1 r1
    obtain ⟨b, us, rfl, h1, h2⟩ := rp_tup rv
    refine .inr ⟨b, us, rfl, .inl (.inl (s1.fz _ _ h1)), lk _ S1 _ F1 H1 q1 e1 s1 ?_⟩
    refine wk_pair (n := us.length) walk_enumT (fun F' S' H' e s => (show SqT X.K H' b us from .inl (.inl (s.fz _ _ (e.tup h1))))) (by rw [List.length_map, List.length_range, h2.length]) h2.length.symm (fun i x h hi => ?_) (fun i x h hi => h2.got h)
    refine ⟨.int i, ?_, by cases h; exact rp_mk_int⟩
    rw [List.getElem?_map, List.getElem?_range (by rw [← h2.length]; exact hi)] <;> rfl
  · exact q1.elim
end DL
set_option Elab.async false
set_option linter.all false
set_option maxRecDepth 100000
set_option maxHeartbeats 2000000
namespace HX
open PySem PySem.Spec L2 DL
open He (ga ma ba eqO eqO_ok Dv)
theorem pickC_of {K : PySem.W.Frag} {C : Addr} {b : Bool} : ∀ {t : List (Str × Bool)}, pickC K C t = some b → ∃ x, (x, b) ∈ t ∧ C = ga K x
  | [], h => by cases h
  | (x, c) :: r, h => by
    unfold pickC at h
    by_cases e : C = ga K x
    · rw [if_pos e] at h
      cases h
      exact ⟨x, List.mem_cons_self, e⟩
    · rw [if_neg e] at h
      obtain ⟨y, h1, h2⟩ := pickC_of h
      exact ⟨y, List.mem_cons_of_mem _ h1, h2⟩
theorem iscB_ok {K : PySem.W.Frag} {C : Addr} (h : iscB K C = true) : IsC K C := by
  unfold iscB at h
  simp only [Bool.and_eq_true, decide_eq_true_eq] at h
  obtain ⟨⟨⟨⟨⟨⟨⟨a, b⟩, c⟩, d⟩, e⟩, f⟩, g⟩, i⟩ := h
  exact ⟨⟨a, b, c, eqO_ok d⟩, eqO_ok e, eqO_ok f, g, i⟩
theorem excB_ok {K : PySem.W.Frag} {C : Addr} (h : excB K C = true) : ExcC K C := by
  unfold excB at h
  simp only [Bool.and_eq_true, decide_eq_true_eq] at h
  obtain ⟨⟨⟨⟨⟨⟨⟨a, b⟩, c⟩, d⟩, e⟩, f⟩, g⟩, i⟩ := h
  exact ⟨eqO_ok a, eqO_ok b, c, d, eqO_ok e, eqO_ok f, g, i⟩
theorem oexB_ok {K : PySem.W.Frag} {C : Addr} (h : oexB K C = true) : OexC K C := by
  unfold oexB at h
  simp only [Bool.and_eq_true, decide_eq_true_eq] at h
  obtain ⟨⟨⟨⟨x, a⟩, b⟩, c⟩, d⟩ := h
  refine ⟨?_, eqO_ok a, b, c, d⟩
  split at x
  · rename_i dd cd sl lk
    simp only [Bool.and_eq_true] at x
    obtain ⟨x1, x2⟩ := x
    split at x1
    · rename_i D bm em
      split at x2
      · rename_i k0 k1 k2 k3 n k5 es
        simp only [Bool.and_eq_true, beq_iff_eq, Bool.not_eq_true'] at x1 x2
        obtain ⟨⟨⟨x3, x4⟩, x5⟩, x6⟩ := x1
        subst x2 x3
        have esl : sl = #[k0, k1, k2, k3, some (.builtin "ValueError.__new__"), k5] := by
          cases sl with
          | mk l => exact congrArg Array.mk es
        rw [esl] at lk
        cases cd
        dsimp only at em x5 x6
        subst em x5 x6
        exact ⟨_, _, _, _, bm, _, _, _, _, _, k0, k1, k2, k3, k5, lk, x4⟩
      · cases x2
    · cases x1
  · cases x
theorem foundB_ok {o : Option PySem.W.CFound} {id : String} {p C : Addr} (h : foundB o id p C = true) : o = some (.get (.builtin id) (.ref p) .none (.ref C)) := by
  unfold foundB at h
  split at h
  · simp only [Bool.and_eq_true, beq_iff_eq] at h
    obtain ⟨⟨rfl, rfl⟩, rfl⟩ := h
    rfl
  · cases h
section
variable {K : PySem.W.Frag}
theorem dun_ok {x m : Str} (h : (FaX.dun x m).ok K = true) : Dun K (ga K x) m (ma K (ga K x) m) := by
  simp only [FaX.ok, Bool.and_eq_true] at h
  exact ⟨eqO_ok h.1.1, h.1.2, h.2⟩
theorem head_rest {α : Type} {o : Option (List α)} {a : α} (h : o.bind List.head? = some a) : ∃ r, o = some (a :: r) := by
  cases o with
  | none => cases h
  | some l =>
    cases l with
    | nil => cases h
    | cons b r => cases h; exact ⟨r, rfl⟩
theorem prop_ok {x m : Str} (h : (FaX.prop x m).ok K = true) : ∃ pp, PropOf K (ga K x) m pp (pa K (ga K x) m) := by
  simp only [FaX.ok, Bool.and_eq_true, decide_eq_true_eq] at h
  obtain ⟨⟨⟨a, b⟩, c⟩, d⟩ := h
  exact ⟨_, eqO_ok a, eqO_ok b, c, head_rest d⟩
theorem cread_ok {x : Str} (h : (FaX.cread x).ok K = true) : ClX.CRead K (ga K x) (mcl K x) := by
  simp only [FaX.ok, Bool.and_eq_true] at h
  exact ⟨h.1, eqO_ok h.2⟩
theorem cmet_ok {x m : Str} (h : (FaX.cmet x m).ok K = true) : ∃ pp, ClX.CMet K (ga K x) (mcl K x) m pp (ca K (ga K x) m) := by
  simp only [FaX.ok, Bool.and_eq_true, decide_eq_true_eq] at h
  exact ⟨_, foundB_ok h.1.1, head_rest h.1.2, h.2⟩
theorem smet_ok {x m : Str} (h : (FaX.smet x m).ok K = true) : ∃ pp, SMet K (ga K x) (mcl K x) m pp (sa K (ga K x) m) := by
  simp only [FaX.ok, Bool.and_eq_true, decide_eq_true_eq] at h
  exact ⟨_, foundB_ok h.1.1, head_rest h.1.2, h.2⟩
theorem isaB_ok {u : Value} {g : Kd → Option Bool} {ti te : List (Str × Bool)} (h : isaB K u g ti te = true) (gi : ∀ C, g (.ins C) = pickC K C ti) (ge : ∀ C, g (.err C) = pickC K C te) : IsA K u g := by
  unfold isaB at h
  simp only [Bool.and_eq_true, List.all_eq_true, decide_eq_true_eq] at h
  obtain ⟨⟨hb, hi⟩, he⟩ := h
  intro k b e
  have base : k ∈ baseKds → (∀ C, k ≠ .ins C) → (∀ C, k ≠ .err C) → PySem.W.kitOne K k.v u = some b ∧ (∀ C, k = .ins C → IsC K C) ∧ ∀ C, k = .err C → ExcC K C := fun m n1 n2 =>
    ⟨(hb k m).trans e, fun C z => (n1 C z).elim, fun C z => (n2 C z).elim⟩
  cases k with
  | ins C =>
    rw [gi] at e
    obtain ⟨x, m, rfl⟩ := pickC_of e
    exact ⟨(hi _ m).1, (fun D z => by cases z; exact iscB_ok (hi _ m).2), (fun D z => by cases z)⟩
  | err C =>
    rw [ge] at e
    obtain ⟨x, m, rfl⟩ := pickC_of e
    exact ⟨(he _ m).1, (fun D z => by cases z), (fun D z => by cases z; exact excB_ok (he _ m).2)⟩
  | _ => exact base (by simp [baseKds]) (by intro C z; cases z) (by intro C z; cases z)
theorem isa_ok {x : Str} {ti te : List (Str × Bool)} (h : (FaX.isa x ti te).ok K = true) : IsA K (.ref (ga K x)) (gT K ti te) := isaB_ok h (fun _ => rfl) fun _ => rfl
theorem isb_ok {n : String} {ti te : List (Str × Bool)} (h : (FaX.isb n ti te).ok K = true) : IsA K (.type n) (gB K n ti te) := isaB_ok h (fun _ => rfl) fun _ => rfl
theorem oex_ok {x : Str} {fs : List Str} (h : (FaX.oex x fs).ok K = true) : OexC K (ga K x) ∧ PySem.W.findIn K (.ref (ga K x)) "__init__" = some (some (.ref (ma K (ga K x) "__init__"))) ∧ PySem.W.typeIn K (.ref (ma K (ga K x) "__init__")) = some (.type "function") ∧
    ∀ f ∈ fs, PySem.W.findIn K (.ref (ga K x)) f = some none := by
  simp only [FaX.ok, Bool.and_eq_true, decide_eq_true_eq, List.all_eq_true] at h
  obtain ⟨⟨⟨a, b⟩, c⟩, d⟩ := h
  exact ⟨oexB_ok a, eqO_ok b, c, fun f m => eqO_ok (d f m)⟩
theorem xf_ok {f : Str} {cs : List Str} (h : (FaX.xf f cs).ok K = true) : ∀ C ∈ cs.map (ga K), XfC K C ∧ PySem.W.findIn K (.ref C) f = some none := by
  simp only [FaX.ok, Bool.and_eq_true, List.all_eq_true] at h
  intro C m
  obtain ⟨c, mc, rfl⟩ := List.mem_map.mp m
  exact ⟨xfB_ok (h c mc).1, eqO_ok (h c mc).2⟩
theorem ans_ok {x : Str} {te : List (Str × Bool)} (h : (FaX.ans x te).ok K = true) : AnsX K (.ref (ga K x)) (aT K te) := by
  simp only [FaX.ok, List.all_eq_true, decide_eq_true_eq] at h
  intro C b e
  obtain ⟨y, m, rfl⟩ := pickC_of e
  exact h _ m
theorem cval_ok {x f : Str} {i : Int} (h : (FaX.cval x f i).ok K = true) : ∃ u, ClX.CVal K (ga K x) (mcl K x) f (.int i) u := by
  simp only [FaX.ok] at h
  split at h
  · rename_i j t e
    obtain rfl := of_decide_eq_true h
    exact ⟨_, e, t, rfl⟩
  · cases h
theorem gtup_ok {x : Str} {zs : List Str} (h : (FaX.gtup x zs).ok K = true) (H : Hp) : SqT K H (ga K x) (zs.map V.str) := by
  have := He.tupB_ok (show He.tupB K x (zs.map Dv.str) = true from h) H
  rwa [List.map_map, show (Dv.v K ∘ Dv.str) = V.str from rfl] at this
theorem bin_ok {x y : Str} {nm : String} (h : (FaX.bin x y nm).ok K = true) : PySem.W.selfFirst K (ga K x) = true ∧ (ga K y = ga K x ∨ rightNo K (ga K y) nm = true) := by
  simp only [FaX.ok, Bool.and_eq_true, Bool.or_eq_true, decide_eq_true_eq] at h
  exact h
theorem nf_ok {x y : Str} (h : (FaX.nf x y).ok K = true) : PySem.W.notFirst K (ga K x) (.ref (ga K y)) = true := h
theorem same_ok {x y m : Str} (h : (FaX.same x y m).ok K = true) : ma K (ga K x) m = ma K (ga K y) m := of_decide_eq_true h
theorem apart_ok {xs : List Str} (h : (FaX.apart xs).ok K = true) : (xs.map (ga K)).Nodup := of_decide_eq_true h
end
theorem DX.funD {K : PySem.W.Frag} {d : DX} (e : d.see K = d.want) (c : d.ok K = true) : ∃ fd, FunD K d.name d.qual d.params d.body d.scope (d.dvs K) [] (d.ad.at K) fd := by
  unfold DX.ok at c
  obtain ⟨c1, kp⟩ := ba c
  unfold DX.see at e
  split at e
  · rename_i oc od fd osl lk
    simp only [lk] at c1
    obtain ⟨cd, df⟩ := ba c1
    cases fd
    simp only [seeF, DX.want, Option.some.injEq, Prod.mk.injEq] at e
    obtain ⟨e1, e2, e3, e4, e5, ⟨e6, e7⟩, e8⟩ := e
    subst e1 e2 e3 e4 e5 e6 e7 e8
    exact ⟨_, ⟨oc, od, _, _, _, _, _, _, _, osl, rfl, lk, cd, He.dflB_ok df, He.kwdB_ok rfl⟩, kp⟩
  · cases e
section
variable {xs : List FaX} {ds : List DX} {K : PySem.W.Frag}
theorem SaysX.all (c : SaysX xs ds K) : ∀ f ∈ xs, f.ok K = true := List.all_eq_true.mp (ba (congrArg Prod.fst c : (xs.all (FaX.ok K) && ds.all (DX.ok K)) = true)).1
theorem SaysX.fact (c : SaysX xs ds K) (i : Nat) {f : FaX} (h : xs[i]? = some f := by rfl) : f.ok K = true := c.all f (List.mem_of_getElem? h)
theorem SaysX.def_ (c : SaysX xs ds K) (i : Nat) {d : DX} (h : ds[i]? = some d := by rfl) : ∃ fd, FunD K d.name d.qual d.params d.body d.scope (d.dvs K) [] (d.ad.at K) fd := by
  have c2 := List.all_eq_true.mp (ba (congrArg Prod.fst c : (xs.all (FaX.ok K) && ds.all (DX.ok K)) = true)).2 d (List.mem_of_getElem? h)
  have e : (ds.map (DX.see K))[i]? = (ds.map DX.want)[i]? := congrArg (fun z : AlX => z.2[i]?) c
  rw [List.getElem?_map, List.getElem?_map, h] at e
  exact DX.funD (Option.some.inj e) c2
end
end HX
set_option Elab.async false
set_option linter.all false
set_option maxRecDepth 100000
set_option maxHeartbeats 2000000
namespace DL
open PySem PySem.Spec L2
/-- a truth value's own -/
def bK (d : D) (f : Bool → Prop) : Prop := match d with | .bl b => f b | _ => False
@[simp] theorem bK_bl {b : Bool} {f : Bool → Prop} : bK (.bl b) f = f b := rfl
/-- no field of this name -/
def noKey (m : Str) (fs : List (Str × D)) : Prop := fs.lookup m = none
@[simp] theorem noKey_nil {m : Str} : noKey m [] = True := by simp [noKey]
@[simp] theorem noKey_cons {m k : Str} {v : D} {r : List (Str × D)} : noKey m ((k, v) :: r) = (m ≠ k ∧ noKey m r) := by
  unfold noKey
  by_cases h : m = k
  · subst h; simp [List.lookup]
  · have e : (m == k) = false := beq_eq_false_iff_ne.mpr h
    simp [List.lookup, e, h]
section
variable {ρ : Env} {S : Store} {Q : D → Store → Prop} {QT : Bool → Store → Prop} {QA : List D → Store → Prop} {Δ : DEnds} {i j l k : Nat} {d x y : D} {a b c : DE} {t u : DT} {da : DA} {o o' : DR2} {n : DN} {de : DE} {g : DG} {C f : Addr} {fl : Str} {δ : DSp} {ω : DW}
@[simp] theorem s_Var : dVar i ρ S Q = (match ρ[i]? with | some (some d) => Q d S | _ => False) := propext Iff.rfl
@[simp] theorem s_C : dC d ρ S Q = Q d S := propext Iff.rfl
@[simp] theorem s_Op : dOp o a b ρ S Q = a ρ S fun x S1 => b ρ S1 fun y S2 => o x y S2 Q := propext Iff.rfl
@[simp] theorem s_Test : dTest de ρ S QT = de ρ S fun d S1 => bK d fun b => QT b S1 := propext Iff.rfl
@[simp] theorem s_Chain : dChain o o' a b c ρ S Q = a ρ S fun x S1 => b ρ S1 fun y S2 => o x y S2 fun z S3 => bK z fun v => if v then (c ρ S3 fun w S4 => o' y w S4 Q) else Q (.bl false) S3 := by
  unfold dChain
  congr 1; funext x S1; congr 1; funext y S2; congr 1
  funext z S3
  cases z <;> first | rfl | (rename_i v; cases v <;> simp [bK])
@[simp] theorem s_And : dAnd t u ρ S QT = t ρ S fun c S1 => if c then u ρ S1 QT else QT false S1 := by
  unfold dAnd; congr 1 <;> (funext c S1; cases c <;> simp)
@[simp] theorem s_Or : dOr t u ρ S QT = t ρ S fun c S1 => if c then QT true S1 else u ρ S1 QT := by
  unfold dOr; congr 1 <;> (funext c S1; cases c <;> simp)
@[simp] theorem s_Not : dNot t ρ S QT = t ρ S fun c S1 => QT (!c) S1 := propext Iff.rfl
@[simp] theorem s_AndV : dAndV a b ρ S Q = a ρ S fun x S1 => bK x fun v => if v then b ρ S1 Q else Q (.bl false) S1 := by
  unfold dAndV; congr 1; funext x S1; cases x <;> first | rfl | (rename_i v; cases v <;> simp [bK])
@[simp] theorem s_OrV : dOrV a b ρ S Q = a ρ S fun x S1 => bK x fun v => if v then Q (.bl true) S1 else b ρ S1 Q := by
  unfold dOrV; congr 1; funext x S1; cases x <;> first | rfl | (rename_i v; cases v <;> simp [bK])
@[simp] theorem s_NotV : dNotV a ρ S Q = a ρ S fun x S1 => bK x fun v => Q (.bl (!v)) S1 := by
  unfold dNotV; congr 1 <;> (funext x S1; cases x <;> first | rfl | simp [bK])
@[simp] theorem s_If : dIf t a b ρ S Q = t ρ S fun c S1 => if c then a ρ S1 Q else b ρ S1 Q := by
  unfold dIf; congr 1 <;> (funext c S1; cases c <;> simp)
@[simp] theorem s_Nil : dNil ρ S QA = QA [] S := propext Iff.rfl
@[simp] theorem s_Cons : dCons a da ρ S QA = a ρ S fun x S1 => da ρ S1 fun xs S2 => QA (x :: xs) S2 := propext Iff.rfl
@[simp] theorem s_Tup : dTup da ρ S Q = da ρ S fun xs S1 => xs.length ≤ sizeLine ∧ Q (.tup xs) S1 := propext Iff.rfl
@[simp] theorem s_Fz : dFz n ρ S Q = n ρ S fun xs S1 => Q (.lst xs) S1 := propext Iff.rfl
@[simp] theorem s_Cell : dCell n ρ S Q = n ρ S fun xs S1 => ∀ p, S1 p = none → Q (.ref p) (sup S1 p (.lst xs)) := propext Iff.rfl
@[simp] theorem s_Lst : nLst da ρ S QA = da ρ S fun xs S1 => xs.length ≤ sizeLine ∧ QA xs S1 := propext Iff.rfl
@[simp] theorem s_Next : dNext Δ ρ S = Δ.nx ρ S := propext Iff.rfl
@[simp] theorem s_Seq {a b : DS} : dSeq a b Δ ρ S = a { Δ with nx := b Δ } ρ S := propext Iff.rfl
@[simp] theorem s_Break : dBreak Δ ρ S = Δ.bk ρ S := propext Iff.rfl
@[simp] theorem s_Cont : dCont Δ ρ S = Δ.ct ρ S := propext Iff.rfl
@[simp] theorem s_Drop : dDrop de Δ ρ S = de ρ S fun _ S1 => Δ.nx ρ S1 := propext Iff.rfl
@[simp] theorem s_Ret : dRet de Δ ρ S = de ρ S Δ.rt := propext Iff.rfl
@[simp] theorem s_RetN : dRetN Δ ρ S = Δ.rt .non S := propext Iff.rfl
@[simp] theorem s_IfS {a b : DS} : dIfS t a b Δ ρ S = t ρ S fun k S1 => if k then a Δ ρ S1 else b Δ ρ S1 := by
  unfold dIfS; congr 1 <;> (funext c S1; cases c <;> simp)
@[simp] theorem s_gName {QE : Env → Store → Prop} : dgName i d ρ S QE = QE (ρ.set i (some d)) S := propext Iff.rfl
@[simp] theorem s_gNil {QE : Env → Store → Prop} : dgNil [] ρ S QE = QE ρ S := propext Iff.rfl
@[simp] theorem s_gCons {QE : Env → Store → Prop} {r : DGs} {ds : List D} : dgCons g r (d :: ds) ρ S QE = g d ρ S fun ρ1 S1 => r ds ρ1 S1 QE := propext Iff.rfl
@[simp] theorem s_gTup {QE : Env → Store → Prop} {r : DGs} {ds : List D} : dgTup k r (.tup ds) ρ S QE = (ds.length = k ∧ r ds ρ S QE) := propext Iff.rfl
@[simp] theorem s_Asg : dAsg de g Δ ρ S = de ρ S fun x S1 => g x ρ S1 Δ.nx := propext Iff.rfl
@[simp] theorem s_iAny : diAny de ρ S QA = de ρ S fun d S1 => match itemsD d with | some xs => QA xs S1 | none => False := propext Iff.rfl
@[simp] theorem s_it_lst {xs : List D} : itemsD (.lst xs) = some xs := rfl
@[simp] theorem s_it_tup {xs : List D} : itemsD (.tup xs) = some xs := rfl
@[simp] theorem s_it_str {z : Str} : itemsD (.str z) = some ((signs z).map D.str) := rfl
@[simp] theorem s_it_scr {ns : List Int} : itemsD (.scr ns) = some (ns.map D.int) := rfl
@[simp] theorem s_iRng1 : diRng1 da ρ S QA = da ρ S fun ds S1 => match ds with | [.int j] => (-(2 ^ 62) ≤ j ∧ j < 2 ^ 62) ∧ QA (rangeD 0 j.toNat) S1 | _ => False := propext Iff.rfl
@[simp] theorem s_iRng2 : diRng2 da ρ S QA = da ρ S fun ds S1 => match ds with | [.int i, .int j] => (-(2 ^ 62) ≤ i ∧ i < 2 ^ 62 ∧ -(2 ^ 62) ≤ j ∧ j < 2 ^ 62) ∧ QA (rangeD i (j - i).toNat) S1 | _ => False := propext Iff.rfl
@[simp] theorem s_For {di : DI} {b : DS} : dFor di g b Δ ρ S = di ρ S fun ds S1 => dForL g b Δ ds ρ S1 := propext Iff.rfl
@[simp] theorem s_wipe0 : dwipe ρ [] = ρ := rfl
@[simp] theorem s_wipe1 {v : Nat} {vs : List Nat} : dwipe ρ (v :: vs) = (dwipe ρ vs).set v none := rfl
@[simp] theorem s_Yes : dYes ρ S QT = QT true S := propext Iff.rfl
@[simp] theorem s_LC {di : DI} {te : DE} {vs : List Nat} : nLc di g t te vs ρ S QA = di ρ S fun ds S1 => dLcL g t te (dwipe ρ vs) QA ds [] S1 := propext Iff.rfl
@[simp] theorem s_LC2 {di di1 : DI} {g1 : DG} {te : DE} {vs vs1 : List Nat} : nLc2 di g t di1 g1 u te vs vs1 ρ S QA = di ρ S fun ds S1 => dLcL2 g t di1 g1 u te vs1 (dwipe ρ vs) QA ds [] S1 := propext Iff.rfl
@[simp] theorem s_SlN {QO : Option Int → Store → Prop} : doN ρ S QO = QO none S := propext Iff.rfl
@[simp] theorem s_SlS {QO : Option Int → Store → Prop} : doS de ρ S QO = de ρ S fun d S1 => match d with | .int i => QO (some i) S1 | _ => False := propext Iff.rfl
@[simp] theorem s_Sl {dl dh : DO} : dSl de dl dh ρ S Q = de ρ S fun x S1 => dl ρ S1 fun l S2 => dh ρ S2 fun u S3 => opSl x l u S3 Q := propext Iff.rfl
@[simp] theorem s_CB {r : DRn} : dCB r da ρ S Q = da ρ S fun ds S1 => r ds S1 Q := propext Iff.rfl
@[simp] theorem s_nCB {r : List D → Store → (List D → Store → Prop) → Prop} : nCB r da ρ S QA = da ρ S fun ds S1 => r ds S1 QA := propext Iff.rfl
@[simp] theorem s_oFn {ds : List D} : oFn δ ω ρ ds S Q = δ ds S Q fun ex S2 => ω ex ρ S2 := propext Iff.rfl
@[simp] theorem s_Cal {r : Env → DRn} {df : DE} : dCal f r df da ρ S Q = df ρ S fun y S1 => y = .ref f ∧ da ρ S1 fun ds S2 => r ρ ds S2 Q := propext Iff.rfl
@[simp] theorem s_Cm : dCm C δ ω de da ρ S Q = de ρ S fun y S1 => y = .ref C ∧ da ρ S1 fun ds S2 => δ (.ref C :: ds) S2 Q fun ex S3 => ω ex ρ S3 := propext Iff.rfl
@[simp] theorem s_oMk {ds : List D} : oMk C δ ω ρ ds S Q = ∀ a dx, S a = none → δ (.ref a :: ds) (sup S a (.ins C dx [])) (fun d S' => d = .non ∧ Q (.ref a) S') fun ex S2 => ω ex ρ S2 := propext Iff.rfl
@[simp] theorem s_oMkF {ds : List D} : oMkF C δ ω ρ ds S Q = ∀ a dx, S a = none → δ (.ref a :: ds) (sup S a (.ins C dx [])) (fun d S' => d = .non ∧ ∃ dx' fs, S' a = some (.ins C dx' fs) ∧ Q (.ins C fs) (sdel S' a)) fun ex S2 => ω ex ρ S2 := propext Iff.rfl
@[simp] theorem s_Fld : dFld C fl de ρ S Q = de ρ S fun x S1 => ∃ fs d, insOf S1 x = some (C, fs) ∧ fs.lookup fl = some d ∧ Q d S1 := propext Iff.rfl
@[simp] theorem s_Met {m : Str} {q : Env → DRn} : dMet C m q de da ρ S Q = de ρ S fun x S1 => ∃ fs, insOf S1 x = some (C, fs) ∧ noKey m fs ∧ da ρ S1 fun ds S2 => q ρ (x :: ds) S2 Q := propext Iff.rfl
@[simp] theorem s_Prp : dPrp C δ de ρ S Q = de ρ S fun x S1 => ∃ fs, insOf S1 x = some (C, fs) ∧ δ [x] S1 Q fun _ _ => False := propext Iff.rfl
@[simp] theorem s_Raise {fs : List Str} : dRaise C fs ω da Δ ρ S = da ρ S fun ds S1 => ds.length = fs.length ∧ ω ⟨C, (fs.zip ds).reverse⟩ ρ S1 := propext Iff.rfl
@[simp] theorem s_oOf {ε : Exn → Store → Prop} {ex : Exn} : oOf ε ex ρ S = ε ex S := propext Iff.rfl
@[simp] theorem s_o0 {ex : Exn} : o0 ex ρ S = False := propext Iff.rfl
@[simp] theorem s_Par : dPar i j da Δ ρ S = da ρ S fun ds S1 => match ds with | [d1, d2] => Δ.nx ((ρ.set i (some d1)).set j (some d2)) S1 | _ => False := propext Iff.rfl
@[simp] theorem s_Par3 : dPar3 i j l da Δ ρ S = da ρ S fun ds S1 => match ds with | [d1, d2, d3] => Δ.nx (((ρ.set i (some d1)).set j (some d2)).set l (some d3)) S1 | _ => False := propext Iff.rfl
@[simp] theorem s_Split {a b : DE} : nSplit a b ρ S QA = a ρ S fun x S1 => match x with
    | .str z => b ρ S1 fun y S2 => (match y with | .str w => (w.length == 0) = false ∧ z.length + 2 ≤ sizeLine ∧ QA ((Txt.split z w).map D.str) S2 | _ => False)
    | _ => False := rfl
@[simp] theorem s_start0 : startD 0 [] = [] := rfl
@[simp] theorem s_startS {n : Nat} {d : D} {ds : List D} : startD (n + 1) (d :: ds) = some d :: startD n ds := by simp [startD]
@[simp] theorem s_startN {n : Nat} : startD (n + 1) [] = none :: startD n [] := by simp [startD, List.replicate_succ]
@[simp] theorem s_sup {S : Store} {a b : Addr} {m : MO} : sup S a m b = if b = a then some m else S b := rfl
@[simp] theorem s_sdel {S : Store} {a b : Addr} : sdel S a b = if b = a then none else S b := rfl
@[simp] theorem s_AugI {h : Int → Int → Int} : dAugI i h de Δ ρ S = ∃ m, ρ[i]? = some (some (.int m)) ∧ de ρ S fun y S1 => ∃ n, y = .int n ∧ Δ.nx (ρ.set i (some (.int (h m n)))) S1 := propext Iff.rfl
@[simp] theorem s_setFld {dv : DE} : sFldD C fl de dv Δ ρ S = dv ρ S fun y S1 => de ρ S1 fun x S2 => ∃ a dx fs, x = .ref a ∧ S2 a = some (.ins C dx fs) ∧ fs.length < 1000 ∧ Δ.nx ρ (sup S2 a (.ins C dx (putFD fl y fs))) := propext Iff.rfl
@[simp] theorem s_setAug {dv : DE} {sg : Int → Int → Int} : sFldAugD C fl sg de dv Δ ρ S = de ρ S fun x S1 => ∃ a dx fs i, x = .ref a ∧ S1 a = some (.ins C dx fs) ∧ fs.lookup fl = some (.int i) ∧ dv ρ S1 fun y S2 => ∃ j dx' fs', y = .int j ∧ S2 a = some (.ins C dx' fs') ∧ fs'.length < 1000 ∧ Δ.nx ρ (sup S2 a (.ins C dx' (putFD fl (.int (sg i j)) fs'))) := propext Iff.rfl
@[simp] theorem s_gSub {q : DSt} {di : DE} {QE : Env → Store → Prop} : dgSub q de di d ρ S QE = de ρ S fun x S1 => di ρ S1 fun y S2 => q x y d S2 fun S3 => QE ρ S3 := propext Iff.rfl
@[simp] theorem s_Star {dr : DA} : dStar de dr ρ S QA = de ρ S fun x S1 => ∃ xs, (lsOf S1 x = some xs ∨ tpOf x = some xs) ∧ dr ρ S1 fun ys S2 => QA (xs ++ ys) S2 := propext Iff.rfl
@[simp] theorem s_Star1 : dStar1 de ρ S QA = de ρ S fun x S1 => ∃ xs, (lsOf S1 x = some xs ∨ tpOf x = some xs) ∧ QA xs S1 := propext Iff.rfl
@[simp] theorem s_NewC {m : MO} : dNewC m ρ S Q = ∀ p, S p = none → Q (.ref p) (sup S p m) := propext Iff.rfl
@[simp] theorem s_BM {q : D → DRn} : dBM q de da ρ S Q = de ρ S fun x S1 => (∃ a xs, x = .ref a ∧ S1 a = some (.lst xs)) ∧ da ρ S1 fun ds S2 => q x ds S2 Q := propext Iff.rfl
@[simp] theorem s_Try {ans : Addr → Option Bool} {db : DW → DS} {ds : DS} : dTry ans db ds ω Δ ρ S = db (oTry ans ds ω Δ) Δ ρ S := propext Iff.rfl
@[simp] theorem s_oTry {ans : Addr → Option Bool} {ds : DS} {ex : Exn} : oTry ans ds ω Δ ex ρ S = ∃ b, ans ex.C = some b ∧ (b = true → ds Δ ρ S) ∧ (b = false → ω ex ρ S) := propext Iff.rfl
@[simp] theorem s_Hold {ans : Addr → Option Bool} {db : DW → DS} : dHold ans i j db Δ ρ S = db (oHold ans i j Δ) Δ ρ S := propext Iff.rfl
@[simp] theorem s_oHold {ans : Addr → Option Bool} {ex : Exn} : oHold ans i j Δ ex ρ S = (ans ex.C = some true ∧ ex.fs ≠ [] ∧ Δ.nx ((ρ.set j (some (.err ex.C ex.fs))).set i none) S) := propext Iff.rfl
end
end DL
set_option Elab.async false
set_option linter.all false
set_option maxRecDepth 100000
set_option maxHeartbeats 2000000
namespace DL
open PySem PySem.Spec L2
section
variable {α β : Type} {g g1 : DG} {tt tt1 : DT} {te : DE} {di1 : DI} {vs1 : List Nat} {ρ0 : Env} {S : Store} {Q : List D → Store → Prop}
theorem lc_cons {d : D} {ds acc : List D} : dLcL g tt te ρ0 Q (d :: ds) acc S = g d ρ0 S fun ρ1 S1 => tt ρ1 S1 fun b S2 => if b then (te ρ1 S2 fun y S3 => acc.length < sizeLine ∧ dLcL g tt te ρ0 Q ds (acc ++ [y]) S3) else dLcL g tt te ρ0 Q ds acc S2 := by
  show g d ρ0 S _ = _
  congr 1
  funext ρ1 S1
  congr 1
  funext b S2
  cases b <;> simp
/-- one loop, pure -/
theorem lc_emb (emb : α → D) (p : α → Bool) (f : α → D) : ∀ (xs : List α) (acc : List D),
    (∀ x ∈ xs, ∀ (Y : D → Store → Prop) (N : Store → Prop), (p x = true → Y (f x) S) → (p x = false → N S) → g (emb x) ρ0 S fun ρ1 S1 => tt ρ1 S1 fun b S2 => if b then te ρ1 S2 Y else N S2) →
    acc.length + xs.length ≤ sizeLine → Q (acc ++ (xs.filter p).map f) S → dLcL g tt te ρ0 Q (xs.map emb) acc S
  | [], acc, _, _, q => by simpa [dLcL] using q
  | x :: xs, acc, h, hl, q => by
    rw [List.map_cons, lc_cons]
    have hl1 : acc.length < sizeLine := by simp only [List.length_cons] at hl; omega
    refine h x List.mem_cons_self (fun y S3 => acc.length < sizeLine ∧ dLcL g tt te ρ0 Q (xs.map emb) (acc ++ [y]) S3) (fun S2 => dLcL g tt te ρ0 Q (xs.map emb) acc S2) (fun e => ⟨hl1, ?_⟩) (fun e => ?_)
    · refine lc_emb emb p f xs (acc ++ [f x]) (fun y hy => h y (List.mem_cons_of_mem _ hy)) (by simp only [List.length_append, List.length_cons, List.length_nil] at hl ⊢; omega) ?_
      rw [List.filter_cons_of_pos e] at q
      simpa using q
    · refine lc_emb emb p f xs acc (fun y hy => h y (List.mem_cons_of_mem _ hy)) (by simp only [List.length_cons] at hl; omega) ?_
      rwa [List.filter_cons_of_neg (by rw [e]; simp)] at q
/-- .. without a test -/
theorem lc_map (emb : α → D) (f : α → D) (xs : List α) (acc : List D)
    (h : ∀ x ∈ xs, ∀ (Y : D → Store → Prop), Y (f x) S → g (emb x) ρ0 S fun ρ1 S1 => te ρ1 S1 Y)
    (hl : acc.length + xs.length ≤ sizeLine) (q : Q (acc ++ xs.map f) S) : dLcL g dYes te ρ0 Q (xs.map emb) acc S :=
  lc_emb emb (fun _ => true) f xs acc (fun x hx Y N h1 h2 => by simpa using h x hx Y (h1 rfl)) hl (by rw [List.filter_eq_self.mpr (fun _ _ => rfl)]; exact q)
/-- one loop, by an invariant over what is left -/
theorem lc_inv (emb : α → D) (I : List α → List D → Store → Prop)
    (step : ∀ x xs acc S (Y : D → Store → Prop) (N : Store → Prop), I (x :: xs) acc S → (∀ y S', I xs (acc ++ [y]) S' → Y y S') → (∀ S', I xs acc S' → N S') → g (emb x) ρ0 S fun ρ1 S1 => tt ρ1 S1 fun b S2 => if b then te ρ1 S2 Y else N S2)
    (fin : ∀ acc S, I [] acc S → Q acc S) : ∀ (xs : List α) (acc : List D) (S : Store), acc.length + xs.length ≤ sizeLine → I xs acc S → dLcL g tt te ρ0 Q (xs.map emb) acc S
  | [], acc, S, _, h => fin acc S h
  | x :: xs, acc, S, hl, h => by
    rw [List.map_cons, lc_cons]
    have hl1 : acc.length < sizeLine := by simp only [List.length_cons] at hl; omega
    refine step x xs acc S (fun y S3 => acc.length < sizeLine ∧ dLcL g tt te ρ0 Q (xs.map emb) (acc ++ [y]) S3) (fun S2 => dLcL g tt te ρ0 Q (xs.map emb) acc S2) h (fun y S' h' => ⟨hl1, ?_⟩) (fun S' h' => ?_)
    · exact lc_inv emb I step fin xs (acc ++ [y]) S' (by simp only [List.length_append, List.length_cons, List.length_nil] at hl ⊢; omega) h'
    · exact lc_inv emb I step fin xs acc S' (by simp only [List.length_cons] at hl; omega) h'
/-- two loops, the outer one without a test, pure -/
theorem lc2_flat (emb : α → D) (f : α → List D) : ∀ (xs : List α) (acc : List D),
    (∀ x ∈ xs, ∀ (acc : List D) (Y : List D → Store → Prop), acc.length + (f x).length ≤ sizeLine → Y (acc ++ f x) S →
      g (emb x) ρ0 S fun ρ1 S1 => di1 ρ1 S1 fun ds1 S3 => dLcL g1 tt1 te (dwipe ρ1 vs1) Y ds1 acc S3) →
    acc.length + (xs.flatMap f).length ≤ sizeLine → Q (acc ++ xs.flatMap f) S → dLcL2 g dYes di1 g1 tt1 te vs1 ρ0 Q (xs.map emb) acc S
  | [], acc, _, _, q => by simpa [dLcL2] using q
  | x :: xs, acc, h1, hl, q => by
    rw [List.map_cons]
    unfold dLcL2
    simp only [List.flatMap_cons, List.length_append] at hl
    refine h1 x List.mem_cons_self acc (fun acc' S' => dLcL2 g dYes di1 g1 tt1 te vs1 ρ0 Q (xs.map emb) acc' S') (by omega) ?_
    refine lc2_flat emb f xs _ (fun y hy => h1 y (List.mem_cons_of_mem _ hy)) (by simp only [List.length_append]; omega) ?_
    simpa [List.append_assoc] using q
end
section
variable {α : Type} {g : DG} {b : DS} {Δ : DEnds}
theorem for_emb (emb : α → D) (I : List α → Env → Store → Prop) (step : ∀ x xs ρ S (N : Env → Store → Prop), I (x :: xs) ρ S → (∀ ρ' S', I xs ρ' S' → N ρ' S') → g (emb x) ρ S fun ρ1 S1 => b { Δ with nx := N, ct := N, bk := Δ.nx } ρ1 S1)
    (fin : ∀ ρ S, I [] ρ S → Δ.nx ρ S) : ∀ (xs : List α) (ρ : Env) (S : Store), I xs ρ S → dForL g b Δ (xs.map emb) ρ S
  | [], ρ, S, h => fin ρ S h
  | x :: xs, ρ, S, h => step x xs ρ S (dForL g b Δ (xs.map emb)) h (fun ρ' S' h' => for_emb emb I step fin xs ρ' S' h')
end
section
variable {S : Store} {Q : D → Store → Prop} {zs ws : List Str} {ns : List Int} {bs : List Bool}
@[simp] theorem strs_map : strsOf (zs.map D.str) = some zs := by
  induction zs with
  | nil => rfl
  | cons z zs ih => simp [strsOf, ih]
@[simp] theorem ints_map : intsOf (ns.map D.int) = some ns := by
  induction ns with
  | nil => rfl
  | cons z zs ih => simp [intsOf, ih]
@[simp] theorem bls_map : blsOf (bs.map D.bl) = some bs := by
  induction bs with
  | nil => rfl
  | cons z zs ih => simp [blsOf, ih]
@[simp] theorem strs_nil : strsOf [] = some [] := rfl
@[simp] theorem ints_nil : intsOf [] = some [] := rfl
@[simp] theorem bls_nil : blsOf [] = some [] := rfl
@[simp] theorem strs_cons {z : Str} {r : List D} : strsOf (.str z :: r) = (strsOf r).map (z :: ·) := rfl
@[simp] theorem bls_cons {b : Bool} {r : List D} : blsOf (.bl b :: r) = (blsOf r).map (b :: ·) := rfl
@[simp] theorem ints_cons {i : Int} {r : List D} : intsOf (.int i :: r) = (intsOf r).map (i :: ·) := rfl
@[simp] theorem bls_fun {α : Type} {xs : List α} {f : α → Bool} : blsOf (xs.map fun x => D.bl (f x)) = some (xs.map f) := by
  induction xs with
  | nil => rfl
  | cons z zs ih => simp [blsOf, ih]
@[simp] theorem strs_fun {α : Type} {xs : List α} {f : α → Str} : strsOf (xs.map fun x => D.str (f x)) = some (xs.map f) := by
  induction xs with
  | nil => rfl
  | cons z zs ih => simp [strsOf, ih]
@[simp] theorem ints_fun {α : Type} {xs : List α} {f : α → Int} : intsOf (xs.map fun x => D.int (f x)) = some (xs.map f) := by
  induction xs with
  | nil => rfl
  | cons z zs ih => simp [intsOf, ih]
@[simp] theorem r_non : res S .non = .non := rfl
@[simp] theorem r_bl {b : Bool} : res S (.bl b) = .bl b := rfl
@[simp] theorem res_i {i : Int} : res S (.int i) = .int i := rfl
@[simp] theorem res_s {z : Str} : res S (.str z) = .str z := rfl
@[simp] theorem r_tup {xs : List D} : res S (.tup xs) = .tup xs := rfl
@[simp] theorem r_lst {xs : List D} : res S (.lst xs) = .lst xs := rfl
@[simp] theorem res_dKd {kvs : List (Key × D)} : res S (.dK kvs) = .dK kvs := rfl
@[simp] theorem res_dTd {kvs : List (List Key × D)} : res S (.dT kvs) = .dT kvs := rfl
@[simp] theorem r_ins {C : Addr} {fs : List (Str × D)} : res S (.ins C fs) = .ins C fs := rfl
@[simp] theorem r_scr {ns : List Int} : res S (.scr ns) = .scr ns := rfl
theorem res_at {a : Addr} {xs : List D} (h : S a = some (.lst xs)) : res S (.ref a) = .lst xs := by simp [res, h]
@[simp] theorem ls_lst {xs : List D} : lsOf S (.lst xs) = some xs := rfl
@[simp] theorem ls_scr {ns : List Int} : lsOf S (.scr ns) = some (ns.map D.int) := rfl
@[simp] theorem ls_tup {xs : List D} : lsOf S (.tup xs) = none := rfl
theorem ls_at {a : Addr} {xs : List D} (h : S a = some (.lst xs)) : lsOf S (.ref a) = some xs := by simp [lsOf, res_at h]
@[simp] theorem tp_tup {xs : List D} : tpOf (.tup xs) = some xs := rfl
@[simp] theorem tp_lst {xs : List D} : tpOf (.lst xs) = none := rfl
@[simp] theorem tp_scr {ns : List Int} : tpOf (.scr ns) = none := rfl
@[simp] theorem tp_ref {a : Addr} : tpOf (.ref a) = none := rfl
@[simp] theorem ins_ins {C : Addr} {fs : List (Str × D)} : insOf S (.ins C fs) = some (C, fs) := rfl
theorem ins_at {a C dx : Addr} {fs : List (Str × D)} (h : S a = some (.ins C dx fs)) : insOf S (.ref a) = some (C, fs) := by simp [insOf, h]
@[simp] theorem py_non : pyOf .non = some .none := rfl
@[simp] theorem py_bl {b : Bool} : pyOf (.bl b) = some (.bool b) := by simp [pyOf]
@[simp] theorem py_int {i : Int} : pyOf (.int i) = some (.int i) := by simp [pyOf]
@[simp] theorem py_str {z : Str} : pyOf (.str z) = some (.str z) := by simp [pyOf]
@[simp] theorem py_lst {xs : List D} : pyOf (.lst xs) = (pyAll xs).map .list := by simp [pyOf]
@[simp] theorem py_tup {xs : List D} : pyOf (.tup xs) = (pyAll xs).map .tuple := by simp [pyOf]
@[simp] theorem pyA_nil : pyAll [] = some [] := by simp [pyAll]
@[simp] theorem pyA_cons {d : D} {ds : List D} : pyAll (d :: ds) = (match pyOf d, pyAll ds with | some p, some ps => some (p :: ps) | _, _ => none) := by cases h1 : pyOf d <;> cases h2 : pyAll ds <;> simp [pyAll, h1, h2]
@[simp] theorem pyA_strs : pyAll (zs.map D.str) = some (zs.map PyData.str) := by
  induction zs with
  | nil => simp
  | cons z zs ih => simp [ih]
@[simp] theorem dep_strs : PyData.depthAll (zs.map PyData.str) = 0 := by
  induction zs with
  | nil => rfl
  | cons z zs ih => simp [PyData.depthAll, PyData.depth, ih]
@[simp] theorem eqvAll_strs : PyData.eqvAll (zs.map PyData.str) (ws.map PyData.str) = decide (zs = ws) := by
  induction zs generalizing ws with
  | nil => cases ws <;> simp [PyData.eqvAll]
  | cons z zs ih =>
    cases ws with
    | nil => simp [PyData.eqvAll]
    | cons w ws =>
      simp only [List.map_cons, PyData.eqvAll, PyData.eqv, ih, List.cons.injEq, Bool.decide_and]
      congr 1
@[simp] theorem eq_ss {neg : Bool} {a b : Str} : opEqP neg (.str a) (.str b) S Q = Q (.bl (if neg then !decide (a = b) else decide (a = b))) S := by
  have : (a == b) = decide (a = b) := by cases h : decide (a = b) <;> simp_all
  simp [opEqP, PyData.eqv, PyData.depth, this]
@[simp] theorem eq_ii {neg : Bool} {a b : Int} : opEqP neg (.int a) (.int b) S Q = Q (.bl (if neg then !decide (a = b) else decide (a = b))) S := by
  have : (a == b) = decide (a = b) := by cases h : decide (a = b) <;> simp_all
  simp [opEqP, PyData.eqv, PyData.depth, this]
@[simp] theorem eq_ll {neg : Bool} : opEqP neg (.lst (zs.map D.str)) (.lst (ws.map D.str)) S Q = Q (.bl (if neg then !decide (zs = ws) else decide (zs = ws))) S := by
  simp [opEqP, PyData.eqv, PyData.depth]
@[simp] theorem eq_l0 {neg : Bool} : opEqP neg (.lst (zs.map D.str)) (.lst []) S Q = Q (.bl (if neg then !decide (zs = []) else decide (zs = []))) S := by
  have := eq_ll (S := S) (Q := Q) (neg := neg) (zs := zs) (ws := [])
  simpa using this
@[simp] theorem eq_l1 {neg : Bool} {w : Str} : opEqP neg (.lst (zs.map D.str)) (.lst [.str w]) S Q = Q (.bl (if neg then !decide (zs = [w]) else decide (zs = [w]))) S := by
  have := eq_ll (S := S) (Q := Q) (neg := neg) (zs := zs) (ws := [w])
  simpa using this
@[simp] theorem eq_tt {neg : Bool} : opEqP neg (.tup (zs.map D.str)) (.tup (ws.map D.str)) S Q = Q (.bl (if neg then !decide (zs = ws) else decide (zs = ws))) S := by
  simp [opEqP, PyData.eqv, PyData.depth]
@[simp] theorem eq_t0 {neg : Bool} : opEqP neg (.tup (zs.map D.str)) (.tup []) S Q = Q (.bl (if neg then !decide (zs = []) else decide (zs = []))) S := by
  have := eq_tt (S := S) (Q := Q) (neg := neg) (zs := zs) (ws := [])
  simpa using this
theorem any_strs {x : Str} : ((zs.map PyData.str).any fun q => PyData.eqv q (.str x)) = decide (x ∈ zs) := by
  induction zs with
  | nil => simp
  | cons z zs ih =>
    simp only [List.map_cons, List.any_cons, ih, PyData.eqv, List.mem_cons, Bool.decide_or]
    congr 1
    by_cases h : z = x
    · subst h; simp
    · have h' : ¬ x = z := fun e => h e.symm
      simp [h, h']
@[simp] theorem in_l {neg : Bool} {x : Str} : opIn neg (.str x) (.lst (zs.map D.str)) S Q = Q (.bl (if neg then !decide (x ∈ zs) else decide (x ∈ zs))) S := by
  simp [opIn, inD, any_strs, PyData.depth, -List.any_map]
@[simp] theorem in_t {neg : Bool} {x : Str} : opIn neg (.str x) (.tup (zs.map D.str)) S Q = Q (.bl (if neg then !decide (x ∈ zs) else decide (x ∈ zs))) S := by
  simp [opIn, inD, any_strs, PyData.depth, -List.any_map]
theorem any_non : ((zs.map PyData.str).any fun q => PyData.eqv q .none) = false := by
  induction zs with
  | nil => rfl
  | cons z zs ih => simp only [List.map_cons, List.any_cons, ih, PyData.eqv, Bool.or_false]
@[simp] theorem in_nt {neg : Bool} : opIn neg .non (.tup (zs.map D.str)) S Q = Q (.bl (if neg then true else false)) S := by
  simp [opIn, inD, any_non, PyData.depth, -List.any_map]
@[simp] theorem in_s {neg : Bool} {c : Nat} {z : Str} : opIn neg (.str ⟨#[c]⟩) (.str z) S Q = Q (.bl (if neg then !decide (c ∈ z.cps.toList) else decide (c ∈ z.cps.toList))) S := by
  simp [opIn, inD]
@[simp] theorem add_ii {a b : Int} : opAdd (.int a) (.int b) S Q = Q (.int (a + b)) S := rfl
@[simp] theorem add_ss {a b : Str} : opAdd (.str a) (.str b) S Q = (a.length + b.length ≤ sizeLine ∧ Q (.str (a ++ b)) S) := rfl
@[simp] theorem add_ll {a b : List D} : opAdd (.lst a) (.lst b) S Q = (a.length + b.length ≤ sizeLine ∧ Q (.lst (a ++ b)) S) := rfl
@[simp] theorem sub_ii {f : Int → Int → D} {a b : Int} : opI0 f (.int a) (.int b) S Q = Q (f a b) S := rfl
@[simp] theorem opI_ii {C : Int → Int → Prop} {f : Int → Int → D} {a b : Int} : opI C f (.int a) (.int b) S Q = (C a b ∧ Q (f a b) S) := rfl
@[simp] theorem lt_ii {a b : Int} : opLtI (.int a) (.int b) S Q = Q (.bl (decide (a < b))) S := rfl
@[simp] theorem le_ii {a b : Int} : opLeI (.int a) (.int b) S Q = Q (.bl (decide (a ≤ b))) S := rfl
@[simp] theorem gt_ii {a b : Int} : opGtI (.int a) (.int b) S Q = Q (.bl (decide (b < a))) S := rfl
@[simp] theorem ge_ii {a b : Int} : opGeI (.int a) (.int b) S Q = Q (.bl (decide (b ≤ a))) S := rfl
@[simp] theorem lt_ss {a b : Str} : opLtI (.str a) (.str b) S Q = Q (.bl (decide (a.cps.toList < b.cps.toList))) S := rfl
@[simp] theorem le_ss {a b : Str} : opLeI (.str a) (.str b) S Q = Q (.bl (!decide (b.cps.toList < a.cps.toList))) S := rfl
@[simp] theorem is_n {neg : Bool} {x : D} : opIs neg x .non S Q = Q (.bl (if neg then !isNon x else isNon x)) S := rfl
@[simp] theorem non_s {z : Str} : isNon (.str z) = false := rfl
@[simp] theorem non_n : isNon .non = true := rfl
@[simp] theorem non_i {i : Int} : isNon (.int i) = false := rfl
@[simp] theorem non_t {xs : List D} : isNon (.tup xs) = false := rfl
@[simp] theorem non_l {xs : List D} : isNon (.lst xs) = false := rfl
@[simp] theorem len_s {z : Str} : oLen [.str z] S Q = (z.length ≤ sizeLine ∧ Q (.int z.length) S) := by
  by_cases h : z.length ≤ sizeLine <;> simp [oLen, lenD, h]
@[simp] theorem len_l {xs : List D} : oLen [.lst xs] S Q = Q (.int xs.length) S := by simp [oLen, lenD]
@[simp] theorem len_t {xs : List D} : oLen [.tup xs] S Q = Q (.int xs.length) S := by simp [oLen, lenD]
theorem len_at {a : Addr} {xs : List D} (h : S a = some (.lst xs)) : oLen [.ref a] S Q = Q (.int xs.length) S := by simp [oLen, lenD, res_at h]
@[simp] theorem str_i {i : Int} : oStr [.int i] S Q = (i.natAbs.log2 < 1920 ∧ Q (.str (toString i)) S) := rfl
@[simp] theorem str_s {z : Str} : oStr [.str z] S Q = Q (.str z) S := rfl
@[simp] theorem int_s {z : Str} : oInt [.str z] S Q = (z.length ≤ 640 ∧ ∃ n, PySem.intText? z = some n ∧ Q (.int n) S) := rfl
@[simp] theorem int_i {i : Int} : oInt [.int i] S Q = Q (.int i) S := rfl
@[simp] theorem int_b {b : Bool} : oInt [.bl b] S Q = Q (.int (if b then 1 else 0)) S := rfl
@[simp] theorem abs_i {i : Int} : oAbs [.int i] S Q = Q (.int (if i < 0 then -i else i)) S := rfl
@[simp] theorem tup_t {xs : List D} : oTup [.tup xs] S Q = Q (.tup xs) S := rfl
@[simp] theorem tup_l {xs : List D} : oTup [.lst xs] S Q = Q (.tup xs) S := by simp [oTup]
@[simp] theorem all_l {xs : List D} : oAll [.lst xs] S Q = ∃ bs, blsOf xs = some bs ∧ Q (.bl (bs.all id)) S := by simp [oAll]
@[simp] theorem any_l {xs : List D} : oAny [.lst xs] S Q = ∃ bs, blsOf xs = some bs ∧ Q (.bl (bs.any id)) S := by simp [oAny]
@[simp] theorem sum_l {xs : List D} : oSum [.lst xs] S Q = ∃ ns, intsOf xs = some ns ∧ Q (.int ns.sum) S := by simp [oSum]
end
def kJoin (x y : D) (S : Store) (Q : D → Store → Prop) : Prop := match x with
  | .str a => ∃ xs ys, (lsOf S y = some xs ∨ tpOf y = some xs) ∧ strsOf xs = some ys ∧ (ys.map (·.length)).sum + ys.length * a.length ≤ 16777216 ∧ Q (.str (Txt.join a ys)) S
  | _ => False
def kSet (ds : List D) (S : Store) (Q : List D → Store → Prop) : Prop := match ds with
  | [x] => ∃ xs ss, lsOf S x = some xs ∧ strsOf xs = some ss ∧ ss.length + 1 < scanBound ∧ Q ((sortU ss).map D.str) S
  | _ => False
def kLenSet (ds : List D) (S : Store) (Q : D → Store → Prop) : Prop := match ds with
  | [x] => ∃ xs ss, lsOf S x = some xs ∧ strsOf xs = some ss ∧ ss.length + 1 < scanBound ∧ Q (.int (plusAll ss).length) S
  | _ => False
def kFmt (x : D) (S : Store) (Q : D → Store → Prop) : Prop := match x with
  | .str y => y.length ≤ sizeLine ∧ Q (.str y) S
  | .int i => i.natAbs.log2 < 1920 ∧ Q (.str (toString i)) S
  | _ => False
def kFmt2 (x : D) (S : Store) (Q : D → Store → Prop) : Prop := match x with
  | .int i => 0 ≤ i ∧ i < 100 ∧ Q (.str (pad2 i)) S
  | _ => False
def kEnum (ds : List D) (S : Store) (Q : List D → Store → Prop) : Prop := match ds with
  | [.lst xs] => Q (enumD xs) S
  | [.tup xs] => Q (enumD xs) S
  | _ => False
def kJs (x : D) (S : Store) (f : Str → Store → Prop) : Prop := match x with
  | .str y => f y S
  | _ => False
def kXf (cs : List Addr) (fl : Str) (x : D) (S : Store) (Q : D → Store → Prop) : Prop := match x with
  | .err C fs => C ∈ cs ∧ ∃ d, fs.lookup fl = some d ∧ Q d S
  | _ => False
section
variable {ρ : Env} {S : Store} {Q : D → Store → Prop} {QA : List D → Store → Prop} {a b c de : DE} {da : DA} {zs : List Str} {Δ : DEnds} {i : Nat}
@[simp] theorem s_Join : dJoin a b ρ S Q = a ρ S fun x S1 => match x with | .str _ => b ρ S1 fun y S2 => kJoin x y S2 Q | _ => False := by
  unfold dJoin; congr 1 <;> (funext x S1; cases x <;> rfl)
@[simp] theorem join_l {z : Str} {xs : List D} : kJoin (.str z) (.lst xs) S Q = ∃ ys, strsOf xs = some ys ∧ (ys.map (·.length)).sum + ys.length * z.length ≤ 16777216 ∧ Q (.str (Txt.join z ys)) S := by simp [kJoin]
@[simp] theorem join_t {z : Str} {xs : List D} : kJoin (.str z) (.tup xs) S Q = ∃ ys, strsOf xs = some ys ∧ (ys.map (·.length)).sum + ys.length * z.length ≤ 16777216 ∧ Q (.str (Txt.join z ys)) S := by simp [kJoin]
@[simp] theorem s_SortSet : nSortSet da ρ S QA = da ρ S fun ds S1 => kSet ds S1 QA := propext Iff.rfl
@[simp] theorem set_l {xs : List D} : kSet [.lst xs] S QA = ∃ ss, strsOf xs = some ss ∧ ss.length + 1 < scanBound ∧ QA ((sortU ss).map D.str) S := by simp [kSet]
@[simp] theorem s_LenSet : dLenSet da ρ S Q = da ρ S fun ds S1 => kLenSet ds S1 Q := propext Iff.rfl
@[simp] theorem lenset_l {xs : List D} : kLenSet [.lst xs] S Q = ∃ ss, strsOf xs = some ss ∧ ss.length + 1 < scanBound ∧ Q (.int (plusAll ss).length) S := by simp [kLenSet]
@[simp] theorem s_Fmt : dFmt de ρ S Q = de ρ S fun x S1 => kFmt x S1 Q := propext Iff.rfl
@[simp] theorem fmt_s {y : Str} : kFmt (.str y) S Q = (y.length ≤ sizeLine ∧ Q (.str y) S) := rfl
@[simp] theorem fmt_i {j : Int} : kFmt (.int j) S Q = (j.natAbs.log2 < 1920 ∧ Q (.str (toString j)) S) := rfl
@[simp] theorem s_Fmt2 : dFmt02 de ρ S Q = de ρ S fun x S1 => kFmt2 x S1 Q := propext Iff.rfl
@[simp] theorem fmt2_i {j : Int} : kFmt2 (.int j) S Q = (0 ≤ j ∧ j < 100 ∧ Q (.str (pad2 j)) S) := rfl
@[simp] theorem s_Jnd {ds : List DE} : dJnd ds ρ S Q = dJs ds Str.empty ρ S fun out S1 => Q (.str out) S1 := propext Iff.rfl
@[simp] theorem s_Js0 {acc : Str} {f : Str → Store → Prop} : dJs [] acc ρ S f = f acc S := propext Iff.rfl
@[simp] theorem s_Js1 {acc : Str} {f : Str → Store → Prop} {ds : List DE} : dJs (de :: ds) acc ρ S f = de ρ S fun x S1 => kJs x S1 fun y S2 => (acc ++ y).length ≤ sizeLine ∧ dJs ds (acc ++ y) ρ S2 f := by
  show de ρ S _ = _
  congr 1 <;> (funext x S1; cases x <;> rfl)
@[simp] theorem js_s {y : Str} {f : Str → Store → Prop} : kJs (.str y) S f = f y S := rfl
@[simp] theorem s_Xf {cs : List Addr} {fl : Str} : dXf cs fl de ρ S Q = de ρ S fun x S1 => kXf cs fl x S1 Q := propext Iff.rfl
@[simp] theorem xf_e {cs : List Addr} {fl : Str} {C : Addr} {fs : List (Str × D)} : kXf cs fl (.err C fs) S Q = (C ∈ cs ∧ ∃ d, fs.lookup fl = some d ∧ Q d S) := rfl
@[simp] theorem s_FreezeM {δ : DS} : dFreezeM i δ Δ ρ S = ∃ a m, ρ[i]? = some (some (.ref a)) ∧ S a = some m ∧ δ Δ (ρ.set i (some (moD m))) (sdel S a) := propext Iff.rfl
@[simp] theorem s_DGet2 : dDGet2 a b c ρ S Q = a ρ S fun x S1 => isDct (res S1 x) ∧ b ρ S1 fun y S2 => c ρ S2 fun z S3 => match dGet S3 x y with | some o => Q (o.getD z) S3 | none => False := propext Iff.rfl
@[simp] theorem isDct_K {kvs : List (Key × D)} : isDct (.dK kvs) = True := rfl
@[simp] theorem isDct_T {kvs : List (List Key × D)} : isDct (.dT kvs) = True := rfl
@[simp] theorem sort_l {xs : List D} : oSort [.lst xs] S QA = ((∃ ss, strsOf xs = some ss ∧ QA ((sortS ss).map D.str) S) ∨ ∃ ns, intsOf xs = some ns ∧ QA ((sortI ns).map D.int) S) := by simp [oSort]
@[simp] theorem list_t {xs : List D} : oLst [.tup xs] S QA = QA xs S := rfl
@[simp] theorem list_l {xs : List D} : oLst [.lst xs] S QA = QA xs S := by simp [oLst]
@[simp] theorem list_scr {ns : List Int} : oLst [.scr ns] S QA = QA (ns.map D.int) S := by simp [oLst]
@[simp] theorem sl_s {z : Str} {l h : Option Int} : opSl (.str z) l h S Q = (z.length ≤ sizeLine ∧ Q (.str (cutS z l h)) S) := rfl
@[simp] theorem sl_t {xs : List D} {l h : Option Int} : opSl (.tup xs) l h S Q = Q (.tup (cutL xs l h)) S := rfl
@[simp] theorem sl_l {xs : List D} {l h : Option Int} : opSl (.lst xs) l h S Q = Q (.lst (cutL xs l h)) S := rfl
@[simp] theorem sl_scr {ns : List Int} {l h : Option Int} : opSl (.scr ns) l h S Q = Q (.lst (cutL (ns.map D.int) l h)) S := rfl
@[simp] theorem enum_l {xs : List D} : kEnum [.lst xs] S QA = QA (enumD xs) S := rfl
@[simp] theorem enum_t {xs : List D} : kEnum [.tup xs] S QA = QA (enumD xs) S := rfl
@[simp] theorem s_Enum : diEnumA da ρ S QA = da ρ S fun ds S1 => kEnum ds S1 QA := propext Iff.rfl
end
@[simp] theorem atI_n {α : Type} {xs : List α} {k : Nat} : atI xs (k : Int) = xs[k]? := by
  unfold atI ixN
  rw [if_pos (by omega)]
  by_cases h : (k : Int) < xs.length
  · rw [if_pos h]; simp
  · rw [if_neg h, List.getElem?_eq_none (by omega)]; rfl
@[simp] theorem atI_0 {α : Type} {xs : List α} : atI xs 0 = xs[0]? := atI_n (k := 0)
@[simp] theorem atI_1 {α : Type} {xs : List α} : atI xs 1 = xs[1]? := atI_n (k := 1)
@[simp] theorem atI_2 {α : Type} {xs : List α} : atI xs 2 = xs[2]? := atI_n (k := 2)
@[simp] theorem cutL_to {α : Type} {xs : List α} {k : Nat} : cutL xs none (some (k : Int)) = xs.take k := by
  unfold cutL
  rw [HT.sIx_nat, HT.sIx_none, List.drop_zero, Nat.sub_zero]
  by_cases h : k ≤ xs.length
  · rw [Nat.min_eq_left h]
  · rw [Nat.min_eq_right (by omega), List.take_length, List.take_of_length_le (by omega)]
@[simp] theorem cutL_from {α : Type} {xs : List α} {k : Nat} : cutL xs (some (k : Int)) none = xs.drop k := by
  unfold cutL
  rw [HT.sIx_nat, HT.sIx_none]
  by_cases h : k ≤ xs.length
  · rw [Nat.min_eq_left h, List.take_of_length_le (by simp)]
  · rw [Nat.min_eq_right (by omega), List.drop_length, List.drop_of_length_le (by omega)]; simp
@[simp] theorem cutL_from1 {α : Type} {xs : List α} : cutL xs (some 1) none = xs.drop 1 := cutL_from (k := 1)
section
variable {S : Store} {Q : D → Store → Prop}
@[simp] theorem ix_t {xs : List D} {i : Int} : opIx (.tup xs) (.int i) S Q = ∃ d, atI xs i = some d ∧ Q d S := by simp [opIx]
@[simp] theorem ix_l {xs : List D} {i : Int} : opIx (.lst xs) (.int i) S Q = ∃ d, atI xs i = some d ∧ Q d S := by simp [opIx]
@[simp] theorem ix_scr {ns : List Int} {i : Int} : opIx (.scr ns) (.int i) S Q = ∃ d, atI (ns.map D.int) i = some d ∧ Q d S := by simp [opIx]
theorem ix_at {a : Addr} {xs : List D} {i : Int} (h : S a = some (.lst xs)) : opIx (.ref a) (.int i) S Q = ∃ d, atI xs i = some d ∧ Q d S := by simp [opIx, res_at h, ls_at h]
end
@[simp] theorem ofString_inj {a b : String} : Str.ofString a = Str.ofString b ↔ a = b := by
  refine ⟨fun h => ?_, fun h => by rw [h]⟩
  rw [Str.ofString_eq_toList, Str.ofString_eq_toList] at h
  have h2 : a.toList.map Char.toNat = b.toList.map Char.toNat := by simpa using h
  have h3 : a.toList = b.toList := by
    refine (List.map_inj_right (fun x y e => ?_)).mp h2
    exact Char.ext (UInt32.toNat_inj.mp e)
  exact String.toList_inj.mp h3
@[simp] theorem lk_cons {α : Type} {a k : Str} {v : α} {r : List (Str × α)} : List.lookup a ((k, v) :: r) = if a = k then some v else List.lookup a r := by
  by_cases h : a = k
  · subst h; simp [List.lookup]
  · rw [if_neg h]
    show (match a == k with | true => some v | false => List.lookup a r) = _
    rw [show (a == k) = false from beq_eq_false_iff_ne.mpr h]
@[simp] theorem put_nil {f : Str} {v : D} : putFD f v [] = [(f, v)] := rfl
@[simp] theorem put_cons {f g : Str} {v x : D} {r : List (Str × D)} : putFD f v ((g, x) :: r) = if g = f then (g, v) :: r else (g, x) :: putFD f v r := rfl
@[simp] theorem sup_sup {S : Store} {a : Addr} {m m' : MO} : sup (sup S a m) a m' = sup S a m' := by
  funext b
  unfold sup
  by_cases h : b = a <;> simp [h]
@[simp] theorem ins_sup {S : Store} {a C dx : Addr} {fs : List (Str × D)} : insOf (sup S a (.ins C dx fs)) (.ref a) = some (C, fs) := by simp [insOf, sup]
@[simp] theorem sup_at {S : Store} {a : Addr} {m : MO} : sup S a m a = some m := by simp [sup]
theorem sdel_sup {S : Store} {a : Addr} {m : MO} (h : S a = none) : sdel (sup S a m) a = S := by
  funext b
  unfold sdel sup
  by_cases e : b = a
  · subst e; simp [h]
  · simp [e]
theorem seq_step {a b : DS} {Δ : DEnds} {ρ : Env} {S : Store} (h : ∀ rest, rest = b → a { Δ with nx := rest Δ } ρ S) : dSeq a b Δ ρ S := h b rfl
def litsA : List Str → DA
  | [] => dNil
  | z :: zs => dCons (dC (.str z)) (litsA zs)
def nLits (zs : List Str) : DN := nLst (litsA zs)
theorem s_litsA : ∀ {zs : List Str} {ρ : Env} {S : Store} {QA : List D → Store → Prop}, litsA zs ρ S QA = QA (zs.map D.str) S
  | [], _, _, _ => rfl
  | z :: zs, ρ, S, QA => by
    show litsA zs ρ S (fun xs S2 => QA (D.str z :: xs) S2) = _
    rw [s_litsA]; rfl
@[simp] theorem s_nLits {zs : List Str} {ρ : Env} {S : Store} {QA : List D → Store → Prop} : nLits zs ρ S QA = (zs.length ≤ sizeLine ∧ QA (zs.map D.str) S) := by
  unfold nLits
  show litsA zs ρ S _ = _
  rw [s_litsA, List.length_map]
theorem n_asLits {X : Cx} {F0 : Bs} {e : Expr} {t : TE} {d : DN} (zs : List Str) (h : PN X F0 e t d) (q : d = nLits zs) : PN X F0 e t (nLits zs) := q ▸ h
section
variable {ρ : Env} {S : Store} {Q : D → Store → Prop} {QA : List D → Store → Prop} {de do_ di : DE} {C : Addr} {ω : DW}
@[simp] theorem s_iOwn {δ : DSi} : diOwn C δ de ρ S QA = de ρ S fun x S1 => (∃ fs, insOf S1 x = some (C, fs)) ∧ δ [x] S1 QA := propext Iff.rfl
@[simp] theorem s_iItems : diItems de ρ S QA = de ρ S (byD (fun kvs S1 => QA (kvs.map fun p => .tup [kD p.1, p.2]) S1) fun kvs S1 => QA (kvs.map fun p => .tup [.tup (p.1.map kD), p.2]) S1) := propext Iff.rfl
@[simp] theorem byD_K {qk : List (Key × D) → Store → Prop} {qt : List (List Key × D) → Store → Prop} {kvs : List (Key × D)} : byD qk qt (.dK kvs) S = qk kvs S := rfl
@[simp] theorem byD_T {qk : List (Key × D) → Store → Prop} {qt : List (List Key × D) → Store → Prop} {kvs : List (List Key × D)} : byD qk qt (.dT kvs) S = qt kvs S := rfl
@[simp] theorem lstT_T {kvs : List (List Key × D)} : oLstT [.dT kvs] S QA = QA (kvs.map fun p => .tup (p.1.map kD)) S := by simp [oLstT, res]
@[simp] theorem kD_s {z : Str} : kD (.inr z) = .str z := rfl
@[simp] theorem kD_i {i : Int} : kD (.inl i) = .int i := rfl
@[simp] theorem kD_map {zs : List Str} : (zs.map Sum.inr).map kD = zs.map D.str := by simp
@[simp] theorem dx_T {kvs : List (List Key × D)} {zs : List Str} : opDx (.dT kvs) (.tup (zs.map D.str)) S Q = match valD kvs (zs.map Sum.inr) with | some d => Q d S | none => False := by
  have hk : ∀ zs : List Str, keysOf (zs.map D.str) = some (zs.map Sum.inr) := fun zs => by
    induction zs with
    | nil => rfl
    | cons z zs ih => simp [keysOf, keyOf, ih]
  unfold opDx dGet
  simp only [res_dTd, hk, Option.map_some]
  cases valD kvs (zs.map Sum.inr) <;> rfl
@[simp] theorem assign_len2 {x y : Str} {p q : Pos} {r : PySem.Env} : (assignEach [Expr.Name x p, Expr.Name y q] r).length = 2 := rfl
@[simp] theorem assign_len2s {a b c d : Expr} {p q : Pos} {r : PySem.Env} : (assignEach [Expr.Subscript a b p, Expr.Subscript c d q] r).length = 2 := rfl
@[simp] theorem s_SubI {δ : DSp} : dSubI C δ ω do_ di ρ S Q = do_ ρ S fun x S1 => di ρ S1 fun y S2 => (∃ fs, insOf S2 x = some (C, fs)) ∧ δ [x, y] S2 Q fun ex S3 => ω ex ρ S3 := propext Iff.rfl
@[simp] theorem s_StrIns {δ : DSp} {x : D} : oStrIns C δ [x] S Q = ((∃ fs, insOf S x = some (C, fs)) ∧ δ [x] S (fun d S' => ∃ z, d = .str z ∧ Q (.str z) S') fun _ _ => False) := propext Iff.rfl
end
section
variable {α : Type} {g : DG} {tt : DT} {tk tv : DE} {di1 : DI} {g1 : DG} {tt1 : DT} {vs1 : List Nat} {ρ0 : Env} {S : Store} {Q : MO → Store → Prop}
@[simp] theorem s_dcM {n : DNd} {ρ : Env} {Q : D → Store → Prop} : dFzM n ρ S Q = n ρ S fun m S1 => Q (moD m) S1 := propext Iff.rfl
@[simp] theorem s_nDc {m0 : MO} {di : DI} {vs : List Nat} {ρ : Env} : nDc m0 di g tt tk tv vs ρ S Q = di ρ S fun ds S1 => dDcL g tt tk tv (dwipe ρ vs) Q ds m0 S1 := propext Iff.rfl
@[simp] theorem s_nDc2 {m0 : MO} {di : DI} {vs : List Nat} {ρ : Env} : nDc2 m0 di g tt di1 g1 tt1 tk tv vs vs1 ρ S Q = di ρ S fun ds S1 => dDcL2 g tt di1 g1 tt1 tk tv vs1 (dwipe ρ vs) Q ds m0 S1 := propext Iff.rfl
@[simp] theorem moD_dK {kvs : List (Key × D)} : moD (.dK kvs) = .dK kvs := rfl
@[simp] theorem moD_dT {kvs : List (List Key × D)} : moD (.dT kvs) = .dT kvs := rfl
@[simp] theorem moD_lst {xs : List D} : moD (.lst xs) = .lst xs := rfl
@[simp] theorem moD_ins {C dx : Addr} {fs : List (Str × D)} : moD (.ins C dx fs) = .ins C fs := rfl
theorem putD_len {κ : Type} [DecidableEq κ] {kvs : List (κ × D)} {k : κ} {v : D} : (putD kvs k v).length ≤ kvs.length + 1 := by
  unfold putD
  split <;> simp
theorem putD_new {κ : Type} [DecidableEq κ] {kvs : List (κ × D)} {k : κ} {v : D} (h : k ∉ kvs.map Prod.fst) : putD kvs k v = kvs ++ [(k, v)] := by
  unfold putD
  rw [if_neg]
  intro q
  obtain ⟨p, hp, e⟩ := List.any_eq_true.mp q
  exact h (List.mem_map.mpr ⟨p, hp, by simpa using e⟩)
/-- text keys: some dict -/
theorem dc_str (emb : α → D) (key : α → Str) (val : α → D) : ∀ (xs : List α) (kvs : List (Key × D)),
    (∀ x ∈ xs, ∀ (Y : D → D → Store → Prop), Y (.str (key x)) (val x) S → g (emb x) ρ0 S fun ρ1 S1 => tk ρ1 S1 fun k S3 => tv ρ1 S3 fun v S4 => Y k v S4) →
    kvs.length + xs.length ≤ sizeLine → (∀ kvs', kvs'.length ≤ kvs.length + xs.length → Q (.dK kvs') S) → dDcL g dYes tk tv ρ0 Q (xs.map emb) (.dK kvs) S
  | [], kvs, _, _, q => q kvs (by simp)
  | x :: xs, kvs, h, hl, q => by
    rw [List.map_cons]
    simp only [List.length_cons] at hl
    refine h x List.mem_cons_self (fun k v S4 => ∃ m', putM (.dK kvs) k v = some m' ∧ dDcL g dYes tk tv ρ0 Q (xs.map emb) m' S4) ⟨.dK (putD kvs (.inr (key x)) (val x)), ?_, ?_⟩
    · show ((some (Sum.inr (key x)) : Option Key).bind fun k' => if kvs.length < sizeLine then some (MO.dK (putD kvs k' (val x))) else none) = _
      rw [Option.bind_some, if_pos (by omega)]
    · have hp := putD_len (kvs := kvs) (k := (.inr (key x) : Key)) (v := val x)
      refine dc_str emb key val xs _ (fun y hy => h y (List.mem_cons_of_mem _ hy)) (by omega) (fun kvs' hk => q kvs' ?_)
      simp only [List.length_cons]
      omega
/-- two loops, text keys: some dict -/
theorem dc2_str {β : Type} (emb : α → D) (inner : α → List β) (n : α → Nat) : ∀ (xs : List α) (kvs : List (Key × D)),
    (∀ x ∈ xs, ∀ (kvs : List (Key × D)) (Y : MO → Store → Prop), kvs.length + n x ≤ sizeLine → (∀ kvs', kvs'.length ≤ kvs.length + n x → Y (.dK kvs') S) →
      g (emb x) ρ0 S fun ρ1 S1 => di1 ρ1 S1 fun ds1 S3 => dDcL g1 tt1 tk tv (dwipe ρ1 vs1) Y ds1 (.dK kvs) S3) →
    kvs.length + (xs.map n).sum ≤ sizeLine → (∀ kvs', Q (.dK kvs') S) → dDcL2 g dYes di1 g1 tt1 tk tv vs1 ρ0 Q (xs.map emb) (.dK kvs) S
  | [], kvs, _, _, q => q kvs
  | x :: xs, kvs, h, hl, q => by
    rw [List.map_cons]
    simp only [List.map_cons, List.sum_cons] at hl
    refine h x List.mem_cons_self kvs (fun m' S' => dDcL2 g dYes di1 g1 tt1 tk tv vs1 ρ0 Q (xs.map emb) m' S') (by omega) (fun kvs' hk => ?_)
    exact dc2_str emb inner n xs kvs' (fun y hy => h y (List.mem_cons_of_mem _ hy)) (by omega) q
theorem keysOf_strs {zs : List Str} : keysOf (zs.map D.str) = some (zs.map Sum.inr) := by
  induction zs with
  | nil => rfl
  | cons z zs ih => simp [keysOf, keyOf, ih]
/-- keys that are tuples of texts, apart -/
theorem dc_tup (emb : α → D) (key : α → List Str) (val : α → D) : ∀ (xs : List α) (kvs : List (List Key × D)),
    (∀ x ∈ xs, ∀ (Y : D → D → Store → Prop), Y (.tup ((key x).map D.str)) (val x) S → g (emb x) ρ0 S fun ρ1 S1 => tk ρ1 S1 fun k S3 => tv ρ1 S3 fun v S4 => Y k v S4) →
    kvs.length + xs.length ≤ sizeLine → ((kvs.map Prod.fst) ++ xs.map fun x => ((key x).map Sum.inr : List Key)).Nodup → Q (.dT (kvs ++ xs.map fun x => ((key x).map Sum.inr, val x))) S → dDcL g dYes tk tv ρ0 Q (xs.map emb) (.dT kvs) S
  | [], kvs, _, _, _, q => by simpa [dDcL] using q
  | x :: xs, kvs, h, hl, hn, q => by
    rw [List.map_cons]
    simp only [List.length_cons] at hl
    have hx : ((key x).map Sum.inr : List Key) ∉ kvs.map Prod.fst := by
      intro hm
      rw [List.map_cons, List.nodup_append] at hn
      exact hn.2.2 _ hm _ List.mem_cons_self rfl
    refine h x List.mem_cons_self (fun k v S4 => ∃ m', putM (.dT kvs) k v = some m' ∧ dDcL g dYes tk tv ρ0 Q (xs.map emb) m' S4) ⟨.dT (kvs ++ [((key x).map Sum.inr, val x)]), ?_, ?_⟩
    · show ((keysOf ((key x).map D.str)).bind fun k' => if kvs.length < sizeLine then some (MO.dT (putD kvs k' (val x))) else none) = _
      rw [keysOf_strs, Option.bind_some, if_pos (by omega), putD_new hx]
    · refine dc_tup emb key val xs _ (fun y hy => h y (List.mem_cons_of_mem _ hy)) (by simp only [List.length_append, List.length_cons, List.length_nil]; omega) ?_ ?_
      · simpa [List.append_assoc] using hn
      · simpa [List.append_assoc] using q
end
end DL
set_option Elab.async false
set_option linter.all false
set_option maxRecDepth 100000
set_option maxHeartbeats 2000000
namespace M
open PySem PySem.Spec L2 DL
theorem signs_map {z : Str} : (signs z).map D.str = z.cps.toList.map fun c => D.str ⟨#[c]⟩ := by simp [signs]
theorem signs_len {z : Str} : z.cps.toList.length = z.length := by simp [Str.length]
theorem mem_len {zs : List Str} {z : Str} (h : z ∈ zs) : z.length ≤ (zs.map (·.length)).sum := by
  induction zs with
  | nil => cases h
  | cons w zs ih =>
    simp only [List.map_cons, List.sum_cons]
    rcases List.mem_cons.mp h with rfl | h
    · omega
    · have := ih h; omega
theorem sp_cnt {x y : Str} (hy : 1 ≤ y.length) : (Txt.split x y).length ≤ x.length + 1 := by
  have := PyProof.Rows.split_weight x y hy; omega
theorem sp_len {x y w : Str} (hy : 1 ≤ y.length) (h : w ∈ Txt.split x y) : w.length ≤ x.length := by
  have h1 := PyProof.Rows.split_weight x y hy
  have h2 := mem_len h
  have h3 : 1 ≤ (Txt.split x y).length := List.length_pos_iff.mpr (List.ne_nil_of_mem h)
  omega
theorem sp_ne {x y : Str} : Txt.split x y ≠ [] := by
  have := PyProof.Rows.split_pos x y
  intro e
  rw [e] at this
  simp at this
@[simp] theorem ln_c : (("," : Str)).length = 1 := by decide +kernel
@[simp] theorem ln_s : ((" " : Str)).length = 1 := by decide +kernel
@[simp] theorem ln_n : (("\n" : Str)).length = 1 := by decide +kernel
@[simp] theorem ln_c0 : ((("," : Str)).length == 0) = false := by decide +kernel
@[simp] theorem ln_s0 : (((" " : Str)).length == 0) = false := by decide +kernel
@[simp] theorem ln_n0 : ((("\n" : Str)).length == 0) = false := by decide +kernel
@[simp] theorem szl : sizeLine = 16777216 := by decide
@[simp] theorem scb : scanBound = 4096 := by decide
theorem enumD_map {α : Type} {xs : List α} {f : α → D} : enumD (xs.map f) = xs.zipIdx.map fun p => D.tup [.int (p.2 : Nat), f p.1] := by
  unfold enumD
  apply List.ext_getElem?
  intro i
  rw [List.getElem?_zipWith, List.getElem?_map, List.getElem?_map, List.getElem?_map, List.getElem?_zipIdx, List.length_map]
  by_cases h : i < xs.length
  · rw [List.getElem?_range h, List.getElem?_eq_getElem h]; simp
  · rw [List.getElem?_eq_none (by simpa using h : xs.length ≤ i)]
    cases (List.range xs.length)[i]? <;> simp
theorem zip_nodup {ns : List Str} : (ns.zipIdx.any fun p => decide (p.1 ∈ ns.take p.2)) = false ↔ ns.Nodup := by
  rw [List.any_eq_false, List.Nodup, List.pairwise_iff_getElem]
  constructor
  · intro h i j hi hj hij e
    refine h (ns[j], j) (List.mk_mem_zipIdx_iff_getElem?.mpr (by simp [hj])) ?_
    rw [decide_eq_true_eq, List.mem_iff_getElem]
    exact ⟨i, by simp; omega, by rw [List.getElem_take]; exact e⟩
  · rintro h ⟨x, j⟩ hp e
    rw [decide_eq_true_eq, List.mem_iff_getElem] at e
    obtain ⟨i, hi, e2⟩ := e
    simp only [List.length_take] at hi
    rw [List.getElem_take] at e2
    have h3 := List.mem_zipIdx hp
    simp only [Nat.zero_add, Nat.sub_zero] at h3
    exact h i j (by omega) (by omega) (by omega) (e2.trans h3.2.2)
theorem none_left {α β : Type} [DecidableEq β] {p : α → Bool} {f : α → β} : ∀ {xs : List α}, decide ((xs.filter (fun c => !p c)).map f = []) = xs.all p
  | [] => by simp
  | x :: xs => by
    have ih := none_left (p := p) (f := f) (xs := xs)
    cases e : p x
    · simp [e]
    · rw [List.filter_cons_of_neg (by simp [e]), List.all_cons, e, ih, Bool.true_and]
theorem all_yes {α : Type} {xs : List α} {p : α → Bool} (h : xs.all p = true) : ¬ ∃ a, a ∈ xs ∧ p a = false := fun ⟨a, ha, e⟩ => by rw [List.all_eq_true.mp h a ha] at e; cases e
theorem all_no {α : Type} {xs : List α} {p : α → Bool} (h : xs.all p = false) : ∃ a, a ∈ xs ∧ p a = false := by
  obtain ⟨a, ha, e⟩ := List.all_eq_false.mp h
  exact ⟨a, ha, by simpa using e⟩
theorem sum_le {α : Type} {xs : List α} {f : α → Nat} {B : Nat} (h : ∀ x ∈ xs, f x ≤ B) : (xs.map f).sum ≤ xs.length * B := by
  induction xs with
  | nil => simp
  | cons x xs ih =>
    have h1 := h x List.mem_cons_self
    have h2 := ih fun y hy => h y (List.mem_cons_of_mem _ hy)
    simp only [List.map_cons, List.sum_cons, List.length_cons, Nat.succ_mul]
    omega
def isLet (c : Nat) : Bool := decide (c ∈ ("abcdefghijklmnopqrstuvwxyz" : Str).cps.toList)
def isName (z : Str) : Bool := decide ((1 : Int) ≤ z.length) && decide ((z.length : Int) ≤ 8) && z.cps.toList.all isLet
def mNamesIn (z : Str) : Option (List Str) := if z = ("-" : Str) then some [] else if (Txt.split z ",").all isName && decide (Txt.split z "," = sortU (Txt.split z ",")) then some (Txt.split z ",") else none
def optL : Option (List Str) → D
  | none => .non
  | some zs => .lst (zs.map .str)
theorem sortU_nil : sortU [] = [] := by unfold sortU sortS plusAll; simp
theorem namesIn_facts {z : Str} {ns : List Str} (h : mNamesIn z = some ns) : ns.all isName = true ∧ ns.length ≤ z.length + 1 ∧ (∀ n ∈ ns, n.length ≤ z.length) ∧ ns = sortU ns := by
  unfold mNamesIn at h
  split at h
  · cases h; exact ⟨rfl, by simp, by simp, sortU_nil.symm⟩
  · split at h
    · rename_i q
      cases h
      obtain ⟨q1, q2⟩ := Bool.and_eq_true_iff.mp q
      exact ⟨q1, sp_cnt (by rw [ln_c]; exact Nat.le_refl _), fun n hn => sp_len (by rw [ln_c]; exact Nat.le_refl _) hn, by simpa using q2⟩
    · cases h
def mRoomsOf (z : Str) : List (List Str) := (Txt.split z " ").map fun w => Txt.split w ","
def mFlat (z : Str) : List Str := (Txt.split z " ").flatMap fun w => Txt.split w ","
def mMomentsOk (z : Str) : Bool := (mFlat z).all isName && decide (((mFlat z).length : Int) ≤ 8) && decide ((plusAll (mFlat z)).length = (mFlat z).length) && (mRoomsOf z).all (fun p => decide (p = sortS p))
def mMomentsIn (z : Str) : Option (List (List Str)) := if z = ("-" : Str) then some [] else if mMomentsOk z then some (mRoomsOf z) else none
def strL (zs : List Str) : D := .lst (zs.map .str)
def tupS (zs : List Str) : D := .tup (zs.map .str)
def optLL : Option (List (List Str)) → D
  | none => .non
  | some zs => .lst (zs.map strL)
theorem flat_cnt {ws : List Str} : (ws.flatMap fun w => Txt.split w ",").length ≤ (ws.map (·.length)).sum + ws.length := by
  induction ws with
  | nil => simp
  | cons w ws ih =>
    have := sp_cnt (x := w) (y := ",") (by rw [ln_c]; exact Nat.le_refl _)
    simp only [List.flatMap_cons, List.length_append, List.map_cons, List.sum_cons, List.length_cons] at ih ⊢
    omega
theorem mFlat_cnt {z : Str} : (mFlat z).length ≤ z.length + 1 := by
  have h1 := PyProof.Rows.split_weight z " " (by rw [ln_s]; exact Nat.le_refl _)
  have h2 := flat_cnt (ws := Txt.split z " ")
  unfold mFlat; omega
theorem mFlat_len {z r : Str} (h : r ∈ mFlat z) : r.length ≤ z.length := by
  obtain ⟨w, hw, hr⟩ := List.mem_flatMap.mp h
  exact Nat.le_trans (sp_len (by rw [ln_c]; exact Nat.le_refl _) hr) (sp_len (by rw [ln_s]; exact Nat.le_refl _) hw)
theorem mRooms_flat {z : Str} : (mRoomsOf z).flatMap id = mFlat z := by
  unfold mRoomsOf mFlat
  rw [List.flatMap_map]; rfl
theorem len_flat {α : Type} {ms : List (List α)} {m : List α} (h : m ∈ ms) : m.length ≤ (ms.flatMap id).length := by
  rw [List.length_flatMap]
  have : ∀ {l : List Nat} {n : Nat}, n ∈ l → n ≤ l.sum := fun {l n} hn => by
    induction l with
    | nil => cases hn
    | cons a l ih =>
      rw [List.sum_cons]
      rcases List.mem_cons.mp hn with rfl | q
      · omega
      · have := ih q; omega
  exact this (List.mem_map.mpr ⟨m, h, rfl⟩)
theorem cnt_flat {α : Type} : ∀ {ms : List (List α)}, (∀ m ∈ ms, m ≠ []) → ms.length ≤ (ms.flatMap id).length
  | [], _ => by simp
  | m :: ms, h => by
    have ih := cnt_flat (ms := ms) fun m hm => h m (List.mem_cons_of_mem _ hm)
    have := List.length_pos_iff.mpr (h m List.mem_cons_self)
    simp only [List.flatMap_cons, List.length_append, List.length_cons, id] at ih ⊢
    omega
theorem momentsIn_facts {z : Str} {ms : List (List Str)} (h : mMomentsIn z = some ms) : ms.length ≤ 8 ∧ (ms.flatMap id).Nodup ∧ (ms.flatMap id).length ≤ 8 ∧ ∀ m ∈ ms, m ≠ [] ∧ m.all isName = true ∧ m.length ≤ 8 ∧ sortS m = m := by
  unfold mMomentsIn at h
  split at h
  · cases h; simp
  · split at h
    · rename_i q
      cases h
      unfold mMomentsOk at q
      simp only [Bool.and_eq_true, decide_eq_true_eq] at q
      obtain ⟨⟨⟨q1, q2⟩, q3⟩, q4⟩ := q
      have f := mRooms_flat (z := z)
      have ne : ∀ m ∈ mRoomsOf z, m ≠ [] := fun m hm => by
        obtain ⟨w, _, rfl⟩ := List.mem_map.mp hm
        exact sp_ne
      refine ⟨?_, by rw [f]; exact plusAll_len_iff.mp q3, by rw [f]; omega, fun m hm => ⟨ne m hm, ?_, ?_, ?_⟩⟩
      · have := cnt_flat ne
        rw [f] at this; omega
      · rw [List.all_eq_true]
        intro w hw
        refine List.all_eq_true.mp q1 w ?_
        rw [← f]
        exact List.mem_flatMap.mpr ⟨m, hm, hw⟩
      · have := len_flat hm
        rw [f] at this; omega
      · have := List.all_eq_true.mp q4 m hm
        exact (of_decide_eq_true this).symm
    · cases h
/-- a law's own look at an order -/
def lawOrdGo : List Str → List Str → Bool
  | held, [] => decide ((held.length : Int) ≤ 8)
  | held, w :: ws => if (Txt.split w ",").all (fun r => isName r && !decide (r ∈ held)) && decide (Txt.split w "," = sortU (Txt.split w ",")) then lawOrdGo (held ++ Txt.split w ",") ws else false
def mLawOrd (ws : List Str) : Bool := if ws = [("-" : Str)] then true else lawOrdGo [] ws
def isRow (ns : List Str) : Bool := decide ((2 : Int) ≤ ns.length) && ns.all isName && !(ns.zipIdx.any fun p => decide (p.1 ∈ ns.take p.2)) && ns.all fun n => !decide (n.cps.toList < (ns.headD (⟨#[]⟩ : Str)).cps.toList)
def lawRow (ns : List Str) : Bool := decide ((2 : Int) ≤ ns.length) && ns.all isName && decide ((plusAll ns).length = ns.length) && ns.all fun n => !decide (n.cps.toList < (ns.headD (⟨#[]⟩ : Str)).cps.toList)
def rowText (r : List Str) : Str := ((Str.empty ++ pad2 (r.length : Int)) ++ (" " : Str)) ++ Txt.join " " r
theorem pad_len : ∀ n : Nat, n < 100 → (pad2 (n : Int)).length = 2 := by decide +kernel
theorem app_len {a b : Str} : (a ++ b).length = a.length + b.length := Str.length_append a b
theorem join_len (s : Str) (r : List Str) : (Txt.join s r).length ≤ (r.map (·.length)).sum + r.length * s.length := by
  unfold Txt.join
  rw [StrLaws.glued_eq_join]
  exact StrLaws.join_length_le s r
theorem rowText_len {r : List Str} (h : r.length < 100) : (rowText r).length ≤ 103 + (r.map (·.length)).sum := by
  have h1 := join_len " " r
  unfold rowText
  rw [app_len, app_len, app_len, pad_len _ h]
  have : (Str.empty).length = 0 := rfl
  simp at h1 ⊢
  omega
theorem mem_sortS {xs : List Str} {t : Str} : t ∈ sortS xs ↔ t ∈ xs := by unfold sortS; exact List.mem_mergeSort
theorem len_sortS {xs : List Str} : (sortS xs).length = xs.length := by unfold sortS; exact List.length_mergeSort _
def isFig (c : Nat) : Bool := decide (c ∈ ("0123456789" : Str).cps.toList)
def figOk (cs : List Nat) : Bool := decide ((1 : Int) ≤ cs.length) && decide ((cs.length : Int) ≤ 12) && cs.all isFig
def signed (z : Str) : Bool := decide (cutS z none (some 1) = ("-" : Str))
def figs (z : Str) : Str := if signed z then cutS z (some 1) none else z
def intOf (z : Str) : Int := (PySem.intText? z).getD 0
def mNumIn (z : Str) (lo hi : Int) : Option Int := if figOk (figs z).cps.toList then (if toString (intOf z) = z ∧ lo ≤ intOf z ∧ intOf z ≤ hi then some (intOf z) else none) else none
def mLawNum (z : Str) (lo : Int) : Bool := figOk z.cps.toList && decide (toString (intOf z) = z) && decide (lo ≤ intOf z)
theorem fig_iff {c : Nat} : isFig c = true ↔ 48 ≤ c ∧ c ≤ 57 := by
  have e : ("0123456789" : Str).cps.toList = [48, 49, 50, 51, 52, 53, 54, 55, 56, 57] := by decide +kernel
  unfold isFig
  rw [e]
  simp
  omega
theorem let_iff {c : Nat} : isLet c = true ↔ 97 ≤ c ∧ c ≤ 122 := by
  have e : ("abcdefghijklmnopqrstuvwxyz" : Str).cps.toList = [97, 98, 99, 100, 101, 102, 103, 104, 105, 106, 107, 108, 109, 110, 111, 112, 113, 114, 115, 116, 117, 118, 119, 120, 121, 122] := by decide +kernel
  unfold isLet
  rw [e]
  simp
  omega
theorem digits_lt : ∀ (cs : List Nat) (acc : Nat), NumText.AllDigits cs → cs.foldl (fun acc c => acc * 10 + (c - 48)) acc < (acc + 1) * 10 ^ cs.length
  | [], acc, _ => by simp
  | c :: cs, acc, h => by
    have hc := h c List.mem_cons_self
    have ih := digits_lt cs (acc * 10 + (c - 48)) (fun d hd => h d (List.mem_cons_of_mem _ hd))
    simp only [List.foldl_cons, List.length_cons, Nat.pow_succ]
    refine Nat.lt_of_lt_of_le ih ?_
    have : acc * 10 + (c - 48) + 1 ≤ (acc + 1) * 10 := by omega
    calc (acc * 10 + (c - 48) + 1) * 10 ^ cs.length ≤ ((acc + 1) * 10) * 10 ^ cs.length := Nat.mul_le_mul_right _ this
      _ = (acc + 1) * (10 ^ cs.length * 10) := by rw [Nat.mul_assoc, Nat.mul_comm 10]
theorem figOk_iff {cs : List Nat} : figOk cs = true ↔ 1 ≤ cs.length ∧ cs.length ≤ 12 ∧ NumText.AllDigits cs := by
  unfold figOk NumText.AllDigits
  simp only [Bool.and_eq_true, decide_eq_true_eq, List.all_eq_true, fig_iff]
  constructor
  · rintro ⟨⟨a, b⟩, c⟩; exact ⟨by omega, by omega, c⟩
  · rintro ⟨a, b, c⟩; exact ⟨⟨by omega, by omega⟩, c⟩
theorem log_lt {n : Nat} (h : n < 10 ^ 12) : n.log2 < 1920 := by
  by_cases e : n = 0
  · subst e; decide
  · refine (Nat.log2_lt e).mpr (Nat.lt_of_lt_of_le h ?_)
    calc (10 : Nat) ^ 12 ≤ 2 ^ 40 := by decide
      _ ≤ 2 ^ 1920 := Nat.pow_le_pow_right (by decide) (by decide)
theorem num_len {v : Int} (h0 : 0 ≤ v) (h : v ≤ 999999999999) : (Str.ofString (toString v)).length ≤ 12 := PyProof.Rows.toString_length_le h0 (by decide) (by omega)
theorem num_log {v : Int} (h0 : 0 ≤ v) (h : v ≤ 999999999999) : v.natAbs.log2 < 1920 := log_lt (by omega)
/-- what int(word) needs and gives -/
theorem int_plain {z : Str} (h : figOk z.cps.toList = true) : PySem.intText? z = some (intOf z) ∧ 0 ≤ intOf z ∧ intOf z < 10 ^ 12 ∧ (intOf z).natAbs.log2 < 1920 ∧ z.length ≤ 640 := by
  obtain ⟨h1, h2, h3⟩ := figOk_iff.mp h
  have hl : z.length ≤ 12 := by rw [← signs_len]; exact h2
  have e := PySem.intText_digits h3 (by intro q; rw [q] at h1; simp at h1) (by omega)
  have b := digits_lt z.cps.toList 0 h3
  have b2 : NumText.digitsVal z.cps.toList < 10 ^ 12 := by
    refine Nat.lt_of_lt_of_le (show NumText.digitsVal z.cps.toList < 1 * 10 ^ z.cps.toList.length from by have q := b; rw [Nat.zero_add] at q; exact q) ?_
    rw [Nat.one_mul]
    exact Nat.pow_le_pow_right (by decide) h2
  have e2 : intOf z = ((NumText.digitsVal z.cps.toList : Nat) : Int) := by unfold intOf; rw [e]; rfl
  refine ⟨by rw [e2]; exact e, by rw [e2]; omega, by rw [e2]; exact_mod_cast b2, by rw [e2]; exact log_lt b2, by omega⟩
theorem int_minus {z : Str} {cs : List Nat} (hz : z.cps.toList = 45 :: cs) (h : figOk cs = true) : PySem.intText? z = some (intOf z) ∧ intOf z ≤ 0 ∧ (intOf z).natAbs.log2 < 1920 ∧ z.length ≤ 640 := by
  obtain ⟨h1, h2, h3⟩ := figOk_iff.mp h
  have hl : z.length = cs.length + 1 := by rw [← signs_len, hz]; rfl
  have e := PySem.intText_neg hz h3 (by intro q; rw [q] at h1; simp at h1) (by omega)
  have b := digits_lt cs 0 h3
  have b2 : NumText.digitsVal cs < 10 ^ 12 := by
    refine Nat.lt_of_lt_of_le (show NumText.digitsVal cs < 1 * 10 ^ cs.length from by have q := b; rw [Nat.zero_add] at q; exact q) ?_
    rw [Nat.one_mul]
    exact Nat.pow_le_pow_right (by decide) h2
  have e2 : intOf z = -((NumText.digitsVal cs : Nat) : Int) := by unfold intOf; rw [e]; rfl
  exact ⟨by rw [e2]; exact e, by rw [e2]; omega, by rw [e2]; simpa using log_lt b2, by omega⟩
def optI : Option Int → D
  | none => .non
  | some i => .int i
theorem cut1 {z : Str} : cutS z (some 1) none = ⟨(z.cps.toList.drop 1).toArray⟩ := by
  unfold cutS
  have h1 : HT.sIx z.length 0 (some 1) = min 1 z.length := HT.sIx_nat z.length 0 1
  have h2 : HT.sIx z.length z.length none = z.length := rfl
  rw [h1, h2]
  congr 1
  congr 1
  by_cases h : 1 ≤ z.length
  · rw [Nat.min_eq_left h]
    exact List.take_of_length_le (by simp [Str.length])
  · have h0 : z.length = 0 := by omega
    have h3 : z.cps.toList = [] := List.eq_nil_of_length_eq_zero (by rw [signs_len]; exact h0)
    simp [h3]
theorem cut01 {z : Str} : cutS z none (some 1) = ⟨(z.cps.toList.take 1).toArray⟩ := by
  unfold cutS
  have h1 : HT.sIx z.length z.length (some 1) = min 1 z.length := HT.sIx_nat z.length z.length 1
  have h2 : HT.sIx z.length 0 none = 0 := rfl
  rw [h1, h2]
  congr 1
  congr 1
  by_cases h : 1 ≤ z.length
  · rw [Nat.min_eq_left h]; simp
  · have h0 : z.length = 0 := by omega
    have h3 : z.cps.toList = [] := List.eq_nil_of_length_eq_zero (by rw [signs_len]; exact h0)
    simp [h3]
theorem minus_cps : ("-" : Str) = ⟨#[45]⟩ := by decide +kernel
theorem signed_iff {z : Str} : signed z = true ↔ ∃ cs, z.cps.toList = 45 :: cs := by
  unfold signed
  rw [cut01, minus_cps, decide_eq_true_eq]
  constructor
  · intro e
    have e2 : z.cps.toList.take 1 = [45] := by simpa using congrArg (fun q : Str => q.cps.toList) e
    cases h : z.cps.toList with
    | nil => rw [h] at e2; cases e2
    | cons c cs => rw [h] at e2; simp at e2; exact ⟨cs, by rw [e2]⟩
  · rintro ⟨cs, h⟩
    rw [h]; rfl
/-- what int(word) needs where its figures are right -/
theorem int_ready {z : Str} (h : figOk (figs z).cps.toList = true) : PySem.intText? z = some (intOf z) ∧ (intOf z).natAbs.log2 < 1920 ∧ z.length ≤ 640 := by
  unfold figs at h
  by_cases e : signed z = true
  · rw [if_pos e] at h
    obtain ⟨cs, hz⟩ := signed_iff.mp e
    rw [cut1, hz] at h
    obtain ⟨a, _, b, c⟩ := int_minus hz (by simpa using h)
    exact ⟨a, b, c⟩
  · rw [if_neg e] at h
    obtain ⟨a, _, _, b, c⟩ := int_plain h
    exact ⟨a, b, c⟩
open He (ga) in
def dLocks (K : PySem.W.Frag) (ns : List Str) : D := .ins (ga K "Locks") [("own_names", tupS ns)]
open He (ga) in
def dOrder (K : PySem.W.Frag) (ms : List (List Str)) (kvs : List (Key × D)) : D := .ins (ga K "Order") [("own_moments", .tup (ms.map tupS)), ("own_places", .dK kvs)]
open He (ga) in
def dRounds (K : PySem.W.Frag) (rows : List (List Str)) (kvs : List (List Key × D)) : D := .ins (ga K "Rounds") [("own_rows", .lst (rows.map tupS)), ("own_parts", .dT kvs)]
open He (ga) in
def dLeast (K : PySem.W.Frag) (cost : Int) (locks order rounds : D) : D := .ins (ga K "Least") [("cost", .int cost), ("locks", locks), ("order", order), ("rounds", rounds)]
@[simp] theorem tp_tupS {r : List Str} : tpOf (tupS r) = some (r.map D.str) := rfl
@[simp] theorem ls_tupS {S : Store} {r : List Str} : lsOf S (tupS r) = none := rfl
open He (ga) in
@[simp] theorem ins_dLocks {S : Store} {K : PySem.W.Frag} {ns : List Str} : insOf S (dLocks K ns) = some (ga K "Locks", ([("own_names", tupS ns)] : List (Str × D))) := rfl
open He (ga) in
@[simp] theorem ins_dOrder {S : Store} {K : PySem.W.Frag} {ms : List (List Str)} {kvs : List (Key × D)} : insOf S (dOrder K ms kvs) = some (ga K "Order", ([("own_moments", .tup (ms.map tupS)), ("own_places", .dK kvs)] : List (Str × D))) := rfl
open He (ga) in
@[simp] theorem ins_dRounds {S : Store} {K : PySem.W.Frag} {rows : List (List Str)} {kvs : List (List Key × D)} : insOf S (dRounds K rows kvs) = some (ga K "Rounds", ([("own_rows", .lst (rows.map tupS)), ("own_parts", .dT kvs)] : List (Str × D))) := rfl
open He (ga) in
@[simp] theorem ins_dLeast {S : Store} {K : PySem.W.Frag} {c : Int} {l o r : D} : insOf S (dLeast K c l o r) = some (ga K "Least", ([("cost", .int c), ("locks", l), ("order", o), ("rounds", r)] : List (Str × D))) := rfl
open He (ga) in
def oPage (K : PySem.W.Frag) (dx : Addr) (rows : List (List Str)) (at_ spot : Nat) : MO := .ins (ga K "Page") dx [("rows", .lst (rows.map strL)), ("at", .int at_), ("spot", .int spot)]
open He (ga) in
@[simp] theorem ins_oPage {S : Store} {K : PySem.W.Frag} {a dx : Addr} {rows : List (List Str)} {i j : Nat} : insOf (sup S a (oPage K dx rows i j)) (.ref a) = some (ga K "Page", ([("rows", .lst (rows.map strL)), ("at", .int i), ("spot", .int j)] : List (Str × D))) := ins_sup
open He (ga) in
theorem ins_page {S : Store} {K : PySem.W.Frag} {a dx : Addr} {rows : List (List Str)} {i j : Nat} (h : S a = some (oPage K dx rows i j)) : insOf S (.ref a) = some (ga K "Page", ([("rows", .lst (rows.map strL)), ("at", .int i), ("spot", .int j)] : List (Str × D))) := ins_at h
open He (ga) in
def xText (K : PySem.W.Frag) (l w : Nat) : Exn := ⟨ga K "BadText", [("word", .int w), ("line", .int l)]⟩
open He (ga) in
def xPart (K : PySem.W.Frag) (C part : Str) : Exn := ⟨ga K C, [("part", .str part)]⟩
def upc (rows : List (List Str)) (at_ spot : Nat) : Option Str := (rows[at_]?).bind (·[spot]?)
def restOf (rows : List (List Str)) (i j : Nat) : List Str := ((rows[i]?).getD []).drop j
theorem upc_end {rows : List (List Str)} {i j : Nat} : upc rows i (j + (((rows[i]?).getD []).drop j).length) = none := by
  unfold upc
  cases h : rows[i]? with
  | none => rfl
  | some r =>
    simp only [Option.bind_some, Option.getD_some, List.length_drop]
    exact List.getElem?_eq_none (by omega)
theorem upc_fin {rows : List (List Str)} {i j : Nat} : upc rows i (j + (((rows[i]?).getD []).length - j)) = none := by
  have := upc_end (rows := rows) (i := i) (j := j)
  rwa [List.length_drop] at this
/-- rows, in bounds -/
def PageB (rows : List (List Str)) : Prop := ∀ r ∈ rows, (r.map (·.length)).sum + r.length ≤ 3999
theorem PageB.rest {rows : List (List Str)} (h : PageB rows) (i j : Nat) : ((restOf rows i j).map (·.length)).sum + (restOf rows i j).length ≤ 3999 := by
  unfold restOf
  cases e : rows[i]? with
  | none => simp
  | some r =>
    have h1 := h r (List.mem_of_getElem? e)
    have h2 := (List.drop_sublist j r)
    have h3 : ((r.drop j).map (·.length)).sum + ((r.take j).map (·.length)).sum = (r.map (·.length)).sum := by
      rw [Nat.add_comm, ← List.sum_append_nat, ← List.map_append, List.take_append_drop]
    simp only [Option.getD_some, List.length_drop]
    omega
theorem PageB.line {rows : List (List Str)} (h : PageB rows) (i j : Nat) : (Txt.join " " (restOf rows i j)).length ≤ 3999 := by
  have h1 := h.rest i j
  have h2 := join_len " " (restOf rows i j)
  rw [ln_s] at h2
  omega
theorem PageB.row {rows : List (List Str)} (h : PageB rows) : ∀ r ∈ rows, r.length ≤ 16000000 := fun r hr => by have := h r hr; omega
theorem PageB.up {rows : List (List Str)} (h : PageB rows) {i j : Nat} {z : Str} (q : upc rows i j = some z) : z.length ≤ 3999 := by
  unfold upc at q
  cases e : rows[i]? with
  | none => rw [e] at q; cases q
  | some r =>
    rw [e] at q
    have h1 := h r (List.mem_of_getElem? e)
    have h2 := mem_len (List.mem_of_getElem? (show r[j]? = some z from q))
    omega
def optS : Option Str → D
  | none => .non
  | some z => .str z
theorem rows_at {rows : List (List Str)} {i : Nat} : (rows.map strL)[i]? = (rows[i]?).map strL := by simp
def locksText (ns : List Str) : Str := if ns = [] then ("-" : Str) else Txt.join "," ns
def ordText (ms : List (List Str)) : Str := if ms = [] then ("-" : Str) else Txt.join " " (ms.map fun m => Txt.join "," m)
theorem ln_dash : (("-" : Str)).length = 1 := by decide +kernel
theorem locksText_len {ns : List Str} : (locksText ns).length ≤ 1 + (ns.map (·.length)).sum + ns.length := by
  unfold locksText
  split
  · rw [ln_dash]; omega
  · have := join_len "," ns
    rw [ln_c] at this; omega
theorem ordText_len {ms : List (List Str)} {B : Nat} (h : ∀ m ∈ ms, (m.map (·.length)).sum + m.length ≤ B) : (ordText ms).length ≤ 1 + ms.length * (B + 1) := by
  unfold ordText
  split
  · rw [ln_dash]; omega
  · have h1 := join_len " " (ms.map fun m => Txt.join "," m)
    have h2 : (ms.map fun m => (Txt.join "," m).length).sum ≤ ms.length * B := sum_le fun m hm => by
      have := join_len "," m
      have := h m hm
      rw [ln_c] at *; omega
    rw [List.map_map, List.length_map, ln_s] at h1
    have h3 : ms.length * (B + 1) = ms.length * B + ms.length := Nat.mul_succ _ _
    have h4 : (List.map ((fun x : Str => x.length) ∘ fun m => Txt.join "," m) ms).sum = (ms.map fun m => (Txt.join "," m).length).sum := rfl
    omega
/-- a row, in bounds -/
def RowB (r : List Str) : Prop := r.length < 100 ∧ (r.map (·.length)).sum ≤ 4000
theorem RowB.len {r : List Str} (h : RowB r) {w : Str} (hw : w ∈ r) : w.length ≤ 4000 := Nat.le_trans (mem_len hw) h.2
/-- rows with numbers, as a dict holds them -/
def rowKv (num : List Str → Int) (rows : List (List Str)) : List (List Key × D) := rows.map fun r => (r.map Sum.inr, D.int (num r))
@[simp] theorem items_row {num : List Str → Int} {rows : List (List Str)} : (rowKv num rows).map (fun p => D.tup [D.tup (p.1.map kD), p.2]) = rows.map fun r => D.tup [tupS r, .int (num r)] := by
  unfold rowKv
  rw [List.map_map]
  exact List.map_congr_left fun r _ => by simp [tupS]
@[simp] theorem keys_row {num : List Str → Int} {rows : List (List Str)} : (rowKv num rows).map (fun p => D.tup (p.1.map kD)) = rows.map tupS := by
  unfold rowKv
  rw [List.map_map]
  exact List.map_congr_left fun r _ => by simp [tupS]
theorem valD_row {num : List Str → Int} {rows : List (List Str)} {r : List Str} (h : r ∈ rows) : valD (rowKv num rows) (r.map Sum.inr) = some (.int (num r)) := by
  unfold rowKv
  induction rows with
  | nil => cases h
  | cons x rows ih =>
    have inj : ∀ a b : List Str, (a.map Sum.inr : List Key) = b.map Sum.inr → a = b := fun a b e => (List.map_inj_right (fun _ _ e => Sum.inr.inj e)).mp e
    rw [List.map_cons]
    by_cases e : x = r
    · subst e; simp [valD]
    · have e2 : ¬ (x.map Sum.inr : List Key) = r.map Sum.inr := fun q => e (inj _ _ q)
      rcases List.mem_cons.mp h with q | q
      · exact absurd q.symm e
      · have := ih q
        simp [valD, e2] at this ⊢
        exact this
/-- the earlier one of two rows, as in_order tells it -/
def firstOf (r q : List Str) : List Str := ((sortS [rowText r, rowText q]).map fun t => (Txt.split t " ").drop 1).headD []
def aheadD : Option (List Str) → D
  | none => .non
  | some r => tupS r
def rowBad (r : List Str) : Option (List Str) → Bool
  | none => false
  | some q => decide (r = q) || decide (firstOf r q = r)
theorem firstOf_eq {r q : List Str} : ∃ ts, ((sortS [rowText r, rowText q]).map fun t => tupS ((Txt.split t " ").drop 1)) = tupS (firstOf r q) :: ts := by
  have h := len_sortS (xs := [rowText r, rowText q])
  unfold firstOf
  cases e : sortS [rowText r, rowText q] with
  | nil => rw [e] at h; cases h
  | cons x xs => exact ⟨_, rfl⟩
end M
set_option Elab.async false
set_option linter.all false
set_option maxRecDepth 100000
set_option maxHeartbeats 2000000
namespace M
open PySem PySem.Spec L2 DL
abbrev cp (z : Str) : List Nat := z.cps.toList
theorem cp_app {a b : Str} : cp (a ++ b) = cp a ++ cp b := TL.tl_append a b
theorem str_ext {a b : Str} (h : cp a = cp b) : a = b := DL.str_ext h
theorem split_back {sep : Str} {s : Nat} {parts : List Str} (hs : cp sep = [s]) (hk : s < 256) (hne : parts ≠ []) (hp : ∀ p ∈ parts, s ∉ cp p) : Txt.split (Txt.join sep parts) sep = parts := by
  refine TL.split_join (y := sep) hs ?_ hne hp
  rw [Array.all_eq_true']
  intro x hx
  have : x ∈ cp sep := by simpa using hx
  rw [hs] at this
  obtain rfl := List.mem_singleton.mp this
  simpa using hk
theorem cp_c : cp ("," : Str) = [44] := by decide +kernel
theorem cp_s : cp (" " : Str) = [32] := by decide +kernel
theorem cp_n : cp ("\n" : Str) = [10] := by decide +kernel
theorem cp_d : cp ("-" : Str) = [45] := by decide +kernel
theorem split_parts {sep z : Str} {s : Nat} (hs : cp sep = [s]) : ∀ p ∈ Txt.split z sep, s ∉ cp p := by
  have : sep = ⟨#[s]⟩ := str_ext (by rw [hs])
  subst this
  exact StrLaws.split_free z s
theorem join_back {sep z : Str} : Txt.join sep (Txt.split z sep) = z := by
  unfold Txt.join
  rw [StrLaws.glued_eq_join]
  exact StrLaws.join_split z sep
theorem join_cons {sep x y : Str} {r : List Str} : Txt.join sep (x :: y :: r) = x ++ sep ++ Txt.join sep (y :: r) := by
  rw [TL.join_eq, TL.join_eq]; rfl
theorem join_one {sep x : Str} : Txt.join sep [x] = x := by
  rw [TL.join_eq]; rfl
theorem join_nil {sep : Str} : Txt.join sep [] = Str.empty := by
  rw [TL.join_eq]; rfl
theorem emp_app {a : Str} : Str.empty ++ a = a := str_ext (by rw [cp_app]; rfl)
theorem name_cps {z : Str} (h : isName z = true) : 1 ≤ z.length ∧ z.length ≤ 8 ∧ ∀ c ∈ cp z, 97 ≤ c ∧ c ≤ 122 := by
  unfold isName at h
  simp only [Bool.and_eq_true, decide_eq_true_eq, List.all_eq_true, let_iff] at h
  exact ⟨by omega, by omega, h.2⟩
theorem name_free {z : Str} (h : isName z = true) {s : Nat} (hs : s < 97) : s ∉ cp z := fun hm => by
  have := (name_cps h).2.2 s hm
  omega
theorem name_ne {z : Str} (h : isName z = true) : cp z ≠ [] := fun e => by
  have h1 := (name_cps h).1
  rw [← signs_len] at h1
  rw [show z.cps.toList = [] from e] at h1
  simp at h1
def RowOk (r : List Str) : Prop := isRow r = true ∧ r.length < 100
theorem isRow_iff {r : List Str} : isRow r = true ↔ 2 ≤ r.length ∧ (∀ n ∈ r, isName n = true) ∧ r.Nodup ∧ ∀ n ∈ r, ¬ cp n < cp (r.headD ⟨#[]⟩) := by
  unfold isRow
  rw [Bool.and_eq_true, Bool.and_eq_true, Bool.and_eq_true, Bool.not_eq_true', zip_nodup, decide_eq_true_eq, List.all_eq_true, List.all_eq_true]
  constructor
  · rintro ⟨⟨⟨a, b⟩, c⟩, d⟩
    exact ⟨by omega, b, c, fun n hn => by simpa using d n hn⟩
  · rintro ⟨a, b, c, d⟩
    exact ⟨⟨⟨by omega, b⟩, c⟩, fun n hn => by simpa using d n hn⟩
theorem lawRow_eq {r : List Str} : lawRow r = isRow r := by
  have e : decide ((plusAll r).length = r.length) = !(r.zipIdx.any fun p => decide (p.1 ∈ r.take p.2)) := by
    by_cases h : r.Nodup
    · rw [decide_eq_true (plusAll_len_iff.mpr h), zip_nodup.mpr h]; rfl
    · rw [decide_eq_false (fun q => h (plusAll_len_iff.mp q))]
      cases q : r.zipIdx.any fun p => decide (p.1 ∈ r.take p.2)
      · exact absurd (zip_nodup.mp q) h
      · rfl
  unfold lawRow isRow
  rw [e]
theorem row_ne {r : List Str} (h : isRow r = true) : r ≠ [] := fun e => by
  have := (isRow_iff.mp h).1
  rw [e] at this
  simp at this
theorem rowText_eq {r : List Str} (h : r ≠ []) : rowText r = Txt.join " " (pad2 (r.length : Int) :: r) := by
  cases r with
  | nil => exact absurd rfl h
  | cons x xs =>
    rw [join_cons]
    unfold rowText
    rw [emp_app]
theorem pad_free : ∀ n : Nat, n < 100 → 32 ∉ cp (pad2 (n : Int)) := by decide +kernel
theorem rowText_split {r : List Str} (h : RowOk r) : Txt.split (rowText r) " " = pad2 (r.length : Int) :: r := by
  rw [rowText_eq (row_ne h.1)]
  refine split_back cp_s (by decide) (by simp) (fun p hp => ?_)
  rcases List.mem_cons.mp hp with rfl | hp
  · exact pad_free _ h.2
  · exact name_free ((isRow_iff.mp h.1).2.1 p hp) (by decide)
theorem rowText_drop {r : List Str} (h : RowOk r) : (Txt.split (rowText r) " ").drop 1 = r := by rw [rowText_split h]; rfl
theorem rowText_inj {r q : List Str} (h : RowOk r) (h2 : RowOk q) (e : rowText r = rowText q) : r = q := by
  rw [← rowText_drop h, ← rowText_drop h2, e]
def ltT (r q : List Str) : Prop := cp (rowText r) < cp (rowText q)
theorem leS_two {a b : Str} (h : leS a b = true) : sortS [a, b] = [a, b] :=
  sorted_uniq (sortS_pw _) (by simp [h]) (sortS_perm _)
theorem leS_two' {a b : Str} (h : leS b a = true) : sortS [a, b] = [b, a] :=
  sorted_uniq (sortS_pw _) (by simp [h]) ((sortS_perm _).trans (List.Perm.swap ..))
theorem rowBad_some {r q : List Str} (hr : RowOk r) (hq : RowOk q) : rowBad r (some q) = false ↔ ltT q r := by
  unfold rowBad ltT
  rw [Bool.or_eq_false_iff, decide_eq_false_iff_not, decide_eq_false_iff_not]
  unfold firstOf
  cases h : leS (rowText r) (rowText q) with
  | true =>
    rw [leS_two h, List.map_cons, List.headD_cons, rowText_drop hr]
    rw [leS_iff] at h
    exact ⟨fun e => absurd rfl e.2, fun e => absurd e h⟩
  | false =>
    have h2 : cp (rowText q) < cp (rowText r) := by
      rw [← Bool.not_eq_true, leS_iff] at h
      exact Decidable.not_not.mp h
    have h3 : leS (rowText q) (rowText r) = true := leS_iff.mpr (List.not_lt.mpr (List.le_of_lt h2))
    rw [leS_two' h3, List.map_cons, List.headD_cons, rowText_drop hq]
    refine ⟨fun _ => h2, fun _ => ?_⟩
    have ne : r ≠ q := fun e => by
      subst e
      exact List.lt_irrefl _ h2
    exact ⟨ne, fun e => ne e.symm⟩
def mGo (rows : List (List Str)) : Nat → Nat → Option (List Str) → List (List Str × Int) → Except Nat (List (List Str × Int))
  | 0, _, _, acc => .ok acc
  | f + 1, i, ah, acc => if rows.length ≤ i then .ok acc else match (upc rows i 0).bind fun z => mNumIn z 1 999999999999 with
    | none => .error i
    | some n => if isRow (restOf rows i 1) = true ∧ rowBad (restOf rows i 1) ah = false then mGo rows f (i + 1) (some (restOf rows i 1)) (acc ++ [(restOf rows i 1, n)]) else .error i
/-- what a page tells: the place of the first wrong word, or the paper's parts -/
def mRead (rows : List (List Str)) : Except (Nat × Nat) (Int × List Str × List (List Str) × List (List Str × Int)) :=
  if upc rows 0 0 = some ("least" : Str) then match (upc rows 0 1).bind fun z => mNumIn z 0 999999999999 with
    | none => .error (0, 1)
    | some c => match upc rows 0 2 with
      | some _ => .error (0, 2)
      | none => match mNamesIn (Txt.join " " (restOf rows 1 0)) with
        | none => .error (1, 0)
        | some ns => match mMomentsIn (Txt.join " " (restOf rows 2 0)) with
          | none => .error (2, 0)
          | some ms => match mGo rows rows.length 3 none [] with
            | .error i => .error (i, 0)
            | .ok acc => .ok (c, ns, ms, acc)
  else .error (0, 0)
/-- rows read so far, in their order -/
structure AccOk (acc : List (List Str × Int)) (ah : Option (List Str)) : Prop where
  row : ∀ p ∈ acc, RowOk p.1 ∧ RowB p.1 ∧ 1 ≤ p.2 ∧ p.2 ≤ 999999999999
  pw : (acc.map Prod.fst).Pairwise ltT
  last : ah = (acc.map Prod.fst).getLast?
theorem AccOk.nil : AccOk [] none := ⟨by simp, by simp, rfl⟩
theorem ltT_trans {a b c : List Str} (h1 : ltT a b) (h2 : ltT b c) : ltT a c := List.lt_trans h1 h2
theorem AccOk.snoc {acc : List (List Str × Int)} {ah : Option (List Str)} {r : List Str} {n : Int} (h : AccOk acc ah) (hr : RowOk r) (hb : RowB r) (h1 : 1 ≤ n) (h2 : n ≤ 999999999999) (hbad : rowBad r ah = false) : AccOk (acc ++ [(r, n)]) (some r) := by
  have hlt : ∀ q ∈ acc.map Prod.fst, ltT q r := by
    rcases List.eq_nil_or_concat (acc.map Prod.fst) with e | ⟨xs, q, e⟩
    · rw [e]; simp
    · have hl := h.last
      have hp := h.pw
      rw [e, List.concat_eq_append] at hl hp
      rw [show (xs ++ [q]).getLast? = some q by simp] at hl
      subst hl
      have hq : RowOk q := by
        have : q ∈ acc.map Prod.fst := by rw [e]; simp
        obtain ⟨p, hp2, rfl⟩ := List.mem_map.mp this
        exact (h.row p hp2).1
      have hlast := (rowBad_some hr hq).mp hbad
      intro x hx
      rw [e, List.concat_eq_append] at hx
      rcases List.mem_append.mp hx with hx | hx
      · exact ltT_trans ((List.pairwise_append.mp hp).2.2 x hx q (List.mem_singleton.mpr rfl)) hlast
      · obtain rfl := List.mem_singleton.mp hx
        exact hlast
  refine ⟨fun p hp => ?_, ?_, by simp⟩
  · rcases List.mem_append.mp hp with hp | hp
    · exact h.row p hp
    · obtain rfl := List.mem_singleton.mp hp
      exact ⟨hr, hb, h1, h2⟩
  · rw [List.map_append]
    exact List.pairwise_append.mpr ⟨h.pw, by simp, fun x hx y hy => by
      obtain rfl := List.mem_singleton.mp hy
      exact hlt x hx⟩
theorem AccOk.ahead {acc : List (List Str × Int)} {ah : Option (List Str)} (h : AccOk acc ah) {r : List Str} (e : ah = some r) : RowOk r ∧ RowB r := by
  rw [h.last] at e
  have := List.mem_of_getLast? e
  obtain ⟨p, hp, rfl⟩ := List.mem_map.mp this
  exact ⟨(h.row p hp).1, (h.row p hp).2.1⟩
theorem AccOk.fresh {acc : List (List Str × Int)} {ah : Option (List Str)} {r : List Str} {n : Int} (h : AccOk (acc ++ [(r, n)]) ah) : r ∉ acc.map Prod.fst := by
  have := h.pw
  rw [List.map_append, List.pairwise_append] at this
  exact fun hm => List.lt_irrefl _ (this.2.2 r hm r (by simp))
theorem AccOk.nodup {acc : List (List Str × Int)} {ah : Option (List Str)} (h : AccOk acc ah) : (acc.map Prod.fst).Nodup := h.pw.imp fun q e => by
  subst e
  exact List.lt_irrefl _ q
def numOf (acc : List (List Str × Int)) (r : List Str) : Int := ((acc.find? fun p => decide (p.1 = r)).map (·.2)).getD 0
theorem numOf_mem {acc : List (List Str × Int)} (h : (acc.map Prod.fst).Nodup) {p : List Str × Int} (hp : p ∈ acc) : numOf acc p.1 = p.2 := by
  unfold numOf
  induction acc with
  | nil => cases hp
  | cons q acc ih =>
    rw [List.map_cons, List.nodup_cons] at h
    rcases List.mem_cons.mp hp with rfl | hp
    · simp
    · have ne : ¬ q.1 = p.1 := fun e => h.1 (by rw [e]; exact List.mem_map.mpr ⟨p, hp, rfl⟩)
      rw [List.find?_cons_of_neg (by simpa using ne)]
      exact ih h.2 hp
def accKv (acc : List (List Str × Int)) : List (List Key × D) := acc.map fun p => (p.1.map Sum.inr, D.int p.2)
theorem acc_kv {acc : List (List Str × Int)} (h : (acc.map Prod.fst).Nodup) : rowKv (numOf acc) (acc.map Prod.fst) = accKv acc := by
  unfold rowKv accKv
  rw [List.map_map]
  exact List.map_congr_left fun p hp => by simp [numOf_mem h hp]
theorem acc_new {acc : List (List Str × Int)} {r : List Str} (h : r ∉ acc.map Prod.fst) (d : D) : putD (accKv acc) (r.map Sum.inr) d = accKv acc ++ [(r.map Sum.inr, d)] := by
  refine putD_new fun hm => h ?_
  unfold accKv at hm
  rw [List.map_map] at hm
  obtain ⟨p, hp, e⟩ := List.mem_map.mp hm
  exact List.mem_map.mpr ⟨p, hp, (List.map_inj_right (fun _ _ e => Sum.inr.inj e)).mp e⟩
theorem ltT_sorted {rows : List (List Str)} (h : rows.Pairwise ltT) : sortS (rows.map rowText) = rows.map rowText :=
  sorted_uniq (sortS_pw _) (List.pairwise_map.mpr (h.imp fun q => leS_iff.mpr (List.not_lt.mpr (List.le_of_lt q)))) (sortS_perm _)
theorem mNum_in {z : Str} {lo hi n : Int} (h : mNumIn z lo hi = some n) : lo ≤ n ∧ n ≤ hi ∧ (toString n : Str) = z := by
  unfold mNumIn at h
  split at h
  · split at h
    · rename_i q
      cases h
      exact ⟨q.2.1, q.2.2, q.1⟩
    · cases h
  · cases h
def mRows (z : Str) : List (List Str) := (Txt.split z "\n").map fun l => Txt.split l " "
def Ext (S S' : Store) : Prop := ∀ a m, S a = some m → S' a = some m
def PgS (S : Store) (a p : Addr) (m : MO) (kvs : List (List Key × D)) (S' : Store) : Prop := Ext S S' ∧ S' a = some m ∧ S' p = some (.dT kvs)
theorem PgS.page {S S' : Store} {a p : Addr} {m m' : MO} {kvs : List (List Key × D)} (h : PgS S a p m kvs S') (ha : S a = none) (hne : p ≠ a) : PgS S a p m' kvs (sup S' a m') := by
  refine ⟨fun b x hb => ?_, sup_at, ?_⟩
  · unfold sup
    by_cases e : b = a
    · subst e; rw [ha] at hb; cases hb
    · simpa [e] using h.1 b x hb
  · unfold sup
    simpa [hne] using h.2.2
theorem PgS.dict {S S' : Store} {a p : Addr} {m : MO} {kvs kvs' : List (List Key × D)} (h : PgS S a p m kvs S') (hp : S p = none) (hne : p ≠ a) : PgS S a p m kvs' (sup S' p (.dT kvs')) := by
  refine ⟨fun b x hb => ?_, ?_, sup_at⟩
  · unfold sup
    by_cases e : b = p
    · subst e; rw [hp] at hb; cases hb
    · simpa [e] using h.1 b x hb
  · unfold sup
    simpa [Ne.symm hne] using h.2.1
theorem ext_sup {S : Store} {a : Addr} {m : MO} (ha : S a = none) : Ext S (sup S a m) := fun b x hb => by
  unfold sup
  by_cases e : b = a
  · subst e; rw [ha] at hb; cases hb
  · simpa [e] using hb
def PapB (z : Str) : Prop := z.length ≤ 16000000 ∧ PageB (mRows z) ∧ (∀ r ∈ mRows z, r.length ≤ 99) ∧ (mRows z).length ≤ 400
def rowOf (rows : List (List Str)) (i : Nat) : List Str := (rows[i]?).getD []
def lexS : List Str → List Str → Bool
  | [], _ => true
  | _ :: _, [] => false
  | x :: xs, y :: ys => if x = y then lexS xs ys else !decide (cp y < cp x)
theorem lexS_refl : ∀ {xs : List Str}, lexS xs xs = true
  | [] => rfl
  | x :: xs => by unfold lexS; rw [if_pos rfl]; exact lexS_refl
def keyLe (a b : Nat × List Str) : Bool := if a.1 = b.1 then lexS a.2 b.2 else decide (a.1 ≤ b.1)
theorem lexP_strs : ∀ {xs ys : List Str}, lexP (xs.map PyData.str) (ys.map PyData.str) = some (lexS xs ys)
  | [], _ => by simp [lexP, lexS]
  | x :: xs, [] => by simp [lexP, lexS]
  | x :: xs, y :: ys => by
    simp only [List.map_cons, lexP, lexP_strs (xs := xs) (ys := ys), leP, Option.bind_some, Option.map_some, PyData.eqv, lexS]
    by_cases e : x = y <;> simp [e]
@[simp] theorem le_key {a b : Nat} {xs ys : List Str} {S : Store} {Q : D → Store → Prop} : opLeP (.tup [.int a, tupS xs]) (.tup [.int b, tupS ys]) S Q = Q (.bl (keyLe (a, xs) (b, ys))) S := by
  have h : leP (.tuple [.int a, .tuple (xs.map PyData.str)]) (.tuple [.int b, .tuple (ys.map PyData.str)]) = some (keyLe (a, xs) (b, ys)) := by
    simp only [leP, lexP, lexP_strs, Option.bind_some, Option.map_some, PyData.eqv, eqvAll_strs, keyLe]
    by_cases e : xs = ys
    · subst e
      simp only [lexS_refl, decide_true, if_true]
      by_cases e2 : (a : Int) = b
      · have : a = b := by omega
        simp [this]
      · have : ¬ a = b := by omega
        have e3 : ((a : Int) == b) = false := by simpa using e2
        simp [this, e3]
    · have e4 : (decide (xs = ys)) = false := by simpa using e
      simp only [e4]
      by_cases e2 : (a : Int) = b
      · have : a = b := by omega
        simp [this]
      · have : ¬ a = b := by omega
        have e3 : ((a : Int) == b) = false := by simpa using e2
        simp [this, e3]
  unfold opLeP
  simp [tupS, h, PyData.depth, PyData.depthAll]
@[simp] theorem le_key1 {a b : Nat} {xs ys : List Str} {S : Store} {Q : D → Store → Prop} : opLeP (.tup [.int ((a : Int) + 1), .tup (xs.map D.str)]) (.tup [.int b, .tup (ys.map D.str)]) S Q = Q (.bl (keyLe (a + 1, xs) (b, ys))) S := le_key (a := a + 1)
def mDueGo (rows : List (List Str)) : Nat → Nat → Option (Nat × List Str) → Option Nat
  | 0, _, _ => none
  | f + 1, i, last => if rows.length ≤ i then none else
    if mLawNum ((rowOf rows i).headD ⟨#[]⟩) 1 = true ∧ lawRow ((rowOf rows i).drop 1) = true ∧ (∀ q, last = some q → keyLe ((rowOf rows i).length, (rowOf rows i).drop 1) q = false) then mDueGo rows f (i + 1) (some ((rowOf rows i).length, (rowOf rows i).drop 1)) else some i
def mDue (rows : List (List Str)) : Option (Nat × Nat) :=
  if (rowOf rows 0).headD ⟨#[]⟩ = ("least" : Str) then
    if 2 ≤ (rowOf rows 0).length ∧ mLawNum ((rowOf rows 0)[1]?.getD ⟨#[]⟩) 0 = true then
      if (rowOf rows 0).length ≤ 2 then
        if 2 ≤ rows.length ∧ (rowOf rows 1).length ≤ 1 ∧ (mNamesIn ((rowOf rows 1).headD ⟨#[]⟩)).isSome = true then
          if 3 ≤ rows.length ∧ mLawOrd (rowOf rows 2) = true then (mDueGo rows (rows.length - 3) 3 none).map fun i => (i, 0)
          else some (2, 0)
        else some (1, 0)
      else some (0, 2)
    else some (0, 1)
  else some (0, 0)
def lastD : Option (Nat × List Str) → D
  | none => .non
  | some (n, r) => .tup [.int n, tupS r]
def dueD : Option (Nat × Nat) → D
  | none => .non
  | some (i, j) => .tup [.int i, .int j]
theorem namesIn_sum {z : Str} {ns : List Str} (h : mNamesIn z = some ns) : (ns.map (·.length)).sum ≤ z.length := by
  unfold mNamesIn at h
  split at h
  · cases h; simp
  · split at h
    · cases h
      have := PyProof.Rows.split_weight z "," (by rw [ln_c]; exact Nat.le_refl _)
      have := List.length_pos_iff.mpr (sp_ne (x := z) (y := ","))
      omega
    · cases h
theorem names_sum {m : List Str} (h : m.all isName = true) : (m.map (·.length)).sum ≤ m.length * 8 := sum_le fun n hn => (name_cps (List.all_eq_true.mp h n hn)).2.1
theorem upc_up {rows : List (List Str)} {i j : Nat} {lo hi n : Int} (h : ((upc rows i j).bind fun z => mNumIn z lo hi) = some n) : ∃ z, upc rows i j = some z ∧ mNumIn z lo hi = some n := by
  cases q : upc rows i j with
  | none => rw [q] at h; cases h
  | some w => rw [q] at h; exact ⟨w, rfl, h⟩
theorem mRead_ok {rows : List (List Str)} {c : Int} {ns : List Str} {ms : List (List Str)} {acc : List (List Str × Int)} (h : mRead rows = .ok (c, ns, ms, acc)) :
    upc rows 0 0 = some ("least" : Str) ∧ (∃ z, upc rows 0 1 = some z ∧ mNumIn z 0 999999999999 = some c) ∧ upc rows 0 2 = none ∧ mNamesIn (Txt.join " " (restOf rows 1 0)) = some ns ∧ mMomentsIn (Txt.join " " (restOf rows 2 0)) = some ms ∧ mGo rows rows.length 3 none [] = .ok acc := by
  unfold mRead at h
  by_cases u0 : upc rows 0 0 = some ("least" : Str)
  · rw [if_pos u0] at h
    cases u1 : (upc rows 0 1).bind fun z => mNumIn z 0 999999999999 with
    | none => rw [u1] at h; cases h
    | some c' =>
      rw [u1] at h
      simp only [] at h
      cases u2 : upc rows 0 2 with
      | some w => rw [u2] at h; cases h
      | none =>
        rw [u2] at h
        simp only [] at h
        cases u3 : mNamesIn (Txt.join " " (restOf rows 1 0)) with
        | none => rw [u3] at h; cases h
        | some ns' =>
          rw [u3] at h
          simp only [] at h
          cases u4 : mMomentsIn (Txt.join " " (restOf rows 2 0)) with
          | none => rw [u4] at h; cases h
          | some ms' =>
            rw [u4] at h
            simp only [] at h
            cases u5 : mGo rows rows.length 3 none [] with
            | error i => rw [u5] at h; cases h
            | ok acc' =>
              rw [u5] at h
              cases h
              exact ⟨u0, upc_up u1, rfl, rfl, rfl, rfl⟩
  · rw [if_neg u0] at h; cases h
def penO (cells : List Int) (b r : Int) : MO := .lst [.lst (cells.map D.int), .int b, .int r]
section
variable {S : Store} {p : Addr} {cells : List Int} {b r : Int} {Q : D → Store → Prop} {QS : Store → Prop} {x : Int}
theorem pen_0 (h : S p = some (penO cells b r)) : opIx (.ref p) (.int 0) S Q = Q (.lst (cells.map D.int)) S := by
  rw [ix_at h]; simp
theorem pen_1 (h : S p = some (penO cells b r)) : opIx (.ref p) (.int 1) S Q = Q (.int b) S := by
  rw [ix_at h]; simp
theorem pen_2 (h : S p = some (penO cells b r)) : opIx (.ref p) (.int 2) S Q = Q (.int r) S := by
  rw [ix_at h]; simp
theorem pen_s1 (h : S p = some (penO cells b r)) : oSetL (.ref p) (.int 1) (.int x) S QS = QS (sup S p (penO cells x r)) := by
  simp [oSetL, h, penO, ixN]
theorem pen_s2 (h : S p = some (penO cells b r)) : oSetL (.ref p) (.int 2) (.int x) S QS = QS (sup S p (penO cells b x)) := by
  simp [oSetL, h, penO, ixN]
@[simp] theorem pen_0s : opIx (.ref p) (.int 0) (sup S p (penO cells b r)) Q = Q (.lst (cells.map D.int)) (sup S p (penO cells b r)) := pen_0 sup_at
@[simp] theorem pen_1s : opIx (.ref p) (.int 1) (sup S p (penO cells b r)) Q = Q (.int b) (sup S p (penO cells b r)) := pen_1 sup_at
@[simp] theorem pen_2s : opIx (.ref p) (.int 2) (sup S p (penO cells b r)) Q = Q (.int r) (sup S p (penO cells b r)) := pen_2 sup_at
@[simp] theorem pen_s1s : oSetL (.ref p) (.int 1) (.int x) (sup S p (penO cells b r)) QS = QS (sup S p (penO cells x r)) := by rw [pen_s1 sup_at, sup_sup]
@[simp] theorem pen_s2s : oSetL (.ref p) (.int 2) (.int x) (sup S p (penO cells b r)) QS = QS (sup S p (penO cells b x)) := by rw [pen_s2 sup_at, sup_sup]
@[simp] theorem eq_i0 {neg : Bool} {q : D → Store → Prop} : opEqP neg (.lst (cells.map D.int)) (.lst []) S q = q (.bl (if neg then !decide (cells = []) else decide (cells = []))) S := by
  cases cells with
  | nil => simp [opEqP, PyData.eqv, PyData.depth, PyData.eqvAll, PyData.depthAll]
  | cons c cs =>
    have h : ∀ l : List Int, pyAll (l.map D.int) = some (l.map PyData.int) := fun l => by
      induction l with
      | nil => simp
      | cons z zs ih => simp [ih]
    have h2 : ∀ l : List Int, PyData.depthAll (l.map PyData.int) = 0 := fun l => by
      induction l with
      | nil => rfl
      | cons z zs ih => simp [PyData.depthAll, PyData.depth, ih]
    simp [opEqP, PyData.eqv, PyData.depth, PyData.eqvAll, PyData.depthAll, h, h2]
end
theorem cmul_l {i j : Int} (h : 0 ≤ i) (h2 : i < 2 ^ 64) : CMul i j := .inl ⟨by omega, h2⟩
theorem cdiv_s {i j : Int} (h : 1 ≤ j) (h2 : j ≤ 100000) : CDivN i j := ⟨by omega, by omega⟩
theorem fmod_in {i j : Int} (h : 1 ≤ j) : 0 ≤ i.fmod j ∧ i.fmod j < j := ⟨Int.fmod_nonneg_of_pos _ (by omega), Int.fmod_lt_of_pos _ (by omega)⟩
theorem fdiv_nn {i j : Int} (hi : 0 ≤ i) (h : 1 ≤ j) : 0 ≤ i.fdiv j := by
  rw [Int.fdiv_eq_ediv_of_nonneg _ (by omega)]
  exact Int.ediv_nonneg hi (by omega)
theorem mix_ok {c b m : Int} (b1 : 0 ≤ b) (b2 : b ≤ 10000) (m1 : 1 ≤ m) {Y : Int → Prop} (h : ∀ k, 0 ≤ k → k < m → Y k) :
    CMul 81173 b ∧ CPow (c.fmod 2147483587 + 81173 * b + 811) 5 ∧ CMul 2 b ∧ CMul (((c.fmod 2147483587 + 81173 * b + 811) ^ 5).fmod 2147483629) (2 * b + 191) ∧ CMul 72167 b ∧ CMul (72167 * b) b ∧
    CPow (((c.fmod 2147483587 + 81173 * b + 811) ^ 5).fmod 2147483629 * (2 * b + 191) + 72167 * b * b + 73) 3 ∧
    CDivN (((((c.fmod 2147483587 + 81173 * b + 811) ^ 5).fmod 2147483629 * (2 * b + 191) + 72167 * b * b + 73) ^ 3).fmod 2147483563) 64 ∧ ¬m = 0 ∧
    Y ((((((((c.fmod 2147483587 + 81173 * b + 811) ^ 5).fmod 2147483629 * (2 * b + 191) + 72167 * b * b + 73) ^ 3).fmod 2147483563).fdiv 64)).fmod m) := by
  have f1 := fmod_in (i := c) (j := 2147483587) (by decide)
  generalize c.fmod 2147483587 = x at f1 ⊢
  have f2 := fmod_in (i := (x + 81173 * b + 811) ^ 5) (j := 2147483629) (by decide)
  refine ⟨cmul_l (by decide) (by decide), ⟨by decide, by decide, by omega⟩, cmul_l (by decide) (by decide), cmul_l f2.1 (by omega), cmul_l (by decide) (by decide), cmul_l (by omega) (by omega), ?_⟩
  generalize ((x + 81173 * b + 811) ^ 5).fmod 2147483629 = y at f2 ⊢
  have g1 : 0 ≤ y * (2 * b + 191) := Int.mul_nonneg f2.1 (by omega)
  have g2 : y * (2 * b + 191) ≤ 2147483629 * 20191 := Int.mul_le_mul (by omega) (by omega) (by omega) (by decide)
  have g3 : 0 ≤ 72167 * b * b := Int.mul_nonneg (by omega) b1
  have g4 : 72167 * b * b ≤ 721670000 * 10000 := Int.mul_le_mul (by omega) b2 b1 (by decide)
  generalize y * (2 * b + 191) = u at g1 g2 ⊢
  generalize 72167 * b * b = v at g3 g4 ⊢
  refine ⟨⟨by decide, by decide, by omega⟩, cdiv_s (by decide) (by decide), by omega, ?_⟩
  exact h _ (fmod_in m1).1 (fmod_in m1).2
def clean (l : Str) : Prop := ∀ c ∈ cp l, c ≠ 10 ∧ c < 128
theorem clean.no {l : Str} (h : clean l) : 10 ∉ cp l := fun hm => (h 10 hm).1 rfl
def LineB (n k : Nat) (z : Str) : Prop := (Txt.split z "\n").length ≤ n ∧ ∀ l ∈ Txt.split z "\n", l.length ≤ k ∧ ∀ c ∈ cp l, c < 128
def lnOk (k : Nat) (l : Str) : Prop := clean l ∧ l.length ≤ k
theorem lines_back {ls : List Str} (h : ls ≠ []) (hl : ∀ l ∈ ls, 10 ∉ cp l) : Txt.split (Txt.join "\n" ls) "\n" = ls := split_back cp_n (by decide) h hl
theorem emp_split : Txt.split Str.empty "\n" = [Str.empty] := by
  have := lines_back (ls := [Str.empty]) (by simp) (by simp [cp, Str.empty])
  rwa [join_one] at this
theorem lineB_join {ls : List Str} {n k : Nat} (h : ∀ l ∈ ls, lnOk k l) (hn : ls.length ≤ n) (h1 : 1 ≤ n) : LineB n k (Txt.join "\n" ls) := by
  by_cases e : ls = []
  · subst e
    rw [join_nil]
    unfold LineB
    rw [emp_split]
    refine ⟨by simpa using h1, fun l hl => ?_⟩
    obtain rfl := List.mem_singleton.mp hl
    exact ⟨Nat.zero_le _, fun c hc => by simp [cp, Str.empty] at hc⟩
  · unfold LineB
    rw [lines_back e fun l hl => (h l hl).1.no]
    exact ⟨hn, fun l hl => ⟨(h l hl).2, fun c hc => ((h l hl).1 c hc).2⟩⟩
theorem join_mid {sep a b : Str} : ∀ {pre post : List Str}, Txt.join sep (pre ++ (a ++ sep ++ b) :: post) = Txt.join sep (pre ++ a :: b :: post)
  | [], [] => by rw [List.nil_append, List.nil_append, join_one, join_cons, join_one]
  | [], q :: post => by
    rw [List.nil_append, List.nil_append, join_cons, join_cons, join_cons]
    exact str_ext (by simp only [cp_app, List.append_assoc])
  | [p], post => by
    have ih := join_mid (sep := sep) (a := a) (b := b) (pre := []) (post := post)
    simp only [List.nil_append, List.cons_append] at ih ⊢
    rw [join_cons, ih]
    exact join_cons.symm
  | p :: q :: pre, post => by
    have ih := join_mid (sep := sep) (a := a) (b := b) (pre := q :: pre) (post := post)
    simp only [List.cons_append] at ih ⊢
    rw [join_cons, ih]
    exact join_cons.symm
theorem LineB.lines {n k : Nat} {z : Str} (h : LineB n k z) : ∀ l ∈ Txt.split z "\n", lnOk k l := fun l hl => ⟨fun c hc => ⟨fun e => split_parts cp_n l hl (e ▸ hc), (h.2 l hl).2 c hc⟩, (h.2 l hl).1⟩
theorem LineB.mono {n k n' k' : Nat} {z : Str} (h : LineB n k z) (h1 : n ≤ n') (h2 : k ≤ k') : LineB n' k' z := ⟨Nat.le_trans h.1 h1, fun l hl => ⟨Nat.le_trans (h.2 l hl).1 h2, (h.2 l hl).2⟩⟩
theorem LineB.pap {n k : Nat} {z : Str} (h : LineB n k z) (hn : n ≤ 400) (hk : k ≤ 98) : PapB z := by
  have hl : ∀ r ∈ mRows z, (r.map (·.length)).sum + r.length ≤ 99 ∧ r.length ≤ 99 := fun r hr => by
    obtain ⟨l, hl, rfl⟩ := List.mem_map.mp hr
    have h1 := PyProof.Rows.split_weight l " " (by rw [ln_s]; exact Nat.le_refl _)
    have h2 := (h.2 l hl).1
    omega
  refine ⟨?_, fun r hr => by have := (hl r hr).1; omega, fun r hr => (hl r hr).2, by unfold mRows; rw [List.length_map]; have := h.1; omega⟩
  have h1 := join_len "\n" (Txt.split z "\n")
  rw [join_back, ln_n] at h1
  have h2 := sum_le (xs := Txt.split z "\n") (f := (·.length)) (B := k) fun l hl => (h.2 l hl).1
  have h3 : (Txt.split z "\n").length * k ≤ 400 * 98 := Nat.mul_le_mul (Nat.le_trans h.1 hn) hk
  have h4 := h.1
  omega
def textRows : List Str := ["1 a b", "2 a p", "7 a q", "1 b a", "3 p q", "1 a b p", "9 a p b", "1 b p a", "999999999999 p q r s"]
def lnOkB (k : Nat) (l : Str) : Bool := l.cps.toList.all (fun c => decide (c ≠ 10 ∧ c < 128)) && decide (l.length ≤ k)
theorem lnOkB_ok {k : Nat} {l : Str} (h : lnOkB k l = true) : lnOk k l := by
  unfold lnOkB at h
  rw [Bool.and_eq_true, decide_eq_true_eq, List.all_eq_true] at h
  exact ⟨fun c hc => of_decide_eq_true (h.1 c hc), h.2⟩
theorem textRows_ok : ∀ l ∈ textRows, lnOk 20 l := by
  have : textRows.all (lnOkB 20) = true := by decide +kernel
  exact fun l hl => lnOkB_ok (List.all_eq_true.mp this l hl)
theorem lnOk_all {k : Nat} {xs : List Str} (h : xs.all (lnOkB k) = true) : ∀ l ∈ xs, lnOk k l := fun l hl => lnOkB_ok (List.all_eq_true.mp h l hl)
theorem mem_strs {zs : List Str} {x : D} (h : x ∈ zs.map D.str) : ∃ z ∈ zs, x = .str z := by
  obtain ⟨z, hz, e⟩ := List.mem_map.mp h
  exact ⟨z, hz, e.symm⟩
def textA : List Str := ["0", "1", "17", "999999999999", "01"]
def textB : List Str := ["-", "p", "a,p,q", "p,a"]
def textC : List Str := ["-", "a", "a,b c", "b a", "a a", "b,a", "a b c d e f g h i"]
theorem textA_ok : ∀ z ∈ textA, lnOk 20 (("least " : Str) ++ z) ∧ z.length ≤ 12 := by
  have h : textA.all (fun z => lnOkB 20 (("least " : Str) ++ z) && decide (z.length ≤ 12)) = true := by decide +kernel
  intro z hz
  have := List.all_eq_true.mp h z hz
  rw [Bool.and_eq_true, decide_eq_true_eq] at this
  exact ⟨lnOkB_ok this.1, this.2⟩
theorem textB_ok : ∀ z ∈ textB, lnOk 20 z := lnOk_all (by decide +kernel)
theorem textC_ok : ∀ z ∈ textC, lnOk 20 z := lnOk_all (by decide +kernel)
theorem ln_least : (("least " : Str)).length = 6 := by decide +kernel
theorem lnOk_sum {k : Nat} {xs : List Str} (h : ∀ l ∈ xs, lnOk k l) : (xs.map (·.length)).sum ≤ xs.length * k := sum_le fun l hl => (h l hl).2
def BentS (p q : Addr) (cells : List Int) (b r : Int) (ls : List Str) (S : Store) : Prop := S p = some (penO cells b r) ∧ S q = some (.lst (ls.map D.str))
theorem BentS.pen {p q : Addr} {cells : List Int} {b r b' r' : Int} {ls : List Str} {S : Store} (h : BentS p q cells b r ls S) (hne : q ≠ p) : BentS p q cells b' r' ls (sup S p (penO cells b' r')) :=
  ⟨sup_at, by unfold sup; simpa [hne] using h.2⟩
theorem BentS.ls {p q : Addr} {cells : List Int} {b r : Int} {ls ls' : List Str} {S : Store} (h : BentS p q cells b r ls S) (hne : q ≠ p) : BentS p q cells b r ls' (sup S q (.lst (ls'.map D.str))) :=
  ⟨by unfold sup; simpa [Ne.symm hne] using h.1, sup_at⟩
def bentOdd : List Str := ["", "a", "b", "p", "0", "-", "+1", "1_0", "3", "a,b", "a,", ",", "least", "zzzzzzzzz"]
theorem bentOdd_ok : ∀ z ∈ bentOdd, lnOk 9 z := lnOk_all (by decide +kernel)
theorem join_mem {sep : Str} {c : Nat} : ∀ {vs : List Str}, c ∈ cp (Txt.join sep vs) ↔ (∃ v ∈ vs, c ∈ cp v) ∨ (2 ≤ vs.length ∧ c ∈ cp sep)
  | [] => by rw [join_nil]; simp [cp, Str.empty]
  | [v] => by rw [join_one]; simp
  | v :: w :: vs => by
    have ih := join_mem (sep := sep) (c := c) (vs := w :: vs)
    rw [join_cons, cp_app, cp_app, List.mem_append, List.mem_append, ih]
    constructor
    · rintro ((h | h) | ⟨u, hu, h⟩ | ⟨_, h⟩)
      · exact .inl ⟨v, List.mem_cons_self, h⟩
      · exact .inr ⟨by simp, h⟩
      · exact .inl ⟨u, List.mem_cons_of_mem _ hu, h⟩
      · exact .inr ⟨by simp, h⟩
    · rintro (⟨u, hu, h⟩ | ⟨_, h⟩)
      · rcases List.mem_cons.mp hu with rfl | hu
        · exact .inl (.inl h)
        · exact .inr (.inl ⟨u, hu, h⟩)
      · exact .inl (.inr h)
theorem split_mem {z sep v : Str} {c : Nat} (hv : v ∈ Txt.split z sep) (hc : c ∈ cp v) : c ∈ cp z := by
  have := (join_mem (sep := sep) (c := c) (vs := Txt.split z sep)).mpr (.inl ⟨v, hv, hc⟩)
  rwa [join_back] at this
/-- a line made of words -/
theorem line_ok {ws : List Str} {k : Nat} (h : ∀ w ∈ ws, clean w) (hs : (ws.map (·.length)).sum + ws.length ≤ k + 1) : lnOk k (Txt.join " " ws) := by
  refine ⟨fun c hm => ?_, ?_⟩
  · rcases join_mem.mp hm with ⟨v, hv, hc⟩ | ⟨_, hc⟩
    · exact h v hv c hc
    · rw [cp_s] at hc
      obtain rfl := List.mem_singleton.mp hc
      decide
  · cases ws with
    | nil => rw [join_nil]; exact Nat.zero_le _
    | cons w ws =>
      have : ∀ {l : List Str}, l ≠ [] → (Txt.join " " l).length + 1 ≤ (l.map (·.length)).sum + l.length := fun {l} hl => by
        induction l with
        | nil => exact absurd rfl hl
        | cons x l ih =>
          cases l with
          | nil => rw [join_one]; simp
          | cons y l =>
            have := ih (by simp)
            rw [join_cons, app_len, app_len, ln_s]
            simp only [List.map_cons, List.sum_cons, List.length_cons] at this ⊢
            omega
      have := this (l := w :: ws) (by simp)
      omega
theorem set_mem {α : Type} {xs : List α} {i : Nat} {v x : α} (h : x ∈ xs.set i v) : x ∈ xs ∨ x = v := by
  rcases List.mem_or_eq_of_mem_set h with q | q
  · exact .inl q
  · exact .inr q
theorem setL_at {S : Store} {q : Addr} {xs : List D} {i : Nat} {v : D} {QS : Store → Prop} (h : S q = some (.lst xs)) (hi : i < xs.length) : oSetL (.ref q) (.int (i : Nat)) v S QS = QS (sup S q (.lst (xs.set i v))) := by
  have e : ixN xs.length (i : Int) = some i := by unfold ixN; rw [if_pos (by omega), if_pos (by omega)]; simp
  simp [oSetL, h, e]
theorem set_strs {ls : List Str} {i : Nat} {l : Str} : (ls.map D.str).set i (.str l) = (ls.set i l).map D.str := by rw [List.map_set]
theorem take_drop_sum {ws : List Str} {i j : Nat} (h : i ≤ j) : ((ws.take i).map (·.length)).sum + ((ws.drop j).map (·.length)).sum ≤ (ws.map (·.length)).sum ∧ (ws.take i).length + (ws.drop j).length ≤ ws.length := by
  have h1 : ((ws.take j).map (·.length)).sum + ((ws.drop j).map (·.length)).sum = (ws.map (·.length)).sum := by
    rw [← List.sum_append_nat, ← List.map_append, List.take_append_drop]
  have h2 : ((ws.take i).map (·.length)).sum ≤ ((ws.take j).map (·.length)).sum := by
    have e : ws.take i = (ws.take j).take i := by rw [List.take_take, Nat.min_eq_left h]
    have := List.take_append_drop i (ws.take j)
    have h3 : (((ws.take j).take i).map (·.length)).sum + (((ws.take j).drop i).map (·.length)).sum = ((ws.take j).map (·.length)).sum := by
      rw [← List.sum_append_nat, ← List.map_append, List.take_append_drop]
    rw [e]; omega
  refine ⟨by omega, ?_⟩
  rw [List.length_take, List.length_drop]; omega
theorem mid_strs {ws : List Str} {i j : Nat} {o : List Str} : strsOf ((ws.map D.str).take i ++ (o.map D.str ++ (ws.map D.str).drop j)) = some (ws.take i ++ (o ++ ws.drop j)) := by
  rw [← List.map_take, ← List.map_drop, ← List.map_append, ← List.map_append]
  exact strs_map
theorem cut_from2 {α : Type} {xs : List α} {i j : Nat} : cutL xs (some ((i : Int) + (j : Int))) none = xs.drop (i + j) := cutL_from (k := i + j)
theorem cut_from1 {α : Type} {xs : List α} {i : Nat} : cutL xs (some ((i : Int) + 1)) none = xs.drop (i + 1) := cutL_from (k := i + 1)
def prevIx (i n : Nat) : Nat := if i = 0 then n - 1 else i - 1
theorem ixN_prev {i n : Nat} (h : i < n) : ixN n ((i : Int) - 1) = some (prevIx i n) := by
  unfold ixN prevIx
  by_cases e : i = 0
  · subst e
    rw [if_neg (by omega), if_pos rfl]
    simp
    omega
  · rw [if_pos (by omega), if_pos (by omega), if_neg e]
    congr 1
    omega
theorem prev_lt {i n : Nat} (h : i < n) : prevIx i n < n := by unfold prevIx; split <;> omega
theorem setL_prev {S : Store} {q : Addr} {xs : List D} {i : Nat} {v : D} {QS : Store → Prop} (h : S q = some (.lst xs)) (hi : i < xs.length) : oSetL (.ref q) (.int ((i : Int) - 1)) v S QS = QS (sup S q (.lst (xs.set (prevIx i xs.length) v))) := by
  simp [oSetL, h, ixN_prev hi]
theorem atI_prev {α : Type} {xs : List α} {i : Nat} (hi : i < xs.length) : atI xs ((i : Int) - 1) = xs[prevIx i xs.length]? := by
  unfold atI
  rw [ixN_prev hi]; rfl
theorem cutS_to {z : Str} {c : Nat} : cutS z none (some (c : Int)) = ⟨((cp z).take c).toArray⟩ := by
  unfold cutS
  have h1 : HT.sIx z.length z.length (some (c : Int)) = min c z.length := HT.sIx_nat z.length z.length c
  have h2 : HT.sIx z.length 0 none = 0 := rfl
  rw [h1, h2]
  congr 1
  congr 1
  by_cases h : c ≤ z.length
  · rw [Nat.min_eq_left h]; simp
  · rw [Nat.min_eq_right (by omega)]
    have : z.cps.toList.length ≤ c := by rw [signs_len]; omega
    simp [List.take_of_length_le this]
    exact List.take_of_length_le (by rw [signs_len]; exact Nat.le_refl _)
theorem cutS_from {z : Str} {c : Nat} : cutS z (some (c : Int)) none = ⟨((cp z).drop c).toArray⟩ := by
  unfold cutS
  have h1 : HT.sIx z.length 0 (some (c : Int)) = min c z.length := HT.sIx_nat z.length 0 c
  have h2 : HT.sIx z.length z.length none = z.length := rfl
  rw [h1, h2]
  congr 1
  congr 1
  by_cases h : c ≤ z.length
  · rw [Nat.min_eq_left h]
    exact List.take_of_length_le (by simp [Str.length])
  · rw [Nat.min_eq_right (by omega)]
    have : z.cps.toList.length ≤ c := by rw [signs_len]; omega
    rw [List.drop_of_length_le this]
    simp
def bentSign : List Str := [" ", "\n", "a", "0", "1", "-", "+", "_", "A", ",", "~"]
theorem bentSign_ok : ∀ z ∈ bentSign, z.length = 1 ∧ (z = ("\n" : Str) ∨ clean z) := by
  have h : bentSign.all (fun z => decide (z.length = 1) && (decide (cp z = [10]) || (cp z).all fun c => decide (c ≠ 10 ∧ c < 128))) = true := by decide +kernel
  intro z hz
  have := List.all_eq_true.mp h z hz
  simp only [Bool.and_eq_true, Bool.or_eq_true, decide_eq_true_eq, List.all_eq_true] at this
  refine ⟨this.1, ?_⟩
  rcases this.2 with e | e
  · exact .inl (str_ext (by rw [e, cp_n]))
  · exact .inr e
/-- a line cut, with a sign put between -/
theorem cut_ok {l A B : Str} {k c d : Nat} (hl : lnOk k l) (hA : A = ⟨((cp l).take c).toArray⟩) (hB : B = ⟨((cp l).drop (c + d)).toArray⟩) : clean A ∧ clean B ∧ A.length + B.length ≤ k := by
  subst hA hB
  refine ⟨fun x hm => hl.1 x (List.mem_of_mem_take (by simpa [cp] using hm)), fun x hm => hl.1 x (List.mem_of_mem_drop (by simpa [cp] using hm)), ?_⟩
  have := hl.2
  rw [← signs_len] at this
  rw [← signs_len, ← signs_len]
  simp [cp] at this ⊢
  omega
theorem set_split {ls : List Str} {i : Nat} {A B : Str} (h : i < ls.length) : Txt.join "\n" (ls.set i (A ++ "\n" ++ B)) = Txt.join "\n" (ls.take i ++ A :: B :: ls.drop (i + 1)) := by
  rw [List.set_eq_take_append_cons_drop, if_pos h]
  exact join_mid
def leastText (cost : Int) (ns : List Str) (ms : List (List Str)) (rows : List (List Str)) (num : List Str → Int) : Str :=
  Txt.join "\n" (((Str.empty ++ ("least " : Str)) ++ (toString cost : Str)) :: locksText ns :: ordText ms :: rows.map fun r => Txt.join " " ((toString (num r) : Str) :: r))
end M
set_option Elab.async false
set_option linter.all false
set_option maxRecDepth 100000
set_option maxHeartbeats 2000000
namespace M
open PySem PySem.Spec L2 DL
theorem LineB.asc {n k : Nat} {z : Str} (h : LineB n k z) : ∀ c ∈ cp z, c < 128 := fun c hc => by
  rw [← join_back (sep := "\n") (z := z)] at hc
  rcases join_mem.mp hc with ⟨v, hv, hc⟩ | ⟨_, hc⟩
  · exact (h.2 v hv).2 c hc
  · rw [cp_n] at hc
    obtain rfl := List.mem_singleton.mp hc
    decide
theorem LineB.len {n k : Nat} {z : Str} (h : LineB n k z) (hn : n ≤ 400) (hk : k ≤ 98) : z.length ≤ 39600 := by
  have h1 := join_len "\n" (Txt.split z "\n")
  rw [join_back, ln_n] at h1
  have h2 := sum_le (xs := Txt.split z "\n") (f := (·.length)) (B := k) fun l hl => (h.2 l hl).1
  have h3 : (Txt.split z "\n").length * k ≤ 400 * 98 := Nat.mul_le_mul (Nat.le_trans h.1 hn) hk
  have h4 := h.1
  omega
theorem shown_text {n k : Nat} {z : Str} (h : LineB n k z) (hn : n ≤ 400) (hk : k ≤ 98) : (PyData.list [.str z]).shown.length ≤ 16777216 := by
  have h1 := h.len hn hk
  have h2 := PyData.shown_le 8 (by decide) (.list [.str z]) (by
    simp only [PyData.leavesShort, PyData.leavesShortAll, Bool.and_true, List.all_eq_true, decide_eq_true_eq]
    intro c hc
    have := h.asc c hc
    omega)
  have h3 : (PyData.list [.str z]).weight ≤ 39700 := by
    simp only [PyData.weight, PyData.weightAll]
    have : z.cps.size = z.length := rfl
    omega
  have h4 : (8 + 2) * (PyData.list [.str z]).weight ≤ 10 * 39700 := Nat.mul_le_mul_left _ h3
  omega
theorem shown_pair {i j : Nat} (hi : i ≤ 400) (hj : j ≤ 400) : (PyData.tuple [.int i, .int j]).shown.length ≤ 16777216 := by
  have hs : ∀ i : Nat, i ≤ 400 → (PyData.shown (.int i)).length ≤ 8 := fun i hi => by
    have := num_len (v := (i : Int)) (by omega) (by omega)
    have h : (PyData.shown (.int (i : Int))) = Str.ofString (toString (i : Int)) := by unfold PyData.shown; rfl
    rw [h]
    exact PyProof.Rows.toString_length_le (by omega) (by decide) (by omega)
  have h2 := PyData.shown_le 8 (by decide) (.tuple [.int i, .int j]) (by
    simp only [PyData.leavesShort, PyData.leavesShortAll, Bool.and_true, Bool.and_eq_true, decide_eq_true_eq]
    exact ⟨hs i hi, hs j hj⟩)
  have h3 : (PyData.tuple [.int i, .int j]).weight ≤ 10000 := by
    have l1 := log_lt (n := i) (by omega)
    have l2 := log_lt (n := j) (by omega)
    simp only [PyData.weight, PyData.weightAll, Int.natAbs_natCast]
    split <;> split <;> omega
  have h4 : (8 + 2) * (PyData.tuple [.int i, .int j]).weight ≤ 10 * 10000 := Nat.mul_le_mul_left _ h3
  omega
theorem dueGo_lt : ∀ {rows : List (List Str)} {f i : Nat} {last : Option (Nat × List Str)} {r : Nat}, mDueGo rows f i last = some r → r < rows.length
  | rows, 0, i, last, r, h => by cases h
  | rows, f + 1, i, last, r, h => by
    unfold mDueGo at h
    split at h
    · cases h
    · split at h
      · exact dueGo_lt h
      · cases h; omega
theorem due_small {z : Str} (h : PapB z) {i j : Nat} (e : mDue (mRows z) = some (i, j)) : i ≤ 400 ∧ j ≤ 400 := by
  have h4 := h.2.2.2
  unfold mDue at e
  repeat' split at e
  all_goals first
    | (cases e; exact ⟨by decide, by decide⟩)
    | (obtain ⟨r, hr, e2⟩ := Option.map_eq_some_iff.mp e
       cases e2
       have := dueGo_lt hr
       exact ⟨by omega, by decide⟩)
theorem lineB_one {k : Nat} {l : Str} (h : lnOk k l) : LineB 1 k l := by
  have := lineB_join (ls := [l]) (n := 1) (k := k) (fun x hx => by obtain rfl := List.mem_singleton.mp hx; exact h) (by simp) (by decide)
  rwa [join_one] at this
theorem least0_ok : lnOk 7 ("least 0" : Str) := lnOkB_ok (by decide +kernel)
theorem range_up {n : Nat} : rangeD 0 n = (List.range n).map fun k => D.int (k : Nat) := by
  unfold rangeD
  exact List.map_congr_left fun k _ => by simp
end M
set_option Elab.async false
set_option linter.all false
set_option maxRecDepth 100000
set_option maxHeartbeats 2000000
namespace M
open PySem PySem.Spec L2 DL
theorem num_agree {w : Str} {lo : Int} (h : 0 ≤ lo) : (mNumIn w lo 999999999999).isSome = mLawNum w lo := by
  unfold mNumIn mLawNum
  by_cases s : signed w = true
  · obtain ⟨cs, hz⟩ := signed_iff.mp s
    have f : figOk w.cps.toList = false := by
      rw [← Bool.not_eq_true, figOk_iff]
      rintro ⟨_, _, h3⟩
      rw [hz] at h3
      have := h3 45 List.mem_cons_self
      omega
    rw [f]
    by_cases g : figOk (figs w).cps.toList = true
    · rw [if_pos g]
      have g2 : figOk cs = true := by
        unfold figs at g
        rw [if_pos s, cut1, hz] at g
        simpa using g
      obtain ⟨_, n0, _, _⟩ := int_minus hz g2
      rw [if_neg]
      · simp
      · rintro ⟨e, l, _⟩
        have e0 : intOf w = 0 := by omega
        rw [e0] at e
        have : cp w = [48] := by rw [← e]; decide +kernel
        rw [show cp w = 45 :: cs from hz] at this
        cases this
    · rw [if_neg g]; simp
  · have fe : figs w = w := by unfold figs; rw [if_neg s]
    rw [fe]
    by_cases g : figOk w.cps.toList = true
    · obtain ⟨_, _, n1, _, _⟩ := int_plain g
      rw [if_pos g, g]
      have : intOf w ≤ 999999999999 := by omega
      by_cases a : (toString (intOf w) : Str) = w
      · by_cases b : lo ≤ intOf w
        · rw [if_pos ⟨a, b, this⟩, decide_eq_true a, decide_eq_true b]; rfl
        · rw [if_neg fun q => b q.2.1]; simp [b]
      · rw [if_neg fun q => a q.1, decide_eq_false a]; simp
    · rw [if_neg g]
      rw [Bool.not_eq_true] at g
      rw [g]; simp
theorem names_space {z : Str} (h : 32 ∈ cp z) : mNamesIn z = none := by
  unfold mNamesIn
  rw [if_neg, if_neg]
  · intro q
    rw [Bool.and_eq_true] at q
    rw [← join_back (sep := ",") (z := z)] at h
    rcases join_mem.mp h with ⟨v, hv, hc⟩ | ⟨_, hc⟩
    · exact name_free (List.all_eq_true.mp q.1 v hv) (by decide) hc
    · rw [cp_c] at hc; simp at hc
  · intro e
    rw [e, cp_d] at h
    simp at h
/-- the line of the locks: one word -/
theorem locks_agree {ws : List Str} (hne : ws ≠ []) : (mNamesIn (Txt.join " " ws)).isSome = (decide (ws.length ≤ 1) && (mNamesIn (ws.headD ⟨#[]⟩)).isSome) := by
  cases ws with
  | nil => exact absurd rfl hne
  | cons w ws =>
    cases ws with
    | nil => rw [join_one]; simp
    | cons v ws =>
      rw [names_space (join_mem.mpr (.inr ⟨by simp, by rw [cp_s]; simp⟩))]
      simp
end M
set_option Elab.async false
set_option linter.all false
set_option maxRecDepth 100000
set_option maxHeartbeats 2000000
namespace M
open PySem PySem.Spec L2 DL
theorem sortU_iff {xs : List Str} : xs = sortU xs ↔ xs.Nodup ∧ xs = sortS xs := by
  constructor
  · intro h
    have n : xs.Nodup := by rw [h]; exact sortU_nodup xs
    refine ⟨n, ?_⟩
    have p : (sortU xs).Perm xs := by rw [← h]
    have q : sortS xs = sortS (sortU xs) := sortS_congr p.symm
    have r : sortS (sortU xs) = sortU xs := sorted_uniq (sortS_pw _) (sortS_pw _) (sortS_perm _)
    rw [q, r]; exact h
  · rintro ⟨n, h⟩
    have p : (plusAll xs).Perm xs := by
      refine (List.perm_ext_iff_of_nodup (plusAll_nodup xs) n).mpr fun a => plusAll_mem
    unfold sortU
    rw [sortS_congr p]; exact h
abbrev pt (w : Str) : List Str := Txt.split w ","
theorem ordGo_iff : ∀ {ws held : List Str}, (lawOrdGo (held) ws = true ↔ (∀ r ∈ ws.flatMap pt, isName r = true ∧ r ∉ held) ∧ (ws.flatMap pt).Nodup ∧ (∀ w ∈ ws, pt w = sortS (pt w)) ∧ held.length + (ws.flatMap pt).length ≤ 8)
  | [], held => by
    unfold lawOrdGo
    simp
    omega
  | w :: ws, held => by
    have ih := ordGo_iff (ws := ws) (held := held ++ pt w)
    unfold lawOrdGo
    by_cases h : ((Txt.split w ",").all (fun r => isName r && !decide (r ∈ held)) && decide (Txt.split w "," = sortU (Txt.split w ","))) = true
    · rw [if_pos h, ih]
      rw [Bool.and_eq_true, decide_eq_true_eq, sortU_iff, List.all_eq_true] at h
      obtain ⟨h1, h2, h3⟩ := h
      have h1' : ∀ r ∈ pt w, isName r = true ∧ r ∉ held := fun r hr => by simpa using h1 r hr
      rw [List.flatMap_cons, List.nodup_append, List.length_append, List.length_append]
      constructor
      · rintro ⟨a, b, c, d⟩
        refine ⟨fun r hr => ?_, ⟨h2, b, fun x hx y hy e => ?_⟩, fun v hv => ?_, by omega⟩
        · rcases List.mem_append.mp hr with hr | hr
          · exact h1' r hr
          · exact ⟨(a r hr).1, fun q => (a r hr).2 (List.mem_append_left _ q)⟩
        · subst e
          exact (a x hy).2 (List.mem_append_right _ hx)
        · rcases List.mem_cons.mp hv with rfl | hv
          · exact h3
          · exact c v hv
      · rintro ⟨a, ⟨_, b, b2⟩, c, d⟩
        refine ⟨fun r hr => ⟨(a r (List.mem_append_right _ hr)).1, fun q => ?_⟩, b, fun v hv => c v (List.mem_cons_of_mem _ hv), by omega⟩
        rcases List.mem_append.mp q with q | q
        · exact (a r (List.mem_append_right _ hr)).2 q
        · exact b2 r q r hr rfl
    · rw [if_neg h]
      refine ⟨fun q => (by cases q), fun q => absurd ?_ h⟩
      obtain ⟨a, b, c, d⟩ := q
      rw [List.flatMap_cons] at a b
      rw [Bool.and_eq_true, decide_eq_true_eq, sortU_iff, List.all_eq_true]
      refine ⟨fun r hr => by simpa using a r (List.mem_append_left _ hr), (List.nodup_append.mp b).1, c w List.mem_cons_self⟩
theorem ord_agree {ws : List Str} (hne : ws ≠ []) (hs : ∀ w ∈ ws, 32 ∉ cp w) : (mMomentsIn (Txt.join " " ws)).isSome = mLawOrd ws := by
  have hsp : Txt.split (Txt.join " " ws) " " = ws := split_back cp_s (by decide) hne hs
  unfold mMomentsIn mLawOrd
  by_cases e : ws = [("-" : Str)]
  · subst e
    rw [join_one]; simp
  · have e2 : ¬ Txt.join " " ws = ("-" : Str) := fun q => by
      rw [q] at hsp
      apply e
      rw [← hsp]
      have := split_back (parts := [("-" : Str)]) cp_s (by decide) (by simp) (fun p hp => by
        obtain rfl := List.mem_singleton.mp hp
        rw [cp_d]; simp)
      rwa [join_one] at this
    rw [if_neg e2, if_neg e]
    have hf : mFlat (Txt.join " " ws) = ws.flatMap pt := by unfold mFlat; rw [hsp]
    have hr : mRoomsOf (Txt.join " " ws) = ws.map pt := by unfold mRoomsOf; rw [hsp]
    have key : mMomentsOk (Txt.join " " ws) = lawOrdGo [] ws := by
      rw [Bool.eq_iff_iff, ordGo_iff]
      unfold mMomentsOk
      rw [hf, hr]
      simp only [Bool.and_eq_true, decide_eq_true_eq, plusAll_len_iff, List.all_eq_true]
      constructor
      · rintro ⟨⟨⟨a, b⟩, c⟩, d⟩
        exact ⟨fun r hr => ⟨a r hr, by simp⟩, c, fun w hw => d _ (List.mem_map.mpr ⟨w, hw, rfl⟩), by simp at b ⊢; omega⟩
      · rintro ⟨a, b, c, d⟩
        refine ⟨⟨⟨fun r hr => (a r hr).1, by simp at d ⊢; omega⟩, b⟩, fun p hp => ?_⟩
        obtain ⟨w, hw, rfl⟩ := List.mem_map.mp hp
        exact c w hw
    rw [key]
    cases lawOrdGo [] ws <;> simp
end M
set_option Elab.async false
set_option linter.all false
set_option maxRecDepth 100000
set_option maxHeartbeats 2000000
namespace M
open PySem PySem.Spec L2 DL
theorem s_nx {a c d : DL.Env → Store → Prop} {b : D → Store → Prop} {ρ : DL.Env} {S : Store} : DEnds.nx (DEnds.mk a b c d) ρ S = a ρ S := propext Iff.rfl
theorem lt_sp : ∀ {a b u v : List Nat}, (∀ c ∈ a, 32 < c) → (∀ c ∈ b, 32 < c) → (a ++ 32 :: u < b ++ 32 :: v ↔ if a = b then u < v else a < b)
  | [], [], u, v, _, _ => by simp [List.cons_lt_cons_iff]
  | [], y :: b, u, v, _, hb => by
    have := hb y List.mem_cons_self
    simp [List.cons_lt_cons_iff, this]
  | x :: a, [], u, v, ha, _ => by
    have := ha x List.mem_cons_self
    simp [List.cons_lt_cons_iff]
    omega
  | x :: a, y :: b, u, v, ha, hb => by
    have ih := lt_sp (u := u) (v := v) (fun c h => ha c (List.mem_cons_of_mem _ h)) (fun c h => hb c (List.mem_cons_of_mem _ h))
    rw [List.cons_append, List.cons_append, List.cons_lt_cons_iff, ih]
    by_cases e : x = y
    · subst e
      by_cases e2 : a = b <;> simp [e2, List.cons_lt_cons_iff]
    · simp [e, List.cons_lt_cons_iff]
theorem lex_join : ∀ {q r : List Str}, (∀ w ∈ q, ∀ c ∈ cp w, 32 < c) → (∀ w ∈ r, ∀ c ∈ cp w, 32 < c) → q.length = r.length → (cp (Txt.join " " q) < cp (Txt.join " " r) ↔ lexS r q = false)
  | [], [], _, _, _ => by rw [join_nil]; simp [lexS]
  | [], _ :: _, _, _, h => by simp at h
  | _ :: _, [], _, _, h => by simp at h
  | [x], [y], _, _, _ => by
    rw [join_one, join_one]
    unfold lexS
    by_cases e : y = x
    · subst e
      rw [if_pos rfl]
      simp [lexS]
    · rw [if_neg e]; simp
  | [x], _ :: _ :: _, _, _, h => by simp at h
  | _ :: _ :: _, [x], _, _, h => by simp at h
  | x :: x2 :: q, y :: y2 :: r, hq, hr, hl => by
    have ih := lex_join (q := x2 :: q) (r := y2 :: r) (fun w h => hq w (List.mem_cons_of_mem _ h)) (fun w h => hr w (List.mem_cons_of_mem _ h)) (by simpa using hl)
    rw [join_cons, join_cons, cp_app, cp_app, cp_app, cp_app, cp_s, List.append_assoc, List.append_assoc, List.singleton_append, List.singleton_append,
      lt_sp (hq x List.mem_cons_self) (hr y List.mem_cons_self), ih]
    conv => rhs; unfold lexS
    by_cases e : y = x
    · subst e
      rw [if_pos rfl, if_pos rfl]
    · rw [if_neg e, if_neg fun q => e (str_ext q.symm)]
      simp
theorem pad_gt : ∀ m : Nat, m < 100 → ∀ c ∈ cp (pad2 (m : Int)), 32 < c := by decide +kernel
theorem pad_lt : ∀ m : Nat, m < 100 → ∀ n : Nat, n < 100 → (cp (pad2 (m : Int)) = cp (pad2 (n : Int)) ↔ m = n) ∧ (cp (pad2 (m : Int)) < cp (pad2 (n : Int)) ↔ m < n) := by decide +kernel
theorem row_gt {r : List Str} (h : RowOk r) : ∀ w ∈ r, ∀ c ∈ cp w, 32 < c := fun w hw c hc => by
  have := (name_cps ((isRow_iff.mp h.1).2.1 w hw)).2.2 c hc
  omega
theorem rowText_cp {r : List Str} : cp (rowText r) = cp (pad2 (r.length : Int)) ++ 32 :: cp (Txt.join " " r) := by
  unfold rowText
  rw [cp_app, cp_app, emp_app, cp_s, List.append_assoc, List.singleton_append]
theorem ltT_key {q r : List Str} (hq : RowOk q) (hr : RowOk r) : ltT q r ↔ keyLe (r.length + 1, r) (q.length + 1, q) = false := by
  obtain ⟨p1, p2⟩ := pad_lt q.length hq.2 r.length hr.2
  unfold ltT keyLe
  rw [rowText_cp, rowText_cp, lt_sp (pad_gt _ hq.2) (pad_gt _ hr.2)]
  simp only [p1, p2]
  by_cases e : q.length = r.length
  · rw [if_pos e, if_pos (by omega), lex_join (row_gt hq) (row_gt hr) e]
  · rw [if_neg e, if_neg (by omega), decide_eq_false_iff_not]
    omega
theorem upc_zero {rows : List (List Str)} {i : Nat} {x : Str} {xs : List Str} (h : rows[i]? = some (x :: xs)) : upc rows i 0 = some x := by unfold upc; rw [h]; rfl
theorem rest_one {rows : List (List Str)} {i : Nat} {x : Str} {xs : List Str} (h : rows[i]? = some (x :: xs)) : restOf rows i 1 = xs := by unfold restOf; rw [h]; rfl
theorem rowOf_at {rows : List (List Str)} {i : Nat} {r : List Str} (h : rows[i]? = some r) : rowOf rows i = r := by unfold rowOf; rw [h]; rfl
def lineOf (p : List Str × Int) : List Str := (toString p.2 : Str) :: p.1
theorem go_agree {rows : List (List Str)} (hne : ∀ r ∈ rows, r ≠ []) (hb : PageB rows) (h99 : ∀ r ∈ rows, r.length ≤ 99) : ∀ (f i : Nat) (ah : Option (List Str)) (acc : List (List Str × Int)), AccOk acc ah → rows.length ≤ i + f →
    match mGo rows f i ah acc with
    | .error k => mDueGo rows (rows.length - i) i (ah.map fun r => (r.length + 1, r)) = some k
    | .ok acc' => mDueGo rows (rows.length - i) i (ah.map fun r => (r.length + 1, r)) = none ∧ AccOk acc' ((acc'.map Prod.fst).getLast?) ∧ acc'.map lineOf = acc.map lineOf ++ rows.drop i
  | 0, i, ah, acc, ha, hf => by
    unfold mGo
    simp only []
    have e : rows.length - i = 0 := by omega
    rw [e]
    refine ⟨rfl, ?_, ?_⟩
    · rw [← ha.last]; exact ha
    · rw [List.drop_of_length_le (by omega), List.append_nil]
  | f + 1, i, ah, acc, ha, hf => by
    by_cases hi : rows.length ≤ i
    · unfold mGo
      rw [if_pos hi]
      simp only []
      have e : rows.length - i = 0 := by omega
      rw [e]
      refine ⟨rfl, ?_, ?_⟩
      · rw [← ha.last]; exact ha
      · rw [List.drop_of_length_le (by omega), List.append_nil]
    · obtain ⟨r, hr⟩ : ∃ r, rows[i]? = some r := ⟨rows[i], List.getElem?_eq_getElem (by omega)⟩
      have hm : r ∈ rows := List.mem_of_getElem? hr
      obtain ⟨x, xs, rfl⟩ := List.exists_cons_of_ne_nil (hne r hm)
      obtain ⟨g, hg⟩ : ∃ g, rows.length - i = g + 1 := ⟨rows.length - i - 1, by omega⟩
      have hg2 : rows.length - (i + 1) = g := by omega
      have h1 := h99 _ hm
      simp only [List.length_cons] at h1
      have h2 := hb _ hm
      simp only [List.map_cons, List.sum_cons, List.length_cons] at h2
      have hdrop : rows.drop i = (x :: xs) :: rows.drop (i + 1) := by
        rw [List.getElem?_eq_some_iff] at hr
        obtain ⟨hlt, he⟩ := hr
        rw [List.drop_eq_getElem_cons hlt, he]
      unfold mGo
      rw [if_neg hi, upc_zero hr, rest_one hr, hg, Option.bind_some]
      unfold mDueGo
      rw [if_neg hi, rowOf_at hr, List.headD_cons, List.drop_one, List.tail_cons, List.length_cons]
      have hn := num_agree (w := x) (lo := 1) (by decide)
      cases hx : mNumIn x 1 999999999999 with
      | none =>
        rw [hx] at hn
        simp only []
        rw [if_neg]
        rintro ⟨a, _, _⟩
        rw [← hn] at a
        cases a
      | some n =>
        rw [hx] at hn
        have n1 := mNum_in hx
        have hlr := lawRow_eq (r := xs)
        simp only []
        by_cases ok : isRow xs = true ∧ rowBad xs ah = false
        · have hro : RowOk xs := ⟨ok.1, by omega⟩
          have hac := ha.snoc (n := n) hro ⟨by omega, by omega⟩ n1.1 n1.2.1 ok.2
          have ih := go_agree hne hb h99 f (i + 1) (some xs) _ hac (by omega)
          rw [hg2] at ih
          rw [if_pos ok]
          have hk : ∀ q, (ah.map fun r => (r.length + 1, r)) = some q → keyLe (xs.length + 1, xs) q = false := fun q hq => by
            cases ah with
            | none => cases hq
            | some a =>
              cases hq
              exact (ltT_key (ha.ahead rfl).1 hro).mp ((rowBad_some hro (ha.ahead rfl).1).mp ok.2)
          rw [if_pos ⟨hn.symm, by rw [hlr]; exact ok.1, hk⟩]
          rw [Option.map_some] at ih
          generalize mGo rows f (i + 1) (some xs) (acc ++ [(xs, n)]) = G at ih ⊢
          cases G with
          | error k => exact ih
          | ok acc' =>
            refine ⟨ih.1, ih.2.1, ?_⟩
            have := ih.2.2
            have e2 : List.map lineOf [(xs, n)] = [x :: xs] := by
              unfold lineOf
              rw [List.map_cons, List.map_nil, n1.2.2]
            rw [this, hdrop, List.map_append, List.append_assoc, e2]
            try rfl
        · rw [if_neg ok, if_neg]
          rintro ⟨_, a, b⟩
          rw [hlr] at a
          have hro : RowOk xs := ⟨a, by omega⟩
          refine ok ⟨a, ?_⟩
          cases ah with
          | none => rfl
          | some q => exact (rowBad_some hro (ha.ahead rfl).1).mpr ((ltT_key (ha.ahead rfl).1 hro).mpr (b _ rfl))
theorem locks_back {z : Str} {ns : List Str} (h : mNamesIn z = some ns) : locksText ns = z := by
  unfold mNamesIn at h
  unfold locksText
  split at h
  · rename_i e
    cases h
    rw [if_pos rfl, e]
  · split at h
    · cases h
      rw [if_neg sp_ne, join_back]
    · cases h
theorem ord_back {z : Str} {ms : List (List Str)} (h : mMomentsIn z = some ms) : ordText ms = z := by
  unfold mMomentsIn at h
  unfold ordText
  split at h
  · rename_i e
    cases h
    rw [if_pos rfl, e]
  · split at h
    · cases h
      unfold mRoomsOf
      rw [if_neg (by simpa using sp_ne), List.map_map]
      have : ((fun m => Txt.join "," m) ∘ fun w => Txt.split w ",") = id := funext fun w => join_back
      rw [this, List.map_id, join_back]
    · cases h
theorem rows_back {z : Str} : Txt.join "\n" ((mRows z).map fun r => Txt.join " " r) = z := by
  unfold mRows
  rw [List.map_map]
  have : ((fun r => Txt.join " " r) ∘ fun l => Txt.split l " ") = id := funext fun w => join_back
  rw [this, List.map_id, join_back]
theorem names_emp : mNamesIn Str.empty = none := by decide +kernel
theorem moments_emp : mMomentsIn Str.empty = none := by decide +kernel
theorem least_app {w : Str} : (Str.empty ++ ("least " : Str)) ++ w = Txt.join " " [("least" : Str), w] := by
  rw [join_cons, join_one, emp_app]
  refine str_ext ?_
  rw [cp_app, cp_app, cp_app]
  have : cp ("least " : Str) = cp ("least" : Str) ++ cp (" " : Str) := by decide +kernel
  rw [this]
theorem agree_rows {rows : List (List Str)} (h0 : rows ≠ []) (hne : ∀ r ∈ rows, r ≠ []) (hs : ∀ r ∈ rows, ∀ w ∈ r, 32 ∉ cp w) (hb : PageB rows) (h99 : ∀ r ∈ rows, r.length ≤ 99) : match mRead rows with
    | .ok (c, ns, ms, acc) => mDue rows = none ∧ (AccOk acc ((acc.map Prod.fst).getLast?) ∧ leastText c ns ms (acc.map Prod.fst) (numOf acc) = Txt.join "\n" (rows.map fun r => Txt.join " " r))
    | .error (i, j) => mDue rows = some (i, j) := by
  obtain ⟨r0, rs, rfl⟩ := List.exists_cons_of_ne_nil h0
  obtain ⟨w0, ws, rfl⟩ := List.exists_cons_of_ne_nil (hne r0 List.mem_cons_self)
  unfold mRead mDue
  rw [show upc ((w0 :: ws) :: rs) 0 0 = some w0 from rfl, show rowOf ((w0 :: ws) :: rs) 0 = w0 :: ws from rfl, List.headD_cons]
  by_cases e0 : w0 = ("least" : Str)
  · rw [if_pos (congrArg some e0), if_pos e0]
    cases ws with
    | nil =>
      rw [show upc ([w0] :: rs) 0 1 = none from rfl, if_neg (by simp)]
      rfl
    | cons w1 ws =>
      rw [show upc ((w0 :: w1 :: ws) :: rs) 0 1 = some w1 from rfl, Option.bind_some]
      have hn := num_agree (w := w1) (lo := 0) (by decide)
      cases hx : mNumIn w1 0 999999999999 with
      | none =>
        rw [hx] at hn
        simp only []
        rw [if_neg]
        rintro ⟨_, a⟩
        rw [show (w0 :: w1 :: ws)[1]?.getD ⟨#[]⟩ = w1 from rfl, ← hn] at a
        cases a
      | some c =>
        rw [hx] at hn
        have n1 := mNum_in hx
        simp only []
        rw [if_pos ⟨by simp only [List.length_cons]; omega, hn.symm⟩]
        cases ws with
        | cons w2 ws =>
          rw [show upc ((w0 :: w1 :: w2 :: ws) :: rs) 0 2 = some w2 from rfl, if_neg (by simp only [List.length_cons]; omega)]
        | nil =>
          rw [show upc ([w0, w1] :: rs) 0 2 = none from rfl, if_pos (by simp)]
          cases rs with
          | nil =>
            rw [show restOf [[w0, w1]] 1 0 = [] from rfl, join_nil, names_emp, if_neg (by simp)]
          | cons r1 rs =>
            rw [show restOf ([w0, w1] :: r1 :: rs) 1 0 = r1 from rfl, show rowOf ([w0, w1] :: r1 :: rs) 1 = r1 from rfl]
            have hr1 := hne r1 (by simp)
            have hl := locks_agree hr1
            cases hy : mNamesIn (Txt.join " " r1) with
            | none =>
              rw [hy] at hl
              simp only []
              rw [if_neg]
              rintro ⟨_, a, b⟩
              rw [b, decide_eq_true a] at hl
              cases hl
            | some ns =>
              rw [hy] at hl
              have hl2 := Bool.and_eq_true_iff.mp hl.symm
              simp only []
              rw [if_pos ⟨by simp only [List.length_cons]; omega, of_decide_eq_true hl2.1, hl2.2⟩]
              cases rs with
              | nil =>
                rw [show restOf [[w0, w1], r1] 2 0 = [] from rfl, join_nil, moments_emp, if_neg (by simp)]
              | cons r2 rs =>
                rw [show restOf ([w0, w1] :: r1 :: r2 :: rs) 2 0 = r2 from rfl, show rowOf ([w0, w1] :: r1 :: r2 :: rs) 2 = r2 from rfl]
                have hr2 := hne r2 (by simp)
                have ho := ord_agree hr2 (hs r2 (by simp))
                cases hw : mMomentsIn (Txt.join " " r2) with
                | none =>
                  rw [hw] at ho
                  simp only []
                  rw [if_neg]
                  rintro ⟨_, a⟩
                  rw [a] at ho
                  cases ho
                | some ms =>
                  rw [hw] at ho
                  simp only []
                  rw [if_pos ⟨by simp only [List.length_cons]; omega, ho.symm⟩]
                  have hg := go_agree hne hb h99 ([w0, w1] :: r1 :: r2 :: rs).length 3 none [] AccOk.nil (by omega)
                  rw [Option.map_none] at hg
                  generalize mGo ([w0, w1] :: r1 :: r2 :: rs) ([w0, w1] :: r1 :: r2 :: rs).length 3 none [] = G at hg ⊢
                  cases G with
                  | error k =>
                    simp only at hg ⊢
                    rw [hg]; rfl
                  | ok acc =>
                    simp only at hg ⊢
                    obtain ⟨g1, g2, g3⟩ := hg
                    refine ⟨by rw [g1]; rfl, g2, ?_⟩
                    have g4 : acc.map lineOf = rs := g3
                    unfold leastText
                    rw [locks_back hy, ord_back hw, n1.2.2, least_app, e0, List.map_cons, List.map_cons, List.map_cons, ← g4, List.map_map, List.map_map]
                    congr 4
                    refine List.map_congr_left fun p hp => ?_
                    simp only [Function.comp_apply, lineOf]
                    rw [numOf_mem g2.nodup hp]
  · rw [if_neg (fun q => e0 (Option.some.inj q)), if_neg e0]
theorem agree {z : Str} (h : PapB z) : match mRead (mRows z) with
    | .ok (c, ns, ms, acc) => mDue (mRows z) = none ∧ (AccOk acc ((acc.map Prod.fst).getLast?) ∧ leastText c ns ms (acc.map Prod.fst) (numOf acc) = z)
    | .error (i, j) => mDue (mRows z) = some (i, j) := by
  have hne : ∀ r ∈ mRows z, r ≠ [] := fun r hr => by
    obtain ⟨l, _, rfl⟩ := List.mem_map.mp hr
    exact sp_ne
  have hs : ∀ r ∈ mRows z, ∀ w ∈ r, 32 ∉ cp w := fun r hr w hw => by
    obtain ⟨l, _, rfl⟩ := List.mem_map.mp hr
    exact split_parts cp_s w hw
  have := agree_rows (by unfold mRows; simpa using sp_ne) hne hs h.2.1 h.2.2.1
  rwa [rows_back] at this
end M
set_option Elab.async false
set_option linter.all false
set_option maxRecDepth 100000
set_option maxHeartbeats 4000000
namespace G
open PySem PySem.Spec L2 DL
open He (ga ma)
structure Fc (P : Program) (w : World) (K : PySem.W.Frag) (mg : Str → Option Value) (base : Heap) : Prop where
  f_list : mg "list" = none
  f_int : mg "int" = none
  f_len : mg "len" = none
  f_abs : mg "abs" = none
  k__law_draw : PySem.W.keepIn K (.ref (ga K "_law_draw")) = true
  g__law_draw : mg "_law_draw" = some (.ref (ga K "_law_draw"))
  k__law_pick : PySem.W.keepIn K (.ref (ga K "_law_pick")) = true
  g__law_pick : mg "_law_pick" = some (.ref (ga K "_law_pick"))
  f_str : mg "str" = none
  f_sorted : mg "sorted" = none
  f_set : mg "set" = none
  k__law_is_name : PySem.W.keepIn K (.ref (ga K "_law_is_name")) = true
  g__law_is_name : mg "_law_is_name" = some (.ref (ga K "_law_is_name"))
  k__law_is_number : PySem.W.keepIn K (.ref (ga K "_law_is_number")) = true
  g__law_is_number : mg "_law_is_number" = some (.ref (ga K "_law_is_number"))
  k__law_are_locks : PySem.W.keepIn K (.ref (ga K "_law_are_locks")) = true
  g__law_are_locks : mg "_law_are_locks" = some (.ref (ga K "_law_are_locks"))
  k__law_is_order : PySem.W.keepIn K (.ref (ga K "_law_is_order")) = true
  g__law_is_order : mg "_law_is_order" = some (.ref (ga K "_law_is_order"))
  f_range : mg "range" = none
  f_tuple : mg "tuple" = none
  k__law_is_row : PySem.W.keepIn K (.ref (ga K "_law_is_row")) = true
  g__law_is_row : mg "_law_is_row" = some (.ref (ga K "_law_is_row"))
  b_bool : IsA K (.type "bool") (HX.gB K "bool" [] [])
  f_isinstance : mg "isinstance" = none
  f_bool : mg "bool" = none
  b_int : IsA K (.type "int") (HX.gB K "int" [] [])
  i_MOST_NUMBER : ∃ t, mg "MOST_NUMBER" = some (.int (999999999999) t)
  k_is_int : PySem.W.keepIn K (.ref (ga K "is_int")) = true
  g_is_int : mg "is_int" = some (.ref (ga K "is_int"))
  f_iter : mg "iter" = none
  c_Rounds : Cls K (ga K "Rounds")
  n_Rounds_own_rows : NoAttr K (ga K "Rounds") "own_rows"
  b_str : IsA K (.type "str") (HX.gB K "str" [("Locks", false), ("Order", false)] [])
  i_MOST_LETTERS : ∃ t, mg "MOST_LETTERS" = some (.int (8) t)
  f_all : mg "all" = none
  s_LETTERS : ∃ t, mg "LETTERS" = some (.str "abcdefghijklmnopqrstuvwxyz" t)
  b_tuple : IsA K (.type "tuple") (HX.gB K "tuple" [] [])
  i_FEWEST : ∃ t, mg "FEWEST" = some (.int (2) t)
  k_is_name : PySem.W.keepIn K (.ref (ga K "is_name")) = true
  g_is_name : mg "is_name" = some (.ref (ga K "is_name"))
  f_any : mg "any" = none
  f_enumerate : mg "enumerate" = none
  k_is_row : PySem.W.keepIn K (.ref (ga K "is_row")) = true
  g_is_row : mg "is_row" = some (.ref (ga K "is_row"))
  x_BadRounds : ErrC P w K mg base (ga K "BadRounds") ["part"]
  g_BadRounds : mg "BadRounds" = some (.ref (ga K "BadRounds"))
  n_Rounds_own_parts : NoAttr K (ga K "Rounds") "own_parts"
  a_Least : IsA K (.ref (ga K "Least")) (HX.gT K [("Least", true)] [])
  g_Least : mg "Least" = some (.ref (ga K "Least"))
  k_is_short : PySem.W.keepIn K (.ref (ga K "is_short")) = true
  g_is_short : mg "is_short" = some (.ref (ga K "is_short"))
  c_Least : Cls K (ga K "Least")
  n_Least_cost : NoAttr K (ga K "Least") "cost"
  a_Locks : IsA K (.ref (ga K "Locks")) (HX.gT K [("Locks", true), ("Order", false)] [])
  g_Locks : mg "Locks" = some (.ref (ga K "Locks"))
  n_Least_locks : NoAttr K (ga K "Least") "locks"
  a_Order : IsA K (.ref (ga K "Order")) (HX.gT K [("Order", true)] [])
  g_Order : mg "Order" = some (.ref (ga K "Order"))
  n_Least_order : NoAttr K (ga K "Least") "order"
  a_Rounds : IsA K (.ref (ga K "Rounds")) (HX.gT K [("Rounds", true)] [])
  g_Rounds : mg "Rounds" = some (.ref (ga K "Rounds"))
  n_Least_rounds : NoAttr K (ga K "Least") "rounds"
  d_Rounds___iter__ : Dun K (ga K "Rounds") "__iter__" (ma K (ga K "Rounds") "__iter__")
  d_Rounds___getitem__ : Dun K (ga K "Rounds") "__getitem__" (ma K (ga K "Rounds") "__getitem__")
  c_Order : Cls K (ga K "Order")
  n_Order_own_moments : NoAttr K (ga K "Order") "own_moments"
  c_Locks : Cls K (ga K "Locks")
  n_Locks_own_names : NoAttr K (ga K "Locks") "own_names"
  k_is_plain : PySem.W.keepIn K (.ref (ga K "is_plain")) = true
  g_is_plain : mg "is_plain" = some (.ref (ga K "is_plain"))
  x_BadHouse : ErrC P w K mg base (ga K "BadHouse") ["part"]
  g_BadHouse : mg "BadHouse" = some (.ref (ga K "BadHouse"))
  d_Order___str__ : Dun K (ga K "Order") "__str__" (ma K (ga K "Order") "__str__")
  d_Locks___str__ : Dun K (ga K "Locks") "__str__" (ma K (ga K "Locks") "__str__")
  x_BadText : ErrC P w K mg base (ga K "BadText") ["line", "word"]
  g_BadText : mg "BadText" = some (.ref (ga K "BadText"))
  c_Page : Cls K (ga K "Page")
  n_Page_rows : NoAttr K (ga K "Page") "rows"
  n_Page_at : NoAttr K (ga K "Page") "at"
  n_Page_spot : NoAttr K (ga K "Page") "spot"
  e_Page_is_over : Meth K (ga K "Page") "is_over" (ma K (ga K "Page") "is_over")
  e_Page_upcoming : Meth K (ga K "Page") "upcoming" (ma K (ga K "Page") "upcoming")
  e_Page_refuse : Meth K (ga K "Page") "refuse" (ma K (ga K "Page") "refuse")
  e_Page_skip : Meth K (ga K "Page") "skip" (ma K (ga K "Page") "skip")
  e_Page_take : Meth K (ga K "Page") "take" (ma K (ga K "Page") "take")
  i_MOST_FIGURES : ∃ t, mg "MOST_FIGURES" = some (.int (12) t)
  s_FIGURES : ∃ t, mg "FIGURES" = some (.str "0123456789" t)
  k_number_in : PySem.W.keepIn K (.ref (ga K "number_in")) = true
  g_number_in : mg "number_in" = some (.ref (ga K "number_in"))
  s_NONE_locks : ∃ t, mg "NONE_locks" = some (.str "-" t)
  s_COMMA : ∃ t, mg "COMMA" = some (.str "," t)
  x_BadLocks : ErrC P w K mg base (ga K "BadLocks") ["part"]
  g_BadLocks : mg "BadLocks" = some (.ref (ga K "BadLocks"))
  k_names_in : PySem.W.keepIn K (.ref (ga K "names_in")) = true
  g_names_in : mg "names_in" = some (.ref (ga K "names_in"))
  m_Locks : Mk K (ga K "Locks") (ma K (ga K "Locks") "__init__")
  k_Locks : PySem.W.keepIn K (.ref (ga K "Locks")) = true
  e_Page_rest : Meth K (ga K "Page") "rest" (ma K (ga K "Page") "rest")
  an_BadText : AnsX K (.ref (ga K "BadText")) (HX.aT K [("BadText", true), ("BadHouse", false)])
  r_Locks : ClX.CRead K (ga K "Locks") (HX.mcl K "Locks")
  cm_Locks_read : ∃ pp, ClX.CMet K (ga K "Locks") (HX.mcl K "Locks") "read" pp (HX.ca K (ga K "Locks") "read")
  e_Page_go_on : Meth K (ga K "Page") "go_on" (ma K (ga K "Page") "go_on")
  s_NONE_orders : ∃ t, mg "NONE_orders" = some (.str "-" t)
  i_MOST_ROOMS : ∃ t, mg "MOST_ROOMS" = some (.int (8) t)
  x_BadOrder : ErrC P w K mg base (ga K "BadOrder") ["part"]
  g_BadOrder : mg "BadOrder" = some (.ref (ga K "BadOrder"))
  k_rooms_of_part : PySem.W.keepIn K (.ref (ga K "rooms_of_part")) = true
  g_rooms_of_part : mg "rooms_of_part" = some (.ref (ga K "rooms_of_part"))
  x_Unlike : ErrC P w K mg base (ga K "Unlike") ["part"]
  g_Unlike : mg "Unlike" = some (.ref (ga K "Unlike"))
  x_TooMany : ErrC P w K mg base (ga K "TooMany") ["what", "most"]
  g_TooMany : mg "TooMany" = some (.ref (ga K "TooMany"))
  n_Order_own_places : NoAttr K (ga K "Order") "own_places"
  k_moments_in : PySem.W.keepIn K (.ref (ga K "moments_in")) = true
  g_moments_in : mg "moments_in" = some (.ref (ga K "moments_in"))
  m_Order : Mk K (ga K "Order") (ma K (ga K "Order") "__init__")
  k_Order : PySem.W.keepIn K (.ref (ga K "Order")) = true
  r_Order : ClX.CRead K (ga K "Order") (HX.mcl K "Order")
  cm_Order_read : ∃ pp, ClX.CMet K (ga K "Order") (HX.mcl K "Order") "read" pp (HX.ca K (ga K "Order") "read")
  e_Page_take_number : Meth K (ga K "Page") "take_number" (ma K (ga K "Page") "take_number")
  k_in_order : PySem.W.keepIn K (.ref (ga K "in_order")) = true
  g_in_order : mg "in_order" = some (.ref (ga K "in_order"))
  b_dict : IsA K (.type "dict") (HX.gB K "dict" [] [])
  f_dict : mg "dict" = none
  m_Page : Mk K (ga K "Page") (ma K (ga K "Page") "__init__")
  k_Page : PySem.W.keepIn K (.ref (ga K "Page")) = true
  g_Page : mg "Page" = some (.ref (ga K "Page"))
  e_Page_take_of : Meth K (ga K "Page") "take_of" (ma K (ga K "Page") "take_of")
  k_locks_in : PySem.W.keepIn K (.ref (ga K "locks_in")) = true
  g_locks_in : mg "locks_in" = some (.ref (ga K "locks_in"))
  k_order_in : PySem.W.keepIn K (.ref (ga K "order_in")) = true
  g_order_in : mg "order_in" = some (.ref (ga K "order_in"))
  k_row_in : PySem.W.keepIn K (.ref (ga K "row_in")) = true
  g_row_in : mg "row_in" = some (.ref (ga K "row_in"))
  m_Least : Mk K (ga K "Least") (ma K (ga K "Least") "__init__")
  q_Least___init__ : ma K (ga K "Least") "__init__" = ma K (ga K "Priced") "__init__"
  k_Least : PySem.W.keepIn K (.ref (ga K "Least")) = true
  m_Rounds : Mk K (ga K "Rounds") (ma K (ga K "Rounds") "__init__")
  k_Rounds : PySem.W.keepIn K (.ref (ga K "Rounds")) = true
  an_HouseError : AnsX K (.ref (ga K "HouseError")) (HX.aT K [("BadText", true), ("BadHouse", true)])
  g_HouseError : mg "HouseError" = some (.ref (ga K "HouseError"))
  k_least_text : PySem.W.keepIn K (.ref (ga K "least_text")) = true
  g_least_text : mg "least_text" = some (.ref (ga K "least_text"))
  k_read_least : PySem.W.keepIn K (.ref (ga K "read_least")) = true
  g_read_least : mg "read_least" = some (.ref (ga K "read_least"))
  a_BadText : IsA K (.ref (ga K "BadText")) (HX.gT K [] [("BadText", true), ("BadHouse", false)])
  a_BadInput : IsA K (.ref (ga K "BadInput")) (HX.gT K [] [("BadText", true), ("BadHouse", true)])
  g_BadInput : mg "BadInput" = some (.ref (ga K "BadInput"))
  x_word : ∀ C ∈ [ga K "BadText"], XfC K C ∧ PySem.W.findIn K (.ref C) "word" = some none
  x_line : ∀ C ∈ [ga K "BadText"], XfC K C ∧ PySem.W.findIn K (.ref C) "line" = some none
  k__law_due : PySem.W.keepIn K (.ref (ga K "_law_due")) = true
  g__law_due : mg "_law_due" = some (.ref (ga K "_law_due"))
  f_repr : mg "repr" = none
  k__law_heard : PySem.W.keepIn K (.ref (ga K "_law_heard")) = true
  g__law_heard : mg "_law_heard" = some (.ref (ga K "_law_heard"))
  k__law_pen : PySem.W.keepIn K (.ref (ga K "_law_pen")) = true
  g__law_pen : mg "_law_pen" = some (.ref (ga K "_law_pen"))
  k__law_text : PySem.W.keepIn K (.ref (ga K "_law_text")) = true
  g__law_text : mg "_law_text" = some (.ref (ga K "_law_text"))
  k__law_right : PySem.W.keepIn K (.ref (ga K "_law_right")) = true
  g__law_right : mg "_law_right" = some (.ref (ga K "_law_right"))
  k__law_bent : PySem.W.keepIn K (.ref (ga K "_law_bent")) = true
  g__law_bent : mg "_law_bent" = some (.ref (ga K "_law_bent"))
  sm_Locks_none : ∃ pp, SMet K (ga K "Locks") (HX.mcl K "Locks") "none" pp (HX.sa K (ga K "Locks") "none")
end G
set_option Elab.async false
set_option linter.all false
set_option maxRecDepth 100000
set_option maxHeartbeats 4000000
namespace G
open PySem PySem.Spec L2 DL M
open He (ga ma)
def sp__law_pen (K : PySem.W.Frag) : DSp := fun ds S Q ε => match ds with
  | [.scr ns] => (∀ p, S p = none → Q (.ref p) (sup S p (penO (ns.take 63) 0 0)))
  | _ => False
def sp__law_draw (K : PySem.W.Frag) : DSp := fun ds S Q ε => match ds with
  | [.ref p, .int m] => ∃ (cells : List Int) (b r : Int), S p = some (penO cells b r) ∧ 1 ≤ m ∧ m ≤ 100000 ∧ 0 ≤ b ∧ b ≤ 10000 ∧ 0 ≤ r ∧ (∀ k b' r', 0 ≤ k → k < m → 0 ≤ b' → b' ≤ b + 1 → 0 ≤ r' → Q (.int k) (sup S p (penO cells b' r')))
  | _ => False
def sp__law_pick (K : PySem.W.Frag) : DSp := fun ds S Q ε => match ds with
  | [.ref p, .lst xs] => ∃ (cells : List Int) (b r : Int), S p = some (penO cells b r) ∧ xs ≠ [] ∧ xs.length ≤ 100000 ∧ 0 ≤ b ∧ b ≤ 10000 ∧ 0 ≤ r ∧ (∀ x ∈ xs, ∀ b' r', 0 ≤ b' → b' ≤ b + 1 → 0 ≤ r' → Q x (sup S p (penO cells b' r')))
  | _ => False
def sp__law_text (K : PySem.W.Frag) : DSp := fun ds S Q ε => match ds with
  | [.ref p] => ∃ (cells : List Int) (b r : Int), S p = some (penO cells b r) ∧ 0 ≤ b ∧ b ≤ 9000 ∧ 0 ≤ r ∧ ∀ z b' r', LineB 12 20 z → 0 ≤ b' → b' ≤ b + 12 → 0 ≤ r' → Q (.str z) (sup S p (penO cells b' r'))
  | _ => False
def sp__law_is_number (K : PySem.W.Frag) : DSp := fun ds S Q _ => match ds with
  | [.str z, .int lo] => z.length ≤ 4000 ∧ Q (.bl (mLawNum z lo)) S
  | _ => False
def sp__law_is_name (K : PySem.W.Frag) : DSp := fun ds S Q _ => match ds with
  | [.str z] => z.length ≤ 4000 ∧ Q (.bl (isName z)) S
  | _ => False
def sp__law_are_locks (K : PySem.W.Frag) : DSp := fun ds S Q _ => match ds with
  | [.str z] => z.length ≤ 4000 ∧ Q (.bl (mNamesIn z).isSome) S
  | _ => False
def sp__law_is_order (K : PySem.W.Frag) : DSp := fun ds S Q _ => match ds with
  | [.lst xs] => ∃ ws : List Str, xs = ws.map D.str ∧ (ws.map (·.length)).sum + ws.length ≤ 4000 ∧ Q (.bl (mLawOrd ws)) S
  | _ => False
def sp__law_is_row (K : PySem.W.Frag) : DSp := fun ds S Q _ => match ds with
  | [.lst xs] => ∃ ns : List Str, xs = ns.map D.str ∧ ns.length ≤ 4001 ∧ (∀ n ∈ ns, n.length ≤ 4000) ∧ Q (.bl (lawRow ns)) S
  | _ => False
def sp__law_due (K : PySem.W.Frag) : DSp := fun ds S Q ε => match ds with
  | [.str z] => PapB z ∧ Q (dueD (mDue (mRows z))) S
  | _ => False
def sp_is_int (K : PySem.W.Frag) : DSp := fun ds S Q _ => match ds with
  | [.int _] => Q (.bl true) S
  | _ => False
def sp_is_short (K : PySem.W.Frag) : DSp := fun ds S Q _ => match ds with
  | [.int i] => Q (.bl (decide (0 ≤ i) && decide (i ≤ 999999999999))) S
  | _ => False
def sp_Rounds___iter__ (K : PySem.W.Frag) : DSi := fun ds S Q => match ds with
  | [x] => ∃ rows kvs, x = dRounds K rows kvs ∧ Q (rows.map tupS) S
  | _ => False
def sp_is_name (K : PySem.W.Frag) : DSp := fun ds S Q _ => match ds with
  | [.str z] => z.length ≤ 16777216 ∧ Q (.bl (isName z)) S
  | _ => False
def sp_is_row (K : PySem.W.Frag) : DSp := fun ds S Q _ => match ds with
  | [.tup xs] => ∃ ns : List Str, xs = ns.map D.str ∧ ns.length ≤ 4001 ∧ (∀ n ∈ ns, n.length ≤ 4000) ∧ Q (.bl (isRow ns)) S
  | _ => False
def sp_Rounds___getitem__ (K : PySem.W.Frag) : DSp := fun ds S Q ε => match ds with
  | [x, .tup zs] => ∃ (rows : List (List Str)) (kvs : List (List Key × D)) (r : List Str), x = dRounds K rows kvs ∧ zs = r.map D.str ∧ RowB r ∧
    (if isRow r then Q ((valD kvs (r.map Sum.inr)).getD (.int 0)) S else ε (xPart K "BadRounds" "round") S)
  | _ => False
def PlainP (num : List Str → Int) (rows : List (List Str)) : Prop := rows.length ≤ 4000 ∧ ∀ r ∈ rows, isRow r = true ∧ RowB r ∧ 0 ≤ num r ∧ num r ≤ 999999999999
def sp_is_plain (K : PySem.W.Frag) : DSp := fun ds S Q ε => match ds with
  | [x] => ∃ cost ns ms okv rows num, x = dLeast K cost (dLocks K ns) (dOrder K ms okv) (dRounds K rows (rowKv num rows)) ∧ 0 ≤ cost ∧ cost ≤ 999999999999 ∧ PlainP num rows ∧ Q (.bl true) S
  | _ => False
def sp_Order___str__ (K : PySem.W.Frag) : DSp := fun ds S Q ε => match ds with
  | [x] => ∃ ms kvs, x = dOrder K ms kvs ∧ ms.length ≤ 400 ∧ (∀ m ∈ ms, m.length ≤ 4000 ∧ (m.map (·.length)).sum ≤ 4000) ∧ Q (.str (ordText ms)) S
  | _ => False
def sp_Locks___str__ (K : PySem.W.Frag) : DSp := fun ds S Q ε => match ds with
  | [x] => ∃ ns, x = dLocks K ns ∧ ns.length ≤ 4000 ∧ (ns.map (·.length)).sum ≤ 4000 ∧ Q (.str (locksText ns)) S
  | _ => False
def sp_least_text (K : PySem.W.Frag) : DSp := fun ds S Q ε => match ds with
  | [x] => ∃ cost ns ms okv rows num, x = dLeast K cost (dLocks K ns) (dOrder K ms okv) (dRounds K rows (rowKv num rows)) ∧ 0 ≤ cost ∧ cost ≤ 999999999999 ∧ PlainP num rows ∧ ns.length ≤ 4000 ∧ (ns.map (·.length)).sum ≤ 4000 ∧
      ms.length ≤ 400 ∧ (∀ m ∈ ms, m.length ≤ 4000 ∧ (m.map (·.length)).sum ≤ 4000) ∧ rows.length ≤ 400 ∧ Q (.str (leastText cost ns ms rows num)) S
  | _ => False
def sp_Page___init__ (K : PySem.W.Frag) : DSp := fun ds S Q ε => match ds with
  | [.ref a, .str z] => ∃ dx, S a = some (.ins (ga K "Page") dx []) ∧ z.length ≤ 16000000 ∧ Q .non (sup S a (oPage K dx (mRows z) 0 0))
  | [.ref a, x] => kdOf S x ∈ [some .non, some .bl, some .int, some .tup, some .lst, some .dic, some (.ins (ga K "Locks")), some (.ins (ga K "Order"))] ∧ ε (xText K 0 0) S
  | _ => False
def sp_Page_is_over (K : PySem.W.Frag) : DSp := fun ds S Q _ => match ds with
  | [.ref a] => ∃ dx rows i j, S a = some (oPage K dx rows i j) ∧ Q (.bl (decide (rows.length ≤ i))) S
  | _ => False
def sp_Page_upcoming (K : PySem.W.Frag) : DSp := fun ds S Q _ => match ds with
  | [.ref a] => ∃ dx rows i j, S a = some (oPage K dx rows i j) ∧ Q (optS (upc rows i j)) S
  | _ => False
def sp_Page_refuse (K : PySem.W.Frag) : DSp := fun ds S Q ε => match ds with
  | [.ref a] => ∃ dx rows i j, S a = some (oPage K dx rows i j) ∧ ε (xText K i j) S
  | _ => False
def sp_Page_skip (K : PySem.W.Frag) : DSp := fun ds S Q _ => match ds with
  | [.ref a] => ∃ dx rows i j, S a = some (oPage K dx rows i j) ∧ Q (optS (upc rows i j)) (sup S a (oPage K dx rows i (j + 1)))
  | _ => False
def sp_Page_take (K : PySem.W.Frag) : DSp := fun ds S Q ε => match ds with
  | [.ref a, .bl b] => ∃ dx rows i j, S a = some (oPage K dx rows i j) ∧ (match upc rows i j, b with
    | some z, true => Q (.str z) (sup S a (oPage K dx rows i (j + 1)))
    | _, _ => ε (xText K i j) S)
  | _ => False
def sp_Page_take_of (K : PySem.W.Frag) : DSp := fun ds S Q ε => match ds with
  | [.ref a, .tup xs] => ∃ (dx : Addr) (rows : List (List Str)) (i j : Nat) (ws : List Str), xs = ws.map D.str ∧ S a = some (oPage K dx rows i j) ∧ (match upc rows i j with
    | some z => if z ∈ ws then Q (.str z) (sup S a (oPage K dx rows i (j + 1))) else ε (xText K i j) S
    | none => ε (xText K i j) S)
  | _ => False
def sp_number_in (K : PySem.W.Frag) : DSp := fun ds S Q _ => match ds with
  | [.str z, .int lo, .int hi] => z.length ≤ 4000 ∧ Q (optI (mNumIn z lo hi)) S
  | [.non, .int lo, .int hi] => Q .non S
  | _ => False
def sp_Page_take_number (K : PySem.W.Frag) : DSp := fun ds S Q ε => match ds with
  | [.ref a, .int lo, .int hi] => ∃ dx rows i j, S a = some (oPage K dx rows i j) ∧ (∀ z, upc rows i j = some z → z.length ≤ 4000) ∧ (match (upc rows i j).bind fun z => mNumIn z lo hi with
    | some n => Q (.int n) (sup S a (oPage K dx rows i (j + 1)))
    | none => ε (xText K i j) S)
  | _ => False
def sp_Page_go_on (K : PySem.W.Frag) : DSp := fun ds S Q ε => match ds with
  | [.ref a] => ∃ dx rows i j, S a = some (oPage K dx rows i j) ∧ (match upc rows i j with
    | some _ => ε (xText K i j) S
    | none => Q .non (sup S a (oPage K dx rows (i + 1) 0)))
  | _ => False
def sp_Page_rest (K : PySem.W.Frag) : DSp := fun ds S Q ε => match ds with
  | [.ref a] => ∃ dx rows i j, S a = some (oPage K dx rows i j) ∧ (∀ r ∈ rows, r.length ≤ 16000000) ∧ Q (strL (((rows[i]?).getD []).drop j)) (sup S a (oPage K dx rows i (j + (((rows[i]?).getD []).drop j).length)))
  | _ => False
def sp_names_in (K : PySem.W.Frag) : DSp := fun ds S Q _ => match ds with
  | [.str z] => z.length ≤ 4000 ∧ Q (optL (mNamesIn z)) S
  | _ => False
def st_Locks___init__ (K : PySem.W.Frag) : DSp := fun ds S Q ε => match ds with
  | [.ref a, .tup xs] => ∃ (dx : Addr) (ns : List Str), xs = ns.map D.str ∧ S a = some (.ins (ga K "Locks") dx []) ∧ ns.length ≤ 4000 ∧ (∀ n ∈ ns, n.length ≤ 4000) ∧
    (if ns.all isName then Q .non (sup S a (.ins (ga K "Locks") dx [("own_names", tupS (sortU ns))])) else ε (xPart K "BadLocks" "name") S)
  | _ => False
def sp_Locks___init__ (K : PySem.W.Frag) : DSp := fun ds S Q ε => match ds with
  | .ref a :: xs => xs.length ≤ 4000 ∧ st_Locks___init__ K [.ref a, .tup xs] S Q ε
  | _ => False
def sp_Locks_read (K : PySem.W.Frag) : DSp := fun ds S Q ε => match ds with
  | [.ref C, .str z] => C = ga K "Locks" ∧ z.length ≤ 3999 ∧ (match mNamesIn z with
    | some ns => Q (dLocks K ns) S
    | none => ε (xText K 0 0) S)
  | _ => False
def sp_locks_in (K : PySem.W.Frag) : DSp := fun ds S Q ε => match ds with
  | [.ref a] => ∃ dx rows i j, S a = some (oPage K dx rows i j) ∧ PageB rows ∧ (match mNamesIn (Txt.join " " (restOf rows i j)) with
    | some ns => Q (dLocks K ns) (sup S a (oPage K dx rows (i + 1) 0))
    | none => ∀ j', ε (xText K i 0) (sup S a (oPage K dx rows i j')))
  | _ => False
def sp_moments_in (K : PySem.W.Frag) : DSp := fun ds S Q _ => match ds with
  | [.str z] => z.length ≤ 4000 ∧ Q (optLL (mMomentsIn z)) S
  | _ => False
def sp_rooms_of_part (K : PySem.W.Frag) : DSp := fun ds S Q ε => match ds with
  | [.tup xs] => ∃ ns : List Str, xs = ns.map D.str ∧ ns.length ≤ 4000 ∧ (∀ n ∈ ns, n.length ≤ 4000) ∧ (if ns ≠ [] ∧ ns.all isName then Q (strL ns) S else ε (xPart K "BadOrder" "part") S)
  | [.str z] => z.length ≤ 4000 ∧ (if isName z then Q (strL [z]) S else ε (xPart K "BadOrder" "part") S)
  | _ => False
def partOk (q : D × List Str) : Prop := q.2 ≠ [] ∧ q.2.all isName = true ∧ ((∃ z, q.1 = .str z ∧ q.2 = [z]) ∨ q.1 = tupS q.2)
def st_Order___init__ (K : PySem.W.Frag) : DSp := fun ds S Q ε => match ds with
  | [.ref a, .tup xs] => ∃ (dx : Addr) (qs : List (D × List Str)), xs = qs.map Prod.fst ∧ S a = some (.ins (ga K "Order") dx []) ∧ qs.length ≤ 400 ∧ (∀ q ∈ qs, partOk q ∧ q.2.length ≤ 8) ∧
    (qs.flatMap Prod.snd).Nodup ∧ (qs.flatMap Prod.snd).length ≤ 8 ∧ (∀ kvs, Q .non (sup S a (.ins (ga K "Order") dx [("own_moments", .tup (qs.map fun q => tupS (sortS q.2))), ("own_places", .dK kvs)])))
  | _ => False
def sp_Order___init__ (K : PySem.W.Frag) : DSp := fun ds S Q ε => match ds with
  | .ref a :: xs => xs.length ≤ 4000 ∧ st_Order___init__ K [.ref a, .tup xs] S Q ε
  | _ => False
def sp_Order_read (K : PySem.W.Frag) : DSp := fun ds S Q ε => match ds with
  | [.ref C, .str z] => C = ga K "Order" ∧ z.length ≤ 3999 ∧ (match mMomentsIn z with
    | some ms => ∀ kvs, Q (dOrder K ms kvs) S
    | none => ε (xText K 0 0) S)
  | _ => False
def sp_order_in (K : PySem.W.Frag) : DSp := fun ds S Q ε => match ds with
  | [.ref a] => ∃ dx rows i j, S a = some (oPage K dx rows i j) ∧ PageB rows ∧ (match mMomentsIn (Txt.join " " (restOf rows i j)) with
    | some ns => ∀ kvs, Q (dOrder K ns kvs) (sup S a (oPage K dx rows (i + 1) 0))
    | none => ∀ j', ε (xText K i 0) (sup S a (oPage K dx rows i j')))
  | _ => False
def sp_in_order (K : PySem.W.Frag) : DSp := fun ds S Q _ => match ds with
  | [.lst xs] => ∃ rows : List (List Str), xs = rows.map tupS ∧ rows.length ≤ 4000 ∧ (∀ r ∈ rows, r.length < 100 ∧ (r.map (·.length)).sum ≤ 10000) ∧ Q (.lst ((sortS (rows.map rowText)).map fun t => tupS ((Txt.split t " ").drop 1))) S
  | _ => False
def sp_row_in (K : PySem.W.Frag) : DSp := fun ds S Q ε => match ds with
  | [.ref a, d] => ∃ (dx : Addr) (rows : List (List Str)) (i j : Nat) (ah : Option (List Str)), d = aheadD ah ∧ S a = some (oPage K dx rows i j) ∧ PageB rows ∧ (∀ r ∈ rows, r.length ≤ 99) ∧ (∀ r, ah = some r → RowB r) ∧
    (match (upc rows i j).bind fun z => mNumIn z 1 999999999999 with
    | none => ε (xText K i j) S
    | some n => if isRow (restOf rows i (j + 1)) ∧ rowBad (restOf rows i (j + 1)) ah = false then Q (.tup [.int n, tupS (restOf rows i (j + 1))]) (sup S a (oPage K dx rows (i + 1) 0)) else ∀ j', ε (xText K i 0) (sup S a (oPage K dx rows i j')))
  | _ => False
def sp_Priced___init__ (K : PySem.W.Frag) : DSp := fun ds S Q ε => match ds with
  | [.ref a, x, y, z, u] => ∃ dx, S a = some (.ins (ga K "Least") dx []) ∧ Q .non (sup S a (.ins (ga K "Least") dx [("cost", x), ("locks", y), ("order", z), ("rounds", u)]))
  | _ => False
def RowsP (num : List Str → Int) (rows : List (List Str)) : Prop := rows.length ≤ 400 ∧ (∀ r ∈ rows, isRow r = true ∧ RowB r ∧ 1 ≤ num r) ∧ rows.Nodup ∧ sortS (rows.map rowText) = rows.map rowText ∧ ∀ r ∈ rows, (Txt.split (rowText r) " ").drop 1 = r
def sp_Rounds___init__ (K : PySem.W.Frag) : DSp := fun ds S Q ε => match ds with
  | [.ref a, d] => ∃ (dx : Addr) (rows : List (List Str)) (num : List Str → Int), d = .dT (rowKv num rows) ∧ S a = some (.ins (ga K "Rounds") dx []) ∧ RowsP num rows ∧
    Q .non (sup S a (.ins (ga K "Rounds") dx [("own_rows", .lst (rows.map tupS)), ("own_parts", .dT (rowKv num rows))]))
  | _ => False
def sp_read_least (K : PySem.W.Frag) : DSp := fun ds S Q ε => match ds with
  | [.str z] => PapB z ∧ (match mRead (mRows z) with
    | .error (i, j) => ∀ S', Ext S S' → ε (xText K i j) S'
    | .ok (c, ns, ms, acc) => AccOk acc ((acc.map Prod.fst).getLast?) → acc.length ≤ 400 → ∀ kvs S', Ext S S' → Q (dLeast K c (dLocks K ns) (dOrder K ms kvs) (dRounds K (acc.map Prod.fst) (accKv acc))) S')
  | [x] => (∀ S', Ext S S' → kdOf S' x ∈ [some .non, some .bl, some .int, some .tup, some .lst, some .dic, some (.ins (ga K "Locks")), some (.ins (ga K "Order"))]) ∧ ∀ S', Ext S S' → ε (xText K 0 0) S'
  | _ => False
def sp__law_heard (K : PySem.W.Frag) : DSp := fun ds S Q ε => match ds with
  | [.str z] => PapB z ∧ (match mRead (mRows z) with
    | .error (i, j) => ∀ S', Ext S S' → Q (.tup [.int i, .int j]) S'
    | .ok (c, ns, ms, acc) => AccOk acc ((acc.map Prod.fst).getLast?) → ∀ S', Ext S S' → Q (.lst [.str (leastText c ns ms (acc.map Prod.fst) (numOf acc))]) S')
  | [x] => (∀ S', Ext S S' → kdOf S' x ∈ [some .non, some .bl, some .int, some .tup, some .lst, some .dic, some (.ins (ga K "Locks")), some (.ins (ga K "Order"))]) ∧ ∀ S', Ext S S' → Q (.tup [.int 0, .int 0]) S'
  | _ => False
def sp__law_right (K : PySem.W.Frag) : DSp := fun ds S Q ε => match ds with
  | [.str z] => ∃ n k, LineB n k z ∧ n ≤ 400 ∧ k ≤ 98 ∧ ∀ S', M.Ext S S' → Q (.bl true) S'
  | _ => False
def sp__law_bent (K : PySem.W.Frag) : DSp := fun ds S Q ε => match ds with
  | [.ref p, .str z] => ∃ (cells : List Int) (b r : Int) (n k : Nat), S p = some (penO cells b r) ∧ LineB n k z ∧ 1 ≤ n ∧ n ≤ 300 ∧ k ≤ 80 ∧ 0 ≤ b ∧ b ≤ 9000 ∧ 0 ≤ r ∧ ∀ z' b' r' S', LineB (n + 1) (k + 10) z' → 0 ≤ b' → b' ≤ b + 8 → 0 ≤ r' → S' p = some (penO cells b' r') → Q (.str z') S'
  | _ => False
def sp_Locks_none (K : PySem.W.Frag) : DSp := fun ds S Q ε => match ds with
  | [] => Q (dLocks K []) S
  | _ => False
def fixedA : List Str := ["", "least", "least 0", "least 0\n-", "least 0\n-\n-", "least 0\n-\n-\n", "least 0\n-\n-\n1", "least 0\n-\n-\n1 a"]
def lineBB (n k : Nat) (z : Str) : Bool := decide ((Txt.split z "\n").length ≤ n) && (Txt.split z "\n").all fun l => decide (l.length ≤ k) && l.cps.toList.all fun c => decide (c < 128)
theorem lineBB_ok {n k : Nat} {z : Str} (h : lineBB n k z = true) : LineB n k z := by
  unfold lineBB at h
  simp only [Bool.and_eq_true, decide_eq_true_eq, List.all_eq_true] at h
  exact ⟨h.1, fun l hl => h.2 l hl⟩
theorem fixed_okB : (fixedA ++ (([("least 0\n-\n-\n1 a b\n1 a b" : Str), ((("least 0\n-\n-\n1 a b\n" : Str) ++ ("1 a b c d e f g h i" : Str)) ++ ("\n" : Str)) ++ ("1 a b c d e f g h i" : Str) ++ (" j" : Str)] : List Str) ++ ([(("least 0\n-\n-\n" : Str) ++ ("1 a b c d e f g h i" : Str) ++ (" j\n" : Str)) ++ ("1 a b c d e f g h i" : Str), (("least 0\n-\n-\n" : Str) ++ ("1 a b c d e f g h i" : Str)) ++ ("\n1 a b" : Str)] : List Str))).all (lineBB 9 98) = true := by decide +kernel
theorem fixed_ok : ∀ z ∈ fixedA ++ ([("least 0\n-\n-\n1 a b\n1 a b" : Str), ((("least 0\n-\n-\n1 a b\n" : Str) ++ ("1 a b c d e f g h i" : Str)) ++ ("\n" : Str)) ++ ("1 a b c d e f g h i" : Str) ++ (" j" : Str)] ++ [(("least 0\n-\n-\n" : Str) ++ ("1 a b c d e f g h i" : Str) ++ (" j\n" : Str)) ++ ("1 a b c d e f g h i" : Str), (("least 0\n-\n-\n" : Str) ++ ("1 a b c d e f g h i" : Str)) ++ ("\n1 a b" : Str)]), ∃ n k, LineB n k z ∧ n ≤ 400 ∧ k ≤ 98 := fun z hz => ⟨9, 98, lineBB_ok (List.all_eq_true.mp fixed_okB z hz), by decide, by decide⟩
def sp_law (K : PySem.W.Frag) : DSp := fun ds S Q ε => match ds with
  | [.scr ns] => ∀ S', Q (.bl true) S'
  | _ => False
end G
set_option Elab.async false
set_option linter.all false
set_option maxRecDepth 100000
set_option maxHeartbeats 4000000
namespace G
open PySem PySem.Spec L2 DL M
open He (ga ma)
theorem sc__law_pen : FnScope ["_law_script"] ["_law_script"] (defScope (top 55)) := ⟨rfl, rfl, rfl, by decide +kernel, rfl, by decide +kernel, by decide +kernel⟩
theorem ok__law_pen {n : Bool} {P : Program} {w : World} {K : PySem.W.Frag} {mg : Str → Option Value} {base : Heap} (fc : Fc P w K mg base) {fd : FuncData} (Fd : FunD K "_law_pen" "_law_pen" (defArgs (top 55)) (defBody (top 55)) (defScope (top 55)) [] [] (ga K "_law_pen") fd) :
    FnD n P w K mg base 3 (ga K "_law_pen") (sp__law_pen K) := by
  have sc := sc__law_pen
  have F : FnP n P w K mg base 3 (ga K "_law_pen") fd ["_law_script"] (sp__law_pen K) := by
    refine fn_d Fd sc (fun ds S Q ε h => by unfold sp__law_pen at h; split at h <;> first | rfl | exact h.elim) (fun cdv A outer s H E F0 ε hr cx => ⟨_, _, (ds_one (d_ret (n_lst (da_cons (n_list fc.f_list (da_cons (d_slice (d_var 0) do_none (do_some d_int)) da_nil)).d (da_cons d_int (da_cons d_int da_nil)))).cell)), fun ds S Q h => ?_⟩)
    unfold sp__law_pen at h
    split at h
    · rename_i ns
      simp
      rw [show cutL (ns.map D.int) none (some 63) = (ns.map D.int).take 63 from cutL_to (k := 63)]
      intro p hp
      have := h p hp
      unfold penO at this
      rwa [List.map_take] at this
    · exact h.elim
  exact fnD_of0 F (Fd.bindsN (ps := ["_law_script"]) fun _ _ _ _ _ _ us hl => match us, hl with | [_], _ => rfl)
end G
set_option Elab.async false
set_option linter.all false
set_option maxRecDepth 100000
set_option maxHeartbeats 4000000
namespace G
open PySem PySem.Spec L2 DL M
open He (ga ma)
theorem sc__law_draw : FnScope ["_law_pen_here", "_law_many", "_law_begun", "_law_cell", "_law_mixed_here", "_law_digit", "_law_great"] ["_law_pen_here", "_law_many"] (defScope (top 56)) := ⟨rfl, rfl, rfl, by decide +kernel, rfl, by decide +kernel, by decide +kernel⟩
theorem ok__law_draw {n : Bool} {P : Program} {w : World} {K : PySem.W.Frag} {mg : Str → Option Value} {base : Heap} (fc : Fc P w K mg base) {fd : FuncData} (Fd : FunD K "_law_draw" "_law_draw" (defArgs (top 56)) (defBody (top 56)) (defScope (top 56)) [] [] (ga K "_law_draw") fd) :
    FnD n P w K mg base 3 (ga K "_law_draw") (sp__law_draw K) := by
  have sc := sc__law_draw
  have F : FnP n P w K mg base 3 (ga K "_law_draw") fd ["_law_pen_here", "_law_many"] (sp__law_draw K) := by
    refine fn_d Fd sc (fun ds S Q ε h => by unfold sp__law_draw at h; split at h <;> first | rfl | exact h.elim) (fun cdv A outer s H E F0 ε hr cx => ⟨_, _, (ds_cons (d_ifS (d_tcmp o_gt (d_ix (d_var 0) d_int) d_int) (ds_cons (d_set 5 sc.nd (d_op o_mod (b_int fc.f_int (da_cons (d_ix (d_var 0) d_int) da_nil)) (d_var 1))) (ds_cons (d_asg (d_op o_fdiv (b_int fc.f_int (da_cons (d_ix (d_var 0) d_int) da_nil)) (d_var 1)) (g_sub st_list (d_var 0) d_int)) (ds_one (d_ret (d_var 5))))) ds_nil) (ds_cons (d_set 2 sc.nd (d_ix (d_var 0) d_int)) (ds_cons (d_asg (d_op o_add (d_var 2) d_int) (g_sub st_list (d_var 0) d_int)) (ds_cons (d_set 3 sc.nd (d_op o_add (d_op o_mul d_int (d_var 2)) d_int)) (ds_cons (d_ifS (d_tcmp (o_ne hr) (d_ix (d_var 0) d_int) (n_lst da_nil).d) (ds_one (d_set 3 sc.nd (d_ix (d_ix (d_var 0) d_int) (d_op o_mod (b_int fc.f_int (da_cons (d_var 2) da_nil)) (b_len (es := []) fc.f_len (da_cons (d_ix (d_var 0) d_int) da_nil)))))) ds_nil) (ds_cons (d_ifS (PDW.test (d_and (d_tcmp o_lt (d_var 2) (b_len (es := []) fc.f_len (da_cons (d_ix (d_var 0) d_int) da_nil))) (d_and1 (d_tcmp o_ge (b_abs fc.f_abs (da_cons (d_var 3) da_nil)) (d_op o_pow d_int d_int))))) (ds_cons (d_set 6 sc.nd (d_op o_add (d_op o_mul d_int (d_op o_sub (b_abs fc.f_abs (da_cons (d_var 3) da_nil)) (d_op o_pow d_int d_int))) (b_int fc.f_int (da_cons (d_cmp o_lt (d_var 3) d_int) da_nil)))) (ds_cons (d_asg (d_op o_fdiv (b_int fc.f_int (da_cons (d_var 6) da_nil)) (d_var 1)) (g_sub st_list (d_var 0) d_int)) (ds_one (d_ret (d_op o_mod (b_int fc.f_int (da_cons (d_var 6) da_nil)) (d_var 1)))))) ds_nil) (ds_cons (d_set 4 sc.nd (d_op o_mod (b_int fc.f_int (da_cons (d_op o_pow (d_op o_add (d_op o_add (d_op o_mod (b_int fc.f_int (da_cons (d_var 3) da_nil)) d_int) (d_op o_mul d_int (d_var 2))) d_int) d_int) da_nil)) d_int)) (ds_cons (d_set 4 sc.nd (d_op o_add (d_op o_add (d_op o_mul (d_var 4) (d_op o_add (d_op o_mul d_int (d_var 2)) d_int)) (d_op o_mul (d_op o_mul d_int (d_var 2)) (d_var 2))) d_int)) (ds_one (d_ret (d_op o_mod (b_int fc.f_int (da_cons (d_op o_fdiv (d_op o_mod (b_int fc.f_int (da_cons (d_op o_pow (d_var 4) d_int) da_nil)) d_int) d_int) da_nil)) (d_var 1)))))))))))), fun ds S Q h => ?_⟩)
    unfold sp__law_draw at h
    split at h
    · rename_i p m
      obtain ⟨cells, b, r, hp, m1, m2, b1, b2, r1, h⟩ := h
      simp [pen_2 hp, pen_1 hp, pen_s1 hp]
      by_cases r0 : 0 < r
      · rw [if_pos r0]
        simp [pen_s2 hp]
        exact ⟨by omega, cdiv_s m1 m2, h _ _ _ (fmod_in m1).1 (fmod_in m1).2 b1 (by omega) (fdiv_nn r1 m1)⟩
      · rw [if_neg r0]
        refine ⟨cmul_l (by decide) (by decide), ?_⟩
        by_cases c0 : cells = []
        · subst c0
          simp
          rw [if_neg (by omega)]
          exact mix_ok b1 b2 m1 fun k k1 k2 => h k _ _ k1 k2 (by omega) (by omega) r1
        · simp [c0]
          have hL : 1 ≤ (cells.length : Int) := by have := List.length_pos_iff.mpr c0; omega
          obtain ⟨c, hc⟩ : ∃ c, atI (cells.map D.int) (b.fmod cells.length) = some (.int c) := by
            have f := fmod_in (i := b) hL
            obtain ⟨k, hk⟩ := Int.eq_ofNat_of_zero_le f.1
            rw [hk, atI_n]
            have hkl : k < cells.length := by omega
            exact ⟨cells[k], by simp [hkl]⟩
          refine ⟨_, hc, ?_⟩
          by_cases e1 : b < (cells.length : Int)
          · rw [if_pos e1]
            simp
            refine ⟨⟨by decide, by decide, by decide⟩, ?_⟩
            by_cases e2 : 1000000000000000000 ≤ if c < 0 then -c else c
            · rw [if_pos e2]
              have hg : 0 ≤ (2 * ((if c < 0 then -c else c) - 1000000000000000000) + if c < 0 then 1 else 0) := by split <;> omega
              exact ⟨⟨by decide, by decide, by decide⟩, cmul_l (by decide) (by decide), cdiv_s m1 m2, by omega, h _ _ _ (fmod_in m1).1 (fmod_in m1).2 (by omega) (by omega) (fdiv_nn hg m1)⟩
            · rw [if_neg e2]
              exact mix_ok b1 b2 m1 fun k k1 k2 => h k _ _ k1 k2 (by omega) (by omega) r1
          · rw [if_neg e1]
            simp
            exact mix_ok b1 b2 m1 fun k k1 k2 => h k _ _ k1 k2 (by omega) (by omega) r1
    · exact h.elim
  exact fnD_of0 F (Fd.bindsN (ps := ["_law_pen_here", "_law_many"]) fun _ _ _ _ _ _ us hl => match us, hl with | [_, _], _ => rfl)
end G
set_option Elab.async false
set_option linter.all false
set_option maxRecDepth 100000
set_option maxHeartbeats 4000000
namespace G
open PySem PySem.Spec L2 DL M
open He (ga ma)
theorem sc__law_pick : FnScope ["_law_pen_here", "_law_some"] ["_law_pen_here", "_law_some"] (defScope (top 57)) := ⟨rfl, rfl, rfl, by decide +kernel, rfl, by decide +kernel, by decide +kernel⟩
theorem ok__law_pick {n : Bool} {P : Program} {w : World} {K : PySem.W.Frag} {mg : Str → Option Value} {base : Heap} (fc : Fc P w K mg base) (F__law_draw : ∀ n, FnD n P w K mg base 3 (ga K "_law_draw") (sp__law_draw K)) {fd : FuncData} (Fd : FunD K "_law_pick" "_law_pick" (defArgs (top 57)) (defBody (top 57)) (defScope (top 57)) [] [] (ga K "_law_pick") fd) :
    FnD n P w K mg base 4 (ga K "_law_pick") (sp__law_pick K) := by
  have sc := sc__law_pick
  have F : FnP n P w K mg base 4 (ga K "_law_pick") fd ["_law_pen_here", "_law_some"] (sp__law_pick K) := by
    refine fn_d Fd sc (fun ds S Q ε h => by unfold sp__law_pick at h; split at h <;> first | rfl | exact h.elim) (fun cdv A outer s H E F0 ε hr cx => ⟨_, _, (ds_one (d_ret (d_ix (d_var 1) (d_cal (cal_fn (F__law_draw n) cx hr (by decide) (fun h => h)) fc.k__law_draw (d_gref fc.g__law_draw) (da_cons (d_var 0) (da_cons (b_len (es := []) fc.f_len (da_cons (d_var 1) da_nil)) da_nil)))))), fun ds S Q h => ?_⟩)
    unfold sp__law_pick at h
    split at h
    · rename_i p xs
      obtain ⟨cells, b, r, hp, x0, x1, b1, b2, r1, h⟩ := h
      have hL := List.length_pos_iff.mpr x0
      simp
      refine ⟨cells, b, r, hp, by omega, by omega, b1, b2, r1, fun k b' r' k1 k2 b3 b4 r2 => ?_⟩
      obtain ⟨n, rfl⟩ := Int.eq_ofNat_of_zero_le k1
      have hn : n < xs.length := by omega
      simp
      exact ⟨xs[n], by simp [hn], h _ (List.getElem_mem hn) b' r' b3 b4 r2⟩
    · exact h.elim
  exact fnD_of0 F (Fd.bindsN (ps := ["_law_pen_here", "_law_some"]) fun _ _ _ _ _ _ us hl => match us, hl with | [_, _], _ => rfl)
end G
set_option Elab.async false
set_option linter.all false
set_option maxRecDepth 100000
set_option maxHeartbeats 4000000
namespace G
open PySem PySem.Spec L2 DL M
open He (ga ma)
theorem sc__law_text : FnScope ["_law_pen_here", "_law_rows", "_law_some", "_law_lines", "_law_row"] ["_law_pen_here"] (defScope (top 66)) := ⟨rfl, rfl, rfl, by decide +kernel, rfl, by decide +kernel, by decide +kernel⟩
theorem ok__law_text {n : Bool} {P : Program} {w : World} {K : PySem.W.Frag} {mg : Str → Option Value} {base : Heap} (fc : Fc P w K mg base) (F__law_draw : ∀ n, FnD n P w K mg base 3 (ga K "_law_draw") (sp__law_draw K)) (F__law_pick : ∀ n, FnD n P w K mg base 4 (ga K "_law_pick") (sp__law_pick K)) {fd : FuncData} (Fd : FunD K "_law_text" "_law_text" (defArgs (top 66)) (defBody (top 66)) (defScope (top 66)) [] [] (ga K "_law_text") fd) :
    FnD n P w K mg base 5 (ga K "_law_text") (sp__law_text K) := by
  have sc := sc__law_text
  have F : FnP n P w K mg base 5 (ga K "_law_text") fd ["_law_pen_here"] (sp__law_text K) := by
    refine fn_d Fd sc (fun ds S Q ε h => by unfold sp__law_text at h; split at h <;> first | rfl | exact h.elim) (fun cdv A outer s H E F0 ε hr cx => ⟨_, _, (ds_cons (d_set 1 sc.nd (n_asLits ["1 a b", "2 a p", "7 a q", "1 b a", "3 p q", "1 a b p", "9 a p b", "1 b p a", "999999999999 p q r s"] (n_lst (da_cons d_str (da_cons d_str (da_cons d_str (da_cons d_str (da_cons d_str (da_cons d_str (da_cons d_str (da_cons d_str (da_cons d_str da_nil)))))))))) rfl).d) (ds_cons (n_setLc (own := [("_law_row", 4)]) 2 [("_law_row", 4)] rfl sc.nd (blkOk_by (by kernel_rfl)) (i_any (d_var 1)) (fun _ _ _ _ _ => ((gv_name 4 sc.nd)).re (by first | exact rfl | (dsimp only [Cx.blk]; try exact rfl))) (fun _ _ _ _ _ => ((ts_one (d_tcmp (o_eq hr) (d_cal (cal_fn (F__law_draw n) ctx0 hr (by decide) (fun h => h)) fc.k__law_draw (d_gref fc.g__law_draw) (da_cons (d_var 0) (da_cons d_int da_nil))) d_int))).re (by first | exact rfl | (dsimp only [Cx.blk]; try exact rfl))) (fun _ _ _ _ _ => ((d_var 4)).re (by first | exact rfl | (dsimp only [Cx.blk]; try exact rfl)))).d (ds_cons (d_set 3 sc.nd (n_lst (da_cons (d_op o_add d_str (d_cal (cal_fn (F__law_pick n) cx hr (by decide) (fun h => h)) fc.k__law_pick (d_gref fc.g__law_pick) (da_cons (d_var 0) (da_cons (n_asLits ["0", "1", "17", "999999999999", "01"] (n_lst (da_cons d_str (da_cons d_str (da_cons d_str (da_cons d_str (da_cons d_str da_nil)))))) rfl).d da_nil)))) (da_cons (d_cal (cal_fn (F__law_pick n) cx hr (by decide) (fun h => h)) fc.k__law_pick (d_gref fc.g__law_pick) (da_cons (d_var 0) (da_cons (n_asLits ["-", "p", "a,p,q", "p,a"] (n_lst (da_cons d_str (da_cons d_str (da_cons d_str (da_cons d_str da_nil))))) rfl).d da_nil))) da_nil))).d) (ds_one (d_ret (d_join d_str (d_op o_add (d_op o_add (d_var 3) (n_lst (da_cons (d_cal (cal_fn (F__law_pick n) cx hr (by decide) (fun h => h)) fc.k__law_pick (d_gref fc.g__law_pick) (da_cons (d_var 0) (da_cons (n_asLits ["-", "a", "a,b c", "b a", "a a", "b,a", "a b c d e f g h i"] (n_lst (da_cons d_str (da_cons d_str (da_cons d_str (da_cons d_str (da_cons d_str (da_cons d_str (da_cons d_str da_nil)))))))) rfl).d da_nil))) da_nil)).d) (d_var 2)))))))), fun ds S Q h => ?_⟩)
    unfold sp__law_text at h
    split at h
    · rename_i p
      obtain ⟨cells, b, r, hp, b1, b2, r1, h⟩ := h
      rw [show nLits ["1 a b", "2 a p", "7 a q", "1 b a", "3 p q", "1 a b p", "9 a p b", "1 b p a", "999999999999 p q r s"] = nLits textRows from rfl]
      obtain ⟨L, hL⟩ : ∃ L : List Str, L = textRows := ⟨textRows, rfl⟩
      rw [← hL]
      refine seq_step fun rest hr => ?_
      simp
      refine ⟨by rw [hL]; decide, ?_⟩
      subst hr
      refine seq_step fun rest hr => ?_
      simp
      have hL9 : L.length = 9 := by rw [hL]; rfl
      have hLm : ∀ l ∈ L, lnOk 20 l := by rw [hL]; exact textRows_ok
      refine lc_inv D.str (fun vs acc S' => ∃ (ys : List Str) (b' r' : Int), acc = ys.map D.str ∧ (∀ y ∈ ys, y ∈ L) ∧ (∀ v ∈ vs, v ∈ L) ∧ ys.length + vs.length ≤ 9 ∧ 0 ≤ b' ∧ b' + vs.length ≤ b + 9 ∧ 0 ≤ r' ∧ S' = sup S p (penO cells b' r')) ?_ ?_ L [] S (by rw [szl]; simp; omega) ⟨[], b, r, rfl, by simp, fun v hv => hv, by simp; omega, b1, by omega, r1, by funext q; unfold sup; by_cases e : q = p <;> simp [e, hp]⟩
      · rintro x xs acc S' Y N ⟨ys, b', r', rfl, k1, k2, k3, k4, k5, k6, rfl⟩ hY hN
        simp only [List.length_cons] at k3 k5
        simp
        refine ⟨cells, b', r', sup_at, by decide, by decide, k4, by omega, k6, fun k b2' r2' j1 j2 j3 j4 j5 => ?_⟩
        simp
        by_cases e : k = 0
        · rw [if_pos e]
          exact hY _ _ ⟨ys ++ [x], b2', r2', by simp, fun y hy => by
            rcases List.mem_append.mp hy with hy | hy
            · exact k1 y hy
            · obtain rfl := List.mem_singleton.mp hy
              exact k2 _ List.mem_cons_self, fun v hv => k2 v (List.mem_cons_of_mem _ hv), by simp; omega, j3, by omega, j5, rfl⟩
        · rw [if_neg e]
          exact hN _ ⟨ys, b2', r2', rfl, k1, fun v hv => k2 v (List.mem_cons_of_mem _ hv), by omega, j3, by omega, j5, rfl⟩
      · rintro acc S' ⟨ys, b', r', rfl, k1, k2, k3, k4, k5, k6, rfl⟩
        subst hr
        simp only [List.length_nil] at k3 k5
        simp
        refine ⟨cells, b', r', sup_at, by simp, by simp, k4, by omega, k6, ?_⟩
        intro x hx b3 r3 j1 j2 j3
        obtain ⟨z1, hz1, rfl⟩ := mem_strs (zs := textA) hx
        obtain ⟨q1, q1'⟩ := textA_ok z1 hz1
        simp
        refine ⟨by rw [ln_least]; omega, cells, b3, r3, sup_at, by simp, by simp, j1, by omega, j3, ?_⟩
        intro x hx b4 r4 j4 j5 j6
        obtain ⟨z2, hz2, rfl⟩ := mem_strs (zs := textB) hx
        have q2 := textB_ok z2 hz2
        simp
        refine ⟨cells, b4, r4, sup_at, by simp, by simp, j4, by omega, j6, ?_⟩
        intro x hx b5 r5 j7 j8 j9
        obtain ⟨z3, hz3, rfl⟩ := mem_strs (zs := textC) hx
        have q3 := textC_ok z3 hz3
        have q4 : ∀ l ∈ (("least " : Str) ++ z1) :: z2 :: z3 :: ys, lnOk 20 l := fun l hl => by
          simp only [List.mem_cons] at hl
          rcases hl with rfl | rfl | rfl | hl
          · exact q1
          · exact q2
          · exact q3
          · exact hLm l (k1 l hl)
        have q5 := lnOk_sum q4
        simp at q5 ⊢
        refine ⟨by omega, by omega, h _ b5 r5 (lineB_join q4 (by simp; omega) (by decide)) j7 (by omega) j9⟩
    · exact h.elim
  exact fnD_of0 F (Fd.bindsN (ps := ["_law_pen_here"]) fun _ _ _ _ _ _ us hl => match us, hl with | [_], _ => rfl)
end G
set_option Elab.async false
set_option linter.all false
set_option maxRecDepth 100000
set_option maxHeartbeats 4000000
namespace G
open PySem PySem.Spec L2 DL M
open He (ga ma)
theorem sc__law_is_number : FnScope ["_law_word", "_law_low", "_law_sign"] ["_law_word", "_law_low"] (defScope (top 60)) := ⟨rfl, rfl, rfl, by decide +kernel, rfl, by decide +kernel, by decide +kernel⟩
theorem ok__law_is_number {n : Bool} {P : Program} {w : World} {K : PySem.W.Frag} {mg : Str → Option Value} {base : Heap} (fc : Fc P w K mg base) {fd : FuncData} (Fd : FunD K "_law_is_number" "_law_is_number" (defArgs (top 60)) (defBody (top 60)) (defScope (top 60)) [] [] (ga K "_law_is_number") fd) :
    FnD n P w K mg base 3 (ga K "_law_is_number") (sp__law_is_number K) := by
  have sc := sc__law_is_number
  have F : FnP n P w K mg base 3 (ga K "_law_is_number") fd ["_law_word", "_law_low"] (sp__law_is_number K) := by
    refine fn_d Fd sc (fun ds S Q ε h => by unfold sp__law_is_number at h; split at h <;> first | rfl | exact h.elim) (fun cdv A outer s H E F0 ε hr cx => ⟨_, _, (ds_cons (d_ifS (PDW.test (d_or (d_not (d_tchain o_le o_le d_int (b_len (es := []) fc.f_len (da_cons (d_var 0) da_nil)) d_int)) (d_or1 (d_tcmp (o_ne hr) (n_lc (own := [("_law_sign", 2)]) [("_law_sign", 2)] rfl sc.nd (blkOk_by (by kernel_rfl)) (i_any (d_var 0)) (fun _ _ _ _ _ => ((gv_name 2 sc.nd)).re (by first | exact rfl | (dsimp only [Cx.blk]; try exact rfl))) (fun _ _ _ _ _ => ((ts_one (d_tcmp (o_notin hr) (d_var 2) d_str))).re (by first | exact rfl | (dsimp only [Cx.blk]; try exact rfl))) (fun _ _ _ _ _ => ((d_var 2)).re (by first | exact rfl | (dsimp only [Cx.blk]; try exact rfl)))).d (n_lst da_nil).d)))) (ds_one (d_ret d_bl)) ds_nil) (ds_one (d_ret (d_andV (d_cmp (o_eq hr) (b_str fc.f_str (da_cons (b_int fc.f_int (da_cons (d_var 0) da_nil)) da_nil)) (d_var 0)) (d_one (d_cmp o_ge (b_int fc.f_int (da_cons (d_var 0) da_nil)) (d_var 1))))))), fun ds S Q h => ?_⟩)
    unfold sp__law_is_number at h
    split at h
    · rename_i z lo
      obtain ⟨hz, h⟩ := h
      simp [show z.length ≤ 16777216 by omega]
      by_cases h1 : (1 : Int) ≤ z.length <;> by_cases h2 : (z.length : Int) ≤ 12
      · simp only [h1, h2, if_true]
        rw [signs_map]
        refine lc_emb (fun c => D.str ⟨#[c]⟩) (fun c => !isFig c) (fun c => D.str ⟨#[c]⟩) _ [] (fun c hc Y N h1 h2 => ?_) (by simp [Str.length] at hz ⊢; omega) ?_
        · by_cases e : c ∈ ("0123456789" : Str).cps
          · simpa [isFig, e] using h2
          · simpa [isFig, e] using h1
        · rw [show (z.cps.toList.filter (fun c => !isFig c)).map (fun c => D.str ⟨#[c]⟩) = ((z.cps.toList.filter (fun c => !isFig c)).map fun c => (⟨#[c]⟩ : Str)).map D.str by simp]
          simp only [List.nil_append, eq_l0]
          rw [none_left]
          cases q : z.cps.toList.all isFig
          · simp [mLawNum, figOk, q, h1, h2] at h ⊢; exact h
          · obtain ⟨i1, _, _, i2, i3⟩ := int_plain (z := z) (by unfold figOk; rw [q, signs_len]; simp [h1, h2])
            rw [show mLawNum z lo = (decide (toString (intOf z) = z) && decide (lo ≤ intOf z)) by unfold mLawNum figOk; rw [q, signs_len]; simp [h1, h2]] at h
            simp
            refine ⟨i3, _, i1, i2, ?_⟩
            by_cases e1 : Str.ofString (intOf z).repr = z <;> simp [e1] at h ⊢
            · exact ⟨i3, _, i1, h⟩
            · exact h
      all_goals (rw [show mLawNum z lo = false by unfold mLawNum figOk; rw [signs_len]; simp [h1, h2]] at h; simpa [h1, h2] using h)
    · exact h.elim
  exact fnD_of0 F (Fd.bindsN (ps := ["_law_word", "_law_low"]) fun _ _ _ _ _ _ us hl => match us, hl with | [_, _], _ => rfl)
end G
set_option Elab.async false
set_option linter.all false
set_option maxRecDepth 100000
set_option maxHeartbeats 4000000
namespace G
open PySem PySem.Spec L2 DL M
open He (ga ma)
theorem sc__law_is_name : FnScope ["_law_word", "_law_sign"] ["_law_word"] (defScope (top 59)) := ⟨rfl, rfl, rfl, by decide +kernel, rfl, by decide +kernel, by decide +kernel⟩
theorem ok__law_is_name {n : Bool} {P : Program} {w : World} {K : PySem.W.Frag} {mg : Str → Option Value} {base : Heap} (fc : Fc P w K mg base) {fd : FuncData} (Fd : FunD K "_law_is_name" "_law_is_name" (defArgs (top 59)) (defBody (top 59)) (defScope (top 59)) [] [] (ga K "_law_is_name") fd) :
    FnD n P w K mg base 3 (ga K "_law_is_name") (sp__law_is_name K) := by
  have sc := sc__law_is_name
  have F : FnP n P w K mg base 3 (ga K "_law_is_name") fd ["_law_word"] (sp__law_is_name K) := by
    refine fn_d Fd sc (fun ds S Q ε h => by unfold sp__law_is_name at h; split at h <;> first | rfl | exact h.elim) (fun cdv A outer s H E F0 ε hr cx => ⟨_, _, (ds_one (d_ret (d_andV (d_chain o_le o_le d_int (b_len (es := []) fc.f_len (da_cons (d_var 0) da_nil)) d_int) (d_one (d_cmp (o_eq hr) (n_lc (own := [("_law_sign", 1)]) [("_law_sign", 1)] rfl sc.nd (blkOk_by (by kernel_rfl)) (i_any (d_var 0)) (fun _ _ _ _ _ => ((gv_name 1 sc.nd)).re (by first | exact rfl | (dsimp only [Cx.blk]; try exact rfl))) (fun _ _ _ _ _ => ((ts_one (d_tcmp (o_notin hr) (d_var 1) d_str))).re (by first | exact rfl | (dsimp only [Cx.blk]; try exact rfl))) (fun _ _ _ _ _ => ((d_var 1)).re (by first | exact rfl | (dsimp only [Cx.blk]; try exact rfl)))).d (n_lst da_nil).d))))), fun ds S Q h => ?_⟩)
    unfold sp__law_is_name at h
    split at h
    · rename_i z
      obtain ⟨hz, h⟩ := h
      simp [show z.length ≤ 16777216 by omega]
      by_cases h1 : (1 : Int) ≤ z.length <;> by_cases h2 : (z.length : Int) ≤ 8 <;> simp [isName, h1, h2] at h ⊢ <;> try exact h
      rw [signs_map]
      refine lc_emb (fun c => D.str ⟨#[c]⟩) (fun c => !isLet c) (fun c => D.str ⟨#[c]⟩) _ [] (fun c hc Y N h1 h2 => ?_) (by simp [Str.length] at hz ⊢; omega) ?_
      · by_cases e : c ∈ ("abcdefghijklmnopqrstuvwxyz" : Str).cps
        · simpa [isLet, e] using h2
        · simpa [isLet, e] using h1
      · rw [show (z.cps.toList.filter (fun c => !isLet c)).map (fun c => D.str ⟨#[c]⟩) = ((z.cps.toList.filter (fun c => !isLet c)).map fun c => (⟨#[c]⟩ : Str)).map D.str by simp]
        simp only [List.nil_append, eq_l0]
        rw [← Array.all_toList] at h
        rw [none_left]
        exact h
    · exact h.elim
  exact fnD_of0 F (Fd.bindsN (ps := ["_law_word"]) fun _ _ _ _ _ _ us hl => match us, hl with | [_], _ => rfl)
end G
set_option Elab.async false
set_option linter.all false
set_option maxRecDepth 100000
set_option maxHeartbeats 4000000
namespace G
open PySem PySem.Spec L2 DL M
open He (ga ma)
theorem sc__law_are_locks : FnScope ["_law_word", "_law_names", "_law_name"] ["_law_word"] (defScope (top 62)) := ⟨rfl, rfl, rfl, by decide +kernel, rfl, by decide +kernel, by decide +kernel⟩
theorem ok__law_are_locks {n : Bool} {P : Program} {w : World} {K : PySem.W.Frag} {mg : Str → Option Value} {base : Heap} (fc : Fc P w K mg base) (F__law_is_name : ∀ n, FnD n P w K mg base 3 (ga K "_law_is_name") (sp__law_is_name K)) {fd : FuncData} (Fd : FunD K "_law_are_locks" "_law_are_locks" (defArgs (top 62)) (defBody (top 62)) (defScope (top 62)) [] [] (ga K "_law_are_locks") fd) :
    FnD n P w K mg base 4 (ga K "_law_are_locks") (sp__law_are_locks K) := by
  have sc := sc__law_are_locks
  have F : FnP n P w K mg base 4 (ga K "_law_are_locks") fd ["_law_word"] (sp__law_are_locks K) := by
    refine fn_d Fd sc (fun ds S Q ε h => by unfold sp__law_are_locks at h; split at h <;> first | rfl | exact h.elim) (fun cdv A outer s H E F0 ε hr cx => ⟨_, _, (ds_cons (d_set 1 sc.nd (n_split (d_var 0) d_str).d) (ds_cons (d_ifS (d_tcmp (o_eq hr) (d_var 0) d_str) (ds_one (d_ret d_bl)) ds_nil) (ds_one (d_ret (d_andV (d_cmp (o_eq hr) (n_lc (own := [("_law_name", 2)]) [("_law_name", 2)] rfl sc.nd (blkOk_by (by kernel_rfl)) (i_any (d_var 1)) (fun _ _ _ _ _ => ((gv_name 2 sc.nd)).re (by first | exact rfl | (dsimp only [Cx.blk]; try exact rfl))) (fun _ _ _ _ _ => ((ts_one (d_not (d_tval (d_cal (cal_fn (F__law_is_name n) ctx0 hr (by decide) (fun h => h)) fc.k__law_is_name (d_gref fc.g__law_is_name) (da_cons (d_var 2) da_nil)))))).re (by first | exact rfl | (dsimp only [Cx.blk]; try exact rfl))) (fun _ _ _ _ _ => ((d_var 2)).re (by first | exact rfl | (dsimp only [Cx.blk]; try exact rfl)))).d (n_lst da_nil).d) (d_one (d_cmp (o_eq hr) (d_var 1) (n_sortedSet rfl fc.f_sorted fc.f_set (da_cons (n_lc (own := [("_law_name", 2)]) [("_law_name", 2)] rfl sc.nd (blkOk_by (by kernel_rfl)) (i_any (d_var 1)) (fun _ _ _ _ _ => ((gv_name 2 sc.nd)).re (by first | exact rfl | (dsimp only [Cx.blk]; try exact rfl))) (fun _ _ _ _ _ => (ts_nil).re (by first | exact rfl | (dsimp only [Cx.blk]; try exact rfl))) (fun _ _ _ _ _ => ((b_str fc.f_str (da_cons (d_var 2) da_nil))).re (by first | exact rfl | (dsimp only [Cx.blk]; try exact rfl)))).d da_nil)).d))))))), fun ds S Q h => ?_⟩)
    unfold sp__law_are_locks at h
    split at h
    · rename_i z
      obtain ⟨hz, h⟩ := h
      have hc := sp_cnt (x := z) (y := ",") (by rw [ln_c]; exact Nat.le_refl _)
      have hl : ∀ w ∈ Txt.split z ",", w.length ≤ 4000 := fun w hw => by
        have := sp_len (by rw [ln_c]; exact Nat.le_refl _) hw
        omega
      simp
      refine ⟨by omega, ?_⟩
      by_cases e : z = ("-" : Str)
      · simpa [e, mNamesIn] using h
      · simp [e]
        refine lc_emb D.str (fun w => !isName w) D.str (Txt.split z ",") [] (fun w hw Y N h1 h2 => ?_) (by simp; omega) ?_
        · have := hl w hw
          cases q : isName w <;> simp [q, sp__law_is_name, this] at h1 h2 ⊢ <;> assumption
        · rw [show ((Txt.split z ",").filter (fun w => !isName w)).map D.str = (((Txt.split z ",").filter (fun w => !isName w)).map id).map D.str by simp]
          simp only [List.nil_append, eq_l0, none_left]
          cases q : (Txt.split z ",").all isName
          · rw [show mNamesIn z = none by unfold mNamesIn; rw [if_neg e, if_neg]; simp [q]] at h
            simpa using h
          · simp
            refine lc_map D.str D.str (Txt.split z ",") [] (fun w hw Y hY => by simpa using hY) (by simp; omega) ?_
            simp
            refine ⟨by omega, ?_⟩
            rw [show (mNamesIn z).isSome = decide (Txt.split z "," = sortU (Txt.split z ",")) by
              unfold mNamesIn; rw [if_neg e, q, Bool.true_and]
              by_cases h3 : Txt.split z "," = sortU (Txt.split z ",")
              · rw [decide_eq_true h3]; simp
              · rw [decide_eq_false h3]; simp] at h
            exact h
    · exact h.elim
  exact fnD_of0 F (Fd.bindsN (ps := ["_law_word"]) fun _ _ _ _ _ _ us hl => match us, hl with | [_], _ => rfl)
end G
set_option Elab.async false
set_option linter.all false
set_option maxRecDepth 100000
set_option maxHeartbeats 4000000
namespace G
open PySem PySem.Spec L2 DL M
open He (ga ma)
theorem sc__law_is_order : FnScope ["_law_words", "_law_held", "_law_word", "_law_rooms", "_law_room"] ["_law_words"] (defScope (top 63)) := ⟨rfl, rfl, rfl, by decide +kernel, rfl, by decide +kernel, by decide +kernel⟩
theorem ok__law_is_order {n : Bool} {P : Program} {w : World} {K : PySem.W.Frag} {mg : Str → Option Value} {base : Heap} (fc : Fc P w K mg base) (F__law_is_name : ∀ n, FnD n P w K mg base 3 (ga K "_law_is_name") (sp__law_is_name K)) {fd : FuncData} (Fd : FunD K "_law_is_order" "_law_is_order" (defArgs (top 63)) (defBody (top 63)) (defScope (top 63)) [] [] (ga K "_law_is_order") fd) :
    FnD n P w K mg base 4 (ga K "_law_is_order") (sp__law_is_order K) := by
  have sc := sc__law_is_order
  have F : FnP n P w K mg base 4 (ga K "_law_is_order") fd ["_law_words"] (sp__law_is_order K) := by
    refine fn_d Fd sc (fun ds S Q ε h => by unfold sp__law_is_order at h; split at h <;> first | rfl | exact h.elim) (fun cdv A outer s H E F0 ε hr cx => ⟨_, _, (ds_cons (d_set 1 sc.nd (n_lst da_nil).d) (ds_cons (d_ifS (d_tcmp (o_eq hr) (d_var 0) (n_lst (da_cons d_str da_nil)).d) (ds_one (d_ret d_bl)) ds_nil) (ds_cons (d_for (passes_of rfl) rfl (i_any (d_var 0)) (g_name 2 sc.nd) (ds_cons (d_set 3 sc.nd (n_split (d_var 2) d_str).d) (ds_cons (d_ifS (d_tcmp (o_ne hr) (n_lc (own := [("_law_room", 4)]) [("_law_room", 4)] rfl sc.nd (blkOk_by (by kernel_rfl)) (i_any (d_var 3)) (fun _ _ _ _ _ => ((gv_name 4 sc.nd)).re (by first | exact rfl | (dsimp only [Cx.blk]; try exact rfl))) (fun _ _ _ _ _ => ((ts_one (PDW.test (d_or (d_not (d_tval (d_cal (cal_fn (F__law_is_name n) ctx0 hr (by decide) (fun h => h)) fc.k__law_is_name (d_gref fc.g__law_is_name) (da_cons (d_var 4) da_nil)))) (d_or1 (d_tcmp (o_in hr) (d_var 4) (d_var 1))))))).re (by first | exact rfl | (dsimp only [Cx.blk]; try exact rfl))) (fun _ _ _ _ _ => ((d_var 4)).re (by first | exact rfl | (dsimp only [Cx.blk]; try exact rfl)))).d (n_lst da_nil).d) (ds_one (d_ret d_bl)) ds_nil) (ds_cons (d_ifS (d_tcmp (o_ne hr) (d_var 3) (n_sortedSet rfl fc.f_sorted fc.f_set (da_cons (n_lc (own := [("_law_room", 4)]) [("_law_room", 4)] rfl sc.nd (blkOk_by (by kernel_rfl)) (i_any (d_var 3)) (fun _ _ _ _ _ => ((gv_name 4 sc.nd)).re (by first | exact rfl | (dsimp only [Cx.blk]; try exact rfl))) (fun _ _ _ _ _ => (ts_nil).re (by first | exact rfl | (dsimp only [Cx.blk]; try exact rfl))) (fun _ _ _ _ _ => ((b_str fc.f_str (da_cons (d_var 4) da_nil))).re (by first | exact rfl | (dsimp only [Cx.blk]; try exact rfl)))).d da_nil)).d) (ds_one (d_ret d_bl)) ds_nil) (ds_one (d_set 1 sc.nd (d_op o_add (d_var 1) (d_var 3)))))))) (ds_one (d_ret (d_cmp o_le (b_len (es := []) fc.f_len (da_cons (d_var 1) da_nil)) d_int)))))), fun ds S Q h => ?_⟩)
    unfold sp__law_is_order at h
    split at h
    · obtain ⟨ws, rfl, hz, h⟩ := h
      simp
      by_cases e : ws = [("-" : Str)]
      · simpa [e, mLawOrd] using h
      · simp [e]
        rw [show mLawOrd ws = lawOrdGo [] ws by unfold mLawOrd; rw [if_neg e]] at h
        refine for_emb D.str (fun vs ρ S' => ∃ (held : List Str) (o2 o3 o4 : Option D), ρ = [some (.lst (ws.map D.str)), some (.lst (held.map D.str)), o2, o3, o4] ∧ S' = S ∧ held.length + (vs.map (·.length)).sum + vs.length ≤ 4000 ∧ Q (.bl (lawOrdGo held vs)) S)
          ?_ ?_ ws _ S ⟨[], none, none, none, rfl, rfl, by simpa using hz, h⟩
        · rintro w vs ρ S' N ⟨held, o2, o3, o4, rfl, rfl, hb, hq⟩ hN
          simp only [List.map_cons, List.sum_cons, List.length_cons] at hb
          have hc := sp_cnt (x := w) (y := ",") (by rw [ln_c]; exact Nat.le_refl _)
          simp
          refine ⟨by omega, ?_⟩
          refine lc_emb D.str (fun r => !(isName r && !decide (r ∈ held))) D.str (Txt.split w ",") [] (fun r hr Y N h1 h2 => ?_) (by simp; omega) ?_
          · have := sp_len (by rw [ln_c]; exact Nat.le_refl _) hr
            cases q : isName r <;> by_cases q2 : r ∈ held <;> simp [q, q2, sp__law_is_name, show r.length ≤ 4000 by omega] at h1 h2 ⊢ <;> assumption
          · rw [show ((Txt.split w ",").filter (fun r => !(isName r && !decide (r ∈ held)))).map D.str = (((Txt.split w ",").filter (fun r => !(isName r && !decide (r ∈ held)))).map id).map D.str by simp]
            simp only [List.nil_append, eq_l0, none_left]
            simp only [if_true, bK_bl]
            rw [lawOrdGo] at hq
            cases q1 : (Txt.split w ",").all (fun r => isName r && !decide (r ∈ held))
            · rw [q1] at hq
              simpa using hq
            · rw [q1, Bool.true_and] at hq
              simp
              refine lc_map D.str D.str _ [] (fun r hr Y hY => by simpa using hY) (by simp; omega) ?_
              simp
              refine ⟨by omega, ?_⟩
              by_cases q2 : Txt.split w "," = sortU (Txt.split w ",")
              · rw [if_pos q2]
                rw [if_pos (by simpa using q2)] at hq
                refine ⟨by omega, hN _ _ ⟨held ++ Txt.split w ",", _, _, _, by rw [List.map_append], rfl, by simp only [List.length_append]; omega, hq⟩⟩
              · rw [if_neg q2]
                rw [if_neg (by simpa using q2)] at hq
                exact hq
        · rintro ρ S' ⟨held, o2, o3, o4, rfl, rfl, hb, hq⟩
          simpa [lawOrdGo] using hq
    · exact h.elim
  exact fnD_of0 F (Fd.bindsN (ps := ["_law_words"]) fun _ _ _ _ _ _ us hl => match us, hl with | [_], _ => rfl)
end G
set_option Elab.async false
set_option linter.all false
set_option maxRecDepth 100000
set_option maxHeartbeats 4000000
namespace G
open PySem PySem.Spec L2 DL M
open He (ga ma)
theorem sc__law_is_row : FnScope ["_law_names", "_law_name"] ["_law_names"] (defScope (top 61)) := ⟨rfl, rfl, rfl, by decide +kernel, rfl, by decide +kernel, by decide +kernel⟩
theorem ok__law_is_row {n : Bool} {P : Program} {w : World} {K : PySem.W.Frag} {mg : Str → Option Value} {base : Heap} (fc : Fc P w K mg base) (F__law_is_name : ∀ n, FnD n P w K mg base 3 (ga K "_law_is_name") (sp__law_is_name K)) {fd : FuncData} (Fd : FunD K "_law_is_row" "_law_is_row" (defArgs (top 61)) (defBody (top 61)) (defScope (top 61)) [] [] (ga K "_law_is_row") fd) :
    FnD n P w K mg base 4 (ga K "_law_is_row") (sp__law_is_row K) := by
  have sc := sc__law_is_row
  have F : FnP n P w K mg base 4 (ga K "_law_is_row") fd ["_law_names"] (sp__law_is_row K) := by
    refine fn_d Fd sc (fun ds S Q ε h => by unfold sp__law_is_row at h; split at h <;> first | rfl | exact h.elim) (fun cdv A outer s H E F0 ε hr cx => ⟨_, _, (ds_cons (d_ifS (PDW.test (d_or (d_tcmp o_lt (b_len (es := []) fc.f_len (da_cons (d_var 0) da_nil)) d_int) (d_or (d_tcmp (o_ne hr) (n_lc (own := [("_law_name", 1)]) [("_law_name", 1)] rfl sc.nd (blkOk_by (by kernel_rfl)) (i_any (d_var 0)) (fun _ _ _ _ _ => ((gv_name 1 sc.nd)).re (by first | exact rfl | (dsimp only [Cx.blk]; try exact rfl))) (fun _ _ _ _ _ => ((ts_one (d_not (d_tval (d_cal (cal_fn (F__law_is_name n) ctx0 hr (by decide) (fun h => h)) fc.k__law_is_name (d_gref fc.g__law_is_name) (da_cons (d_var 1) da_nil)))))).re (by first | exact rfl | (dsimp only [Cx.blk]; try exact rfl))) (fun _ _ _ _ _ => ((d_var 1)).re (by first | exact rfl | (dsimp only [Cx.blk]; try exact rfl)))).d (n_lst da_nil).d) (d_or1 (d_tcmp (o_ne hr) (d_lenSet rfl fc.f_len fc.f_set (da_cons (d_var 0) da_nil)) (b_len (es := []) fc.f_len (da_cons (d_var 0) da_nil))))))) (ds_one (d_ret d_bl)) ds_nil) (ds_one (d_ret (d_cmp (o_eq hr) (n_lc (own := [("_law_name", 1)]) [("_law_name", 1)] rfl sc.nd (blkOk_by (by kernel_rfl)) (i_any (d_var 0)) (fun _ _ _ _ _ => ((gv_name 1 sc.nd)).re (by first | exact rfl | (dsimp only [Cx.blk]; try exact rfl))) (fun _ _ _ _ _ => ((ts_one (d_tcmp o_lt (d_var 1) (d_ix (d_var 0) d_int)))).re (by first | exact rfl | (dsimp only [Cx.blk]; try exact rfl))) (fun _ _ _ _ _ => ((d_var 1)).re (by first | exact rfl | (dsimp only [Cx.blk]; try exact rfl)))).d (n_lst da_nil).d)))), fun ds S Q h => ?_⟩)
    unfold sp__law_is_row at h
    split at h
    · obtain ⟨ns, rfl, hz, hn, h⟩ := h
      simp
      by_cases q0 : (2 : Int) ≤ ns.length
      · rw [if_neg (by omega)]
        refine lc_emb D.str (fun w => !isName w) D.str ns [] (fun w hw Y N h1 h2 => ?_) (by simp; omega) ?_
        · have := hn w hw
          cases q : isName w <;> simp [q, sp__law_is_name, this] at h1 h2 ⊢ <;> assumption
        · rw [show (ns.filter (fun w => !isName w)).map D.str = ((ns.filter (fun w => !isName w)).map id).map D.str by simp]
          simp only [List.nil_append, eq_l0, none_left]
          cases q1 : ns.all isName
          · rw [show lawRow ns = false by unfold lawRow; rw [q1]; simp] at h
            simpa using h
          · simp
            refine ⟨by omega, ?_⟩
            by_cases q2 : ((plusAll ns).length : Int) = ns.length
            · rw [if_pos q2]
              have hd : ∃ w ws, ns = w :: ws := by
                cases ns with
                | nil => simp at q0
                | cons w ws => exact ⟨w, ws, rfl⟩
              obtain ⟨w0, ws0, e0⟩ := hd
              refine lc_emb D.str (fun n => !(!decide (n.cps.toList < w0.cps.toList))) D.str ns [] (fun w hw Y N h1 h2 => ?_) (by simp; omega) ?_
              · simp [e0]
                by_cases q : w.cps < w0.cps
                · rw [if_pos q]; exact h1 (by simpa using q)
                · rw [if_neg q]; exact h2 (by simpa using q)
              · rw [show (ns.filter (fun n : Str => !(!decide (n.cps.toList < w0.cps.toList)))).map D.str = ((ns.filter (fun n : Str => !(!decide (n.cps.toList < w0.cps.toList)))).map id).map D.str by simp]
                simp only [List.nil_append, eq_l0]
                rw [none_left (p := fun n : Str => !decide (n.cps.toList < w0.cps.toList))]
                rw [show lawRow ns = ns.all fun n => !decide (n.cps.toList < w0.cps.toList) by unfold lawRow; rw [q1, decide_eq_true q0, decide_eq_true (p := (plusAll ns).length = ns.length) (by omega), e0]; simp] at h
                simpa using h
            · rw [if_neg q2]
              rw [show lawRow ns = false by unfold lawRow; rw [decide_eq_false (p := (plusAll ns).length = ns.length) (by omega)]; simp] at h
              exact h
      · rw [if_pos (by omega)]
        rw [show lawRow ns = false by unfold lawRow; rw [decide_eq_false q0]; simp] at h
        exact h
    · exact h.elim
  exact fnD_of0 F (Fd.bindsN (ps := ["_law_names"]) fun _ _ _ _ _ _ us hl => match us, hl with | [_], _ => rfl)
end G
set_option Elab.async false
set_option linter.all false
set_option maxRecDepth 100000
set_option maxHeartbeats 4000000
namespace G
open PySem PySem.Spec L2 DL M
open He (ga ma)
theorem sc__law_due : FnScope ["_law_text_here", "_law_at", "_law_lines", "_law_last", "_law_key", "_law_line"] ["_law_text_here"] (defScope (top 64)) := ⟨rfl, rfl, rfl, by decide +kernel, rfl, by decide +kernel, by decide +kernel⟩
theorem ok__law_due {n : Bool} {P : Program} {w : World} {K : PySem.W.Frag} {mg : Str → Option Value} {base : Heap} (fc : Fc P w K mg base) (F__law_is_number : ∀ n, FnD n P w K mg base 3 (ga K "_law_is_number") (sp__law_is_number K)) (F__law_are_locks : ∀ n, FnD n P w K mg base 4 (ga K "_law_are_locks") (sp__law_are_locks K)) (F__law_is_order : ∀ n, FnD n P w K mg base 4 (ga K "_law_is_order") (sp__law_is_order K)) (F__law_is_row : ∀ n, FnD n P w K mg base 4 (ga K "_law_is_row") (sp__law_is_row K)) {fd : FuncData} (Fd : FunD K "_law_due" "_law_due" (defArgs (top 64)) (defBody (top 64)) (defScope (top 64)) [] [] (ga K "_law_due") fd) :
    FnD n P w K mg base 5 (ga K "_law_due") (sp__law_due K) := by
  have sc := sc__law_due
  have F : FnP n P w K mg base 5 (ga K "_law_due") fd ["_law_text_here"] (sp__law_due K) := by
    refine fn_d Fd sc (fun ds S Q ε h => by unfold sp__law_due at h; split at h <;> first | rfl | exact h.elim) (fun cdv A outer s H E F0 ε hr cx => ⟨_, _, (ds_cons (d_par 2 3 rfl sc.nd (da_cons (n_lc (own := [("_law_line", 5)]) [("_law_line", 5)] rfl sc.nd (blkOk_by (by kernel_rfl)) (i_any (n_split (d_var 0) d_str).d) (fun _ _ _ _ _ => ((gv_name 5 sc.nd)).re (by first | exact rfl | (dsimp only [Cx.blk]; try exact rfl))) (fun _ _ _ _ _ => (ts_nil).re (by first | exact rfl | (dsimp only [Cx.blk]; try exact rfl))) (fun _ _ _ _ _ => ((n_split (d_var 5) d_str).d).re (by first | exact rfl | (dsimp only [Cx.blk]; try exact rfl)))).d (da_cons d_non da_nil))) (ds_cons (d_ifS (PDW.test (d_or (d_tcmp (o_ne hr) (d_ix (d_ix (d_var 2) d_int) d_int) d_str) (d_or (d_tcmp o_lt (b_len (es := []) fc.f_len (da_cons (d_ix (d_var 2) d_int) da_nil)) d_int) (d_or1 (d_not (d_tval (d_cal (cal_fn (F__law_is_number n) cx hr (by decide) (fun h => h)) fc.k__law_is_number (d_gref fc.g__law_is_number) (da_cons (d_ix (d_ix (d_var 2) d_int) d_int) (da_cons d_int da_nil))))))))) (ds_one (d_ret (d_tup (da_cons d_int (da_cons (b_int fc.f_int (da_cons (d_cmp (o_eq hr) (d_ix (d_ix (d_var 2) d_int) d_int) d_str) da_nil)) da_nil))))) ds_nil) (ds_cons (d_ifS (d_tcmp o_gt (b_len (es := []) fc.f_len (da_cons (d_ix (d_var 2) d_int) da_nil)) d_int) (ds_one (d_ret (d_tup (da_cons d_int (da_cons d_int da_nil))))) ds_nil) (ds_cons (d_ifS (PDW.test (d_or (d_tcmp o_lt (b_len (es := []) fc.f_len (da_cons (d_var 2) da_nil)) d_int) (d_or (d_tcmp o_gt (b_len (es := []) fc.f_len (da_cons (d_ix (d_var 2) d_int) da_nil)) d_int) (d_or1 (d_not (d_tval (d_cal (cal_fn (F__law_are_locks n) cx hr (by decide) (fun h => h)) fc.k__law_are_locks (d_gref fc.g__law_are_locks) (da_cons (d_ix (d_ix (d_var 2) d_int) d_int) da_nil)))))))) (ds_one (d_ret (d_tup (da_cons d_int (da_cons d_int da_nil))))) ds_nil) (ds_cons (d_ifS (PDW.test (d_or (d_tcmp o_lt (b_len (es := []) fc.f_len (da_cons (d_var 2) da_nil)) d_int) (d_or1 (d_not (d_tval (d_cal (cal_fn (F__law_is_order n) cx hr (by decide) (fun h => h)) fc.k__law_is_order (d_gref fc.g__law_is_order) (da_cons (d_ix (d_var 2) d_int) da_nil))))))) (ds_one (d_ret (d_tup (da_cons d_int (da_cons d_int da_nil))))) ds_nil) (ds_cons (d_for (passes_of rfl) rfl (i_range2 fc.f_range (da_cons d_int (da_cons (b_len (es := []) fc.f_len (da_cons (d_var 2) da_nil)) da_nil))) (g_name 1 sc.nd) (ds_cons (d_set 4 sc.nd (d_tup (da_cons (b_len (es := []) fc.f_len (da_cons (d_ix (d_var 2) (d_var 1)) da_nil)) (da_cons (b_tup fc.f_tuple (da_cons (d_slice (d_ix (d_var 2) (d_var 1)) (do_some d_int) do_none) da_nil)) da_nil)))) (ds_cons (d_ifS (PDW.test (d_or (d_not (d_tval (d_cal (cal_fn (F__law_is_number n) cx hr (by decide) (fun h => h)) fc.k__law_is_number (d_gref fc.g__law_is_number) (da_cons (d_ix (d_ix (d_var 2) (d_var 1)) d_int) (da_cons d_int da_nil))))) (d_or (d_not (d_tval (d_cal (cal_fn (F__law_is_row n) cx hr (by decide) (fun h => h)) fc.k__law_is_row (d_gref fc.g__law_is_row) (da_cons (d_slice (d_ix (d_var 2) (d_var 1)) (do_some d_int) do_none) da_nil)))) (d_or1 (PDW.test (d_and (d_tcmp o_isnot (d_var 3) d_non) (d_and1 (d_tcmp (o_leP hr) (d_var 4) (d_var 3))))))))) (ds_one (d_ret (d_tup (da_cons (d_var 1) (da_cons d_int da_nil))))) ds_nil) (ds_one (d_set 3 sc.nd (d_var 4)))))) (ds_one (d_ret d_non)))))))), fun ds S Q h => ?_⟩)
    unfold sp__law_due at h
    split at h
    · rename_i z
      obtain ⟨⟨z1, z2, z3, z4⟩, h⟩ := h
      simp
      refine ⟨by omega, ?_⟩
      have hl : (Txt.split z "\n").length ≤ 400 := by simpa [mRows] using z4
      refine lc_map D.str (fun l => strL (Txt.split l " ")) (Txt.split z "\n") [] (fun l hl Y hY => ?_) (by rw [szl]; simp; omega) ?_
      · simp
        have : l.length ≤ z.length := sp_len (by rw [ln_n]; exact Nat.le_refl _) hl
        exact ⟨by omega, hY⟩
      · rw [List.nil_append, show (Txt.split z "\n").map (fun l => strL (Txt.split l " ")) = (mRows z).map strL by simp [mRows]]
        have hne : mRows z ≠ [] := by
          unfold mRows
          intro e
          exact sp_ne (List.map_eq_nil_iff.mp e)
        have hrn : ∀ r ∈ mRows z, r ≠ [] := fun r hr => by
          obtain ⟨l, _, rfl⟩ := List.mem_map.mp hr
          exact sp_ne
        generalize mRows z = rows at *
        obtain ⟨r0, rs, rfl⟩ := List.exists_cons_of_ne_nil hne
        obtain ⟨w0, ws, rfl⟩ := List.exists_cons_of_ne_nil (hrn r0 List.mem_cons_self)
        have hz : ∀ r ∈ (w0 :: ws) :: rs, ∀ w ∈ r, w.length ≤ 3999 := fun r hr w hw => by
          have := z2 r hr
          have := mem_len hw
          omega
        unfold mDue at h
        rw [show rowOf ((w0 :: ws) :: rs) 0 = w0 :: ws from rfl] at h
        simp [strL]
        by_cases e0 : w0 = ("least" : Str)
        · rw [List.headD_cons, if_pos e0] at h
          rw [if_pos e0]
          cases ws with
          | nil =>
            simp [e0]
            simpa [dueD] using h
          | cons w1 ws =>
            rw [if_neg (by simp only [List.length_cons]; omega)]
            simp
            refine ⟨Nat.le_trans (hz _ List.mem_cons_self w1 (by simp)) (by decide), ?_⟩
            cases n1 : mLawNum w1 0
            · simp [e0]
              simpa [dueD, n1] using h
            · simp [n1] at h ⊢
              cases ws with
              | cons w2 ws =>
                rw [if_pos (by simp only [List.length_cons]; omega)]
                simpa [dueD] using h
              | nil =>
                simp
                simp at h
                cases rs with
                | nil =>
                  simp
                  simpa [dueD] using h
                | cons r1 rs =>
                  rw [show rowOf ([w0, w1] :: r1 :: rs) 1 = r1 from rfl] at h
                  obtain ⟨v0, vs, rfl⟩ := List.exists_cons_of_ne_nil (hrn r1 (by simp))
                  rw [if_neg (by simp only [List.length_cons]; omega)]
                  simp
                  cases vs with
                  | cons v1 vs =>
                    rw [if_pos (by simp only [List.length_cons]; omega)]
                    simpa [dueD] using h
                  | nil =>
                    simp
                    refine ⟨Nat.le_trans (hz _ (List.mem_cons_of_mem _ List.mem_cons_self) v0 (by simp)) (by decide), ?_⟩
                    cases q1 : mNamesIn v0 with
                    | none =>
                      simpa [dueD, q1] using h
                    | some ns =>
                      simp [q1] at h ⊢
                      cases rs with
                      | nil =>
                        simp
                        simpa [dueD] using h
                      | cons r2 rs =>
                        rw [show rowOf ([w0, w1] :: [v0] :: r2 :: rs) 2 = r2 from rfl] at h
                        rw [if_neg (by simp only [List.length_cons]; omega)]
                        simp
                        refine ⟨r2, rfl, ?_, ?_⟩
                        · have := z2 r2 (by simp)
                          omega
                        cases q2 : mLawOrd r2
                        · simpa [dueD, q2] using h
                        · simp [q2] at h ⊢
                          generalize hR : [w0, w1] :: [v0] :: r2 :: rs = R at *
                          have eR : D.lst [D.str w0, D.str w1] :: strL [v0] :: strL r2 :: rs.map strL = R.map strL := by rw [← hR]; rfl
                          have lR : R.length = rs.length + 3 := by rw [← hR]; rfl
                          have l400 : rs.length ≤ 397 := by rw [lR] at z4; omega
                          rw [eR]
                          refine ⟨by omega, ?_⟩
                          have er : rangeD 3 ((rs.length : Int) + 1 + 1 + 1 - 3).toNat = (List.range' 3 rs.length).map fun k => D.int (k : Nat) := by
                            rw [show ((rs.length : Int) + 1 + 1 + 1 - 3).toNat = rs.length by omega]
                            unfold rangeD
                            rw [List.range'_eq_map_range, List.map_map]
                            exact List.map_congr_left fun k _ => by simp
                          rw [er]
                          refine for_emb (fun k : Nat => D.int (k : Nat)) (fun vs ρ S' => ∃ i f last o1 o4 o5, vs = List.range' i f ∧ i + f = R.length ∧ ρ = [some (.str z), o1, some (.lst (R.map strL)), some (lastD last), o4, o5] ∧ S' = S ∧ Q (dueD ((mDueGo R f i last).map fun i => (i, 0))) S) ?_ ?_ (List.range' 3 rs.length) _ _ ⟨3, rs.length, none, none, none, none, rfl, by omega, rfl, rfl, by simpa [lR] using h⟩
                          · rintro k vs ρ S' N ⟨i, f, last, o1, o4, o5, hv, hf, rfl, rfl, h⟩ hN
                            obtain ⟨f, rfl⟩ : ∃ f', f = f' + 1 := by
                              cases f with
                              | zero => cases hv
                              | succ f => exact ⟨f, rfl⟩
                            rw [List.range'_succ] at hv
                            obtain ⟨rfl, rfl⟩ := List.cons.inj hv
                            have hi : k < R.length := by omega
                            obtain ⟨r, hr⟩ : ∃ r, R[k]? = some r := ⟨R[k], List.getElem?_eq_getElem hi⟩
                            have hrm : r ∈ R := List.mem_of_getElem? hr
                            obtain ⟨x0, xs, rfl⟩ := List.exists_cons_of_ne_nil (hrn r hrm)
                            have hx := hz _ hrm
                            have hxl := z3 _ hrm
                            simp only [List.length_cons] at hxl
                            unfold mDueGo at h
                            rw [if_neg (by omega), show rowOf R k = x0 :: xs by unfold rowOf; rw [hr]; rfl] at h
                            simp [hr, strL]
                            refine ⟨Nat.le_trans (hx x0 (by simp)) (by decide), ?_⟩
                            cases p1 : mLawNum x0 1
                            · simpa [p1, dueD] using h
                            · simp [p1] at h ⊢
                              refine ⟨xs, rfl, by omega, fun w hw => Nat.le_trans (hx w (by simp [hw])) (by decide), ?_⟩
                              cases p2 : lawRow xs
                              · simpa [p2, dueD] using h
                              · simp [p2] at h ⊢
                                cases last with
                                | none =>
                                  simp [lastD]
                                  simp [p1, p2] at h
                                  exact hN _ _ ⟨k + 1, f, some (xs.length + 1, xs), some (.int k), some (lastD (some (xs.length + 1, xs))), o5, rfl, by omega, by simp [lastD, tupS], rfl, h⟩
                                | some q =>
                                  obtain ⟨qn, qr⟩ := q
                                  simp [lastD, tupS]
                                  simp [p1, p2] at h
                                  cases p3 : keyLe (xs.length + 1, xs) (qn, qr)
                                  · simp [p3] at h ⊢
                                    exact hN _ _ ⟨k + 1, f, some (xs.length + 1, xs), some (.int k), some (lastD (some (xs.length + 1, xs))), o5, rfl, by omega, by simp [lastD, tupS], rfl, h⟩
                                  · simpa [p3, dueD] using h
                          · rintro ρ S' ⟨i, f, last, o1, o4, o5, hv, hf, rfl, rfl, h⟩
                            have : f = 0 := by
                              have := congrArg List.length hv
                              simpa using this.symm
                            subst this
                            simp
                            exact h
        · rw [List.headD_cons, if_neg e0] at h
          rw [if_neg e0, if_neg e0]
          exact h
    · exact h.elim
  exact fnD_of0 F (Fd.bindsN (ps := ["_law_text_here"]) fun _ _ _ _ _ _ us hl => match us, hl with | [_], _ => rfl)
end G
set_option Elab.async false
set_option linter.all false
set_option maxRecDepth 100000
set_option maxHeartbeats 4000000
namespace G
open PySem PySem.Spec L2 DL M
open He (ga ma)
theorem sc_is_int : FnScope ["value"] ["value"] (defScope (top 16)) := ⟨rfl, rfl, rfl, by decide +kernel, rfl, by decide +kernel, by decide +kernel⟩
theorem ok_is_int {n : Bool} {P : Program} {w : World} {K : PySem.W.Frag} {mg : Str → Option Value} {base : Heap} (fc : Fc P w K mg base) {fd : FuncData} (Fd : FunD K "is_int" "is_int" (defArgs (top 16)) (defBody (top 16)) (defScope (top 16)) [] [] (ga K "is_int") fd) :
    FnD n P w K mg base 3 (ga K "is_int") (sp_is_int K) := by
  have sc := sc_is_int
  have F : FnP n P w K mg base 3 (ga K "is_int") fd ["value"] (sp_is_int K) := by
    refine fn_d Fd sc (fun ds S Q ε h => by unfold sp_is_int at h; split at h <;> first | rfl | exact h.elim) (fun cdv A outer s H E F0 ε hr cx => ⟨_, _, (ds_one (d_ret (d_andV (b_isi fc.b_int fc.f_isinstance (da_cons (d_var 0) (da_cons (d_ty fc.f_int dbt_int) da_nil))) (d_one (d_notV (b_isi fc.b_bool fc.f_isinstance (da_cons (d_var 0) (da_cons (d_ty fc.f_bool dbt_bool) da_nil)))))))), fun ds S Q h => ?_⟩)
    unfold sp_is_int at h
    split at h
    · simp [oIsi, kdOf, HX.gB, HX.tyName, h]
    · exact h.elim
  exact fnD_of0 F (Fd.bindsN (ps := ["value"]) fun _ _ _ _ _ _ us hl => match us, hl with | [_], _ => rfl)
end G
set_option Elab.async false
set_option linter.all false
set_option maxRecDepth 100000
set_option maxHeartbeats 4000000
namespace G
open PySem PySem.Spec L2 DL M
open He (ga ma)
theorem sc_is_short : FnScope ["number"] ["number"] (defScope (top 46)) := ⟨rfl, rfl, rfl, by decide +kernel, rfl, by decide +kernel, by decide +kernel⟩
theorem ok_is_short {n : Bool} {P : Program} {w : World} {K : PySem.W.Frag} {mg : Str → Option Value} {base : Heap} (fc : Fc P w K mg base) (F_is_int : ∀ n, FnD n P w K mg base 3 (ga K "is_int") (sp_is_int K)) {fd : FuncData} (Fd : FunD K "is_short" "is_short" (defArgs (top 46)) (defBody (top 46)) (defScope (top 46)) [] [] (ga K "is_short") fd) :
    FnD n P w K mg base 4 (ga K "is_short") (sp_is_short K) := by
  have sc := sc_is_short
  have F : FnP n P w K mg base 4 (ga K "is_short") fd ["number"] (sp_is_short K) := by
    refine fn_d Fd sc (fun ds S Q ε h => by unfold sp_is_short at h; split at h <;> first | rfl | exact h.elim) (fun cdv A outer s H E F0 ε hr cx => ⟨_, _, (ds_one (d_ret (d_andV (d_cal (cal_fn (F_is_int n) cx hr (by decide) (fun h => h)) fc.k_is_int (d_gref fc.g_is_int) (da_cons (d_var 0) da_nil)) (d_one (d_chain o_le o_le d_int (d_var 0) (d_gint fc.i_MOST_NUMBER.choose_spec)))))), fun ds S Q h => ?_⟩)
    unfold sp_is_short at h
    split at h
    · rename_i i
      by_cases h1 : 0 ≤ i <;> simp [sp_is_int, h1] at h ⊢ <;> exact h
    · exact h.elim
  exact fnD_of0 F (Fd.bindsN (ps := ["number"]) fun _ _ _ _ _ _ us hl => match us, hl with | [_], _ => rfl)
end G
set_option Elab.async false
set_option linter.all false
set_option maxRecDepth 100000
set_option maxHeartbeats 4000000
namespace G
open PySem PySem.Spec L2 DL M
open He (ga ma)
theorem sc_Rounds___iter__ : FnScope ["self"] ["self"] (defScope (mth (top 34) 9)) := ⟨rfl, rfl, rfl, by decide +kernel, rfl, by decide +kernel, by decide +kernel⟩
theorem ok_Rounds___iter__ {n : Bool} {P : Program} {w : World} {K : PySem.W.Frag} {mg : Str → Option Value} {base : Heap} (fc : Fc P w K mg base) {fd : FuncData} (Fd : FunD K "__iter__" "Rounds.__iter__" (defArgs (mth (top 34) 9)) (defBody (mth (top 34) 9)) (defScope (mth (top 34) 9)) [] [] (ma K (ga K "Rounds") "__iter__") fd) :
    FnI n P w K mg base 3 (ma K (ga K "Rounds") "__iter__") (sp_Rounds___iter__ K) := by
  have sc := sc_Rounds___iter__
  have hb := Fd.bindsN (ps := ["self"]) fun _ _ _ _ _ _ us hl => match us, hl with | [_], _ => rfl
  refine fn_iter Fd sc hb fc.f_iter (fun ds S Q h => by unfold sp_Rounds___iter__ at h; split at h <;> first | rfl | exact h.elim) (fun cdv A outer s H E F0 hr => ⟨rfl, rfl, _, _, (d_fld fc.c_Rounds fc.n_Rounds_own_rows (d_var 0)), fun ds S Q h => ?_⟩)
  unfold sp_Rounds___iter__ at h
  split at h
  · obtain ⟨rows, kvs, rfl, h⟩ := h
    simp [dIterE, dRounds]
    exact h
  · exact h.elim
end G
set_option Elab.async false
set_option linter.all false
set_option maxRecDepth 100000
set_option maxHeartbeats 4000000
namespace G
open PySem PySem.Spec L2 DL M
open He (ga ma)
theorem sc_is_name : FnScope ["value", "letter"] ["value"] (defScope (top 17)) := ⟨rfl, rfl, rfl, by decide +kernel, rfl, by decide +kernel, by decide +kernel⟩
theorem ok_is_name {n : Bool} {P : Program} {w : World} {K : PySem.W.Frag} {mg : Str → Option Value} {base : Heap} (fc : Fc P w K mg base) {fd : FuncData} (Fd : FunD K "is_name" "is_name" (defArgs (top 17)) (defBody (top 17)) (defScope (top 17)) [] [] (ga K "is_name") fd) :
    FnD n P w K mg base 3 (ga K "is_name") (sp_is_name K) := by
  have sc := sc_is_name
  have F : FnP n P w K mg base 3 (ga K "is_name") fd ["value"] (sp_is_name K) := by
    refine fn_d Fd sc (fun ds S Q ε h => by unfold sp_is_name at h; split at h <;> first | rfl | exact h.elim) (fun cdv A outer s H E F0 ε hr cx => ⟨_, _, (ds_cons (d_ifS (PDW.test (d_or (d_not (d_tval (b_isi fc.b_str fc.f_isinstance (da_cons (d_var 0) (da_cons (d_ty fc.f_str dbt_str) da_nil))))) (d_or1 (d_not (d_tchain o_le o_le d_int (b_len (es := []) fc.f_len (da_cons (d_var 0) da_nil)) (d_gint fc.i_MOST_LETTERS.choose_spec)))))) (ds_one (d_ret d_bl)) ds_nil) (ds_one (d_ret (b_all rfl fc.f_all (da_cons (n_lc (own := [("letter", 1)]) [("letter", 1)] rfl sc.nd (blkOk_by (by kernel_rfl)) (i_any (d_var 0)) (fun _ _ _ _ _ => ((gv_name 1 sc.nd)).re (by first | exact rfl | (dsimp only [Cx.blk]; try exact rfl))) (fun _ _ _ _ _ => (ts_nil).re (by first | exact rfl | (dsimp only [Cx.blk]; try exact rfl))) (fun _ _ _ _ _ => ((d_cmp (o_in hr) (d_var 1) (d_gstr fc.s_LETTERS.choose_spec))).re (by first | exact rfl | (dsimp only [Cx.blk]; try exact rfl)))).d da_nil))))), fun ds S Q h => ?_⟩)
    unfold sp_is_name at h
    split at h
    · rename_i z
      obtain ⟨hz, h⟩ := h
      simp [oIsi, kdOf, HX.gB, HX.tyName, hz, signs_map]
      by_cases h1 : (1 : Int) ≤ z.length <;> by_cases h2 : (z.length : Int) ≤ 8 <;> simp [isName, h1, h2] at h ⊢ <;> try exact h
      refine lc_map (fun c => D.str ⟨#[c]⟩) (fun c => D.bl (isLet c)) _ [] (fun c hc Y hY => ?_) (by simpa [Str.length] using hz) ?_
      · simpa [isLet] using hY
      · simpa using h
    · exact h.elim
  exact fnD_of0 F (Fd.bindsN (ps := ["value"]) fun _ _ _ _ _ _ us hl => match us, hl with | [_], _ => rfl)
end G
set_option Elab.async false
set_option linter.all false
set_option maxRecDepth 100000
set_option maxHeartbeats 4000000
namespace G
open PySem PySem.Spec L2 DL M
open He (ga ma)
theorem sc_is_row : FnScope ["value", "at", "name"] ["value"] (defScope (top 32)) := ⟨rfl, rfl, rfl, by decide +kernel, rfl, by decide +kernel, by decide +kernel⟩
theorem ok_is_row {n : Bool} {P : Program} {w : World} {K : PySem.W.Frag} {mg : Str → Option Value} {base : Heap} (fc : Fc P w K mg base) (F_is_name : ∀ n, FnD n P w K mg base 3 (ga K "is_name") (sp_is_name K)) {fd : FuncData} (Fd : FunD K "is_row" "is_row" (defArgs (top 32)) (defBody (top 32)) (defScope (top 32)) [] [] (ga K "is_row") fd) :
    FnD n P w K mg base 4 (ga K "is_row") (sp_is_row K) := by
  have sc := sc_is_row
  have F : FnP n P w K mg base 4 (ga K "is_row") fd ["value"] (sp_is_row K) := by
    refine fn_d Fd sc (fun ds S Q ε h => by unfold sp_is_row at h; split at h <;> first | rfl | exact h.elim) (fun cdv A outer s H E F0 ε hr cx => ⟨_, _, (ds_cons (d_ifS (PDW.test (d_or (d_not (d_tval (b_isi fc.b_tuple fc.f_isinstance (da_cons (d_var 0) (da_cons (d_ty fc.f_tuple dbt_tuple) da_nil))))) (d_or (d_tcmp o_lt (b_len (es := []) fc.f_len (da_cons (d_var 0) da_nil)) (d_gint fc.i_FEWEST.choose_spec)) (d_or1 (d_not (d_tval (b_all rfl fc.f_all (da_cons (n_lc (own := [("name", 2)]) [("name", 2)] rfl sc.nd (blkOk_by (by kernel_rfl)) (i_any (d_var 0)) (fun _ _ _ _ _ => ((gv_name 2 sc.nd)).re (by first | exact rfl | (dsimp only [Cx.blk]; try exact rfl))) (fun _ _ _ _ _ => (ts_nil).re (by first | exact rfl | (dsimp only [Cx.blk]; try exact rfl))) (fun _ _ _ _ _ => ((d_cal (cal_fn (F_is_name n) ctx0 hr (by decide) (fun h => h)) fc.k_is_name (d_gref fc.g_is_name) (da_cons (d_var 2) da_nil))).re (by first | exact rfl | (dsimp only [Cx.blk]; try exact rfl)))).d da_nil)))))))) (ds_one (d_ret d_bl)) ds_nil) (ds_cons (d_ifS (d_tval (b_any rfl fc.f_any (da_cons (n_lc (own := [("at", 1), ("name", 2)]) [("at", 1), ("name", 2)] rfl sc.nd (blkOk_by (by kernel_rfl)) (i_enumA fc.f_enumerate (da_cons (d_var 0) da_nil)) (fun _ _ _ _ _ => ((gv_tup (n := 2) rfl (gsv_cons (gv_name 1 sc.nd) (gsv_cons (gv_name 2 sc.nd) gsv_nil)))).re (by first | exact rfl | (dsimp only [Cx.blk]; try exact rfl))) (fun _ _ _ _ _ => (ts_nil).re (by first | exact rfl | (dsimp only [Cx.blk]; try exact rfl))) (fun _ _ _ _ _ => ((d_cmp (o_in hr) (d_var 2) (d_slice (d_var 0) do_none (do_some (d_var 1))))).re (by first | exact rfl | (dsimp only [Cx.blk]; try exact rfl)))).d da_nil))) (ds_one (d_ret d_bl)) ds_nil) (ds_one (d_ret (b_all rfl fc.f_all (da_cons (n_lc (own := [("name", 2)]) [("name", 2)] rfl sc.nd (blkOk_by (by kernel_rfl)) (i_any (d_var 0)) (fun _ _ _ _ _ => ((gv_name 2 sc.nd)).re (by first | exact rfl | (dsimp only [Cx.blk]; try exact rfl))) (fun _ _ _ _ _ => (ts_nil).re (by first | exact rfl | (dsimp only [Cx.blk]; try exact rfl))) (fun _ _ _ _ _ => ((d_cmp o_le (d_ix (d_var 0) d_int) (d_var 2))).re (by first | exact rfl | (dsimp only [Cx.blk]; try exact rfl)))).d da_nil)))))), fun ds S Q h => ?_⟩)
    unfold sp_is_row at h
    split at h
    · obtain ⟨ns, rfl, hz, hn, h⟩ := h
      simp [oIsi, kdOf, HX.gB, HX.tyName]
      by_cases q0 : (2 : Int) ≤ ns.length
      · rw [if_neg (by omega)]
        refine lc_map D.str (fun w => .bl (isName w)) ns [] (fun w hw Y hY => ?_) (by simp; omega) ?_
        · have := hn w hw
          simpa [sp_is_name, show w.length ≤ 16777216 by omega] using hY
        · simp
          cases q1 : ns.all isName
          · rw [if_pos (all_no q1)]
            simpa [isRow, q0, q1] using h
          · rw [if_neg (all_yes q1), enumD_map]
            refine lc_map (fun p : Str × Nat => D.tup [.int (p.2 : Nat), .str p.1]) (fun p => .bl (decide (p.1 ∈ ns.take p.2))) ns.zipIdx [] (fun p hp Y hY => ?_) (by simp; omega) ?_
            · simp [← List.map_take]
              exact hY
            · simp
              cases q2 : ns.zipIdx.any (fun p => decide (p.1 ∈ ns.take p.2))
              · rw [if_neg (by
                  intro hm
                  obtain ⟨p, hp, e⟩ := List.mem_map.mp hm
                  have := List.any_eq_false.mp q2 p hp
                  exact this e)]
                have hd : ∃ w ws, ns = w :: ws := by
                  cases ns with
                  | nil => simp at q0
                  | cons w ws => exact ⟨w, ws, rfl⟩
                obtain ⟨w0, ws0, e0⟩ := hd
                refine lc_map D.str (fun n => .bl (!decide (n.cps.toList < w0.cps.toList))) ns [] (fun w hw Y hY => ?_) (by simp; omega) ?_
                · simp [e0]
                  simpa using hY
                · simp
                  rw [show isRow ns = ns.all fun n => !decide (n.cps.toList < w0.cps.toList) by unfold isRow; rw [q1, q2, decide_eq_true q0, e0]; simp] at h
                  simp at h
                  exact h
              · rw [if_pos (by
                  obtain ⟨p, hp, e⟩ := List.any_eq_true.mp q2
                  exact List.mem_map.mpr ⟨p, hp, e⟩)]
                rw [show isRow ns = false by unfold isRow; rw [q2]; simp] at h
                exact h
      · rw [if_pos (by omega)]
        rw [show isRow ns = false by unfold isRow; rw [decide_eq_false q0]; simp] at h
        exact h
    · exact h.elim
  exact fnD_of0 F (Fd.bindsN (ps := ["value"]) fun _ _ _ _ _ _ us hl => match us, hl with | [_], _ => rfl)
end G
set_option Elab.async false
set_option linter.all false
set_option maxRecDepth 100000
set_option maxHeartbeats 4000000
namespace G
open PySem PySem.Spec L2 DL M
open He (ga ma)
theorem sc_Rounds___getitem__ : FnScope ["self", "doors"] ["self", "doors"] (defScope (mth (top 34) 5)) := ⟨rfl, rfl, rfl, by decide +kernel, rfl, by decide +kernel, by decide +kernel⟩
theorem ok_Rounds___getitem__ {n : Bool} {P : Program} {w : World} {K : PySem.W.Frag} {mg : Str → Option Value} {base : Heap} (fc : Fc P w K mg base) (F_is_row : ∀ n, FnD n P w K mg base 4 (ga K "is_row") (sp_is_row K)) {fd : FuncData} (Fd : FunD K "__getitem__" "Rounds.__getitem__" (defArgs (mth (top 34) 5)) (defBody (mth (top 34) 5)) (defScope (mth (top 34) 5)) [] [] (ma K (ga K "Rounds") "__getitem__") fd) :
    FnD n P w K mg base 5 (ma K (ga K "Rounds") "__getitem__") (sp_Rounds___getitem__ K) := by
  have sc := sc_Rounds___getitem__
  have F : FnP n P w K mg base 5 (ma K (ga K "Rounds") "__getitem__") fd ["self", "doors"] (sp_Rounds___getitem__ K) := by
    refine fn_d Fd sc (fun ds S Q ε h => by unfold sp_Rounds___getitem__ at h; split at h <;> first | rfl | exact h.elim) (fun cdv A outer s H E F0 ε hr cx => ⟨_, _, (ds_cons (d_ifS (d_not (d_tval (d_cal (cal_fn (F_is_row n) cx hr (by decide) (fun h => h)) fc.k_is_row (d_gref fc.g_is_row) (da_cons (d_var 1) da_nil)))) (ds_one (d_raise fc.x_BadRounds (by first | exact .inl rfl | exact .inr rfl) fc.g_BadRounds cx rfl hr (by decide) (da_cons d_str da_nil))) ds_nil) (ds_one (d_ret (d_dget2 hr (d_fld fc.c_Rounds fc.n_Rounds_own_parts (d_var 0)) (d_var 1) d_int)))), fun ds S Q h => ?_⟩)
    unfold sp_Rounds___getitem__ at h
    split at h
    · obtain ⟨rows, kvs, r, rfl, rfl, hb, h⟩ := h
      simp [dRounds]
      refine ⟨r, rfl, by have := hb.1; omega, fun w hw => hb.len hw, ?_⟩
      cases q : isRow r
      · simp [q, xPart] at h ⊢; exact h
      · simp [q, dGet, keysOf_strs] at h ⊢
        exact h
    · exact h.elim
  exact fnD_of0 F (Fd.bindsN (ps := ["self", "doors"]) fun _ _ _ _ _ _ us hl => match us, hl with | [_, _], _ => rfl)
end G
set_option Elab.async false
set_option linter.all false
set_option maxRecDepth 100000
set_option maxHeartbeats 4000000
namespace G
open PySem PySem.Spec L2 DL M
open He (ga ma)
theorem sc_is_plain : FnScope ["paper", "row"] ["paper"] (defScope (top 47)) := ⟨rfl, rfl, rfl, by decide +kernel, rfl, by decide +kernel, by decide +kernel⟩
theorem ok_is_plain {n : Bool} {P : Program} {w : World} {K : PySem.W.Frag} {mg : Str → Option Value} {base : Heap} (fc : Fc P w K mg base) (F_is_short : ∀ n, FnD n P w K mg base 4 (ga K "is_short") (sp_is_short K)) (F_Rounds___iter__ : ∀ n, FnI n P w K mg base 3 (ma K (ga K "Rounds") "__iter__") (sp_Rounds___iter__ K)) (F_Rounds___getitem__ : ∀ n, FnD n P w K mg base 5 (ma K (ga K "Rounds") "__getitem__") (sp_Rounds___getitem__ K)) {fd : FuncData} (Fd : FunD K "is_plain" "is_plain" (defArgs (top 47)) (defBody (top 47)) (defScope (top 47)) [] [] (ga K "is_plain") fd) :
    FnD n P w K mg base 7 (ga K "is_plain") (sp_is_plain K) := by
  have sc := sc_is_plain
  have F : FnP n P w K mg base 7 (ga K "is_plain") fd ["paper"] (sp_is_plain K) := by
    refine fn_d Fd sc (fun ds S Q ε h => by unfold sp_is_plain at h; split at h <;> first | rfl | exact h.elim) (fun cdv A outer s H E F0 ε hr cx => ⟨_, _, (ds_cons (d_ifS (PDW.test (d_or (d_not (d_tval (b_isi fc.a_Least fc.f_isinstance (da_cons (d_var 0) (da_cons (d_gref fc.g_Least) da_nil))))) (d_or (d_not (d_tval (d_cal (cal_fn (F_is_short n) cx hr (by decide) (fun h => h)) fc.k_is_short (d_gref fc.g_is_short) (da_cons (d_fld fc.c_Least fc.n_Least_cost (d_var 0)) da_nil)))) (d_or1 (d_not (d_tval (b_isi fc.a_Locks fc.f_isinstance (da_cons (d_fld fc.c_Least fc.n_Least_locks (d_var 0)) (da_cons (d_gref fc.g_Locks) da_nil))))))))) (ds_one (d_ret d_bl)) ds_nil) (ds_cons (d_ifS (PDW.test (d_or (d_not (d_tval (b_isi fc.a_Order fc.f_isinstance (da_cons (d_fld fc.c_Least fc.n_Least_order (d_var 0)) (da_cons (d_gref fc.g_Order) da_nil))))) (d_or1 (d_not (d_tval (b_isi fc.a_Rounds fc.f_isinstance (da_cons (d_fld fc.c_Least fc.n_Least_rounds (d_var 0)) (da_cons (d_gref fc.g_Rounds) da_nil)))))))) (ds_one (d_ret d_bl)) ds_nil) (ds_one (d_ret (b_all rfl fc.f_all (da_cons (n_lc (own := [("row", 1)]) [("row", 1)] rfl sc.nd (blkOk_by (by kernel_rfl)) (i_own (F_Rounds___iter__ n) fc.d_Rounds___iter__ hr (by decide) (d_fld fc.c_Least fc.n_Least_rounds (d_var 0))) (fun _ _ _ _ _ => ((gv_name 1 sc.nd)).re (by first | exact rfl | (dsimp only [Cx.blk]; try exact rfl))) (fun _ _ _ _ _ => (ts_nil).re (by first | exact rfl | (dsimp only [Cx.blk]; try exact rfl))) (fun _ _ _ _ _ => ((d_cal (cal_fn (F_is_short n) ctx0 hr (by decide) (fun h => h)) fc.k_is_short (d_gref fc.g_is_short) (da_cons (d_subI (F_Rounds___getitem__ n) fc.d_Rounds___getitem__ ctx0 hr (by decide) (d_fld fc.c_Least fc.n_Least_rounds (d_var 0)) (d_var 1) (fun h => h)) da_nil))).re (by first | exact rfl | (dsimp only [Cx.blk]; try exact rfl)))).d da_nil)))))), fun ds S Q h => ?_⟩)
    unfold sp_is_plain at h
    split at h
    · obtain ⟨cost, ns, ms, okv, rows, num, rfl, c0, c1, ⟨hl, hr⟩, h⟩ := h
      simp [dLeast, dLocks, dOrder, oIsi, kdOf, HX.gT, HX.pickC, sp_is_short, c0, c1]
      simp [dRounds, kdOf, HX.gT, HX.pickC]
      refine ⟨rows, rowKv num rows, rfl, ?_⟩
      refine lc_map tupS (fun r => .bl true) rows [] (fun r hr0 Y hY => ?_) (by simp; omega) ?_
      · obtain ⟨h1, h2, h3, h4⟩ := hr r hr0
        simp
        refine ⟨rows, rowKv num rows, r, rfl, rfl, h2, ?_⟩
        rw [h1, if_pos rfl, valD_row hr0]
        simp [sp_is_short, h3, h4]
        exact hY
      · simp
        rw [show (rows.all fun _ => true) = true from by simp]
        exact h
    · exact h.elim
  exact fnD_of0 F (Fd.bindsN (ps := ["paper"]) fun _ _ _ _ _ _ us hl => match us, hl with | [_], _ => rfl)
end G
set_option Elab.async false
set_option linter.all false
set_option maxRecDepth 100000
set_option maxHeartbeats 4000000
namespace G
open PySem PySem.Spec L2 DL M
open He (ga ma)
theorem sc_Order___str__ : FnScope ["self", "moment"] ["self"] (defScope (mth (top 29) 11)) := ⟨rfl, rfl, rfl, by decide +kernel, rfl, by decide +kernel, by decide +kernel⟩
theorem ok_Order___str__ {n : Bool} {P : Program} {w : World} {K : PySem.W.Frag} {mg : Str → Option Value} {base : Heap} (fc : Fc P w K mg base) {fd : FuncData} (Fd : FunD K "__str__" "Order.__str__" (defArgs (mth (top 29) 11)) (defBody (mth (top 29) 11)) (defScope (mth (top 29) 11)) [] [] (ma K (ga K "Order") "__str__") fd) :
    FnD n P w K mg base 3 (ma K (ga K "Order") "__str__") (sp_Order___str__ K) := by
  have sc := sc_Order___str__
  have F : FnP n P w K mg base 3 (ma K (ga K "Order") "__str__") fd ["self"] (sp_Order___str__ K) := by
    refine fn_d Fd sc (fun ds S Q ε h => by unfold sp_Order___str__ at h; split at h <;> first | rfl | exact h.elim) (fun cdv A outer s H E F0 ε hr cx => ⟨_, _, (ds_cons (d_ifS (d_tcmp (o_eq hr) (b_len (es := []) fc.f_len (da_cons (d_fld fc.c_Order fc.n_Order_own_moments (d_var 0)) da_nil)) d_int) (ds_one (d_ret d_str)) ds_nil) (ds_one (d_ret (d_join d_str (n_lc (own := [("moment", 1)]) [("moment", 1)] rfl sc.nd (blkOk_by (by kernel_rfl)) (i_any (d_fld fc.c_Order fc.n_Order_own_moments (d_var 0))) (fun _ _ _ _ _ => ((gv_name 1 sc.nd)).re (by first | exact rfl | (dsimp only [Cx.blk]; try exact rfl))) (fun _ _ _ _ _ => (ts_nil).re (by first | exact rfl | (dsimp only [Cx.blk]; try exact rfl))) (fun _ _ _ _ _ => ((d_join d_str (d_var 1))).re (by first | exact rfl | (dsimp only [Cx.blk]; try exact rfl)))).d)))), fun ds S Q h => ?_⟩)
    unfold sp_Order___str__ at h
    split at h
    · obtain ⟨ms, kvs, rfl, hl, hs, h⟩ := h
      simp [dOrder]
      by_cases e : ms = []
      · subst e; simpa [ordText] using h
      · simp [e]
        refine lc_map tupS (fun m => D.str (Txt.join "," m)) ms [] (fun w hw Y hY => ?_) (by simp; omega) ?_
        · obtain ⟨a, b⟩ := hs w hw
          simp [tupS]
          exact ⟨by omega, hY⟩
        · simp
          have h1 := sum_le (xs := ms) (f := fun m => (Txt.join "," m).length) (B := 8000) fun m hm => by
            have a := join_len "," m
            have b := hs m hm
            simp at a
            omega
          have h2 : ms.length * 8000 ≤ 400 * 8000 := Nat.mul_le_mul_right _ hl
          simp only [Function.comp_def]
          exact ⟨by omega, by simpa [ordText, e] using h⟩
    · exact h.elim
  exact fnD_of0 F (Fd.bindsN (ps := ["self"]) fun _ _ _ _ _ _ us hl => match us, hl with | [_], _ => rfl)
end G
set_option Elab.async false
set_option linter.all false
set_option maxRecDepth 100000
set_option maxHeartbeats 4000000
namespace G
open PySem PySem.Spec L2 DL M
open He (ga ma)
theorem sc_Locks___str__ : FnScope ["self", "name"] ["self"] (defScope (mth (top 23) 15)) := ⟨rfl, rfl, rfl, by decide +kernel, rfl, by decide +kernel, by decide +kernel⟩
theorem ok_Locks___str__ {n : Bool} {P : Program} {w : World} {K : PySem.W.Frag} {mg : Str → Option Value} {base : Heap} (fc : Fc P w K mg base) {fd : FuncData} (Fd : FunD K "__str__" "Locks.__str__" (defArgs (mth (top 23) 15)) (defBody (mth (top 23) 15)) (defScope (mth (top 23) 15)) [] [] (ma K (ga K "Locks") "__str__") fd) :
    FnD n P w K mg base 3 (ma K (ga K "Locks") "__str__") (sp_Locks___str__ K) := by
  have sc := sc_Locks___str__
  have F : FnP n P w K mg base 3 (ma K (ga K "Locks") "__str__") fd ["self"] (sp_Locks___str__ K) := by
    refine fn_d Fd sc (fun ds S Q ε h => by unfold sp_Locks___str__ at h; split at h <;> first | rfl | exact h.elim) (fun cdv A outer s H E F0 ε hr cx => ⟨_, _, (ds_cons (d_ifS (d_tcmp (o_eq hr) (d_fld fc.c_Locks fc.n_Locks_own_names (d_var 0)) (d_tup da_nil)) (ds_one (d_ret d_str)) ds_nil) (ds_one (d_ret (d_join d_str (n_lc (own := [("name", 1)]) [("name", 1)] rfl sc.nd (blkOk_by (by kernel_rfl)) (i_any (d_fld fc.c_Locks fc.n_Locks_own_names (d_var 0))) (fun _ _ _ _ _ => ((gv_name 1 sc.nd)).re (by first | exact rfl | (dsimp only [Cx.blk]; try exact rfl))) (fun _ _ _ _ _ => (ts_nil).re (by first | exact rfl | (dsimp only [Cx.blk]; try exact rfl))) (fun _ _ _ _ _ => ((b_str fc.f_str (da_cons (d_var 1) da_nil))).re (by first | exact rfl | (dsimp only [Cx.blk]; try exact rfl)))).d)))), fun ds S Q h => ?_⟩)
    unfold sp_Locks___str__ at h
    split at h
    · obtain ⟨ns, rfl, hl, hs, h⟩ := h
      simp [dLocks, tupS]
      by_cases e : ns = []
      · subst e; simpa [locksText] using h
      · simp [e]
        refine lc_map D.str D.str ns [] (fun w hw Y hY => by simpa using hY) (by simp; omega) ?_
        simp
        exact ⟨by omega, by simpa [locksText, e] using h⟩
    · exact h.elim
  exact fnD_of0 F (Fd.bindsN (ps := ["self"]) fun _ _ _ _ _ _ us hl => match us, hl with | [_], _ => rfl)
end G
set_option Elab.async false
set_option linter.all false
set_option maxRecDepth 100000
set_option maxHeartbeats 4000000
namespace G
open PySem PySem.Spec L2 DL M
open He (ga ma)
theorem sc_least_text : FnScope ["paper", "rounds", "lines", "row"] ["paper"] (defScope (top 48)) := ⟨rfl, rfl, rfl, by decide +kernel, rfl, by decide +kernel, by decide +kernel⟩
theorem ok_least_text {n : Bool} {P : Program} {w : World} {K : PySem.W.Frag} {mg : Str → Option Value} {base : Heap} (fc : Fc P w K mg base) (F_is_plain : ∀ n, FnD n P w K mg base 7 (ga K "is_plain") (sp_is_plain K)) (F_Rounds___iter__ : ∀ n, FnI n P w K mg base 3 (ma K (ga K "Rounds") "__iter__") (sp_Rounds___iter__ K)) (F_Rounds___getitem__ : ∀ n, FnD n P w K mg base 5 (ma K (ga K "Rounds") "__getitem__") (sp_Rounds___getitem__ K)) (F_Order___str__ : ∀ n, FnD n P w K mg base 3 (ma K (ga K "Order") "__str__") (sp_Order___str__ K)) (F_Locks___str__ : ∀ n, FnD n P w K mg base 3 (ma K (ga K "Locks") "__str__") (sp_Locks___str__ K)) {fd : FuncData} (Fd : FunD K "least_text" "least_text" (defArgs (top 48)) (defBody (top 48)) (defScope (top 48)) [] [] (ga K "least_text") fd) :
    FnD n P w K mg base 8 (ga K "least_text") (sp_least_text K) := by
  have sc := sc_least_text
  have F : FnP n P w K mg base 8 (ga K "least_text") fd ["paper"] (sp_least_text K) := by
    refine fn_d Fd sc (fun ds S Q ε h => by unfold sp_least_text at h; split at h <;> first | rfl | exact h.elim) (fun cdv A outer s H E F0 ε hr cx => ⟨_, _, (ds_cons (d_ifS (d_not (d_tval (d_cal (cal_fn (F_is_plain n) cx hr (by decide) (fun h => h)) fc.k_is_plain (d_gref fc.g_is_plain) (da_cons (d_var 0) da_nil)))) (ds_one (d_raise fc.x_BadHouse (by first | exact .inl rfl | exact .inr rfl) fc.g_BadHouse cx rfl hr (by decide) (da_cons d_str da_nil))) ds_nil) (ds_cons (d_set 1 sc.nd (d_fld fc.c_Least fc.n_Least_rounds (d_var 0))) (ds_cons (n_setLc (own := [("row", 3)]) 2 [("row", 3)] rfl sc.nd (blkOk_by (by kernel_rfl)) (i_own (F_Rounds___iter__ n) fc.d_Rounds___iter__ hr (by decide) (d_var 1)) (fun _ _ _ _ _ => ((gv_name 3 sc.nd)).re (by first | exact rfl | (dsimp only [Cx.blk]; try exact rfl))) (fun _ _ _ _ _ => (ts_nil).re (by first | exact rfl | (dsimp only [Cx.blk]; try exact rfl))) (fun _ _ _ _ _ => ((d_join d_str (n_lst (da_cons (b_str fc.f_str (da_cons (d_subI (F_Rounds___getitem__ n) fc.d_Rounds___getitem__ ctx0 hr (by decide) (d_var 1) (d_var 3) (fun h => h)) da_nil)) (da_star (d_var 3) da_nil))).d)).re (by first | exact rfl | (dsimp only [Cx.blk]; try exact rfl)))).d (ds_one (d_ret (d_join d_str (n_lst (da_cons (d_joined (.cons d_str (.cons (d_fmt (d_fld fc.c_Least fc.n_Least_cost (d_var 0))) DJ.nil))) (da_cons (b_strIns (F_Locks___str__ n) fc.d_Locks___str__ hr (by decide) fc.f_str (da_cons (d_fld fc.c_Least fc.n_Least_locks (d_var 0)) da_nil)) (da_cons (b_strIns (F_Order___str__ n) fc.d_Order___str__ hr (by decide) fc.f_str (da_cons (d_fld fc.c_Least fc.n_Least_order (d_var 0)) da_nil)) (da_star (d_var 2) da_nil))))).d)))))), fun ds S Q h => ?_⟩)
    unfold sp_least_text at h
    split at h
    · obtain ⟨cost, ns, ms, okv, rows, num, rfl, c0, c1, hP, n1, n2, m1, m2, r1, h⟩ := h
      obtain ⟨hl, hr⟩ := id hP
      simp
      refine ⟨cost, ns, ms, okv, rows, num, rfl, c0, c1, hP, ?_⟩
      simp
      refine ⟨rows, rowKv num rows, rfl, ?_⟩
      refine lc_map tupS (fun r => D.str (Txt.join " " ((toString (num r) : Str) :: r))) rows [] (fun r hr0 Y hY => ?_) (by simp; omega) ?_
      · obtain ⟨h1, h2, h3, h4⟩ := hr r hr0
        have g1 := num_len h3 h4
        have g2 := h2.1
        have g3 := h2.2
        simp
        refine ⟨rows, rowKv num rows, r, rfl, rfl, h2, ?_⟩
        rw [h1, if_pos rfl, valD_row hr0]
        simp [num_log h3 h4]
        refine ⟨by omega, ?_, hY⟩
        have g4 : (Str.ofString (num r).repr).length ≤ 12 := g1
        omega
      · have k1 : (Str.empty ++ ("least " : Str)).length = 6 := by decide +kernel
        have k2 := num_len c0 c1
        have k3 : ((Str.empty ++ ("least " : Str)) ++ (Str.ofString (toString cost))).length ≤ 18 := by rw [app_len, k1]; omega
        have k4 := locksText_len (ns := ns)
        have k5 := ordText_len (ms := ms) (B := 8000) fun m hm => by have := m2 m hm; omega
        have k6 : (rows.map fun r => (Txt.join " " ((toString (num r) : Str) :: r)).length).sum ≤ rows.length * 4200 := sum_le fun r hr0 => by
          obtain ⟨h1, h2, h3, h4⟩ := hr r hr0
          have g1 := num_len h3 h4
          have g2 := h2.1
          have g3 := h2.2
          have := join_len " " ((toString (num r) : Str) :: r)
          simp only [List.map_cons, List.sum_cons, List.length_cons, ln_s] at this
          omega
        have k7 : (rows.map ((fun x : Str => x.length) ∘ fun r => Txt.join " " (Str.ofString (num r).repr :: r))).sum ≤ rows.length * 4200 := k6
        have k8 : ms.length * 8001 ≤ 400 * 8001 := Nat.mul_le_mul_right _ m1
        have k9 : rows.length * 4200 ≤ 400 * 4200 := Nat.mul_le_mul_right _ r1
        have k10 : ((Str.empty ++ ("least " : Str)) ++ (Str.ofString cost.repr)).length ≤ 18 := k3
        simp [num_log c0 c1]
        refine ⟨by rw [k1]; omega, by omega, ns, rfl, n1, n2, _, rfl, ms, okv, rfl, m1, m2, _, rfl, by omega, by omega, h⟩
    · exact h.elim
  exact fnD_of0 F (Fd.bindsN (ps := ["paper"]) fun _ _ _ _ _ _ us hl => match us, hl with | [_], _ => rfl)
end G
set_option Elab.async false
set_option linter.all false
set_option maxRecDepth 100000
set_option maxHeartbeats 4000000
namespace G
open PySem PySem.Spec L2 DL M
open He (ga ma)
theorem sc_Page___init__ : FnScope ["self", "text", "row"] ["self", "text"] (defScope (mth (top 43) 0)) := ⟨rfl, rfl, rfl, by decide +kernel, rfl, by decide +kernel, by decide +kernel⟩
theorem ok_Page___init__ {n : Bool} {P : Program} {w : World} {K : PySem.W.Frag} {mg : Str → Option Value} {base : Heap} (fc : Fc P w K mg base) {fd : FuncData} (Fd : FunD K "__init__" "Page.__init__" (defArgs (mth (top 43) 0)) (defBody (mth (top 43) 0)) (defScope (mth (top 43) 0)) [] [] (ma K (ga K "Page") "__init__") fd) :
    FnD n P w K mg base 3 (ma K (ga K "Page") "__init__") (sp_Page___init__ K) := by
  have sc := sc_Page___init__
  have F : FnP n P w K mg base 3 (ma K (ga K "Page") "__init__") fd ["self", "text"] (sp_Page___init__ K) := by
    refine fn_d Fd sc (fun ds S Q ε h => by unfold sp_Page___init__ at h; split at h <;> first | rfl | exact h.elim) (fun cdv A outer s H E F0 ε hr cx => ⟨_, _, (ds_cons (d_ifS (d_not (d_tval (b_isi fc.b_str fc.f_isinstance (da_cons (d_var 1) (da_cons (d_ty fc.f_str dbt_str) da_nil))))) (ds_one (d_raise fc.x_BadText (by first | exact .inl rfl | exact .inr rfl) fc.g_BadText cx rfl hr (by decide) (da_cons d_int (da_cons d_int da_nil)))) ds_nil) (ds_cons (d_setfld fc.c_Page fc.n_Page_rows (d_var 0) (n_lc (own := [("row", 2)]) [("row", 2)] rfl sc.nd (blkOk_by (by kernel_rfl)) (i_any (n_split (d_var 1) d_str).d) (fun _ _ _ _ _ => ((gv_name 2 sc.nd)).re (by first | exact rfl | (dsimp only [Cx.blk]; try exact rfl))) (fun _ _ _ _ _ => (ts_nil).re (by first | exact rfl | (dsimp only [Cx.blk]; try exact rfl))) (fun _ _ _ _ _ => ((n_split (d_var 2) d_str).d).re (by first | exact rfl | (dsimp only [Cx.blk]; try exact rfl)))).d) (ds_cons (d_setfld fc.c_Page fc.n_Page_at (d_var 0) d_int) (ds_one (d_setfld fc.c_Page fc.n_Page_spot (d_var 0) d_int))))), fun ds S Q h => ?_⟩)
    unfold sp_Page___init__ at h
    split at h
    · rename_i a z
      obtain ⟨dx, hp, hz, h⟩ := h
      have hc := sp_cnt (x := z) (y := "\n") (by rw [ln_n]; exact Nat.le_refl _)
      simp [oIsi, kdOf, HX.gB, HX.tyName]
      refine ⟨by omega, ?_⟩
      refine lc_map D.str (fun l => strL (Txt.split l " ")) (Txt.split z "\n") [] (fun w hw Y hY => ?_) (by simp; omega) ?_
      · have := sp_len (by rw [ln_n]; exact Nat.le_refl _) hw
        simp
        exact ⟨by omega, hY⟩
      · simp [hp, and_assoc]
        simpa [oPage, mRows, Function.comp_def] using h
    · rename_i a x hx
      obtain ⟨hk, h⟩ := h
      simp at hk
      rcases hk with e | e | e | e | e | e | e | e <;> simp [oIsi, e, HX.gB, HX.tyName, HX.pickC] <;> first | exact h | (split <;> simp <;> exact h)
    · exact h.elim
  exact fnD_of0 F (Fd.bindsN (ps := ["self", "text"]) fun _ _ _ _ _ _ us hl => match us, hl with | [_, _], _ => rfl)
end G
set_option Elab.async false
set_option linter.all false
set_option maxRecDepth 100000
set_option maxHeartbeats 4000000
namespace G
open PySem PySem.Spec L2 DL M
open He (ga ma)
theorem sc_Page_is_over : FnScope ["self"] ["self"] (defScope (mth (top 43) 1)) := ⟨rfl, rfl, rfl, by decide +kernel, rfl, by decide +kernel, by decide +kernel⟩
theorem ok_Page_is_over {n : Bool} {P : Program} {w : World} {K : PySem.W.Frag} {mg : Str → Option Value} {base : Heap} (fc : Fc P w K mg base) {fd : FuncData} (Fd : FunD K "is_over" "Page.is_over" (defArgs (mth (top 43) 1)) (defBody (mth (top 43) 1)) (defScope (mth (top 43) 1)) [] [] (ma K (ga K "Page") "is_over") fd) :
    FnD n P w K mg base 3 (ma K (ga K "Page") "is_over") (sp_Page_is_over K) := by
  have sc := sc_Page_is_over
  have F : FnP n P w K mg base 3 (ma K (ga K "Page") "is_over") fd ["self"] (sp_Page_is_over K) := by
    refine fn_d Fd sc (fun ds S Q ε h => by unfold sp_Page_is_over at h; split at h <;> first | rfl | exact h.elim) (fun cdv A outer s H E F0 ε hr cx => ⟨_, _, (ds_one (d_ret (d_cmp o_ge (d_fld fc.c_Page fc.n_Page_at (d_var 0)) (b_len (es := []) fc.f_len (da_cons (d_fld fc.c_Page fc.n_Page_rows (d_var 0)) da_nil))))), fun ds S Q h => ?_⟩)
    unfold sp_Page_is_over at h
    split at h
    · obtain ⟨dx, rows, i, j, hp, h⟩ := h
      simp [ins_at hp, oPage]
      simpa using h
    · exact h.elim
  exact fnD_of0 F (Fd.bindsN (ps := ["self"]) fun _ _ _ _ _ _ us hl => match us, hl with | [_], _ => rfl)
end G
set_option Elab.async false
set_option linter.all false
set_option maxRecDepth 100000
set_option maxHeartbeats 4000000
namespace G
open PySem PySem.Spec L2 DL M
open He (ga ma)
theorem sc_Page_upcoming : FnScope ["self"] ["self"] (defScope (mth (top 43) 2)) := ⟨rfl, rfl, rfl, by decide +kernel, rfl, by decide +kernel, by decide +kernel⟩
theorem ok_Page_upcoming {n : Bool} {P : Program} {w : World} {K : PySem.W.Frag} {mg : Str → Option Value} {base : Heap} (fc : Fc P w K mg base) (F_Page_is_over : ∀ n, FnD n P w K mg base 3 (ma K (ga K "Page") "is_over") (sp_Page_is_over K)) {fd : FuncData} (Fd : FunD K "upcoming" "Page.upcoming" (defArgs (mth (top 43) 2)) (defBody (mth (top 43) 2)) (defScope (mth (top 43) 2)) [] [] (ma K (ga K "Page") "upcoming") fd) :
    FnD n P w K mg base 4 (ma K (ga K "Page") "upcoming") (sp_Page_upcoming K) := by
  have sc := sc_Page_upcoming
  have F : FnP n P w K mg base 4 (ma K (ga K "Page") "upcoming") fd ["self"] (sp_Page_upcoming K) := by
    refine fn_d Fd sc (fun ds S Q ε h => by unfold sp_Page_upcoming at h; split at h <;> first | rfl | exact h.elim) (fun cdv A outer s H E F0 ε hr cx => ⟨_, _, (ds_cons (d_ifS (PDW.test (d_or (d_tval (d_meth0 fc.c_Page fc.e_Page_is_over (cal_fn (F_Page_is_over n) cx hr (by decide) (fun h => h)) (d_var 0))) (d_or1 (d_tcmp o_ge (d_fld fc.c_Page fc.n_Page_spot (d_var 0)) (b_len (es := []) fc.f_len (da_cons (d_ix (d_fld fc.c_Page fc.n_Page_rows (d_var 0)) (d_fld fc.c_Page fc.n_Page_at (d_var 0))) da_nil)))))) (ds_one (d_ret d_non)) ds_nil) (ds_one (d_ret (d_ix (d_ix (d_fld fc.c_Page fc.n_Page_rows (d_var 0)) (d_fld fc.c_Page fc.n_Page_at (d_var 0))) (d_fld fc.c_Page fc.n_Page_spot (d_var 0)))))), fun ds S Q h => ?_⟩)
    unfold sp_Page_upcoming at h
    split at h
    · obtain ⟨dx, rows, i, j, hp, h⟩ := h
      simp [ins_at hp]
      refine ⟨dx, rows, i, j, hp, ?_⟩
      by_cases q : rows.length ≤ i
      · rw [show upc rows i j = none by unfold upc; rw [List.getElem?_eq_none q]; rfl] at h
        simpa [q, optS] using h
      · have hi : i < rows.length := by omega
        simp [ins_at hp, q, hi, strL]
        by_cases q2 : (rows[i]).length ≤ j
        · rw [show upc rows i j = none by unfold upc; rw [List.getElem?_eq_getElem hi]; exact List.getElem?_eq_none q2] at h
          simpa [q2, optS] using h
        · have hj : j < (rows[i]).length := by omega
          rw [show upc rows i j = some (rows[i])[j] by unfold upc; rw [List.getElem?_eq_getElem hi]; exact List.getElem?_eq_getElem hj] at h
          simp [q2, ins_at hp, hi, hj, strL]
          exact h
    · exact h.elim
  exact fnD_of0 F (Fd.bindsN (ps := ["self"]) fun _ _ _ _ _ _ us hl => match us, hl with | [_], _ => rfl)
end G
set_option Elab.async false
set_option linter.all false
set_option maxRecDepth 100000
set_option maxHeartbeats 4000000
namespace G
open PySem PySem.Spec L2 DL M
open He (ga ma)
theorem sc_Page_refuse : FnScope ["self"] ["self"] (defScope (mth (top 43) 3)) := ⟨rfl, rfl, rfl, by decide +kernel, rfl, by decide +kernel, by decide +kernel⟩
theorem ok_Page_refuse {n : Bool} {P : Program} {w : World} {K : PySem.W.Frag} {mg : Str → Option Value} {base : Heap} (fc : Fc P w K mg base) {fd : FuncData} (Fd : FunD K "refuse" "Page.refuse" (defArgs (mth (top 43) 3)) (defBody (mth (top 43) 3)) (defScope (mth (top 43) 3)) [] [] (ma K (ga K "Page") "refuse") fd) :
    FnD n P w K mg base 3 (ma K (ga K "Page") "refuse") (sp_Page_refuse K) := by
  have sc := sc_Page_refuse
  have F : FnP n P w K mg base 3 (ma K (ga K "Page") "refuse") fd ["self"] (sp_Page_refuse K) := by
    refine fn_d Fd sc (fun ds S Q ε h => by unfold sp_Page_refuse at h; split at h <;> first | rfl | exact h.elim) (fun cdv A outer s H E F0 ε hr cx => ⟨_, _, (ds_one (d_raise fc.x_BadText (by first | exact .inl rfl | exact .inr rfl) fc.g_BadText cx rfl hr (by decide) (da_cons (d_fld fc.c_Page fc.n_Page_at (d_var 0)) (da_cons (d_fld fc.c_Page fc.n_Page_spot (d_var 0)) da_nil)))), fun ds S Q h => ?_⟩)
    unfold sp_Page_refuse at h
    split at h
    · obtain ⟨dx, rows, i, j, hp, h⟩ := h
      simp [ins_at hp, oPage]
      exact h
    · exact h.elim
  exact fnD_of0 F (Fd.bindsN (ps := ["self"]) fun _ _ _ _ _ _ us hl => match us, hl with | [_], _ => rfl)
end G
set_option Elab.async false
set_option linter.all false
set_option maxRecDepth 100000
set_option maxHeartbeats 4000000
namespace G
open PySem PySem.Spec L2 DL M
open He (ga ma)
theorem sc_Page_skip : FnScope ["self", "word"] ["self"] (defScope (mth (top 43) 4)) := ⟨rfl, rfl, rfl, by decide +kernel, rfl, by decide +kernel, by decide +kernel⟩
theorem ok_Page_skip {n : Bool} {P : Program} {w : World} {K : PySem.W.Frag} {mg : Str → Option Value} {base : Heap} (fc : Fc P w K mg base) (F_Page_upcoming : ∀ n, FnD n P w K mg base 4 (ma K (ga K "Page") "upcoming") (sp_Page_upcoming K)) {fd : FuncData} (Fd : FunD K "skip" "Page.skip" (defArgs (mth (top 43) 4)) (defBody (mth (top 43) 4)) (defScope (mth (top 43) 4)) [] [] (ma K (ga K "Page") "skip") fd) :
    FnD n P w K mg base 5 (ma K (ga K "Page") "skip") (sp_Page_skip K) := by
  have sc := sc_Page_skip
  have F : FnP n P w K mg base 5 (ma K (ga K "Page") "skip") fd ["self"] (sp_Page_skip K) := by
    refine fn_d Fd sc (fun ds S Q ε h => by unfold sp_Page_skip at h; split at h <;> first | rfl | exact h.elim) (fun cdv A outer s H E F0 ε hr cx => ⟨_, _, (ds_cons (d_set 1 sc.nd (d_meth0 fc.c_Page fc.e_Page_upcoming (cal_fn (F_Page_upcoming n) cx hr (by decide) (fun h => h)) (d_var 0))) (ds_cons (d_augfld fc.c_Page fc.n_Page_spot (d_var 0) d_int) (ds_one (d_ret (d_var 1))))), fun ds S Q h => ?_⟩)
    unfold sp_Page_skip at h
    split at h
    · obtain ⟨dx, rows, i, j, hp, h⟩ := h
      simp [ins_at hp]
      refine ⟨dx, rows, i, j, hp, ?_⟩
      simp [hp, oPage, and_assoc]
      exact h
    · exact h.elim
  exact fnD_of0 F (Fd.bindsN (ps := ["self"]) fun _ _ _ _ _ _ us hl => match us, hl with | [_], _ => rfl)
end G
set_option Elab.async false
set_option linter.all false
set_option maxRecDepth 100000
set_option maxHeartbeats 4000000
namespace G
open PySem PySem.Spec L2 DL M
open He (ga ma)
theorem sc_Page_take : FnScope ["self", "is_right"] ["self", "is_right"] (defScope (mth (top 43) 5)) := ⟨rfl, rfl, rfl, by decide +kernel, rfl, by decide +kernel, by decide +kernel⟩
theorem ok_Page_take {n : Bool} {P : Program} {w : World} {K : PySem.W.Frag} {mg : Str → Option Value} {base : Heap} (fc : Fc P w K mg base) (F_Page_upcoming : ∀ n, FnD n P w K mg base 4 (ma K (ga K "Page") "upcoming") (sp_Page_upcoming K)) (F_Page_refuse : ∀ n, FnD n P w K mg base 3 (ma K (ga K "Page") "refuse") (sp_Page_refuse K)) (F_Page_skip : ∀ n, FnD n P w K mg base 5 (ma K (ga K "Page") "skip") (sp_Page_skip K)) {fd : FuncData} (Fd : FunD K "take" "Page.take" (defArgs (mth (top 43) 5)) (defBody (mth (top 43) 5)) (defScope (mth (top 43) 5)) [] [] (ma K (ga K "Page") "take") fd) :
    FnD n P w K mg base 6 (ma K (ga K "Page") "take") (sp_Page_take K) := by
  have sc := sc_Page_take
  have F : FnP n P w K mg base 6 (ma K (ga K "Page") "take") fd ["self", "is_right"] (sp_Page_take K) := by
    refine fn_d Fd sc (fun ds S Q ε h => by unfold sp_Page_take at h; split at h <;> first | rfl | exact h.elim) (fun cdv A outer s H E F0 ε hr cx => ⟨_, _, (ds_cons (d_ifS (PDW.test (d_or (d_tcmp o_is (d_meth0 fc.c_Page fc.e_Page_upcoming (cal_fn (F_Page_upcoming n) cx hr (by decide) (fun h => h)) (d_var 0)) d_non) (d_or1 (d_not (d_tval (d_var 1)))))) (ds_one (d_expr (d_meth0 fc.c_Page fc.e_Page_refuse (cal_fn (F_Page_refuse n) cx hr (by decide) (fun h => h)) (d_var 0)))) ds_nil) (ds_one (d_ret (d_meth0 fc.c_Page fc.e_Page_skip (cal_fn (F_Page_skip n) cx hr (by decide) (fun h => h)) (d_var 0))))), fun ds S Q h => ?_⟩)
    unfold sp_Page_take at h
    split at h
    · rename_i a b
      obtain ⟨dx, rows, i, j, hp, h⟩ := h
      simp [ins_at hp]
      refine ⟨dx, rows, i, j, hp, ?_⟩
      cases q : upc rows i j with
      | none =>
        simp [q, optS, ins_at hp] at h ⊢
        exact ⟨dx, rows, i, j, hp, h⟩
      | some z =>
        cases b with
        | false =>
          simp [q, optS, ins_at hp] at h ⊢
          exact ⟨dx, rows, i, j, hp, h⟩
        | true =>
          simp [q, optS, ins_at hp] at h ⊢
          exact ⟨dx, rows, i, j, hp, by rw [q]; exact h⟩
    · exact h.elim
  exact fnD_of0 F (Fd.bindsN (ps := ["self", "is_right"]) fun _ _ _ _ _ _ us hl => match us, hl with | [_, _], _ => rfl)
end G
set_option Elab.async false
set_option linter.all false
set_option maxRecDepth 100000
set_option maxHeartbeats 4000000
namespace G
open PySem PySem.Spec L2 DL M
open He (ga ma)
theorem sc_Page_take_of : FnScope ["self", "words"] ["self", "words"] (defScope (mth (top 43) 6)) := ⟨rfl, rfl, rfl, by decide +kernel, rfl, by decide +kernel, by decide +kernel⟩
theorem ok_Page_take_of {n : Bool} {P : Program} {w : World} {K : PySem.W.Frag} {mg : Str → Option Value} {base : Heap} (fc : Fc P w K mg base) (F_Page_take : ∀ n, FnD n P w K mg base 6 (ma K (ga K "Page") "take") (sp_Page_take K)) (F_Page_upcoming : ∀ n, FnD n P w K mg base 4 (ma K (ga K "Page") "upcoming") (sp_Page_upcoming K)) {fd : FuncData} (Fd : FunD K "take_of" "Page.take_of" (defArgs (mth (top 43) 6)) (defBody (mth (top 43) 6)) (defScope (mth (top 43) 6)) [] [] (ma K (ga K "Page") "take_of") fd) :
    FnD n P w K mg base 7 (ma K (ga K "Page") "take_of") (sp_Page_take_of K) := by
  have sc := sc_Page_take_of
  have F : FnP n P w K mg base 7 (ma K (ga K "Page") "take_of") fd ["self", "words"] (sp_Page_take_of K) := by
    refine fn_d Fd sc (fun ds S Q ε h => by unfold sp_Page_take_of at h; split at h <;> first | rfl | exact h.elim) (fun cdv A outer s H E F0 ε hr cx => ⟨_, _, (ds_one (d_ret (d_meth fc.c_Page fc.e_Page_take (cal_fn (F_Page_take n) cx hr (by decide) (fun h => h)) (d_var 0) (da_cons (d_cmp (o_in hr) (d_meth0 fc.c_Page fc.e_Page_upcoming (cal_fn (F_Page_upcoming n) cx hr (by decide) (fun h => h)) (d_var 0)) (d_var 1)) da_nil)))), fun ds S Q h => ?_⟩)
    unfold sp_Page_take_of at h
    split at h
    · rename_i a xs
      obtain ⟨dx, rows, i, j, ws, rfl, hp, h⟩ := h
      simp [ins_at hp]
      refine ⟨dx, rows, i, j, hp, ?_⟩
      cases q : upc rows i j with
      | none =>
        simp [q, optS] at h ⊢
        exact ⟨dx, rows, i, j, hp, by rw [q]; exact h⟩
      | some z =>
        simp [q, optS] at h ⊢
        refine ⟨dx, rows, i, j, hp, ?_⟩
        by_cases q2 : z ∈ ws
        · simp [q, q2] at h ⊢; exact h
        · simp [q, q2] at h ⊢; exact h
    · exact h.elim
  exact fnD_of0 F (Fd.bindsN (ps := ["self", "words"]) fun _ _ _ _ _ _ us hl => match us, hl with | [_, _], _ => rfl)
end G
set_option Elab.async false
set_option linter.all false
set_option maxRecDepth 100000
set_option maxHeartbeats 4000000
namespace G
open PySem PySem.Spec L2 DL M
open He (ga ma)
theorem sc_number_in : FnScope ["word", "least", "most", "figures", "number", "sign"] ["word", "least", "most"] (defScope (top 42)) := ⟨rfl, rfl, rfl, by decide +kernel, rfl, by decide +kernel, by decide +kernel⟩
theorem ok_number_in {n : Bool} {P : Program} {w : World} {K : PySem.W.Frag} {mg : Str → Option Value} {base : Heap} (fc : Fc P w K mg base) {fd : FuncData} (Fd : FunD K "number_in" "number_in" (defArgs (top 42)) (defBody (top 42)) (defScope (top 42)) [] [] (ga K "number_in") fd) :
    FnD n P w K mg base 3 (ga K "number_in") (sp_number_in K) := by
  have sc := sc_number_in
  have F : FnP n P w K mg base 3 (ga K "number_in") fd ["word", "least", "most"] (sp_number_in K) := by
    refine fn_d Fd sc (fun ds S Q ε h => by unfold sp_number_in at h; split at h <;> first | rfl | exact h.elim) (fun cdv A outer s H E F0 ε hr cx => ⟨_, _, (ds_cons (d_set 3 sc.nd (d_if (PDW.test (d_and (d_tcmp o_isnot (d_var 0) d_non) (d_and1 (d_tcmp (o_eq hr) (d_slice (d_var 0) do_none (do_some d_int)) d_str)))) (d_slice (d_var 0) (do_some d_int) do_none) (d_var 0))) (ds_cons (d_ifS (PDW.test (d_or (d_tcmp o_is (d_var 3) d_non) (d_or (d_not (d_tchain o_le o_le d_int (b_len (es := []) fc.f_len (da_cons (d_var 3) da_nil)) (d_gint fc.i_MOST_FIGURES.choose_spec))) (d_or1 (d_tval (b_any rfl fc.f_any (da_cons (n_lc (own := [("sign", 5)]) [("sign", 5)] rfl sc.nd (blkOk_by (by kernel_rfl)) (i_any (d_var 3)) (fun _ _ _ _ _ => ((gv_name 5 sc.nd)).re (by first | exact rfl | (dsimp only [Cx.blk]; try exact rfl))) (fun _ _ _ _ _ => (ts_nil).re (by first | exact rfl | (dsimp only [Cx.blk]; try exact rfl))) (fun _ _ _ _ _ => ((d_cmp (o_notin hr) (d_var 5) (d_gstr fc.s_FIGURES.choose_spec))).re (by first | exact rfl | (dsimp only [Cx.blk]; try exact rfl)))).d da_nil))))))) (ds_one (d_ret d_non)) ds_nil) (ds_cons (d_set 4 sc.nd (b_int fc.f_int (da_cons (d_var 0) da_nil))) (ds_one (d_ret (d_if (PDW.test (d_and (d_tcmp (o_eq hr) (b_str fc.f_str (da_cons (d_var 4) da_nil)) (d_var 0)) (d_and1 (d_tchain o_le o_le (d_var 1) (d_var 4) (d_var 2))))) (d_var 4) d_non)))))), fun ds S Q h => ?_⟩)
    unfold sp_number_in at h
    split at h
    · rename_i z lo hi
      obtain ⟨hz, h⟩ := h
      have tail : ∀ fs : Str, fs = figs z → fs.length ≤ 4000 → (if 1 ≤ (fs.length : Int) then if (fs.length : Int) ≤ 12 then
          dLcL (dgName 5) dYes (dOp (opIn true) (dVar 5) (dC (D.str (Str.ofString "0123456789")))) [some (D.str z), some (D.int lo), some (D.int hi), some (D.str fs), none, none]
            (fun xs S1 => ∃ bs, blsOf xs = some bs ∧ if true ∈ bs then Q D.non S1 else z.length ≤ 640 ∧ ∃ n, intText? z = some n ∧ n.natAbs.log2 < 1920 ∧
              if Str.ofString n.repr = z then if lo ≤ n then if n ≤ hi then Q (D.int n) S1 else Q D.non S1 else Q D.non S1 else Q D.non S1) (List.map D.str (signs fs)) [] S
          else Q D.non S else Q D.non S) := by
        intro fs ef hl
        by_cases h1 : 1 ≤ (fs.length : Int) <;> by_cases h2 : (fs.length : Int) ≤ 12
        · simp only [h1, h2, if_true]
          rw [signs_map]
          refine lc_map (fun c => D.str ⟨#[c]⟩) (fun c => D.bl (!isFig c)) _ [] (fun c hc Y hY => ?_) (by simp [Str.length] at hl ⊢; omega) ?_
          · simpa [isFig] using hY
          · simp
            by_cases h3 : fs.cps.toList.all isFig = true
            · have h4 : ¬ ∃ a, a ∈ fs.cps ∧ isFig a = false := fun ⟨a, ha, e⟩ => by
                have := List.all_eq_true.mp h3 a (by simpa using ha)
                rw [this] at e; cases e
              have ok : figOk (figs z).cps.toList = true := by
                rw [← ef]; unfold figOk; rw [h3, signs_len]; simp [h1, h2]
              obtain ⟨i1, i2, i3⟩ := int_ready ok
              rw [if_neg h4]
              refine ⟨i3, _, i1, i2, ?_⟩
              unfold mNumIn at h
              rw [if_pos ok] at h
              by_cases e1 : Str.ofString (intOf z).repr = z
              · by_cases e2 : lo ≤ intOf z <;> by_cases e3 : intOf z ≤ hi <;> simp [e1, e2, e3, optI] at h ⊢ <;> exact h
              · simp [e1, optI] at h ⊢; exact h
            · have h4 : ∃ a, a ∈ fs.cps ∧ isFig a = false := Classical.byContradiction fun hn => h3 (List.all_eq_true.mpr fun a ha => by
                cases q : isFig a with
                | true => rfl
                | false => exact absurd ⟨a, by simpa using ha, q⟩ hn)
              rw [if_pos h4]
              rw [show mNumIn z lo hi = none by unfold mNumIn; rw [if_neg]; rw [← ef]; unfold figOk; simp [h3]] at h
              exact h
        · rw [show mNumIn z lo hi = none by unfold mNumIn; rw [if_neg]; rw [← ef]; unfold figOk; rw [signs_len]; simp [h2]] at h
          simpa [h1, h2, optI] using h
        · rw [show mNumIn z lo hi = none by unfold mNumIn; rw [if_neg]; rw [← ef]; unfold figOk; rw [signs_len]; simp [h1]] at h
          simpa [h1, h2, optI] using h
        · rw [show mNumIn z lo hi = none by unfold mNumIn; rw [if_neg]; rw [← ef]; unfold figOk; rw [signs_len]; simp [h1]] at h
          simpa [h1, h2, optI] using h
      simp [show z.length ≤ 16777216 by omega]
      have hc : (cutS z (some 1) none).length ≤ 4000 := by rw [cut1]; simp [Str.length] at hz ⊢; omega
      by_cases e : cutS z none (some 1) = ("-" : Str)
      · rw [if_pos e]
        exact ⟨by omega, tail _ (by unfold figs signed; simp [e]) hc⟩
      · rw [if_neg e]
        exact tail _ (by unfold figs signed; simp [e]) hz
    · simpa using h
    · exact h.elim
  exact fnD_of0 F (Fd.bindsN (ps := ["word", "least", "most"]) fun _ _ _ _ _ _ us hl => match us, hl with | [_, _, _], _ => rfl)
end G
set_option Elab.async false
set_option linter.all false
set_option maxRecDepth 100000
set_option maxHeartbeats 4000000
namespace G
open PySem PySem.Spec L2 DL M
open He (ga ma)
theorem sc_Page_take_number : FnScope ["self", "least", "most", "number"] ["self", "least", "most"] (defScope (mth (top 43) 8)) := ⟨rfl, rfl, rfl, by decide +kernel, rfl, by decide +kernel, by decide +kernel⟩
theorem ok_Page_take_number {n : Bool} {P : Program} {w : World} {K : PySem.W.Frag} {mg : Str → Option Value} {base : Heap} (fc : Fc P w K mg base) (F_number_in : ∀ n, FnD n P w K mg base 3 (ga K "number_in") (sp_number_in K)) (F_Page_upcoming : ∀ n, FnD n P w K mg base 4 (ma K (ga K "Page") "upcoming") (sp_Page_upcoming K)) (F_Page_take : ∀ n, FnD n P w K mg base 6 (ma K (ga K "Page") "take") (sp_Page_take K)) {fd : FuncData} (Fd : FunD K "take_number" "Page.take_number" (defArgs (mth (top 43) 8)) (defBody (mth (top 43) 8)) (defScope (mth (top 43) 8)) [] [] (ma K (ga K "Page") "take_number") fd) :
    FnD n P w K mg base 7 (ma K (ga K "Page") "take_number") (sp_Page_take_number K) := by
  have sc := sc_Page_take_number
  have F : FnP n P w K mg base 7 (ma K (ga K "Page") "take_number") fd ["self", "least", "most"] (sp_Page_take_number K) := by
    refine fn_d Fd sc (fun ds S Q ε h => by unfold sp_Page_take_number at h; split at h <;> first | rfl | exact h.elim) (fun cdv A outer s H E F0 ε hr cx => ⟨_, _, (ds_cons (d_set 3 sc.nd (d_cal (cal_fn (F_number_in n) cx hr (by decide) (fun h => h)) fc.k_number_in (d_gref fc.g_number_in) (da_cons (d_meth0 fc.c_Page fc.e_Page_upcoming (cal_fn (F_Page_upcoming n) cx hr (by decide) (fun h => h)) (d_var 0)) (da_cons (d_var 1) (da_cons (d_var 2) da_nil))))) (ds_cons (d_expr (d_meth fc.c_Page fc.e_Page_take (cal_fn (F_Page_take n) cx hr (by decide) (fun h => h)) (d_var 0) (da_cons (d_cmp o_isnot (d_var 3) d_non) da_nil))) (ds_one (d_ret (d_var 3))))), fun ds S Q h => ?_⟩)
    unfold sp_Page_take_number at h
    split at h
    · rename_i a lo hi
      obtain ⟨dx, rows, i, j, hp, hz, h⟩ := h
      simp [ins_at hp]
      refine ⟨dx, rows, i, j, hp, ?_⟩
      cases q : upc rows i j with
      | none =>
        simp [q, optS, sp_number_in, ins_at hp] at h ⊢
        exact ⟨dx, rows, i, j, hp, by rw [q]; exact h⟩
      | some z =>
        simp [optS, sp_number_in]
        refine ⟨hz z q, ?_⟩
        cases q2 : mNumIn z lo hi with
        | none =>
          simp [q, q2, optI, ins_at hp] at h ⊢
          exact ⟨dx, rows, i, j, hp, by rw [q]; exact h⟩
        | some n =>
          simp [q, q2, optI, ins_at hp] at h ⊢
          exact ⟨dx, rows, i, j, hp, by rw [q]; exact h⟩
    · exact h.elim
  exact fnD_of0 F (Fd.bindsN (ps := ["self", "least", "most"]) fun _ _ _ _ _ _ us hl => match us, hl with | [_, _, _], _ => rfl)
end G
set_option Elab.async false
set_option linter.all false
set_option maxRecDepth 100000
set_option maxHeartbeats 4000000
namespace G
open PySem PySem.Spec L2 DL M
open He (ga ma)
theorem sc_Page_go_on : FnScope ["self"] ["self"] (defScope (mth (top 43) 10)) := ⟨rfl, rfl, rfl, by decide +kernel, rfl, by decide +kernel, by decide +kernel⟩
theorem ok_Page_go_on {n : Bool} {P : Program} {w : World} {K : PySem.W.Frag} {mg : Str → Option Value} {base : Heap} (fc : Fc P w K mg base) (F_Page_upcoming : ∀ n, FnD n P w K mg base 4 (ma K (ga K "Page") "upcoming") (sp_Page_upcoming K)) (F_Page_refuse : ∀ n, FnD n P w K mg base 3 (ma K (ga K "Page") "refuse") (sp_Page_refuse K)) {fd : FuncData} (Fd : FunD K "go_on" "Page.go_on" (defArgs (mth (top 43) 10)) (defBody (mth (top 43) 10)) (defScope (mth (top 43) 10)) [] [] (ma K (ga K "Page") "go_on") fd) :
    FnD n P w K mg base 5 (ma K (ga K "Page") "go_on") (sp_Page_go_on K) := by
  have sc := sc_Page_go_on
  have F : FnP n P w K mg base 5 (ma K (ga K "Page") "go_on") fd ["self"] (sp_Page_go_on K) := by
    refine fn_d Fd sc (fun ds S Q ε h => by unfold sp_Page_go_on at h; split at h <;> first | rfl | exact h.elim) (fun cdv A outer s H E F0 ε hr cx => ⟨_, _, (ds_cons (d_ifS (d_tcmp o_isnot (d_meth0 fc.c_Page fc.e_Page_upcoming (cal_fn (F_Page_upcoming n) cx hr (by decide) (fun h => h)) (d_var 0)) d_non) (ds_one (d_expr (d_meth0 fc.c_Page fc.e_Page_refuse (cal_fn (F_Page_refuse n) cx hr (by decide) (fun h => h)) (d_var 0)))) ds_nil) (ds_cons (d_augfld fc.c_Page fc.n_Page_at (d_var 0) d_int) (ds_one (d_setfld fc.c_Page fc.n_Page_spot (d_var 0) d_int)))), fun ds S Q h => ?_⟩)
    unfold sp_Page_go_on at h
    split at h
    · rename_i a
      obtain ⟨dx, rows, i, j, hp, h⟩ := h
      simp [ins_at hp]
      refine ⟨dx, rows, i, j, hp, ?_⟩
      cases q : upc rows i j with
      | none =>
        simp [q, optS, hp, oPage, and_assoc] at h ⊢
        exact h
      | some z =>
        simp [q, optS, ins_at hp] at h ⊢
        exact ⟨dx, rows, i, j, hp, h⟩
    · exact h.elim
  exact fnD_of0 F (Fd.bindsN (ps := ["self"]) fun _ _ _ _ _ _ us hl => match us, hl with | [_], _ => rfl)
end G
set_option Elab.async false
set_option linter.all false
set_option maxRecDepth 100000
set_option maxHeartbeats 4000000
namespace G
open PySem PySem.Spec L2 DL M
open He (ga ma)
theorem sc_Page_rest : FnScope ["self", "words"] ["self"] (defScope (mth (top 43) 9)) := ⟨rfl, rfl, rfl, by decide +kernel, rfl, by decide +kernel, by decide +kernel⟩
theorem ok_Page_rest {n : Bool} {P : Program} {w : World} {K : PySem.W.Frag} {mg : Str → Option Value} {base : Heap} (fc : Fc P w K mg base) (F_Page_is_over : ∀ n, FnD n P w K mg base 3 (ma K (ga K "Page") "is_over") (sp_Page_is_over K)) {fd : FuncData} (Fd : FunD K "rest" "Page.rest" (defArgs (mth (top 43) 9)) (defBody (mth (top 43) 9)) (defScope (mth (top 43) 9)) [] [] (ma K (ga K "Page") "rest") fd) :
    FnD n P w K mg base 4 (ma K (ga K "Page") "rest") (sp_Page_rest K) := by
  have sc := sc_Page_rest
  have F : FnP n P w K mg base 4 (ma K (ga K "Page") "rest") fd ["self"] (sp_Page_rest K) := by
    refine fn_d Fd sc (fun ds S Q ε h => by unfold sp_Page_rest at h; split at h <;> first | rfl | exact h.elim) (fun cdv A outer s H E F0 ε hr cx => ⟨_, _, (ds_cons (d_set 1 sc.nd (d_if (d_tval (d_meth0 fc.c_Page fc.e_Page_is_over (cal_fn (F_Page_is_over n) cx hr (by decide) (fun h => h)) (d_var 0))) (n_lst da_nil).d (d_slice (d_ix (d_fld fc.c_Page fc.n_Page_rows (d_var 0)) (d_fld fc.c_Page fc.n_Page_at (d_var 0))) (do_some (d_fld fc.c_Page fc.n_Page_spot (d_var 0))) do_none))) (ds_cons (d_augfld fc.c_Page fc.n_Page_spot (d_var 0) (b_len (es := []) fc.f_len (da_cons (d_var 1) da_nil))) (ds_one (d_ret (d_var 1))))), fun ds S Q h => ?_⟩)
    unfold sp_Page_rest at h
    split at h
    · rename_i a
      obtain ⟨dx, rows, i, j, hp, hr, h⟩ := h
      simp [ins_at hp]
      refine ⟨dx, rows, i, j, hp, ?_⟩
      by_cases q : rows.length ≤ i
      · simp [q, hp, oPage, and_assoc, strL, List.getElem?_eq_none q] at h ⊢
        exact h
      · have hi : i < rows.length := by omega
        simp [q, hp, ins_at hp, oPage, and_assoc, strL, hi, ← List.map_drop] at h ⊢
        exact h
    · exact h.elim
  exact fnD_of0 F (Fd.bindsN (ps := ["self"]) fun _ _ _ _ _ _ us hl => match us, hl with | [_], _ => rfl)
end G
set_option Elab.async false
set_option linter.all false
set_option maxRecDepth 100000
set_option maxHeartbeats 4000000
namespace G
open PySem PySem.Spec L2 DL M
open He (ga ma)
theorem sc_names_in : FnScope ["text", "names", "name"] ["text"] (defScope (top 22)) := ⟨rfl, rfl, rfl, by decide +kernel, rfl, by decide +kernel, by decide +kernel⟩
theorem ok_names_in {n : Bool} {P : Program} {w : World} {K : PySem.W.Frag} {mg : Str → Option Value} {base : Heap} (fc : Fc P w K mg base) (F_is_name : ∀ n, FnD n P w K mg base 3 (ga K "is_name") (sp_is_name K)) {fd : FuncData} (Fd : FunD K "names_in" "names_in" (defArgs (top 22)) (defBody (top 22)) (defScope (top 22)) [] [] (ga K "names_in") fd) :
    FnD n P w K mg base 4 (ga K "names_in") (sp_names_in K) := by
  have sc := sc_names_in
  have F : FnP n P w K mg base 4 (ga K "names_in") fd ["text"] (sp_names_in K) := by
    refine fn_d Fd sc (fun ds S Q ε h => by unfold sp_names_in at h; split at h <;> first | rfl | exact h.elim) (fun cdv A outer s H E F0 ε hr cx => ⟨_, _, (ds_cons (d_ifS (d_tcmp (o_eq hr) (d_var 0) (d_gstr fc.s_NONE_locks.choose_spec)) (ds_one (d_ret (n_lst da_nil).d)) ds_nil) (ds_cons (d_set 1 sc.nd (d_if (d_tval (b_isi fc.b_str fc.f_isinstance (da_cons (d_var 0) (da_cons (d_ty fc.f_str dbt_str) da_nil)))) (n_split (d_var 0) (d_gstr fc.s_COMMA.choose_spec)).d (n_lst (da_cons d_str da_nil)).d)) (ds_cons (d_ifS (PDW.test (d_or (d_not (d_tval (b_all rfl fc.f_all (da_cons (n_lc (own := [("name", 2)]) [("name", 2)] rfl sc.nd (blkOk_by (by kernel_rfl)) (i_any (d_var 1)) (fun _ _ _ _ _ => ((gv_name 2 sc.nd)).re (by first | exact rfl | (dsimp only [Cx.blk]; try exact rfl))) (fun _ _ _ _ _ => (ts_nil).re (by first | exact rfl | (dsimp only [Cx.blk]; try exact rfl))) (fun _ _ _ _ _ => ((d_cal (cal_fn (F_is_name n) ctx0 hr (by decide) (fun h => h)) fc.k_is_name (d_gref fc.g_is_name) (da_cons (d_var 2) da_nil))).re (by first | exact rfl | (dsimp only [Cx.blk]; try exact rfl)))).d da_nil)))) (d_or1 (d_tcmp (o_ne hr) (d_var 1) (n_sortedSet rfl fc.f_sorted fc.f_set (da_cons (n_lc (own := [("name", 2)]) [("name", 2)] rfl sc.nd (blkOk_by (by kernel_rfl)) (i_any (d_var 1)) (fun _ _ _ _ _ => ((gv_name 2 sc.nd)).re (by first | exact rfl | (dsimp only [Cx.blk]; try exact rfl))) (fun _ _ _ _ _ => (ts_nil).re (by first | exact rfl | (dsimp only [Cx.blk]; try exact rfl))) (fun _ _ _ _ _ => ((b_str fc.f_str (da_cons (d_var 2) da_nil))).re (by first | exact rfl | (dsimp only [Cx.blk]; try exact rfl)))).d da_nil)).d)))) (ds_one (d_ret d_non)) ds_nil) (ds_one (d_ret (d_var 1)))))), fun ds S Q h => ?_⟩)
    unfold sp_names_in at h
    split at h
    · rename_i z
      obtain ⟨hz, h⟩ := h
      have hc := sp_cnt (x := z) (y := ",") (by rw [ln_c]; exact Nat.le_refl _)
      have hl : ∀ w ∈ Txt.split z ",", w.length ≤ 4000 := fun w hw => by
        have := sp_len (by rw [ln_c]; exact Nat.le_refl _) hw
        omega
      by_cases e : z = ("-" : Str)
      · simp [e, mNamesIn, optL] at h ⊢
        exact h
      · simp [e, oIsi, kdOf, HX.gB, HX.tyName]
        refine ⟨by omega, ?_⟩
        refine lc_map D.str (fun w => .bl (isName w)) (Txt.split z ",") [] (fun w hw Y hY => ?_) (by simp; omega) ?_
        · have := hl w hw
          simpa [sp_is_name, show w.length ≤ 16777216 by omega] using hY
        · by_cases h1 : ∀ x ∈ Txt.split z ",", isName x = true
          · have h2 : ¬ ∃ a, a ∈ Txt.split z "," ∧ isName a = false := fun ⟨a, ha, e⟩ => by rw [h1 a ha] at e; cases e
            simp [h2]
            refine lc_map D.str D.str (Txt.split z ",") [] (fun w hw Y hY => by simpa using hY) (by simp; omega) ?_
            simp
            refine ⟨by omega, ?_⟩
            by_cases h3 : Txt.split z "," = sortU (Txt.split z ",")
            · rw [if_pos h3]
              rw [show mNamesIn z = some (Txt.split z ",") by unfold mNamesIn; rw [if_neg e, if_pos]; simp; exact ⟨h1, h3⟩] at h
              exact h
            · rw [if_neg h3]
              rw [show mNamesIn z = none by unfold mNamesIn; rw [if_neg e, if_neg]; simp; exact fun _ => h3] at h
              exact h
          · have h2 : ∃ a, a ∈ Txt.split z "," ∧ isName a = false := by
              simpa using h1
            rw [show mNamesIn z = none by unfold mNamesIn; rw [if_neg e, if_neg]; simp; exact fun h3 => absurd h3 h1] at h
            simp [h2]
            exact h
    · exact h.elim
  exact fnD_of0 F (Fd.bindsN (ps := ["text"]) fun _ _ _ _ _ _ us hl => match us, hl with | [_], _ => rfl)
end G
set_option Elab.async false
set_option linter.all false
set_option maxRecDepth 100000
set_option maxHeartbeats 4000000
namespace G
open PySem PySem.Spec L2 DL M
open He (ga ma)
theorem sc_Locks___init__ : FnScope ["self", "names", "name"] ["self", "names"] (defScope (mth (top 23) 0)) := ⟨rfl, rfl, rfl, by decide +kernel, rfl, by decide +kernel, by decide +kernel⟩
theorem ok_Locks___init__ {n : Bool} {P : Program} {w : World} {K : PySem.W.Frag} {mg : Str → Option Value} {base : Heap} (fc : Fc P w K mg base) (F_is_name : ∀ n, FnD n P w K mg base 3 (ga K "is_name") (sp_is_name K)) {fd : FuncData} (Fd : FunD K "__init__" "Locks.__init__" (defArgs (mth (top 23) 0)) (defBody (mth (top 23) 0)) (defScope (mth (top 23) 0)) [] [] (ma K (ga K "Locks") "__init__") fd) :
    FnD n P w K mg base 4 (ma K (ga K "Locks") "__init__") (sp_Locks___init__ K) := by
  have sc := sc_Locks___init__
  refine FnD.as (fn_dStar (δ := st_Locks___init__ K) (ps := ["self"]) (pv := "names") Fd sc (fun _ _ _ _ _ _ us rest hl => StX.bind_star1 (B := fun zs => bindArgs _ ⟨zs, []⟩) (fun _ => rfl) (fun _ _ _ => rfl) us rest hl) (fun cdv A outer s H E F0 ε hr cx => ⟨_, _, (ds_cons (d_ifS (d_not (d_tval (b_all rfl fc.f_all (da_cons (n_lc (own := [("name", 2)]) [("name", 2)] rfl sc.nd (blkOk_by (by kernel_rfl)) (i_any (d_var 1)) (fun _ _ _ _ _ => ((gv_name 2 sc.nd)).re (by first | exact rfl | (dsimp only [Cx.blk]; try exact rfl))) (fun _ _ _ _ _ => (ts_nil).re (by first | exact rfl | (dsimp only [Cx.blk]; try exact rfl))) (fun _ _ _ _ _ => ((d_cal (cal_fn (F_is_name n) ctx0 hr (by decide) (fun h => h)) fc.k_is_name (d_gref fc.g_is_name) (da_cons (d_var 2) da_nil))).re (by first | exact rfl | (dsimp only [Cx.blk]; try exact rfl)))).d da_nil)))) (ds_one (d_raise fc.x_BadLocks (by first | exact .inl rfl | exact .inr rfl) fc.g_BadLocks cx rfl hr (by decide) (da_cons d_str da_nil))) ds_nil) (ds_one (d_setfld fc.c_Locks fc.n_Locks_own_names (d_var 0) (b_tup fc.f_tuple (da_cons (n_sortedSet rfl fc.f_sorted fc.f_set (da_cons (n_lc (own := [("name", 2)]) [("name", 2)] rfl sc.nd (blkOk_by (by kernel_rfl)) (i_any (d_var 1)) (fun _ _ _ _ _ => ((gv_name 2 sc.nd)).re (by first | exact rfl | (dsimp only [Cx.blk]; try exact rfl))) (fun _ _ _ _ _ => (ts_nil).re (by first | exact rfl | (dsimp only [Cx.blk]; try exact rfl))) (fun _ _ _ _ _ => ((b_str fc.f_str (da_cons (d_var 2) da_nil))).re (by first | exact rfl | (dsimp only [Cx.blk]; try exact rfl)))).d da_nil)).d da_nil))))), fun ds S Q h => ?_⟩)) ?_
  · unfold st_Locks___init__ at h
    split at h
    · rename_i a xs
      obtain ⟨dx, ns, rfl, hp, hl, hn, h⟩ := h
      simp
      refine lc_map D.str (fun w => .bl (isName w)) ns [] (fun w hw Y hY => ?_) (by simp; omega) ?_
      · have := hn w hw
        simpa [sp_is_name, show w.length ≤ 16777216 by omega] using hY
      · simp
        cases q1 : ns.all isName
        · rw [if_pos (all_no q1)]
          rw [q1] at h
          simpa [xPart] using h
        · rw [if_neg (all_yes q1)]
          rw [q1] at h
          refine lc_map D.str D.str ns [] (fun w hw Y hY => by simpa using hY) (by simp; omega) ?_
          simp [hp, and_assoc]
          exact ⟨by omega, by simpa [tupS] using h⟩
    · exact h.elim
  · intro xs S Q ε h
    unfold sp_Locks___init__ at h
    split at h
    · rename_i a xs
      exact ⟨[.ref a], xs, rfl, rfl, by rw [szl]; omega, h.2⟩
    · exact h.elim
end G
set_option Elab.async false
set_option linter.all false
set_option maxRecDepth 100000
set_option maxHeartbeats 4000000
namespace G
open PySem PySem.Spec L2 DL M
open He (ga ma)
theorem sc_Locks_read : FnScope ["cls", "text", "found"] ["cls", "text"] (defScope (mth (top 23) 3)) := ⟨rfl, rfl, rfl, by decide +kernel, rfl, by decide +kernel, by decide +kernel⟩
theorem ok_Locks_read {n : Bool} {P : Program} {w : World} {K : PySem.W.Frag} {mg : Str → Option Value} {base : Heap} (fc : Fc P w K mg base) (F_names_in : ∀ n, FnD n P w K mg base 4 (ga K "names_in") (sp_names_in K)) (F_Locks___init__ : ∀ n, FnD n P w K mg base 4 (ma K (ga K "Locks") "__init__") (sp_Locks___init__ K)) {fd : FuncData} (Fd : FunD K "read" "Locks.read" (defArgs (mth (top 23) 3)) (defBody (mth (top 23) 3)) (defScope (mth (top 23) 3)) [] [] (HX.ca K (ga K "Locks") "read") fd) :
    FnD n P w K mg base 6 (HX.ca K (ga K "Locks") "read") (sp_Locks_read K) := by
  have sc := sc_Locks_read
  have F : FnP n P w K mg base 6 (HX.ca K (ga K "Locks") "read") fd ["cls", "text"] (sp_Locks_read K) := by
    refine fn_d Fd sc (fun ds S Q ε h => by unfold sp_Locks_read at h; split at h <;> first | rfl | exact h.elim) (fun cdv A outer s H E F0 ε hr cx => ⟨_, _, (ds_cons (d_set 2 sc.nd (d_cal (cal_fn (F_names_in n) cx hr (by decide) (fun h => h)) fc.k_names_in (d_gref fc.g_names_in) (da_cons (d_var 1) da_nil))) (ds_cons (d_ifS (d_tcmp o_is (d_var 2) d_non) (ds_one (d_raise fc.x_BadText (by first | exact .inl rfl | exact .inr rfl) fc.g_BadText cx rfl hr (by decide) (da_cons d_int (da_cons d_int da_nil)))) ds_nil) (ds_one (d_ret (d_calS (cal_mkF fc.m_Locks (F_Locks___init__ n) cx hr (by decide) (fun h => h)) fc.k_Locks (d_var 0) (d_var 2)))))), fun ds S Q h => ?_⟩)
    unfold sp_Locks_read at h
    split at h
    · rename_i C z
      obtain ⟨rfl, hz, h⟩ := h
      simp [sp_names_in]
      refine ⟨by omega, ?_⟩
      cases q : mNamesIn z with
      | none => simp [q, optL, xText] at h ⊢; exact h
      | some ns =>
        simp [q, optL] at h ⊢
        intro a dx ha
        obtain ⟨h1, h2, h3, h4⟩ := namesIn_facts q
        refine ⟨by simp; omega, dx, ns, rfl, by simp, by omega, fun n hn => Nat.le_trans (h3 n hn) (by omega), ?_⟩
        rw [h1, if_pos rfl]
        simp [sdel_sup ha, and_assoc, ← h4]
        exact h
    · exact h.elim
  exact fnD_of0 F (Fd.bindsN (ps := ["cls", "text"]) fun _ _ _ _ _ _ us hl => match us, hl with | [_, _], _ => rfl)
end G
set_option Elab.async false
set_option linter.all false
set_option maxRecDepth 100000
set_option maxHeartbeats 4000000
namespace G
open PySem PySem.Spec L2 DL M
open He (ga ma)
theorem sc_locks_in : FnScope ["page", "found", "line"] ["page"] (defScope (top 51)) := ⟨rfl, rfl, rfl, by decide +kernel, rfl, by decide +kernel, by decide +kernel⟩
theorem ok_locks_in  {P : Program} {w : World} {K : PySem.W.Frag} {mg : Str → Option Value} {base : Heap} (fc : Fc P w K mg base) (F_Page_rest : ∀ n, FnD n P w K mg base 4 (ma K (ga K "Page") "rest") (sp_Page_rest K)) (F_Locks_read : ∀ n, FnD n P w K mg base 6 (HX.ca K (ga K "Locks") "read") (sp_Locks_read K)) (F_Page_go_on : ∀ n, FnD n P w K mg base 5 (ma K (ga K "Page") "go_on") (sp_Page_go_on K)) {fd : FuncData} (Fd : FunD K "locks_in" "locks_in" (defArgs (top 51)) (defBody (top 51)) (defScope (top 51)) [] [] (ga K "locks_in") fd) :
    FnD false P w K mg base 7 (ga K "locks_in") (sp_locks_in K) := by
  have sc := sc_locks_in
  have F : FnP false P w K mg base 7 (ga K "locks_in") fd ["page"] (sp_locks_in K) := by
    refine fn_d Fd sc (fun ds S Q ε h => by unfold sp_locks_in at h; split at h <;> first | rfl | exact h.elim) (fun cdv A outer s H E F0 ε hr cx => ⟨_, _, (ds_cons (d_par 1 2 rfl sc.nd (da_cons d_non (da_cons (d_join d_str (d_meth0 fc.c_Page fc.e_Page_rest (cal_fn (F_Page_rest false) cx hr (by decide) (fun h => h)) (d_var 0))) da_nil))) (ds_cons (d_tryR rfl rfl (fun _ => PassesOwnAt.leaving) ⟨rfl, rfl, .inl fc.g_BadText⟩ fc.an_BadText cx hr (by decide) (fun _ _ _ _ _ cx1 => PDSs.re (ds_one (d_set 1 sc.nd (d_cmeth fc.r_Locks fc.cm_Locks_read.choose_spec (F_Locks_read true) cx1 hr (by decide) (d_gref fc.g_Locks) (da_cons (d_var 2) da_nil) (fun _ => rfl)))) (by first | exact rfl | (dsimp only [Cx.tr]; try exact rfl))) fc.x_BadText (by first | exact .inl rfl | exact .inr rfl) fc.g_BadText (fun _ _ _ => PDA.re (da_cons (d_fld fc.c_Page fc.n_Page_at (d_var 0)) (da_cons d_int da_nil)) (by first | exact rfl | (dsimp only [L2H.suiteX]; try exact rfl)))) (ds_cons (d_expr (d_meth0 fc.c_Page fc.e_Page_go_on (cal_fn (F_Page_go_on false) cx hr (by decide) (fun h => h)) (d_var 0))) (ds_one (d_ret (d_var 1)))))), fun ds S Q h => ?_⟩)
    unfold sp_locks_in at h
    split at h
    · rename_i a
      obtain ⟨dx, rows, i, j, hp, hb, h⟩ := h
      simp [ins_page hp]
      refine ⟨dx, rows, i, j, hp, hb.row, ?_⟩
      have hl := hb.rest i j
      have hz := hb.line i j
      change kJoin (D.str " ") (strL (restOf rows i j)) (sup S a (oPage K dx rows i (j + (((rows[i]?).getD []).drop j).length))) _
      simp [strL]
      refine ⟨by omega, rfl, hz, ?_⟩
      cases q : mNamesIn (Txt.join " " (restOf rows i j)) with
      | some ns =>
        simp [q] at h ⊢
        refine ⟨dx, rows, i, _, sup_at, ?_⟩
        rw [upc_fin]
        simpa using h
      | none =>
        simp [q] at h ⊢
        refine .inr ⟨by simp [xText, HX.aT, HX.pickC], h _⟩
    · exact h.elim
  exact fnD_of0 F (Fd.bindsN (ps := ["page"]) fun _ _ _ _ _ _ us hl => match us, hl with | [_], _ => rfl)
end G
set_option Elab.async false
set_option linter.all false
set_option maxRecDepth 100000
set_option maxHeartbeats 4000000
namespace G
open PySem PySem.Spec L2 DL M
open He (ga ma)
theorem sc_moments_in : FnScope ["text", "parts", "rooms", "word", "part", "room"] ["text"] (defScope (top 28)) := ⟨rfl, rfl, rfl, by decide +kernel, rfl, by decide +kernel, by decide +kernel⟩
theorem ok_moments_in {n : Bool} {P : Program} {w : World} {K : PySem.W.Frag} {mg : Str → Option Value} {base : Heap} (fc : Fc P w K mg base) (F_is_name : ∀ n, FnD n P w K mg base 3 (ga K "is_name") (sp_is_name K)) {fd : FuncData} (Fd : FunD K "moments_in" "moments_in" (defArgs (top 28)) (defBody (top 28)) (defScope (top 28)) [] [] (ga K "moments_in") fd) :
    FnD n P w K mg base 4 (ga K "moments_in") (sp_moments_in K) := by
  have sc := sc_moments_in
  have F : FnP n P w K mg base 4 (ga K "moments_in") fd ["text"] (sp_moments_in K) := by
    refine fn_d Fd sc (fun ds S Q ε h => by unfold sp_moments_in at h; split at h <;> first | rfl | exact h.elim) (fun cdv A outer s H E F0 ε hr cx => ⟨_, _, (ds_cons (d_ifS (d_not (d_tval (b_isi fc.b_str fc.f_isinstance (da_cons (d_var 0) (da_cons (d_ty fc.f_str dbt_str) da_nil))))) (ds_one (d_ret d_non)) ds_nil) (ds_cons (d_ifS (d_tcmp (o_eq hr) (d_var 0) (d_gstr fc.s_NONE_orders.choose_spec)) (ds_one (d_ret (n_lst da_nil).d)) ds_nil) (ds_cons (n_setLc (own := [("word", 3)]) 1 [("word", 3)] rfl sc.nd (blkOk_by (by kernel_rfl)) (i_any (n_split (d_var 0) d_str).d) (fun _ _ _ _ _ => ((gv_name 3 sc.nd)).re (by first | exact rfl | (dsimp only [Cx.blk]; try exact rfl))) (fun _ _ _ _ _ => (ts_nil).re (by first | exact rfl | (dsimp only [Cx.blk]; try exact rfl))) (fun _ _ _ _ _ => ((n_split (d_var 3) d_str).d).re (by first | exact rfl | (dsimp only [Cx.blk]; try exact rfl)))).d (ds_cons (n_setLc2 (own := [("part", 4), ("room", 5)]) (vs1 := [5]) 2 [("part", 4), ("room", 5)] [5] rfl sc.nd (blkOk_by (by kernel_rfl)) (i_any (d_var 1)) (fun _ _ _ _ _ => ((gv_name 4 sc.nd)).re (by first | exact rfl | (dsimp only [Cx.blk]; try exact rfl))) (fun _ _ _ _ _ => (ts_nil).re (by first | exact rfl | (dsimp only [Cx.blk]; try exact rfl))) (fun _ _ _ _ _ => ((i_any (d_var 4))).re (by first | exact rfl | (dsimp only [Cx.blk]; try exact rfl))) (fun _ _ _ _ _ => ((gv_name 5 sc.nd)).re (by first | exact rfl | (dsimp only [Cx.blk]; try exact rfl))) (fun _ _ _ _ _ => (ts_nil).re (by first | exact rfl | (dsimp only [Cx.blk]; try exact rfl))) (fun _ _ _ _ _ => ((d_var 5)).re (by first | exact rfl | (dsimp only [Cx.blk]; try exact rfl)))).d (ds_cons (d_ifS (PDW.test (d_or (d_not (d_tval (b_all rfl fc.f_all (da_cons (n_lc (own := [("room", 5)]) [("room", 5)] rfl sc.nd (blkOk_by (by kernel_rfl)) (i_any (d_var 2)) (fun _ _ _ _ _ => ((gv_name 5 sc.nd)).re (by first | exact rfl | (dsimp only [Cx.blk]; try exact rfl))) (fun _ _ _ _ _ => (ts_nil).re (by first | exact rfl | (dsimp only [Cx.blk]; try exact rfl))) (fun _ _ _ _ _ => ((d_cal (cal_fn (F_is_name n) ctx0 hr (by decide) (fun h => h)) fc.k_is_name (d_gref fc.g_is_name) (da_cons (d_var 5) da_nil))).re (by first | exact rfl | (dsimp only [Cx.blk]; try exact rfl)))).d da_nil)))) (d_or (d_tcmp o_gt (b_len (es := []) fc.f_len (da_cons (d_var 2) da_nil)) (d_gint fc.i_MOST_ROOMS.choose_spec)) (d_or1 (d_tcmp (o_ne hr) (d_lenSet rfl fc.f_len fc.f_set (da_cons (d_var 2) da_nil)) (b_len (es := []) fc.f_len (da_cons (d_var 2) da_nil))))))) (ds_one (d_ret d_non)) ds_nil) (ds_one (d_ret (d_if (d_tval (b_all rfl fc.f_all (da_cons (n_lc (own := [("part", 4)]) [("part", 4)] rfl sc.nd (blkOk_by (by kernel_rfl)) (i_any (d_var 1)) (fun _ _ _ _ _ => ((gv_name 4 sc.nd)).re (by first | exact rfl | (dsimp only [Cx.blk]; try exact rfl))) (fun _ _ _ _ _ => (ts_nil).re (by first | exact rfl | (dsimp only [Cx.blk]; try exact rfl))) (fun _ _ _ _ _ => ((d_cmp (o_eq hr) (d_var 4) (n_sorted fc.f_sorted (da_cons (n_lc (own := [("room", 5)]) [("room", 5)] rfl sc.nd (blkOk_by (by kernel_rfl)) (i_any (d_var 4)) (fun _ _ _ _ _ => ((gv_name 5 sc.nd)).re (by first | exact rfl | (dsimp only [Cx.blk]; try exact rfl))) (fun _ _ _ _ _ => (ts_nil).re (by first | exact rfl | (dsimp only [Cx.blk]; try exact rfl))) (fun _ _ _ _ _ => ((b_str fc.f_str (da_cons (d_var 5) da_nil))).re (by first | exact rfl | (dsimp only [Cx.blk]; try exact rfl)))).d da_nil)).d)).re (by first | exact rfl | (dsimp only [Cx.blk]; try exact rfl)))).d da_nil))) (d_var 1) d_non)))))))), fun ds S Q h => ?_⟩)
    unfold sp_moments_in at h
    split at h
    · rename_i z
      obtain ⟨hz, h⟩ := h
      have hc := sp_cnt (x := z) (y := " ") (by rw [ln_s]; exact Nat.le_refl _)
      have hf := mFlat_cnt (z := z)
      simp [oIsi, kdOf, HX.gB, HX.tyName]
      by_cases e : z = ("-" : Str)
      · simpa [e, mMomentsIn, optLL] using h
      · simp [e]
        refine ⟨by omega, ?_⟩
        refine lc_map D.str (fun w => strL (Txt.split w ",")) (Txt.split z " ") [] (fun w hw Y hY => ?_) (by simp; omega) ?_
        · have := sp_len (by rw [ln_s]; exact Nat.le_refl _) hw
          simp
          exact ⟨by omega, hY⟩
        · simp
          have ef : ((Txt.split z " ").flatMap fun x => (Txt.split x ",").map D.str) = (mFlat z).map D.str := by rw [mFlat, List.map_flatMap]
          refine lc2_flat (fun w => strL (Txt.split w ",")) (fun w => (Txt.split w ",").map D.str) (Txt.split z " ") [] (fun w hw acc Y hl hY => ?_) (by rw [ef]; simp; omega) ?_
          · simp [strL]
            exact lc_map D.str D.str _ acc (fun r hr Y hY => by simpa using hY) (by simpa using hl) hY
          · rw [List.nil_append, ef]
            simp
            refine lc_map D.str (fun w => .bl (isName w)) (mFlat z) [] (fun w hw Y hY => ?_) (by simp; omega) ?_
            · have := mFlat_len hw
              simpa [sp_is_name, show w.length ≤ 16777216 by omega] using hY
            · simp
              cases q1 : (mFlat z).all isName
              · rw [if_pos (all_no q1)]
                rw [show mMomentsIn z = none by unfold mMomentsIn mMomentsOk; rw [if_neg e, q1]; simp] at h
                exact h
              · rw [if_neg (all_yes q1)]
                by_cases q2 : 8 < ((mFlat z).length : Int)
                · rw [if_pos q2]
                  rw [show mMomentsIn z = none by unfold mMomentsIn mMomentsOk; rw [if_neg e, q1, decide_eq_false (by omega)]; simp] at h
                  exact h
                · rw [if_neg q2]
                  refine ⟨by omega, ?_⟩
                  by_cases q3 : ((plusAll (mFlat z)).length : Int) = (mFlat z).length
                  · rw [if_pos q3]
                    refine lc_map (fun w => strL (Txt.split w ",")) (fun w => .bl (decide (Txt.split w "," = sortS (Txt.split w ",")))) (Txt.split z " ") [] (fun w hw Y hY => ?_) (by simp; omega) ?_
                    · have h1 := sp_len (by rw [ln_s]; exact Nat.le_refl _) hw
                      have h2 := sp_cnt (x := w) (y := ",") (by rw [ln_c]; exact Nat.le_refl _)
                      simp [strL]
                      refine lc_map D.str D.str _ [] (fun r hr Y hY => by simpa using hY) (by simp; omega) ?_
                      simp
                      exact .inl hY
                    · simp
                      cases q4 : (mRoomsOf z).all (fun p => decide (p = sortS p))
                      · rw [show mMomentsIn z = none by unfold mMomentsIn mMomentsOk; rw [if_neg e, q4]; simp] at h
                        rw [if_pos (by
                          obtain ⟨a, ha, q⟩ := all_no q4
                          obtain ⟨w, hw, rfl⟩ := List.mem_map.mp ha
                          exact ⟨w, hw, by simpa using q⟩)]
                        exact h
                      · rw [show mMomentsIn z = some (mRoomsOf z) by unfold mMomentsIn mMomentsOk; rw [if_neg e, q1, q4, decide_eq_true (by omega), decide_eq_true (by omega)]; simp] at h
                        rw [if_neg (by
                          rintro ⟨w, hw, q⟩
                          exact all_yes q4 ⟨_, List.mem_map_of_mem hw, by simpa using q⟩)]
                        simpa [optLL, mRoomsOf, Function.comp_def] using h
                  · rw [if_neg q3]
                    rw [show mMomentsIn z = none by unfold mMomentsIn mMomentsOk; rw [if_neg e, decide_eq_false (p := (plusAll (mFlat z)).length = (mFlat z).length) (by omega)]; simp] at h
                    exact h
    · exact h.elim
  exact fnD_of0 F (Fd.bindsN (ps := ["text"]) fun _ _ _ _ _ _ us hl => match us, hl with | [_], _ => rfl)
end G
set_option Elab.async false
set_option linter.all false
set_option maxRecDepth 100000
set_option maxHeartbeats 4000000
namespace G
open PySem PySem.Spec L2 DL M
open He (ga ma)
theorem sc_rooms_of_part : FnScope ["part", "rooms", "room"] ["part"] (defScope (top 27)) := ⟨rfl, rfl, rfl, by decide +kernel, rfl, by decide +kernel, by decide +kernel⟩
theorem ok_rooms_of_part {n : Bool} {P : Program} {w : World} {K : PySem.W.Frag} {mg : Str → Option Value} {base : Heap} (fc : Fc P w K mg base) (F_is_name : ∀ n, FnD n P w K mg base 3 (ga K "is_name") (sp_is_name K)) {fd : FuncData} (Fd : FunD K "rooms_of_part" "rooms_of_part" (defArgs (top 27)) (defBody (top 27)) (defScope (top 27)) [] [] (ga K "rooms_of_part") fd) :
    FnD n P w K mg base 4 (ga K "rooms_of_part") (sp_rooms_of_part K) := by
  have sc := sc_rooms_of_part
  have F : FnP n P w K mg base 4 (ga K "rooms_of_part") fd ["part"] (sp_rooms_of_part K) := by
    refine fn_d Fd sc (fun ds S Q ε h => by unfold sp_rooms_of_part at h; split at h <;> first | rfl | exact h.elim) (fun cdv A outer s H E F0 ε hr cx => ⟨_, _, (ds_cons (d_set 1 sc.nd (d_if (d_tval (b_isi fc.b_tuple fc.f_isinstance (da_cons (d_var 0) (da_cons (d_ty fc.f_tuple dbt_tuple) da_nil)))) (n_list fc.f_list (da_cons (d_var 0) da_nil)).d (n_lst (da_cons (d_var 0) da_nil)).d)) (ds_cons (d_ifS (PDW.test (d_or (d_tcmp (o_eq hr) (b_len (es := []) fc.f_len (da_cons (d_var 1) da_nil)) d_int) (d_or1 (d_not (d_tval (b_all rfl fc.f_all (da_cons (n_lc (own := [("room", 2)]) [("room", 2)] rfl sc.nd (blkOk_by (by kernel_rfl)) (i_any (d_var 1)) (fun _ _ _ _ _ => ((gv_name 2 sc.nd)).re (by first | exact rfl | (dsimp only [Cx.blk]; try exact rfl))) (fun _ _ _ _ _ => (ts_nil).re (by first | exact rfl | (dsimp only [Cx.blk]; try exact rfl))) (fun _ _ _ _ _ => ((d_cal (cal_fn (F_is_name n) ctx0 hr (by decide) (fun h => h)) fc.k_is_name (d_gref fc.g_is_name) (da_cons (d_var 2) da_nil))).re (by first | exact rfl | (dsimp only [Cx.blk]; try exact rfl)))).d da_nil))))))) (ds_one (d_raise fc.x_BadOrder (by first | exact .inl rfl | exact .inr rfl) fc.g_BadOrder cx rfl hr (by decide) (da_cons d_str da_nil))) ds_nil) (ds_one (d_ret (d_var 1))))), fun ds S Q h => ?_⟩)
    unfold sp_rooms_of_part at h
    split at h
    · obtain ⟨ns, rfl, hl, hn, h⟩ := h
      simp [oIsi, kdOf, HX.gB, HX.tyName]
      by_cases e : ns = []
      · subst e; simpa [xPart] using h
      · simp [e]
        refine lc_map D.str (fun w => .bl (isName w)) ns [] (fun w hw Y hY => ?_) (by simp; omega) ?_
        · have := hn w hw
          simpa [sp_is_name, show w.length ≤ 16777216 by omega] using hY
        · simp
          cases q1 : ns.all isName
          · rw [if_pos (all_no q1)]
            rw [q1] at h
            simpa [xPart] using h
          · rw [if_neg (all_yes q1)]
            rw [q1] at h
            simpa [e, strL] using h
    · rename_i z
      obtain ⟨hz, h⟩ := h
      simp [oIsi, kdOf, HX.gB, HX.tyName]
      refine lc_map D.str (fun w => .bl (isName w)) [z] [] (fun w hw Y hY => ?_) (by simp) ?_
      · obtain rfl := List.mem_singleton.mp hw
        simpa [sp_is_name, show w.length ≤ 16777216 by omega] using hY
      · cases q : isName z <;> simp [q, xPart, strL] at h ⊢ <;> exact h
    · exact h.elim
  exact fnD_of0 F (Fd.bindsN (ps := ["part"]) fun _ _ _ _ _ _ us hl => match us, hl with | [_], _ => rfl)
end G
set_option Elab.async false
set_option linter.all false
set_option maxRecDepth 100000
set_option maxHeartbeats 4000000
namespace G
open PySem PySem.Spec L2 DL M
open He (ga ma)
theorem sc_Order___init__ : FnScope ["self", "parts", "found", "rooms", "twice", "part", "room", "at", "moment"] ["self", "parts"] (defScope (mth (top 29) 0)) := ⟨rfl, rfl, rfl, by decide +kernel, rfl, by decide +kernel, by decide +kernel⟩
theorem ok_Order___init__ {n : Bool} {P : Program} {w : World} {K : PySem.W.Frag} {mg : Str → Option Value} {base : Heap} (fc : Fc P w K mg base) (F_rooms_of_part : ∀ n, FnD n P w K mg base 4 (ga K "rooms_of_part") (sp_rooms_of_part K)) {fd : FuncData} (Fd : FunD K "__init__" "Order.__init__" (defArgs (mth (top 29) 0)) (defBody (mth (top 29) 0)) (defScope (mth (top 29) 0)) [] [] (ma K (ga K "Order") "__init__") fd) :
    FnD n P w K mg base 5 (ma K (ga K "Order") "__init__") (sp_Order___init__ K) := by
  have sc := sc_Order___init__
  refine FnD.as (fn_dStar (δ := st_Order___init__ K) (ps := ["self"]) (pv := "parts") Fd sc (fun _ _ _ _ _ _ us rest hl => StX.bind_star1 (B := fun zs => bindArgs _ ⟨zs, []⟩) (fun _ => rfl) (fun _ _ _ => rfl) us rest hl) (fun cdv A outer s H E F0 ε hr cx => ⟨_, _, (ds_cons (n_setLc (own := [("part", 5)]) 2 [("part", 5)] rfl sc.nd (blkOk_by (by kernel_rfl)) (i_any (d_var 1)) (fun _ _ _ _ _ => ((gv_name 5 sc.nd)).re (by first | exact rfl | (dsimp only [Cx.blk]; try exact rfl))) (fun _ _ _ _ _ => (ts_nil).re (by first | exact rfl | (dsimp only [Cx.blk]; try exact rfl))) (fun _ _ _ _ _ => ((d_cal (cal_fn (F_rooms_of_part n) ctx0 hr (by decide) (fun h => h)) fc.k_rooms_of_part (d_gref fc.g_rooms_of_part) (da_cons (d_var 5) da_nil))).re (by first | exact rfl | (dsimp only [Cx.blk]; try exact rfl)))).d (ds_cons (d_set 3 sc.nd (n_lc2 (own := [("part", 5), ("room", 6)]) (vs1 := [6]) [("part", 5), ("room", 6)] [6] rfl sc.nd (blkOk_by (by kernel_rfl)) (i_any (d_var 2)) (fun _ _ _ _ _ => ((gv_name 5 sc.nd)).re (by first | exact rfl | (dsimp only [Cx.blk]; try exact rfl))) (fun _ _ _ _ _ => (ts_nil).re (by first | exact rfl | (dsimp only [Cx.blk]; try exact rfl))) (fun _ _ _ _ _ => ((i_any (d_var 5))).re (by first | exact rfl | (dsimp only [Cx.blk]; try exact rfl))) (fun _ _ _ _ _ => ((gv_name 6 sc.nd)).re (by first | exact rfl | (dsimp only [Cx.blk]; try exact rfl))) (fun _ _ _ _ _ => (ts_nil).re (by first | exact rfl | (dsimp only [Cx.blk]; try exact rfl))) (fun _ _ _ _ _ => ((d_var 6)).re (by first | exact rfl | (dsimp only [Cx.blk]; try exact rfl)))).d) (ds_cons (d_set 4 sc.nd (n_sorted fc.f_sorted (da_cons (n_lc (own := [("at", 7), ("room", 6)]) [("at", 7), ("room", 6)] rfl sc.nd (blkOk_by (by kernel_rfl)) (i_enumA fc.f_enumerate (da_cons (d_var 3) da_nil)) (fun _ _ _ _ _ => ((gv_tup (n := 2) rfl (gsv_cons (gv_name 7 sc.nd) (gsv_cons (gv_name 6 sc.nd) gsv_nil)))).re (by first | exact rfl | (dsimp only [Cx.blk]; try exact rfl))) (fun _ _ _ _ _ => ((ts_one (d_tcmp (o_in hr) (d_var 6) (d_slice (d_var 3) do_none (do_some (d_var 7)))))).re (by first | exact rfl | (dsimp only [Cx.blk]; try exact rfl))) (fun _ _ _ _ _ => ((b_str fc.f_str (da_cons (d_var 6) da_nil))).re (by first | exact rfl | (dsimp only [Cx.blk]; try exact rfl)))).d da_nil)).d) (ds_cons (d_ifS (d_tcmp o_gt (b_len (es := []) fc.f_len (da_cons (d_var 4) da_nil)) d_int) (ds_one (d_raise fc.x_Unlike (by first | exact .inl rfl | exact .inr rfl) fc.g_Unlike cx rfl hr (by decide) (da_cons (d_ix (d_var 4) d_int) da_nil))) ds_nil) (ds_cons (d_ifS (d_tcmp o_gt (b_len (es := []) fc.f_len (da_cons (d_var 3) da_nil)) (d_gint fc.i_MOST_ROOMS.choose_spec)) (ds_one (d_raise fc.x_TooMany (by first | exact .inl rfl | exact .inr rfl) fc.g_TooMany cx rfl hr (by decide) (da_cons d_str (da_cons (d_gint fc.i_MOST_ROOMS.choose_spec) da_nil)))) ds_nil) (ds_cons (d_setfld fc.c_Order fc.n_Order_own_moments (d_var 0) (b_tup fc.f_tuple (da_cons (n_lc (own := [("part", 5)]) [("part", 5)] rfl sc.nd (blkOk_by (by kernel_rfl)) (i_any (d_var 2)) (fun _ _ _ _ _ => ((gv_name 5 sc.nd)).re (by first | exact rfl | (dsimp only [Cx.blk]; try exact rfl))) (fun _ _ _ _ _ => (ts_nil).re (by first | exact rfl | (dsimp only [Cx.blk]; try exact rfl))) (fun _ _ _ _ _ => ((b_tup fc.f_tuple (da_cons (n_sorted fc.f_sorted (da_cons (n_lc (own := [("room", 6)]) [("room", 6)] rfl sc.nd (blkOk_by (by kernel_rfl)) (i_any (d_var 5)) (fun _ _ _ _ _ => ((gv_name 6 sc.nd)).re (by first | exact rfl | (dsimp only [Cx.blk]; try exact rfl))) (fun _ _ _ _ _ => (ts_nil).re (by first | exact rfl | (dsimp only [Cx.blk]; try exact rfl))) (fun _ _ _ _ _ => ((b_str fc.f_str (da_cons (d_var 6) da_nil))).re (by first | exact rfl | (dsimp only [Cx.blk]; try exact rfl)))).d da_nil)).d da_nil))).re (by first | exact rfl | (dsimp only [Cx.blk]; try exact rfl)))).d da_nil))) (ds_one (d_setfld fc.c_Order fc.n_Order_own_places (d_var 0) (n_dc2 Emp.k (own := [("at", 7), ("moment", 8), ("room", 6)]) (vs1 := [6]) [("at", 7), ("moment", 8), ("room", 6)] [6] hr rfl sc.nd (blkOk_by (by kernel_rfl)) (i_enumA fc.f_enumerate (da_cons (d_fld fc.c_Order fc.n_Order_own_moments (d_var 0)) da_nil)) (fun _ _ _ _ _ => ((gv_tup (n := 2) rfl (gsv_cons (gv_name 7 sc.nd) (gsv_cons (gv_name 8 sc.nd) gsv_nil)))).re (by first | exact rfl | (dsimp only [Cx.blk]; try exact rfl))) (fun _ _ _ _ _ => (ts_nil).re (by first | exact rfl | (dsimp only [Cx.blk]; try exact rfl))) (fun _ _ _ _ _ => ((i_any (d_var 8))).re (by first | exact rfl | (dsimp only [Cx.blk]; try exact rfl))) (fun _ _ _ _ _ => ((gv_name 6 sc.nd)).re (by first | exact rfl | (dsimp only [Cx.blk]; try exact rfl))) (fun _ _ _ _ _ => (ts_nil).re (by first | exact rfl | (dsimp only [Cx.blk]; try exact rfl))) (fun _ _ _ _ _ => ((d_var 6)).re (by first | exact rfl | (dsimp only [Cx.blk]; try exact rfl))) (fun _ _ _ _ _ => ((d_var 7)).re (by first | exact rfl | (dsimp only [Cx.blk]; try exact rfl)))).d)))))))), fun ds S Q h => ?_⟩)) ?_
  · unfold st_Order___init__ at h
    split at h
    · rename_i a xs
      obtain ⟨dx, qs, rfl, hp, hl, hn, hu, h8, h⟩ := h
      simp
      refine lc_map Prod.fst (fun q => strL q.2) qs [] (fun q hq Y hY => ?_) (by simp; omega) ?_
      · obtain ⟨⟨n1, n2, n3⟩, n4⟩ := hn q hq
        have n5 : ∀ w ∈ q.2, w.length ≤ 4000 := fun w hw => by
          have := List.all_eq_true.mp n2 w hw
          simp [isName] at this
          omega
        rcases n3 with ⟨z, e1, e2⟩ | e1
        · rw [e2] at n2 n5 hY
          have : isName z = true := by simpa using n2
          simp [e1, sp_rooms_of_part, n5 z, this]
          exact hY
        · simp [e1, sp_rooms_of_part, tupS]
          refine ⟨q.2, rfl, by omega, n5, ?_⟩
          exact ⟨⟨n1, fun w hw => List.all_eq_true.mp n2 w hw⟩, hY⟩
      · simp
        have hfl : qs.flatMap (fun q => q.2.map D.str) = (qs.flatMap Prod.snd).map D.str := (List.map_flatMap).symm
        refine lc2_flat (fun q => strL q.2) (fun q => q.2.map D.str) qs [] (fun q hq acc Y hl hY => ?_) (by rw [hfl, szl, List.length_map]; simp only [List.length_nil]; omega) ?_
        · simp [strL]
          refine lc_map D.str D.str q.2 acc (fun w hw Y hY => by simpa using hY) (by simpa using hl) ?_
          simpa using hY
        · rw [List.nil_append, hfl]
          have hmem : ∀ q ∈ qs, ∀ w ∈ q.2, w ∈ qs.flatMap Prod.snd := fun q hq w hw => List.mem_flatMap.mpr ⟨q, hq, hw⟩
          generalize qs.flatMap Prod.snd = fl at *
          simp [enumD_map]
          refine lc_emb (fun p : Str × Nat => D.tup [.int (p.2 : Nat), .str p.1]) (fun p => decide (p.1 ∈ fl.take p.2)) (fun p => .str p.1) fl.zipIdx [] (fun p hp Y N h1 h2 => ?_) (by simp; omega) ?_
          · simp [← List.map_take]
            by_cases e : p.1 ∈ fl.take p.2
            · rw [if_pos e]; exact h1 (by simpa using e)
            · rw [if_neg e]; exact h2 (by simpa using e)
          · have hz : fl.zipIdx.filter (fun p => decide (p.1 ∈ fl.take p.2)) = [] := by
              rw [List.filter_eq_nil_iff]
              exact List.any_eq_false.mp (zip_nodup.mpr hu)
            rw [hz]
            refine .inl ⟨[], rfl, ?_⟩
            rw [show sortS [] = [] from by simp [sortS], if_neg (by decide), if_neg (by omega)]
            refine lc_map (fun q => strL q.2) (fun q => tupS (sortS q.2)) qs [] (fun q hq Y hY => ?_) (by simp; omega) ?_
            · simp [strL]
              refine lc_map D.str D.str q.2 [] (fun w hw Y hY => by simpa using hY) (by have := (hn q hq).2; simp; omega) ?_
              simp
              exact .inl (by simpa [tupS] using hY)
            · simp [hp, ins_at]
              refine ⟨dx, [], ⟨rfl, rfl⟩, by decide, .tup (qs.map fun q => tupS (sortS q.2)), ?_, ?_⟩
              · simp
              · simp [enumD_map]
                refine dc2_str (fun p : (D × List Str) × Nat => D.tup [.int (p.2 : Nat), tupS (sortS p.1.2)]) (fun p => sortS p.1.2) (fun p => p.1.2.length) qs.zipIdx [] (fun p hp' kvs Y hk hY => ?_) ?_ (fun kvs => ?_)
                · simp [tupS]
                  refine dc_str D.str id (fun _ => D.int (p.2 : Nat)) (sortS p.1.2) kvs (fun w hw Y hY => by simpa using hY) (by rw [len_sortS]; exact hk) (fun kvs' hk' => hY kvs' (by rw [len_sortS] at hk'; exact hk'))
                · have := sum_le (xs := qs.zipIdx) (f := fun p => p.1.2.length) (B := 8) fun p hp' => by
                    have h3 : p.1 ∈ qs := by
                      have := List.mem_zipIdx hp'
                      rw [this.2.2]
                      exact List.getElem_mem _
                    exact (hn _ h3).2
                  rw [List.length_zipIdx] at this
                  rw [szl, List.length_nil]
                  omega
                · simp [and_assoc]
                  exact h kvs
    · exact h.elim
  · intro xs S Q ε h
    unfold sp_Order___init__ at h
    split at h
    · rename_i a xs
      exact ⟨[.ref a], xs, rfl, rfl, by rw [szl]; omega, h.2⟩
    · exact h.elim
end G
set_option Elab.async false
set_option linter.all false
set_option maxRecDepth 100000
set_option maxHeartbeats 4000000
namespace G
open PySem PySem.Spec L2 DL M
open He (ga ma)
theorem sc_Order_read : FnScope ["cls", "text", "parts", "found", "part"] ["cls", "text"] (defScope (mth (top 29) 1)) := ⟨rfl, rfl, rfl, by decide +kernel, rfl, by decide +kernel, by decide +kernel⟩
theorem ok_Order_read {n : Bool} {P : Program} {w : World} {K : PySem.W.Frag} {mg : Str → Option Value} {base : Heap} (fc : Fc P w K mg base) (F_moments_in : ∀ n, FnD n P w K mg base 4 (ga K "moments_in") (sp_moments_in K)) (F_Order___init__ : ∀ n, FnD n P w K mg base 5 (ma K (ga K "Order") "__init__") (sp_Order___init__ K)) {fd : FuncData} (Fd : FunD K "read" "Order.read" (defArgs (mth (top 29) 1)) (defBody (mth (top 29) 1)) (defScope (mth (top 29) 1)) [] [] (HX.ca K (ga K "Order") "read") fd) :
    FnD n P w K mg base 7 (HX.ca K (ga K "Order") "read") (sp_Order_read K) := by
  have sc := sc_Order_read
  have F : FnP n P w K mg base 7 (HX.ca K (ga K "Order") "read") fd ["cls", "text"] (sp_Order_read K) := by
    refine fn_d Fd sc (fun ds S Q ε h => by unfold sp_Order_read at h; split at h <;> first | rfl | exact h.elim) (fun cdv A outer s H E F0 ε hr cx => ⟨_, _, (ds_cons (d_set 2 sc.nd (d_cal (cal_fn (F_moments_in n) cx hr (by decide) (fun h => h)) fc.k_moments_in (d_gref fc.g_moments_in) (da_cons (d_var 1) da_nil))) (ds_cons (d_ifS (d_tcmp o_is (d_var 2) d_non) (ds_one (d_raise fc.x_BadText (by first | exact .inl rfl | exact .inr rfl) fc.g_BadText cx rfl hr (by decide) (da_cons d_int (da_cons d_int da_nil)))) ds_nil) (ds_cons (n_setLc (own := [("part", 4)]) 3 [("part", 4)] rfl sc.nd (blkOk_by (by kernel_rfl)) (i_any (d_var 2)) (fun _ _ _ _ _ => ((gv_name 4 sc.nd)).re (by first | exact rfl | (dsimp only [Cx.blk]; try exact rfl))) (fun _ _ _ _ _ => (ts_nil).re (by first | exact rfl | (dsimp only [Cx.blk]; try exact rfl))) (fun _ _ _ _ _ => ((b_tup fc.f_tuple (da_cons (d_var 4) da_nil))).re (by first | exact rfl | (dsimp only [Cx.blk]; try exact rfl)))).d (ds_one (d_ret (d_calS (cal_mkF fc.m_Order (F_Order___init__ n) cx hr (by decide) (fun h => h)) fc.k_Order (d_var 0) (d_var 3))))))), fun ds S Q h => ?_⟩)
    unfold sp_Order_read at h
    split at h
    · rename_i C z
      obtain ⟨rfl, hz, h⟩ := h
      simp [sp_moments_in]
      refine ⟨by omega, ?_⟩
      cases q : mMomentsIn z with
      | none => simp [q, optLL, xText] at h ⊢; exact h
      | some ms =>
        obtain ⟨m1, m2, m3, m4⟩ := momentsIn_facts q
        simp [q, optLL] at h ⊢
        refine lc_map strL tupS ms [] (fun m hm Y hY => ?_) (by simp; omega) ?_
        · simp [strL]
          exact hY
        · simp
          intro a dx ha
          refine ⟨by simp; omega, dx, ms.map fun m => (tupS m, m), by simp, by simp, by simp; omega, ?_, ?_, ?_, ?_⟩
          · intro q hq
            obtain ⟨m, hm, rfl⟩ := List.mem_map.mp hq
            obtain ⟨k1, k2, k3, k4⟩ := m4 m hm
            exact ⟨⟨k1, k2, .inr rfl⟩, k3⟩
          · rw [List.flatMap_map]; exact m2
          · rw [List.flatMap_map]; exact m3
          · intro kvs
            simp [sdel_sup ha, and_assoc]
            have e : ms.map ((fun q : D × List Str => tupS (sortS q.2)) ∘ fun m => (tupS m, m)) = ms.map tupS := List.map_congr_left fun m hm => congrArg tupS (m4 m hm).2.2.2
            rw [e]
            exact h kvs
    · exact h.elim
  exact fnD_of0 F (Fd.bindsN (ps := ["cls", "text"]) fun _ _ _ _ _ _ us hl => match us, hl with | [_, _], _ => rfl)
end G
set_option Elab.async false
set_option linter.all false
set_option maxRecDepth 100000
set_option maxHeartbeats 4000000
namespace G
open PySem PySem.Spec L2 DL M
open He (ga ma)
theorem sc_order_in : FnScope ["page", "found", "line"] ["page"] (defScope (top 50)) := ⟨rfl, rfl, rfl, by decide +kernel, rfl, by decide +kernel, by decide +kernel⟩
theorem ok_order_in  {P : Program} {w : World} {K : PySem.W.Frag} {mg : Str → Option Value} {base : Heap} (fc : Fc P w K mg base) (F_Page_rest : ∀ n, FnD n P w K mg base 4 (ma K (ga K "Page") "rest") (sp_Page_rest K)) (F_Order_read : ∀ n, FnD n P w K mg base 7 (HX.ca K (ga K "Order") "read") (sp_Order_read K)) (F_Page_go_on : ∀ n, FnD n P w K mg base 5 (ma K (ga K "Page") "go_on") (sp_Page_go_on K)) {fd : FuncData} (Fd : FunD K "order_in" "order_in" (defArgs (top 50)) (defBody (top 50)) (defScope (top 50)) [] [] (ga K "order_in") fd) :
    FnD false P w K mg base 8 (ga K "order_in") (sp_order_in K) := by
  have sc := sc_order_in
  have F : FnP false P w K mg base 8 (ga K "order_in") fd ["page"] (sp_order_in K) := by
    refine fn_d Fd sc (fun ds S Q ε h => by unfold sp_order_in at h; split at h <;> first | rfl | exact h.elim) (fun cdv A outer s H E F0 ε hr cx => ⟨_, _, (ds_cons (d_par 1 2 rfl sc.nd (da_cons d_non (da_cons (d_join d_str (d_meth0 fc.c_Page fc.e_Page_rest (cal_fn (F_Page_rest false) cx hr (by decide) (fun h => h)) (d_var 0))) da_nil))) (ds_cons (d_tryR rfl rfl (fun _ => PassesOwnAt.leaving) ⟨rfl, rfl, .inl fc.g_BadText⟩ fc.an_BadText cx hr (by decide) (fun _ _ _ _ _ cx1 => PDSs.re (ds_one (d_set 1 sc.nd (d_cmeth fc.r_Order fc.cm_Order_read.choose_spec (F_Order_read true) cx1 hr (by decide) (d_gref fc.g_Order) (da_cons (d_var 2) da_nil) (fun _ => rfl)))) (by first | exact rfl | (dsimp only [Cx.tr]; try exact rfl))) fc.x_BadText (by first | exact .inl rfl | exact .inr rfl) fc.g_BadText (fun _ _ _ => PDA.re (da_cons (d_fld fc.c_Page fc.n_Page_at (d_var 0)) (da_cons d_int da_nil)) (by first | exact rfl | (dsimp only [L2H.suiteX]; try exact rfl)))) (ds_cons (d_expr (d_meth0 fc.c_Page fc.e_Page_go_on (cal_fn (F_Page_go_on false) cx hr (by decide) (fun h => h)) (d_var 0))) (ds_one (d_ret (d_var 1)))))), fun ds S Q h => ?_⟩)
    unfold sp_order_in at h
    split at h
    · rename_i a
      obtain ⟨dx, rows, i, j, hp, hb, h⟩ := h
      simp [ins_page hp]
      refine ⟨dx, rows, i, j, hp, hb.row, ?_⟩
      have hl := hb.rest i j
      have hz := hb.line i j
      change kJoin (D.str " ") (strL (restOf rows i j)) (sup S a (oPage K dx rows i (j + (((rows[i]?).getD []).drop j).length))) _
      simp [strL]
      refine ⟨by omega, rfl, hz, ?_⟩
      cases q : mMomentsIn (Txt.join " " (restOf rows i j)) with
      | some ns =>
        simp [q] at h ⊢
        intro kvs
        refine ⟨dx, rows, i, _, sup_at, ?_⟩
        rw [upc_fin]
        simpa using h kvs
      | none =>
        simp [q] at h ⊢
        refine .inr ⟨by simp [xText, HX.aT, HX.pickC], h _⟩
    · exact h.elim
  exact fnD_of0 F (Fd.bindsN (ps := ["page"]) fun _ _ _ _ _ _ us hl => match us, hl with | [_], _ => rfl)
end G
set_option Elab.async false
set_option linter.all false
set_option maxRecDepth 100000
set_option maxHeartbeats 4000000
namespace G
open PySem PySem.Spec L2 DL M
open He (ga ma)
theorem sc_in_order : FnScope ["rows", "texts", "text", "row"] ["rows"] (defScope (top 33)) := ⟨rfl, rfl, rfl, by decide +kernel, rfl, by decide +kernel, by decide +kernel⟩
theorem ok_in_order {n : Bool} {P : Program} {w : World} {K : PySem.W.Frag} {mg : Str → Option Value} {base : Heap} (fc : Fc P w K mg base) {fd : FuncData} (Fd : FunD K "in_order" "in_order" (defArgs (top 33)) (defBody (top 33)) (defScope (top 33)) [] [] (ga K "in_order") fd) :
    FnD n P w K mg base 3 (ga K "in_order") (sp_in_order K) := by
  have sc := sc_in_order
  have F : FnP n P w K mg base 3 (ga K "in_order") fd ["rows"] (sp_in_order K) := by
    refine fn_d Fd sc (fun ds S Q ε h => by unfold sp_in_order at h; split at h <;> first | rfl | exact h.elim) (fun cdv A outer s H E F0 ε hr cx => ⟨_, _, (ds_cons (d_set 1 sc.nd (n_sorted fc.f_sorted (da_cons (n_lc (own := [("row", 3)]) [("row", 3)] rfl sc.nd (blkOk_by (by kernel_rfl)) (i_any (d_var 0)) (fun _ _ _ _ _ => ((gv_name 3 sc.nd)).re (by first | exact rfl | (dsimp only [Cx.blk]; try exact rfl))) (fun _ _ _ _ _ => (ts_nil).re (by first | exact rfl | (dsimp only [Cx.blk]; try exact rfl))) (fun _ _ _ _ _ => ((b_str fc.f_str (da_cons (d_joined (.cons (d_fmt02 (b_len (es := []) fc.f_len (da_cons (d_var 3) da_nil))) (.cons d_str (.cons (d_fmt (d_join d_str (d_var 3))) DJ.nil)))) da_nil))).re (by first | exact rfl | (dsimp only [Cx.blk]; try exact rfl)))).d da_nil)).d) (ds_one (d_ret (n_lc (own := [("text", 2)]) [("text", 2)] rfl sc.nd (blkOk_by (by kernel_rfl)) (i_any (d_var 1)) (fun _ _ _ _ _ => ((gv_name 2 sc.nd)).re (by first | exact rfl | (dsimp only [Cx.blk]; try exact rfl))) (fun _ _ _ _ _ => (ts_nil).re (by first | exact rfl | (dsimp only [Cx.blk]; try exact rfl))) (fun _ _ _ _ _ => ((b_tup fc.f_tuple (da_cons (d_slice (n_split (d_var 2) d_str).d (do_some d_int) do_none) da_nil))).re (by first | exact rfl | (dsimp only [Cx.blk]; try exact rfl)))).d))), fun ds S Q h => ?_⟩)
    unfold sp_in_order at h
    split at h
    · obtain ⟨rows, rfl, hz, hr, h⟩ := h
      simp
      refine lc_map tupS (fun r => D.str (rowText r)) rows [] (fun r hr0 Y hY => ?_) (by simp; omega) ?_
      · obtain ⟨h1, h2⟩ := hr r hr0
        have h3 := rowText_len h1
        have h4 := join_len " " r
        simp at h4
        have h5 := pad_len _ h1
        have h6 : (Str.empty).length = 0 := rfl
        simp [tupS, app_len, h5, h6]
        refine ⟨by omega, by omega, by omega, by omega, ?_⟩
        first | exact hY | exact ⟨by omega, hY⟩
      · simp
        refine .inl ?_
        refine lc_map D.str (fun t => tupS ((Txt.split t " ").drop 1)) (sortS (rows.map rowText)) [] (fun t ht Y hY => ?_) (by rw [len_sortS]; simp; omega) ?_
        · obtain ⟨r, hr0, rfl⟩ := List.mem_map.mp (mem_sortS.mp ht)
          obtain ⟨h1, h2⟩ := hr r hr0
          have h3 := rowText_len h1
          simp [← List.map_drop]
          exact ⟨by omega, by simpa [tupS] using hY⟩
        · simpa using h
    · exact h.elim
  exact fnD_of0 F (Fd.bindsN (ps := ["rows"]) fun _ _ _ _ _ _ us hl => match us, hl with | [_], _ => rfl)
end G
set_option Elab.async false
set_option linter.all false
set_option maxRecDepth 100000
set_option maxHeartbeats 4000000
namespace G
open PySem PySem.Spec L2 DL M
open He (ga ma)
theorem sc_row_in : FnScope ["page", "ahead", "line", "number", "row"] ["page", "ahead"] (defScope (top 52)) := ⟨rfl, rfl, rfl, by decide +kernel, rfl, by decide +kernel, by decide +kernel⟩
theorem ok_row_in {n : Bool} {P : Program} {w : World} {K : PySem.W.Frag} {mg : Str → Option Value} {base : Heap} (fc : Fc P w K mg base) (F_Page_take_number : ∀ n, FnD n P w K mg base 7 (ma K (ga K "Page") "take_number") (sp_Page_take_number K)) (F_Page_rest : ∀ n, FnD n P w K mg base 4 (ma K (ga K "Page") "rest") (sp_Page_rest K)) (F_is_row : ∀ n, FnD n P w K mg base 4 (ga K "is_row") (sp_is_row K)) (F_in_order : ∀ n, FnD n P w K mg base 3 (ga K "in_order") (sp_in_order K)) (F_Page_go_on : ∀ n, FnD n P w K mg base 5 (ma K (ga K "Page") "go_on") (sp_Page_go_on K)) {fd : FuncData} (Fd : FunD K "row_in" "row_in" (defArgs (top 52)) (defBody (top 52)) (defScope (top 52)) [] [] (ga K "row_in") fd) :
    FnD n P w K mg base 8 (ga K "row_in") (sp_row_in K) := by
  have sc := sc_row_in
  have F : FnP n P w K mg base 8 (ga K "row_in") fd ["page", "ahead"] (sp_row_in K) := by
    refine fn_d Fd sc (fun ds S Q ε h => by unfold sp_row_in at h; split at h <;> first | rfl | exact h.elim) (fun cdv A outer s H E F0 ε hr cx => ⟨_, _, (ds_cons (d_set 2 sc.nd (d_fld fc.c_Page fc.n_Page_at (d_var 0))) (ds_cons (d_set 3 sc.nd (d_meth fc.c_Page fc.e_Page_take_number (cal_fn (F_Page_take_number n) cx hr (by decide) (fun h => h)) (d_var 0) (da_cons d_int (da_cons (d_gint fc.i_MOST_NUMBER.choose_spec) da_nil)))) (ds_cons (d_set 4 sc.nd (b_tup fc.f_tuple (da_cons (d_meth0 fc.c_Page fc.e_Page_rest (cal_fn (F_Page_rest n) cx hr (by decide) (fun h => h)) (d_var 0)) da_nil))) (ds_cons (d_ifS (PDW.test (d_or (d_not (d_tval (d_cal (cal_fn (F_is_row n) cx hr (by decide) (fun h => h)) fc.k_is_row (d_gref fc.g_is_row) (da_cons (d_var 4) da_nil)))) (d_or1 (PDW.test (d_and (d_tcmp o_isnot (d_var 1) d_non) (d_and1 (PDW.test (d_or (d_tcmp (o_eq hr) (d_var 4) (d_var 1)) (d_or1 (d_tcmp (o_eq hr) (d_ix (d_cal (cal_fn (F_in_order n) cx hr (by decide) (fun h => h)) fc.k_in_order (d_gref fc.g_in_order) (da_cons (n_lst (da_cons (d_var 4) (da_cons (d_var 1) da_nil))).d da_nil)) d_int) (d_var 4))))))))))) (ds_one (d_raise fc.x_BadText (by first | exact .inl rfl | exact .inr rfl) fc.g_BadText cx rfl hr (by decide) (da_cons (d_var 2) (da_cons d_int da_nil)))) ds_nil) (ds_cons (d_expr (d_meth0 fc.c_Page fc.e_Page_go_on (cal_fn (F_Page_go_on n) cx hr (by decide) (fun h => h)) (d_var 0))) (ds_one (d_ret (d_tup (da_cons (d_var 3) (da_cons (d_var 4) da_nil)))))))))), fun ds S Q h => ?_⟩)
    unfold sp_row_in at h
    split at h
    · rename_i a d
      obtain ⟨dx, rows, i, j, ah, rfl, hp, hb, h99, hah, h⟩ := h
      have hl := hb.rest i (j + 1)
      have hlc : (restOf rows i (j + 1)).length ≤ 99 := by
        unfold restOf
        cases e : rows[i]? with
        | none => simp
        | some r => have := h99 r (List.mem_of_getElem? e); simp; omega
      simp [ins_page hp]
      refine ⟨dx, rows, i, j, hp, fun z hz => Nat.le_trans (hb.up hz) (by decide), ?_⟩
      cases q : (upc rows i j).bind fun z => mNumIn z 1 999999999999 with
      | none =>
        simp [q] at h ⊢
        exact h
      | some n =>
        simp [q] at h ⊢
        refine ⟨dx, rows, i, j + 1, sup_at, hb.row, ?_⟩
        change oTup [strL (restOf rows i (j + 1))] (sup (sup S a (oPage K dx rows i (j + 1))) a (oPage K dx rows i (j + 1 + (((rows[i]?).getD []).drop (j + 1)).length))) _
        simp [strL]
        refine ⟨restOf rows i (j + 1), rfl, by omega, fun n hn => Nat.le_trans (mem_len hn) (by omega), ?_⟩
        cases q1 : isRow (restOf rows i (j + 1))
        · simp [q1] at h ⊢
          exact h _
        · cases ah with
          | none =>
            simp [q1, aheadD, rowBad] at h ⊢
            refine ⟨dx, rows, i, _, sup_at, ?_⟩
            rw [upc_fin]
            simpa [tupS] using h
          | some r =>
            have hr := hah r rfl
            simp [q1, aheadD, rowBad, tupS] at h ⊢
            by_cases e1 : restOf rows i (j + 1) = r
            · rw [if_neg (fun e => e.1 e1)] at h
              rw [if_pos e1]
              exact h _
            · rw [if_neg e1]
              obtain ⟨ts, hts⟩ := firstOf_eq (r := restOf rows i (j + 1)) (q := r)
              refine ⟨[restOf rows i (j + 1), r], rfl, by simp, ?_, ?_⟩
              · intro x hx
                rcases List.mem_cons.mp hx with rfl | hx
                · exact ⟨by omega, by omega⟩
                · obtain rfl := List.mem_singleton.mp hx
                  exact ⟨hr.1, Nat.le_trans hr.2 (by decide)⟩
              · rw [show [restOf rows i (j + 1), r].map rowText = [rowText (restOf rows i (j + 1)), rowText r] from rfl, hts]
                simp [tupS]
                by_cases e2 : firstOf (restOf rows i (j + 1)) r = restOf rows i (j + 1)
                · rw [if_neg (fun e => e.2 e2)] at h
                  rw [if_pos e2]
                  exact h _
                · rw [if_pos ⟨e1, e2⟩] at h
                  rw [if_neg e2]
                  refine ⟨dx, rows, i, _, sup_at, ?_⟩
                  rw [upc_fin]
                  simpa [tupS] using h
    · exact h.elim
  exact fnD_of0 F (Fd.bindsN (ps := ["page", "ahead"]) fun _ _ _ _ _ _ us hl => match us, hl with | [_, _], _ => rfl)
end G
set_option Elab.async false
set_option linter.all false
set_option maxRecDepth 100000
set_option maxHeartbeats 4000000
namespace G
open PySem PySem.Spec L2 DL M
open He (ga ma)
theorem sc_Priced___init__ : FnScope ["self", "cost", "locks", "order", "rounds"] ["self", "cost", "locks", "order", "rounds"] (defScope (mth (top 37) 0)) := ⟨rfl, rfl, rfl, by decide +kernel, rfl, by decide +kernel, by decide +kernel⟩
theorem ok_Priced___init__ {n : Bool} {P : Program} {w : World} {K : PySem.W.Frag} {mg : Str → Option Value} {base : Heap} (fc : Fc P w K mg base) {fd : FuncData} (Fd : FunD K "__init__" "Priced.__init__" (defArgs (mth (top 37) 0)) (defBody (mth (top 37) 0)) (defScope (mth (top 37) 0)) [] [] (ma K (ga K "Priced") "__init__") fd) :
    FnD n P w K mg base 3 (ma K (ga K "Priced") "__init__") (sp_Priced___init__ K) := by
  have sc := sc_Priced___init__
  have F : FnP n P w K mg base 3 (ma K (ga K "Priced") "__init__") fd ["self", "cost", "locks", "order", "rounds"] (sp_Priced___init__ K) := by
    refine fn_d Fd sc (fun ds S Q ε h => by unfold sp_Priced___init__ at h; split at h <;> first | rfl | exact h.elim) (fun cdv A outer s H E F0 ε hr cx => ⟨_, _, (ds_cons (d_setfld fc.c_Least fc.n_Least_cost (d_var 0) (d_var 1)) (ds_cons (d_setfld fc.c_Least fc.n_Least_locks (d_var 0) (d_var 2)) (ds_cons (d_setfld fc.c_Least fc.n_Least_order (d_var 0) (d_var 3)) (ds_one (d_setfld fc.c_Least fc.n_Least_rounds (d_var 0) (d_var 4)))))), fun ds S Q h => ?_⟩)
    unfold sp_Priced___init__ at h
    split at h
    · rename_i a x y z u
      obtain ⟨dx, hp, h⟩ := h
      simp [hp, and_assoc]
      exact h
    · exact h.elim
  exact fnD_of0 F (Fd.bindsN (ps := ["self", "cost", "locks", "order", "rounds"]) fun _ _ _ _ _ _ us hl => match us, hl with | [_, _, _, _, _], _ => rfl)
end G
set_option Elab.async false
set_option linter.all false
set_option maxRecDepth 100000
set_option maxHeartbeats 4000000
namespace G
open PySem PySem.Spec L2 DL M
open He (ga ma)
theorem sc_Rounds___init__ : FnScope ["self", "parts", "row", "number"] ["self", "parts"] (defScope (mth (top 34) 0)) := ⟨rfl, rfl, rfl, by decide +kernel, rfl, by decide +kernel, by decide +kernel⟩
theorem ok_Rounds___init__ {n : Bool} {P : Program} {w : World} {K : PySem.W.Frag} {mg : Str → Option Value} {base : Heap} (fc : Fc P w K mg base) (F_is_row : ∀ n, FnD n P w K mg base 4 (ga K "is_row") (sp_is_row K)) (F_is_int : ∀ n, FnD n P w K mg base 3 (ga K "is_int") (sp_is_int K)) (F_in_order : ∀ n, FnD n P w K mg base 3 (ga K "in_order") (sp_in_order K)) {fd : FuncData} (Fd : FunD K "__init__" "Rounds.__init__" (defArgs (mth (top 34) 0)) (defBody (mth (top 34) 0)) (defScope (mth (top 34) 0)) [] [] (ma K (ga K "Rounds") "__init__") fd) :
    FnD n P w K mg base 5 (ma K (ga K "Rounds") "__init__") (sp_Rounds___init__ K) := by
  have sc := sc_Rounds___init__
  have F : FnP n P w K mg base 5 (ma K (ga K "Rounds") "__init__") fd ["self", "parts"] (sp_Rounds___init__ K) := by
    refine fn_d Fd sc (fun ds S Q ε h => by unfold sp_Rounds___init__ at h; split at h <;> first | rfl | exact h.elim) (fun cdv A outer s H E F0 ε hr cx => ⟨_, _, (ds_cons (d_ifS (d_not (d_tval (b_isi fc.b_dict fc.f_isinstance (da_cons (d_var 1) (da_cons (d_ty fc.f_dict dbt_dict) da_nil))))) (ds_one (d_raise fc.x_BadRounds (by first | exact .inl rfl | exact .inr rfl) fc.g_BadRounds cx rfl hr (by decide) (da_cons d_str da_nil))) ds_nil) (ds_cons (d_for (passes_of rfl) rfl (i_items (d_var 1)) (g_tup rfl (gs_cons (g_name 2 sc.nd) (gs_cons (g_name 3 sc.nd) gs_nil))) (ds_one (d_ifS (PDW.test (d_or (d_not (d_tval (d_cal (cal_fn (F_is_row n) cx hr (by decide) (fun h => h)) fc.k_is_row (d_gref fc.g_is_row) (da_cons (d_var 2) da_nil)))) (d_or (d_not (d_tval (d_cal (cal_fn (F_is_int n) cx hr (by decide) (fun h => h)) fc.k_is_int (d_gref fc.g_is_int) (da_cons (d_var 3) da_nil)))) (d_or1 (d_tcmp o_lt (d_var 3) d_int))))) (ds_one (d_raise fc.x_BadRounds (by first | exact .inl rfl | exact .inr rfl) fc.g_BadRounds cx rfl hr (by decide) (da_cons d_str da_nil))) ds_nil))) (ds_cons (d_setfld fc.c_Rounds fc.n_Rounds_own_rows (d_var 0) (d_cal (cal_fn (F_in_order n) cx hr (by decide) (fun h => h)) fc.k_in_order (d_gref fc.g_in_order) (da_cons (n_listT rfl fc.f_list (da_cons (d_var 1) da_nil)).d da_nil))) (ds_one (d_setfld fc.c_Rounds fc.n_Rounds_own_parts (d_var 0) (n_dc Emp.t (own := [("row", 2)]) [("row", 2)] hr rfl sc.nd (blkOk_by (by kernel_rfl)) (i_any (d_fld fc.c_Rounds fc.n_Rounds_own_rows (d_var 0))) (fun _ _ _ _ _ => ((gv_name 2 sc.nd)).re (by first | exact rfl | (dsimp only [Cx.blk]; try exact rfl))) (fun _ _ _ _ _ => (ts_nil).re (by first | exact rfl | (dsimp only [Cx.blk]; try exact rfl))) (fun _ _ _ _ _ => ((d_var 2)).re (by first | exact rfl | (dsimp only [Cx.blk]; try exact rfl))) (fun _ _ _ _ _ => ((d_dx hr (d_var 1) (d_var 2))).re (by first | exact rfl | (dsimp only [Cx.blk]; try exact rfl)))).d))))), fun ds S Q h => ?_⟩)
    unfold sp_Rounds___init__ at h
    split at h
    · rename_i a d
      obtain ⟨dx, rows, num, rfl, hp, ⟨hl, hr, hu, ho, hs⟩, h⟩ := h
      simp [oIsi, kdOf, HX.gB, HX.tyName]
      refine for_emb (fun r : List Str => D.tup [tupS r, .int (num r)]) (fun vs ρ S' => S' = S ∧ (∃ o2 o3, ρ = [some (.ref a), some (.dT (rowKv num rows)), o2, o3]) ∧ ∀ r ∈ vs, r ∈ rows) ?_ ?_ rows _ _ ⟨rfl, ⟨none, none, rfl⟩, fun r hr => hr⟩
      · rintro r vs ρ S' N ⟨rfl, ⟨o2, o3, rfl⟩, hv⟩ hN
        obtain ⟨h1, h2, h3⟩ := hr r (hv r List.mem_cons_self)
        simp
        refine ⟨r, rfl, by have := h2.1; omega, fun w hw => h2.len hw, ?_⟩
        rw [h1]
        simp [sp_is_int]
        rw [if_neg (by omega)]
        exact hN _ _ ⟨rfl, ⟨_, _, rfl⟩, fun r hr => hv r (List.mem_cons_of_mem _ hr)⟩
      · rintro ρ S' ⟨rfl, ⟨o2, o3, rfl⟩, _⟩
        simp
        refine ⟨rows, rfl, by omega, fun r hr0 => ⟨(hr r hr0).2.1.1, by have := (hr r hr0).2.1.2; omega⟩, ?_⟩
        rw [ho]
        have e : (rows.map rowText).map (fun t => tupS ((Txt.split t " ").drop 1)) = rows.map tupS := by
          rw [List.map_map]
          exact List.map_congr_left fun r hr0 => congrArg tupS (hs r hr0)
        simp only [e, List.map_map] at *
        simp [hp, ins_at]
        refine ⟨dx, [], ⟨rfl, rfl⟩, by decide, _, by simp; rfl, ?_⟩
        simp
        refine dc_tup tupS id (fun r => D.int (num r)) rows [] (fun r hr0 Y hY => ?_) (by simp; omega) ?_ ?_
        · simp [tupS, valD_row hr0]
          exact hY
        · simp
          exact List.pairwise_map.mpr (hu.imp fun h e => h ((List.map_inj_right (fun _ _ e => Sum.inr.inj e)).mp e))
        · simp
          exact ⟨_, _, ⟨rfl, rfl⟩, by simp, by simpa [rowKv] using h⟩
    · exact h.elim
  exact fnD_of0 F (Fd.bindsN (ps := ["self", "parts"]) fun _ _ _ _ _ _ us hl => match us, hl with | [_, _], _ => rfl)
end G
set_option Elab.async false
set_option linter.all false
set_option maxRecDepth 100000
set_option maxHeartbeats 4000000
namespace G
open PySem PySem.Spec L2 DL M
open He (ga ma)
theorem sc_read_least : FnScope ["text", "cost", "locks", "order", "page", "parts", "ahead", "number"] ["text"] (defScope (top 53)) := ⟨rfl, rfl, rfl, by decide +kernel, rfl, by decide +kernel, by decide +kernel⟩
theorem ok_read_least  {P : Program} {w : World} {K : PySem.W.Frag} {mg : Str → Option Value} {base : Heap} (fc : Fc P w K mg base) (F_Page___init__ : ∀ n, FnD n P w K mg base 3 (ma K (ga K "Page") "__init__") (sp_Page___init__ K)) (F_Page_take_of : ∀ n, FnD n P w K mg base 7 (ma K (ga K "Page") "take_of") (sp_Page_take_of K)) (F_Page_take_number : ∀ n, FnD n P w K mg base 7 (ma K (ga K "Page") "take_number") (sp_Page_take_number K)) (F_Page_go_on : ∀ n, FnD n P w K mg base 5 (ma K (ga K "Page") "go_on") (sp_Page_go_on K)) (F_locks_in : FnD false P w K mg base 7 (ga K "locks_in") (sp_locks_in K)) (F_order_in : FnD false P w K mg base 8 (ga K "order_in") (sp_order_in K)) (F_Page_is_over : ∀ n, FnD n P w K mg base 3 (ma K (ga K "Page") "is_over") (sp_Page_is_over K)) (F_row_in : ∀ n, FnD n P w K mg base 8 (ga K "row_in") (sp_row_in K)) (F_Priced___init__ : ∀ n, FnD n P w K mg base 3 (ma K (ga K "Priced") "__init__") (sp_Priced___init__ K)) (F_Rounds___init__ : ∀ n, FnD n P w K mg base 5 (ma K (ga K "Rounds") "__init__") (sp_Rounds___init__ K)) {fd : FuncData} (Fd : FunD K "read_least" "read_least" (defArgs (top 53)) (defBody (top 53)) (defScope (top 53)) [] [] (ga K "read_least") fd) :
    FnD false P w K mg base 9 (ga K "read_least") (sp_read_least K) := by
  have sc := sc_read_least
  have F : FnP false P w K mg base 9 (ga K "read_least") fd ["text"] (sp_read_least K) := by
    refine fn_d Fd sc (fun ds S Q ε h => by unfold sp_read_least at h; split at h <;> first | rfl | exact h.elim) (fun cdv A outer s H E F0 ε hr cx => ⟨_, _, (ds_cons (d_par3 4 5 6 rfl sc.nd (da_cons (d_cal (cal_mk fc.m_Page (F_Page___init__ false) cx hr (by decide) (fun h => h)) fc.k_Page (d_gref fc.g_Page) (da_cons (d_var 0) da_nil)) (da_cons d_cellT (da_cons d_non da_nil)))) (ds_cons (d_expr (d_meth fc.c_Page fc.e_Page_take_of (cal_fn (F_Page_take_of false) cx hr (by decide) (fun h => h)) (d_var 4) (da_cons (d_tup (da_cons d_str da_nil)) da_nil))) (ds_cons (d_set 1 sc.nd (d_meth fc.c_Page fc.e_Page_take_number (cal_fn (F_Page_take_number false) cx hr (by decide) (fun h => h)) (d_var 4) (da_cons d_int (da_cons (d_gint fc.i_MOST_NUMBER.choose_spec) da_nil)))) (ds_cons (d_expr (d_meth0 fc.c_Page fc.e_Page_go_on (cal_fn (F_Page_go_on false) cx hr (by decide) (fun h => h)) (d_var 4))) (ds_cons (d_set 2 sc.nd (d_cal (cal_fn F_locks_in cx hr (by decide) (fun h => h)) fc.k_locks_in (d_gref fc.g_locks_in) (da_cons (d_var 4) da_nil))) (ds_cons (d_set 3 sc.nd (d_cal (cal_fn F_order_in cx hr (by decide) (fun h => h)) fc.k_order_in (d_gref fc.g_order_in) (da_cons (d_var 4) da_nil))) (ds_cons (d_while (passes_of rfl) (d_not (d_tval (d_meth0 fc.c_Page fc.e_Page_is_over (cal_fn (F_Page_is_over false) cx hr (by decide) (fun h => h)) (d_var 4)))) (ds_cons (d_asg (d_cal (cal_fn (F_row_in false) cx hr (by decide) (fun h => h)) fc.k_row_in (d_gref fc.g_row_in) (da_cons (d_var 4) (da_cons (d_var 6) da_nil))) (g_tup rfl (gs_cons (g_name 7 sc.nd) (gs_cons (g_name 6 sc.nd) gs_nil)))) (ds_one (d_asg (d_var 7) (g_sub (st_dict hr) (d_var 5) (d_var 6)))))) (ds_freezeM 5 (ds_one (d_ret (d_cal (cal_mkF fc.m_Least (fc.q_Least___init__ ▸ (F_Priced___init__ false)) cx hr (by decide) (fun h => h)) fc.k_Least (d_gref fc.g_Least) (da_cons (d_var 1) (da_cons (d_var 2) (da_cons (d_var 3) (da_cons (d_cal (cal_mkF fc.m_Rounds (F_Rounds___init__ false) cx hr (by decide) (fun h => h)) fc.k_Rounds (d_gref fc.g_Rounds) (da_cons (d_var 5) da_nil)) da_nil))))))))))))))), fun ds S Q h => ?_⟩)
    unfold sp_read_least at h
    split at h
    · rename_i z
      obtain ⟨⟨z1, z2, z3, z4⟩, h⟩ := h
      simp
      intro a dx ha
      refine ⟨dx, by simp, z1, rfl, ?_⟩
      intro p hp
      have hne : p ≠ a := fun e => by subst e; simp [sup] at hp
      have hp0 : S p = none := by
        have := hp
        unfold sup at this
        simpa [hne] using this
      have hs : PgS S a p (oPage K dx (mRows z) 0 0) [] (sup (sup (sup S a (.ins (ga K "Page") dx [])) a (oPage K dx (mRows z) 0 0)) p (.dT [])) := by
        refine ⟨fun b x hb => ?_, ?_, sup_at⟩
        · unfold sup
          by_cases e : b = p
          · subst e; rw [hp0] at hb; cases hb
          · by_cases e2 : b = a
            · subst e2; rw [ha] at hb; cases hb
            · simpa [e, e2] using hb
        · unfold sup
          simp [Ne.symm hne]
      generalize sup (sup (sup S a (.ins (ga K "Page") dx [])) a (oPage K dx (mRows z) 0 0)) p (.dT []) = S1 at hs ⊢
      generalize mRows z = rows at *
      unfold mRead at h
      simp [ins_page hs.2.1]
      refine ⟨dx, rows, 0, 0, ["least"], rfl, hs.2.1, ?_⟩
      by_cases u0 : upc rows 0 0 = some ("least" : Str)
      · rw [if_pos u0] at h
        rw [u0]
        simp
        have hs := hs.page (m' := oPage K dx rows 0 1) ha hne
        generalize sup S1 a (oPage K dx rows 0 1) = S1 at hs ⊢
        try simp [ins_page hs.2.1]
        refine ⟨dx, rows, 0, 1, hs.2.1, fun z hz => Nat.le_trans (z2.up hz) (by decide), ?_⟩
        cases u1 : (upc rows 0 1).bind fun z => mNumIn z 0 999999999999 with
        | none =>
          simp [u1] at h ⊢
          exact h _ hs.1
        | some c =>
          simp [u1] at h ⊢
          have hs := hs.page (m' := oPage K dx rows 0 2) ha hne
          generalize sup S1 a (oPage K dx rows 0 2) = S1 at hs ⊢
          try simp [ins_page hs.2.1]
          refine ⟨dx, rows, 0, 2, hs.2.1, ?_⟩
          cases u2 : upc rows 0 2 with
          | some w =>
            simp [u2] at h ⊢
            exact h _ hs.1
          | none =>
            simp [u2] at h ⊢
            have hs := hs.page (m' := oPage K dx rows 1 0) ha hne
            generalize sup S1 a (oPage K dx rows 1 0) = S1 at hs ⊢
            refine ⟨dx, rows, 1, 0, hs.2.1, z2, ?_⟩
            cases u3 : mNamesIn (Txt.join " " (restOf rows 1 0)) with
            | none =>
              simp [u3] at h ⊢
              exact fun j' => h _ (hs.page (m' := oPage K dx rows 1 j') ha hne).1
            | some ns =>
              simp [u3] at h ⊢
              have hs := hs.page (m' := oPage K dx rows 2 0) ha hne
              generalize sup S1 a (oPage K dx rows 2 0) = S1 at hs ⊢
              refine ⟨dx, rows, 2, 0, hs.2.1, z2, ?_⟩
              cases u4 : mMomentsIn (Txt.join " " (restOf rows 2 0)) with
              | none =>
                simp [u4] at h ⊢
                exact fun j' => h _ (hs.page (m' := oPage K dx rows 2 j') ha hne).1
              | some ms =>
                simp [u4] at h ⊢
                intro okv
                have hs := hs.page (m' := oPage K dx rows 3 0) ha hne
                generalize sup S1 a (oPage K dx rows 3 0) = S1 at hs ⊢
                have c1 : 0 ≤ c ∧ c ≤ 999999999999 := by
                  cases q : upc rows 0 1 with
                  | none => rw [q] at u1; cases u1
                  | some w => rw [q] at u1; exact ⟨(mNum_in u1).1, (mNum_in u1).2.1⟩
                refine ⟨fun m ρ S' => ∃ i ah acc o7, ρ = [some (.str z), some (.int c), some (dLocks K ns), some (dOrder K ms okv), some (.ref a), some (.ref p), some (aheadD ah), o7] ∧ PgS S a p (oPage K dx rows i 0) (accKv acc) S' ∧ AccOk acc ah ∧
                  acc.length + 3 ≤ i ∧ acc.length ≤ 400 ∧ rows.length ≤ i + m ∧ mGo rows m i ah acc = mGo rows rows.length 3 none [], ⟨rows.length, 3, none, [], none, rfl, hs, AccOk.nil, by decide, by decide, by omega, rfl⟩, ?_⟩
                rintro m ρ S' ⟨i, ah, acc, o7, rfl, hs, hac, l1, l2, l3, hgo⟩
                simp [ins_page hs.2.1]
                refine ⟨dx, rows, i, 0, hs.2.1, ?_⟩
                by_cases hi : rows.length ≤ i
                · have hg : mGo rows m i ah acc = .ok acc := by
                    cases m with
                    | zero => rfl
                    | succ m => unfold mGo; rw [if_pos hi]
                  rw [← hgo, hg] at h
                  simp [hi]
                  refine ⟨_, hs.2.2, fun a1 dx1 h1 => ?_⟩
                  have k1 : sdel S' p a1 = none := by
                    unfold sdel
                    by_cases e : a1 = p
                    · simp [e]
                    · simpa [e] using h1 e
                  have k2 : Ext S (sdel S' p) := fun b x hb => by
                    unfold sdel
                    by_cases e : b = p
                    · subst e; rw [hp0] at hb; cases hb
                    · simpa [e] using hs.1 b x hb
                  generalize sdel S' p = S2 at k1 k2 ⊢
                  refine ⟨dx1, acc.map Prod.fst, numOf acc, by rw [acc_kv hac.nodup]; rfl, sup_at, ⟨by simpa using l2, ?_, hac.nodup, ltT_sorted hac.pw, ?_⟩, rfl, dx1, _, by rw [sup_sup, sup_at], fun a3 dx3 h3 => ?_⟩
                  · intro r hr
                    obtain ⟨q, hq, rfl⟩ := List.mem_map.mp hr
                    obtain ⟨g1, g2, g3, g4⟩ := hac.row q hq
                    exact ⟨g1.1, g2, by rw [numOf_mem hac.nodup hq]; exact g3⟩
                  · intro r hr
                    obtain ⟨q, hq, rfl⟩ := List.mem_map.mp hr
                    exact rowText_drop (hac.row q hq).1
                  · rw [sup_sup] at h3 ⊢
                    have k3 : S2 a3 = none := by
                      by_cases e : a3 = a1
                      · rw [e]; exact k1
                      · have := h3 e
                        unfold sup at this
                        simpa [e] using this
                    rw [sdel_sup k1]
                    refine ⟨dx3, sup_at, rfl, dx3, _, by rw [sup_sup, sup_at], ?_⟩
                    rw [sup_sup, sdel_sup k3, acc_kv hac.nodup]
                    exact h (by have := hac.last; rw [List.getLast?_map] at this; rw [← this]; exact hac) l2 okv S2 k2
                · obtain ⟨m, rfl⟩ : ∃ m', m = m' + 1 := ⟨m - 1, by omega⟩
                  simp [hi]
                  rw [← hgo] at h
                  unfold mGo at h
                  rw [if_neg hi] at h
                  refine ⟨dx, rows, i, 0, ah, rfl, hs.2.1, z2, z3, fun r hr => (hac.ahead hr).2, ?_⟩
                  cases u5 : (upc rows i 0).bind fun z => mNumIn z 1 999999999999 with
                  | none =>
                    simp [u5] at h ⊢
                    exact h _ hs.1
                  | some n =>
                    have n1 : 1 ≤ n ∧ n ≤ 999999999999 := by
                      cases q : upc rows i 0 with
                      | none => rw [q] at u5; cases u5
                      | some w => rw [q] at u5; exact ⟨(mNum_in u5).1, (mNum_in u5).2.1⟩
                    simp only [u5] at h ⊢
                    by_cases ok : isRow (restOf rows i 1) = true ∧ rowBad (restOf rows i 1) ah = false
                    · rw [if_pos ok]
                      have hrl : (restOf rows i 1).length ≤ 99 := by
                        unfold restOf
                        cases e : rows[i]? with
                        | none => simp
                        | some r => have := z3 r (List.mem_of_getElem? e); simp; omega
                      have hac2 := hac.snoc (n := n) ⟨ok.1, by omega⟩ ⟨by omega, by have := z2.rest i 1; omega⟩ n1.1 n1.2 ok.2
                      have hs := hs.page (m' := oPage K dx rows (i + 1) 0) ha hne
                      generalize sup S' a (oPage K dx rows i.succ 0) = S2 at hs ⊢
                      have hs2 := hs.dict (kvs' := accKv (acc ++ [(restOf rows i 1, n)])) hp0 hne
                      simp
                      refine ⟨p, rfl, .inr ⟨accKv acc, (restOf rows i 1).map D.str, (restOf rows i 1).map Sum.inr, hs.2.2, rfl, keysOf_strs, by rw [szl]; simp [accKv]; omega, ?_⟩⟩
                      rw [acc_new hac2.fresh, show accKv acc ++ [((restOf rows i 1).map Sum.inr, D.int n)] = accKv (acc ++ [(restOf rows i 1, n)]) by simp [accKv]]
                      refine ⟨m, by omega, i + 1, some (restOf rows i 1), rfl, _, hs2, hac2, by simp; omega, by simp; omega, by omega, ?_⟩
                      rw [← hgo]
                      conv => rhs; unfold mGo
                      rw [if_neg hi, u5]
                      simp only []
                      rw [if_pos ok]
                    · rw [if_neg ok] at h
                      rw [if_neg ok]
                      intro j'
                      exact h _ (hs.page (m' := oPage K dx rows i j') ha hne).1
      · rw [if_neg u0] at h
        cases u1 : upc rows 0 0 with
        | none => exact h _ hs.1
        | some w =>
          have : w ≠ ("least" : Str) := fun e => u0 (by rw [u1, e])
          simp [this]
          exact h _ hs.1
    · rename_i x hx
      obtain ⟨hk, h⟩ := h
      simp
      intro a dx ha
      unfold sp_Page___init__
      split
      · rename_i heq
        simp at heq
        exact absurd heq.2 (hx _)
      · rename_i heq
        simp at heq
        obtain ⟨rfl, rfl⟩ := heq
        exact ⟨hk _ (ext_sup ha), h _ (ext_sup ha)⟩
      · rename_i hno1 hno2
        exact absurd rfl (hno2 _ _)
    · exact h.elim
  exact fnD_of0 F (Fd.bindsN (ps := ["text"]) fun _ _ _ _ _ _ us hl => match us, hl with | [_], _ => rfl)
end G
set_option Elab.async false
set_option linter.all false
set_option maxRecDepth 100000
set_option maxHeartbeats 4000000
namespace G
open PySem PySem.Spec L2 DL M
open He (ga ma)
theorem sc__law_heard : FnScope ["_law_text_here", "_law_caught", "error"] ["_law_text_here"] (defScope (top 65)) := ⟨rfl, rfl, rfl, by decide +kernel, rfl, by decide +kernel, by decide +kernel⟩
theorem ok__law_heard  {P : Program} {w : World} {K : PySem.W.Frag} {mg : Str → Option Value} {base : Heap} (fc : Fc P w K mg base) (F_least_text : ∀ n, FnD n P w K mg base 8 (ga K "least_text") (sp_least_text K)) (F_read_least : FnD false P w K mg base 9 (ga K "read_least") (sp_read_least K)) {fd : FuncData} (Fd : FunD K "_law_heard" "_law_heard" (defArgs (top 65)) (defBody (top 65)) (defScope (top 65)) [] [] (ga K "_law_heard") fd) :
    FnD false P w K mg base 10 (ga K "_law_heard") (sp__law_heard K) := by
  have sc := sc__law_heard
  have F : FnP false P w K mg base 10 (ga K "_law_heard") fd ["_law_text_here"] (sp__law_heard K) := by
    refine fn_d Fd sc (fun ds S Q ε h => by unfold sp__law_heard at h; split at h <;> first | rfl | exact h.elim) (fun cdv A outer s H E F0 ε hr cx => ⟨_, _, (ds_cons (d_set 1 sc.nd d_non) (ds_cons (d_tryHold rfl rfl rfl sc.nd 2 1 ⟨rfl, rfl, .inl fc.g_HouseError⟩ fc.an_HouseError (fun _ _ _ _ _ cx1 => PDSs.re (ds_one (d_ret (n_lst (da_cons (d_cal (cal_fn (F_least_text false) cx1 hr (by decide) (fun h => h)) fc.k_least_text (d_gref fc.g_least_text) (da_cons (d_cal (cal_fn F_read_least cx1 hr (by decide) (fun h => h)) fc.k_read_least (d_gref fc.g_read_least) (da_cons (d_var 0) da_nil)) da_nil)) da_nil)).d)) (by first | exact rfl | (dsimp only [Cx.tr]; try exact rfl)))) (ds_one (d_ret (d_if (PDW.test (d_and (d_tval (b_isi fc.a_BadText fc.f_isinstance (da_cons (d_var 1) (da_cons (d_gref fc.g_BadText) da_nil)))) (d_and1 (d_tval (b_isi fc.a_BadInput fc.f_isinstance (da_cons (d_var 1) (da_cons (d_gref fc.g_BadInput) da_nil))))))) (d_tup (da_cons (d_xf fc.x_line (d_var 1)) (da_cons (d_xf fc.x_word (d_var 1)) da_nil))) d_str))))), fun ds S Q h => ?_⟩)
    unfold sp__law_heard at h
    split at h
    · rename_i z
      obtain ⟨hb, h⟩ := h
      simp [sp_read_least]
      refine ⟨hb, ?_⟩
      cases q : mRead (mRows z) with
      | error e =>
        obtain ⟨i, j⟩ := e
        simp [q] at h ⊢
        intro S' hS
        refine ⟨by simp [xText, HX.aT, HX.pickC], by simp [xText], ?_⟩
        simp [oIsi, kdOf, HX.gT, HX.pickC, xText]
        exact h S' hS
      | ok e =>
        obtain ⟨c, ns, ms, acc⟩ := e
        simp [q] at h ⊢
        intro hac hl kvs S' hS
        obtain ⟨_, ⟨w, _, hc⟩, _, hn, hm, _⟩ := mRead_ok q
        have hz := hb.2.1.line 1 0
        obtain ⟨m1, m2, m3, m4⟩ := momentsIn_facts hm
        have hc1 := mNum_in hc
        have hn1 := namesIn_sum hn
        have hn2 := (namesIn_facts hn).2.1
        refine ⟨c, ns, ms, kvs, acc.map Prod.fst, numOf acc, by rw [acc_kv hac.nodup], hc1.1, hc1.2.1, ⟨by simp; omega, fun r hr => ?_⟩, by omega, by omega, by omega, fun m hm => ?_, by simpa using hl, h hac S' hS⟩
        · obtain ⟨p, hp, rfl⟩ := List.mem_map.mp hr
          obtain ⟨g1, g2, g3, g4⟩ := hac.row p hp
          rw [numOf_mem hac.nodup hp]
          exact ⟨g1.1, g2, by omega, g4⟩
        · obtain ⟨k1, k2, k3, k4⟩ := m4 m hm
          have := names_sum k2
          exact ⟨by omega, by omega⟩
    · rename_i x hx
      obtain ⟨hk, h⟩ := h
      simp
      unfold sp_read_least
      split
      · rename_i heq
        simp at heq
        exact absurd heq (hx _)
      · rename_i heq
        simp at heq
        subst heq
        refine ⟨hk, fun S' hS => ?_⟩
        refine ⟨by simp [xText, HX.aT, HX.pickC], by simp [xText], ?_⟩
        simp [oIsi, kdOf, HX.gT, HX.pickC, xText]
        exact h S' hS
      · rename_i h1 h2
        exact absurd rfl (h2 _)
    · exact h.elim
  exact fnD_of0 F (Fd.bindsN (ps := ["_law_text_here"]) fun _ _ _ _ _ _ us hl => match us, hl with | [_], _ => rfl)
end G
set_option Elab.async false
set_option linter.all false
set_option maxRecDepth 100000
set_option maxHeartbeats 4000000
namespace G
open PySem PySem.Spec L2 DL M
open He (ga ma)
theorem sc__law_right : FnScope ["_law_text_here", "_law_due_here"] ["_law_text_here"] (defScope (top 68)) := ⟨rfl, rfl, rfl, by decide +kernel, rfl, by decide +kernel, by decide +kernel⟩
theorem ok__law_right  {P : Program} {w : World} {K : PySem.W.Frag} {mg : Str → Option Value} {base : Heap} (fc : Fc P w K mg base) (F__law_due : ∀ n, FnD n P w K mg base 5 (ga K "_law_due") (sp__law_due K)) (F__law_heard : FnD false P w K mg base 10 (ga K "_law_heard") (sp__law_heard K)) {fd : FuncData} (Fd : FunD K "_law_right" "_law_right" (defArgs (top 68)) (defBody (top 68)) (defScope (top 68)) [] [] (ga K "_law_right") fd) :
    FnG false P w K mg base 11 (ga K "_law_right") (sp__law_right K) := by
  have sc := sc__law_right
  have F : FnPG false P w K mg base 11 (ga K "_law_right") fd ["_law_text_here"] (sp__law_right K) := by
    refine fn_dG Fd sc (fun ds S Q ε h => by unfold sp__law_right at h; split at h <;> first | rfl | exact h.elim) (fun cdv A outer s H E F0 ε hr gd cx => ⟨_, _, (ds_cons (d_set 1 sc.nd (d_cal (cal_fn (F__law_due false) cx hr (by decide) (fun h => h)) fc.k__law_due (d_gref fc.g__law_due) (da_cons (d_var 0) da_nil))) (ds_one (d_ret (d_cmp (o_eq hr) (b_repr hr gd fc.f_repr (da_cons (d_cal (cal_fn F__law_heard cx hr (by decide) (fun h => h)) fc.k__law_heard (d_gref fc.g__law_heard) (da_cons (d_var 0) da_nil)) da_nil)) (b_repr hr gd fc.f_repr (da_cons (d_if (d_tcmp o_is (d_var 1) d_non) (n_lst (da_cons (d_var 0) da_nil)).d (d_var 1)) da_nil)))))), fun ds S Q h => ?_⟩)
    unfold sp__law_right at h
    split at h
    · rename_i z
      obtain ⟨n, k, hz, hn, hk, h⟩ := h
      have hp := hz.pap hn hk
      have hag := agree hp
      simp
      refine ⟨hp, hp, ?_⟩
      cases q : mRead (mRows z) with
      | error e =>
        obtain ⟨i, j⟩ := e
        simp [q] at hag ⊢
        intro S' hS
        obtain ⟨hi, hj⟩ := due_small hp hag
        simp [hag, dueD, oRepr, DL.isNon, PyData.showable, PyData.showableAll, PyData.depth, PyData.depthAll, shown_pair hi hj]
        exact ⟨⟨log_lt (by omega), log_lt (by omega)⟩, h S' hS⟩
      | ok e =>
        obtain ⟨c, ns, ms, acc⟩ := e
        simp [q] at hag ⊢
        obtain ⟨hd, hac, ht⟩ := hag
        intro _ S' hS
        simp [hd, dueD, oRepr, ht, PyData.showable, PyData.showableAll, PyData.depth, PyData.depthAll, shown_text hz hn hk]
        exact h S' hS
    · exact h.elim
  exact fnG_of0 F (Fd.bindsN (ps := ["_law_text_here"]) fun _ _ _ _ _ _ us hl => match us, hl with | [_], _ => rfl)
end G
set_option Elab.async false
set_option linter.all false
set_option maxRecDepth 100000
set_option maxHeartbeats 4000000
namespace G
open PySem PySem.Spec L2 DL M
open He (ga ma)
theorem sc__law_bent : FnScope ["_law_pen_here", "_law_text_here", "_law_lines", "_law_words", "_law_spot", "_law_odd", "_law_at", "_law_way", "_law_sign", "_law_cut"] ["_law_pen_here", "_law_text_here"] (defScope (top 67)) := ⟨rfl, rfl, rfl, by decide +kernel, rfl, by decide +kernel, by decide +kernel⟩
theorem ok__law_bent {n : Bool} {P : Program} {w : World} {K : PySem.W.Frag} {mg : Str → Option Value} {base : Heap} (fc : Fc P w K mg base) (F__law_draw : ∀ n, FnD n P w K mg base 3 (ga K "_law_draw") (sp__law_draw K)) (F__law_pick : ∀ n, FnD n P w K mg base 4 (ga K "_law_pick") (sp__law_pick K)) {fd : FuncData} (Fd : FunD K "_law_bent" "_law_bent" (defArgs (top 67)) (defBody (top 67)) (defScope (top 67)) [] [] (ga K "_law_bent") fd) :
    FnD n P w K mg base 5 (ga K "_law_bent") (sp__law_bent K) := by
  have sc := sc__law_bent
  have F : FnP n P w K mg base 5 (ga K "_law_bent") fd ["_law_pen_here", "_law_text_here"] (sp__law_bent K) := by
    refine fn_d Fd sc (fun ds S Q ε h => by unfold sp__law_bent at h; split at h <;> first | rfl | exact h.elim) (fun cdv A outer s H E F0 ε hr cx => ⟨_, _, (ds_cons (d_set 2 sc.nd (n_split (d_var 1) d_str).cell) (ds_cons (d_par 6 7 rfl sc.nd (da_cons (d_cal (cal_fn (F__law_draw n) cx hr (by decide) (fun h => h)) fc.k__law_draw (d_gref fc.g__law_draw) (da_cons (d_var 0) (da_cons (b_len (es := []) fc.f_len (da_cons (d_var 2) da_nil)) da_nil))) (da_cons (d_cal (cal_fn (F__law_draw n) cx hr (by decide) (fun h => h)) fc.k__law_draw (d_gref fc.g__law_draw) (da_cons (d_var 0) (da_cons d_int da_nil))) da_nil))) (ds_cons (d_set 3 sc.nd (n_split (d_ix (d_var 2) (d_var 6)) d_str).d) (ds_cons (d_set 4 sc.nd (d_cal (cal_fn (F__law_draw n) cx hr (by decide) (fun h => h)) fc.k__law_draw (d_gref fc.g__law_draw) (da_cons (d_var 0) (da_cons (b_len (es := []) fc.f_len (da_cons (d_var 3) da_nil)) da_nil)))) (ds_cons (d_set 5 sc.nd (d_cal (cal_fn (F__law_pick n) cx hr (by decide) (fun h => h)) fc.k__law_pick (d_gref fc.g__law_pick) (da_cons (d_var 0) (da_cons (n_asLits ["", "a", "b", "p", "0", "-", "+1", "1_0", "3", "a,b", "a,", ",", "least", "zzzzzzzzz"] (n_lst (da_cons d_str (da_cons d_str (da_cons d_str (da_cons d_str (da_cons d_str (da_cons d_str (da_cons d_str (da_cons d_str (da_cons d_str (da_cons d_str (da_cons d_str (da_cons d_str (da_cons d_str (da_cons d_str da_nil))))))))))))))) rfl).d da_nil)))) (ds_cons (d_ifS (d_tcmp o_lt (d_var 7) d_int) (ds_one (d_asg (d_join d_str (d_op o_add (d_op o_add (d_slice (d_var 3) do_none (do_some (d_var 4))) (n_lst (da_cons (d_var 5) da_nil)).d) (d_slice (d_var 3) (do_some (d_op o_add (d_var 4) (d_var 7))) do_none))) (g_sub st_list (d_var 2) (d_var 6)))) (ds_one (d_ifS (d_tcmp (o_eq hr) (d_var 7) d_int) (ds_one (d_asg (d_join d_str (d_op o_add (d_slice (d_var 3) do_none (do_some (d_var 4))) (d_slice (d_var 3) (do_some (d_op o_add (d_var 4) d_int)) do_none))) (g_sub st_list (d_var 2) (d_var 6)))) (ds_one (d_ifS (d_tcmp (o_eq hr) (d_var 7) d_int) (ds_one (d_asg (d_join d_str (d_op o_add (d_var 3) (n_lst (da_cons (d_var 5) da_nil)).d)) (g_sub st_list (d_var 2) (d_var 6)))) (ds_one (d_ifS (d_tcmp (o_eq hr) (d_var 7) d_int) (ds_one (d_expr (d_popAt (d_var 2) (da_cons (d_var 6) da_nil)))) (ds_one (d_ifS (d_tcmp (o_eq hr) (d_var 7) d_int) (ds_one (d_expr (d_insert (d_var 2) (da_cons (d_var 6) (da_cons (d_ix (d_var 2) (d_var 6)) da_nil))))) (ds_one (d_ifS (d_tcmp (o_eq hr) (d_var 7) d_int) (ds_one (d_asg (d_tup (da_cons (d_ix (d_var 2) (d_op o_sub (d_var 6) d_int)) (da_cons (d_ix (d_var 2) (d_var 6)) da_nil))) (g_tup rfl (gs_cons (g_sub st_list (d_var 2) (d_var 6)) (gs_cons (g_sub st_list (d_var 2) (d_op o_sub (d_var 6) d_int)) gs_nil))))) (ds_cons (d_par 8 9 rfl sc.nd (da_cons (d_cal (cal_fn (F__law_pick n) cx hr (by decide) (fun h => h)) fc.k__law_pick (d_gref fc.g__law_pick) (da_cons (d_var 0) (da_cons (n_asLits [" ", "\n", "a", "0", "1", "-", "+", "_", "A", ",", "~"] (n_lst (da_cons d_str (da_cons d_str (da_cons d_str (da_cons d_str (da_cons d_str (da_cons d_str (da_cons d_str (da_cons d_str (da_cons d_str (da_cons d_str (da_cons d_str da_nil)))))))))))) rfl).d da_nil))) (da_cons (d_cal (cal_fn (F__law_draw n) cx hr (by decide) (fun h => h)) fc.k__law_draw (d_gref fc.g__law_draw) (da_cons (d_var 0) (da_cons (d_op o_add (b_len (es := []) fc.f_len (da_cons (d_ix (d_var 2) (d_var 6)) da_nil)) d_int) da_nil))) da_nil))) (ds_one (d_asg (d_op o_add (d_op o_add (d_slice (d_ix (d_var 2) (d_var 6)) do_none (do_some (d_var 9))) (d_var 8)) (d_slice (d_ix (d_var 2) (d_var 6)) (do_some (d_op o_add (d_var 9) (d_cal (cal_fn (F__law_draw n) cx hr (by decide) (fun h => h)) fc.k__law_draw (d_gref fc.g__law_draw) (da_cons (d_var 0) (da_cons d_int da_nil))))) do_none)) (g_sub st_list (d_var 2) (d_var 6)))))))))))))))) (ds_one (d_ret (d_join d_str (d_var 2)))))))))), fun ds S Q h => ?_⟩)
    unfold sp__law_bent at h
    split at h
    · rename_i p z
      obtain ⟨cells, b, r, n, k, hp, hz, n0, n1, k1, b1, b2, r1, h⟩ := h
      refine seq_step fun rest hr => ?_
      simp
      subst hr
      have zl : z.length ≤ 16000000 := (hz.pap (by omega) (by omega)).1
      refine ⟨by omega, fun q hq => ?_⟩
      have hne : q ≠ p := fun e => by subst e; rw [hp] at hq; cases hq
      have hs : BentS p q cells b r (Txt.split z "\n") (sup S q (.lst ((Txt.split z "\n").map D.str))) := ⟨by unfold sup; simpa [Ne.symm hne] using hp, sup_at⟩
      have hls := hz.lines
      have hln := hz.1
      have hlp : 1 ≤ (Txt.split z "\n").length := List.length_pos_iff.mpr sp_ne
      generalize Txt.split z "\n" = ls at hs hls hln hlp ⊢
      generalize sup S q (.lst (ls.map D.str)) = S1 at hs ⊢
      generalize hrest : dRet (dJoin (dC (D.str "\n")) (dVar 2)) = rest
      have fin : ∀ (ρ : DL.Env) (S' : Store) (ls' : List Str) (b' r' : Int), ρ[2]? = some (some (.ref q)) → BentS p q cells b' r' ls' S' → LineB (n + 1) (k + 10) (Txt.join "\n" ls') → (ls'.map (·.length)).sum + ls'.length ≤ 16777216 → 0 ≤ b' → b' ≤ b + 8 → 0 ≤ r' → rest { nx := fun x S' => Q D.non S', rt := Q } ρ S' := by
        intro ρ S' ls' b' r' hρ hs hl hsum g1 g2 g3
        subst hrest
        simp [hρ, kJoin, ls_at hs.2]
        exact ⟨hsum, h _ b' r' S' hl g1 g2 g3 hs.1⟩
      clear hrest
      generalize hpk : sp__law_pick K = pk
      generalize hdr : sp__law_draw K = dr
      refine seq_step fun rest2 hr2 => ?_
      simp [len_at hs.2]
      rw [← hdr]
      refine ⟨cells, b, r, hs.1, by omega, by omega, b1, by omega, r1, fun a b3 r3 a1 a2 j1 j2 j3 => ?_⟩
      have hs := hs.pen (b' := b3) (r' := r3) hne
      generalize sup S1 p (penO cells b3 r3) = S1 at hs ⊢
      refine ⟨cells, b3, r3, hs.1, by decide, by decide, j1, by omega, j3, fun w b4 r4 w1 w2 j4 j5 j6 => ?_⟩
      have hs := hs.pen (b' := b4) (r' := r4) hne
      generalize sup S1 p (penO cells b4 r4) = S1 at hs ⊢
      subst hr2
      refine seq_step fun rest2 hr2 => ?_
      obtain ⟨i, rfl⟩ := Int.eq_ofNat_of_zero_le a1
      have hi : i < ls.length := by omega
      have hgi : ls[i]? = some ls[i] := List.getElem?_eq_getElem hi
      have hli : lnOk k ls[i] := hls _ (List.getElem_mem hi)
      have hz2 := PyProof.Rows.split_weight ls[i] " " (by rw [ln_s]; exact Nat.le_refl _)
      simp [ix_at hs.2, hgi]
      have hk2 := hli.2
      refine ⟨by omega, ?_⟩
      have hws : ∀ v ∈ Txt.split ls[i] " ", clean v := fun v hv c hm => hli.1 c (split_mem hv hm)
      have hwp : 1 ≤ (Txt.split ls[i] " ").length := List.length_pos_iff.mpr sp_ne
      generalize Txt.split ls[i] " " = ws at hws hz2 hwp ⊢
      subst hr2
      refine seq_step fun rest2 hr2 => ?_
      simp
      rw [← hdr]
      refine ⟨cells, b4, r4, hs.1, by omega, by omega, j4, by omega, j6, fun sp b5 r5 s1 s2 j7 j8 j9 => ?_⟩
      have hs := hs.pen (b' := b5) (r' := r5) hne
      generalize sup S1 p (penO cells b5 r5) = S1 at hs ⊢
      obtain ⟨sp, rfl⟩ := Int.eq_ofNat_of_zero_le s1
      subst hr2
      refine seq_step fun rest2 hr2 => ?_
      simp
      rw [← hpk]
      refine ⟨cells, b5, r5, hs.1, by simp, by simp, j7, by omega, j9, fun x hx b6 r6 j10 j11 j12 => ?_⟩
      obtain ⟨odd, hodd, rfl⟩ := mem_strs (zs := bentOdd) hx
      have ho := bentOdd_ok odd hodd
      have hs := hs.pen (b' := b6) (r' := r6) hne
      generalize sup S1 p (penO cells b6 r6) = S1 at hs ⊢
      subst hr2
      obtain ⟨w, rfl⟩ := Int.eq_ofNat_of_zero_le w1
      have g6 : 0 ≤ b6 ∧ b6 ≤ b + 5 ∧ 0 ≤ r6 := ⟨by omega, by omega, by omega⟩
      have put : ∀ (l' : Str) (ρ : DL.Env) (S' : Store) (b' r' : Int), BentS p q cells b' r' ls S' → l'.length ≤ k + 10 → LineB (n + 1) (k + 10) (Txt.join "\n" (ls.set i l')) → ρ[2]? = some (some (.ref q)) → 0 ≤ b' → b' ≤ b + 8 → 0 ≤ r' →
          oSetL (.ref q) (.int (i : Nat)) (.str l') S' fun S3 => rest { nx := fun x S' => Q D.non S', rt := Q } ρ S3 := by
        intro l' ρ S' b' r' hs ll hL hρ g1 g2 g3
        rw [setL_at hs.2 (by simpa using hi), set_strs]
        have hq2 : ((ls.set i l').map (·.length)).sum ≤ (ls.set i l').length * (k + 10) := sum_le fun x hx => by
          rcases set_mem hx with hx | rfl
          · have := (hls x hx).2; omega
          · exact ll
        have hq3 : (ls.set i l').length * (k + 10) ≤ 300 * 90 := Nat.mul_le_mul (by simp; omega) (by omega)
        rw [List.length_set] at hq2 hq3
        exact fin ρ _ (ls.set i l') b' r' hρ (hs.ls hne) hL (by rw [List.length_set]; omega) g1 g2 g3
      have one : ∀ l', lnOk (k + 10) l' → LineB (n + 1) (k + 10) (Txt.join "\n" (ls.set i l')) := fun l' hl' => lineB_join (fun x hx => by
        rcases set_mem hx with hx | rfl
        · exact ⟨(hls x hx).1, Nat.le_trans (hls x hx).2 (by omega)⟩
        · exact hl') (by simp; omega) (by omega)
      have wend : ∀ (ys : List Str) (ρ : DL.Env), (∀ v ∈ ys, clean v) → (ys.map (·.length)).sum + ys.length ≤ k + 11 → ρ[2]? = some (some (.ref q)) →
          oSetL (.ref q) (.int (i : Nat)) (.str (Txt.join " " ys)) S1 fun S3 => rest { nx := fun x S' => Q D.non S', rt := Q } ρ S3 := fun ys ρ h1 h2 hρ => by
        have := line_ok (k := k + 10) h1 (by omega)
        exact put _ ρ S1 b6 r6 hs this.2 (one _ this) hρ g6.1 (by omega) g6.2.2
      have many : ∀ (ls' : List Str) (ρ : DL.Env) (S' : Store), BentS p q cells b6 r6 ls' S' → (∀ l ∈ ls', lnOk (k + 10) l) → ls'.length ≤ n + 1 → ρ[2]? = some (some (.ref q)) → rest { nx := fun x S' => Q D.non S', rt := Q } ρ S' := by
        intro ls' ρ S' hs h1 h2 hρ
        have hq2 := lnOk_sum h1
        have hq3 : ls'.length * (k + 10) ≤ 301 * 90 := Nat.mul_le_mul (by omega) (by omega)
        exact fin ρ S' ls' b6 r6 hρ hs (lineB_join h1 h2 (by omega)) (by omega) g6.1 (by omega) g6.2.2
      have up : ∀ l ∈ ls, lnOk (k + 10) l := fun x hx => ⟨(hls x hx).1, Nat.le_trans (hls x hx).2 (by omega)⟩
      have hsp : sp < ws.length := by omega
      have ho2 := ho.2
      simp
      by_cases c1 : (w : Int) < 2
      · rw [if_pos c1, cut_from2]
        have tds := take_drop_sum (ws := ws) (i := sp) (j := sp + w) (by omega)
        refine ⟨by omega, by simp; omega, ws.take sp ++ ([odd] ++ ws.drop (sp + w)), mid_strs (o := [odd]), ?_, ?_⟩
        · simp at tds ⊢; omega
        · refine wend _ _ (fun v hv => ?_) ?_ rfl
          · rcases List.mem_append.mp hv with hv | hv
            · exact hws v (List.mem_of_mem_take hv)
            · rcases List.mem_append.mp hv with hv | hv
              · obtain rfl := List.mem_singleton.mp hv
                exact ho.1
              · exact hws v (List.mem_of_mem_drop hv)
          · simp at tds ⊢; omega
      rw [if_neg c1]
      by_cases c2 : (w : Int) = 2
      · rw [if_pos c2, cut_from1]
        have tds := take_drop_sum (ws := ws) (i := sp) (j := sp + 1) (by omega)
        refine ⟨by simp; omega, ws.take sp ++ ([] ++ ws.drop (sp + 1)), mid_strs (o := []), ?_, ?_⟩
        · simp at tds ⊢; omega
        · refine wend _ _ (fun v hv => ?_) ?_ rfl
          · rcases List.mem_append.mp hv with hv | hv
            · exact hws v (List.mem_of_mem_take hv)
            · exact hws v (List.mem_of_mem_drop hv)
          · simp at tds ⊢; omega
      rw [if_neg c2]
      by_cases c3 : (w : Int) = 3
      · rw [if_pos c3]
        refine ⟨by omega, ws ++ [odd], by rw [show ws.map D.str ++ [D.str odd] = (ws ++ [odd]).map D.str by simp]; exact strs_map, ?_, ?_⟩
        · simp; omega
        · refine wend _ _ (fun v hv => ?_) ?_ rfl
          · rcases List.mem_append.mp hv with hv | hv
            · exact hws v hv
            · obtain rfl := List.mem_singleton.mp hv
              exact ho.1
          · simp; omega
      rw [if_neg c3]
      by_cases c4 : (w : Int) = 4
      · rw [if_pos c4]
        refine ⟨⟨_, hs.2⟩, q, ls.map D.str, i, .str ls[i], rfl, hs.2, ⟨by omega, by omega⟩, ?_, by simp [hgi], ?_⟩
        · simp [seqIndex?]
          omega
        · rw [show (ls.map D.str).eraseIdx i = (ls.eraseIdx i).map D.str by rw [List.eraseIdx_eq_take_drop_succ, List.eraseIdx_eq_take_drop_succ, List.map_append, List.map_take, List.map_drop]]
          refine many (ls.eraseIdx i) _ _ (hs.ls hne) (fun l hl => up l (List.mem_of_mem_eraseIdx hl)) ?_ rfl
          rw [List.length_eraseIdx]; split <;> omega
      rw [if_neg c4]
      by_cases c5 : (w : Int) = 5
      · rw [if_pos c5]
        refine ⟨⟨_, hs.2⟩, ?_⟩
        simp [ix_at hs.2, hgi]
        refine ⟨q, ls.map D.str, rfl, hs.2, by rw [szl]; simp; omega, ⟨by omega, by omega⟩, ?_⟩
        rw [show (ls.map D.str).take (i : Int).toNat ++ [D.str ls[i]] ++ (ls.map D.str).drop (i : Int).toNat = (ls.take i ++ [ls[i]] ++ ls.drop i).map D.str by rw [List.map_append, List.map_append, List.map_take, List.map_drop]; rfl]
        refine many (ls.take i ++ [ls[i]] ++ ls.drop i) _ _ (hs.ls hne) (fun l hl => up l ?_) (by simp; omega) rfl
        rcases List.mem_append.mp hl with hl | hl
        · rcases List.mem_append.mp hl with hl | hl
          · exact List.mem_of_mem_take hl
          · obtain rfl := List.mem_singleton.mp hl
            exact List.getElem_mem hi
        · exact List.mem_of_mem_drop hl
      rw [if_neg c5]
      by_cases c6 : (w : Int) = 6
      · rw [if_pos c6]
        have hj := prev_lt hi
        have hgj : ls[prevIx i ls.length]? = some ls[prevIx i ls.length] := List.getElem?_eq_getElem hj
        rw [ix_at hs.2, atI_prev (by simpa using hi)]
        refine ⟨.str ls[prevIx i ls.length], by simp [hgj], ?_⟩
        rw [ix_at hs.2, atI_n]
        refine ⟨.str ls[i], by simp [hgi], ?_⟩
        rw [setL_at hs.2 (by simpa using hi), set_strs]
        have hs2 := hs.ls (ls' := ls.set i ls[prevIx i ls.length]) hne
        rw [setL_prev hs2.2 (by simpa using hi), set_strs]
        refine many _ _ _ (hs2.ls hne) (fun l hl => up l ?_) (by simp; omega) rfl
        rcases set_mem hl with hl | rfl
        · rcases set_mem hl with hl | rfl
          · exact hl
          · exact List.getElem_mem hj
        · exact List.getElem_mem hi
      rw [if_neg c6]
      rw [← hpk, ← hdr]
      refine ⟨cells, b6, r6, hs.1, by simp, by simp, g6.1, by omega, g6.2.2, fun x hx b7 r7 t1 t2 t3 => ?_⟩
      obtain ⟨sg, hsg, rfl⟩ := mem_strs (zs := bentSign) hx
      obtain ⟨sg1, sg2⟩ := bentSign_ok sg hsg
      have hs := hs.pen (b' := b7) (r' := r7) hne
      generalize sup S1 p (penO cells b7 r7) = S1 at hs ⊢
      simp [ix_at hs.2, hgi]
      refine ⟨by omega, cells, b7, r7, hs.1, by omega, by omega, t1, by omega, t3, fun c b8 r8 u1 u2 t4 t5 t6 => ?_⟩
      have hs := hs.pen (b' := b8) (r' := r8) hne
      generalize sup S1 p (penO cells b8 r8) = S1 at hs ⊢
      obtain ⟨c, rfl⟩ := Int.eq_ofNat_of_zero_le u1
      simp [ix_at hs.2, hgi]
      obtain ⟨_, _, v0⟩ := cut_ok (c := c) (d := 0) hli cutS_to cutS_from
      refine ⟨by omega, by omega, cells, b8, r8, hs.1, by decide, by decide, t4, by omega, t6, fun d b9 r9 u3 u4 t7 t8 t9 => ?_⟩
      have hs := hs.pen (b' := b9) (r' := r9) hne
      generalize sup S1 p (penO cells b9 r9) = S1 at hs ⊢
      obtain ⟨d, rfl⟩ := Int.eq_ofNat_of_zero_le u3
      obtain ⟨v1, v2, v3⟩ := cut_ok (A := cutS ls[i] none (some (c : Int))) (B := cutS ls[i] (some ((c : Int) + (d : Int))) none) (c := c) (d := d) hli cutS_to (cutS_from (c := c + d))
      generalize cutS ls[i] none (some (c : Int)) = A at v1 v3 ⊢
      simp
      generalize cutS ls[i] (some ((c : Int) + (d : Int))) none = B at v2 v3 ⊢
      have va : (A ++ sg ++ B).length ≤ k + 10 := by rw [app_len, app_len]; omega
      refine ⟨by omega, by rw [app_len]; omega, ?_⟩
      refine put (A ++ sg ++ B) _ S1 b9 r9 hs va ?_ rfl t7 (by omega) t9
      rcases sg2 with rfl | sg2
      · rw [set_split hi]
        refine lineB_join (fun x hx => ?_) (by simp; omega) (by omega)
        rcases List.mem_append.mp hx with hx | hx
        · exact up x (List.mem_of_mem_take hx)
        · rcases List.mem_cons.mp hx with rfl | hx
          · exact ⟨v1, by omega⟩
          · rcases List.mem_cons.mp hx with rfl | hx
            · exact ⟨v2, by omega⟩
            · exact up x (List.mem_of_mem_drop hx)
      · refine one _ ⟨fun c hm => ?_, va⟩
        rw [cp_app, cp_app] at hm
        rcases List.mem_append.mp hm with hm | hm
        · rcases List.mem_append.mp hm with hm | hm
          · exact v1 c hm
          · exact sg2 c hm
        · exact v2 c hm
    · exact h.elim
  exact fnD_of0 F (Fd.bindsN (ps := ["_law_pen_here", "_law_text_here"]) fun _ _ _ _ _ _ us hl => match us, hl with | [_, _], _ => rfl)
end G
set_option Elab.async false
set_option linter.all false
set_option maxRecDepth 100000
set_option maxHeartbeats 4000000
namespace G
open PySem PySem.Spec L2 DL M
open He (ga ma)
theorem sc_Locks_none : FnScope [] [] (defScope (mth (top 23) 1)) := ⟨rfl, rfl, rfl, by decide +kernel, rfl, by decide +kernel, by decide +kernel⟩
theorem ok_Locks_none {n : Bool} {P : Program} {w : World} {K : PySem.W.Frag} {mg : Str → Option Value} {base : Heap} (fc : Fc P w K mg base) (F_Locks___init__ : ∀ n, FnD n P w K mg base 4 (ma K (ga K "Locks") "__init__") (sp_Locks___init__ K)) {fd : FuncData} (Fd : FunD K "none" "Locks.none" (defArgs (mth (top 23) 1)) (defBody (mth (top 23) 1)) (defScope (mth (top 23) 1)) [] [] (HX.sa K (ga K "Locks") "none") fd) :
    FnD n P w K mg base 6 (HX.sa K (ga K "Locks") "none") (sp_Locks_none K) := by
  have sc := sc_Locks_none
  have F : FnP n P w K mg base 6 (HX.sa K (ga K "Locks") "none") fd [] (sp_Locks_none K) := by
    refine fn_d Fd sc (fun ds S Q ε h => by unfold sp_Locks_none at h; split at h <;> first | rfl | exact h.elim) (fun cdv A outer s H E F0 ε hr cx => ⟨_, _, (ds_one (d_ret (d_cal0 (cal_mkF fc.m_Locks (F_Locks___init__ n) cx hr (by decide) (fun h => h)) fc.k_Locks (d_gref fc.g_Locks)))), fun ds S Q h => ?_⟩)
    unfold sp_Locks_none at h
    split at h
    · simp
      intro a dx ha
      refine ⟨by decide, dx, [], rfl, by simp, by decide, by simp, ?_⟩
      simp [sdel_sup ha, and_assoc, sortU_nil]
      exact h
    · exact h.elim
  exact fnD_of0 F (Fd.bindsN (ps := []) fun _ _ _ _ _ _ us hl => match us, hl with | [], _ => rfl)
end G
set_option Elab.async false
set_option linter.all false
set_option maxRecDepth 100000
set_option maxHeartbeats 4000000
namespace G
open PySem PySem.Spec L2 DL M
open He (ga ma)
theorem sc_law : FnScope ["_law_script", "_law_pen_here", "_law_lap", "_law_some", "_law_nine", "_law_text_here", "_law_again", "_law_odd"] ["_law_script"] (defScope (top 69)) := ⟨rfl, rfl, rfl, by decide +kernel, rfl, by decide +kernel, by decide +kernel⟩
theorem ok_law  {P : Program} {w : World} {K : PySem.W.Frag} {mg : Str → Option Value} {base : Heap} (fc : Fc P w K mg base) (F__law_pen : ∀ n, FnD n P w K mg base 3 (ga K "_law_pen") (sp__law_pen K)) (F__law_text : ∀ n, FnD n P w K mg base 5 (ga K "_law_text") (sp__law_text K)) (F__law_right : FnG false P w K mg base 11 (ga K "_law_right") (sp__law_right K)) (F__law_bent : ∀ n, FnD n P w K mg base 5 (ga K "_law_bent") (sp__law_bent K)) (F__law_pick : ∀ n, FnD n P w K mg base 4 (ga K "_law_pick") (sp__law_pick K)) (F_Order___init__ : ∀ n, FnD n P w K mg base 5 (ma K (ga K "Order") "__init__") (sp_Order___init__ K)) (F_Locks_none : ∀ n, FnD n P w K mg base 6 (HX.sa K (ga K "Locks") "none") (sp_Locks_none K)) (F__law_heard : FnD false P w K mg base 10 (ga K "_law_heard") (sp__law_heard K)) {fd : FuncData} (Fd : FunD K "law" "law" (defArgs (top 69)) (defBody (top 69)) (defScope (top 69)) [] [] (ga K "law") fd) :
    FnPG false P w K mg base 12 (ga K "law") fd ["_law_script"] (sp_law K) := by
  have sc := sc_law
  have F : FnPG false P w K mg base 12 (ga K "law") fd ["_law_script"] (sp_law K) := by
    refine fn_dG Fd sc (fun ds S Q ε h => by unfold sp_law at h; split at h <;> first | rfl | exact h.elim) (fun cdv A outer s H E F0 ε hr gd cx => ⟨_, _, (ds_cons (d_set 1 sc.nd (d_cal (cal_fn (F__law_pen false) cx hr (by decide) (fun h => h)) fc.k__law_pen (d_gref fc.g__law_pen) (da_cons (d_var 0) da_nil))) (ds_cons (d_for (passes_of rfl) rfl (i_range1 fc.f_range (da_cons d_int da_nil)) (g_name 2 sc.nd) (ds_cons (d_set 5 sc.nd (d_cal (cal_fn (F__law_text false) cx hr (by decide) (fun h => h)) fc.k__law_text (d_gref fc.g__law_text) (da_cons (d_var 1) da_nil))) (ds_cons (d_for (passes_of rfl) rfl (i_range1 fc.f_range (da_cons d_int da_nil)) (g_name 6 sc.nd) (ds_cons (d_ifS (d_not (d_tval (d_cal (cal_fnG F__law_right cx hr (by decide) gd (fun h => h)) fc.k__law_right (d_gref fc.g__law_right) (da_cons (d_var 5) da_nil)))) (ds_one (d_ret d_bl)) ds_nil) (ds_one (d_set 5 sc.nd (d_if (d_tcmp (o_ne hr) (d_var 5) d_str) (d_cal (cal_fn (F__law_bent false) cx hr (by decide) (fun h => h)) fc.k__law_bent (d_gref fc.g__law_bent) (da_cons (d_var 1) (da_cons (d_var 5) da_nil))) d_str))))) (ds_cons (d_set 7 sc.nd (d_cal (cal_fn (F__law_pick false) cx hr (by decide) (fun h => h)) fc.k__law_pick (d_gref fc.g__law_pick) (da_cons (d_var 1) (da_cons (n_lst (da_cons d_non (da_cons d_int (da_cons d_bl (da_cons (n_lst (da_cons (d_var 5) da_nil)).d (da_cons (d_tup (da_cons (d_var 5) da_nil)) (da_cons d_dnewK (da_cons (d_smeth0 fc.r_Locks fc.sm_Locks_none.choose_spec (cal_fn (F_Locks_none false) cx hr (by decide) (fun h => h)) (d_gref fc.g_Locks)) (da_cons (d_cal (cal_mkF fc.m_Order (F_Order___init__ false) cx hr (by decide) (fun h => h)) fc.k_Order (d_gref fc.g_Order) (da_cons d_str da_nil)) da_nil))))))))).d da_nil)))) (ds_one (d_ifS (d_tcmp (o_ne hr) (d_cal (cal_fn F__law_heard cx hr (by decide) (fun h => h)) fc.k__law_heard (d_gref fc.g__law_heard) (da_cons (d_var 7) da_nil)) (d_tup (da_cons d_int (da_cons d_int da_nil)))) (ds_one (d_ret d_bl)) ds_nil)))))) (ds_cons (d_set 3 sc.nd (n_asLits ["", "least", "least 0", "least 0\n-", "least 0\n-\n-", "least 0\n-\n-\n", "least 0\n-\n-\n1", "least 0\n-\n-\n1 a"] (n_lst (da_cons d_str (da_cons d_str (da_cons d_str (da_cons d_str (da_cons d_str (da_cons d_str (da_cons d_str (da_cons d_str da_nil))))))))) rfl).d) (ds_cons (d_set 4 sc.nd d_str) (ds_cons (d_set 3 sc.nd (d_op o_add (d_var 3) (n_lst (da_cons d_str (da_cons (d_op o_add (d_op o_add (d_op o_add (d_op o_add d_str (d_var 4)) d_str) (d_var 4)) d_str) da_nil))).d)) (ds_cons (d_set 3 sc.nd (d_op o_add (d_var 3) (n_lst (da_cons (d_op o_add (d_op o_add (d_op o_add d_str (d_var 4)) d_str) (d_var 4)) (da_cons (d_op o_add (d_op o_add d_str (d_var 4)) d_str) da_nil))).d)) (ds_one (d_ret (d_cmp (o_eq hr) (n_lc (own := [("_law_text_here", 5)]) [("_law_text_here", 5)] rfl sc.nd (blkOk_by (by kernel_rfl)) (i_any (d_var 3)) (fun _ _ _ _ _ => ((gv_name 5 sc.nd)).re (by first | exact rfl | (dsimp only [Cx.blk]; try exact rfl))) (fun _ _ _ _ _ => ((ts_one (d_not (d_tval (d_cal (cal_fnG F__law_right ctx0 hr (by decide) gd (fun h => h)) fc.k__law_right (d_gref fc.g__law_right) (da_cons (d_var 5) da_nil)))))).re (by first | exact rfl | (dsimp only [Cx.blk]; try exact rfl))) (fun _ _ _ _ _ => ((d_var 5)).re (by first | exact rfl | (dsimp only [Cx.blk]; try exact rfl)))).d (n_lst da_nil).d))))))))), fun ds S Q h => ?_⟩)
    unfold sp_law at h
    split at h
    · rename_i ns
      refine seq_step fun rest hr => ?_
      simp
      intro p hp
      subst hr
      refine seq_step fun rest hr => ?_
      simp
      generalize hpen : sup S p (penO (ns.take 63) 0 0) = S1
      have hS1 : S1 p = some (penO (ns.take 63) 0 0) := by rw [← hpen]; exact sup_at
      generalize ns.take 63 = cells at hS1
      clear hpen
      rw [range_up]
      refine for_emb (fun k : Nat => D.int (k : Nat)) (fun vs ρ S' => ∃ (b r : Int) (o2 o3 o4 o5 o6 o7 : Option D), ρ = [some (.scr ns), some (.ref p), o2, o3, o4, o5, o6, o7] ∧ S' p = some (penO cells b r) ∧ 0 ≤ b ∧ b + 50 * vs.length ≤ 500 ∧ 0 ≤ r) ?_ ?_ (List.range 10) _ _ ⟨0, 0, _, _, _, _, _, _, rfl, hS1, by decide, by decide, by decide⟩
      · rintro lap vs ρ S' N ⟨b, r, o2, o3, o4, o5, o6, o7, rfl, hS, b0, b1, r0⟩ hN
        simp only [List.length_cons] at b1
        simp only [s_gName]
        refine seq_step fun rest2 hr2 => ?_
        simp
        refine ⟨cells, b, r, hS, b0, by omega, r0, fun z b2 r2 hz j1 j2 j3 => ?_⟩
        have hS2 : sup S' p (penO cells b2 r2) p = some (penO cells b2 r2) := sup_at
        generalize sup S' p (penO cells b2 r2) = S2 at hS2 ⊢
        subst hr2
        refine seq_step fun rest2 hr2 => ?_
        simp
        rw [range_up]
        refine for_emb (fun k : Nat => D.int (k : Nat)) (fun vs ρ S' => ∃ (z : Str) (b r : Int) (o6 : Option D), ρ = [some (.scr ns), some (.ref p), some (.int lap), o3, o4, some (.str z), o6, o7] ∧ S' p = some (penO cells b r) ∧ vs.length ≤ 4 ∧ LineB (16 - vs.length) (60 - 10 * vs.length) z ∧ 0 ≤ b ∧ b + 8 * vs.length ≤ b2 + 32 ∧ 0 ≤ r) ?_ ?_ (List.range 4) _ _ ⟨z, b2, r2, _, rfl, hS2, by decide, by simpa using hz, j1, by simp, j3⟩
        · rintro ag vs2 ρ S3 N2 ⟨z, b3, r3, o6, rfl, hS3, v1, hz, k1, k2, k3⟩ hN2
          simp only [List.length_cons] at v1 hz k2
          simp
          refine ⟨_, _, hz, by omega, by omega, fun S4 hS4 => ?_⟩
          have hS5 := hS4 _ _ hS3
          simp
          by_cases ez : z = ("" : Str)
          · rw [if_pos ez]
            exact hN2 _ _ ⟨_, b3, r3, _, rfl, hS5, by omega, (lineB_one least0_ok).mono (by omega) (by omega), k1, by omega, k3⟩
          · rw [if_neg ez]
            refine ⟨cells, b3, r3, _, _, hS5, hz, by omega, by omega, by omega, k1, by omega, k3, fun z' b' r' S6 hz' l1 l2 l3 l4 => ?_⟩
            exact hN2 _ _ ⟨z', b', r', _, rfl, l4, by omega, hz'.mono (by omega) (by omega), l1, by omega, l3⟩
        · rintro ρ S3 ⟨z, b3, r3, o6, rfl, hS3, v1, hz, k1, k2, k3⟩
          rw [s_nx]
          subst hr2
          refine seq_step fun rest2 hr2 => ?_
          simp
          simp only [sp_Locks_none]
          intro a dx ha
          simp only [sp_Order___init__, st_Order___init__]
          refine ⟨by decide, dx, [(.str "a", ["a"])], rfl, sup_at, by decide, fun q hq => ?_, by simp, by simp, fun kvs => ?_⟩
          · obtain rfl := List.mem_singleton.mp hq
            exact ⟨⟨by simp, by decide +kernel, .inl ⟨_, rfl, rfl⟩⟩, by simp⟩
          · rw [sup_sup]
            refine ⟨by simp, dx, _, sup_at, ?_⟩
            rw [sdel_sup ha]
            refine ⟨cells, b3, r3, hS3, by simp, by simp, k1, by simp at k2; omega, k3, fun x hx b4 r4 l1 l2 l3 => ?_⟩
            have hS4 : sup S3 p (penO cells b4 r4) p = some (penO cells b4 r4) := sup_at
            generalize sup S3 p (penO cells b4 r4) = S4 at hS4 ⊢
            have fin : ∀ S', M.Ext S4 S' → N [some (D.scr ns), some (D.ref p), some (D.int ↑lap), o3, o4, some (D.str z), o6, some x] S' := fun S' hS' => hN _ _ ⟨b4, r4, _, _, _, _, _, _, rfl, hS' _ _ hS4, l1, by simp at k2; omega, l3⟩
            clear hN
            subst hr2
            have key : (∀ S', M.Ext S4 S' → kdOf S' x ∈ [some Kd.non, some .bl, some .int, some .tup, some .lst, some .dic, some (.ins (ga K "Locks")), some (.ins (ga K "Order"))]) ∧ ∀ z, x ≠ .str z := by
              simp only [List.mem_cons, List.not_mem_nil, or_false] at hx
              rcases hx with rfl | rfl | rfl | rfl | rfl | rfl | rfl | rfl <;> exact ⟨fun S' _ => by simp [kdOf, dLocks], fun z e => by cases e⟩
            clear hx
            simp
            unfold sp__law_heard
            split
            · rename_i heq
              simp at heq
              exact absurd heq (key.2 _)
            · rename_i heq
              simp at heq
              subst heq
              exact ⟨key.1, fun S' hS' => by simpa [opEqP, PyData.eqv, PyData.eqvAll, PyData.depth, PyData.depthAll] using fin S' hS'⟩
            · rename_i h1 h2
              exact absurd rfl (h2 _)
      · rintro ρ S' ⟨b, r, o2, o3, o4, o5, o6, o7, rfl, hS, b0, b1, r0⟩
        subst hr
        obtain ⟨L, hL⟩ : ∃ L : List Str, L = fixedA := ⟨_, rfl⟩
        rw [show nLits ["", "least", "least 0", "least 0\n-", "least 0\n-\n-", "least 0\n-\n-\n", "least 0\n-\n-\n1", "least 0\n-\n-\n1 a"] = nLits fixedA from rfl, ← hL]
        have hall := fixed_ok
        rw [← hL] at hall
        have g1 : ("1 a b c d e f g h i" : Str).length ≤ 40 := by decide +kernel
        have g2 : ("least 0\n-\n-\n1 a b\n1 a b" : Str).length ≤ 40 := by decide +kernel
        have g3 : ("least 0\n-\n-\n1 a b\n" : Str).length ≤ 40 := by decide +kernel
        have g4 : ("\n" : Str).length ≤ 40 := by decide +kernel
        have g5 : (" j" : Str).length ≤ 40 := by decide +kernel
        have g6 : ("least 0\n-\n-\n" : Str).length ≤ 40 := by decide +kernel
        have g7 : (" j\n" : Str).length ≤ 40 := by decide +kernel
        have g8 : ("\n1 a b" : Str).length ≤ 40 := by decide +kernel
        have g9 : L.length = 8 := by rw [hL]; rfl
        clear hL
        generalize ("1 a b c d e f g h i" : Str) = z1 at *
        generalize ("least 0\n-\n-\n1 a b\n1 a b" : Str) = z2 at *
        generalize ("least 0\n-\n-\n1 a b\n" : Str) = z3 at *
        generalize ("\n" : Str) = z4 at g4 hall ⊢
        generalize (" j" : Str) = z5 at *
        generalize ("least 0\n-\n-\n" : Str) = z6 at *
        generalize (" j\n" : Str) = z7 at *
        generalize ("\n1 a b" : Str) = z8 at *
        rw [s_nx]
        refine seq_step fun rest2 hr2 => ?_
        simp
        refine ⟨by omega, ?_⟩
        subst hr2
        refine seq_step fun rest2 hr2 => ?_
        simp
        subst hr2
        refine seq_step fun rest2 hr2 => ?_
        simp [app_len]
        refine ⟨by omega, by omega, by omega, by omega, by omega, ?_⟩
        subst hr2
        refine seq_step fun rest2 hr2 => ?_
        simp [app_len]
        refine ⟨by omega, by omega, by omega, by omega, by omega, by omega, ?_⟩
        subst hr2
        simp
        have e : List.map D.str L ++ [D.str z2, D.str (z3 ++ z1 ++ z4 ++ z1 ++ z5), D.str (z6 ++ z1 ++ z7 ++ z1), D.str (z6 ++ z1 ++ z8)] = (L ++ ([z2, z3 ++ z1 ++ z4 ++ z1 ++ z5] ++ [z6 ++ z1 ++ z7 ++ z1, z6 ++ z1 ++ z8])).map D.str := by simp
        rw [e]
        have hn : (L ++ ([z2, z3 ++ z1 ++ z4 ++ z1 ++ z5] ++ [z6 ++ z1 ++ z7 ++ z1, z6 ++ z1 ++ z8])).length = 12 := by simp [g9]
        generalize L ++ ([z2, z3 ++ z1 ++ z4 ++ z1 ++ z5] ++ [z6 ++ z1 ++ z7 ++ z1, z6 ++ z1 ++ z8]) = M at hall hn ⊢
        clear e
        refine lc_inv D.str (fun vs acc _ => acc = [] ∧ ∀ v ∈ vs, v ∈ M) ?_ ?_ M [] S' (by rw [szl]; simp; omega) ⟨rfl, fun v hv => hv⟩
        · rintro x xs acc S5 Y N ⟨rfl, k2⟩ hY hN
          simp
          obtain ⟨n, k, j1, j2, j3⟩ := hall x (k2 x List.mem_cons_self)
          refine ⟨n, k, j1, j2, j3, fun S6 _ => ?_⟩
          simp
          exact hN _ ⟨rfl, fun v hv => k2 v (List.mem_cons_of_mem _ hv)⟩
        · rintro acc S5 ⟨rfl, _⟩
          simp [opEqP, PyData.eqv, PyData.eqvAll, PyData.depth, PyData.depthAll]
          exact h _
    · exact h.elim
  exact F
end G
set_option Elab.async false
set_option linter.all false
set_option maxRecDepth 100000
set_option maxHeartbeats 4000000
namespace Fi
open PySem PySem.Spec L2 DL M G HX
open He (ga ma)
section
variable {P : Program} {w : World} {K : PySem.W.Frag} {mg : Str → Option Value} {base : Heap}
theorem er_BadRounds (c : SaysX Hd.fa Hd.dx K) : ErrC P w K mg base (ga K "BadRounds") ["part"] := by
  obtain ⟨fd, F⟩ := c.def_ 53 (d := Hd.d53) rfl
  obtain ⟨t, ini, ty, no⟩ := HX.oex_ok (c.fact 158 (f := .oex "BadRounds" ["part"]) rfl)
  exact err1 (N := ["self", "part"]) t ini ty F ⟨rfl, rfl, rfl, by decide +kernel, rfl, by decide +kernel, by decide +kernel⟩ rfl (no "part" (by decide)) (FunD.bindsN (ps := ["self", "part"]) F fun _ _ _ _ _ _ us hl => match us, hl with | [_, _], _ => rfl)
theorem er_BadHouse (c : SaysX Hd.fa Hd.dx K) : ErrC P w K mg base (ga K "BadHouse") ["part"] := by
  obtain ⟨fd, F⟩ := c.def_ 50 (d := Hd.d50) rfl
  obtain ⟨t, ini, ty, no⟩ := HX.oex_ok (c.fact 159 (f := .oex "BadHouse" ["part"]) rfl)
  exact err1 (N := ["self", "part"]) t ini ty F ⟨rfl, rfl, rfl, by decide +kernel, rfl, by decide +kernel, by decide +kernel⟩ rfl (no "part" (by decide)) (FunD.bindsN (ps := ["self", "part"]) F fun _ _ _ _ _ _ us hl => match us, hl with | [_, _], _ => rfl)
theorem er_BadText (c : SaysX Hd.fa Hd.dx K) : ErrC P w K mg base (ga K "BadText") ["line", "word"] := by
  obtain ⟨fd, F⟩ := c.def_ 54 (d := Hd.d54) rfl
  obtain ⟨t, ini, ty, no⟩ := HX.oex_ok (c.fact 160 (f := .oex "BadText" ["line", "word"]) rfl)
  exact err2 (N := ["self", "line", "word"]) t ini ty F ⟨rfl, rfl, rfl, by decide +kernel, rfl, by decide +kernel, by decide +kernel⟩ rfl (no "line" (by decide)) (no "word" (by decide)) (FunD.bindsN (ps := ["self", "line", "word"]) F fun _ _ _ _ _ _ us hl => match us, hl with | [_, _, _], _ => rfl)
theorem er_BadLocks (c : SaysX Hd.fa Hd.dx K) : ErrC P w K mg base (ga K "BadLocks") ["part"] := by
  obtain ⟨fd, F⟩ := c.def_ 51 (d := Hd.d51) rfl
  obtain ⟨t, ini, ty, no⟩ := HX.oex_ok (c.fact 161 (f := .oex "BadLocks" ["part"]) rfl)
  exact err1 (N := ["self", "part"]) t ini ty F ⟨rfl, rfl, rfl, by decide +kernel, rfl, by decide +kernel, by decide +kernel⟩ rfl (no "part" (by decide)) (FunD.bindsN (ps := ["self", "part"]) F fun _ _ _ _ _ _ us hl => match us, hl with | [_, _], _ => rfl)
theorem er_BadOrder (c : SaysX Hd.fa Hd.dx K) : ErrC P w K mg base (ga K "BadOrder") ["part"] := by
  obtain ⟨fd, F⟩ := c.def_ 52 (d := Hd.d52) rfl
  obtain ⟨t, ini, ty, no⟩ := HX.oex_ok (c.fact 162 (f := .oex "BadOrder" ["part"]) rfl)
  exact err1 (N := ["self", "part"]) t ini ty F ⟨rfl, rfl, rfl, by decide +kernel, rfl, by decide +kernel, by decide +kernel⟩ rfl (no "part" (by decide)) (FunD.bindsN (ps := ["self", "part"]) F fun _ _ _ _ _ _ us hl => match us, hl with | [_, _], _ => rfl)
theorem er_Unlike (c : SaysX Hd.fa Hd.dx K) : ErrC P w K mg base (ga K "Unlike") ["part"] := by
  obtain ⟨fd, F⟩ := c.def_ 56 (d := Hd.d56) rfl
  obtain ⟨t, ini, ty, no⟩ := HX.oex_ok (c.fact 163 (f := .oex "Unlike" ["part"]) rfl)
  exact err1 (N := ["self", "part"]) t ini ty F ⟨rfl, rfl, rfl, by decide +kernel, rfl, by decide +kernel, by decide +kernel⟩ rfl (no "part" (by decide)) (FunD.bindsN (ps := ["self", "part"]) F fun _ _ _ _ _ _ us hl => match us, hl with | [_, _], _ => rfl)
theorem er_TooMany (c : SaysX Hd.fa Hd.dx K) : ErrC P w K mg base (ga K "TooMany") ["what", "most"] := by
  obtain ⟨fd, F⟩ := c.def_ 55 (d := Hd.d55) rfl
  obtain ⟨t, ini, ty, no⟩ := HX.oex_ok (c.fact 164 (f := .oex "TooMany" ["what", "most"]) rfl)
  exact err2 (N := ["self", "what", "most"]) t ini ty F ⟨rfl, rfl, rfl, by decide +kernel, rfl, by decide +kernel, by decide +kernel⟩ rfl (no "what" (by decide)) (no "most" (by decide)) (FunD.bindsN (ps := ["self", "what", "most"]) F fun _ _ _ _ _ _ us hl => match us, hl with | [_, _, _], _ => rfl)
theorem mkFc {h : Heap} (c : SaysX Hd.fa Hd.dx K) (X : K.In h) (G : h.Ns mainGlobals mg) : Fc P w K mg base where
  f_list := He.free_ok X G (c.fact 0 (f := .fa (.free "list")) rfl)
  f_int := He.free_ok X G (c.fact 1 (f := .fa (.free "int")) rfl)
  f_len := He.free_ok X G (c.fact 2 (f := .fa (.free "len")) rfl)
  f_abs := He.free_ok X G (c.fact 3 (f := .fa (.free "abs")) rfl)
  k__law_draw := He.keep_ok (c.fact 4 (f := .fa (.keep "_law_draw")) rfl)
  g__law_draw := He.glo_ok X G (c.fact 5 (f := .fa (.glo "_law_draw")) rfl)
  k__law_pick := He.keep_ok (c.fact 6 (f := .fa (.keep "_law_pick")) rfl)
  g__law_pick := He.glo_ok X G (c.fact 7 (f := .fa (.glo "_law_pick")) rfl)
  f_str := He.free_ok X G (c.fact 8 (f := .fa (.free "str")) rfl)
  f_sorted := He.free_ok X G (c.fact 9 (f := .fa (.free "sorted")) rfl)
  f_set := He.free_ok X G (c.fact 10 (f := .fa (.free "set")) rfl)
  k__law_is_name := He.keep_ok (c.fact 11 (f := .fa (.keep "_law_is_name")) rfl)
  g__law_is_name := He.glo_ok X G (c.fact 12 (f := .fa (.glo "_law_is_name")) rfl)
  k__law_is_number := He.keep_ok (c.fact 13 (f := .fa (.keep "_law_is_number")) rfl)
  g__law_is_number := He.glo_ok X G (c.fact 14 (f := .fa (.glo "_law_is_number")) rfl)
  k__law_are_locks := He.keep_ok (c.fact 15 (f := .fa (.keep "_law_are_locks")) rfl)
  g__law_are_locks := He.glo_ok X G (c.fact 16 (f := .fa (.glo "_law_are_locks")) rfl)
  k__law_is_order := He.keep_ok (c.fact 17 (f := .fa (.keep "_law_is_order")) rfl)
  g__law_is_order := He.glo_ok X G (c.fact 18 (f := .fa (.glo "_law_is_order")) rfl)
  f_range := He.free_ok X G (c.fact 19 (f := .fa (.free "range")) rfl)
  f_tuple := He.free_ok X G (c.fact 20 (f := .fa (.free "tuple")) rfl)
  k__law_is_row := He.keep_ok (c.fact 21 (f := .fa (.keep "_law_is_row")) rfl)
  g__law_is_row := He.glo_ok X G (c.fact 22 (f := .fa (.glo "_law_is_row")) rfl)
  b_bool := HX.isb_ok (c.fact 23 (f := .isb "bool" [] []) rfl)
  f_isinstance := He.free_ok X G (c.fact 24 (f := .fa (.free "isinstance")) rfl)
  f_bool := He.free_ok X G (c.fact 25 (f := .fa (.free "bool")) rfl)
  b_int := HX.isb_ok (c.fact 26 (f := .isb "int" [] []) rfl)
  i_MOST_NUMBER := He.int_ok X G (c.fact 27 (f := .fa (.int "MOST_NUMBER" (999999999999))) rfl)
  k_is_int := He.keep_ok (c.fact 28 (f := .fa (.keep "is_int")) rfl)
  g_is_int := He.glo_ok X G (c.fact 29 (f := .fa (.glo "is_int")) rfl)
  f_iter := He.free_ok X G (c.fact 30 (f := .fa (.free "iter")) rfl)
  c_Rounds := He.cls_ok (c.fact 31 (f := .fa (.cls "Rounds")) rfl)
  n_Rounds_own_rows := He.noat_ok (c.fact 32 (f := .fa (.noat "Rounds" "own_rows")) rfl)
  b_str := HX.isb_ok (c.fact 33 (f := .isb "str" [("Locks", false), ("Order", false)] []) rfl)
  i_MOST_LETTERS := He.int_ok X G (c.fact 34 (f := .fa (.int "MOST_LETTERS" (8))) rfl)
  f_all := He.free_ok X G (c.fact 35 (f := .fa (.free "all")) rfl)
  s_LETTERS := He.str_ok X G (c.fact 36 (f := .fa (.str "LETTERS" "abcdefghijklmnopqrstuvwxyz")) rfl)
  b_tuple := HX.isb_ok (c.fact 37 (f := .isb "tuple" [] []) rfl)
  i_FEWEST := He.int_ok X G (c.fact 38 (f := .fa (.int "FEWEST" (2))) rfl)
  k_is_name := He.keep_ok (c.fact 39 (f := .fa (.keep "is_name")) rfl)
  g_is_name := He.glo_ok X G (c.fact 40 (f := .fa (.glo "is_name")) rfl)
  f_any := He.free_ok X G (c.fact 41 (f := .fa (.free "any")) rfl)
  f_enumerate := He.free_ok X G (c.fact 42 (f := .fa (.free "enumerate")) rfl)
  k_is_row := He.keep_ok (c.fact 43 (f := .fa (.keep "is_row")) rfl)
  g_is_row := He.glo_ok X G (c.fact 44 (f := .fa (.glo "is_row")) rfl)
  x_BadRounds := er_BadRounds c
  g_BadRounds := He.glo_ok X G (c.fact 45 (f := .fa (.glo "BadRounds")) rfl)
  n_Rounds_own_parts := He.noat_ok (c.fact 46 (f := .fa (.noat "Rounds" "own_parts")) rfl)
  a_Least := HX.isa_ok (c.fact 47 (f := .isa "Least" [("Least", true)] []) rfl)
  g_Least := He.glo_ok X G (c.fact 48 (f := .fa (.glo "Least")) rfl)
  k_is_short := He.keep_ok (c.fact 49 (f := .fa (.keep "is_short")) rfl)
  g_is_short := He.glo_ok X G (c.fact 50 (f := .fa (.glo "is_short")) rfl)
  c_Least := He.cls_ok (c.fact 51 (f := .fa (.cls "Least")) rfl)
  n_Least_cost := He.noat_ok (c.fact 52 (f := .fa (.noat "Least" "cost")) rfl)
  a_Locks := HX.isa_ok (c.fact 53 (f := .isa "Locks" [("Locks", true), ("Order", false)] []) rfl)
  g_Locks := He.glo_ok X G (c.fact 54 (f := .fa (.glo "Locks")) rfl)
  n_Least_locks := He.noat_ok (c.fact 55 (f := .fa (.noat "Least" "locks")) rfl)
  a_Order := HX.isa_ok (c.fact 56 (f := .isa "Order" [("Order", true)] []) rfl)
  g_Order := He.glo_ok X G (c.fact 57 (f := .fa (.glo "Order")) rfl)
  n_Least_order := He.noat_ok (c.fact 58 (f := .fa (.noat "Least" "order")) rfl)
  a_Rounds := HX.isa_ok (c.fact 59 (f := .isa "Rounds" [("Rounds", true)] []) rfl)
  g_Rounds := He.glo_ok X G (c.fact 60 (f := .fa (.glo "Rounds")) rfl)
  n_Least_rounds := He.noat_ok (c.fact 61 (f := .fa (.noat "Least" "rounds")) rfl)
  d_Rounds___iter__ := HX.dun_ok (c.fact 62 (f := .dun "Rounds" "__iter__") rfl)
  d_Rounds___getitem__ := HX.dun_ok (c.fact 63 (f := .dun "Rounds" "__getitem__") rfl)
  c_Order := He.cls_ok (c.fact 64 (f := .fa (.cls "Order")) rfl)
  n_Order_own_moments := He.noat_ok (c.fact 65 (f := .fa (.noat "Order" "own_moments")) rfl)
  c_Locks := He.cls_ok (c.fact 66 (f := .fa (.cls "Locks")) rfl)
  n_Locks_own_names := He.noat_ok (c.fact 67 (f := .fa (.noat "Locks" "own_names")) rfl)
  k_is_plain := He.keep_ok (c.fact 68 (f := .fa (.keep "is_plain")) rfl)
  g_is_plain := He.glo_ok X G (c.fact 69 (f := .fa (.glo "is_plain")) rfl)
  x_BadHouse := er_BadHouse c
  g_BadHouse := He.glo_ok X G (c.fact 70 (f := .fa (.glo "BadHouse")) rfl)
  d_Order___str__ := HX.dun_ok (c.fact 71 (f := .dun "Order" "__str__") rfl)
  d_Locks___str__ := HX.dun_ok (c.fact 72 (f := .dun "Locks" "__str__") rfl)
  x_BadText := er_BadText c
  g_BadText := He.glo_ok X G (c.fact 73 (f := .fa (.glo "BadText")) rfl)
  c_Page := He.cls_ok (c.fact 74 (f := .fa (.cls "Page")) rfl)
  n_Page_rows := He.noat_ok (c.fact 75 (f := .fa (.noat "Page" "rows")) rfl)
  n_Page_at := He.noat_ok (c.fact 76 (f := .fa (.noat "Page" "at")) rfl)
  n_Page_spot := He.noat_ok (c.fact 77 (f := .fa (.noat "Page" "spot")) rfl)
  e_Page_is_over := He.meth_ok (c.fact 78 (f := .fa (.meth "Page" "is_over")) rfl)
  e_Page_upcoming := He.meth_ok (c.fact 79 (f := .fa (.meth "Page" "upcoming")) rfl)
  e_Page_refuse := He.meth_ok (c.fact 80 (f := .fa (.meth "Page" "refuse")) rfl)
  e_Page_skip := He.meth_ok (c.fact 81 (f := .fa (.meth "Page" "skip")) rfl)
  e_Page_take := He.meth_ok (c.fact 82 (f := .fa (.meth "Page" "take")) rfl)
  i_MOST_FIGURES := He.int_ok X G (c.fact 83 (f := .fa (.int "MOST_FIGURES" (12))) rfl)
  s_FIGURES := He.str_ok X G (c.fact 84 (f := .fa (.str "FIGURES" "0123456789")) rfl)
  k_number_in := He.keep_ok (c.fact 85 (f := .fa (.keep "number_in")) rfl)
  g_number_in := He.glo_ok X G (c.fact 86 (f := .fa (.glo "number_in")) rfl)
  s_NONE_locks := He.str_ok X G (c.fact 87 (f := .fa (.str "NONE_locks" "-")) rfl)
  s_COMMA := He.str_ok X G (c.fact 88 (f := .fa (.str "COMMA" ",")) rfl)
  x_BadLocks := er_BadLocks c
  g_BadLocks := He.glo_ok X G (c.fact 89 (f := .fa (.glo "BadLocks")) rfl)
  k_names_in := He.keep_ok (c.fact 90 (f := .fa (.keep "names_in")) rfl)
  g_names_in := He.glo_ok X G (c.fact 91 (f := .fa (.glo "names_in")) rfl)
  m_Locks := He.mkr_ok (c.fact 92 (f := .fa (.mkr "Locks")) rfl)
  k_Locks := He.keep_ok (c.fact 93 (f := .fa (.keep "Locks")) rfl)
  e_Page_rest := He.meth_ok (c.fact 94 (f := .fa (.meth "Page" "rest")) rfl)
  an_BadText := HX.ans_ok (c.fact 95 (f := .ans "BadText" [("BadText", true), ("BadHouse", false)]) rfl)
  r_Locks := HX.cread_ok (c.fact 96 (f := .cread "Locks") rfl)
  cm_Locks_read := HX.cmet_ok (c.fact 97 (f := .cmet "Locks" "read") rfl)
  e_Page_go_on := He.meth_ok (c.fact 98 (f := .fa (.meth "Page" "go_on")) rfl)
  s_NONE_orders := He.str_ok X G (c.fact 99 (f := .fa (.str "NONE_orders" "-")) rfl)
  i_MOST_ROOMS := He.int_ok X G (c.fact 100 (f := .fa (.int "MOST_ROOMS" (8))) rfl)
  x_BadOrder := er_BadOrder c
  g_BadOrder := He.glo_ok X G (c.fact 101 (f := .fa (.glo "BadOrder")) rfl)
  k_rooms_of_part := He.keep_ok (c.fact 102 (f := .fa (.keep "rooms_of_part")) rfl)
  g_rooms_of_part := He.glo_ok X G (c.fact 103 (f := .fa (.glo "rooms_of_part")) rfl)
  x_Unlike := er_Unlike c
  g_Unlike := He.glo_ok X G (c.fact 104 (f := .fa (.glo "Unlike")) rfl)
  x_TooMany := er_TooMany c
  g_TooMany := He.glo_ok X G (c.fact 105 (f := .fa (.glo "TooMany")) rfl)
  n_Order_own_places := He.noat_ok (c.fact 106 (f := .fa (.noat "Order" "own_places")) rfl)
  k_moments_in := He.keep_ok (c.fact 107 (f := .fa (.keep "moments_in")) rfl)
  g_moments_in := He.glo_ok X G (c.fact 108 (f := .fa (.glo "moments_in")) rfl)
  m_Order := He.mkr_ok (c.fact 109 (f := .fa (.mkr "Order")) rfl)
  k_Order := He.keep_ok (c.fact 110 (f := .fa (.keep "Order")) rfl)
  r_Order := HX.cread_ok (c.fact 111 (f := .cread "Order") rfl)
  cm_Order_read := HX.cmet_ok (c.fact 112 (f := .cmet "Order" "read") rfl)
  e_Page_take_number := He.meth_ok (c.fact 113 (f := .fa (.meth "Page" "take_number")) rfl)
  k_in_order := He.keep_ok (c.fact 114 (f := .fa (.keep "in_order")) rfl)
  g_in_order := He.glo_ok X G (c.fact 115 (f := .fa (.glo "in_order")) rfl)
  b_dict := HX.isb_ok (c.fact 116 (f := .isb "dict" [] []) rfl)
  f_dict := He.free_ok X G (c.fact 117 (f := .fa (.free "dict")) rfl)
  m_Page := He.mkr_ok (c.fact 118 (f := .fa (.mkr "Page")) rfl)
  k_Page := He.keep_ok (c.fact 119 (f := .fa (.keep "Page")) rfl)
  g_Page := He.glo_ok X G (c.fact 120 (f := .fa (.glo "Page")) rfl)
  e_Page_take_of := He.meth_ok (c.fact 121 (f := .fa (.meth "Page" "take_of")) rfl)
  k_locks_in := He.keep_ok (c.fact 122 (f := .fa (.keep "locks_in")) rfl)
  g_locks_in := He.glo_ok X G (c.fact 123 (f := .fa (.glo "locks_in")) rfl)
  k_order_in := He.keep_ok (c.fact 124 (f := .fa (.keep "order_in")) rfl)
  g_order_in := He.glo_ok X G (c.fact 125 (f := .fa (.glo "order_in")) rfl)
  k_row_in := He.keep_ok (c.fact 126 (f := .fa (.keep "row_in")) rfl)
  g_row_in := He.glo_ok X G (c.fact 127 (f := .fa (.glo "row_in")) rfl)
  m_Least := He.mkr_ok (c.fact 128 (f := .fa (.mkr "Least")) rfl)
  q_Least___init__ := HX.same_ok (c.fact 129 (f := .same "Least" "Priced" "__init__") rfl)
  k_Least := He.keep_ok (c.fact 130 (f := .fa (.keep "Least")) rfl)
  m_Rounds := He.mkr_ok (c.fact 131 (f := .fa (.mkr "Rounds")) rfl)
  k_Rounds := He.keep_ok (c.fact 132 (f := .fa (.keep "Rounds")) rfl)
  an_HouseError := HX.ans_ok (c.fact 133 (f := .ans "HouseError" [("BadText", true), ("BadHouse", true)]) rfl)
  g_HouseError := He.glo_ok X G (c.fact 134 (f := .fa (.glo "HouseError")) rfl)
  k_least_text := He.keep_ok (c.fact 135 (f := .fa (.keep "least_text")) rfl)
  g_least_text := He.glo_ok X G (c.fact 136 (f := .fa (.glo "least_text")) rfl)
  k_read_least := He.keep_ok (c.fact 137 (f := .fa (.keep "read_least")) rfl)
  g_read_least := He.glo_ok X G (c.fact 138 (f := .fa (.glo "read_least")) rfl)
  a_BadText := HX.isa_ok (c.fact 139 (f := .isa "BadText" [] [("BadText", true), ("BadHouse", false)]) rfl)
  a_BadInput := HX.isa_ok (c.fact 140 (f := .isa "BadInput" [] [("BadText", true), ("BadHouse", true)]) rfl)
  g_BadInput := He.glo_ok X G (c.fact 141 (f := .fa (.glo "BadInput")) rfl)
  x_word := HX.xf_ok (c.fact 142 (f := .xf "word" ["BadText"]) rfl)
  x_line := HX.xf_ok (c.fact 143 (f := .xf "line" ["BadText"]) rfl)
  k__law_due := He.keep_ok (c.fact 144 (f := .fa (.keep "_law_due")) rfl)
  g__law_due := He.glo_ok X G (c.fact 145 (f := .fa (.glo "_law_due")) rfl)
  f_repr := He.free_ok X G (c.fact 146 (f := .fa (.free "repr")) rfl)
  k__law_heard := He.keep_ok (c.fact 147 (f := .fa (.keep "_law_heard")) rfl)
  g__law_heard := He.glo_ok X G (c.fact 148 (f := .fa (.glo "_law_heard")) rfl)
  k__law_pen := He.keep_ok (c.fact 149 (f := .fa (.keep "_law_pen")) rfl)
  g__law_pen := He.glo_ok X G (c.fact 150 (f := .fa (.glo "_law_pen")) rfl)
  k__law_text := He.keep_ok (c.fact 151 (f := .fa (.keep "_law_text")) rfl)
  g__law_text := He.glo_ok X G (c.fact 152 (f := .fa (.glo "_law_text")) rfl)
  k__law_right := He.keep_ok (c.fact 153 (f := .fa (.keep "_law_right")) rfl)
  g__law_right := He.glo_ok X G (c.fact 154 (f := .fa (.glo "_law_right")) rfl)
  k__law_bent := He.keep_ok (c.fact 155 (f := .fa (.keep "_law_bent")) rfl)
  g__law_bent := He.glo_ok X G (c.fact 156 (f := .fa (.glo "_law_bent")) rfl)
  sm_Locks_none := HX.smet_ok (c.fact 157 (f := .smet "Locks" "none") rfl)
theorem law_ok {h : Heap} (c : SaysX Hd.fa Hd.dx K) (X : K.In h) (G : h.Ns mainGlobals mg) : ∃ fd : FuncData, (∀ (s : Shared) (v : Value), BindsTo s fd ⟨[v], []⟩ [("_law_script", v)]) ∧ ∀ base : Heap, K.In base → base.Ns mainGlobals mg → FnPG false P w K mg base 12 (ga K "law") fd ["_law_script"] (sp_law K) := by
  obtain ⟨fd0, D0⟩ := c.def_ 0 (d := Hd.d0) rfl
  obtain ⟨fd1, D1⟩ := c.def_ 1 (d := Hd.d1) rfl
  obtain ⟨fd2, D2⟩ := c.def_ 2 (d := Hd.d2) rfl
  obtain ⟨fd3, D3⟩ := c.def_ 3 (d := Hd.d3) rfl
  obtain ⟨fd4, D4⟩ := c.def_ 4 (d := Hd.d4) rfl
  obtain ⟨fd5, D5⟩ := c.def_ 5 (d := Hd.d5) rfl
  obtain ⟨fd6, D6⟩ := c.def_ 6 (d := Hd.d6) rfl
  obtain ⟨fd7, D7⟩ := c.def_ 7 (d := Hd.d7) rfl
  obtain ⟨fd8, D8⟩ := c.def_ 8 (d := Hd.d8) rfl
  obtain ⟨fd9, D9⟩ := c.def_ 9 (d := Hd.d9) rfl
  obtain ⟨fd10, D10⟩ := c.def_ 10 (d := Hd.d10) rfl
  obtain ⟨fd11, D11⟩ := c.def_ 11 (d := Hd.d11) rfl
  obtain ⟨fd12, D12⟩ := c.def_ 12 (d := Hd.d12) rfl
  obtain ⟨fd13, D13⟩ := c.def_ 13 (d := Hd.d13) rfl
  obtain ⟨fd14, D14⟩ := c.def_ 14 (d := Hd.d14) rfl
  obtain ⟨fd15, D15⟩ := c.def_ 15 (d := Hd.d15) rfl
  obtain ⟨fd16, D16⟩ := c.def_ 16 (d := Hd.d16) rfl
  obtain ⟨fd17, D17⟩ := c.def_ 17 (d := Hd.d17) rfl
  obtain ⟨fd18, D18⟩ := c.def_ 18 (d := Hd.d18) rfl
  obtain ⟨fd19, D19⟩ := c.def_ 19 (d := Hd.d19) rfl
  obtain ⟨fd20, D20⟩ := c.def_ 20 (d := Hd.d20) rfl
  obtain ⟨fd21, D21⟩ := c.def_ 21 (d := Hd.d21) rfl
  obtain ⟨fd22, D22⟩ := c.def_ 22 (d := Hd.d22) rfl
  obtain ⟨fd23, D23⟩ := c.def_ 23 (d := Hd.d23) rfl
  obtain ⟨fd24, D24⟩ := c.def_ 24 (d := Hd.d24) rfl
  obtain ⟨fd25, D25⟩ := c.def_ 25 (d := Hd.d25) rfl
  obtain ⟨fd26, D26⟩ := c.def_ 26 (d := Hd.d26) rfl
  obtain ⟨fd27, D27⟩ := c.def_ 27 (d := Hd.d27) rfl
  obtain ⟨fd28, D28⟩ := c.def_ 28 (d := Hd.d28) rfl
  obtain ⟨fd29, D29⟩ := c.def_ 29 (d := Hd.d29) rfl
  obtain ⟨fd30, D30⟩ := c.def_ 30 (d := Hd.d30) rfl
  obtain ⟨fd31, D31⟩ := c.def_ 31 (d := Hd.d31) rfl
  obtain ⟨fd32, D32⟩ := c.def_ 32 (d := Hd.d32) rfl
  obtain ⟨fd33, D33⟩ := c.def_ 33 (d := Hd.d33) rfl
  obtain ⟨fd34, D34⟩ := c.def_ 34 (d := Hd.d34) rfl
  obtain ⟨fd35, D35⟩ := c.def_ 35 (d := Hd.d35) rfl
  obtain ⟨fd36, D36⟩ := c.def_ 36 (d := Hd.d36) rfl
  obtain ⟨fd37, D37⟩ := c.def_ 37 (d := Hd.d37) rfl
  obtain ⟨fd38, D38⟩ := c.def_ 38 (d := Hd.d38) rfl
  obtain ⟨fd39, D39⟩ := c.def_ 39 (d := Hd.d39) rfl
  obtain ⟨fd40, D40⟩ := c.def_ 40 (d := Hd.d40) rfl
  obtain ⟨fd41, D41⟩ := c.def_ 41 (d := Hd.d41) rfl
  obtain ⟨fd42, D42⟩ := c.def_ 42 (d := Hd.d42) rfl
  obtain ⟨fd43, D43⟩ := c.def_ 43 (d := Hd.d43) rfl
  obtain ⟨fd44, D44⟩ := c.def_ 44 (d := Hd.d44) rfl
  obtain ⟨fd45, D45⟩ := c.def_ 45 (d := Hd.d45) rfl
  obtain ⟨fd46, D46⟩ := c.def_ 46 (d := Hd.d46) rfl
  obtain ⟨fd47, D47⟩ := c.def_ 47 (d := Hd.d47) rfl
  obtain ⟨fd48, D48⟩ := c.def_ 48 (d := Hd.d48) rfl
  obtain ⟨fd49, D49⟩ := c.def_ 49 (d := Hd.d49) rfl
  refine ⟨fd49, fun s v => (FunD.bindsA (ps := ["_law_script"]) D49 fun _ _ _ _ _ _ us hl => match us, hl with | [_], _ => rfl) s [v] rfl, fun base _ _ => ?_⟩
  have fc : Fc P w K mg base := mkFc c X G
  have F__law_pen := fun n => ok__law_pen (n := n) (P := P) (w := w) (mg := mg) (base := base) fc  D0
  have F__law_draw := fun n => ok__law_draw (n := n) (P := P) (w := w) (mg := mg) (base := base) fc  D1
  have F__law_pick := fun n => ok__law_pick (n := n) (P := P) (w := w) (mg := mg) (base := base) fc F__law_draw D2
  have F__law_text := fun n => ok__law_text (n := n) (P := P) (w := w) (mg := mg) (base := base) fc F__law_draw F__law_pick D3
  have F__law_is_number := fun n => ok__law_is_number (n := n) (P := P) (w := w) (mg := mg) (base := base) fc  D4
  have F__law_is_name := fun n => ok__law_is_name (n := n) (P := P) (w := w) (mg := mg) (base := base) fc  D5
  have F__law_are_locks := fun n => ok__law_are_locks (n := n) (P := P) (w := w) (mg := mg) (base := base) fc F__law_is_name D6
  have F__law_is_order := fun n => ok__law_is_order (n := n) (P := P) (w := w) (mg := mg) (base := base) fc F__law_is_name D7
  have F__law_is_row := fun n => ok__law_is_row (n := n) (P := P) (w := w) (mg := mg) (base := base) fc F__law_is_name D8
  have F__law_due := fun n => ok__law_due (n := n) (P := P) (w := w) (mg := mg) (base := base) fc F__law_is_number F__law_are_locks F__law_is_order F__law_is_row D9
  have F_is_int := fun n => ok_is_int (n := n) (P := P) (w := w) (mg := mg) (base := base) fc  D10
  have F_is_short := fun n => ok_is_short (n := n) (P := P) (w := w) (mg := mg) (base := base) fc F_is_int D11
  have F_Rounds___iter__ := fun n => ok_Rounds___iter__ (n := n) (P := P) (w := w) (mg := mg) (base := base) fc  D12
  have F_is_name := fun n => ok_is_name (n := n) (P := P) (w := w) (mg := mg) (base := base) fc  D13
  have F_is_row := fun n => ok_is_row (n := n) (P := P) (w := w) (mg := mg) (base := base) fc F_is_name D14
  have F_Rounds___getitem__ := fun n => ok_Rounds___getitem__ (n := n) (P := P) (w := w) (mg := mg) (base := base) fc F_is_row D15
  have F_is_plain := fun n => ok_is_plain (n := n) (P := P) (w := w) (mg := mg) (base := base) fc F_is_short F_Rounds___iter__ F_Rounds___getitem__ D16
  have F_Order___str__ := fun n => ok_Order___str__ (n := n) (P := P) (w := w) (mg := mg) (base := base) fc  D17
  have F_Locks___str__ := fun n => ok_Locks___str__ (n := n) (P := P) (w := w) (mg := mg) (base := base) fc  D18
  have F_least_text := fun n => ok_least_text (n := n) (P := P) (w := w) (mg := mg) (base := base) fc F_is_plain F_Rounds___iter__ F_Rounds___getitem__ F_Order___str__ F_Locks___str__ D19
  have F_Page___init__ := fun n => ok_Page___init__ (n := n) (P := P) (w := w) (mg := mg) (base := base) fc  D20
  have F_Page_is_over := fun n => ok_Page_is_over (n := n) (P := P) (w := w) (mg := mg) (base := base) fc  D21
  have F_Page_upcoming := fun n => ok_Page_upcoming (n := n) (P := P) (w := w) (mg := mg) (base := base) fc F_Page_is_over D22
  have F_Page_refuse := fun n => ok_Page_refuse (n := n) (P := P) (w := w) (mg := mg) (base := base) fc  D23
  have F_Page_skip := fun n => ok_Page_skip (n := n) (P := P) (w := w) (mg := mg) (base := base) fc F_Page_upcoming D24
  have F_Page_take := fun n => ok_Page_take (n := n) (P := P) (w := w) (mg := mg) (base := base) fc F_Page_upcoming F_Page_refuse F_Page_skip D25
  have F_Page_take_of := fun n => ok_Page_take_of (n := n) (P := P) (w := w) (mg := mg) (base := base) fc F_Page_take F_Page_upcoming D26
  have F_number_in := fun n => ok_number_in (n := n) (P := P) (w := w) (mg := mg) (base := base) fc  D27
  have F_Page_take_number := fun n => ok_Page_take_number (n := n) (P := P) (w := w) (mg := mg) (base := base) fc F_number_in F_Page_upcoming F_Page_take D28
  have F_Page_go_on := fun n => ok_Page_go_on (n := n) (P := P) (w := w) (mg := mg) (base := base) fc F_Page_upcoming F_Page_refuse D29
  have F_Page_rest := fun n => ok_Page_rest (n := n) (P := P) (w := w) (mg := mg) (base := base) fc F_Page_is_over D30
  have F_names_in := fun n => ok_names_in (n := n) (P := P) (w := w) (mg := mg) (base := base) fc F_is_name D31
  have F_Locks___init__ := fun n => ok_Locks___init__ (n := n) (P := P) (w := w) (mg := mg) (base := base) fc F_is_name D32
  have F_Locks_read := fun n => ok_Locks_read (n := n) (P := P) (w := w) (mg := mg) (base := base) fc F_names_in F_Locks___init__ D33
  have F_locks_in := ok_locks_in (P := P) (w := w) (mg := mg) (base := base) fc F_Page_rest F_Locks_read F_Page_go_on D34
  have F_moments_in := fun n => ok_moments_in (n := n) (P := P) (w := w) (mg := mg) (base := base) fc F_is_name D35
  have F_rooms_of_part := fun n => ok_rooms_of_part (n := n) (P := P) (w := w) (mg := mg) (base := base) fc F_is_name D36
  have F_Order___init__ := fun n => ok_Order___init__ (n := n) (P := P) (w := w) (mg := mg) (base := base) fc F_rooms_of_part D37
  have F_Order_read := fun n => ok_Order_read (n := n) (P := P) (w := w) (mg := mg) (base := base) fc F_moments_in F_Order___init__ D38
  have F_order_in := ok_order_in (P := P) (w := w) (mg := mg) (base := base) fc F_Page_rest F_Order_read F_Page_go_on D39
  have F_in_order := fun n => ok_in_order (n := n) (P := P) (w := w) (mg := mg) (base := base) fc  D40
  have F_row_in := fun n => ok_row_in (n := n) (P := P) (w := w) (mg := mg) (base := base) fc F_Page_take_number F_Page_rest F_is_row F_in_order F_Page_go_on D41
  have F_Priced___init__ := fun n => ok_Priced___init__ (n := n) (P := P) (w := w) (mg := mg) (base := base) fc  D42
  have F_Rounds___init__ := fun n => ok_Rounds___init__ (n := n) (P := P) (w := w) (mg := mg) (base := base) fc F_is_row F_is_int F_in_order D43
  have F_read_least := ok_read_least (P := P) (w := w) (mg := mg) (base := base) fc F_Page___init__ F_Page_take_of F_Page_take_number F_Page_go_on F_locks_in F_order_in F_Page_is_over F_row_in F_Priced___init__ F_Rounds___init__ D44
  have F__law_heard := ok__law_heard (P := P) (w := w) (mg := mg) (base := base) fc F_least_text F_read_least D45
  have F__law_right := ok__law_right (P := P) (w := w) (mg := mg) (base := base) fc F__law_due F__law_heard D46
  have F__law_bent := fun n => ok__law_bent (n := n) (P := P) (w := w) (mg := mg) (base := base) fc F__law_draw F__law_pick D47
  have F_Locks_none := fun n => ok_Locks_none (n := n) (P := P) (w := w) (mg := mg) (base := base) fc F_Locks___init__ D48
  exact ok_law fc F__law_pen F__law_text F__law_right F__law_bent F__law_pick F_Order___init__ F_Locks_none F__law_heard D49
theorem law_lift {H : Hp} {a : Addr} {ns : List Int} (hS : SqL K H a (ns.map V.int)) : lift K (sp_law K) [.ref a] H (fun v _ => v = .bl true) (fun _ _ _ => False) := by
  refine ⟨[.scr ns], H, fun _ => none, fun d _ => d = .bl true, fun _ _ => False, ⟨fun _ _ h => h, fun _ _ h => nomatch h⟩, rps_mk (by unfold Rp; exact ⟨a, rfl, hS⟩) rps_mk_nil, fun S' => rfl, fun d S' v F' H' q _ _ r => ?_, fun _ _ _ _ _ _ q => q.elim⟩
  subst q
  exact rp_bl r
end
end Fi
open PySem PySem.W PySem.Calls PyProof.Rows
set_option maxRecDepth 100000 in
set_option maxHeartbeats 0 in
theorem PySem.Challenge.cw_closinground_k89_texts_of_papers_refused_holds : PySem.Challenge.rw_closinground_k89_texts_of_papers_refused.Holds := by
  w_on; o_law
  refine HandSHeadRun.head_any (r := OpenLaw.row PySem.Challenge.rw_closinground_k89_texts_of_papers_refused) (q := view (OpenLaw.row PySem.Challenge.rw_closinground_k89_texts_of_papers_refused).prog [69]) (H := Hd.hk) (ob := Hd.ob) (M := 8500) (loose := Hd.names) (d := HandSHeadRun.topDef (OpenLaw.row PySem.Challenge.rw_closinground_k89_texts_of_papers_refused).prog 69) (kwd := []) Hd.ob_eq
    (by kernel_rfl) (fun s => by kernel_rfl) Hd.run (by kernel_rfl) (by kernel_rfl) (by kernel_rfl) (by rfl) (by first | assumption | decide +kernel) (by decide +kernel) ⟨rfl, rfl, rfl, rfl, rfl, by decide +kernel⟩ ?hw ?hc
  case hw => w_witness2
  case hc =>
    refine DLK.walk_ofG (l := PySem.Challenge.rw_closinground_k89_texts_of_papers_refused) (n := 63) (k := 12) (x := "_law_script") (CX := fun w => L2.CX (PySem.Challenge.rw_closinground_k89_texts_of_papers_refused).prog w) rfl (by decide) (by kernel_rfl) ⟨rfl, by decide, by decide⟩ ?F ?X
    case X =>
      intro w H s e s' z
      obtain ⟨_, _, _, _, _, _, _, _, _, _, _, _, z⟩ := z
      exact z
    case F =>
      intro w mg fa h Y GN hmg0
      obtain ⟨K, KX, c⟩ := Y
      have hmg : mg ("law" : PySem.Str) = some (.ref fa) := by
        have e : (HandSHeadRun.topDef (OpenLaw.row PySem.Challenge.rw_closinground_k89_texts_of_papers_refused).prog 69).name = ("law" : PySem.Str) := by kernel_rfl
        rw [← e]
        exact hmg0
      obtain ⟨fd, hb, hF⟩ := Fi.law_ok (P := (PySem.Challenge.rw_closinground_k89_texts_of_papers_refused).prog) (w := w) (mg := mg) c KX GN
      have e := hmg.symm.trans (He.glo_ok KX GN (c.fact 165 (f := .fa (.glo "law")) rfl))
      cases e
      exact ⟨K, fd, DL.lift K (G.sp_law K), KX, hb, fun H a ns hl hO hS => Fi.law_lift hS, hF⟩
