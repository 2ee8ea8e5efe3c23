import PyProof.Rows.All
import PyProof.Raises
import PyProof.AttrMissHeap
import PyProof.Rules3
import PyProof.CompMap
import PyProof.CompUse
import PyProof.CompFree
import PyProof.DictDisplay
import PyProof.DictRoadsH
import PyProof.DictValues
import PyProof.DictWalks
import PyProof.IsRules
import PyProof.ExcBaseAll.Exception
import PyProof.ExcAttrAll.Exception
import PyProof.WalksMore
import PyProof.InstStoreFacts
import PyProof.LetGo
import PyProof.RulesAs
import PyProof.Rows.TupAssign
import PyProof.RulesDel
import PyProof.Rows.Chain
import PyProof.Rows.Nodes
import PyProof.Rows.ListMul
import PyProof.SliceMore
import PyProof.Rows.Range3
import PyProof.Rows.SortShellK
import PyProof.Rows.SetFrom
import Wide.BytesRules
import Wide.WTab
import OpenK.KDescr
import OpenK.KLine
import KE.BytesMake
import KE.KLam
import KE.KDictSum
import KE.KDictOf
import KE.KTryMore
import Wide.FinOn
import OpenK.AllK
import Wide.All
import Lean
import PySem.Challenge.RW_nt0504_01
set_option maxRecDepth 100000
set_option linter.unusedVariables false
set_option Elab.async false
set_option tactic.hygienic false
namespace DK
open PySem
inductive AV where
  | none
  | bool (b : Bool)
  | int (i : Int)
  | str (s : Str)
  | byt (b : List UInt8)
  | top (v : Value)
  | ref (k : Nat)
  | tup (l : List AV)
  | lst (l : List AV)
  | ins (C : Nat) (fs : List (Str × AV))
  | met (f : Nat) (self : AV)
  | rng (a : Int) (n : Nat) (st : Int)
  | dvl (k : Nat)
  | iset (l : List Int)
  deriving Inhabited
inductive AO where
  | list (l : List AV)
  | dict (es : List (AV × AV))
  | inst (C : Nat) (fs : List (Str × AV))
  deriving Inhabited
noncomputable abbrev Hp := List AO
inductive Res where
  | ok (v : AV) (P : Hp)
  | exc (b : AV) (P : Hp)
  deriving Inhabited
noncomputable abbrev Out := Option Res
inductive LV where
  | av (v : AV)
  | clo (b : Expr) (sc : Scope)
  | clos (l : List (Expr × Scope))
  | keys (k : Nat)
  deriving Inhabited
noncomputable abbrev Loc := List (Str × LV)
noncomputable def slook {α : Type} (x : Str) : List (Str × α) -> Option α
  | [] => .none
  | (y, v) :: r => if x = y then some v else slook x r
noncomputable def sput {α : Type} (x : Str) (v : α) : List (Str × α) -> List (Str × α)
  | [] => [(x, v)]
  | (y, u) :: r => if x = y then (y, v) :: r else (y, u) :: sput x v r
noncomputable def keq : AV -> AV -> Option Bool
  | .str a, .str b => some (decide (a = b))
  | .int a, .int b => some (decide (a = b))
  | .byt a, .byt b => some (decide (a = b))
  | .none, .none => some true
  | .str _, .int _ => some false
  | .int _, .str _ => some false
  | .none, .str _ => some false
  | _, _ => .none
inductive K0 where
  | s (x : Str)
  | i (n : Int)
  | b (l : List UInt8)
  deriving DecidableEq
noncomputable def k0 : AV -> Option K0
  | .str x => some (.s x)
  | .int n => some (.i n)
  | .byt l => some (.b l)
  | _ => .none
noncomputable def k0s : List AV -> Option (List K0)
  | [] => some []
  | a :: r => (k0 a).bind fun k => (k0s r).map (k :: ·)
noncomputable def kkeq (a b : AV) : Option Bool := match a, b with
  | .tup x, .tup y => (k0s x).bind fun x => (k0s y).map fun y => decide (x = y)
  | a, b => (k0 a).bind fun x => (k0 b).map fun y => decide (x = y)
noncomputable def keyOk : AV -> Bool
  | .tup l => (k0s l).isSome
  | a => (k0 a).isSome
noncomputable def dget0 (k : AV) : List (AV × AV) -> Option (Option AV)
  | [] => some .none
  | (a, v) :: r => match kkeq a k with
    | some true => some (some v)
    | some false => dget0 k r
    | .none => .none
noncomputable def dput0 (k v : AV) : List (AV × AV) -> Option (List (AV × AV))
  | [] => some [(k, v)]
  | (a, u) :: r => match kkeq a k with
    | some true => some ((a, v) :: r)
    | some false => (dput0 k v r).map ((a, u) :: ·)
    | .none => .none
noncomputable def dget (k : AV) (es : List (AV × AV)) : Option (Option AV) := if keyOk k then dget0 k es else .none
noncomputable def dput (k v : AV) (es : List (AV × AV)) : Option (List (AV × AV)) := if keyOk k && decide (es.length < 100000) then dput0 k v es else .none
noncomputable def fall (f : AV -> AV -> Option Bool) : List AV -> List AV -> Option Bool
  | [], [] => some true
  | a :: x, b :: y => (f a b).bind fun t => (fall f x y).map (t && ·)
  | _, _ => .none
noncomputable def eqs : List AV -> List AV -> Option Bool := fall keq
noncomputable def eq2 (a b : AV) : Option Bool := match a, b with
  | .tup a, .tup b => eqs a b
  | a, b => keq a b
noncomputable def eqs2 : List AV -> List AV -> Option Bool := fall eq2
noncomputable def lstOf (P : Hp) : AV -> Option (List AV)
  | .lst l => some l
  | .ref k => match P[k]? with
    | some (.list l) => some l
    | _ => .none
  | _ => .none
noncomputable def aeq (P : Hp) (a b : AV) : Option Bool := match lstOf P a, lstOf P b with
  | some x, some y => if x.length = y.length then eqs2 x y else some false
  | .none, .none => eq2 a b
  | _, _ => .none
noncomputable def truth : AV -> Option Bool
  | .bool b => some b
  | .none => some false
  | .int i => some (decide (i ≠ 0))
  | _ => .none
noncomputable def items (P : Hp) : AV -> Option (List AV)
  | .tup l => some l
  | .lst l => some l
  | .rng a n st => some ((List.range n).map fun (i : Nat) => .int (a + (i : Int) * st))
  | .ref k => match P[k]? with
    | some (.list l) => some l
    | some (.dict es) => some (es.map (·.1))
    | _ => .none
  | .dvl k => match P[k]? with
    | some (.dict es) => some (es.map (·.2))
    | _ => .none
  | _ => .none
noncomputable def lenOf (P : Hp) (v : AV) : Option Nat := match v with
  | .tup l => some l.length
  | .lst l => some l.length
  | .rng _ n _ => some n
  | .ref k => match P[k]? with
    | some (.list l) => some l.length
    | some (.dict es) => some es.length
    | _ => .none
  | .dvl k => match P[k]? with
    | some (.dict es) => some es.length
    | _ => .none
  | _ => .none
noncomputable def startL (P : Hp) : LV -> Option (LV × Nat)
  | .av v => match v with
    | .ref k => match P[k]? with
      | some (.list l) => some (.av (.ref k), l.length)
      | some (.dict es) => some (.keys k, es.length)
      | _ => .none
    | .tup l => some (.av (.tup l), l.length)
    | .lst l => some (.av (.lst l), l.length)
    | .rng a n st => some (.av (.rng a n st), n)
    | .dvl k => match P[k]? with
      | some (.dict es) => some (.av (.dvl k), es.length)
      | _ => .none
    | _ => .none
  | .clos c => some (.clos c, c.length)
  | _ => .none
noncomputable def nth (P : Hp) (v : AV) (n i : Nat) : Option (Option AV) := match v with
  | .tup l => some l[i]?
  | .lst l => some l[i]?
  | .rng a _ st => some (if i < n then some (.int (a + (i : Int) * st)) else .none)
  | .ref k => match P[k]? with
    | some (.list l) => some l[i]?
    | _ => .none
  | .dvl k => match P[k]? with
    | some (.dict es) => if es.length = n then some (es[i]?.map (·.2)) else .none
    | _ => .none
  | _ => .none
noncomputable def nthL (P : Hp) (v : LV) (n i : Nat) : Option (Option LV) := match v with
  | .av v => (nth P v n i).map fun x => x.map .av
  | .keys k => match P[k]? with
    | some (.dict es) => if es.length = n then some (es[i]?.map fun p => .av p.1) else .none
    | _ => .none
  | .clos c => some (c[i]?.map fun p => .clo p.1 p.2)
  | .clo _ _ => .none
noncomputable def place (i : Int) (n : Nat) : Option Nat :=
  if -1000000 ≤ i ∧ i < 1000000 then (if 0 ≤ i then (if i < n then some i.toNat else .none) else (if 0 ≤ i + n then some (i + n).toNat else .none)) else .none
noncomputable def item (P : Hp) (o i : AV) : Option AV := match o, i with
  | .tup l, .int i => (place i l.length).bind fun j => l[j]?
  | .lst l, .int i => (place i l.length).bind fun j => l[j]?
  | .ref k, i => match P[k]? with
    | some (.list l) => match i with
      | .int i => (place i l.length).bind fun j => l[j]?
      | _ => .none
    | some (.dict es) => (dget i es).bind id
    | _ => .none
  | _, _ => .none
noncomputable def intsOf : List AV -> Option (List Int)
  | [] => some []
  | .int b :: r => (intsOf r).map (b :: ·)
  | _ => .none
noncomputable def pairsOf : List AV -> List (AV × AV) -> Option (List (AV × AV))
  | [], acc => some acc
  | .tup [.int k, v] :: r, acc => (dput (.int k) v acc).bind fun acc => pairsOf r acc
  | _, _ => .none
noncomputable def isNoneA : AV -> Option Bool
  | .none => some true
  | .top _ => .none
  | _ => some false
noncomputable def cmp1 (P : Hp) (op : CmpOp) (a b : AV) : Option Bool := match op with
  | .Eq => aeq P a b
  | .NotEq => (aeq P a b).map (!·)
  | .Lt => match a, b with | .int x, .int y => some (decide (x < y)) | _, _ => .none
  | .LtE => match a, b with | .int x, .int y => some (decide (x ≤ y)) | _, _ => .none
  | .Gt => match a, b with | .int x, .int y => some (decide (y < x)) | _, _ => .none
  | .GtE => match a, b with | .int x, .int y => some (decide (y ≤ x)) | _, _ => .none
  | .Is => match b with | .none => isNoneA a | _ => .none
  | .IsNot => match b with | .none => (isNoneA a).map (!·) | _ => .none
  | .In => match b with
    | .ref k => (match P[k]? with
      | some (.dict es) => (dget a es).map (·.isSome)
      | _ => .none)
    | .lst l => (match a, intsOf l with | .int i, some l => some (l.contains i) | _, _ => .none)
    | _ => .none
  | .NotIn => match b with
    | .ref k => (match P[k]? with
      | some (.dict es) => (dget a es).map fun x => !x.isSome
      | _ => .none)
    | _ => .none
noncomputable def bin1 (op : Operator) (a b : AV) : Option AV := match op, a, b with
  | .Add, .int x, .int y => some (.int (x + y))
  | .Sub, .int x, .int y => some (.int (x - y))
  | .Mult, .int x, .int y => if y.natAbs < 1000000000 then some (.int (x * y)) else .none
  | .FloorDiv, .int x, .int y => if 0 < y ∧ y < 1000000000 then some (.int (Int.fdiv x y)) else .none
  | .Mod, .int x, .int y => if 0 < y then some (.int (Int.fmod x y)) else .none
  | .Mult, .lst l, .int y => if 0 < y ∧ y < 100 ∧ l.length < 100 then some (.lst (List.replicate y.toNat l).flatten) else .none
  | _, _, _ => .none
noncomputable def dd1 (l : List Int) (i : Int) : List Int := if l.any (· == i) then l else l ++ [i]
noncomputable def distinct (l : List Int) : Nat := (l.foldl dd1 []).length
noncomputable def okV (v : AV) (P : Hp) : Out := some (.ok v P)
noncomputable def len1 (P : Hp) : AV -> Out
  | .iset l => if l.length < 1000 then okV (.int (distinct l)) P else .none
  | .lst l => if l.length < 100000 then okV (.int l.length) P else .none
  | .ref k => match P[k]? with
    | some (.list l) => if l.length < 100000 then okV (.int l.length) P else .none
    | some (.dict es) => if es.length < 100000 then okV (.int es.length) P else .none
    | _ => .none
  | _ => .none
noncomputable def one1 : AV -> Option UInt8
  | .byt [x] => some x
  | _ => .none
noncomputable def sortV (P : Hp) (l : List AV) : Out := match l with
  | [] => okV (.lst []) P
  | [a] => (one1 a).bind fun x => okV (.lst [.byt [x]]) P
  | [a, b] => (one1 a).bind fun x => (one1 b).bind fun y => okV (.lst (if y < x then [.byt [y], .byt [x]] else [.byt [x], .byt [y]])) P
  | _ => .none
noncomputable def sorted1 (P : Hp) : AV -> Out
  | .ref k => match P[k]? with
    | some (.list l) => sortV P l
    | some (.dict es) => sortV P (es.map (·.1))
    | _ => .none
  | _ => .none
noncomputable def min2 (P : Hp) : AV -> AV -> Out
  | .int a, .int b => okV (.int (if b < a then b else a)) P
  | _, _ => .none
noncomputable def repr1 (P : Hp) : AV -> Out
  | .bool b => okV (.str (if b then Str.ofString "True" else Str.ofString "False")) P
  | _ => .none
noncomputable def ord1 (P : Hp) : AV -> Out
  | .str ⟨⟨[c]⟩⟩ => okV (.int c) P
  | _ => .none
noncomputable def range1 (P : Hp) : AV -> Out
  | .int n => if n.natAbs < 1000000 then okV (.rng 0 n.toNat 1) P else .none
  | _ => .none
noncomputable def range3 (P : Hp) : AV -> AV -> AV -> Out
  | .int a, .int b, .int st => if st = -1 ∧ a.natAbs < 1000000 ∧ b.natAbs < 1000000 then okV (.rng a (a - b).toNat (-1)) P else .none
  | _, _, _ => .none
noncomputable def list1 (P : Hp) (v : AV) : Out := (lstOf P v).bind fun l => if l.length < 100000 then okV (.lst l) P else .none
noncomputable def int1 (P : Hp) : AV -> Out
  | .int i => okV (.int i) P
  | _ => .none
noncomputable def bytes1 (P : Hp) : AV -> Out
  | .lst [.int i] => if 0 ≤ i ∧ i < 256 then okV (.byt [i.toNat.toUInt8]) P else .none
  | _ => .none
noncomputable def dict1 (P : Hp) : AV -> Out
  | .lst l => if l.length < 1000 then (pairsOf l []).bind fun es => okV (.ref P.length) (P ++ [.dict es]) else .none
  | _ => .none
noncomputable def set1 (P : Hp) : AV -> Out
  | .lst l => (intsOf l).bind fun is => if is.length < 1000 then okV (.iset is) P else .none
  | _ => .none
noncomputable def isB : AV -> Bool
  | .top (.builtin _) => true
  | .top (.type _) => true
  | _ => false
noncomputable def builtB (P : Hp) (f : AV) (args : List AV) : Out := match f with
  | .top (.builtin id) => (match args with
    | [a] => if id = "len" then len1 P a else if id = "sorted" then sorted1 P a else if id = "repr" then repr1 P a else if id = "ord" then ord1 P a else .none
    | [a, b] => if id = "min" then min2 P a b else .none
    | _ => .none)
  | .top (.type id) => (match args with
    | [a] => if id = "range" then range1 P a else if id = "list" then list1 P a else if id = "int" then int1 P a else if id = "bytes" then bytes1 P a else if id = "dict" then dict1 P a else if id = "set" then set1 P a else .none
    | [a, b, c] => if id = "range" then range3 P a b c else .none
    | _ => .none)
  | _ => .none
structure FI where
  params : List Str
  body : List Stmt
  scope : Scope
  dflt : List AV := []
  lam : Bool := false
  deriving Inhabited
noncomputable def topBody : List Stmt := PySem.Challenge.pw_nt0504_01.main.body
noncomputable def fOf (d : List AV) (lam : Bool) : Option Stmt -> Option FI
  | some (.FunctionDef _ args body _ _ _ sc _ _ _) => some ⟨args.args.map (·.arg), body, sc, d, lam⟩
  | _ => .none
noncomputable def cOf : Option Stmt -> List Stmt
  | some (.ClassDef _ _ _ body _ _ _ _ _ _ _) => body
  | _ => []
noncomputable def fnAt (i : Nat) (d : List AV := []) (lam : Bool := false) : Option FI := fOf d lam topBody[i]?
noncomputable def meAt (i j : Nat) (d : List AV := []) : Option FI := fOf d false (cOf topBody[i]?)[j]?
noncomputable def i3 (n : Int) : AV := .int n
noncomputable def nlook {α : Type} (k : Nat) : List (Nat × α) -> Option α
  | [] => .none
  | (a, x) :: r => match Nat.beq a k with
    | true => some x
    | false => nlook k r
noncomputable def fTab : List (Nat × Option FI) := [
  (36, meAt 3 0 [.none]), (69, meAt 8 0 [.bool false, .int 3]), (90, meAt 9 0), (102, meAt 9 2), (116, fnAt 10), (124, fnAt 11 [.bool false]),
  (131, fnAt 12), (138, fnAt 13), (145, fnAt 14), (152, fnAt 15), (159, fnAt 16), (166, fnAt 17),
  (173, fnAt 18), (180, fnAt 19), (187, fnAt 20), (194, fnAt 21), (208, fnAt 23), (215, fnAt 24),
  (222, fnAt 25), (229, fnAt 28), (236, fnAt 29), (243, fnAt 30), (257, meAt 31 0), (264, meAt 31 1),
  (272, meAt 31 2), (279, meAt 31 3), (286, meAt 31 4), (291, meAt 31 5), (298, meAt 31 6), (305, meAt 31 7),
  (312, meAt 31 8), (319, meAt 31 9), (326, meAt 31 10), (333, meAt 31 11), (340, meAt 31 12), (347, meAt 31 13),
  (354, meAt 31 14), (359, meAt 31 15), (381, meAt 35 0 ([500, 20, 250, 15, 31, 65535, 65535, 65535, 127, 1500, 11, 15, 600, 16777216].map i3)), (423, meAt 37 0), (430, meAt 37 1), (438, meAt 37 2),
  (445, meAt 37 3), (452, meAt 37 4), (480, meAt 37 8), (501, meAt 38 0), (508, meAt 38 1), (550, meAt 38 7),
  (564, meAt 38 9), (674, fnAt 40), (686, fnAt 43), (693, fnAt 44), (700, fnAt 45), (707, fnAt 46),
  (714, fnAt 47), (719, fnAt 48 [] true), (726, fnAt 49 [] true), (731, fnAt 50), (736, fnAt 51 [] true)]
noncomputable def finfo (f : Nat) : Option FI := (nlook f fTab).bind id
noncomputable def gl (l : List (String × AV)) : List (Str × AV) := l.map fun (x, v) => (Str.ofString x, v)
noncomputable def rf (a : Nat) : AV := .top (.ref a)
noncomputable def globs : List (Str × AV) := gl [
  ("GRAIN", .int 1000000), ("READ_ONLY", .int 2), ("UNLIMITED", .int 3), ("PERMANENT", .int 3), ("ENTRY_COST", .int 16),
  ("Thing", rf 72), ("DictBody", rf 105), ("DictStack", rf 362), ("Limits", rf 384), ("Memory", rf 665),
  ("integer", rf 116), ("name", rf 124), ("null", rf 131), ("of_dict", rf 138), ("is_number", rf 145), ("in_millionths", rf 152), ("is_in_array", rf 159), ("body_of", rf 166), ("is_local", rf 173),
  ("access_of", rf 180), ("can_read", rf 187), ("can_write", rf 194), ("thing_octets", rf 208), ("key_of", rf 215), ("key_thing", rf 222), ("dict_check_read", rf 229), ("dict_check_write", rf 236), ("dict_names", rf 243),
  ("memory_check_many", rf 674), ("_law_deck", rf 686), ("_law_draw", rf 693), ("_law_found", rf 707), ("_law_is_put", rf 714), ("_law_search_right", rf 719), ("_law_deed", rf 726), ("_law_words", rf 731),
  ("len", .top (.builtin "len")), ("sorted", .top (.builtin "sorted")), ("min", .top (.builtin "min")), ("repr", .top (.builtin "repr")), ("ord", .top (.builtin "ord")),
  ("range", .top (.type "range")), ("list", .top (.type "list")), ("dict", .top (.type "dict")), ("set", .top (.type "set")), ("int", .top (.type "int")), ("bytes", .top (.type "bytes"))]
inductive CA where
  | meth (f : Nat)
  | prop (f : Nat)
noncomputable def cas (l : List (String × CA)) : List (Str × CA) := l.map fun (x, v) => (Str.ofString x, v)
noncomputable def cTab : List (Nat × List (Str × CA)) := [
  (105, cas [("pairs", .meth 102)]),
  (362, cas [("many", .prop 264), ("current", .meth 272), ("at", .meth 279), ("to_list", .meth 286), ("holds", .meth 291), ("begin", .meth 298), ("end", .meth 305), ("cut_to_three", .meth 312), ("find", .meth 319), ("load", .meth 326), ("where", .meth 333), ("define", .meth 340), ("store", .meth 347), ("names_seen", .meth 354), ("hidden", .meth 359)]),
  (665, cas [("level", .prop 430), ("body_level", .meth 438), ("take_room", .meth 445), ("check_room", .meth 452), ("make_dict", .meth 480), ("is_elder", .meth 501), ("check_holds", .meth 508), ("put_entry", .meth 550), ("set_access", .meth 564)])]
noncomputable def classOf (C : Nat) : List (Str × CA) := (nlook C cTab).getD []
noncomputable def sl (l : List String) : List (Str × Unit) := l.map fun x => (Str.ofString x, ())
noncomputable def dTab : List (Nat × List (Str × Unit)) := [
  (72, sl ["kind", "value", "is_exec", "access"]),
  (105, sl ["number", "most", "is_global", "level", "access", "entries"]),
  (362, sl ["things", "most"]),
  (384, sl ["operands", "dicts", "frames", "saves", "gstates", "text", "row", "entries", "word", "path", "dash", "files", "system", "vm"]),
  (665, sl ["limits", "is_global", "saves", "journal", "made", "freed", "used", "used_global", "last_body", "last_save"])]
noncomputable def fieldsOfC (C : Nat) : List (Str × Unit) := (nlook C dTab).getD []
noncomputable def isField (C : Nat) (a : Str) : Bool := (slook a (fieldsOfC C)).isSome
noncomputable def iTab : List (Nat × Nat) := [(72, 69), (105, 90), (362, 257), (384, 381), (665, 423)]
noncomputable def initOf (C : Nat) : Option Nat := nlook C iTab
noncomputable abbrev CallR := Hp -> AV -> List AV -> Out
noncomputable def bindD {α : Type} : List Str -> List α -> List α -> Option (List (Str × α))
  | [], [], _ => some []
  | [], _ :: _, _ => .none
  | p :: ps, a :: as, d => (bindD ps as d).map ((p, a) :: ·)
  | p :: ps, [], d => if d.length < (p :: ps).length then .none else some ((p :: ps).zip (d.drop (d.length - (p :: ps).length)))
noncomputable abbrev Kinds := List (Str × NameKind)
structure Fs where
  cn : List Str := []
  lam : Bool := false
noncomputable def isLocal : NameKind -> Bool
  | .local => true
  | _ => false
noncomputable def isFreeGlob : NameKind -> Bool
  | .free => true
  | .globalImplicit => true
  | _ => false
noncomputable def bad : List Str := [Str.ofString "__debug__", Str.ofString "__classdict__"]
noncomputable def isFree : NameKind -> Bool
  | .free => true
  | _ => false
noncomputable def dot0 : Str := Str.ofString ".0"
noncomputable def compOk (x : Str) (sc : Scope) (cn : List Str) : Bool :=
  (match sc.kind with | .function => true | _ => false) && !cn.contains x && !bad.contains x && x != dot0 &&
  (slook x sc.names).any isLocal && sc.names.all fun p => ((p.1 == x || p.1 == dot0) && isLocal p.2) || (p.1 != x && p.1 != dot0 && isFreeGlob p.2 && !bad.contains p.1 && (!isFree p.2 || cn.contains p.1))
noncomputable def compK (x : Str) (sc : Scope) : Kinds := (x, .local) :: sc.names.filter fun p => isFreeGlob p.2
noncomputable def lamOk (sc : Scope) (cn : List Str) : Bool :=
  (match sc.kind with | .function => true | _ => false) && !sc.isCoroutine && !sc.isGenerator && sc.names.all fun p => isFreeGlob p.2 && !bad.contains p.1 && (!isFree p.2 || cn.contains p.1)
noncomputable def isCap : Option NameKind -> Bool
  | some .cell => true
  | some .free => true
  | _ => false
noncomputable def capOk (kd : Kinds) (sc : Scope) : Bool := sc.names.all fun p => !isFree p.2 || isCap (slook p.1 kd)
@[irreducible] noncomputable def walk {α : Type} (v : LV) (n : Nat) (turn : LV -> α -> Hp -> (α -> Hp -> Out) -> Out) (fin : α -> Hp -> Out) : Nat -> Nat -> α -> Hp -> Out
  | 0, _, _, _ => .none
  | m + 1, i, l, P => match nthL P v n i with
    | .none => .none
    | some .none => fin l P
    | some (some x) => turn x l P fun l P => walk v n turn fin m (i + 1) l P
theorem walk_z {α : Type} {v : LV} {n : Nat} {turn : LV -> α -> Hp -> (α -> Hp -> Out) -> Out} {fin : α -> Hp -> Out} {i : Nat} {l : α} {P : Hp} : walk v n turn fin 0 i l P = .none := by with_unfolding_all rfl
theorem walk_eq {α : Type} {v : LV} {n : Nat} {turn : LV -> α -> Hp -> (α -> Hp -> Out) -> Out} {fin : α -> Hp -> Out} {m i : Nat} {l : α} {P : Hp} : walk v n turn fin (m + 1) i l P = match nthL P v n i with
    | .none => .none
    | some .none => fin l P
    | some (some x) => turn x l P fun l P => walk v n turn fin m (i + 1) l P := by with_unfolding_all rfl
noncomputable def stops : BoolOp -> Bool -> Bool
  | .And, t => !t
  | .Or, t => t
noncomputable abbrev consK (v : AV) (k : List AV -> Hp -> Out) : List AV -> Hp -> Out := fun vs P => k (v :: vs) P
noncomputable abbrev seqK (rest : Hp -> (List AV -> Hp -> Out) -> Out) (k : List AV -> Hp -> Out) : AV -> Hp -> Out := fun v P => rest P (consK v k)
noncomputable def seqE (av : Expr -> Hp -> (AV -> Hp -> Out) -> Out) (es : List Expr) : Hp -> (List AV -> Hp -> Out) -> Out :=
  @List.rec Expr (fun _ => Hp -> (List AV -> Hp -> Out) -> Out) (fun P k => k [] P) (fun e _ ih P k => av e P (seqK ih k)) es
noncomputable abbrev boolK (op : BoolOp) (k : AV -> Hp -> Out) (rest : Hp -> Out) (last : Bool) : AV -> Hp -> Out := fun v P => match last with
  | true => k v P
  | false => match truth v with
    | some t => if stops op t then k v P else rest P
    | .none => .none
noncomputable def boolE (av : Expr -> Hp -> (AV -> Hp -> Out) -> Out) (op : BoolOp) (k : AV -> Hp -> Out) (es : List Expr) : Hp -> Out :=
  @List.rec Expr (fun _ => Hp -> Out) (fun _ => .none) (fun e es ih P => av e P (boolK op k ih es.isEmpty)) es
noncomputable abbrev cmpK2 (k : AV -> Hp -> Out) (op : CmpOp) (x : AV) (last : Bool) (rest : AV -> Hp -> Out) : AV -> Hp -> Out := fun y P => match cmp1 P op x y with
  | some t => (match last with
    | true => k (.bool t) P
    | false => if t then rest y P else k (.bool false) P)
  | .none => .none
noncomputable def cmpE (av : Expr -> Hp -> (AV -> Hp -> Out) -> Out) (k : AV -> Hp -> Out) (x : AV) (ops : List CmpOp) (es : List Expr) : Hp -> Out :=
  @List.rec CmpOp (fun _ => AV -> List Expr -> Hp -> Out) (fun _ _ _ => .none) (fun op ops ih x es P => match es with
    | e :: es => av e P (cmpK2 k op x (ops.isEmpty && es.isEmpty) fun y P => ih y es P)
    | [] => .none) ops x es
noncomputable abbrev pairK3 (x y : AV) (k : List (AV × AV) -> Hp -> Out) : List (AV × AV) -> Hp -> Out := fun l P => k ((x, y) :: l) P
noncomputable abbrev pairK2 (rest : Hp -> (List (AV × AV) -> Hp -> Out) -> Out) (x : AV) (k : List (AV × AV) -> Hp -> Out) : AV -> Hp -> Out := fun y P => rest P (pairK3 x y k)
noncomputable abbrev pairK1 (av : Hp -> (AV -> Hp -> Out) -> Out) (rest : Hp -> (List (AV × AV) -> Hp -> Out) -> Out) (k : List (AV × AV) -> Hp -> Out) : AV -> Hp -> Out := fun x P => av P (pairK2 rest x k)
noncomputable def pairsE (av : Expr -> Hp -> (AV -> Hp -> Out) -> Out) (ks : List (Option Expr)) (vs : List Expr) : Hp -> (List (AV × AV) -> Hp -> Out) -> Out :=
  @List.rec (Option Expr) (fun _ => List Expr -> Hp -> (List (AV × AV) -> Hp -> Out) -> Out) (fun vs P k => match vs with | [] => k [] P | _ => .none) (fun o _ ih vs P k => match o, vs with
    | some a, b :: vs => av a P (pairK1 (av b) (ih vs) k)
    | _, _ => .none) ks vs
noncomputable def putAll : List (AV × AV) -> List (AV × AV) -> Option (List (AV × AV))
  | [], acc => some acc
  | (a, b) :: r, acc => if (k0 a).isSome then (dput a b acc).bind (putAll r) else .none
noncomputable def dictOk : List (Option Expr) -> List Expr -> Bool
  | [], [] => true
  | some _ :: ks, _ :: vs => dictOk ks vs
  | _, _ => false
noncomputable def isSliceIter : Expr -> Bool
  | .Subscript _ (.Slice ..) _ => true
  | _ => false
noncomputable def noStar : List Expr -> Bool
  | [] => true
  | .Starred .. :: _ => false
  | _ :: r => noStar r
noncomputable def notSuper : Expr -> Bool
  | .Call (.Name _ _) [] [] _ => false
  | _ => true
noncomputable def lam0 : Expr -> Option (Expr × Scope)
  | .Lambda ⟨[], [], .none, [], [], .none, []⟩ b sc _ => some (b, sc)
  | _ => .none
noncomputable def sliceOf : Expr -> Option (Option Expr × Option Expr × Option Expr)
  | .Slice a b c _ => some (a, b, c)
  | _ => .none
noncomputable def gen1 : List Comprehension -> Option (Str × Expr × List Expr)
  | [⟨.Name x _, it, ifs, 0⟩] => some (x, it, ifs)
  | _ => .none
noncomputable def tupOf : Expr -> Option (List Expr)
  | .Tuple ts _ _ => some ts
  | _ => .none
noncomputable def listOf : Expr -> Option (List Expr)
  | .List ts _ => some ts
  | _ => .none
noncomputable def nameOf : Expr -> Option Str
  | .Name x _ => some x
  | _ => .none
noncomputable def raise1 : Option Expr -> Option (Str × Expr)
  | some (.Call (.Name x _) [e] [] _) => some (x, e)
  | _ => .none
inductive Callee where
  | attr (o : Expr) (m : Str) (p : Pos)
  | nm (x : Str)
  | no
noncomputable def callee : Expr -> Callee
  | .Attribute o m p => .attr o m p
  | .Name x _ => .nm x
  | _ => .no
section
variable (r : CallR)
noncomputable def doCall (P : Hp) (f : AV) (args : List AV) (k : AV -> Hp -> Out) (ke : AV -> Hp -> Out) : Out := match r P f args with
  | some (.ok v P) => k v P
  | some (.exc b P) => ke b P
  | .none => .none
noncomputable def notTop : AV -> Bool
  | .top _ => false
  | _ => true
noncomputable abbrev atP (k : AV -> Hp -> Out) (P : Hp) : AV -> Out := fun v => k v P
noncomputable def getF (C : Nat) (a : Str) (fs : List (Str × AV)) (k : AV -> Out) : Out :=
  if isField C a then (match slook a fs with
    | some v => if notTop v then k v else .none
    | .none => .none) else .none
noncomputable abbrev propK (r : CallR) (P : Hp) (j f : Nat) (k : AV -> Hp -> Out) : Out := match r P (rf f) [.ref j] with
  | some (.ok v P) => if notTop v then k v P else .none
  | _ => .none
noncomputable abbrev instK (P : Hp) (a : Str) (j : Nat) (k : AV -> Hp -> Out) (C : Nat) (fs : List (Str × AV)) : Out := match slook a (classOf C) with
  | some (.prop f) => propK r P j f k
  | some (.meth f) => if (slook a fs).isNone then k (.met f (.ref j)) P else .none
  | .none => getF C a fs (atP k P)
noncomputable def getA (P : Hp) (v : AV) (a : Str) (k : AV -> Hp -> Out) : Out := match v with
  | .ins C fs => getF C a fs (atP k P)
  | .ref j => match P[j]? with
    | some (.inst C fs) => instK r P a j k C fs
    | _ => .none
  | _ => .none
inductive MT where
  | fn (f : Nat)
  | la | lp | dg | dv
noncomputable def methOf (P : Hp) (ov : AV) (m : Str) : Option MT := match ov with
  | .ref j => match P[j]? with
    | some (.inst C fs) => match slook m (classOf C) with
      | some (.meth f) => if (slook m fs).isNone then some (.fn f) else .none
      | _ => .none
    | some (.list _) =>
      if m = Str.ofString "append" then some .la
      else if m = Str.ofString "pop" then some .lp
      else .none
    | some (.dict _) =>
      if m = Str.ofString "get" then some .dg
      else if m = Str.ofString "values" then some .dv
      else .none
    | .none => .none
  | _ => .none
noncomputable def methB (P : Hp) (mt : MT) (ov : AV) (args : List AV) (k : AV -> Hp -> Out) (ke : AV -> Hp -> Out) : Out := match mt with
  | .fn f => doCall r P (rf f) (ov :: args) k ke
  | .la => (match ov, args with
    | .ref j, [v] => (match P[j]? with
      | some (.list l) => if l.length < 100000 then k .none (P.set j (.list (l ++ [v]))) else .none
      | _ => .none)
    | _, _ => .none)
  | .lp => (match ov, args with
    | .ref j, [] => (match P[j]? with
      | some (.list l) => if l.length < 100000 then (match l.getLast? with | some v => k v (P.set j (.list l.dropLast)) | .none => .none) else .none
      | _ => .none)
    | .ref j, [.int 0] => (match P[j]? with
      | some (.list (v :: rest)) => if rest.length < 100000 then k v (P.set j (.list rest)) else .none
      | _ => .none)
    | _, _ => .none)
  | .dg => (match ov, args with
    | .ref j, [key, d] => (match P[j]? with
      | some (.dict es) => (match dget key es with | some (some v) => k v P | some .none => k d P | .none => .none)
      | _ => .none)
    | _, _ => .none)
  | .dv => (match ov, args with
    | .ref j, [] => (match P[j]? with
      | some (.dict _) => k (.dvl j) P
      | _ => .none)
    | _, _ => .none)
noncomputable def told (v : Out) (k : AV -> Hp -> Out) : Out := match v with
  | some (.ok v P) => k (.tup [v, .none]) P
  | some (.exc b P) => k (.tup [.none, b]) P
  | .none => .none
noncomputable abbrev EvE := Hp -> Expr -> (LV -> Hp -> Out) -> (AV -> Hp -> Out) -> Out
noncomputable abbrev avK (k : AV -> Hp -> Out) : LV -> Hp -> Out := fun v P => match v with | .av v => k v P | _ => .none
noncomputable abbrev avE (E : EvE) (ke : AV -> Hp -> Out) : Expr -> Hp -> (AV -> Hp -> Out) -> Out := fun e P k => E P e (avK k) ke
noncomputable abbrev lvK (k : LV -> Hp -> Out) : AV -> Hp -> Out := fun v P => k (.av v) P
noncomputable abbrev attrK (a : Str) (k : LV -> Hp -> Out) : AV -> Hp -> Out := fun v P => getA r P v a (lvK k)
noncomputable abbrev methK2 (mt : MT) (ov : AV) (k : LV -> Hp -> Out) (ke : AV -> Hp -> Out) : List AV -> Hp -> Out := fun vs P => methB r P mt ov vs (lvK k) ke
noncomputable abbrev methK (sq : Hp -> (List AV -> Hp -> Out) -> Out) (m : Str) (k : LV -> Hp -> Out) (ke : AV -> Hp -> Out) : AV -> Hp -> Out := fun ov P => match methOf P ov m with
  | some mt => sq P (methK2 r mt ov k ke)
  | .none => .none
noncomputable abbrev toldK (k : LV -> Hp -> Out) : LV -> Hp -> Out := fun v P => match v with | .av v => k (.av (.tup [v, .none])) P | _ => .none
noncomputable abbrev toldE (k : LV -> Hp -> Out) : AV -> Hp -> Out := fun b P => k (.av (.tup [.none, b])) P
noncomputable abbrev cloK (tl : List Str -> Kinds -> Loc -> Hp -> Expr -> (LV -> Hp -> Out) -> (AV -> Hp -> Out) -> Out) (cn : List Str) (l : Loc) (k : LV -> Hp -> Out) : LV -> Hp -> Out := fun v P => match v with
  | .clo b sc => tl cn sc.names l P b (toldK k) (toldE k)
  | .av (.met f self) => if (finfo f).isSome then told (r P (.met f self) []) (lvK k) else .none
  | _ => .none
noncomputable abbrev callK (f : AV) (k : LV -> Hp -> Out) (ke : AV -> Hp -> Out) : List AV -> Hp -> Out := fun vs P => doCall r P f vs (lvK k) ke
noncomputable abbrev notK (k : LV -> Hp -> Out) : AV -> Hp -> Out := fun v P => match truth v with | some b => k (.av (.bool !b)) P | .none => .none
noncomputable abbrev negK (k : LV -> Hp -> Out) : AV -> Hp -> Out := fun v P => match v with | .int i => k (.av (.int (-i))) P | _ => .none
noncomputable abbrev binK2 (op : Operator) (x : AV) (k : LV -> Hp -> Out) : AV -> Hp -> Out := fun y P => match bin1 op x y with | some v => k (.av v) P | .none => .none
noncomputable abbrev binK (av : Hp -> (AV -> Hp -> Out) -> Out) (op : Operator) (k : LV -> Hp -> Out) : AV -> Hp -> Out := fun x P => av P (binK2 op x k)
noncomputable abbrev cmpK (av : Expr -> Hp -> (AV -> Hp -> Out) -> Out) (ops : List CmpOp) (es : List Expr) (k : LV -> Hp -> Out) : AV -> Hp -> Out := fun x P => cmpE av (lvK k) x ops es P
noncomputable abbrev ifK (ea eb : Hp -> (LV -> Hp -> Out) -> (AV -> Hp -> Out) -> Out) (k : LV -> Hp -> Out) (ke : AV -> Hp -> Out) : AV -> Hp -> Out := fun x P => match truth x with
  | some true => ea P k ke
  | some false => eb P k ke
  | .none => .none
noncomputable abbrev subK2 (v : AV) (k : LV -> Hp -> Out) : AV -> Hp -> Out := fun j P => match item P v j with | some x => k (.av x) P | .none => .none
noncomputable abbrev subK (av : Hp -> (AV -> Hp -> Out) -> Out) (k : LV -> Hp -> Out) : AV -> Hp -> Out := fun v P => av P (subK2 v k)
noncomputable abbrev toK2 (v : AV) (k : LV -> Hp -> Out) : AV -> Hp -> Out := fun hv P => match lstOf P v, hv with
  | some its, .int h => if 0 ≤ h ∧ its.length < 100000 then k (.av (.ref P.length)) (P ++ [.list (its.take h.toNat)]) else .none
  | _, _ => .none
noncomputable abbrev toK (av : Hp -> (AV -> Hp -> Out) -> Out) (k : LV -> Hp -> Out) : AV -> Hp -> Out := fun v P => av P (toK2 v k)
noncomputable abbrev fromK2 (v : AV) (k : LV -> Hp -> Out) : AV -> Hp -> Out := fun hv P => match lstOf P v, hv with
  | some its, .int h => if 0 ≤ h ∧ h ≤ its.length ∧ its.length < 100000 then k (.av (.ref P.length)) (P ++ [.list (its.drop h.toNat)]) else .none
  | _, _ => .none
noncomputable abbrev fromK (av : Hp -> (AV -> Hp -> Out) -> Out) (k : LV -> Hp -> Out) : AV -> Hp -> Out := fun v P => av P (fromK2 v k)
noncomputable abbrev lstK (k : LV -> Hp -> Out) : List AV -> Hp -> Out := fun vs P => k (.av (.lst vs)) P
noncomputable abbrev tuK (k : LV -> Hp -> Out) : List AV -> Hp -> Out := fun vs P => k (.av (.tup vs)) P
noncomputable abbrev dictK (n : Nat) (k : LV -> Hp -> Out) : List (AV × AV) -> Hp -> Out := fun ps P' => match putAll ps [], P'[n]? with
  | some d, some (.dict []) => k (.av (.ref n)) (P'.set n (.dict d))
  | _, _ => .none
noncomputable abbrev noE : AV -> Hp -> Out := fun _ _ => .none
noncomputable abbrev accK (acc : List AV) (f : List AV -> Hp -> Out) : LV -> Hp -> Out := fun w P => match w with | .av w => f (acc ++ [w]) P | _ => .none
noncomputable abbrev condK (go : Hp -> Out) (acc : List AV) (f : List AV -> Hp -> Out) : LV -> Hp -> Out := fun t P => match t with
  | .av t => (match truth t with | some true => go P | some false => f acc P | .none => .none)
  | _ => .none
noncomputable abbrev turnK (E : LV -> EvE) (elt : Expr) (ifs : List Expr) : LV -> List AV -> Hp -> (List AV -> Hp -> Out) -> Out := fun v acc P f => match ifs with
  | [] => E v P elt (accK acc f) noE
  | [c] => E v P c (condK (fun P => E v P elt (accK acc f) noE) acc f) noE
  | _ => .none
noncomputable abbrev finK (it : Expr) (k : LV -> Hp -> Out) : List AV -> Hp -> Out := fun acc P => if isSliceIter it then k (.av (.ref P.length)) (P ++ [.list acc]) else k (.av (.lst acc)) P
noncomputable abbrev listK (turn : LV -> List AV -> Hp -> (List AV -> Hp -> Out) -> Out) (fin : List AV -> Hp -> Out) : LV -> Hp -> Out := fun iv P => match startL P iv with
  | some (iv, m) => if m < 100000 then walk iv m turn fin (m + 1) 0 [] P else .none
  | .none => .none
noncomputable def evS (tl : List Str -> Kinds -> Loc -> EvE) (fs : Fs) (E : Kinds -> Loc -> EvE) (kd : Kinds) (l : Loc) (P : Hp) (e : Expr) (k : LV -> Hp -> Out) (ke : AV -> Hp -> Out) : Out := match e with
    | .Constant c _ _ => match c with
      | .none => k (.av .none) P
      | .bool b => k (.av (.bool b)) P
      | .int i => k (.av (.int i)) P
      | .str s => k (.av (.str s)) P
      | .bytes b => k (.av (.byt b)) P
      | _ => .none
    | .Name x _ => match slook x kd with
      | some .local => (match slook x l with | some v => k v P | .none => .none)
      | some .cell => (match slook x l with | some v => k v P | .none => .none)
      | some .free => (match slook x l with | some v => k v P | .none => .none)
      | some .globalImplicit => (match slook x globs with | some v => k (.av v) P | .none => .none)
      | _ => .none
    | .Attribute o a _ => if notSuper o then avE (E kd l) ke o P (attrK r a k) else .none
    | .Call f args [] pos => (match callee f with
      | .attr o m apos => if notSuper o && apos.endLine == pos.line && decide (args.length < 25) && noStar args then
          avE (E kd l) ke o P (methK r (seqE (avE (E kd l) ke) args) m k ke)
        else .none
      | .nm x =>
        if x = Str.ofString "_law_told" then match slook x kd with
          | some .globalImplicit => if fs.lam then (match args with
            | [e] => (match lam0 e with
              | some (b, sc) => if lamOk sc fs.cn && capOk kd sc then tl fs.cn sc.names l P b (toldK k) (toldE k) else .none
              | .none => E kd l P e (cloK r tl fs.cn l k) ke)
            | _ => .none) else .none
          | _ => .none
        else match slook x kd, slook x globs with
          | some .globalImplicit, some f => if decide (args.length < 25) && noStar args then seqE (avE (E kd l) ke) args P (callK r f k ke) else .none
          | _, _ => .none
      | .no => .none)
    | .UnaryOp .Not x _ => avE (E kd l) ke x P (notK k)
    | .UnaryOp .USub x _ => avE (E kd l) ke x P (negK k)
    | .BinOp a op b _ => avE (E kd l) ke a P (binK (avE (E kd l) ke b) op k)
    | .Compare a ops es _ => avE (E kd l) ke a P (cmpK (avE (E kd l) ke) ops es k)
    | .BoolOp op es _ => boolE (avE (E kd l) ke) op (lvK k) es P
    | .IfExp t a b _ => avE (E kd l) ke t P (ifK (fun P => E kd l P a) (fun P => E kd l P b) k ke)
    | .Subscript o i _ => (match sliceOf i with
      | .none => avE (E kd l) ke o P (subK (avE (E kd l) ke i) k)
      | some (.none, some h, .none) => avE (E kd l) ke o P (toK (avE (E kd l) ke h) k)
      | some (some h, .none, .none) => avE (E kd l) ke o P (fromK (avE (E kd l) ke h) k)
      | _ => .none)
    | .List es _ => if es.length < 1000 then seqE (avE (E kd l) ke) es P (lstK k) else .none
    | .Tuple es _ _ => if es.length < 1000 then seqE (avE (E kd l) ke) es P (tuK k) else .none
    | .Dict ks vs _ => if decide (ks.length < 10) && dictOk ks vs then pairsE (avE (E kd l) ke) ks vs (P ++ [.dict []]) (dictK P.length k) else .none
    | .ListComp elt gens sc _ => (match gen1 gens with
     | .none => .none
     | some (x, it, ifs) => if compOk x sc fs.cn && capOk kd sc then E kd l P it (listK (turnK (fun v => E (compK x sc) ((x, v) :: l)) elt ifs) (finK it k)) ke else .none)
    | _ => .none
noncomputable def evF (tl : List Str -> Kinds -> Loc -> EvE) (fs : Fs) (n : Nat) : Kinds -> Loc -> EvE := @Nat.rec (fun _ => Kinds -> Loc -> EvE) (fun _ _ _ _ _ _ => .none) (fun _ E => evS r tl fs E) n
noncomputable def ev0 (cn : List Str) (kd : Kinds) (l : Loc) (P : Hp) (e : Expr) (k : LV -> Hp -> Out) (ke : AV -> Hp -> Out) : Out := evF r (fun _ _ _ _ _ _ _ => .none) ⟨cn, false⟩ 20 kd l P e k ke
noncomputable def ev (fs : Fs) (n : Nat) (kd : Kinds) (l : Loc) (P : Hp) (e : Expr) (k : LV -> Hp -> Out) (ke : AV -> Hp -> Out) : Out := evF r (ev0 r) fs n kd l P e k ke
noncomputable abbrev excK : AV -> Hp -> Out := fun b P => some (.exc b P)
noncomputable def evA (fs : Fs) (kd : Kinds) (l : Loc) (P : Hp) (e : Expr) (k : AV -> Hp -> Out) : Out := ev r fs 40 kd l P e (avK k) excK
noncomputable def lamsOf (cn : List Str) (kd : Kinds) : List Expr -> Option (List (Expr × Scope))
  | [] => some []
  | e :: r => match lam0 e with
    | some (b, sc) => if lamOk sc cn && capOk kd sc then (lamsOf cn kd r).map ((b, sc) :: ·) else .none
    | .none => .none
noncomputable abbrev stAK (a : Str) (v : AV) (l : Loc) (k : Loc -> Hp -> Out) : AV -> Hp -> Out := fun ov P => match ov with
  | .ref j => (match P[j]? with
    | some (.inst C fs) => if isField C a && decide (fs.length < 100) then k l (P.set j (.inst C (sput a v fs))) else .none
    | _ => .none)
  | _ => .none
noncomputable abbrev stSK2 (ov v : AV) (l : Loc) (k : Loc -> Hp -> Out) : AV -> Hp -> Out := fun iv P => match ov with
  | .ref j => (match P[j]? with
    | some (.dict es) => if es.length < 100000 then (match dput iv v es with | some es => k l (P.set j (.dict es)) | .none => .none) else .none
    | _ => .none)
  | _ => .none
noncomputable abbrev stSK (av : Hp -> (AV -> Hp -> Out) -> Out) (v : AV) (l : Loc) (k : Loc -> Hp -> Out) : AV -> Hp -> Out := fun ov P => av P (stSK2 ov v l k)
noncomputable def store1 (fs : Fs) (kd : Kinds) (l : Loc) (P : Hp) (t : Expr) (v : AV) (k : Loc -> Hp -> Out) : Out := match t with
  | .Name x _ => (match slook x kd with
    | some .local => k (sput x (.av v) l) P
    | some .cell => k (sput x (.av v) l) P
    | _ => .none)
  | .Attribute o a _ => evA r fs kd l P o (stAK a v l k)
  | .Subscript o i _ => evA r fs kd l P o (stSK (fun P => evA r fs kd l P i) v l k)
  | _ => .none
noncomputable abbrev thenK (b : Loc -> Hp -> (Loc -> Hp -> Out) -> Out) (k : Loc -> Hp -> Out) : Loc -> Hp -> Out := fun l P => b l P k
noncomputable def stores (fs : Fs) (kd : Kinds) : List Expr -> List AV -> Loc -> Hp -> (Loc -> Hp -> Out) -> Out
  | [], [], l, P, k => k l P
  | t :: ts, v :: vs, l, P, k => store1 r fs kd l P t v (thenK (stores fs kd ts vs) k)
  | _, _, _, _, _ => .none
noncomputable def storeT (fs : Fs) (kd : Kinds) (t : Expr) (v : AV) (l : Loc) (P : Hp) (k : Loc -> Hp -> Out) : Out := match tupOf t with
  | some ts => (match v with | .tup vs => if decide (ts.length < 10) && noStar ts && decide (ts.length = vs.length) then stores r fs kd ts vs l P k else .none | _ => .none)
  | .none => store1 r fs kd l P t v k
noncomputable def isComp : Expr -> Bool
  | .ListComp .. => true
  | .SetComp .. => true
  | .DictComp .. => true
  | _ => false
noncomputable def swapOk (t e : Expr) : Bool := match tupOf t, tupOf e with
  | some ts, some vs => !(vs.all (constantsAlone 8)) && decide (ts.filterMap nameOf).Nodup
  | _, _ => (listOf t).isNone
@[irreducible] noncomputable def blk (one : Stmt -> Loc -> Hp -> (Loc -> Hp -> Out) -> Out) : List Stmt -> Loc -> Hp -> (Loc -> Hp -> Out) -> Out
  | [], l, P, kn => kn l P
  | s :: rest, l, P, kn => one s l P (thenK (blk one rest) kn)
theorem blk_nil {one : Stmt -> Loc -> Hp -> (Loc -> Hp -> Out) -> Out} {l : Loc} {P : Hp} {kn : Loc -> Hp -> Out} : blk one [] l P kn = kn l P := by with_unfolding_all rfl
theorem blk_cons {one : Stmt -> Loc -> Hp -> (Loc -> Hp -> Out) -> Out} {s : Stmt} {rest : List Stmt} {l : Loc} {P : Hp} {kn : Loc -> Hp -> Out} : blk one (s :: rest) l P kn = one s l P (thenK (blk one rest) kn) := by with_unfolding_all rfl
noncomputable abbrev exprK (l : Loc) (kn : Loc -> Hp -> Out) : AV -> Hp -> Out := fun v P => match v with | .none => kn l P | _ => .none
noncomputable abbrev asgLK (fs : Fs) (kd : Kinds) (t : Expr) (l : Loc) (kn : Loc -> Hp -> Out) : AV -> Hp -> Out := fun v P => match v with
  | .lst vs => storeT r fs kd t (.ref P.length) l (P ++ [.list vs]) kn
  | _ => .none
noncomputable abbrev asgK (fs : Fs) (kd : Kinds) (t : Expr) (l : Loc) (kn : Loc -> Hp -> Out) : AV -> Hp -> Out := fun v P => storeT r fs kd t v l P kn
noncomputable abbrev ifS (one : Stmt -> Loc -> Hp -> (Loc -> Hp -> Out) -> Out) (a b : List Stmt) (l : Loc) (kn : Loc -> Hp -> Out) : AV -> Hp -> Out := fun v P => match truth v with
  | some true => blk one a l P kn
  | some false => blk one b l P kn
  | .none => .none
noncomputable abbrev turnS (fs : Fs) (kd : Kinds) (t : Expr) (body : Loc -> Hp -> (Loc -> Hp -> Out) -> Out) : LV -> Loc -> Hp -> (Loc -> Hp -> Out) -> Out := fun x l P f => match x with
  | .av x => storeT r fs kd t x l P (thenK body f)
  | _ => .none
noncomputable abbrev forK (turn : LV -> Loc -> Hp -> (Loc -> Hp -> Out) -> Out) (l : Loc) (kn : Loc -> Hp -> Out) : AV -> Hp -> Out := fun v P => match startL P (.av v) with
  | some (iv, m) => walk iv m turn kn (m + 1) 0 l P
  | .none => .none
noncomputable abbrev raiseK : AV -> Hp -> Out := fun v P => match v with | .byt b => some (.exc (.byt b) P) | _ => .none
noncomputable def exS (fs : Fs) (kd : Kinds) (kr : AV -> Hp -> Out) (E : Stmt -> Loc -> Hp -> (Loc -> Hp -> Out) -> Out) (s : Stmt) (l : Loc) (P : Hp) (kn : Loc -> Hp -> Out) : Out := match s with
    | .Expr e _ => if isComp e then .none else evA r fs kd l P e (exprK l kn)
    | .Assign [t] e _ => if swapOk t e then (match listOf e with
      | some es => (match nameOf t, lamsOf fs.cn kd es, es with
        | some x, some c, _ :: _ => (match slook x kd with
          | some .local => if fs.lam && decide (es.length < 1000) then kn (sput x (.clos c) l) P else .none
          | _ => .none)
        | _, _, _ => evA r fs kd l P e (asgLK r fs kd t l kn))
      | .none => evA r fs kd l P e (asgK r fs kd t l kn)) else .none
    | .Return (some e) _ => evA r fs kd l P e kr
    | .If t a b _ => evA r fs kd l P t (ifS E a b l kn)
    | .For t it body [] _ => evA r fs kd l P it (forK (turnS r fs kd t (blk E body)) l kn)
    | .Raise c .none _ => (match raise1 c with
      | some (x, e) => if x = Str.ofString "PsError" then (match slook x kd with
        | some .globalImplicit => evA r fs kd l P e raiseK
        | _ => .none) else .none
      | .none => .none)
    | _ => .none
noncomputable def ex (fs : Fs) (kd : Kinds) (kr : AV -> Hp -> Out) (n : Nat) : Stmt -> Loc -> Hp -> (Loc -> Hp -> Out) -> Out := @Nat.rec (fun _ => Stmt -> Loc -> Hp -> (Loc -> Hp -> Out) -> Out) (fun _ _ _ _ => .none) (fun _ E => exS r fs kd kr E) n
noncomputable def cellNames (kd : Kinds) : List Str := (kd.filter fun p => match p.2 with | .cell => true | .free => true | _ => false).map (·.1)
noncomputable def thingNames : List Str := (fieldsOfC 72).map (·.1)
noncomputable def thingDflt : List AV := [.bool false, .int 3]
noncomputable def putsF : List (Str × AV) -> List (Str × AV) -> List (Str × AV)
  | [], fs => fs
  | (a, v) :: r, fs => putsF r (sput a v fs)
noncomputable def callB (P : Hp) (f : AV) (args : List AV) : Out := match f with
  | .top (.ref a) => match finfo a with
    | some fi => (match bindD fi.params args fi.dflt with
      | some b => blk (ex r ⟨cellNames fi.scope.names, fi.lam⟩ fi.scope.names (fun v P => some (.ok v P)) 12) fi.body (b.map fun p => (p.1, .av p.2)) P (fun _ P => some (.ok .none P))
      | .none => .none)
    | .none => match initOf a with
      | some fI =>
        if a = 72 then (bindD thingNames args thingDflt).map fun b => .ok (.ins 72 (putsF b [])) P
        else (match r (P ++ [.inst a []]) (rf fI) (.ref P.length :: args) with
        | some (.ok .none Q) => some (.ok (.ref P.length) Q)
        | _ => .none)
      | .none => .none
  | .met g self => r P (rf g) (self :: args)
  | f => builtB P f args
end
noncomputable def R : Nat -> CallR
  | 0 => fun _ _ _ => .none
  | n + 1 => callB (R n)
noncomputable def runLaw (script : List Int) : Out := R 30 [] (rf 736) [.lst (script.map .int)]
end DK
namespace DK
open PySem PySem.W PySem.Calls PyProof.Rows
theorem cc {G : Prop} (h : ¬ G -> False) : G := Classical.byContradiction h
theorem nn {α : Type} {a : α} (h : (none : Option α) = some a) : False := nomatch h
theorem ns {α : Type} {a : α} (h : some a = (none : Option α)) : False := nomatch h
theorem si {α : Type} {a b : α} (h : some a = some b) : a = b := Option.some.inj h
theorem u02 {A B : Prop} {Q : Prop} (h : A ∧ B) (k : A -> B -> Q) : Q := k h.1 h.2
theorem u03 {A B C : Prop} {Q : Prop} (h : A ∧ B ∧ C) (k : A -> B -> C -> Q) : Q := k h.1 h.2.1 h.2.2
theorem u04 {A B C D : Prop} {Q : Prop} (h : A ∧ B ∧ C ∧ D) (k : A -> B -> C -> D -> Q) : Q := k h.1 h.2.1 h.2.2.1 h.2.2.2
theorem u05 {A B C D E : Prop} {Q : Prop} (h : A ∧ B ∧ C ∧ D ∧ E) (k : A -> B -> C -> D -> E -> Q) : Q := k h.1 h.2.1 h.2.2.1 h.2.2.2.1 h.2.2.2.2
theorem u06 {A B C D E F : Prop} {Q : Prop} (h : A ∧ B ∧ C ∧ D ∧ E ∧ F) (k : A -> B -> C -> D -> E -> F -> Q) : Q := k h.1 h.2.1 h.2.2.1 h.2.2.2.1 h.2.2.2.2.1 h.2.2.2.2.2
theorem u07 {A B C D E F G : Prop} {Q : Prop} (h : A ∧ B ∧ C ∧ D ∧ E ∧ F ∧ G) (k : A -> B -> C -> D -> E -> F -> G -> Q) : Q := k h.1 h.2.1 h.2.2.1 h.2.2.2.1 h.2.2.2.2.1 h.2.2.2.2.2.1 h.2.2.2.2.2.2
theorem u08 {A B C D E F G H : Prop} {Q : Prop} (h : A ∧ B ∧ C ∧ D ∧ E ∧ F ∧ G ∧ H) (k : A -> B -> C -> D -> E -> F -> G -> H -> Q) : Q := k h.1 h.2.1 h.2.2.1 h.2.2.2.1 h.2.2.2.2.1 h.2.2.2.2.2.1 h.2.2.2.2.2.2.1 h.2.2.2.2.2.2.2
theorem u11 {α0 : Type} {A : α0 -> Prop} {Q : Prop} (h : ∃ a, A a) (k : ∀ a, A a -> Q) : Q := h.elim fun a h => k a h
theorem u12 {α0 : Type} {A B : α0 -> Prop} {Q : Prop} (h : ∃ a, A a ∧ B a) (k : ∀ a, A a -> B a -> Q) : Q := h.elim fun a h => k a h.1 h.2
theorem u13 {α0 : Type} {A B C : α0 -> Prop} {Q : Prop} (h : ∃ a, A a ∧ B a ∧ C a) (k : ∀ a, A a -> B a -> C a -> Q) : Q := h.elim fun a h => k a h.1 h.2.1 h.2.2
theorem u14 {α0 : Type} {A B C D : α0 -> Prop} {Q : Prop} (h : ∃ a, A a ∧ B a ∧ C a ∧ D a) (k : ∀ a, A a -> B a -> C a -> D a -> Q) : Q := h.elim fun a h => k a h.1 h.2.1 h.2.2.1 h.2.2.2
theorem u15 {α0 : Type} {A B C D E : α0 -> Prop} {Q : Prop} (h : ∃ a, A a ∧ B a ∧ C a ∧ D a ∧ E a) (k : ∀ a, A a -> B a -> C a -> D a -> E a -> Q) : Q := h.elim fun a h => k a h.1 h.2.1 h.2.2.1 h.2.2.2.1 h.2.2.2.2
theorem u16 {α0 : Type} {A B C D E F : α0 -> Prop} {Q : Prop} (h : ∃ a, A a ∧ B a ∧ C a ∧ D a ∧ E a ∧ F a) (k : ∀ a, A a -> B a -> C a -> D a -> E a -> F a -> Q) : Q := h.elim fun a h => k a h.1 h.2.1 h.2.2.1 h.2.2.2.1 h.2.2.2.2.1 h.2.2.2.2.2
theorem u17 {α0 : Type} {A B C D E F G : α0 -> Prop} {Q : Prop} (h : ∃ a, A a ∧ B a ∧ C a ∧ D a ∧ E a ∧ F a ∧ G a) (k : ∀ a, A a -> B a -> C a -> D a -> E a -> F a -> G a -> Q) : Q := h.elim fun a h => k a h.1 h.2.1 h.2.2.1 h.2.2.2.1 h.2.2.2.2.1 h.2.2.2.2.2.1 h.2.2.2.2.2.2
theorem u18 {α0 : Type} {A B C D E F G H : α0 -> Prop} {Q : Prop} (h : ∃ a, A a ∧ B a ∧ C a ∧ D a ∧ E a ∧ F a ∧ G a ∧ H a) (k : ∀ a, A a -> B a -> C a -> D a -> E a -> F a -> G a -> H a -> Q) : Q := h.elim fun a h => k a h.1 h.2.1 h.2.2.1 h.2.2.2.1 h.2.2.2.2.1 h.2.2.2.2.2.1 h.2.2.2.2.2.2.1 h.2.2.2.2.2.2.2
theorem u21 {α0 α1 : Type} {A : α0 -> α1 -> Prop} {Q : Prop} (h : ∃ a b, A a b) (k : ∀ a b, A a b -> Q) : Q := h.elim fun a h => h.elim fun b h => k a b h
theorem u22 {α0 α1 : Type} {A B : α0 -> α1 -> Prop} {Q : Prop} (h : ∃ a b, A a b ∧ B a b) (k : ∀ a b, A a b -> B a b -> Q) : Q := h.elim fun a h => h.elim fun b h => k a b h.1 h.2
theorem u23 {α0 α1 : Type} {A B C : α0 -> α1 -> Prop} {Q : Prop} (h : ∃ a b, A a b ∧ B a b ∧ C a b) (k : ∀ a b, A a b -> B a b -> C a b -> Q) : Q := h.elim fun a h => h.elim fun b h => k a b h.1 h.2.1 h.2.2
theorem u24 {α0 α1 : Type} {A B C D : α0 -> α1 -> Prop} {Q : Prop} (h : ∃ a b, A a b ∧ B a b ∧ C a b ∧ D a b) (k : ∀ a b, A a b -> B a b -> C a b -> D a b -> Q) : Q := h.elim fun a h => h.elim fun b h => k a b h.1 h.2.1 h.2.2.1 h.2.2.2
theorem u25 {α0 α1 : Type} {A B C D E : α0 -> α1 -> Prop} {Q : Prop} (h : ∃ a b, A a b ∧ B a b ∧ C a b ∧ D a b ∧ E a b) (k : ∀ a b, A a b -> B a b -> C a b -> D a b -> E a b -> Q) : Q := h.elim fun a h => h.elim fun b h => k a b h.1 h.2.1 h.2.2.1 h.2.2.2.1 h.2.2.2.2
theorem u26 {α0 α1 : Type} {A B C D E F : α0 -> α1 -> Prop} {Q : Prop} (h : ∃ a b, A a b ∧ B a b ∧ C a b ∧ D a b ∧ E a b ∧ F a b) (k : ∀ a b, A a b -> B a b -> C a b -> D a b -> E a b -> F a b -> Q) : Q := h.elim fun a h => h.elim fun b h => k a b h.1 h.2.1 h.2.2.1 h.2.2.2.1 h.2.2.2.2.1 h.2.2.2.2.2
theorem u27 {α0 α1 : Type} {A B C D E F G : α0 -> α1 -> Prop} {Q : Prop} (h : ∃ a b, A a b ∧ B a b ∧ C a b ∧ D a b ∧ E a b ∧ F a b ∧ G a b) (k : ∀ a b, A a b -> B a b -> C a b -> D a b -> E a b -> F a b -> G a b -> Q) : Q := h.elim fun a h => h.elim fun b h => k a b h.1 h.2.1 h.2.2.1 h.2.2.2.1 h.2.2.2.2.1 h.2.2.2.2.2.1 h.2.2.2.2.2.2
theorem u28 {α0 α1 : Type} {A B C D E F G H : α0 -> α1 -> Prop} {Q : Prop} (h : ∃ a b, A a b ∧ B a b ∧ C a b ∧ D a b ∧ E a b ∧ F a b ∧ G a b ∧ H a b) (k : ∀ a b, A a b -> B a b -> C a b -> D a b -> E a b -> F a b -> G a b -> H a b -> Q) : Q := h.elim fun a h => h.elim fun b h => k a b h.1 h.2.1 h.2.2.1 h.2.2.2.1 h.2.2.2.2.1 h.2.2.2.2.2.1 h.2.2.2.2.2.2.1 h.2.2.2.2.2.2.2
theorem u31 {α0 α1 α2 : Type} {A : α0 -> α1 -> α2 -> Prop} {Q : Prop} (h : ∃ a b c, A a b c) (k : ∀ a b c, A a b c -> Q) : Q := h.elim fun a h => h.elim fun b h => h.elim fun c h => k a b c h
theorem u32 {α0 α1 α2 : Type} {A B : α0 -> α1 -> α2 -> Prop} {Q : Prop} (h : ∃ a b c, A a b c ∧ B a b c) (k : ∀ a b c, A a b c -> B a b c -> Q) : Q := h.elim fun a h => h.elim fun b h => h.elim fun c h => k a b c h.1 h.2
theorem u33 {α0 α1 α2 : Type} {A B C : α0 -> α1 -> α2 -> Prop} {Q : Prop} (h : ∃ a b c, A a b c ∧ B a b c ∧ C a b c) (k : ∀ a b c, A a b c -> B a b c -> C a b c -> Q) : Q := h.elim fun a h => h.elim fun b h => h.elim fun c h => k a b c h.1 h.2.1 h.2.2
theorem u34 {α0 α1 α2 : Type} {A B C D : α0 -> α1 -> α2 -> Prop} {Q : Prop} (h : ∃ a b c, A a b c ∧ B a b c ∧ C a b c ∧ D a b c) (k : ∀ a b c, A a b c -> B a b c -> C a b c -> D a b c -> Q) : Q := h.elim fun a h => h.elim fun b h => h.elim fun c h => k a b c h.1 h.2.1 h.2.2.1 h.2.2.2
theorem u35 {α0 α1 α2 : Type} {A B C D E : α0 -> α1 -> α2 -> Prop} {Q : Prop} (h : ∃ a b c, A a b c ∧ B a b c ∧ C a b c ∧ D a b c ∧ E a b c) (k : ∀ a b c, A a b c -> B a b c -> C a b c -> D a b c -> E a b c -> Q) : Q := h.elim fun a h => h.elim fun b h => h.elim fun c h => k a b c h.1 h.2.1 h.2.2.1 h.2.2.2.1 h.2.2.2.2
theorem u36 {α0 α1 α2 : Type} {A B C D E F : α0 -> α1 -> α2 -> Prop} {Q : Prop} (h : ∃ a b c, A a b c ∧ B a b c ∧ C a b c ∧ D a b c ∧ E a b c ∧ F a b c) (k : ∀ a b c, A a b c -> B a b c -> C a b c -> D a b c -> E a b c -> F a b c -> Q) : Q := h.elim fun a h => h.elim fun b h => h.elim fun c h => k a b c h.1 h.2.1 h.2.2.1 h.2.2.2.1 h.2.2.2.2.1 h.2.2.2.2.2
theorem u37 {α0 α1 α2 : Type} {A B C D E F G : α0 -> α1 -> α2 -> Prop} {Q : Prop} (h : ∃ a b c, A a b c ∧ B a b c ∧ C a b c ∧ D a b c ∧ E a b c ∧ F a b c ∧ G a b c) (k : ∀ a b c, A a b c -> B a b c -> C a b c -> D a b c -> E a b c -> F a b c -> G a b c -> Q) : Q := h.elim fun a h => h.elim fun b h => h.elim fun c h => k a b c h.1 h.2.1 h.2.2.1 h.2.2.2.1 h.2.2.2.2.1 h.2.2.2.2.2.1 h.2.2.2.2.2.2
theorem u38 {α0 α1 α2 : Type} {A B C D E F G H : α0 -> α1 -> α2 -> Prop} {Q : Prop} (h : ∃ a b c, A a b c ∧ B a b c ∧ C a b c ∧ D a b c ∧ E a b c ∧ F a b c ∧ G a b c ∧ H a b c) (k : ∀ a b c, A a b c -> B a b c -> C a b c -> D a b c -> E a b c -> F a b c -> G a b c -> H a b c -> Q) : Q := h.elim fun a h => h.elim fun b h => h.elim fun c h => k a b c h.1 h.2.1 h.2.2.1 h.2.2.2.1 h.2.2.2.2.1 h.2.2.2.2.2.1 h.2.2.2.2.2.2.1 h.2.2.2.2.2.2.2
theorem u41 {α0 α1 α2 α3 : Type} {A : α0 -> α1 -> α2 -> α3 -> Prop} {Q : Prop} (h : ∃ a b c d, A a b c d) (k : ∀ a b c d, A a b c d -> Q) : Q := h.elim fun a h => h.elim fun b h => h.elim fun c h => h.elim fun d h => k a b c d h
theorem u42 {α0 α1 α2 α3 : Type} {A B : α0 -> α1 -> α2 -> α3 -> Prop} {Q : Prop} (h : ∃ a b c d, A a b c d ∧ B a b c d) (k : ∀ a b c d, A a b c d -> B a b c d -> Q) : Q := h.elim fun a h => h.elim fun b h => h.elim fun c h => h.elim fun d h => k a b c d h.1 h.2
theorem u43 {α0 α1 α2 α3 : Type} {A B C : α0 -> α1 -> α2 -> α3 -> Prop} {Q : Prop} (h : ∃ a b c d, A a b c d ∧ B a b c d ∧ C a b c d) (k : ∀ a b c d, A a b c d -> B a b c d -> C a b c d -> Q) : Q := h.elim fun a h => h.elim fun b h => h.elim fun c h => h.elim fun d h => k a b c d h.1 h.2.1 h.2.2
theorem u44 {α0 α1 α2 α3 : Type} {A B C D : α0 -> α1 -> α2 -> α3 -> Prop} {Q : Prop} (h : ∃ a b c d, A a b c d ∧ B a b c d ∧ C a b c d ∧ D a b c d) (k : ∀ a b c d, A a b c d -> B a b c d -> C a b c d -> D a b c d -> Q) : Q := h.elim fun a h => h.elim fun b h => h.elim fun c h => h.elim fun d h => k a b c d h.1 h.2.1 h.2.2.1 h.2.2.2
theorem u45 {α0 α1 α2 α3 : Type} {A B C D E : α0 -> α1 -> α2 -> α3 -> Prop} {Q : Prop} (h : ∃ a b c d, A a b c d ∧ B a b c d ∧ C a b c d ∧ D a b c d ∧ E a b c d) (k : ∀ a b c d, A a b c d -> B a b c d -> C a b c d -> D a b c d -> E a b c d -> Q) : Q := h.elim fun a h => h.elim fun b h => h.elim fun c h => h.elim fun d h => k a b c d h.1 h.2.1 h.2.2.1 h.2.2.2.1 h.2.2.2.2
theorem u46 {α0 α1 α2 α3 : Type} {A B C D E F : α0 -> α1 -> α2 -> α3 -> Prop} {Q : Prop} (h : ∃ a b c d, A a b c d ∧ B a b c d ∧ C a b c d ∧ D a b c d ∧ E a b c d ∧ F a b c d) (k : ∀ a b c d, A a b c d -> B a b c d -> C a b c d -> D a b c d -> E a b c d -> F a b c d -> Q) : Q := h.elim fun a h => h.elim fun b h => h.elim fun c h => h.elim fun d h => k a b c d h.1 h.2.1 h.2.2.1 h.2.2.2.1 h.2.2.2.2.1 h.2.2.2.2.2
theorem u47 {α0 α1 α2 α3 : Type} {A B C D E F G : α0 -> α1 -> α2 -> α3 -> Prop} {Q : Prop} (h : ∃ a b c d, A a b c d ∧ B a b c d ∧ C a b c d ∧ D a b c d ∧ E a b c d ∧ F a b c d ∧ G a b c d) (k : ∀ a b c d, A a b c d -> B a b c d -> C a b c d -> D a b c d -> E a b c d -> F a b c d -> G a b c d -> Q) : Q := h.elim fun a h => h.elim fun b h => h.elim fun c h => h.elim fun d h => k a b c d h.1 h.2.1 h.2.2.1 h.2.2.2.1 h.2.2.2.2.1 h.2.2.2.2.2.1 h.2.2.2.2.2.2
theorem u48 {α0 α1 α2 α3 : Type} {A B C D E F G H : α0 -> α1 -> α2 -> α3 -> Prop} {Q : Prop} (h : ∃ a b c d, A a b c d ∧ B a b c d ∧ C a b c d ∧ D a b c d ∧ E a b c d ∧ F a b c d ∧ G a b c d ∧ H a b c d) (k : ∀ a b c d, A a b c d -> B a b c d -> C a b c d -> D a b c d -> E a b c d -> F a b c d -> G a b c d -> H a b c d -> Q) : Q := h.elim fun a h => h.elim fun b h => h.elim fun c h => h.elim fun d h => k a b c d h.1 h.2.1 h.2.2.1 h.2.2.2.1 h.2.2.2.2.1 h.2.2.2.2.2.1 h.2.2.2.2.2.2.1 h.2.2.2.2.2.2.2
theorem u51 {α0 α1 α2 α3 α4 : Type} {A : α0 -> α1 -> α2 -> α3 -> α4 -> Prop} {Q : Prop} (h : ∃ a b c d e, A a b c d e) (k : ∀ a b c d e, A a b c d e -> Q) : Q := h.elim fun a h => h.elim fun b h => h.elim fun c h => h.elim fun d h => h.elim fun e h => k a b c d e h
theorem u52 {α0 α1 α2 α3 α4 : Type} {A B : α0 -> α1 -> α2 -> α3 -> α4 -> Prop} {Q : Prop} (h : ∃ a b c d e, A a b c d e ∧ B a b c d e) (k : ∀ a b c d e, A a b c d e -> B a b c d e -> Q) : Q := h.elim fun a h => h.elim fun b h => h.elim fun c h => h.elim fun d h => h.elim fun e h => k a b c d e h.1 h.2
theorem u53 {α0 α1 α2 α3 α4 : Type} {A B C : α0 -> α1 -> α2 -> α3 -> α4 -> Prop} {Q : Prop} (h : ∃ a b c d e, A a b c d e ∧ B a b c d e ∧ C a b c d e) (k : ∀ a b c d e, A a b c d e -> B a b c d e -> C a b c d e -> Q) : Q := h.elim fun a h => h.elim fun b h => h.elim fun c h => h.elim fun d h => h.elim fun e h => k a b c d e h.1 h.2.1 h.2.2
theorem u54 {α0 α1 α2 α3 α4 : Type} {A B C D : α0 -> α1 -> α2 -> α3 -> α4 -> Prop} {Q : Prop} (h : ∃ a b c d e, A a b c d e ∧ B a b c d e ∧ C a b c d e ∧ D a b c d e) (k : ∀ a b c d e, A a b c d e -> B a b c d e -> C a b c d e -> D a b c d e -> Q) : Q := h.elim fun a h => h.elim fun b h => h.elim fun c h => h.elim fun d h => h.elim fun e h => k a b c d e h.1 h.2.1 h.2.2.1 h.2.2.2
theorem u55 {α0 α1 α2 α3 α4 : Type} {A B C D E : α0 -> α1 -> α2 -> α3 -> α4 -> Prop} {Q : Prop} (h : ∃ a b c d e, A a b c d e ∧ B a b c d e ∧ C a b c d e ∧ D a b c d e ∧ E a b c d e) (k : ∀ a b c d e, A a b c d e -> B a b c d e -> C a b c d e -> D a b c d e -> E a b c d e -> Q) : Q := h.elim fun a h => h.elim fun b h => h.elim fun c h => h.elim fun d h => h.elim fun e h => k a b c d e h.1 h.2.1 h.2.2.1 h.2.2.2.1 h.2.2.2.2
theorem u56 {α0 α1 α2 α3 α4 : Type} {A B C D E F : α0 -> α1 -> α2 -> α3 -> α4 -> Prop} {Q : Prop} (h : ∃ a b c d e, A a b c d e ∧ B a b c d e ∧ C a b c d e ∧ D a b c d e ∧ E a b c d e ∧ F a b c d e) (k : ∀ a b c d e, A a b c d e -> B a b c d e -> C a b c d e -> D a b c d e -> E a b c d e -> F a b c d e -> Q) : Q := h.elim fun a h => h.elim fun b h => h.elim fun c h => h.elim fun d h => h.elim fun e h => k a b c d e h.1 h.2.1 h.2.2.1 h.2.2.2.1 h.2.2.2.2.1 h.2.2.2.2.2
theorem u57 {α0 α1 α2 α3 α4 : Type} {A B C D E F G : α0 -> α1 -> α2 -> α3 -> α4 -> Prop} {Q : Prop} (h : ∃ a b c d e, A a b c d e ∧ B a b c d e ∧ C a b c d e ∧ D a b c d e ∧ E a b c d e ∧ F a b c d e ∧ G a b c d e) (k : ∀ a b c d e, A a b c d e -> B a b c d e -> C a b c d e -> D a b c d e -> E a b c d e -> F a b c d e -> G a b c d e -> Q) : Q := h.elim fun a h => h.elim fun b h => h.elim fun c h => h.elim fun d h => h.elim fun e h => k a b c d e h.1 h.2.1 h.2.2.1 h.2.2.2.1 h.2.2.2.2.1 h.2.2.2.2.2.1 h.2.2.2.2.2.2
theorem u58 {α0 α1 α2 α3 α4 : Type} {A B C D E F G H : α0 -> α1 -> α2 -> α3 -> α4 -> Prop} {Q : Prop} (h : ∃ a b c d e, A a b c d e ∧ B a b c d e ∧ C a b c d e ∧ D a b c d e ∧ E a b c d e ∧ F a b c d e ∧ G a b c d e ∧ H a b c d e) (k : ∀ a b c d e, A a b c d e -> B a b c d e -> C a b c d e -> D a b c d e -> E a b c d e -> F a b c d e -> G a b c d e -> H a b c d e -> Q) : Q := h.elim fun a h => h.elim fun b h => h.elim fun c h => h.elim fun d h => h.elim fun e h => k a b c d e h.1 h.2.1 h.2.2.1 h.2.2.2.1 h.2.2.2.2.1 h.2.2.2.2.2.1 h.2.2.2.2.2.2.1 h.2.2.2.2.2.2.2
theorem u61 {α0 α1 α2 α3 α4 α5 : Type} {A : α0 -> α1 -> α2 -> α3 -> α4 -> α5 -> Prop} {Q : Prop} (h : ∃ a b c d e f, A a b c d e f) (k : ∀ a b c d e f, A a b c d e f -> Q) : Q := h.elim fun a h => h.elim fun b h => h.elim fun c h => h.elim fun d h => h.elim fun e h => h.elim fun f h => k a b c d e f h
theorem u62 {α0 α1 α2 α3 α4 α5 : Type} {A B : α0 -> α1 -> α2 -> α3 -> α4 -> α5 -> Prop} {Q : Prop} (h : ∃ a b c d e f, A a b c d e f ∧ B a b c d e f) (k : ∀ a b c d e f, A a b c d e f -> B a b c d e f -> Q) : Q := h.elim fun a h => h.elim fun b h => h.elim fun c h => h.elim fun d h => h.elim fun e h => h.elim fun f h => k a b c d e f h.1 h.2
theorem u63 {α0 α1 α2 α3 α4 α5 : Type} {A B C : α0 -> α1 -> α2 -> α3 -> α4 -> α5 -> Prop} {Q : Prop} (h : ∃ a b c d e f, A a b c d e f ∧ B a b c d e f ∧ C a b c d e f) (k : ∀ a b c d e f, A a b c d e f -> B a b c d e f -> C a b c d e f -> Q) : Q := h.elim fun a h => h.elim fun b h => h.elim fun c h => h.elim fun d h => h.elim fun e h => h.elim fun f h => k a b c d e f h.1 h.2.1 h.2.2
theorem u64 {α0 α1 α2 α3 α4 α5 : Type} {A B C D : α0 -> α1 -> α2 -> α3 -> α4 -> α5 -> Prop} {Q : Prop} (h : ∃ a b c d e f, A a b c d e f ∧ B a b c d e f ∧ C a b c d e f ∧ D a b c d e f) (k : ∀ a b c d e f, A a b c d e f -> B a b c d e f -> C a b c d e f -> D a b c d e f -> Q) : Q := h.elim fun a h => h.elim fun b h => h.elim fun c h => h.elim fun d h => h.elim fun e h => h.elim fun f h => k a b c d e f h.1 h.2.1 h.2.2.1 h.2.2.2
theorem u65 {α0 α1 α2 α3 α4 α5 : Type} {A B C D E : α0 -> α1 -> α2 -> α3 -> α4 -> α5 -> Prop} {Q : Prop} (h : ∃ a b c d e f, A a b c d e f ∧ B a b c d e f ∧ C a b c d e f ∧ D a b c d e f ∧ E a b c d e f) (k : ∀ a b c d e f, A a b c d e f -> B a b c d e f -> C a b c d e f -> D a b c d e f -> E a b c d e f -> Q) : Q := h.elim fun a h => h.elim fun b h => h.elim fun c h => h.elim fun d h => h.elim fun e h => h.elim fun f h => k a b c d e f h.1 h.2.1 h.2.2.1 h.2.2.2.1 h.2.2.2.2
theorem u66 {α0 α1 α2 α3 α4 α5 : Type} {A B C D E F : α0 -> α1 -> α2 -> α3 -> α4 -> α5 -> Prop} {Q : Prop} (h : ∃ a b c d e f, A a b c d e f ∧ B a b c d e f ∧ C a b c d e f ∧ D a b c d e f ∧ E a b c d e f ∧ F a b c d e f) (k : ∀ a b c d e f, A a b c d e f -> B a b c d e f -> C a b c d e f -> D a b c d e f -> E a b c d e f -> F a b c d e f -> Q) : Q := h.elim fun a h => h.elim fun b h => h.elim fun c h => h.elim fun d h => h.elim fun e h => h.elim fun f h => k a b c d e f h.1 h.2.1 h.2.2.1 h.2.2.2.1 h.2.2.2.2.1 h.2.2.2.2.2
theorem u67 {α0 α1 α2 α3 α4 α5 : Type} {A B C D E F G : α0 -> α1 -> α2 -> α3 -> α4 -> α5 -> Prop} {Q : Prop} (h : ∃ a b c d e f, A a b c d e f ∧ B a b c d e f ∧ C a b c d e f ∧ D a b c d e f ∧ E a b c d e f ∧ F a b c d e f ∧ G a b c d e f) (k : ∀ a b c d e f, A a b c d e f -> B a b c d e f -> C a b c d e f -> D a b c d e f -> E a b c d e f -> F a b c d e f -> G a b c d e f -> Q) : Q := h.elim fun a h => h.elim fun b h => h.elim fun c h => h.elim fun d h => h.elim fun e h => h.elim fun f h => k a b c d e f h.1 h.2.1 h.2.2.1 h.2.2.2.1 h.2.2.2.2.1 h.2.2.2.2.2.1 h.2.2.2.2.2.2
theorem u68 {α0 α1 α2 α3 α4 α5 : Type} {A B C D E F G H : α0 -> α1 -> α2 -> α3 -> α4 -> α5 -> Prop} {Q : Prop} (h : ∃ a b c d e f, A a b c d e f ∧ B a b c d e f ∧ C a b c d e f ∧ D a b c d e f ∧ E a b c d e f ∧ F a b c d e f ∧ G a b c d e f ∧ H a b c d e f) (k : ∀ a b c d e f, A a b c d e f -> B a b c d e f -> C a b c d e f -> D a b c d e f -> E a b c d e f -> F a b c d e f -> G a b c d e f -> H a b c d e f -> Q) : Q := h.elim fun a h => h.elim fun b h => h.elim fun c h => h.elim fun d h => h.elim fun e h => h.elim fun f h => k a b c d e f h.1 h.2.1 h.2.2.1 h.2.2.2.1 h.2.2.2.2.1 h.2.2.2.2.2.1 h.2.2.2.2.2.2.1 h.2.2.2.2.2.2.2
inductive Role where
  | any
  | fro (o : Obj)
  | own (k : Nat)
  | ownD (k : Nat)
  | frm
  | cel
  | keep
  | tab
noncomputable def Role.tg : Role -> Nat
  | .any => 0 | .fro _ => 1 | .own _ => 2 | .ownD _ => 3 | .frm => 4 | .cel => 5 | .keep => 6 | .tab => 7
theorem rn {x y z : Role} (e : x = y) (h : Nat.beq y.tg z.tg = false := by rfl) : x ≠ z := fun q => Bool.noConfusion ((Nat.beq_refl z.tg).symm.trans ((congrArg (fun r => Nat.beq r.tg z.tg) (q.symm.trans e)).trans h))
theorem rx {y z : Role} {M : Prop} (e : y = z) (h : Nat.beq y.tg z.tg = false := by rfl) : M := absurd e (rn rfl h)
structure Gh where
  ρ : Addr -> Role
  σ : List Addr
noncomputable def SetOf (prog : Program) (w : World) (l : List Int) (o : Obj) : Prop := ∃ S, o.SetObjOf (intKind prog w) S (distinct l) ∧ l.length < 1000
section
variable (prog : Program) (w : World)
mutual
inductive VR (g : Gh) : AV -> Value -> Prop
  | none : VR g .none .none
  | bool (b : Bool) : VR g (.bool b) (.bool b)
  | int (i : Int) (t : Tok) : VR g (.int i) (.int i t)
  | str (s : Str) (t : Tok) : VR g (.str s) (.str s t)
  | byt (b : List UInt8) (t : Tok) : VR g (.byt b) (.bytes b.toArray t)
  | top (v : Value) : VR g (.top v) v
  | ref {k : Nat} {a : Addr} : g.σ[k]? = some a -> VR g (.ref k) (.ref a)
  | tup {l : List AV} {a : Addr} {vs : Array Value} {n : Nat} : g.ρ a = .fro { cls := .type "tuple", data := .seq vs n } -> VRs g l vs.toList -> VR g (.tup l) (.ref a)
  | lst {l : List AV} {a : Addr} {vs : Array Value} {n : Nat} : g.ρ a = .fro { cls := .type "list", data := .seq vs n } -> VRs g l vs.toList -> VR g (.lst l) (.ref a)
  | ins {C : Nat} {fs : List (Str × AV)} {a d : Addr} {es : Array DictEntry} {ep : Nat} : g.ρ a = .fro (instObj C d) -> g.ρ d = .fro { cls := .type "dict", data := .dict es ep } -> FsR g fs es.toList -> VR g (.ins C fs) (.ref a)
  | met {f : Nat} {self : AV} {a : Addr} {v : Value} : g.ρ a = .fro (methodObj (.ref f) v) -> VR g self v -> VR g (.met f self) (.ref a)
  | rng {a : Int} {n : Nat} {st : Int} {r : Addr} {b : Int} {t u x : Tok} : g.ρ r = .fro { cls := .type "range", data := .fields #[.int a t, .int b u, .int st x] } -> Builtin.Range.small a b st = true -> Builtin.Range.rangeSize a b st = n -> VR g (.rng a n st) (.ref r)
  | dvl {k : Nat} {a d : Addr} : g.σ[k]? = some d -> g.ρ a = .fro { cls := .type "dict_values", data := .fields #[.ref d] } -> VR g (.dvl k) (.ref a)
  | iset {l : List Int} {a : Addr} {o : Obj} : g.ρ a = .fro o -> SetOf prog w l o -> VR g (.iset l) (.ref a)
inductive VRs (g : Gh) : List AV -> List Value -> Prop
  | nil : VRs g [] []
  | cons {x : AV} {v : Value} {l : List AV} {vs : List Value} : VR g x v -> VRs g l vs -> VRs g (x :: l) (v :: vs)
inductive FsR (g : Gh) : List (Str × AV) -> List DictEntry -> Prop
  | nil : FsR g [] []
  | cons {x : Str} {t : Tok} {v : AV} {hs : Int} {u : Value} {fs : List (Str × AV)} {es : List DictEntry} : VR g v u -> FsR g fs es -> FsR g ((x, v) :: fs) (⟨hs, .str x t, u⟩ :: es)
end
end
section
variable {prog : Program} {w : World} {g : Gh}
noncomputable def VRi (prog : Program) (w : World) (g : Gh) (x : AV) (u : Value) : Prop := match x with
  | .none => u = .none
  | .bool b => u = .bool b
  | .int i => ∃ t, u = .int i t
  | .str s => ∃ t, u = .str s t
  | .byt b => ∃ t, u = .bytes b.toArray t
  | .top v => u = v
  | .ref k => ∃ a, u = .ref a ∧ g.σ[k]? = some a
  | .tup l => ∃ a vs n, u = .ref a ∧ g.ρ a = .fro { cls := .type "tuple", data := .seq vs n } ∧ VRs prog w g l vs.toList
  | .lst l => ∃ a vs n, u = .ref a ∧ g.ρ a = .fro { cls := .type "list", data := .seq vs n } ∧ VRs prog w g l vs.toList
  | .ins C fs => ∃ a d es ep, u = .ref a ∧ g.ρ a = .fro (instObj C d) ∧ g.ρ d = .fro { cls := .type "dict", data := .dict es ep } ∧ FsR prog w g fs es.toList
  | .met f self => ∃ a v, u = .ref a ∧ g.ρ a = .fro (methodObj (.ref f) v) ∧ VR prog w g self v
  | .rng a n st => ∃ r b t y z, u = .ref r ∧ g.ρ r = .fro { cls := .type "range", data := .fields #[.int a t, .int b y, .int st z] } ∧ Builtin.Range.small a b st = true ∧ Builtin.Range.rangeSize a b st = n
  | .dvl k => ∃ a d, u = .ref a ∧ g.σ[k]? = some d ∧ g.ρ a = .fro { cls := .type "dict_values", data := .fields #[.ref d] }
  | .iset l => ∃ a o, u = .ref a ∧ g.ρ a = .fro o ∧ SetOf prog w l o
theorem VR.inv {x : AV} {u : Value} (r : VR prog w g x u) : VRi prog w g x u :=
  VR.casesOn (motive_1 := fun x u z_ => VRi prog w g x u) r rfl (fun z_ => rfl) (fun z_ t => ⟨t, rfl⟩) (fun z_ t => ⟨t, rfl⟩) (fun z_ t => ⟨t, rfl⟩) (fun z_ => rfl) (fun h => ⟨_, rfl, h⟩) (fun h r => ⟨_, _, _, rfl, h, r⟩) (fun h r => ⟨_, _, _, rfl, h, r⟩)
    (fun h d r => ⟨_, _, _, _, rfl, h, d, r⟩) (fun h r => ⟨_, _, rfl, h, r⟩) (fun h s n => ⟨_, _, _, _, _, rfl, h, s, n⟩) (fun k h => ⟨_, _, rfl, k, h⟩) (fun h s => ⟨_, _, rfl, h, s⟩)
end
theorem nm {α : Type} {a : α} {C : Prop} (h : (none : Option α) = some a) : C := nomatch h
theorem nt {C : Prop} (h : false = true) : C := nomatch h
theorem omA {β : Type} {o : Option AV} {f : AV -> Option β} {r : β} {Q : Prop} (h : (match o with | some x => f x | none => none) = some r) (k : ∀ x, o = some x -> f x = some r -> Q) : Q := by
  induction o using Option.casesOn with
  | none => exact nm h
  | some x => exact k x rfl h
theorem omB {β : Type} {o : Option Bool} {f : Bool -> Option β} {r : β} {Q : Prop} (h : (match o with | some x => f x | none => none) = some r) (k : ∀ x, o = some x -> f x = some r -> Q) : Q := by
  induction o using Option.casesOn with
  | none => exact nm h
  | some x => exact k x rfl h
theorem ob {α β : Type} {o : Option α} {f : α -> Option β} {r : β} {Q : Prop} (h : o.bind f = some r) (k : ∀ x, o = some x -> f x = some r -> Q) : Q := match o, h with
  | some x, h => k x rfl h
theorem op {α β : Type} {o : Option α} {f : α -> β} {r : β} {Q : Prop} (h : o.map f = some r) (k : ∀ x, o = some x -> f x = r -> Q) : Q := match o, h with
  | some x, h => k x rfl (Option.some.inj h)
theorem oi {c : Prop} {d : Decidable c} {β : Type} {x : Option β} {r : β} {Q : Prop} (h : (@ite _ c d x none) = some r) (k : c -> x = some r -> Q) : Q := (Classical.em c).elim (fun p => k p ((if_pos p).symm.trans h)) fun p => nm ((if_neg p).symm.trans h)
theorem oe {c : Prop} {d : Decidable c} {β : Type} {x y : Option β} {r : β} {Q : Prop} (h : (@ite _ c d x y) = some r) (k : c -> x = some r -> Q) (k' : ¬ c -> y = some r -> Q) : Q := (Classical.em c).elim (fun p => k p ((if_pos p).symm.trans h)) fun p => k' p ((if_neg p).symm.trans h)
structure Gh.Le (g g' : Gh) : Prop where
  role : ∀ a, g.ρ a ≠ .any -> g'.ρ a = g.ρ a
  pre : ∀ (k : Nat) (a : Addr), g.σ[k]? = some a -> g'.σ[k]? = some a
theorem Gh.Le.refl (g : Gh) : g.Le g := ⟨fun z_ z_ => rfl, fun z_ z_ e => e⟩
theorem Gh.Le.at {g g' : Gh} (x : g.Le g') {a : Addr} {r : Role} (e : g.ρ a = r) (hr : Nat.beq r.tg 0 = false := by rfl) : g'.ρ a = r := (x.role a (rn e hr)).trans e
theorem Gh.Le.fro {g g' : Gh} (x : g.Le g') (a : Addr) (o : Obj) (e : g.ρ a = .fro o) : g'.ρ a = .fro o := x.at e
theorem Gh.Le.trans {g₁ g₂ g₃ : Gh} (x : g₁.Le g₂) (y : g₂.Le g₃) : g₁.Le g₃ :=
  ⟨fun a e => (y.role a (by rw [x.role a e]; exact e)).trans (x.role a e), fun k a e => y.pre k a (x.pre k a e)⟩
structure Gh.Wk (g g' : Gh) : Prop where
  role : ∀ a, g.ρ a ≠ .any -> g.ρ a ≠ .keep -> g.ρ a ≠ .frm -> g'.ρ a = g.ρ a
  pre : ∀ (k : Nat) (a : Addr), g.σ[k]? = some a -> g'.σ[k]? = some a
theorem Gh.Wk.at {g g' : Gh} (x : g.Wk g') {a : Addr} {r : Role} (e : g.ρ a = r) (hr : Nat.beq r.tg 0 = false := by rfl) (hk : Nat.beq r.tg 6 = false := by rfl) (hf : Nat.beq r.tg 4 = false := by rfl) : g'.ρ a = r := (x.role a (rn e hr) (rn e hk) (rn e hf)).trans e
theorem Gh.Wk.fro {g g' : Gh} (x : g.Wk g') (a : Addr) (o : Obj) (e : g.ρ a = .fro o) : g'.ρ a = .fro o := x.at e
theorem Gh.Le.wk {g g' : Gh} (x : g.Le g') : g.Wk g' := ⟨fun a h z_ z_ => x.role a h, x.pre⟩
section
variable {prog : Program} {w : World} {g g' : Gh}
theorem VRs.ind {M : List AV -> List Value -> Prop} (n : M [] []) (c : ∀ {x v l vs}, VR prog w g x v -> VRs prog w g l vs -> M l vs -> M (x :: l) (v :: vs)) {l : List AV} {vs : List Value} (r : VRs prog w g l vs) : M l vs := by
  refine VRs.rec (motive_1 := fun z_ z_ z_ => True) (motive_2 := fun l vs z_ => M l vs) (motive_3 := fun z_ z_ z_ => True) ?_ ?_ ?_ ?_ ?_ ?_ ?_ ?_ ?_ ?_ ?_ ?_ ?_ ?_ n (fun a r z_ m => c a r m) ?_ ?_ r <;> (intros; trivial)
theorem FsR.ind {M : List (Str × AV) -> List DictEntry -> Prop} (n : M [] []) (c : ∀ {x t v hs u fs es}, VR prog w g v u -> FsR prog w g fs es -> M fs es -> M ((x, v) :: fs) (⟨hs, .str x t, u⟩ :: es)) {fs : List (Str × AV)} {es : List DictEntry} (r : FsR prog w g fs es) : M fs es := by
  refine FsR.rec (motive_1 := fun z_ z_ z_ => True) (motive_2 := fun z_ z_ z_ => True) (motive_3 := fun l es z_ => M l es) ?_ ?_ ?_ ?_ ?_ ?_ ?_ ?_ ?_ ?_ ?_ ?_ ?_ ?_ ?_ ?_ n (fun a r z_ m => c a r m) r <;> (intros; trivial)
theorem VR.wk (L : g.Wk g') {x : AV} {v : Value} (r : VR prog w g x v) : VR prog w g' x v :=
  VR.rec (motive_1 := fun x v z_ => VR prog w g' x v) (motive_2 := fun l vs z_ => VRs prog w g' l vs) (motive_3 := fun l es z_ => FsR prog w g' l es)
    .none .bool .int .str .byt .top (fun e => .ref (L.pre _ _ e)) (fun e z_ r => .tup (L.fro _ _ e) r) (fun e z_ r => .lst (L.fro _ _ e) r) (fun e d z_ r => .ins (L.fro _ _ e) (L.fro _ _ d) r)
    (fun e z_ r => .met (L.fro _ _ e) r) (fun e s n => .rng (L.fro _ _ e) s n) (fun k e => .dvl (L.pre _ _ k) (L.fro _ _ e)) (fun e s => .iset (L.fro _ _ e) s) .nil (fun z_ z_ a r => .cons a r) .nil (fun z_ z_ a r => .cons a r) r
theorem VRs.wk (L : g.Wk g') {l : List AV} {vs : List Value} (r : VRs prog w g l vs) : VRs prog w g' l vs := VRs.ind .nil (fun a z_ m => .cons (a.wk L) m) r
theorem FsR.wk (L : g.Wk g') {l : List (Str × AV)} {es : List DictEntry} (r : FsR prog w g l es) : FsR prog w g' l es := FsR.ind .nil (fun a z_ m => .cons (a.wk L) m) r
theorem VR.mono (L : g.Le g') {x : AV} {v : Value} (r : VR prog w g x v) : VR prog w g' x v := r.wk L.wk
theorem VRs.mono (L : g.Le g') {l : List AV} {vs : List Value} (r : VRs prog w g l vs) : VRs prog w g' l vs := r.wk L.wk
theorem FsR.mono (L : g.Le g') {l : List (Str × AV)} {es : List DictEntry} (r : FsR prog w g l es) : FsR prog w g' l es := r.wk L.wk
theorem VRs.length {l : List AV} {vs : List Value} (r : VRs prog w g l vs) : l.length = vs.length := VRs.ind (M := fun l vs => l.length = vs.length) rfl (fun z_ z_ m => congrArg Nat.succ m) r
theorem VRs.append {l : List AV} {vs : List Value} {l' : List AV} {vs' : List Value} (r : VRs prog w g l vs) (s : VRs prog w g l' vs') : VRs prog w g (l ++ l') (vs ++ vs') := VRs.ind (M := fun l vs => VRs prog w g (l ++ l') (vs ++ vs')) s (fun a z_ m => .cons a m) r
theorem VRs.get {l : List AV} {vs : List Value} (r : VRs prog w g l vs) : ∀ (i : Nat), (∃ x v, l[i]? = some x ∧ vs[i]? = some v ∧ VR prog w g x v) ∨ (l[i]? = none ∧ vs[i]? = none) :=
  VRs.ind (M := fun l vs => ∀ (i : Nat), (∃ x v, l[i]? = some x ∧ vs[i]? = some v ∧ VR prog w g x v) ∨ (l[i]? = none ∧ vs[i]? = none)) (fun z_ => .inr ⟨rfl, rfl⟩) (fun a z_ m i => i.casesOn (.inl ⟨_, _, rfl, rfl, a⟩) m) r
theorem VRs.at {l : List AV} {vs : List Value} (r : VRs prog w g l vs) {i : Nat} {x : AV} (h : l[i]? = some x) : ∃ v, vs[i]? = some v ∧ VR prog w g x v :=
  (r.get i).elim (fun z => u23 z fun y v e1 e2 e3 => ⟨v, e2, si (e1.symm.trans h) ▸ e3⟩) fun z => nm (z.1.symm.trans h)
theorem VRs.take {l : List AV} {vs : List Value} (r : VRs prog w g l vs) : ∀ (i : Nat), VRs prog w g (l.take i) (vs.take i) :=
  VRs.ind (M := fun l vs => ∀ (i : Nat), VRs prog w g (l.take i) (vs.take i)) (fun i => i.casesOn .nil fun z_ => .nil) (fun a z_ m i => i.casesOn .nil fun i => .cons a (m i)) r
theorem VRs.drop {l : List AV} {vs : List Value} (r : VRs prog w g l vs) : ∀ (i : Nat), VRs prog w g (l.drop i) (vs.drop i) :=
  VRs.ind (M := fun l vs => ∀ (i : Nat), VRs prog w g (l.drop i) (vs.drop i)) (fun i => i.casesOn .nil fun z_ => .nil) (fun a r m i => i.casesOn (.cons a r) m) r
theorem VRs.inv {x : AV} {l : List AV} {us : List Value} {Q : List Value -> Prop} (r : VRs prog w g (x :: l) us) (k : ∀ v vs, VR prog w g x v -> VRs prog w g l vs -> Q (v :: vs)) : Q us := by
  cases r with | cons a r => exact k _ _ a r
theorem VRs.ex {x : AV} {l : List AV} {us : List Value} (r : VRs prog w g (x :: l) us) : ∃ v vs, us = v :: vs ∧ VR prog w g x v ∧ VRs prog w g l vs := VRs.inv (Q := fun us => ∃ v vs, us = v :: vs ∧ VR prog w g x v ∧ VRs prog w g l vs) r fun v vs a r => ⟨v, vs, rfl, a, r⟩
theorem VRs.ex0 {us : List Value} (r : VRs prog w g [] us) : us = [] := by cases r; rfl
theorem VRs.inv2 {x : AV} {v : Value} {l : List AV} {vs : List Value} {Q : Prop} (r : VRs prog w g (x :: l) (v :: vs)) (k : VR prog w g x v -> VRs prog w g l vs -> Q) : Q := by
  cases r with | cons a r => exact k a r
theorem VRs.inv0 {us : List Value} {Q : List Value -> Prop} (r : VRs prog w g [] us) (k : Q []) : Q us := by
  cases r; exact k
end
section
theorem sub_int_bytes : isSubtype (.type "int") (.type "bytes") = pure false := by rw [isSubtype_type]; kernel_rfl
theorem sub_bytes_int : isSubtype (.type "bytes") (.type "int") = pure false := by rw [isSubtype_type]; kernel_rfl
theorem sub_str_bytes : isSubtype (.type "str") (.type "bytes") = pure false := by rw [isSubtype_type]; kernel_rfl
theorem sub_bytes_str : isSubtype (.type "bytes") (.type "str") = pure false := by rw [isSubtype_type]; kernel_rfl
theorem bytes_eq_int (a : Array UInt8) (t : Tok) (b : Int) (u : Tok) : Gives (Builtin.«bytes.__eq__» ⟨[.bytes a t, .int b u], []⟩) (.val (Value.notImplemented)) :=
  .of_wp fun M A E s Q h => by
    obtain ⟨hp, g, d, tk, os⟩ := s
    have f := sub_int_bytes
    wp_walk
    exact ⟨_, rfl, h⟩
theorem int_eq_bytes (a : Int) (t : Tok) (b : Array UInt8) (u : Tok) : Gives (Builtin.«int.__eq__» ⟨[.int a t, .bytes b u], []⟩) (.val (Value.notImplemented)) :=
  .of_wp fun M A E s Q h => by
    obtain ⟨hp, g, d, tk, os⟩ := s
    have f := sub_bytes_int
    wp_walk
    exact ⟨_, rfl, h⟩
theorem bytes_eq_str (a : Array UInt8) (t : Tok) (b : Str) (u : Tok) : Gives (Builtin.«bytes.__eq__» ⟨[.bytes a t, .str b u], []⟩) (.val (Value.notImplemented)) :=
  .of_wp fun M A E s Q h => by
    obtain ⟨hp, g, d, tk, os⟩ := s
    have f := sub_str_bytes
    wp_walk
    exact ⟨_, rfl, h⟩
theorem str_eq_bytes (a : Str) (t : Tok) (b : Array UInt8) (u : Tok) : Gives (Builtin.«str.__eq__» ⟨[.str a t, .bytes b u], []⟩) (.val (Value.notImplemented)) :=
  .of_wp fun M A E s Q h => by
    obtain ⟨hp, g, d, tk, os⟩ := s
    have f := sub_bytes_str
    wp_walk
    exact ⟨_, rfl, h⟩
end
section
open PySem.SeqAt
variable {A : Around} {s : Shared}
theorem slot_bytes_eq2 : Slot "bytes" (cmpInfo .Eq).2.2 "bytes.__eq__" := FB.slot_bytes_eq
theorem rc_bytes_int (a : Array UInt8) (t : Tok) (b : Int) (u : Tok) : RcAt A s (.bytes a t) (.int b u) false := fun prog w E Q h =>
  rc_eq_decline_or (k := false) (typeIs_bytes s a t) (typeIs_int s b u) (by decide) sub_int_bytes FB.slot_bytes_eq F.slot_int_eq_refl
    (fun z_ hq => call_gives FB.slot_bytes_eq (typeIs_bytes s a t) FB.entry_bytes_eq (FB.args_bytes_eq_2 _ _) (bytes_eq_int a t b u) hq)
    (fun z_ hq => call_gives F.slot_int_eq_refl (typeIs_int s b u) F.entry_int_eq (F.args_int_eq_2 _ _) (int_eq_bytes b u a t) hq)
    (fun z_ hq => wpAny_of_eq (rfl : isSame (.bytes a t) (.int b u) = pure false) hq) (.inl rfl) h
theorem rc_int_bytes (a : Int) (t : Tok) (b : Array UInt8) (u : Tok) : RcAt A s (.int a t) (.bytes b u) false := fun prog w E Q h =>
  rc_eq_decline_or (k := false) (typeIs_int s a t) (typeIs_bytes s b u) (by decide) sub_bytes_int F.slot_int_eq slot_bytes_eq2
    (fun z_ hq => call_gives F.slot_int_eq (typeIs_int s a t) F.entry_int_eq (F.args_int_eq_2 _ _) (int_eq_bytes a t b u) hq)
    (fun z_ hq => call_gives slot_bytes_eq2 (typeIs_bytes s b u) FB.entry_bytes_eq (FB.args_bytes_eq_2 _ _) (bytes_eq_int b u a t) hq)
    (fun z_ hq => wpAny_of_eq (rfl : isSame (.int a t) (.bytes b u) = pure false) hq) (.inl rfl) h
theorem rc_bytes_str (a : Array UInt8) (t : Tok) (b : Str) (u : Tok) : RcAt A s (.bytes a t) (.str b u) false := fun prog w E Q h =>
  rc_eq_decline_or (k := false) (typeIs_bytes s a t) (typeIs_str s b u) (by decide) sub_str_bytes FB.slot_bytes_eq F.slot_str_eq_refl
    (fun z_ hq => call_gives FB.slot_bytes_eq (typeIs_bytes s a t) FB.entry_bytes_eq (FB.args_bytes_eq_2 _ _) (bytes_eq_str a t b u) hq)
    (fun z_ hq => call_gives F.slot_str_eq_refl (typeIs_str s b u) F.entry_str_eq (F.args_str_eq_2 _ _) (str_eq_bytes b u a t) hq)
    (fun z_ hq => wpAny_of_eq (rfl : isSame (.bytes a t) (.str b u) = pure false) hq) (.inl rfl) h
theorem rc_str_bytes (a : Str) (t : Tok) (b : Array UInt8) (u : Tok) : RcAt A s (.str a t) (.bytes b u) false := fun prog w E Q h =>
  rc_eq_decline_or (k := false) (typeIs_str s a t) (typeIs_bytes s b u) (by decide) sub_bytes_str F.slot_str_eq slot_bytes_eq2
    (fun z_ hq => call_gives F.slot_str_eq (typeIs_str s a t) F.entry_str_eq (F.args_str_eq_2 _ _) (str_eq_bytes a t b u) hq)
    (fun z_ hq => call_gives slot_bytes_eq2 (typeIs_bytes s b u) FB.entry_bytes_eq (FB.args_bytes_eq_2 _ _) (bytes_eq_str b u a t) hq)
    (fun z_ hq => wpAny_of_eq (rfl : isSame (.str a t) (.bytes b u) = pure false) hq) (.inl rfl) h
theorem eq_bytes_int (a : Array UInt8) (t : Tok) (b : Int) (u : Tok) : EqAt A s (.bytes a t) (.int b u) false := fun prog w E Q h => by
  unfold eqBool
  refine wpAny_holding ?_
  refine wpAny_ite_split (fun hab => absurd (eq_of_beq hab) nofun) (fun z_ => ?_)
  exact wpAny_bind (rc_bytes_int a t b u prog w E _ (wpAny_truthy_bool h))
theorem eq_int_bytes (a : Int) (t : Tok) (b : Array UInt8) (u : Tok) : EqAt A s (.int a t) (.bytes b u) false := fun prog w E Q h => by
  unfold eqBool
  refine wpAny_holding ?_
  refine wpAny_ite_split (fun hab => absurd (eq_of_beq hab) nofun) (fun z_ => ?_)
  exact wpAny_bind (rc_int_bytes a t b u prog w E _ (wpAny_truthy_bool h))
theorem eq_bytes_str (a : Array UInt8) (t : Tok) (b : Str) (u : Tok) : EqAt A s (.bytes a t) (.str b u) false := fun prog w E Q h => by
  unfold eqBool
  refine wpAny_holding ?_
  refine wpAny_ite_split (fun hab => absurd (eq_of_beq hab) nofun) (fun z_ => ?_)
  exact wpAny_bind (rc_bytes_str a t b u prog w E _ (wpAny_truthy_bool h))
theorem eq_str_bytes (a : Str) (t : Tok) (b : Array UInt8) (u : Tok) : EqAt A s (.str a t) (.bytes b u) false := fun prog w E Q h => by
  unfold eqBool
  refine wpAny_holding ?_
  refine wpAny_ite_split (fun hab => absurd (eq_of_beq hab) nofun) (fun z_ => ?_)
  exact wpAny_bind (rc_str_bytes a t b u prog w E _ (wpAny_truthy_bool h))
theorem eqAt_bytes (a b : Array UInt8) (t u : Tok) : EqAt A s (.bytes a t) (.bytes b u) (decide (a.toList = b.toList)) := fun prog w E Q h => eqBool_bytes h
end
noncomputable def isK (k : K0) (v : Value) : Bool := match k with
  | .s x => Value.isStrOf x v
  | .i n => Value.isInt n v
  | .b l => isBytes l v
noncomputable def hashK (prog : Program) (w : World) : K0 -> Int
  | .s x => hashStr w x
  | .i n => hashInt n
  | .b l => (bytesKind prog w).hash l
theorem isK_by {k : K0} {v : Value} {M : K0 -> Value -> Prop} (h : isK k v = true) (s : ∀ x t, M (.s x) (.str x t)) (i : ∀ n t, M (.i n) (.int n t)) (b : ∀ l t, M (.b l) (.bytes l.toArray t)) : M k v := by
  induction k using DK.K0.casesOn with
  | s x => exact (Value.isStrOf_shape h).elim fun t e => e ▸ s x t
  | i n => exact (Value.isInt_shape h).elim fun t e => e ▸ i n t
  | b l => exact (isBytes_shape h).elim fun t e => e ▸ b l t
theorem isK_cases {k : K0} {v : Value} (h : isK k v = true) : ∃ t, (∃ x, k = .s x ∧ v = .str x t) ∨ (∃ n, k = .i n ∧ v = .int n t) ∨ (∃ l, k = .b l ∧ v = .bytes l.toArray t) :=
  isK_by (M := fun k v => ∃ t, (∃ x, k = .s x ∧ v = .str x t) ∨ (∃ n, k = .i n ∧ v = .int n t) ∨ (∃ l, k = .b l ∧ v = .bytes l.toArray t)) h (fun x t => ⟨t, .inl ⟨x, rfl, rfl⟩⟩) (fun n t => ⟨t, .inr (.inl ⟨n, rfl, rfl⟩)⟩) (fun l t => ⟨t, .inr (.inr ⟨l, rfl, rfl⟩)⟩)
theorem bytes_arr (l : List UInt8) : l.toArray.toList = l := by simp
noncomputable def keyIn : Value -> Option K0
  | .str x _ => some (.s x)
  | .int n _ => some (.i n)
  | .bytes b _ => some (.b b.toList)
  | _ => none
theorem keyIn_of {k : K0} {v : Value} (h : isK k v = true) : keyIn v = some k := isK_by (M := fun k v => keyIn v = some k) h (fun z_ z_ => rfl) (fun z_ z_ => rfl) (fun z_ z_ => rfl)
open PySem.SeqAt in
noncomputable def mixK (prog : Program) (w : World) : KeyKind prog w K0 where
  is := isK
  hash := hashK prog w
  inj := fun v a b ha hb => Option.some.inj ((keyIn_of ha).symm.trans (keyIn_of hb))
  byValue := fun k v h => isK_by (M := fun z_ v => carriedByValue v = true) h (fun z_ z_ => rfl) (fun z_ z_ => rfl) (fun z_ z_ => rfl)
  pyHash := fun {A E s k v Q} hv h => by
    induction k using DK.K0.casesOn with
    | s x => exact (strKind prog w).pyHash hv h
    | i n => exact (intKind prog w).pyHash hv h
    | b l => exact (bytesKind prog w).pyHash hv h
  eqBool := fun {A E s a b u v Q} hu hv h => by
    revert h
    refine isK_by (M := fun a u => Q (decide (a = b)) s -> wpAny (model prog w) A (eqBool u v) Q E s) hu (fun x t => ?_) (fun n t => ?_) (fun l t => ?_) <;>
    refine isK_by (M := fun b v => Q (decide (_ = b)) s -> wpAny (model prog w) A (eqBool _ v) Q E s) hv (fun y t' h => ?_) (fun m t' h => ?_) (fun k t' h => ?_)
    · exact wpAny_eqBool_str (by simpa using h)
    · exact EqAt.str_int _ _ _ _ prog w E Q (by simpa using h)
    · exact eq_str_bytes _ _ _ _ prog w E Q (by simpa using h)
    · exact EqAt.int_str _ _ _ _ prog w E Q (by simpa using h)
    · exact wpAny_eqBool_int (by rw [show (n == m) = decide (K0.i n = K0.i m) by rw [Bool.eq_iff_iff]; simp]; exact h)
    · exact eq_int_bytes _ _ _ _ prog w E Q (by simpa using h)
    · exact eq_bytes_str _ _ _ _ prog w E Q (by simpa using h)
    · exact eq_bytes_int _ _ _ _ prog w E Q (by simpa using h)
    · exact eqBool_bytes (by simpa using h)
  «strs» := fun k x t v h => by
    induction k using DK.K0.casesOn with
    | s y => exact (strKind prog w).strs y x t v h
    | i n => cases h
    | b l => cases h
end DK
namespace DK
open PySem PySem.W PySem.Calls PyProof.Rows
noncomputable abbrev listObj (vs : Array Value) (n : Nat := 0) : Obj := { cls := .type "list", data := .seq vs n }
noncomputable abbrev tupObj (vs : Array Value) (n : Nat := 0) : Obj := { cls := .type "tuple", data := .seq vs n }
noncomputable abbrev dctObj (es : Array DictEntry) (n : Nat := 0) : Obj := { cls := .type "dict", data := .dict es n }
section
variable (prog : Program) (w : World)
inductive EsP (g : Gh) : List (AV × AV) -> List (K0 × Value) -> Prop
  | nil : EsP g [] []
  | cons {a v : AV} {k : K0} {u : Value} {es : List (AV × AV)} {kvs : List (K0 × Value)} : k0 a = some k -> VR prog w g v u -> EsP g es kvs -> EsP g ((a, v) :: es) ((k, u) :: kvs)
noncomputable def DObj (des : Array DictEntry) (kvs : List (K0 × Value)) : Prop := KeysOf (mixK prog w) des ∧ Pairs (mixK prog w) des.toList kvs ∧ (kvs.map (·.1)).Nodup
inductive EsT (g : Gh) : List (AV × AV) -> List (List K0 × Addr × Value) -> Prop
  | nil : EsT g [] []
  | cons {l : List AV} {v : AV} {ks : List K0} {a : Addr} {vs : Array Value} {n : Nat} {u : Value} {es : List (AV × AV)} {xs : List (List K0 × Addr × Value)} :
      k0s l = some ks -> g.ρ a = .fro (tupObj vs n) -> ItemsAre (mixK prog w) ks vs.toList -> VR prog w g v u -> EsT g es xs -> EsT g ((.tup l, v) :: es) ((ks, a, u) :: xs)
inductive AOR (g : Gh) (h : Heap) : AO -> Nat -> Addr -> Prop
  | list {l : List AV} {k : Nat} {a : Addr} {vs : Array Value} {n : Nat} : h.get? a = some (listObj vs n) -> VRs prog w g l vs.toList -> AOR g h (.list l) k a
  | dictP {es : List (AV × AV)} {k : Nat} {a : Addr} {des : Array DictEntry} {ep : Nat} {kvs : List (K0 × Value)} : h.get? a = some (dctObj des ep) -> DObj prog w des kvs -> EsP prog w g es kvs -> AOR g h (.dict es) k a
  | dictT {es : List (AV × AV)} {k : Nat} {a : Addr} {des : Array DictEntry} {ep : Nat} {xs : List (List K0 × Addr × Value)} : h.get? a = some (dctObj des ep) ->
      des.toList = xs.map (entryOfKey (tupleKind (mixK prog w))) -> EsT prog w g es xs -> (xs.map (·.1)).Nodup -> AOR g h (.dict es) k a
  | inst {C : Nat} {fs : List (Str × AV)} {k : Nat} {a d : Addr} {des : Array DictEntry} {ep : Nat} : h.get? a = some (instObj C d) -> g.ρ d = .ownD k -> h.get? d = some (dctObj des ep) -> FsR prog w g fs des.toList -> AOR g h (.inst C fs) k a
noncomputable def AORi (g : Gh) (h : Heap) (o : AO) (k : Nat) (a : Addr) : Prop := match o with
  | .list l => ∃ vs n, h.get? a = some (listObj vs n) ∧ VRs prog w g l vs.toList
  | .dict es => (∃ des ep kvs, h.get? a = some (dctObj des ep) ∧ DObj prog w des kvs ∧ EsP prog w g es kvs) ∨ ∃ des ep xs, h.get? a = some (dctObj des ep) ∧ des.toList = xs.map (entryOfKey (tupleKind (mixK prog w))) ∧ EsT prog w g es xs ∧ (xs.map (·.1)).Nodup
  | .inst C fs => ∃ d des ep, h.get? a = some (instObj C d) ∧ g.ρ d = .ownD k ∧ h.get? d = some (dctObj des ep) ∧ FsR prog w g fs des.toList
theorem AOR.inv {g : Gh} {h : Heap} {o : AO} {k : Nat} {a : Addr} (x : AOR prog w g h o k a) : AORi prog w g h o k a :=
  AOR.casesOn (motive := fun o k a z_ => AORi prog w g h o k a) x (fun e r => ⟨_, _, e, r⟩) (fun e x r => .inl ⟨_, _, _, e, x, r⟩) (fun e x r n => .inr ⟨_, _, _, e, x, r, n⟩) (fun e d f r => ⟨_, _, _, e, d, f, r⟩)
structure Rep (G : Heap) (tabs : List (Addr × Addr × Str)) (g : Gh) (P : Hp) (h : Heap) : Prop where
  fro : ∀ a o, g.ρ a = .fro o -> h.get? a = some o
  base : ∀ a o, G.get? a = some o -> g.ρ a = .fro o
  len : g.σ.length = P.length
  own : ∀ (k : Nat) o, P[k]? = some o -> ∃ a, g.σ[k]? = some a ∧ g.ρ a = .own k ∧ AOR prog w g h o k a
  frm : ∀ a, g.ρ a = .frm -> ∃ m, h.Ns a m
  cel : ∀ a, g.ρ a = .cel -> ∃ v, h.IsCell a v
  tab : ∀ c T q, (c, T, q) ∈ tabs -> g.ρ T = .tab ∧ ∃ ps, h.get? T = some (tabObj ps) ∧ TriplesOk ps.toList ∧
    ∀ pos cv, codeAmong pos ps.toList = some cv -> ∃ c' oc vs t, cv = .ref c' ∧ g.ρ c' = .fro oc ∧ oc.data = .fields vs ∧ vs[1]? = some (.str q t)
  low : ∀ a, g.ρ a ≠ .any -> a < h.objs.size
end
noncomputable def DGrow (h h' : Heap) (a : Addr) : Prop := ∀ es ep, h.get? a = some (dctObj es ep) -> ∃ es' ep', h'.get? a = some (dctObj es' ep') ∧ es.size ≤ es'.size ∧ (es'.size = es.size -> ep' = ep)
theorem DGrow.of_keep {h h' : Heap} {a : Addr} (k : ∀ o, h.get? a = some o -> h'.get? a = some o) : DGrow h h' a := fun es ep e => ⟨es, ep, k _ e, Nat.le_refl _, fun z_ => rfl⟩
theorem DGrow.trans {h₁ h₂ h₃ : Heap} {a : Addr} (x : DGrow h₁ h₂ a) (y : DGrow h₂ h₃ a) : DGrow h₁ h₃ a := fun es ep e => by
  obtain ⟨es₁, ep₁, e₁, l₁, q₁⟩ := x es ep e
  obtain ⟨es₂, ep₂, e₂, l₂, q₂⟩ := y es₁ ep₁ e₁
  have q (z : es₂.size = es.size) : es₁.size = es.size := Nat.le_antisymm (z ▸ l₂) l₁
  exact ⟨es₂, ep₂, e₂, Nat.le_trans l₁ l₂, fun z => (q₂ (z.trans (q z).symm)).trans (q₁ (q z))⟩
structure Ext (b : Nat) (g : Gh) (s : Shared) (g' : Gh) (s' : Shared) : Prop where
  same : s'.gens = s.gens ∧ s'.drawn = s.drawn ∧ s'.os = s.os
  size : s.heap.objs.size ≤ s'.heap.objs.size
  le : g.Le g'
  keep : ∀ a o, g.ρ a = .keep -> s.heap.get? a = some o -> s'.heap.get? a = some o
  frm : ∀ a o, a < b -> g.ρ a = .frm -> s.heap.get? a = some o -> ∃ sl, s'.heap.get? a = some { o with slots := sl }
  cel : ∀ a o, a < b -> g.ρ a = .cel -> s.heap.get? a = some o -> s'.heap.get? a = some o
  dct : ∀ a k, g.ρ a = .own k -> DGrow s.heap s'.heap a
theorem Ext.refl (b : Nat) (g : Gh) (s : Shared) : Ext b g s g s := ⟨⟨rfl, rfl, rfl⟩, Nat.le_refl _, .refl g, fun z_ z_ z_ e => e, fun z_ o z_ z_ e => ⟨o.slots, e⟩, fun z_ z_ z_ z_ e => e, fun z_ z_ z_ => .of_keep fun z_ e => e⟩
theorem Ext.trans {b : Nat} {g₁ g₂ g₃ : Gh} {s₁ s₂ s₃ : Shared} (x : Ext b g₁ s₁ g₂ s₂) (y : Ext b g₂ s₂ g₃ s₃) : Ext b g₁ s₁ g₃ s₃ :=
  ⟨⟨y.same.1.trans x.same.1, y.same.2.1.trans x.same.2.1, y.same.2.2.trans x.same.2.2⟩, Nat.le_trans x.size y.size, x.le.trans y.le,
    fun a o r e => y.keep a o (x.le.at r) (x.keep a o r e),
    fun a o hb r e => let ⟨_, e₁⟩ := x.frm a o hb r e; let ⟨sl, e₂⟩ := y.frm a _ hb (x.le.at r) e₁; ⟨sl, e₂⟩,
    fun a o hb r e => y.cel a o hb (x.le.at r) (x.cel a o hb r e), fun a k r => (x.dct a k r).trans (y.dct a k (x.le.at r))⟩
theorem Ext.down {b b' : Nat} {g g' : Gh} {s s' : Shared} (x : Ext b g s g' s') (h : b' ≤ b) : Ext b' g s g' s' :=
  ⟨x.same, x.size, x.le, x.keep, fun a o hb => x.frm a o (Nat.lt_of_lt_of_le hb h), fun a o hb => x.cel a o (Nat.lt_of_lt_of_le hb h), x.dct⟩
theorem Ext.of_keeps {b : Nat} {g g' : Gh} {s : Shared} {h' : Heap} {tk : Nat} (L : g.Le g') (hs : s.heap.objs.size ≤ h'.objs.size) (k : ∀ a o, g.ρ a ≠ .any -> s.heap.get? a = some o -> h'.get? a = some o) :
    Ext b g s g' { s with heap := h', toks := tk } :=
  ⟨⟨rfl, rfl, rfl⟩, hs, L, fun a o r e => k a o (rn r) e,
    fun a o z_ r e => ⟨o.slots, k a o (rn r) e⟩, fun a o z_ r e => k a o (rn r) e, fun a i r => .of_keep fun o e => k a o (rn r) e⟩
theorem Ext.of_own {b : Nat} {g : Gh} {s : Shared} {h' : Heap} {tk : Nat} {x : Addr} {i : Nat} (hx : g.ρ x = .own i ∨ g.ρ x = .ownD i) (hs : Heap.SameBut x s.heap h') (d : g.ρ x = .own i -> DGrow s.heap h' x) :
    Ext b g s g { s with heap := h', toks := tk } := by
  have k : ∀ a o, a ≠ x -> s.heap.get? a = some o -> h'.get? a = some o := fun a o q e => (hs.2 a q).trans e
  have n : ∀ {a : Addr} {r : Role}, g.ρ a = r -> Nat.beq r.tg 2 = false -> Nat.beq r.tg 3 = false -> a ≠ x := fun e h1 h2 q => hx.elim (fun z => rn (z := .own i) e h1 (q ▸ z)) fun z => rn (z := .ownD i) e h2 (q ▸ z)
  refine ⟨⟨rfl, rfl, rfl⟩, Nat.le_of_eq hs.1.symm, .refl g, fun a o r e => k a o (n r rfl rfl) e, fun a o z_ r e => ⟨o.slots, k a o (n r rfl rfl) e⟩, fun a o z_ r e => k a o (n r rfl rfl) e, fun a j r => ?_⟩
  exact (Classical.em (a = x)).elim (fun q => q ▸ hx.elim d fun z => rx (z.symm.trans (q ▸ r))) fun q => .of_keep fun o e => k a o q e
section
variable {prog : Program} {w : World} {g g' : Gh} {h h' : Heap} {P : Hp} {G : Heap} {tabs : List (Addr × Addr × Str)}
theorem EsP.wk (L : g.Wk g') {es des} (r : EsP prog w g es des) : EsP prog w g' es des := by
  induction r with
  | nil => exact .nil
  | cons a c _ ih => exact .cons a (c.wk L) ih
theorem EsT.wk (L : g.Wk g') {es des} (r : EsT prog w g es des) : EsT prog w g' es des := by
  induction r with
  | nil => exact .nil
  | cons a b c d _ ih => exact .cons a (L.at b) c (d.wk L) ih
theorem AOR.wk (L : g.Wk g') {o : AO} {k : Nat} {a : Addr} (x : AOR prog w g h o k a) (ka : ∀ o, h.get? a = some o -> h'.get? a = some o) (kd : ∀ d o, g.ρ d = .ownD k -> h.get? d = some o -> h'.get? d = some o) : AOR prog w g' h' o k a :=
  AOR.casesOn (motive := fun o k a z_ => (∀ o, h.get? a = some o -> h'.get? a = some o) -> (∀ d o, g.ρ d = .ownD k -> h.get? d = some o -> h'.get? d = some o) -> AOR prog w g' h' o k a) x
    (fun e r ka z_ => .list (ka _ e) (r.wk L)) (fun e x r ka z_ => .dictP (ka _ e) x (r.wk L)) (fun e x r n ka z_ => .dictT (ka _ e) x (r.wk L) n) (fun e d f r ka kd => .inst (ka _ e) (L.at d) (kd _ _ d f) (r.wk L)) ka kd
theorem EsP.mono (L : g.Le g') {es des} (r : EsP prog w g es des) : EsP prog w g' es des := r.wk L.wk
theorem EsT.mono (L : g.Le g') {es des} (r : EsT prog w g es des) : EsT prog w g' es des := r.wk L.wk
theorem AOR.mono (L : g.Le g') {o : AO} {k : Nat} {a : Addr} (x : AOR prog w g h o k a) (ka : ∀ o, h.get? a = some o -> h'.get? a = some o) (kd : ∀ d o, g.ρ d = .ownD k -> h.get? d = some o -> h'.get? d = some o) : AOR prog w g' h' o k a := x.wk L.wk ka kd
theorem tab_le (L : g.Le g') {T : Addr} {q : Str} (x : ∃ ps, h.get? T = some (tabObj ps) ∧ TriplesOk ps.toList ∧
    ∀ pos cv, codeAmong pos ps.toList = some cv -> ∃ c' oc vs t, cv = .ref c' ∧ g.ρ c' = .fro oc ∧ oc.data = .fields vs ∧ vs[1]? = some (.str q t)) : ∃ ps, h.get? T = some (tabObj ps) ∧ TriplesOk ps.toList ∧
    ∀ pos cv, codeAmong pos ps.toList = some cv -> ∃ c' oc vs t, cv = .ref c' ∧ g'.ρ c' = .fro oc ∧ oc.data = .fields vs ∧ vs[1]? = some (.str q t) :=
  x.imp fun z_ x => x.imp_right fun x => x.imp_right fun x pos cv e => (x pos cv e).imp fun z_ x => x.imp fun z_ x => x.imp fun z_ x => x.imp fun z_ x => x.imp_right fun x => x.imp_left L.at
theorem Rep.quiet (R : Rep prog w G tabs g P h) (hs : h.objs.size ≤ h'.objs.size) (k : ∀ a o, g.ρ a ≠ .any -> g.ρ a ≠ .frm -> g.ρ a ≠ .cel -> g.ρ a ≠ .keep -> h.get? a = some o -> h'.get? a = some o)
    (kf : ∀ a, g.ρ a = .frm -> ∃ m, h'.Ns a m) (kc : ∀ a, g.ρ a = .cel -> ∃ v, h'.IsCell a v) : Rep prog w G tabs g P h' where
  fro a o r := k a o (rn r) (rn r) (rn r) (rn r) (R.fro a o r)
  base := R.base
  len := R.len
  own i o e := u13 (R.own i o e) fun a h1 h2 h3 => ⟨a, h1, h2, h3.mono (.refl g) (fun o e => k a o (rn h2) (rn h2) (rn h2) (rn h2) e) fun d o r e => k d o (rn r) (rn r) (rn r) (rn r) e⟩
  frm := kf
  cel := kc
  tab c T q m := (R.tab c T q m).elim fun h1 x => ⟨h1, x.imp fun z_ x => x.imp_left fun h2 => k T _ (rn h1) (rn h1) (rn h1) (rn h1) h2⟩
  low a r := Nat.lt_of_lt_of_le (R.low a r) hs
theorem Rep.keeps (R : Rep prog w G tabs g P h) (hs : h.objs.size ≤ h'.objs.size) (k : ∀ a o, h.get? a = some o -> h'.get? a = some o) : Rep prog w G tabs g P h' :=
  R.quiet hs (fun a o z_ z_ z_ z_ => k a o) (fun a r => let ⟨m, n⟩ := R.frm a r; ⟨m, n.keeps k⟩) fun a r => let ⟨m, n⟩ := R.cel a r; ⟨m, n.keeps k⟩
theorem Rep.push (R : Rep prog w G tabs g P h) (o : Obj) : Rep prog w G tabs g P (h.push o) := R.keeps (by rw [Heap.size_push]; omega) fun z_ z_ e => Heap.get?_push_of_some _ e
theorem Rep.inG (R : Rep prog w G tabs g P h) : ∀ a o, G.get? a = some o -> h.get? a = some o := fun a o e => R.fro a o (R.base a o e)
theorem Rep.fresh (R : Rep prog w G tabs g P h) {a : Addr} (ha : h.objs.size ≤ a) : g.ρ a = .any := Classical.byContradiction fun e => Nat.lt_irrefl _ (Nat.lt_of_lt_of_le (R.low a e) ha)
noncomputable def Gh.set (g : Gh) (a : Addr) (r : Role) : Gh := { g with ρ := fun x => if x = a then r else g.ρ x }
theorem Gh.set_self (g : Gh) (a : Addr) (r : Role) : (g.set a r).ρ a = r := if_pos rfl
theorem Gh.set_ne (g : Gh) {a b : Addr} (r : Role) (h : b ≠ a) : (g.set a r).ρ b = g.ρ b := if_neg h
theorem Gh.le_set {g : Gh} {a : Addr} (r : Role) (h : g.ρ a = .any) : g.Le (g.set a r) := ⟨fun b e => Gh.set_ne _ _ (fun q => e (q ▸ h)), fun z_ z_ e => e⟩
theorem Gh.set_by {g : Gh} {a b : Addr} {r q : Role} {M : Prop} (e : (g.set a r).ρ b = q) (h1 : b = a -> q = r -> M) (h2 : b ≠ a -> g.ρ b = q -> M) : M :=
  (Classical.em (b = a)).elim (fun h => h1 h (e.symm.trans (if_pos h))) fun h => h2 h ((if_neg h).symm.trans e)
theorem Gh.set_at {g : Gh} {a b : Addr} {r q : Role} (e : (g.set a r).ρ b = q) : (b = a ∧ q = r) ∨ (b ≠ a ∧ g.ρ b = q) := Gh.set_by e (fun x y => .inl ⟨x, y⟩) fun x y => .inr ⟨x, y⟩
theorem Rep.role (R : Rep prog w G tabs g P h) {a : Addr} {r : Role} (ha : g.ρ a = .any) (hl : a < h.objs.size) (h1 : ∀ o, r = .fro o -> h.get? a = some o) (h2 : r = .frm -> ∃ m, h.Ns a m) (h3 : r = .cel -> ∃ v, h.IsCell a v) :
    Rep prog w G tabs (g.set a r) P h where
  fro b o e := Gh.set_by e (fun q z => q ▸ h1 o z.symm) fun z_ => R.fro b o
  base b o e := (Gh.le_set r ha).at (R.base b o e)
  len := R.len
  own i o e := u13 (R.own i o e) fun b q1 q2 q3 => ⟨b, q1, (Gh.le_set r ha).at q2, q3.mono (Gh.le_set r ha) (fun z_ e => e) fun z_ z_ z_ e => e⟩
  frm b e := Gh.set_by e (fun q z => q ▸ h2 z.symm) fun z_ => R.frm b
  cel b e := Gh.set_by e (fun q z => q ▸ h3 z.symm) fun z_ => R.cel b
  tab c T q m := (R.tab c T q m).imp (Gh.le_set r ha).at fun x => tab_le (Gh.le_set r ha) x
  low b e := (Classical.em (b = a)).elim (fun q => q ▸ hl) fun q => R.low b fun z => e ((Gh.set_ne g r q).trans z)
theorem Rep.setObj (R : Rep prog w G tabs g P h) {k : Nat} {a x : Addr} {o' : AO} (hk : g.σ[k]? = some a) (hx : g.ρ x = .own k ∨ g.ρ x = .ownD k) (hs : Heap.SameBut x h h') (n : AOR prog w g h' o' k a) (hP : k < P.length) :
    Rep prog w G tabs g (P.set k o') h' := by
  have other : ∀ b, g.ρ b ≠ .own k -> g.ρ b ≠ .ownD k -> b ≠ x := fun b h1 h2 q => hx.elim (fun e => h1 (q ▸ e)) fun e => h2 (q ▸ e)
  have kp : ∀ b o, g.ρ b ≠ .own k -> g.ρ b ≠ .ownD k -> h.get? b = some o -> h'.get? b = some o := fun b o h1 h2 e => (hs.2 b (other b h1 h2)).trans e
  refine ⟨fun b o r => kp b o (rn r) (rn r) (R.fro b o r), R.base, by rw [List.length_set]; exact R.len, fun i o e => ?_, fun b r => ?_, fun b r => ?_, fun c T q m => ?_, fun b r => ?_⟩
  · by_cases hi : i = k
    · subst hi
      have ha : g.ρ a = .own i := u13 (R.own i P[i] (List.getElem?_eq_getElem hP)) fun b q1 q2 z_ => (si (hk.symm.trans q1)) ▸ q2
      exact ⟨a, hk, ha, si ((List.getElem?_set_self hP).symm.trans e) ▸ n⟩
    · rw [List.getElem?_set_ne (Ne.symm hi)] at e
      exact u13 (R.own i o e) fun b q1 q2 q3 => ⟨b, q1, q2, q3.mono (.refl g) (fun o e => kp b o (fun q => hi (Role.own.inj (q2.symm.trans q))) (rn q2) e) fun d o r e => kp d o (rn r) (fun q => hi (Role.ownD.inj (r.symm.trans q))) e⟩
  · exact (R.frm b r).imp fun m n => n.sameBut hs (other b (rn r) (rn r))
  · exact (R.cel b r).imp fun m n => n.sameBut hs (other b (rn r) (rn r))
  · exact (R.tab c T q m).elim fun h1 x => ⟨h1, x.imp fun z_ x => x.imp_left fun h2 => kp T _ (rn h1) (rn h1) h2⟩
  · rw [hs.1]; exact R.low b r
noncomputable def Gh.add (g : Gh) (a : Addr) : Gh := ⟨fun x => if x = a then .own g.σ.length else g.ρ x, g.σ ++ [a]⟩
noncomputable def Gh.addD (g : Gh) (a d : Addr) : Gh := (g.set d (.ownD g.σ.length)).add a
theorem Gh.le_add {g : Gh} {a : Addr} (h : g.ρ a = .any) : g.Le (g.add a) :=
  ⟨fun b e => by show (if b = a then _ else _) = _; rw [if_neg (fun q => e (by rw [q]; exact h))], fun k b e => by
    have : k < g.σ.length := (List.getElem?_eq_some_iff.mp e).1
    show (g.σ ++ [a])[k]? = _
    rw [List.getElem?_append_left this]; exact e⟩
theorem Gh.le_addD {g : Gh} {a d : Addr} (h : g.ρ a = .any) (hd : g.ρ d = .any) (hne : a ≠ d) : g.Le (g.addD a d) :=
  (Gh.le_set _ hd).trans (Gh.le_add (by rw [Gh.set_ne _ _ hne]; exact h))
theorem Gh.add_by {g : Gh} {a b : Addr} {q : Role} {M : Prop} (e : (g.add a).ρ b = q) (h1 : b = a -> q = .own g.σ.length -> M) (h2 : b ≠ a -> g.ρ b = q -> M) : M :=
  (Classical.em (b = a)).elim (fun h => h1 h (e.symm.trans (if_pos h))) fun h => h2 h ((if_neg h).symm.trans e)
theorem Gh.add_at {g : Gh} {a b : Addr} {q : Role} (e : (g.add a).ρ b = q) : (b = a ∧ q = .own g.σ.length) ∨ (b ≠ a ∧ g.ρ b = q) := Gh.add_by e (fun x y => .inl ⟨x, y⟩) fun x y => .inr ⟨x, y⟩
theorem Rep.addObj (R : Rep prog w G tabs g P h) {a : Addr} {o : AO} (ha : g.ρ a = .any) (hl : a < h.objs.size) (n : AOR prog w (g.add a) h o g.σ.length a) : Rep prog w G tabs (g.add a) (P ++ [o]) h := by
  have L := Gh.le_add ha
  refine ⟨fun b o e => ?_, fun b o e => L.at (R.base b o e), by show (g.σ ++ [a]).length = _; rw [List.length_append, List.length_append, R.len]; rfl, fun i o' e => ?_, fun b e => ?_, fun b e => ?_, fun c T q m => ?_, fun b e => ?_⟩
  · exact Gh.add_by e (fun z_ q => rx q) fun z_ => R.fro b o
  · by_cases hi : i < P.length
    · rw [List.getElem?_append_left hi] at e
      exact u13 (R.own i o' e) fun b q1 q2 q3 => ⟨b, L.pre i b q1, L.at q2, q3.mono L (fun z_ e => e) fun z_ z_ z_ e => e⟩
    · have hi' : i = P.length := Nat.le_antisymm (Nat.le_of_lt_succ (Nat.lt_of_lt_of_eq (List.getElem?_eq_some_iff.mp e).1 List.length_append)) (Nat.le_of_not_lt hi)
      have hi2 : i = g.σ.length := hi'.trans R.len.symm
      subst hi2
      exact ⟨a, List.getElem?_concat_length, if_pos rfl, (show o = o' from si ((List.getElem?_concat_length).symm.trans (hi' ▸ e))) ▸ n⟩
  · exact Gh.add_by e (fun z_ q => rx q) fun z_ => R.frm b
  · exact Gh.add_by e (fun z_ q => rx q) fun z_ => R.cel b
  · exact (R.tab c T q m).imp L.at fun x => tab_le L x
  · exact (Classical.em (b = a)).elim (fun q => q ▸ hl) fun q => R.low b fun z => e ((if_neg q).trans z)
end
end DK
namespace DK
open PySem PySem.W PySem.Calls PyProof.Rows
theorem slook_ne {α : Type} {x y : Str} {v : α} {r : List (Str × α)} (h : x ≠ y) : slook x ((y, v) :: r) = slook x r := if_neg h
theorem slook_self {α : Type} {x y : Str} {v : α} {r : List (Str × α)} (h : x = y) : slook x ((y, v) :: r) = some v := if_pos h
theorem slook_eq {α : Type} (x : Str) (l : List (Str × α)) : slook x l = l.lookup x := by
  induction l with
  | nil => rfl
  | cons p r ih =>
    refine Eq.trans ?_ (List.lookup_cons).symm
    by_cases h : x = p.1
    · rw [beq_iff_eq.mpr h]; exact if_pos h
    · rw [beq_eq_false_iff_ne.mpr h]; exact (if_neg h).trans ih
theorem sput_at {α : Type} {x z : Str} {v u : α} {r : List (Str × α)} (h : x = z) : sput x v ((z, u) :: r) = (z, v) :: r := if_pos h
theorem sput_ne {α : Type} {x z : Str} {v u : α} {r : List (Str × α)} (h : x ≠ z) : sput x v ((z, u) :: r) = (z, u) :: sput x v r := if_neg h
theorem slook_sput {α : Type} (x y : Str) (v : α) (l : List (Str × α)) : slook y (sput x v l) = if y = x then some v else slook y l := by
  induction l with
  | nil => rfl
  | cons p r ih =>
    by_cases h : x = p.1
    · rw [sput_at h, ← h]
      exact (Classical.em (y = x)).elim (fun q => (slook_self q).trans (if_pos q).symm) fun q => (slook_ne q).trans ((slook_ne fun z => q (z.trans h.symm)).symm.trans (if_neg q).symm)
    · rw [sput_ne h]
      exact (Classical.em (y = p.1)).elim (fun q => (slook_self q).trans ((slook_self q).symm.trans (if_neg fun z => h (z.symm.trans q)).symm)) fun q => (slook_ne q).trans (ih.trans (by rw [show slook y (p :: r) = slook y r from slook_ne q]))
theorem sput_by {α : Type} {x y : Str} {v v' : α} {l : List (Str × α)} {M : Prop} (e : slook y (sput x v l) = some v') (h1 : y = x -> v = v' -> M) (h2 : y ≠ x -> slook y l = some v' -> M) : M :=
  (Classical.em (y = x)).elim (fun q => h1 q (si ((if_pos q).symm.trans ((slook_sput x y v l).symm.trans e)))) fun q => h2 q ((if_neg q).symm.trans ((slook_sput x y v l).symm.trans e))
noncomputable abbrev noArgs : Arguments := ⟨[], [], none, [], [], none, []⟩
section
variable (prog : Program) (w : World)
inductive CloR (cn : List Str) (cm : Str -> Option Addr) (g : Gh) (b : Expr) (sc : Scope) (u : Value) : Prop
  | mk (a : Addr) (name qual : Str) (pm : Value) (c' : Addr) (ctv : Value) (clos : List (Str × Addr)) (oc : Obj) (vs : Array Value) (t : Tok) (h1 : u = .ref a) (h2 : g.ρ a = .fro (kla_obj name qual noArgs b sc clos pm c' ctv))
    (h3 : ∀ x, slook x sc.names = some .free -> clos.lookup x = cm x) (h4 : lamOk sc cn = true) (h5 : g.ρ c' = .fro oc) (h6 : oc.data = .fields vs) (h7 : vs[1]? = some (.str qual t)) : CloR cn cm g b sc u
inductive ClosR (cn : List Str) (cm : Str -> Option Addr) (g : Gh) : List (Expr × Scope) -> List Value -> Prop
  | nil : ClosR cn cm g [] []
  | cons {b : Expr} {sc : Scope} {u : Value} {l : List (Expr × Scope)} {us : List Value} : CloR cn cm g b sc u -> ClosR cn cm g l us -> ClosR cn cm g ((b, sc) :: l) (u :: us)
inductive LVR (cn : List Str) (cm : Str -> Option Addr) (g : Gh) : LV -> Value -> Prop
  | av {a : AV} {u : Value} : VR prog w g a u -> LVR cn cm g (.av a) u
  | clo {b : Expr} {sc : Scope} {u : Value} : CloR cn cm g b sc u -> LVR cn cm g (.clo b sc) u
  | clos {l : List (Expr × Scope)} {a : Addr} {vs : Array Value} {n : Nat} : g.ρ a = .fro (listObj vs n) -> ClosR cn cm g l vs.toList -> LVR cn cm g (.clos l) (.ref a)
end
structure EnvOk (tabs : List (Addr × Addr × Str)) (fs : Fs) (kd : Kinds) (cm : Str -> Option Addr) (env : Env) : Prop where
  fn : env.scope.kind = .function
  glob : env.globals = mainGlobals
  blt : env.builtins = builtinsNs
  nbad : ∀ x k, slook x kd = some k -> bad.contains x = false
  loc : ∀ x, slook x kd = some .local -> env.kindOf x = some .local ∧ cm x = none
  cel : ∀ x, slook x kd = some .cell -> env.kindOf x = some .cell ∧ ∃ c, cm x = some c ∧ env.cells.lookup x = some c ∧ env.locals < c
  fre : ∀ x, slook x kd = some .free -> (env.kindOf x = some .free ∨ env.kindOf x = some .cell) ∧ ∃ c, cm x = some c ∧ env.cells.lookup x = some c
  gi : ∀ x, slook x kd = some .globalImplicit -> env.kindOf x = some .globalImplicit
  cn : ∀ x c, cm x = some c -> fs.cn.contains x = true
  dom : ∀ x, fs.cn.contains x = true -> ∃ c, cm x = some c
  inj : ∀ x y c, cm x = some c -> cm y = some c -> x = y
  lam : fs.lam = true -> ∃ c T, env.code = .ref c ∧ (c, T, env.qual ++ "<lambda>") ∈ tabs
structure Frm (prog : Program) (w : World) (fs : Fs) (kd : Kinds) (cm : Str -> Option Addr) (env : Env) (l : Loc) (g : Gh) (h : Heap) : Prop where
  frm : g.ρ env.locals = .frm
  cells : ∀ x c, cm x = some c -> g.ρ c = .cel
  loc : ∃ m, h.Ns env.locals m ∧ ∀ x v, slook x kd = some .local -> slook x l = some v -> ∃ u, m x = some u ∧ LVR prog w fs.cn cm g v u
  cel : ∀ x v c, slook x l = some v -> cm x = some c -> ∃ u a, h.IsCell c (some u) ∧ v = .av a ∧ VR prog w g a u
noncomputable def CtxOk (g : Gh) (A : Around) : Prop := A.handled = none ∧ ∃ fr, A.frames = some fr ∧ ∀ e ∈ fr, e.scope.kind ≠ .module ∧ ∃ L, e.frame = some L ∧ g.ρ L = .frm
noncomputable def Room (m : Nat) (A : Around) : Prop := A.depth + 10 * m ≤ 900 ∧ A.units + 100 * m ≤ 9000
section
variable {prog : Program} {w : World} {g g' : Gh} {s s' : Shared} {fs : Fs} {kd : Kinds} {cm : Str -> Option Addr} {env : Env} {l : Loc} {A : Around} {P : Hp} {G : Heap} {tabs : List (Addr × Addr × Str)}
theorem CloR.mono {cn : List Str} (L : g.Le g') {b : Expr} {sc : Scope} {u : Value} (x : CloR cn cm g b sc u) : CloR cn cm g' b sc u :=
  x.casesOn fun a name qual pm c' ctv clos oc vs t h1 h2 h3 h4 h5 h6 h7 => ⟨a, name, qual, pm, c', ctv, clos, oc, vs, t, h1, L.at h2, h3, h4, L.at h5, h6, h7⟩
theorem ClosR.mono {cn : List Str} (L : g.Le g') {l us} (r : ClosR cn cm g l us) : ClosR cn cm g' l us := by
  induction r with
  | nil => exact .nil
  | cons a _ ih => exact .cons (a.mono L) ih
theorem LVR.mono {cn : List Str} (L : g.Le g') {v : LV} {u : Value} (x : LVR prog w cn cm g v u) : LVR prog w cn cm g' v u :=
  LVR.casesOn (motive := fun v u z_ => LVR prog w cn cm g' v u) x (fun h => .av (h.mono L)) (fun h => .clo (h.mono L)) fun h r => .clos (L.at h) (r.mono L)
theorem LVR.va {cn : List Str} {a : AV} {u : Value} (x : LVR prog w cn cm g (.av a) u) : VR prog w g a u := by cases x with | av r => exact r
theorem CtxOk.le (L : g.Le g') (x : CtxOk g A) : CtxOk g' A := ⟨x.1, let ⟨fr, h1, h2⟩ := x.2; ⟨fr, h1, fun e he => let ⟨k, F, q, r⟩ := h2 e he; ⟨k, F, q, L.at r⟩⟩⟩
theorem Room.in1 {m : Nat} (x : Room (m + 1) A) : Room m A.in1 := ⟨by have := x.1; show A.depth + _ ≤ _; omega, by have := x.2; show A.units + 1 + _ ≤ _; omega⟩
theorem CtxOk.in1 (x : CtxOk g A) : CtxOk g A.in1 := x
theorem ns_slots {h h' : Heap} {a : Addr} {m : Str -> Option Value} (n : h.Ns a m) (k : ∀ o, h.get? a = some o -> ∃ sl, h'.get? a = some { o with slots := sl }) : h'.Ns a m := by
  exact u33 n fun o es ep ho hd r => (k o ho).elim fun sl q => ⟨_, es, ep, q, hd, r⟩
theorem Frm.ext (F : Frm prog w fs kd cm env l g s.heap) (R : Rep prog w G tabs g P s.heap) (X : Ext s.heap.objs.size g s g' s') : Frm prog w fs kd cm env l g' s'.heap where
  frm := X.le.at F.frm
  cells x c e := X.le.at (F.cells x c e)
  loc := F.loc.imp fun m n => ⟨ns_slots n.1 fun o e => X.frm _ o n.1.lt F.frm e, fun x v h1 h2 => (n.2 x v h1 h2).imp fun u r => ⟨r.1, r.2.mono X.le⟩⟩
  cel x v c h1 h2 := (F.cel x v c h1 h2).imp fun u r => r.imp fun a r => ⟨r.1.elim fun o z => ⟨o, X.cel c o (Heap.lt_size z.1) (F.cells x c h2) z.1, z.2⟩, r.2.1, r.2.2.mono X.le⟩
theorem Frm.toks {h : Heap} (F : Frm prog w fs kd cm env l g h) : Frm prog w fs kd cm env l g h := F
theorem not_bad {x : Str} (h : bad.contains x = false) : (x == ("__debug__" : Str)) = false ∧ (x == ("__classdict__" : Str)) = false := by
  unfold bad at h
  rw [List.contains_cons, List.contains_cons] at h
  exact (Bool.or_eq_false_iff.mp h).imp_right fun h => (Bool.or_eq_false_iff.mp h).1
variable {M : Model} {E : Value -> Shared -> Prop}
theorem loadName_snd {Q : Value -> Shared -> Prop} {x : Str} {k : NameKind} {v : LV} (V : EnvOk tabs fs kd cm env) (F : Frm prog w fs kd cm env l g s.heap) (hk : slook x kd = some k) (hk' : k = .local ∨ k = .cell ∨ k = .free) (hl : slook x l = some v)
    (h : ∀ u, LVR prog w fs.cn cm g v u -> Q u s) : wpAny M A (loadName env x) Q E s := by
  refine hk'.elim (fun e => ?_) fun e => e.elim (fun e => ?_) fun e => ?_
  · rw [e] at hk
    exact u12 F.loc fun m n q => u12 (q x v hk hl) fun u e r => wpAny_loadName_local V.fn (V.loc x hk).1 n e (h u r)
  · rw [e] at hk
    exact (V.cel x hk).elim fun h1 z => u13 z fun c h2 h3 z_ => u23 (F.cel x v c hl h2) fun u a hc e r => wpAny_loadName_cell V.fn h1 h3 hc (h u (e ▸ .av r))
  · rw [e] at hk
    exact (V.fre x hk).elim fun h1 z => u12 z fun c h2 h3 => u23 (F.cel x v c hl h2) fun u a hc e r => h1.elim (fun h1 => wpAny_loadName_free V.fn h1 h3 hc (h u (e ▸ .av r)) (not_bad (V.nbad x _ hk)).2) fun h1 => wpAny_loadName_cell V.fn h1 h3 hc (h u (e ▸ .av r))
theorem Rep.ns (R : Rep prog w G tabs g P s.heap) {a : Addr} {m : Str -> Option Value} {h' : Heap} (hr : g.ρ a = .frm) (n : h'.Ns a m) (hs : Heap.SameBut a s.heap h') : Rep prog w G tabs g P h' := by
  refine R.quiet (Nat.le_of_eq hs.1.symm) (fun b o h1 h2 z_ z_ e => (hs.2 b fun q => h2 (q ▸ hr)).trans e) (fun b e => ?_) fun b e => (R.cel b e).imp fun v c => c.sameBut hs fun q => rx (hr.symm.trans (q ▸ e))
  exact (Classical.em (b = a)).elim (fun q => q ▸ ⟨m, n⟩) fun q => (R.frm b e).imp fun z_ n' => n'.sameBut hs q
theorem Rep.cell (R : Rep prog w G tabs g P s.heap) {a : Addr} {v : Option Value} {h' : Heap} (hr : g.ρ a = .cel) (n : h'.IsCell a v) (hs : Heap.SameBut a s.heap h') : Rep prog w G tabs g P h' := by
  refine R.quiet (Nat.le_of_eq hs.1.symm) (fun b o h1 z_ h3 z_ e => (hs.2 b fun q => h3 (q ▸ hr)).trans e) (fun b e => (R.frm b e).imp fun v c => c.sameBut hs fun q => rx (hr.symm.trans (q ▸ e))) fun b e => ?_
  exact (Classical.em (b = a)).elim (fun q => q ▸ ⟨v, n⟩) fun q => (R.cel b e).imp fun z_ n' => n'.sameBut hs q
theorem Ext.frame {a : Addr} {b : Nat} {h' : Heap} {tk : Nat} (hr : g.ρ a = .frm ∨ g.ρ a = .cel) (hb : b ≤ a) (hs : Heap.SameBut a s.heap h') : Ext b g s g { s with heap := h', toks := tk } := by
  refine ⟨⟨rfl, rfl, rfl⟩, Nat.le_of_eq hs.1.symm, .refl g, fun c o r e => (hs.2 c fun q => ?_).trans e, fun c o hc r e => ⟨o.slots, (hs.2 c fun q => ?_).trans e⟩, fun c o hc r e => (hs.2 c fun q => ?_).trans e,
    fun c i r => .of_keep fun o e => (hs.2 c fun q => ?_).trans e⟩
  · exact hr.elim (fun x => rx (x.symm.trans (q ▸ r))) fun x => rx (x.symm.trans (q ▸ r))
  · exact Nat.not_le_of_lt hc (q ▸ hb)
  · exact Nat.not_le_of_lt hc (q ▸ hb)
  · exact hr.elim (fun x => rx (x.symm.trans (q ▸ r))) fun x => rx (x.symm.trans (q ▸ r))
theorem storeName_snd {Q : Unit -> Shared -> Prop} {x : Str} {k : NameKind} {v : LV} {u : Value} (V : EnvOk tabs fs kd cm env) (F : Frm prog w fs kd cm env l g s.heap) (R : Rep prog w G tabs g P s.heap)
    (hk : slook x kd = some k) (hk' : k = .local ∨ (k = .cell ∧ ∃ a, v = .av a)) (r : LVR prog w fs.cn cm g v u)
    (h : ∀ s', Rep prog w G tabs g P s'.heap -> Ext env.locals g s g s' -> Frm prog w fs kd cm env (sput x v l) g s'.heap -> Q () s') : wpAny M A (storeName env x u) Q E s := by
  refine u12 F.loc fun m n q => hk'.elim (fun e => ?_) fun z => z.elim fun e z => z.elim fun a ev => ?_
  · rw [e] at hk
    have h2 := V.loc x hk
    refine wpAny_storeName_local h2.1 n (fun h' n' hs => h { s with heap := h', toks := s.toks + 1 } (R.ns F.frm n' hs) (Ext.frame (.inl F.frm) (Nat.le_refl _) hs)
      ⟨F.frm, F.cells, ⟨_, n', fun y v' e1 e2 => sput_by e2 (fun hy hv => ⟨u, if_pos hy, hv ▸ r⟩) fun hy e2 => (q y v' e1 e2).imp fun z_ z => z.imp_left (if_neg hy).trans⟩,
        fun y v' c e1 e2 => sput_by e1 (fun hy z_ => absurd ((hy ▸ e2 : cm x = some c)) (h2.2 ▸ nofun)) fun hy e1 => (F.cel y v' c e1 e2).imp fun z_ z => z.imp fun z_ z => z.imp_left fun c1 => c1.sameBut hs fun z => rx (F.frm.symm.trans (z ▸ F.cells y c e2))⟩) (by rw [V.fn]; rfl)
  · rw [e] at hk
    refine (V.cel x hk).elim fun h1 z => u13 z fun c h2 h3 h4 => ?_
    have hc := F.cells x c h2
    refine (R.cel c hc).elim fun v₀ cell => ?_
    refine wpAny_storeName_cell V.fn h1 h3 cell fun h' cell' hs => h { s with heap := h' } (R.cell hc cell' hs) (Ext.frame (.inr hc) (Nat.le_of_lt h4) hs)
      ⟨F.frm, F.cells, ⟨m, n.sameBut hs (Nat.ne_of_lt h4), fun y v' e1 e2 => q y v' e1 (sput_by e2 (fun hy z_ => NameKind.noConfusion (si (hk.symm.trans (hy.symm ▸ e1)))) fun z_ e2 => e2)⟩, fun y v' d e1 e2 => sput_by e1 (fun hy hv => ?_) fun hy e1 => ?_⟩
    · have hd : d = c := si (e2.symm.trans (hy ▸ h2))
      subst hd
      exact ⟨u, a, cell', hv.symm.trans ev, LVR.va (ev ▸ r)⟩
    · exact (F.cel y v' d e1 e2).imp fun z_ z => z.imp fun z_ z => z.imp_left fun c1 => c1.sameBut hs fun z => hy (V.inj y x c (z ▸ e2) h2)
end
end DK
namespace DK
open PySem PySem.W PySem.Calls PyProof.Rows
section
open PySem.SeqAt
variable {prog : Program} {w : World} {g : Gh} {A : Around} {s : Shared}
theorem rc_bytes (a b : Array UInt8) (t u : Tok) : RcAt A s (.bytes a t) (.bytes b u) (decide (a.toList = b.toList)) := fun prog w E Q h =>
  cmp_ofEq (eq_bytes (by rw [show (a.toList == b.toList) = decide (a.toList = b.toList) by rw [Bool.eq_iff_iff]; simp]; exact h))
theorem rcne_bytes (a b : Array UInt8) (t u : Tok) : RcNeAt A s (.bytes a t) (.bytes b u) (!decide (a.toList = b.toList)) := fun prog w E Q h =>
  cmp_ofNotEq (ne_bytes (by rw [show (a.toList != b.toList) = !decide (a.toList = b.toList) by rw [Bool.eq_iff_iff]; simp]; exact h))
theorem beqD {α : Type} [DecidableEq α] (a b : α) : (a == b) = decide (a = b) := by rw [Bool.eq_iff_iff]; simp
inductive KeqV : AV -> AV -> Bool -> Prop
  | ss (a b : Str) : KeqV (.str a) (.str b) (decide (a = b))
  | ii (a b : Int) : KeqV (.int a) (.int b) (decide (a = b))
  | bb (a b : List UInt8) : KeqV (.byt a) (.byt b) (decide (a = b))
  | nn : KeqV .none .none true
  | si (a : Str) (b : Int) : KeqV (.str a) (.int b) false
  | is (a : Int) (b : Str) : KeqV (.int a) (.str b) false
  | ns (a : Str) : KeqV .none (.str a) false
theorem keq_inv {a b : AV} {t : Bool} (h : keq a b = some t) : KeqV a b t := by
  induction a using DK.AV.casesOn with
  | str a => induction b using DK.AV.casesOn with
    | str b => exact si h ▸ .ss a b
    | int b => exact si h ▸ .si a b
    | _ => exact nm h
  | int a => induction b using DK.AV.casesOn with
    | int b => exact si h ▸ .ii a b
    | str b => exact si h ▸ .is a b
    | _ => exact nm h
  | byt a => induction b using DK.AV.casesOn with
    | byt b => exact si h ▸ .bb a b
    | _ => exact nm h
  | none => induction b using DK.AV.casesOn with
    | none => exact si h ▸ .nn
    | str b => exact si h ▸ .ns b
    | _ => exact nm h
  | _ => exact nm h
theorem vr_int {i : Int} {u : Value} (r : VR prog w g (.int i) u) : ∃ t, u = .int i t := r.inv
theorem vr_str {x : Str} {u : Value} (r : VR prog w g (.str x) u) : ∃ t, u = .str x t := r.inv
theorem vr_byt {x : List UInt8} {u : Value} (r : VR prog w g (.byt x) u) : ∃ t, u = .bytes x.toArray t := r.inv
theorem vr_none {u : Value} (r : VR prog w g .none u) : u = .none := r.inv
noncomputable def AllEq (A : Around) (s : Shared) (u v : Value) (t : Bool) : Prop := EqAt A s u v t ∧ RcAt A s u v t ∧ RcNeAt A s u v (!t)
theorem keq_at {a b : AV} {u v : Value} {t : Bool} (ra : VR prog w g a u) (rb : VR prog w g b v) (h : keq a b = some t) : AllEq A s u v t := by
  refine KeqV.casesOn (motive := fun a b t z_ => VRi prog w g a u -> VRi prog w g b v -> AllEq A s u v t) (keq_inv h) (fun a b ⟨_, e⟩ ⟨_, e'⟩ => ?_) (fun a b ⟨_, e⟩ ⟨_, e'⟩ => ?_) (fun a b ⟨_, e⟩ ⟨_, e'⟩ => ?_) (fun e e' => ?_) (fun a b ⟨_, e⟩ ⟨_, e'⟩ => ?_) (fun a b ⟨_, e⟩ ⟨_, e'⟩ => ?_) (fun a e ⟨_, e'⟩ => ?_) ra.inv rb.inv <;> (subst e; subst e')
  · exact beqD a b ▸ ⟨EqAt.str_str _ _ _ _, RcAt.str_str _ _ _ _, RcNeAt.str_str _ _ _ _⟩
  · exact beqD a b ▸ ⟨EqAt.int_int _ _ _ _, RcAt.int_int _ _ _ _, RcNeAt.int_int _ _ _ _⟩
  · exact ⟨eqAt_bytes _ _ _ _, rc_bytes _ _ _ _, rcne_bytes _ _ _ _⟩
  · exact ⟨EqAt.same _, RcAt.none_none, RcNeAt.none_none⟩
  · exact ⟨EqAt.str_int _ _ _ _, RcAt.str_int _ _ _ _, RcNeAt.str_int _ _ _ _⟩
  · exact ⟨EqAt.int_str _ _ _ _, RcAt.int_str _ _ _ _, RcNeAt.int_str _ _ _ _⟩
  · exact ⟨EqAt.none_str _ _, RcAt.none_str _ _, RcNeAt.none_str _ _⟩
theorem keq_same {a b : AV} {u : Value} {t : Bool} (ra : VR prog w g a u) (rb : VR prog w g b u) (h : keq a b = some t) : t = true := by
  refine KeqV.casesOn (motive := fun a b t z_ => VRi prog w g a u -> VRi prog w g b u -> t = true) (keq_inv h) (fun a b ⟨_, e⟩ ⟨_, e'⟩ => decide_eq_true ?_) (fun a b ⟨_, e⟩ ⟨_, e'⟩ => decide_eq_true ?_) (fun a b ⟨_, e⟩ ⟨_, e'⟩ => decide_eq_true ?_)
    (fun z_ z_ => rfl) (fun a b ⟨_, e⟩ ⟨_, e'⟩ => ?_) (fun a b ⟨_, e⟩ ⟨_, e'⟩ => ?_) (fun a e ⟨_, e'⟩ => ?_) ra.inv rb.inv
  · exact K0.s.inj (si ((congrArg keyIn e).symm.trans (congrArg keyIn e')))
  · exact K0.i.inj (si ((congrArg keyIn e).symm.trans (congrArg keyIn e')))
  · exact K0.b.inj (si ((congrArg keyIn e).symm.trans (congrArg keyIn e')))
  · exact K0.noConfusion (si ((congrArg keyIn e).symm.trans (congrArg keyIn e')))
  · exact K0.noConfusion (si ((congrArg keyIn e).symm.trans (congrArg keyIn e')))
  · exact nm ((congrArg keyIn e).symm.trans (congrArg keyIn e'))
theorem all_range_succ (e : Nat -> Bool) (n : Nat) : (List.range (n + 1)).all e = (e 0 && (List.range n).all fun i => e (i + 1)) := by
  rw [List.range_succ_eq_map, List.all_cons, List.all_map]; rfl
theorem fall_at {f : AV -> AV -> Option Bool} {pr : Around -> Prop} (H : ∀ {a b u v t}, VR prog w g a u -> VR prog w g b v -> f a b = some t -> ∀ A, pr A -> EqAt A s u v t) {x : List AV} {us : List Value} (r : VRs prog w g x us) :
    ∀ {y : List AV} {vs : List Value} {t : Bool}, VRs prog w g y vs -> fall f x y = some t -> us.length = vs.length ∧ ∃ e : Nat -> Bool, (List.range us.length).all e = t ∧ ∀ (A : Around), pr A -> ∀ j (h1 : j < us.length) (h2 : j < vs.length), EqAt A s us[j] vs[j] (e j) := by
  refine VRs.ind (M := fun x us => ∀ {y : List AV} {vs : List Value} {t : Bool}, VRs prog w g y vs -> fall f x y = some t -> us.length = vs.length ∧ ∃ e : Nat -> Bool, (List.range us.length).all e = t ∧ ∀ (A : Around), pr A -> ∀ j (h1 : j < us.length) (h2 : j < vs.length), EqAt A s us[j] vs[j] (e j)) ?_ ?_ r
  · intro y vs t q h
    induction y using List.casesOn with
    | nil =>
      obtain rfl := q.ex0
      exact ⟨rfl, fun z_ => true, si h, fun z_ z_ j h1 => absurd h1 (Nat.not_lt_zero _)⟩
    | cons => exact nm h
  · intro a u x us ra r ih y vs t q h
    induction y using List.casesOn with
    | nil => exact nm h
    | cons b y =>
      refine u23 q.ex fun v vs e rb q1 => ?_
      subst e
      refine ob h fun t1 h1 h2 => op h2 fun t2 h3 h4 => (ih q1 h3).elim fun hl z => u12 z fun e he hA => ⟨congrArg Nat.succ hl, fun j => j.casesOn t1 e, ?_, fun A hp j => ?_⟩
      · exact (all_range_succ _ _).trans ((congrArg (t1 && ·) he).trans h4)
      · cases j with
        | zero => exact fun z_ z_ => H ra rb h1 A hp
        | succ j => exact fun q1 q2 => hA A hp j (Nat.lt_of_succ_lt_succ q1) (Nat.lt_of_succ_lt_succ q2)
theorem fall_same {f : AV -> AV -> Option Bool} (H : ∀ {a b u t}, VR prog w g a u -> VR prog w g b u -> f a b = some t -> t = true) {x : List AV} {us : List Value} (r : VRs prog w g x us) :
    ∀ {y : List AV} {t : Bool}, VRs prog w g y us -> fall f x y = some t -> t = true := by
  refine VRs.ind (M := fun x us => ∀ {y : List AV} {t : Bool}, VRs prog w g y us -> fall f x y = some t -> t = true) ?_ ?_ r
  · intro y t q h
    induction y using List.casesOn with
    | nil => exact (si h).symm
    | cons => exact nm h
  · intro a u x us ra r ih y t q h
    induction y using List.casesOn with
    | nil => exact nm h
    | cons b y => exact VRs.inv2 q fun rb q => ob h fun t1 h1 h2 => op h2 fun t2 h3 h4 => h4.symm.trans (by rw [H ra rb h1, ih q h3]; rfl)
theorem isTuple_of {G : Heap} {tabs : List (Addr × Addr × Str)} {P : Hp} (R : Rep prog w G tabs g P s.heap) {a : Addr} {vs : Array Value} {n : Nat} (e : g.ρ a = .fro (tupObj vs n)) : s.heap.IsTuple a vs := ⟨_, R.fro a _ e, rfl, n, rfl⟩
theorem fro_same {a : Addr} {vs us : Array Value} {n m : Nat} (e : g.ρ a = .fro (tupObj vs n)) (e' : g.ρ a = .fro (tupObj us m)) : us = vs := (Data.seq.inj (Obj.mk.inj (Role.fro.inj (e'.symm.trans e))).2.2.1).1
theorem tup_at {G : Heap} {tabs : List (Addr × Addr × Str)} {P : Hp} (R : Rep prog w G tabs g P s.heap) {x y : List AV} {u v : Value} {t : Bool} (ra : VR prog w g (.tup x) u) (rb : VR prog w g (.tup y) v) (h : eqs x y = some t) (hu : A.units < cLine) : AllEq A s u v t := by
  refine u33 ra.inv fun a us n e1 ea pa => u33 rb.inv fun b vs n' e2 eb pb => ?_
  subst e1; subst e2
  refine (fall_at (s := s) (pr := fun z_ => True) (fun a b h A z_ => (keq_at a b h).1) pa pb h).elim fun hl z => u12 z fun e he hA => ?_
  have hs : us.size = vs.size := hl
  have hb : ((List.range (min us.size vs.size)).all e && us.size == vs.size) = t := by
    rw [← hs, Nat.min_self, beq_self_eq_true, Bool.and_true]; exact he
  have q1 := hb ▸ RcAt.tuples (e := e) (isTuple_of R ea) (isTuple_of R eb) hu (fun j h1 h2 => hA A.in1 trivial j h1 h2)
  refine ⟨(Classical.em (a = b)).elim (fun q => ?_) fun q => EqAt.of_refs q q1, q1, hb ▸ RcNeAt.tuples (e := e) (isTuple_of R ea) (isTuple_of R eb) hu (fun j h1 h2 => hA A.in1 trivial j h1 h2)⟩
  subst q
  rw [fall_same keq_same pa (fro_same ea eb ▸ pb) h]
  exact EqAt.same _
theorem eq2_by {a b : AV} {t : Bool} {M : Prop} (h : eq2 a b = some t) (ht : ∀ x y, a = .tup x -> b = .tup y -> eqs x y = some t -> M) (hk : keq a b = some t -> M) : M := by
  induction a using DK.AV.casesOn with
  | tup x => induction b using DK.AV.casesOn with
    | tup y => exact ht x y rfl rfl h
    | _ => exact hk h
  | _ => exact hk h
theorem eq2_at {G : Heap} {tabs : List (Addr × Addr × Str)} {P : Hp} (R : Rep prog w G tabs g P s.heap) {a b : AV} {u v : Value} {t : Bool} (ra : VR prog w g a u) (rb : VR prog w g b v) (h : eq2 a b = some t) (hu : A.units < cLine) : AllEq A s u v t :=
  eq2_by h (fun z_ z_ e e' h => tup_at R (e ▸ ra) (e' ▸ rb) h hu) (keq_at ra rb)
theorem eqs2_at {G : Heap} {tabs : List (Addr × Addr × Str)} {P : Hp} (R : Rep prog w G tabs g P s.heap) {x y : List AV} {us vs : List Value} {t : Bool} (rx : VRs prog w g x us) (ry : VRs prog w g y vs) (h : eqs2 x y = some t) :
    us.length = vs.length ∧ ∃ e : Nat -> Bool, (List.range us.length).all e = t ∧ ∀ (A : Around), A.units < cLine -> ∀ j (h1 : j < us.length) (h2 : j < vs.length), EqAt A s us[j] vs[j] (e j) :=
  fall_at (pr := fun A => A.units < cLine) (fun a b h A hu => (eq2_at R a b h hu).1) rx ry h
inductive LstAt (prog : Program) (w : World) (g : Gh) (h : Heap) (l : List AV) (u : Value) : Prop
  | mk (x : Addr) (vs : Array Value) (e : u = .ref x) (p : h.PlainList x vs) (r : VRs prog w g l vs.toList) : LstAt prog w g h l u
theorem lsts_by {o : Option AO} {l : List AV} {C : Prop} (h : (match o with | some (.list l) => some l | _ => .none) = some l) (k : o = some (.list l) -> C) : C := by
  induction o using Option.casesOn with
  | none => exact nm h
  | some o => induction o using DK.AO.casesOn with
    | list l' => exact k (si h ▸ rfl)
    | _ => exact nm h
theorem aor_list {h : Heap} {l : List AV} {k : Nat} {a : Addr} (x : AOR prog w g h (.list l) k a) : ∃ vs n, h.get? a = some (listObj vs n) ∧ VRs prog w g l vs.toList := by
  exact x.inv
theorem lst_of {G : Heap} {tabs : List (Addr × Addr × Str)} {P : Hp} (R : Rep prog w G tabs g P s.heap) {a : AV} {u : Value} {l : List AV} (r : VR prog w g a u) (h : lstOf P a = some l) : LstAt prog w g s.heap l u := by
  induction a using DK.AV.casesOn with
  | lst l' => exact u33 r.inv fun x vs n e q r => ⟨x, vs, e, ⟨_, R.fro _ _ q⟩, si h ▸ r⟩
  | ref k => exact lsts_by h fun e => u12 r.inv fun x e1 hk => u13 (R.own _ _ e) fun y q1 z_ q3 => u22 (aor_list q3) fun vs n q4 r => ⟨x, vs, e1, ⟨_, (si (q1.symm.trans hk)) ▸ q4⟩, r⟩
  | _ => exact nm h
theorem aeq_by {a b : AV} {t : Bool} {P : Hp} {M : Prop} (h : aeq P a b = some t) (hl : ∀ x y, lstOf P a = some x -> lstOf P b = some y -> (if x.length = y.length then eqs2 x y else some false) = some t -> M) (hk : eq2 a b = some t -> M) : M := by
  unfold aeq at h
  generalize lstOf P a = p at h hl
  generalize lstOf P b = q at h hl
  induction p using Option.casesOn with
  | none => induction q using Option.casesOn with
    | none => exact hk h
    | some => exact nm h
  | some => induction q using Option.casesOn with
    | none => exact nm h
    | some => exact hl _ _ rfl rfl h
theorem aeq_at {G : Heap} {tabs : List (Addr × Addr × Str)} {P : Hp} (R : Rep prog w G tabs g P s.heap) {a b : AV} {u v : Value} {t : Bool} (ra : VR prog w g a u) (rb : VR prog w g b v) (h : aeq P a b = some t) (hu : A.units + 1 < cLine) :
    RcAt A s u v t ∧ RcNeAt A s u v (!t) := by
  refine aeq_by h (fun x y hx hy h => (lst_of R ra hx).casesOn fun p us e1 lp rp => (lst_of R rb hy).casesOn fun q vs e2 lq rq => ?_) fun h => (eq2_at R ra rb h (Nat.lt_of_succ_lt hu)).2
  subst e1; subst e2
  refine oe h (fun z_ h => (eqs2_at R rp rq h).elim fun hl z => u12 z fun e he hA => ?_) fun hne h => ?_
  · have he : (List.range us.size).all e = t := he
    exact he ▸ ⟨RcAt.lists (e := e) lp.isList lq.isList hl (Nat.lt_of_succ_lt hu) (fun j h1 h2 => hA A.in1 hu j h1 h2), RcNeAt.lists (e := e) lp.isList lq.isList hl (Nat.lt_of_succ_lt hu) (fun j h1 h2 => hA A.in1 hu j h1 h2)⟩
  · have hs : (us.size != vs.size) = true := bne_iff_ne.mpr fun e => hne (rp.length.trans ((show us.toList.length = vs.toList.length from e).trans rq.length.symm))
    exact si h ▸ ⟨RcAt.lists_lengths lp.isList lq.isList hs (Nat.lt_of_succ_lt hu), RcNeAt.lists_lengths lp.isList lq.isList hs (Nat.lt_of_succ_lt hu)⟩
end
end DK
namespace DK
open PySem PySem.W PySem.Calls PyProof.Rows
section
variable {prog : Program} {w : World} {g : Gh} {A : Around} {E : Value -> Shared -> Prop} {s : Shared} {d : Addr} {kv : Value}
noncomputable def GetIs (prog : Program) (w : World) (u : Nat) (s : Shared) (d : Addr) (kv : Value) (r : Option Value) : Prop :=
  ∀ (A : Around) (E : Value -> Shared -> Prop) (Q : Option Value -> Shared -> Prop), A.units ≤ u -> (∀ tk, Q r { s with toks := tk }) -> wpAny (model prog w) A (dictGet d kv) Q E s
theorem typeIs_dct {es : Array DictEntry} {ep : Nat} (ho : s.heap.get? d = some (dctObj es ep)) : s.TypeIs (.ref d) "dict" := ⟨_, ho, rfl⟩
theorem contains_dct {es : Array DictEntry} {ep : Nat} {r : Option Value} {u : Nat} {Q : Bool -> Shared -> Prop} (ho : s.heap.get? d = some (dctObj es ep)) (hd : (d == sysModules) = false) (hG : GetIs prog w u s d kv r) (hu : A.units + 1 ≤ u)
    (h : ∀ tk, Q r.isSome { s with toks := tk }) : wpAny (model prog w) A (contains (.ref d) kv) Q E s := by
  unfold contains
  try with_reducible refine wpAny_holding ?_
  refine wpAny_bind (wpAny_specialOf (typeIs_dct ho) slot_dict_contains.lookup ?_)
  show wpAny _ _ (if (some (Value.builtin "dict.__contains__") == some Value.none) = true then _ else _) _ E s
  rw [if_neg (by rw [beq_builtin_none]; exact Bool.false_ne_true)]
  refine wpAny_bind (wpAny_callSpecialUnlessNone?_slot (name := Str.ofString "__contains__") (typeIs_dct ho) slot_dict_contains
    (wpAny_call_entry slot_dict_contains (typeIs_dct ho) entry_dict_contains ?_ (args_dict_contains _ _)))
  show wpAny _ _ (dictGet d kv >>= _) _ _ s
  refine wpAny_bind (hG _ _ _ hu fun tk => ?_)
  induction r using Option.casesOn with
  | some v =>
    show wpAny _ _ (ret (.bool true)) _ _ _
    exact wpAny_pure ⟨_, rfl, wpAny_truthy_bool (h tk)⟩
  | none =>
    show wpAny _ _ (Builtin.Dict.pendingKey? d kv >>= _) _ _ _
    exact wpAny_bind (wpAny_pendingKey_other hd (wpAny_pure ⟨_, rfl, wpAny_truthy_bool (h tk)⟩))
theorem in_dct {es : Array DictEntry} {ep : Nat} {r : Option Value} {u : Nat} {Q : Value -> Shared -> Prop} (ho : s.heap.get? d = some (dctObj es ep)) (hd : (d == sysModules) = false) (hG : GetIs prog w u s d kv r) (hu : A.units + 1 ≤ u)
    (h : ∀ tk, Q (.bool r.isSome) { s with toks := tk }) : wpAny (model prog w) A (compareOp .In kv (.ref d)) Q E s := by
  show wpAny _ _ (do return .bool (← contains (.ref d) kv)) Q E s
  exact wpAny_bind (contains_dct ho hd hG hu fun tk => wpAny_pure (h tk))
theorem notIn_dct {es : Array DictEntry} {ep : Nat} {r : Option Value} {u : Nat} {Q : Value -> Shared -> Prop} (ho : s.heap.get? d = some (dctObj es ep)) (hd : (d == sysModules) = false) (hG : GetIs prog w u s d kv r) (hu : A.units + 1 ≤ u)
    (h : ∀ tk, Q (.bool (!r.isSome)) { s with toks := tk }) : wpAny (model prog w) A (compareOp .NotIn kv (.ref d)) Q E s := by
  show wpAny _ _ (do return .bool (!(← contains (.ref d) kv))) Q E s
  exact wpAny_bind (contains_dct ho hd hG hu fun tk => wpAny_pure (h tk))
theorem getItem_dct {es : Array DictEntry} {ep : Nat} {v : Value} {u : Nat} {Q : Value -> Shared -> Prop} (ho : s.heap.get? d = some (dctObj es ep)) (hG : GetIs prog w u s d kv (some v)) (hu : A.units + 1 ≤ u)
    (h : ∀ tk, Q v { s with toks := tk }) : wpAny (model prog w) A (getItem (.ref d) kv) Q E s := by
  unfold getItem
  try with_reducible refine wpAny_holding ?_
  refine wpAny_bind (wpAny_sequenceKey (typeIs_dct ho) (by decide) ?_)
  refine wpAny_bind (wpAny_callSpecial?_slot (name := Str.ofString "__getitem__") (typeIs_dct ho) slot_dict_getitem
    (wpAny_call_entry slot_dict_getitem (typeIs_dct ho) entry_dict_getitem ?_ (args_dict_getitem _ _)))
  show wpAny _ _ (dictGet d kv >>= _) _ _ s
  exact wpAny_bind (hG _ _ _ hu fun tk => wpAny_pure ⟨v, rfl, wpAny_pure (h tk)⟩)
theorem get2_dct {es : Array DictEntry} {ep : Nat} {r : Option Value} {u : Nat} {df : Value} {Q : Value -> Shared -> Prop} (ho : s.heap.get? d = some (dctObj es ep)) (hd : (d == sysModules) = false) (hG : GetIs prog w u s d kv r) (hu : A.units + 1 ≤ u)
    (h : ∀ tk, Q (r.getD df) { s with toks := tk }) : wpAny (model prog w) A (call (.builtin "dict.get") [.ref d, kv, df]) Q E s := by
  refine wpAny_call_entry F.slot_dict_get (typeIs_dct ho) F.entry_dict_get ?_ (F.args_dict_get_3 _ _ _)
  show wpAny _ _ (dictGet d kv >>= _) _ _ s
  refine wpAny_bind (hG _ _ _ hu fun tk => ?_)
  induction r using Option.casesOn with
  | some v => exact wpAny_pure ⟨v, rfl, h tk⟩
  | none =>
    show wpAny _ _ (Builtin.Dict.missed d kv >>= _) _ _ _
    exact wpAny_bind (wpAny_missed_other hd (wpAny_pure ⟨df, rfl, h tk⟩))
noncomputable def SetIs (prog : Program) (w : World) (u : Nat) (s : Shared) (d : Addr) (kv v : Value) (S : Heap -> Prop) : Prop :=
  ∀ (A : Around) (E : Value -> Shared -> Prop) (Q : Unit -> Shared -> Prop), A.units ≤ u -> (∀ h' tk, S h' -> Q () { s with heap := h', toks := tk }) -> wpAny (model prog w) A (dictSet d kv v) Q E s
theorem setItem_dct {es : Array DictEntry} {ep : Nat} {v : Value} {u : Nat} {S : Heap -> Prop} {Q : Unit -> Shared -> Prop} (ho : s.heap.get? d = some (dctObj es ep)) (hG : SetIs prog w u s d kv v S) (hu : A.units + 1 ≤ u)
    (h : ∀ h' tk, S h' -> Q () { s with heap := h', toks := tk }) : wpAny (model prog w) A (setItem (.ref d) kv v) Q E s := by
  unfold setItem
  try with_reducible refine wpAny_holding ?_
  refine wpAny_bind (wpAny_sequenceKey (typeIs_dct ho) (by decide) ?_)
  refine wpAny_bind (wpAny_callSpecial?_slot (name := Str.ofString "__setitem__") (typeIs_dct ho) slot_dict_setitem
    (wpAny_call_entry slot_dict_setitem (typeIs_dct ho) entry_dict_setitem ?_ (args_dict_setitem _ _ _)))
  show wpAny _ _ (Builtin.Dict.notOrdered "__setitem__" ⟨[.ref d, kv, v], []⟩ >>= _) _ _ s
  refine wpAny_bind (wpAny_notOrdered_dict (typeIs_dct ho) ?_)
  show wpAny _ _ (dictSet d kv v >>= _) _ _ s
  exact wpAny_bind (hG _ _ _ hu fun h' tk x => wpAny_pure ⟨.none, rfl, wpAny_pure (h h' tk x)⟩)
theorem DObj.dictOf {es : Array DictEntry} {ep : Nat} {kvs : List (K0 × Value)} (ho : s.heap.get? d = some (dctObj es ep)) (D : DObj prog w es kvs) : s.heap.DictOf (mixK prog w) d kvs := ⟨_, es, ep, ho, ⟨rfl, rfl, rfl⟩, rfl, D.1, D.2.1, D.2.2⟩
theorem getIs_plain {es : Array DictEntry} {ep : Nat} {kvs : List (K0 × Value)} {k : K0} {u : Nat} (ho : s.heap.get? d = some (dctObj es ep)) (D : DObj prog w es kvs) (hk : isK k kv = true) : GetIs prog w u s d kv (valueAt kvs k) :=
  fun A E Q z_ h => wpAny_dictGet_of (knd := mixK prog w) hk (D.dictOf ho).mapOf (h _)
theorem dct_inj {a b : Array DictEntry} {n m : Nat} (h : dctObj a n = dctObj b m) : a = b ∧ n = m := Data.dict.inj (Obj.mk.inj h).2.2.1
theorem DGrow.at {h h' : Heap} {d : Addr} {es es' : Array DictEntry} {ep ep' : Nat} (ho : h.get? d = some (dctObj es ep)) (e : h'.get? d = some (dctObj es' ep')) (l : es.size ≤ es'.size) (q : es'.size = es.size -> ep' = ep) : DGrow h h' d :=
  fun es₀ ep₀ e₀ => (dct_inj (si (ho.symm.trans e₀)) : es = es₀ ∧ ep = ep₀).elim fun (x : es = es₀) (y : ep = ep₀) => ⟨es', ep', e, x ▸ l, fun z => (q (z.trans (congrArg Array.size x.symm))).trans y⟩
theorem nodup_snoc {α : Type} {l : List α} {a : α} (hn : l.Nodup) (h : a ∉ l) : (l ++ [a]).Nodup :=
  List.nodup_append.mpr ⟨hn, List.nodup_cons.mpr ⟨List.not_mem_nil, List.nodup_nil⟩, fun x hx y hy e => h (List.mem_singleton.mp hy ▸ e ▸ hx)⟩
theorem fidx {α : Type} {p : α -> Bool} (es : Array α) : es.findIdx? p = es.toList.findIdx? p := by cases es; simp
theorem size_mod {α : Type} {es : Array α} {i : Nat} {f : α -> α} : es.size ≤ (es.modify i f).size := Nat.le_of_eq Array.size_modify.symm
theorem size_psh {α : Type} {es : Array α} {a : α} : es.size ≤ (es.push a).size := Nat.le_of_lt (Nat.lt_of_lt_of_eq (Nat.lt_succ_self _) (Array.size_push a).symm)
theorem size_nps {α : Type} {es : Array α} {a : α} {M : Prop} (q : (es.push a).size = es.size) : M := absurd ((Array.size_push a).symm.trans q) (Nat.succ_ne_self _)
theorem setIs_plain {es : Array DictEntry} {ep : Nat} {kvs : List (K0 × Value)} {k : K0} {v : Value} {u : Nat} (ho : s.heap.get? d = some (dctObj es ep)) (D : DObj prog w es kvs) (hk : isK k kv = true) (hz : es.size ≤ sizeLine) :
    SetIs prog w u s d kv v fun h' => ∃ es' ep', h'.get? d = some (dctObj es' ep') ∧ DObj prog w es' (stored kvs k v) ∧ DGrow s.heap h' d ∧ Heap.SameBut d s.heap h' := by
  intro A E Q _ h
  refine D.elim fun hks z => z.elim fun hp hn => ?_
  unfold dictSet
  try with_reducible refine wpAny_holding ?_
  refine wpAny_bind ((mixK prog w).pyHash hk ?_)
  unfold dictSetHashed
  try with_reducible refine wpAny_holding ?_
  refine wpAny_bind (wpAny_dictFind_of (knd := mixK prog w) (s := { s with toks := s.toks + 1 }) hk ho rfl hks ?_)
  have hl : (es.findIdx? fun e => (mixK prog w).is k e.key) = es.toList.findIdx? fun e => (mixK prog w).is k e.key := fidx es
  have hidx := hl.trans (hp.findIdx k)
  induction hi : es.findIdx? fun e => (mixK prog w).is k e.key using Option.casesOn with
  | some i =>
    have st : stored kvs k v = _ := if_pos (any_of_findIdx_some (hidx.symm.trans hi))
    refine wpAny_bind (wpAny_rule (wpAny_bind (wpAny_updateDict (s := { s with toks := s.toks + 1 }) ho rfl (wpAny_point (h _ _ ?_)))))
    have e := Heap.get?_update_self (Obj.mapDict fun x => x.modify i fun e => { e with val := v }) ho rfl
    refine ⟨_, ep, e, ⟨hks.modify _ _, ?_, ?_⟩, .at ho e size_mod fun z_ => rfl, Heap.SameBut.update ..⟩
    · rw [st, Array.toList_modify]
      exact hp.modify hn (hl.symm.trans hi) v
    · rw [st, keys_map_store]; exact hn
  | none =>
    have hnot : k ∉ kvs.map (·.1) := not_mem_of_findIdx_none (hidx.symm.trans hi)
    refine wpAny_bind (wpAny_rule (wpAny_updateDictKeys (hz := hz) (s := { s with toks := s.toks + 1 }) ho rfl (h _ _ ?_)))
    have e := Heap.get?_update_self (Obj.mapDictKeys fun x => x.push ⟨(mixK prog w).hash k, kv, v⟩) ho rfl
    have st : stored kvs k v = kvs ++ [(k, v)] := if_neg fun q => (List.any_eq_true.mp q).elim fun kv z => hnot (List.mem_map.mpr ⟨kv, z.1, of_decide_eq_true z.2⟩)
    refine ⟨_, ep + 1, e, ⟨hks.push hk _, ?_, ?_⟩, .at ho e size_psh size_nps, Heap.SameBut.update ..⟩
    · rw [st, Array.toList_push]
      exact hp.append hk ((mixK prog w).hash k) v
    · rw [st, List.map_append]
      exact nodup_snoc hn hnot
noncomputable abbrev tupK (prog : Program) (w : World) : HeapKind prog w (List K0) := tupleKind (mixK prog w)
theorem getIs_tup {es : Array DictEntry} {ep : Nat} {xs : List (List K0 × Addr × Value)} {ks : List K0} {a : Addr} {u : Nat} (hu : u < cLine) (ho : s.heap.get? d = some (dctObj es ep)) (he : es.toList = xs.map (entryOfKey (tupK prog w)))
    (his : ∀ x ∈ xs, (tupK prog w).is s.heap x.1 x.2.1) (hn : (xs.map (·.1)).Nodup) (hk : (tupK prog w).is s.heap ks a) : GetIs prog w u s d (.ref a) ((atKey xs ks).map (·.2)) :=
  fun A E Q hA h => wpAny_dictGet_heap (knd := tupK prog w) (Nat.lt_of_le_of_lt hA hu) hk ⟨_, es, ep, ho, ⟨rfl, rfl, rfl⟩, rfl, he, his, hn⟩ (h _)
theorem setIs_tup {es : Array DictEntry} {ep : Nat} {xs : List (List K0 × Addr × Value)} {ks : List K0} {a : Addr} {v : Value} {u : Nat} (hu : u < cLine) (ho : s.heap.get? d = some (dctObj es ep)) (he : es.toList = xs.map (entryOfKey (tupK prog w)))
    (his : ∀ x ∈ xs, (tupK prog w).is s.heap x.1 x.2.1) (hn : (xs.map (·.1)).Nodup) (hk : (tupK prog w).is s.heap ks a) (hz : es.size ≤ sizeLine) :
    SetIs prog w u s d (.ref a) v fun h' => ∃ es' ep', h'.get? d = some (dctObj es' ep') ∧ es'.toList = (storedH xs ks a v).map (entryOfKey (tupK prog w)) ∧ ((storedH xs ks a v).map (·.1)).Nodup ∧ DGrow s.heap h' d ∧ Heap.SameBut d s.heap h' := by
  intro A E Q hA h
  have room : (tupK prog w).room A := Nat.lt_of_le_of_lt hA hu
  unfold dictSet
  try with_reducible refine wpAny_holding ?_
  refine wpAny_bind ((tupK prog w).pyHash room hk ?_)
  unfold dictSetHashed
  try with_reducible refine wpAny_holding ?_
  refine wpAny_bind (wpAny_dictFind_heap (knd := tupK prog w) (s := { s with toks := s.toks + (tupK prog w).draws ks }) room hk ho rfl he his hn (fun hno => ?_) fun j p hj => ?_)
  · refine wpAny_bind (wpAny_rule (wpAny_updateDictKeys (hz := hz) (s := { s with toks := s.toks + (tupK prog w).draws ks }) ho rfl (h _ _ ?_)))
    have e := Heap.get?_update_self (Obj.mapDictKeys fun x => x.push ⟨(tupK prog w).hash ks, .ref a, v⟩) ho rfl
    refine ⟨_, ep + 1, e, ?_, ?_, .at ho e size_psh size_nps, Heap.SameBut.update ..⟩
    · rw [storedH_new (atKey_none_of_get hno), Array.toList_push, he, List.map_append]; rfl
    · rw [storedH_new (atKey_none_of_get hno), List.map_append]
      exact nodup_snoc hn (not_mem_keys_of_get hno)
  · refine wpAny_bind (wpAny_rule (wpAny_bind (wpAny_updateDict (s := { s with toks := s.toks + (tupK prog w).draws ks }) ho rfl (wpAny_point (h _ _ ?_)))))
    have e := Heap.get?_update_self (Obj.mapDict fun x => x.modify j fun e => { e with val := v }) ho rfl
    refine ⟨_, ep, e, ?_, ?_, .at ho e size_mod fun z_ => rfl, Heap.SameBut.update ..⟩
    · rw [storedH_old (atKey_of_get hn hj), Array.toList_modify, he]
      exact modify_map_putAt (entryOfKey (tupK prog w)) (fun e : DictEntry => { e with val := v }) ks v (fun z_ z_ => rfl) hn hj
    · rw [storedH_old (atKey_of_get hn hj), keys_map_putAt]; exact hn
end
section
variable {prog : Program} {w : World} {g : Gh} {s : Shared} {G : Heap} {tabs : List (Addr × Addr × Str)} {P : Hp}
noncomputable def unk : K0 -> AV
  | .s x => .str x
  | .i n => .int n
  | .b l => .byt l
theorem k0_un {a : AV} {k : K0} (h : k0 a = some k) : a = unk k := by
  induction a using DK.AV.casesOn with
  | str x => exact si h ▸ rfl
  | int x => exact si h ▸ rfl
  | byt x => exact si h ▸ rfl
  | _ => exact nm h
theorem isK_of {a : AV} {k : K0} {v : Value} (r : VR prog w g a v) (h : k0 a = some k) : isK k v = true := by
  have r : VRi prog w g (unk k) v := k0_un h ▸ r.inv
  induction k using DK.K0.casesOn with
  | s x => exact r.elim fun t e => e ▸ beq_self_eq_true x
  | i n => exact r.elim fun t e => e ▸ beq_self_eq_true n
  | b l => exact r.elim fun t e => e ▸ beq_self_eq_true l.toArray.toList
theorem of_isK {a : AV} {k : K0} {v : Value} (h : k0 a = some k) (q : isK k v = true) : VR prog w g a v := k0_un h ▸ isK_by (M := fun k v => VR prog w g (unk k) v) q .str .int .byt
theorem items_of {l : List AV} {ks : List K0} {vs : List Value} (r : VRs prog w g l vs) (h : k0s l = some ks) : ItemsAre (mixK prog w) ks vs :=
  VRs.ind (M := fun l vs => ∀ ks, k0s l = some ks -> ItemsAre (mixK prog w) ks vs) (fun ks h => si h ▸ .nil) (fun a z_ m ks h => ob h fun k h1 h2 => op h2 fun ks h3 h4 => h4 ▸ .cons (isK_of a h1) (m ks h3)) r ks h
theorem EsP.len {es kvs} (r : EsP prog w g es kvs) : es.length = kvs.length := by
  induction r with
  | nil => rfl
  | cons _ _ _ ih => exact congrArg Nat.succ ih
theorem EsT.len {es xs} (r : EsT prog w g es xs) : es.length = xs.length := by
  induction r with
  | nil => rfl
  | cons _ _ _ _ _ ih => exact congrArg Nat.succ ih
theorem k0_tup {a : AV} {k : K0} (h : k0 a = some k) : ∀ l, a ≠ .tup l := fun l e => nn (e ▸ h : k0 (.tup l) = some k)
theorem kkeq_plain {a b : AV} {k : K0} (h : k0 a = some k) : kkeq a b = (k0 b).map fun y => decide (k = y) := by
  have e := k0_un h
  subst e
  cases k <;> rfl
theorem dget0_t {key a v : AV} {es : List (AV × AV)} (e : kkeq a key = some true) : dget0 key ((a, v) :: es) = some (some v) := by unfold dget0; rw [e]
theorem dget0_f {key a v : AV} {es : List (AV × AV)} (e : kkeq a key = some false) : dget0 key ((a, v) :: es) = dget0 key es := by show (match kkeq a key with | some true => _ | some false => _ | none => _) = _; rw [e]
theorem dput0_t {key a v u : AV} {es : List (AV × AV)} (e : kkeq a key = some true) : dput0 key u ((a, v) :: es) = some ((a, u) :: es) := by unfold dput0; rw [e]
theorem dput0_f {key a v u : AV} {es es' : List (AV × AV)} (e : kkeq a key = some false) (h : dput0 key u es = some es') : dput0 key u ((a, v) :: es) = some ((a, v) :: es') := by show (match kkeq a key with | some true => _ | some false => _ | none => _) = _; rw [e]; exact congrArg (Option.map _) h
theorem kk_t {a key : AV} {k k' : K0} (h : k0 a = some k') (hk : k0 key = some k) (e : k' = k) : kkeq a key = some true := (kkeq_plain h).trans ((congrArg (Option.map _) hk).trans (congrArg some (decide_eq_true e)))
theorem kk_f {a key : AV} {k k' : K0} (h : k0 a = some k') (hk : k0 key = some k) (e : k' ≠ k) : kkeq a key = some false := (kkeq_plain h).trans ((congrArg (Option.map _) hk).trans (congrArg some (decide_eq_false e)))
theorem va_ne {k k' : K0} {u : Value} {kvs : List (K0 × Value)} (e : k' ≠ k) : valueAt ((k', u) :: kvs) k = valueAt kvs k := by simp [valueAt, e]
theorem va_eq {k k' : K0} {u : Value} {kvs : List (K0 × Value)} (e : k' = k) : valueAt ((k', u) :: kvs) k = some u := by simp [valueAt, e]
theorem dget_plain {key : AV} {k : K0} (hk : k0 key = some k) {es kvs} (q : EsP prog w g es kvs) : ∃ r, dget0 key es = some r ∧ (match r with | none => valueAt kvs k = none | some v => ∃ u, valueAt kvs k = some u ∧ VR prog w g v u) := by
  induction q with
  | nil => exact ⟨none, rfl, rfl⟩
  | @cons a v k' u es kvs h r q ih =>
    exact (Classical.em (k' = k)).elim (fun e => ⟨some v, dget0_t (kk_t h hk e), u, va_eq e, r⟩) fun e => (va_ne (u := u) (kvs := kvs) e).symm ▸ ih.imp fun z_ z => z.imp_left (dget0_f (kk_f h hk e)).trans
theorem st_eq {k k' : K0} {u u' : Value} {kvs : List (K0 × Value)} (e : k' = k) (n : k' ∉ kvs.map (·.1)) : stored ((k', u') :: kvs) k u = (k', u) :: kvs := by
  subst e
  unfold stored
  rw [if_pos (by simp), List.map_cons, if_pos rfl, map_store_of_not_mem kvs k' u n]
theorem st_ne {k k' : K0} {u u' : Value} {kvs : List (K0 × Value)} (e : k' ≠ k) : stored ((k', u') :: kvs) k u = (k', u') :: stored kvs k u := by
  unfold stored
  rw [List.any_cons, decide_eq_false e, Bool.false_or]
  split <;> simp [e]
theorem dput_plain {key v : AV} {k : K0} {u : Value} (hk : k0 key = some k) (hv : VR prog w g v u) {es kvs} (q : EsP prog w g es kvs) (n : (kvs.map (·.1)).Nodup) : ∃ es', dput0 key v es = some es' ∧ EsP prog w g es' (stored kvs k u) := by
  induction q with
  | nil => exact ⟨_, rfl, .cons hk hv .nil⟩
  | @cons a v' k' u' es kvs h r q ih =>
    have n := List.nodup_cons.mp n
    exact (Classical.em (k' = k)).elim (fun e => ⟨_, dput0_t (kk_t h hk e), (st_eq (u' := u') e n.1).symm ▸ .cons h hv q⟩) fun e => u12 (ih n.2) fun es' h1 h2 => ⟨_, dput0_f (kk_f h hk e) h1, (st_ne (u' := u') e).symm ▸ .cons h r h2⟩
theorem kkeq_tup {x y : List AV} {ks ks' : List K0} (h : k0s x = some ks) (h' : k0s y = some ks') : kkeq (.tup x) (.tup y) = some (decide (ks = ks')) := by
  show ((k0s x).bind fun x => (k0s y).map fun y => decide (x = y)) = _
  rw [h, h']; rfl
theorem ak_ne {k k' : List K0} {u : Addr × Value} {xs : List (List K0 × Addr × Value)} (e : k' ≠ k) : atKey ((k', u) :: xs) k = atKey xs k := by simp [atKey, e]
theorem ak_eq {k k' : List K0} {u : Addr × Value} {xs : List (List K0 × Addr × Value)} (e : k' = k) : atKey ((k', u) :: xs) k = some u := by simp [atKey, e]
theorem dget_tup {key : List AV} {ks : List K0} (hk : k0s key = some ks) {es xs} (q : EsT prog w g es xs) : ∃ r, dget0 (.tup key) es = some r ∧ (match r with | none => atKey xs ks = none | some v => ∃ a u, atKey xs ks = some (a, u) ∧ VR prog w g v u) := by
  induction q with
  | nil => exact ⟨none, rfl, rfl⟩
  | @cons l v ks' a vs n u es xs h f i r q ih =>
    exact (Classical.em (ks' = ks)).elim (fun e => ⟨some v, dget0_t ((kkeq_tup h hk).trans (congrArg some (decide_eq_true e))), a, u, ak_eq e, r⟩) fun e => (ak_ne (u := (a, u)) (xs := xs) e).symm ▸ ih.imp fun z_ z => z.imp_left (dget0_f ((kkeq_tup h hk).trans (congrArg some (decide_eq_false e)))).trans
theorem sh_eq {k k' : List K0} {a a' : Addr} {u u' : Value} {xs : List (List K0 × Addr × Value)} (e : k' = k) (n : k' ∉ xs.map (·.1)) : storedH ((k', a', u') :: xs) k a u = (k', a', u) :: xs := by
  subst e
  rw [storedH_old (p := (a', u')) (ak_eq rfl), List.map_cons, map_putAt_of_not_mem xs k' u n, putAt, if_pos rfl]
theorem sh_ne {k k' : List K0} {a a' : Addr} {u u' : Value} {xs : List (List K0 × Addr × Value)} (e : k' ≠ k) : storedH ((k', a', u') :: xs) k a u = (k', a', u') :: storedH xs k a u := by
  unfold storedH
  rw [ak_ne e]
  split <;> simp [putAt, e]
theorem dput_tup {key : List AV} {v : AV} {ks : List K0} {a : Addr} {vs : Array Value} {n : Nat} {u : Value} (hk : k0s key = some ks) (ha : g.ρ a = .fro (tupObj vs n)) (hi : ItemsAre (mixK prog w) ks vs.toList) (hv : VR prog w g v u)
    {es xs} (q : EsT prog w g es xs) (nd : (xs.map (·.1)).Nodup) : ∃ es', dput0 (.tup key) v es = some es' ∧ EsT prog w g es' (storedH xs ks a u) := by
  induction q with
  | nil => exact ⟨_, rfl, .cons hk ha hi hv .nil⟩
  | @cons l v' ks' a' vs' n' u' es xs h f i r q ih =>
    have nd := List.nodup_cons.mp nd
    exact (Classical.em (ks' = ks)).elim (fun e => ⟨_, dput0_t ((kkeq_tup h hk).trans (congrArg some (decide_eq_true e))), (sh_eq (a' := a') (u' := u') e nd.1).symm ▸ .cons h f i hv q⟩) fun e => u12 (ih nd.2) fun es' h1 h2 => ⟨_, dput0_f ((kkeq_tup h hk).trans (congrArg some (decide_eq_false e))) h1, (sh_ne (a' := a') (u' := u') e).symm ▸ .cons h f i r h2⟩
end
end DK
namespace DK
open PySem PySem.W PySem.Calls PyProof.Rows
section
variable {prog : Program} {w : World} {g : Gh} {A : Around} {E : Value -> Shared -> Prop} {s : Shared} {G : Heap} {tabs : List (Addr × Addr × Str)} {P : Hp}
theorem Ext.toks {b : Nat} {tk : Nat} : Ext b g s g { s with toks := tk } := .of_keeps (.refl g) (Nat.le_refl _) fun z_ z_ z_ e => e
theorem truth_snd {x : AV} {v : Value} {b : Bool} {Q : Bool -> Shared -> Prop} (r : VR prog w g x v) (h : truth x = some b) (q : ∀ tk, Q b { s with toks := tk }) : wpAny (model prog w) A (truthy v) Q E s := by
  have r := r.inv
  induction x using DK.AV.casesOn with
  | none => exact r ▸ truthy_none (si h ▸ q s.toks)
  | bool => exact r ▸ wpAny_truthy_bool (si h ▸ q s.toks)
  | int i => exact r.elim fun t e => e ▸ P.truthy_int ((show (i != 0) = b from (Bool.eq_iff_iff.mpr (bne_iff_ne.trans decide_eq_true_iff.symm)).trans (si h)) ▸ q s.toks)
  | _ => exact nm h
inductive DctAt (prog : Program) (w : World) (g : Gh) (s : Shared) (j : Nat) (es : List (AV × AV)) (v : Value) : Prop
  | mk (d : Addr) (des : Array DictEntry) (ep : Nat) (h1 : v = .ref d) (h2 : g.σ[j]? = some d) (h3 : g.ρ d = .own j) (h4 : s.heap.get? d = some (dctObj des ep)) (h5 : AOR prog w g s.heap (.dict es) j d) : DctAt prog w g s j es v
theorem dict_at (R : Rep prog w G tabs g P s.heap) {j : Nat} {es : List (AV × AV)} {v : Value} (hP : P[j]? = some (.dict es)) (r : VR prog w g (.ref j) v) : DctAt prog w g s j es v :=
  u12 r.inv fun d e hk => u13 (R.own _ _ hP) fun a h1 h2 h3 => h3.inv.elim (fun z => u33 z fun des ep z_ q z_ z_ => ⟨a, des, ep, (si (hk.symm.trans h1)) ▸ e, h1, h2, q, h3⟩) fun z => u34 z fun des ep z_ q z_ z_ z_ => ⟨a, des, ep, (si (hk.symm.trans h1)) ▸ e, h1, h2, q, h3⟩
theorem pairs_nil {des : Array DictEntry} {kvs : List (K0 × Value)} (D : DObj prog w des kvs) (e : kvs = []) : des = #[] :=
  Array.toList_eq_nil_iff.mp (List.length_eq_zero_iff.mp (D.2.1.length.trans (e ▸ rfl)))
theorem aor_nil {k : Nat} {a : Addr} {h : Heap} (x : AOR prog w g h (.dict []) k a) : ∃ ep, h.get? a = some (dctObj #[] ep) :=
  x.inv.elim (fun z => u33 z fun des ep kvs e D q => ⟨ep, pairs_nil D (List.length_eq_zero_iff.mp q.len.symm) ▸ e⟩) fun z => u34 z fun des ep xs e q r z_ => ⟨ep, (show des = #[] from Array.toList_eq_nil_iff.mp (q.trans (show xs.map _ = [] from List.length_eq_zero_iff.mp (List.length_map .. |>.trans r.len.symm)))) ▸ e⟩
theorem ne_of_get {key : AV} {es : List (AV × AV)} {r : Option AV} (h : dget0 key es = some r) : ∀ a v es', es = (a, v) :: es' -> kkeq a key ≠ none := fun a v es' e q => by
  subst e
  unfold dget0 at h
  rw [q] at h
  exact nn h
theorem ne_of_put {key u : AV} {es es₁ : List (AV × AV)} (h : dput0 key u es = some es₁) : ∀ a v es', es = (a, v) :: es' -> kkeq a key ≠ none := fun a v es' e q => by
  subst e
  unfold dput0 at h
  rw [q] at h
  exact nn h
theorem EsT.shape {es xs} (r : EsT prog w g es xs) : es = [] ∨ ∃ l v es', es = (.tup l, v) :: es' := by cases r with | nil => exact .inl rfl | cons => exact .inr ⟨_, _, _, rfl⟩
theorem EsP.shape {es xs} (r : EsP prog w g es xs) : es = [] ∨ ∃ a v es' k, es = (a, v) :: es' ∧ k0 a = some k := by cases r with | nil => exact .inl rfl | cons h => exact .inr ⟨_, _, _, _, rfl, h⟩
theorem aor_plain {k : Nat} {a : Addr} {h : Heap} {key : AV} {k' : K0} {es : List (AV × AV)} (x : AOR prog w g h (.dict es) k a) (hk : k0 key = some k') (hr : ∀ a v es', es = (a, v) :: es' -> kkeq a key ≠ none) :
    ∃ des ep kvs, h.get? a = some (dctObj des ep) ∧ DObj prog w des kvs ∧ EsP prog w g es kvs :=
  x.inv.elim id fun z => u34 z fun des ep xs e q r z_ => r.shape.elim (fun n => (aor_nil (n ▸ x)).elim fun ep e => ⟨_, ep, [], e, ⟨fun e he => absurd he (Array.not_mem_empty e), .nil, List.nodup_nil⟩, n ▸ .nil⟩)
    fun z => u31 z fun l v es' n => absurd (by have e := k0_un hk; subst e; cases k' <;> rfl) (hr _ v es' n)
theorem aor_tup {k : Nat} {a : Addr} {h : Heap} {key : List AV} {ks : List K0} {es : List (AV × AV)} (x : AOR prog w g h (.dict es) k a) (hk : k0s key = some ks) (hr : ∀ a v es', es = (a, v) :: es' -> kkeq a (.tup key) ≠ none) :
    ∃ des ep xs, h.get? a = some (dctObj des ep) ∧ des.toList = xs.map (entryOfKey (tupK prog w)) ∧ EsT prog w g es xs ∧ (xs.map (·.1)).Nodup :=
  x.inv.elim (fun z => u33 z fun des ep kvs e q r => r.shape.elim (fun n => (aor_nil (n ▸ x)).elim fun ep e => ⟨_, ep, [], e, rfl, n ▸ .nil, List.nodup_nil⟩)
    fun z => u42 z fun a v es' k n h => absurd (kkeq_plain h) (hr a v es' n)) id
theorem EsT.isKey (R : Rep prog w G tabs g P s.heap) {es xs} (r : EsT prog w g es xs) : ∀ x ∈ xs, (tupK prog w).is s.heap x.1 x.2.1 := by
  induction r with
  | nil => exact fun x h => absurd h List.not_mem_nil
  | cons h f i r q ih => exact fun x hx => (List.mem_cons.mp hx).elim (fun e => e ▸ ⟨_, _, _, R.fro _ _ f, rfl, rfl, i⟩) (ih x)
theorem isk {α : Type} {o : Option α} {M : Prop} (k : ∀ x, o = some x -> M) (h : o.isSome = true) : M := (Option.isSome_iff_exists.mp h).elim k
theorem keyOk_by {key : AV} {M : Prop} (h : keyOk key = true) (ht : ∀ l ks, key = .tup l -> k0s l = some ks -> M) (hk : ∀ k, k0 key = some k -> M) : M := by
  induction key using DK.AV.casesOn with
  | tup l => exact isk (o := k0s l) (fun ks e => ht l ks rfl e) h
  | _ => exact isk hk h
noncomputable def OptR (prog : Program) (w : World) (g : Gh) (r : Option AV) (rv : Option Value) : Prop := match r, rv with | none, none => True | some v, some u => VR prog w g v u | _, _ => False
theorem OptR.isSome {r : Option AV} {rv : Option Value} (h : OptR prog w g r rv) : rv.isSome = r.isSome := by
  cases r <;> cases rv <;> first | rfl | exact h.elim
theorem optR_plain {kvs : List (K0 × Value)} {k : K0} {r : Option AV} (h : match r with | none => valueAt kvs k = none | some v => ∃ u, valueAt kvs k = some u ∧ VR prog w g v u) : OptR prog w g r (valueAt kvs k) := by
  induction r using Option.casesOn with
  | none => exact (h : valueAt kvs k = none).symm ▸ trivial
  | some v => exact u12 h fun u e q => e.symm ▸ q
theorem optR_tup {xs : List (List K0 × Addr × Value)} {ks : List K0} {r : Option AV} (h : match r with | none => atKey xs ks = none | some v => ∃ a u, atKey xs ks = some (a, u) ∧ VR prog w g v u) : OptR prog w g r ((atKey xs ks).map (·.2)) := by
  induction r using Option.casesOn with
  | none => exact (h : atKey xs ks = none).symm ▸ trivial
  | some v => exact u22 h fun a u e q => e.symm ▸ q
theorem dget_snd (R : Rep prog w G tabs g P s.heap) {j : Nat} {es : List (AV × AV)} {d : Addr} {key : AV} {kv : Value} {r : Option AV} (x : AOR prog w g s.heap (.dict es) j d) (rk : VR prog w g key kv) (h : dget key es = some r) :
    ∃ rv, GetIs prog w (cLine - 1) s d kv rv ∧ OptR prog w g r rv :=
  oi h fun ok h => keyOk_by ok (fun l ks e hk => by
      subst e
      exact u34 (aor_tup x hk (ne_of_get h)) fun des ep xs ho he hq hn => u12 (dget_tup (g := g) hk hq) fun r' h1 h2 => u33 rk.inv fun a vs n e f i => ⟨_, e ▸ getIs_tup (by decide) ho he (hq.isKey R) hn ⟨_, _, _, R.fro _ _ f, rfl, rfl, items_of i hk⟩, si (h1.symm.trans h) ▸ optR_tup h2⟩)
    fun k hk => u33 (aor_plain x hk (ne_of_get h)) fun des ep kvs ho D hq => u12 (dget_plain (g := g) hk hq) fun r' h1 h2 => ⟨_, getIs_plain ho D (isK_of rk hk), si (h1.symm.trans h) ▸ optR_plain h2⟩
theorem dput_snd (R : Rep prog w G tabs g P s.heap) {j : Nat} {es es' : List (AV × AV)} {d : Addr} {key v : AV} {kv u : Value} (hP : P[j]? = some (.dict es)) (hd : g.σ[j]? = some d) (ho' : g.ρ d = .own j) (x : AOR prog w g s.heap (.dict es) j d)
    (rk : VR prog w g key kv) (rv : VR prog w g v u) (h : dput key v es = some es') :
    SetIs prog w (cLine - 1) s d kv u fun h' => Rep prog w G tabs g (P.set j (.dict es')) h' ∧ ∀ b tk, Ext b g s g { s with heap := h', toks := tk } := by
  have hj : j < P.length := (List.getElem?_eq_some_iff.mp hP).1
  refine oi h fun ok h => ?_
  have ok := Bool.and_eq_true_iff.mp ok
  have fits : ∀ n : Nat, n = es.length -> n ≤ sizeLine := fun n e => e ▸ Nat.le_trans (Nat.le_of_lt (of_decide_eq_true ok.2)) (sizeLine_eq ▸ by decide)
  refine keyOk_by ok.1 (fun l ks e hk => ?_) fun k hk => ?_
  · subst e
    refine u34 (aor_tup x hk (ne_of_put h)) fun des ep xs ho he hq hn => u33 rk.inv fun a vs n e f i => ?_
    subst e
    have hi := items_of i hk
    refine u12 (dput_tup (g := g) hk f hi rv hq hn) fun es₂ h1 h2 => ?_
    intro A E Q hA hQ
    refine setIs_tup (u := cLine - 1) (by decide) ho he (hq.isKey R) hn ⟨_, _, _, R.fro _ _ f, rfl, rfl, hi⟩ (fits _ ((congrArg List.length he).trans ((List.length_map ..).trans hq.len.symm))) A E Q hA fun h' tk S => hQ h' tk ?_
    exact u25 S fun es₃ ep₃ q1 q2 q3 q4 q5 => ⟨R.setObj hd (.inl ho') q5 (.dictT q1 q2 (si (h1.symm.trans h) ▸ h2) q3) hj, fun b tk => Ext.of_own (.inl ho') q5 fun z_ => q4⟩
  · refine u33 (aor_plain x hk (ne_of_put h)) fun des ep kvs ho D hq => u12 (dput_plain (g := g) hk rv hq D.2.2) fun es₂ h1 h2 => ?_
    intro A E Q hA hQ
    refine setIs_plain (u := cLine - 1) ho D (isK_of rk hk) (fits _ ((D.2.1.length).trans hq.len.symm)) A E Q hA fun h' tk S => hQ h' tk ?_
    exact u24 S fun es₃ ep₃ q1 q2 q3 q4 => ⟨R.setObj hd (.inl ho') q4 (.dictP q1 q2 (si (h1.symm.trans h) ▸ h2)) hj, fun b tk => Ext.of_own (.inl ho') q4 fun z_ => q3⟩
theorem size_psh1 (h : Heap) (o : Obj) : h.objs.size < (h.push o).objs.size := Nat.lt_of_lt_of_eq (Nat.lt_succ_self _) (Heap.size_push h o).symm
theorem Rep.froze (R : Rep prog w G tabs g P s.heap) {o : Obj} (hf : o.isFreed = false) : Rep prog w G tabs (g.set s.heap.objs.size (.fro o)) P (s.heap.push o) ∧ g.Le (g.set s.heap.objs.size (.fro o)) ∧
    (∀ b tk, Ext b g s (g.set s.heap.objs.size (.fro o)) { s with heap := s.heap.push o, toks := tk }) ∧ (g.set s.heap.objs.size (.fro o)).ρ s.heap.objs.size = .fro o := by
  have fr := R.fresh (Nat.le_refl s.heap.objs.size)
  have L := Gh.le_set (.fro o) fr
  refine ⟨(R.push o).role fr (size_psh1 _ _) (fun o' e => Role.fro.inj e ▸ Heap.get?_push_size _ hf) (fun e => rx e) (fun e => rx e), L, fun b tk => .of_keeps L (Nat.le_of_lt (size_psh1 _ _)) fun a o' z_ e => Heap.get?_push_of_some _ e, Gh.set_self ..⟩
end
end DK
namespace DK
open PySem PySem.W PySem.Calls PyProof.Rows
section
variable {prog : Program} {w : World} {g : Gh} {A : Around} {E : Value -> Shared -> Prop} {s : Shared} {G : Heap} {tabs : List (Addr × Addr × Str)} {P : Hp}
theorem own_ne_sys (R : Rep prog w G tabs g P s.heap) (hG : ∃ o, G.get? sysModules = some o) {d : Addr} {r : Role} (h : g.ρ d = r) (hr : Nat.beq r.tg 1 = false := by rfl) : (d == sysModules) = false :=
  hG.elim fun o e => beq_eq_false_iff_ne.mpr fun q => rn (z := .fro o) h hr (q ▸ R.base _ _ e)
theorem ints_at {l : List AV} {is : List Int} {vs : List Value} (r : VRs prog w g l vs) (h : intsOf l = some is) : IntsAre vs is :=
  VRs.ind (M := fun l vs => ∀ is, intsOf l = some is -> IntsAre vs is) (fun is h => si h ▸ .nil) (fun {x v l vs} a _ m is => by
    induction x using DK.AV.casesOn with
    | int i => exact fun h => op h fun js h1 h2 => (vr_int a).elim fun t e => e ▸ h2 ▸ .cons i t (m js h1)
    | _ => exact nm) r is h
theorem mem_ints {vs : List Value} {is : List Int} (r : IntsAre vs is) : ∀ y ∈ vs, ∃ n u, y = .int n u := by
  induction r with
  | nil => exact fun y h => absurd h List.not_mem_nil
  | cons n t r ih => exact fun y h => (List.mem_cons.mp h).elim (fun e => ⟨n, t, e⟩) (ih y)
noncomputable def intIs (i : Int) : Value -> Bool
  | .int n _ => decide (n = i)
  | _ => false
theorem any_ints (i : Int) {vs : List Value} {is : List Int} (r : IntsAre vs is) : vs.any (intIs i) = is.contains i := by
  induction r with
  | nil => rfl
  | cons n t r ih =>
    rw [List.any_cons, List.contains_cons, ih]
    exact congrArg (· || _) ((show decide (n = i) = (i == n) from Bool.eq_iff_iff.mpr (decide_eq_true_iff.trans (eq_comm.trans beq_iff_eq.symm))))
open PySem.SeqAt in
theorem in_ints {a : Addr} {vs : Array Value} {is : List Int} {i : Int} {t : Tok} {Q : Value -> Shared -> Prop} (hl : s.heap.IsList a vs) (hi : IntsAre vs.toList is) (h : Q (.bool (is.contains i)) s) :
    wpAny (model prog w) A (compareOp .In (.int i t) (.ref a)) Q E s := by
  refine in_listAt (intIs i) hl (fun y hy => ?_) ?_
  · refine u21 (mem_ints hi y hy.val) fun n u e => ?_
    subst e
    exact (show EqAt A.in1 s (.int n u) (.int i t) (decide (n = i)) from beqD n i ▸ EqAt.int_int n u i t)
  · exact ((Array.any_toList).symm.trans (any_ints i hi)).symm ▸ h
theorem isNone_snd {x : AV} {u : Value} {b : Bool} (ra : VR prog w g x u) (e : isNoneA x = some b) : (u == Value.none) = b := by
  have r := ra.inv
  induction x using DK.AV.casesOn with
  | none => exact (congrArg (· == Value.none) r).trans (si e)
  | top => exact nm e
  | bool => exact r ▸ si e
  | int => exact r.elim fun z_ q => q ▸ si e
  | str => exact r.elim fun z_ q => q ▸ si e
  | byt => exact r.elim fun z_ q => q ▸ si e
  | ref => exact u12 r fun z_ q z_ => q ▸ si e
  | tup => exact u33 r fun z_ z_ z_ q z_ z_ => q ▸ si e
  | lst => exact u33 r fun z_ z_ z_ q z_ z_ => q ▸ si e
  | ins => exact u44 r fun z_ z_ z_ z_ q z_ z_ z_ => q ▸ si e
  | met => exact u23 r fun z_ z_ q z_ z_ => q ▸ si e
  | rng => exact u54 r fun z_ z_ z_ z_ z_ q z_ z_ z_ => q ▸ si e
  | dvl => exact u23 r fun z_ z_ q z_ z_ => q ▸ si e
  | iset => exact u23 r fun z_ z_ q z_ z_ => q ▸ si e
theorem int2_inv {x y : AV} {t : Bool} {f : Int -> Int -> Bool} {M : Prop} (h : (match x, y with | .int a, .int b => some (f a b) | _, _ => .none) = some t) (k : ∀ a b, x = .int a -> y = .int b -> f a b = t -> M) : M := by
  induction x using DK.AV.casesOn with
  | int a => induction y using DK.AV.casesOn with
    | int b => exact k a b rfl rfl (si h)
    | _ => exact nm h
  | _ => exact nm h
theorem int2_at {x y : AV} {u v : Value} {t : Bool} {f : Int -> Int -> Bool} (h : (match x, y with | .int a, .int b => some (f a b) | _, _ => .none) = some t) (ra : VR prog w g x u) (rb : VR prog w g y v) : ∃ a b p q, u = .int a p ∧ v = .int b q ∧ f a b = t :=
  int2_inv h fun a b e1 e2 e3 => (vr_int (e1 ▸ ra)).elim fun p e1 => (vr_int (e2 ▸ rb)).elim fun q e2 => ⟨a, b, p, q, e1, e2, e3⟩
theorem in_lst {a : AV} {l : List AV} {t : Bool} (h : (match a, intsOf l with | .int i, some l => some (l.contains i) | _, _ => .none) = some t) : ∃ i is, a = .int i ∧ intsOf l = some is ∧ is.contains i = t := by
  generalize intsOf l = o at h
  induction a using DK.AV.casesOn with
  | int i => induction o using Option.casesOn with
    | some is => exact ⟨_, _, rfl, rfl, si h⟩
    | none => exact nm h
  | _ => exact nm h
theorem noneB_inv {y : AV} {t : Bool} {F : Option Bool} (h : (match y with | .none => F | _ => .none) = some t) : y = .none ∧ F = some t := by
  induction y using DK.AV.casesOn with
  | none => exact ⟨rfl, h⟩
  | _ => exact nm h
theorem dct_by {o : Option AO} {α : Type} {f : List (AV × AV) -> Option α} {r : α} {M : Prop} (h : (match o with | some (.dict es) => f es | _ => .none) = some r) (k : ∀ es, o = some (.dict es) -> f es = some r -> M) : M := by
  induction o using Option.casesOn with
  | none => exact nm h
  | some o => induction o using DK.AO.casesOn with
    | dict es => exact k es rfl h
    | _ => exact nm h
theorem dget_at (R : Rep prog w G tabs g P s.heap) {k : Nat} {es : List (AV × AV)} {x : AV} {u v : Value} {r : Option AV} (hP : P[k]? = some (.dict es)) (ra : VR prog w g x u) (rb : VR prog w g (.ref k) v) (h : dget x es = some r) (hG : ∃ o, G.get? sysModules = some o)
    {M : Prop} (kk : ∀ d des ep rv, v = .ref d -> s.heap.get? d = some (dctObj des ep) -> (d == sysModules) = false -> GetIs prog w (cLine - 1) s d u rv -> rv.isSome = r.isSome -> M) : M :=
  (dict_at R hP rb).casesOn fun d des ep e hd ho q ao => u12 (dget_snd R ao ra h) fun rv hget hm => kk d des ep rv e q (own_ne_sys R hG ho) hget hm.isSome
theorem cmp_snd {x y : AV} {u v : Value} {t : Bool} {op : CmpOp} {Q : Value -> Shared -> Prop} (R : Rep prog w G tabs g P s.heap) (hG : ∃ o, G.get? sysModules = some o) (ra : VR prog w g x u) (rb : VR prog w g y v) (h : cmp1 P op x y = some t)
    (hu : A.units + 10 < cLine) (q : ∀ tk, Q (.bool t) { s with toks := tk }) : wpAny (model prog w) A (compareOp op u v) Q E s := by
  have q0 : Q (.bool t) s := q s.toks
  have hc : A.units + 1 < cLine := Nat.lt_of_le_of_lt (Nat.add_le_add_left (by decide) _) hu
  have hc1 : A.units + 1 ≤ cLine - 1 := Nat.le_sub_of_add_le (Nat.le_of_lt (Nat.lt_of_le_of_lt (Nat.add_le_add_left (by decide : 2 ≤ 10) _) hu))
  induction op using PySem.CmpOp.casesOn with
  | Eq => exact (aeq_at R ra rb h hc).1 prog w E Q q0
  | NotEq => exact op h fun b h1 h2 => (aeq_at R ra rb h1 hc).2 prog w E Q (h2.symm ▸ q0)
  | Lt => exact u43 (int2_at (f := fun a b => decide (a < b)) h ra rb) fun a b z_ z_ e1 e2 e3 => e1 ▸ e2 ▸ PySem.P.lt_int (e3.symm ▸ q0)
  | LtE => exact u43 (int2_at (f := fun a b => decide (a ≤ b)) h ra rb) fun a b z_ z_ e1 e2 e3 => e1 ▸ e2 ▸ PySem.P.le_int (e3.symm ▸ q0)
  | Gt => exact u43 (int2_at (f := fun a b => decide (b < a)) h ra rb) fun a b z_ z_ e1 e2 e3 => e1 ▸ e2 ▸ PySem.P.gt_int (e3.symm ▸ q0)
  | GtE => exact u43 (int2_at (f := fun a b => decide (b ≤ a)) h ra rb) fun a b z_ z_ e1 e2 e3 => e1 ▸ e2 ▸ PySem.P.ge_int (e3.symm ▸ q0)
  | Is =>
    refine (noneB_inv h).elim fun e h => ?_
    subst e
    exact (vr_none rb).symm ▸ is_none ((isNone_snd ra h).symm ▸ q0)
  | IsNot =>
    refine (noneB_inv h).elim fun e h => ?_
    subst e
    exact (vr_none rb).symm ▸ op h fun b h1 h2 => isNot_none ((isNone_snd ra h1).symm ▸ h2.symm ▸ q0)
  | In =>
    induction y using DK.AV.casesOn with
    | ref k => exact dct_by h fun es hP h => op h fun r h1 h2 => dget_at R hP ra rb h1 hG fun d des ep rv e1 e2 e3 e4 e5 => e1 ▸ in_dct e2 e3 e4 hc1 fun tk => (e5.trans h2).symm ▸ q tk
    | lst l => exact u23 (in_lst h) fun i is e1 hi e2 => u33 rb.inv fun a vs n e f r => (vr_int (e1 ▸ ra : VR prog w g (.int i) u)).elim fun z_ e1 => e1 ▸ e ▸ in_ints ⟨_, R.fro _ _ f, rfl, _, rfl⟩ (ints_at r hi) (e2.symm ▸ q0)
    | _ => exact nm h
  | NotIn =>
    induction y using DK.AV.casesOn with
    | ref k => exact dct_by h fun es hP h => op h fun r h1 h2 => dget_at R hP ra rb h1 hG fun d des ep rv e1 e2 e3 e4 e5 => e1 ▸ notIn_dct e2 e3 e4 hc1 fun tk => e5.symm ▸ h2.symm ▸ q tk
    | _ => exact nm h
end
end DK
namespace DK
open PySem PySem.W PySem.Calls PyProof.Rows
noncomputable def Step (prog : Program) (w : World) (G : Heap) (tabs : List (Addr × Addr × Str)) (g : Gh) (s : Shared) (g' : Gh) (P' : Hp) (h' : Heap) (tk : Nat) : Prop :=
  Rep prog w G tabs g' P' h' ∧ ∀ b, Ext b g s g' { s with heap := h', toks := tk }
section
variable {prog : Program} {w : World} {g : Gh} {A : Around} {E : Value -> Shared -> Prop} {s : Shared} {G : Heap} {tabs : List (Addr × Addr × Str)} {P : Hp}
theorem Step.here (R : Rep prog w G tabs g P s.heap) {tk : Nat} : Step prog w G tabs g s g P s.heap tk := ⟨R, fun z_ => Ext.toks⟩
theorem Step.froze (R : Rep prog w G tabs g P s.heap) {o : Obj} (hf : o.isFreed = false) {tk : Nat} : Step prog w G tabs g s (g.set s.heap.objs.size (.fro o)) P (s.heap.push o) tk :=
  let F := R.froze hf; ⟨F.1, fun b => F.2.2.1 b tk⟩
theorem foldl_flat {α : Type} (l : List (Array α)) : ∀ acc : Array α, (l.foldl (fun x1 x2 => x1 ++ x2) acc).toList = acc.toList ++ (l.map Array.toList).flatten := by
  induction l with
  | nil => exact fun acc => (List.append_nil _).symm
  | cons a r ih => exact fun acc => (ih _).trans (by rw [Array.toList_append, List.append_assoc]; rfl)
theorem VRs.flat {l : List AV} {vs : List Value} (r : VRs prog w g l vs) (n : Nat) : VRs prog w g (List.replicate n l).flatten (List.replicate n vs).flatten := by
  induction n with
  | zero => exact .nil
  | succ n ih => exact r.append ih
set_option tactic.hygienic true in
theorem bits_small {n : Int} (hn : n.natAbs < 1000000000) : Builtin.Int.intBits n ≤ 64 := by
  unfold Builtin.Int.intBits
  split
  · omega
  · rename_i h0
    exact Nat.le_trans (Nat.succ_le_of_lt ((Nat.log2_lt (fun e => h0 (by simp [Int.natAbs_eq_zero.mp e]))).mpr (Nat.lt_trans hn (by decide : 1000000000 < 2 ^ 30)))) (by decide)
theorem div_small {j : Int} (hs : 0 < j ∧ j < 1000000000) : ¬ (if (j == 0) = true then 0 else j.natAbs.log2 / 30 + 1) > 300 := by
  split
  · omega
  · have : j.natAbs.log2 < 30 := by rw [Nat.log2_lt (by omega)]; omega
    omega
set_option tactic.hygienic true in
theorem mul_list {l : List AV} {j : Int} {u : Value} {t : Tok} {Q : Value -> Shared -> Prop} (R : Rep prog w G tabs g P s.heap) (ra : VR prog w g (.lst l) u) (hs : 0 < j ∧ j < 100 ∧ l.length < 100)
    (q : ∀ g' h' tk v, Step prog w G tabs g s g' P h' tk -> VR prog w g' (.lst (List.replicate j.toNat l).flatten) v -> Q v { s with heap := h', toks := tk }) : wpAny (model prog w) A (binaryOp .Mult u (.int j t)) Q E s := by
  refine u33 ra.inv fun a vs n e0 e r => ?_
  subst e0
  have hl := R.fro _ _ e
  have hsz : vs.size = l.length := r.length.symm
  have b1 : vs.size * j.toNat ≤ 10000 := Nat.le_trans (Nat.mul_le_mul (hsz ▸ Nat.le_of_lt hs.2.2) (show j.toNat ≤ 100 by omega)) (by decide)
  refine wpAny_binaryOp_repeat_ref (T := "list") (U := "int") (by decide) ⟨_, hl, rfl⟩ (fun s' => typeIs_int s' j t) noFill_list_mul F.fills_int_mul F.slot_int_rmul repeat_list F.slot_int_index.lookup
    (call_meets F.slot_int_rmul (typeIs_int s j t) F.entry_int_rmul (F.args_int_rmul_2 _ _) (int___rmul___int_list j t a vs n)
      ⟨hl, rfl, ⟨_, hl, rfl⟩, call_meets F.slot_list_mul ⟨_, hl, rfl⟩ F.entry_list_mul (F.args_list_mul_2 _ _)
        (AutoListH.list___mul___list_int_3 a vs n j t (by simp [Builtin.List.listFitsIndex]; omega) (by omega) (by simp [Builtin.List.listTooLong, sizeLine]; omega))
        ⟨hl, ?_⟩⟩)
  have fr := R.froze (o := listObj (List.foldl (fun x1 x2 => x1 ++ x2) #[] (List.replicate (if vs.isEmpty = true then 0 else j.toNat) vs))) rfl
  refine q _ _ s.toks _ ⟨fr.1, fun b => fr.2.2.1 b _⟩ (.lst fr.2.2.2 ?_)
  have e3 : (List.replicate (if vs.isEmpty = true then 0 else j.toNat) vs.toList).flatten = (List.replicate j.toNat vs.toList).flatten := by
    split
    · rename_i h0
      rw [show vs.toList = [] by simpa using h0]; simp
    · rfl
  rw [foldl_flat, List.map_replicate, e3]
  exact (r.mono fr.2.1).flat j.toNat
theorem bin_snd {x y z : AV} {u v : Value} {op : Operator} {Q : Value -> Shared -> Prop} (R : Rep prog w G tabs g P s.heap) (ra : VR prog w g x u) (rb : VR prog w g y v) (h : bin1 op x y = some z)
    (q : ∀ g' h' tk v, Step prog w G tabs g s g' P h' tk -> VR prog w g' z v -> Q v { s with heap := h', toks := tk }) : wpAny (model prog w) A (binaryOp op u v) Q E s := by
  have num : ∀ {i : Int} {tk t : Nat}, some (AV.int i) = some z -> Q (.int i t) { s with toks := tk } := fun {i tk t} e => q g s.heap tk _ (Step.here R) (si e ▸ .int i t)
  induction op using PySem.Operator.casesOn with
  | Add =>
    induction x using DK.AV.casesOn with
    | int a => induction y using DK.AV.casesOn with
      | int b => exact (vr_int ra).elim fun z_ e1 => (vr_int rb).elim fun z_ e2 => e1 ▸ e2 ▸ PySem.P.add_int (num h)
      | _ => exact nm h
    | _ => exact nm h
  | Sub =>
    induction x using DK.AV.casesOn with
    | int a => induction y using DK.AV.casesOn with
      | int b => exact (vr_int ra).elim fun z_ e1 => (vr_int rb).elim fun z_ e2 => e1 ▸ e2 ▸ PySem.P.sub_int (num h)
      | _ => exact nm h
    | _ => exact nm h
  | Mult =>
    induction x using DK.AV.casesOn with
    | int a => induction y using DK.AV.casesOn with
      | int b => exact (vr_int ra).elim fun z_ e1 => (vr_int rb).elim fun z_ e2 => e1 ▸ e2 ▸ oi h fun hs h => PySem.P.mul_int (num h) (IntMulOk.of_right (bits_small hs))
      | _ => exact nm h
    | lst l => induction y using DK.AV.casesOn with
      | int b => exact (vr_int rb).elim fun t e => e ▸ oi h fun hs h => mul_list R ra hs (si h ▸ q)
      | _ => exact nm h
    | _ => exact nm h
  | FloorDiv =>
    induction x using DK.AV.casesOn with
    | int a => induction y using DK.AV.casesOn with
      | int b => exact (vr_int ra).elim fun z_ e1 => (vr_int rb).elim fun z_ e2 => e1 ▸ e2 ▸ oi h fun hs h => AutoIntOps.floordiv_1 (by simp; omega) (by
        unfold Builtin.divisionGoesByPylong
        simp only [decide_eq_false (div_small hs), Bool.false_and, Bool.false_eq_true, not_false_iff]) (num h)
      | _ => exact nm h
    | _ => exact nm h
  | Mod =>
    induction x using DK.AV.casesOn with
    | int a => induction y using DK.AV.casesOn with
      | int b => exact (vr_int ra).elim fun z_ e1 => (vr_int rb).elim fun z_ e2 => e1 ▸ e2 ▸ oi h fun hs h => AutoIntOps.mod_1 (by simp; omega) (num h)
      | _ => exact nm h
    | _ => exact nm h
  | _ => exact nm h
theorem place_snd {i : Int} {n j : Nat} (h : place i n = some j) : seqIndex? i n = some j ∧ j < n ∧ -1000000 ≤ i ∧ i < 1000000 ∧ ((0 ≤ i ∧ j = i.toNat) ∨ (i < 0 ∧ -(n : Int) ≤ i ∧ j = (i + n).toNat)) := by
  refine oi h fun hb h => oe h (fun p h => oi h fun q h => ?_) fun p h => oi h fun q h => ?_
  · exact si h ▸ ⟨seqIndex_of p q, (Int.toNat_lt p).mpr q, hb.1, hb.2, .inl ⟨p, rfl⟩⟩
  · have h := si h
    refine ⟨?_, by omega, hb.1, hb.2, .inr ⟨Int.not_le.mp p, by omega, h.symm⟩⟩
    unfold seqIndex?
    simp only [Int.not_le.mp p, if_true]
    rw [← h]
    first | (rw [if_pos (by omega)]; done) | (rw [if_neg (by omega)]; done) | (simp; omega)
noncomputable def SubOk (prog : Program) (w : World) (A : Around) (E : Value -> Shared -> Prop) (s : Shared) (o i : Value) (Q : Value -> Shared -> Prop) : Prop :=
  ∃ T id, typeLookup (.type T) "__getitem__" = pure (some (.builtin id)) ∧ s.TypeIs o T ∧ wpAny (model prog w) A (getItem o i) Q E s
theorem item_list {a : Addr} {vs : Array Value} {i : Int} {t : Tok} {j : Nat} {x : AV} {l : List AV} {Q : Value -> Shared -> Prop} (hl : s.heap.IsList a vs) (r : VRs prog w g l vs.toList) (hp : place i l.length = some j) (hx : l[j]? = some x)
    (q : ∀ v, VR prog w g x v -> Q v s) : wpAny (model prog w) A (getItem (.ref a) (.int i t)) Q E s := by
  have hsz : vs.size = l.length := r.length.symm
  refine u12 (r.at hx) fun v e2 rv => ?_
  have e2 : vs[j]? = some v := (Array.getElem?_toList).symm.trans e2
  have hp := place_snd hp
  refine hp.2.2.2.2.elim (fun p => ?_) fun p => ?_
  · exact wpAny_getItem_list hl p.1 (Int.lt_trans hp.2.2.2.1 (by decide)) (p.2 ▸ e2) (q v rv)
  · exact wpAny_getItem_list_neg hl p.1 (hsz ▸ p.2.1) (Int.le_trans (by decide) hp.2.2.1) (hsz ▸ p.2.2 ▸ e2) (q v rv)
theorem item_ref {k : Nat} {i : AV} {o : Option AO} (e : P[k]? = o) : item P (.ref k) i = match (generalizing := false) o with
    | some (.list l) => match i with
      | .int i => (place i l.length).bind fun j => l[j]?
      | _ => .none
    | some (.dict es) => (dget i es).bind id
    | _ => .none := by subst e; rfl
theorem lst_at {k : Nat} {l : List AV} (e : P[k]? = some (.list l)) : lstOf P (.ref k) = some l := by
  show (match P[k]? with | some (.list l) => some l | _ => .none) = some l
  rw [e]
theorem item_by {o i x : AV} {M : Prop} (h : item P o i = some x) (ht : ∀ l k j, o = .tup l -> i = .int k -> place k l.length = some j -> l[j]? = some x -> M) (hl : ∀ l k j, lstOf P o = some l -> i = .int k -> place k l.length = some j -> l[j]? = some x -> M)
    (hd : ∀ k es, o = .ref k -> P[k]? = some (.dict es) -> dget i es = some (some x) -> M) : M := by
  induction o using DK.AV.casesOn with
  | tup l => induction i using DK.AV.casesOn with
    | int k => exact ob h fun j => ht l k j rfl rfl
    | _ => exact nm h
  | lst l => induction i using DK.AV.casesOn with
    | int k => exact ob h fun j => hl l k j rfl rfl
    | _ => exact nm h
  | ref k =>
    induction e : P[k]? using Option.casesOn with
    | none => exact nm ((item_ref (i := i) e).symm.trans h)
    | some o =>
      have h := (item_ref (i := i) e).symm.trans h
      induction o using DK.AO.casesOn with
      | list l => induction i using DK.AV.casesOn with
        | int m => exact ob h fun j => hl l m j (lst_at e) rfl
        | _ => exact nm h
      | dict es => exact ob h fun r h1 h2 => hd k es rfl e (show dget i es = some (some x) from (show r = some x from h2) ▸ h1)
      | inst => exact nm h
  | _ => exact nm h
theorem item_snd {o i x : AV} {u v : Value} {Q : Value -> Shared -> Prop} (R : Rep prog w G tabs g P s.heap) (ra : VR prog w g o u) (rb : VR prog w g i v) (h : item P o i = some x) (hu : A.units + 10 < cLine)
    (q : ∀ tk v, VR prog w g x v -> Q v { s with toks := tk }) : SubOk prog w A E s u v Q := by
  refine item_by h (fun l k j e1 e2 hp hx => ?_) (fun l k j hl e2 hp hx => ?_) fun k es e1 hP h2 => ?_
  · subst e1; subst e2
    refine u33 ra.inv fun a vs n e0 e r => (vr_int rb).elim fun t e2 => u12 (r.at hx) fun v' e3 rv => ?_
    have hp := place_snd hp
    have hsz : vs.size = l.length := r.length.symm
    exact e0 ▸ e2 ▸ ⟨"tuple", _, F.slot_tuple_getitem.lookup, ⟨_, R.fro _ _ e, rfl⟩, getItem_tuple ⟨_, R.fro _ _ e, rfl, n, rfl⟩ (Int.le_trans (by decide) hp.2.2.1) (Int.lt_trans hp.2.2.2.1 (by decide)) (hsz ▸ hp.1) ((Array.getElem?_toList).symm.trans e3) (q s.toks v' rv)⟩
  · subst e2
    exact (vr_int rb).elim fun t e2 => (lst_of R ra hl).casesOn fun a vs e0 pl r => e0 ▸ e2 ▸ ⟨"list", _, list_getitem_lookup, pl.elim fun n e => ⟨_, e, rfl⟩, item_list pl.isList r hp hx fun v rv => q s.toks v rv⟩
  · subst e1
    exact (dict_at R hP ra).casesOn fun d des ep e0 hd ho e ao => u12 (dget_snd R ao rb h2) fun rv hget hm => by
      induction rv using Option.casesOn with
      | none => exact hm.elim
      | some v => exact e0 ▸ ⟨"dict", _, slot_dict_getitem.lookup, ⟨_, e, rfl⟩, getItem_dct e hget (Nat.le_sub_of_add_le (Nat.le_of_lt (Nat.lt_of_le_of_lt (Nat.add_le_add_left (by decide : 2 ≤ 10) _) hu))) fun tk => q tk v hm⟩
end
end DK
namespace DK
open PySem PySem.W PySem.Calls PyProof.Rows
noncomputable def litOk : AV -> Value -> Prop
  | .top u, v => u = v
  | .int i, v => ∃ t, v = .int i t
  | .bool b, v => v = .bool b
  | .none, v => v = .none
  | _, _ => False
theorem vr_of_lit {prog : Program} {w : World} {g : Gh} {a : AV} {v : Value} (h : litOk a v) : VR prog w g a v := by
  induction a using DK.AV.casesOn with
  | top => exact (show _ = v from h) ▸ .top _
  | int => exact Exists.elim h fun t e => e ▸ .int _ t
  | bool => exact (show v = _ from h) ▸ .bool _
  | none => exact (show v = _ from h) ▸ .none
  | _ => exact False.elim h
inductive Lits : List AV -> List Value -> Prop
  | nil : Lits [] []
  | cons {a : AV} {v : Value} {l : List AV} {vs : List Value} : litOk a v -> Lits l vs -> Lits (a :: l) (v :: vs)
noncomputable def fiOk (fi : FI) : Bool := decide (fi.scope.names.map (·.1)).Nodup && decide fi.params.Nodup && fi.scope.names.all (fun p => !bad.contains p.1 && (match p.2 with | .local => true | .cell => true | .globalImplicit => true | _ => false)) &&
  fi.params.all fun x => match slook x fi.scope.names with | some .local => true | some .cell => true | _ => false
inductive FnEx (K : Frag) (tabs : List (Addr × Addr × Str)) (f : Addr) (fi : FI) : Prop
  | mk (oc : Value) (od : Option Addr) (osl : Array (Option Value)) (name qual : Str) (params : Arguments) (dV kV doc pm : Value) (an : Option Addr) (cdv ct : Value) (hl : K.lookup f = some ⟨oc, od, .func (fnOf name qual params fi.body fi.scope dV kV doc pm an cdv ct), osl⟩) (hc : codeIn K cdv qual = true)
    (hm : fi.lam = true -> ∃ c T, cdv = .ref c ∧ (c, T, qual ++ (".<locals>." : Str) ++ ("<lambda>" : Str)) ∈ tabs)
    (hb : ∃ dvs : List Value, Lits fi.dflt dvs ∧ ∀ vals b, bindD fi.params vals dvs = some b -> ∀ S, peek K S (bindArgs (fnOf name qual params fi.body fi.scope dV kV doc pm an cdv ct) ⟨vals, []⟩) = some b) : FnEx K tabs f fi
structure FnOk (K : Frag) (tabs : List (Addr × Addr × Str)) (f : Addr) (fi : FI) : Prop where
  ex : FnEx K tabs f fi
  co : fi.scope.isCoroutine = false
  gen : fi.scope.isGenerator = false
  kind : fi.scope.kind = .function
  ok : fiOk fi = true
noncomputable def keepU (K : Frag) : Value -> Bool
  | .ref a => keepIn K (.ref a)
  | _ => true
structure Facts (prog : Program) (w : World) (K : Frag) (G : Heap) (mg mb : Str -> Option Value) (tabs : List (Addr × Addr × Str)) : Prop where
  X : K.In G
  lim : G.NoLimit
  sys : ∃ o, G.get? sysModules = some o
  ns : G.Ns mainGlobals mg
  nb : G.Ns builtinsNs mb
  glob : ∀ x v, slook x globs = some v -> ∃ u, (mg x = some u ∨ (mg x = none ∧ mb x = some u)) ∧ litOk v u
  told : mg "_law_told" = some (.ref 700)
  keep : ∀ x u, slook x globs = some (.top u) -> keepU K u = true
  cls : ∀ C a, isField C a = true -> plainGet K C a = true ∧ hasDictIn K C = true ∧ findIn K (.ref C) a = some none ∧ findIn K (.ref C) "__setattr__" = some (some (.builtin "object.__setattr__")) ∧ plainOver K C = true ∧ takerIn K C a = some none
  meth : ∀ C m f, slook m (classOf C) = some (.meth f) -> plainGet K C m = true ∧ hasDictIn K C = true ∧ findIn K (.ref C) m = some (some (.ref f)) ∧ typeIn K (.ref f) = some (.type "function") ∧ keepIn K (.ref f) = true ∧
    specialIn K (.ref f) "__get__" = some (some (.builtin "function.__get__")) ∧ takesIn K (.ref f) = some false ∧ copiedNames.contains m = false
  prop : ∀ C m f, slook m (classOf C) = some (.prop f) -> plainGet K C m = true ∧ hasDictIn K C = true ∧ ∃ p rest, findIn K (.ref C) m = some (some (.ref p)) ∧ specialIn K (.ref p) "__get__" = some (some (.builtin "property.__get__")) ∧
    takesIn K (.ref p) = some true ∧ recIn K p "property" = some (.ref f :: rest)
  fn : ∀ f fi, finfo f = some fi -> FnOk K tabs f fi
  made : ∀ C f, initOf C = some f -> makesIn K C = true ∧ findIn K (.ref C) "__init__" = some (some (.ref f)) ∧ typeIn K (.ref f) = some (.type "function")
section
variable {prog : Program} {w : World} {K : Frag} {G : Heap} {mg mb : Str -> Option Value} {tabs : List (Addr × Addr × Str)} {g : Gh} {A : Around} {E : Value -> Shared -> Prop} {s : Shared} {P : Hp}
theorem Facts.at (F : Facts prog w K G mg mb tabs) (R : Rep prog w G tabs g P s.heap) : K.In s.heap := F.X.keeps R.inG
theorem str_is {x a : Str} {t : Tok} : (Value.str x t).isStr a = decide (a = x) := Bool.eq_iff_iff.mpr (beq_iff_eq.trans (eq_comm.trans decide_eq_true_iff.symm))
theorem getL_t {a : Str} {e : DictEntry} {es : List DictEntry} (h : e.key.isStr a = true) : getL a (e :: es) = some (some e.val) := by unfold getL; rw [List.find?_cons, h]
theorem getL_f {a : Str} {e : DictEntry} {es : List DictEntry} (h : e.key.isStr a = false) (k : e.refKey = false) : getL a (e :: es) = getL a es := by unfold getL; rw [List.find?_cons, h, List.any_cons, k, Bool.false_or]
theorem FsR.get {a : Str} {fs : List (Str × AV)} {es : List DictEntry} (r : FsR prog w g fs es) : (∃ v u, slook a fs = some v ∧ getL a es = some (some u) ∧ VR prog w g v u) ∨ (slook a fs = none ∧ getL a es = some none) := by
  refine FsR.ind (M := fun fs es => (∃ v u, slook a fs = some v ∧ getL a es = some (some u) ∧ VR prog w g v u) ∨ (slook a fs = none ∧ getL a es = some none)) (.inr ⟨rfl, rfl⟩) (fun {x t v hs u fs es} r q m => ?_) r
  by_cases h : a = x
  · exact .inl ⟨v, u, slook_self h, getL_t (str_is.trans (decide_eq_true h)), r⟩
  · rw [slook_ne h, getL_f (str_is.trans (decide_eq_false h)) rfl]
    exact m
theorem FsR.put {a : Str} {v : AV} {u : Value} {hs : Int} {t : Tok} (hv : VR prog w g v u) {fs : List (Str × AV)} {es : List DictEntry} (r : FsR prog w g fs es) : FsR prog w g (sput a v fs) (putL a hs (.str a t) u es) := by
  refine FsR.ind (M := fun fs es => FsR prog w g (sput a v fs) (putL a hs (.str a t) u es)) (.cons hv .nil) (fun {x t' v' hs' u' fs es} r q m => ?_) r
  unfold putL
  by_cases h : a = x
  · rw [sput_at h, show (Value.str x t').isStr a = true from str_is.trans (decide_eq_true h), if_pos rfl]; exact .cons hv q
  · rw [sput_ne h, show (Value.str x t').isStr a = false from str_is.trans (decide_eq_false h), if_neg Bool.false_ne_true]; exact .cons r m
theorem FsR.len {fs : List (Str × AV)} {es : List DictEntry} (r : FsR prog w g fs es) : fs.length = es.length := FsR.ind (M := fun fs es => fs.length = es.length) rfl (fun z_ z_ m => congrArg Nat.succ m) r
inductive InsAt (prog : Program) (w : World) (g : Gh) (s : Shared) (j C : Nat) (fs : List (Str × AV)) (v : Value) : Prop
  | mk (a d : Addr) (des : Array DictEntry) (ep : Nat) (h1 : v = .ref a) (h2 : g.σ[j]? = some a) (h3 : g.ρ a = .own j) (h4 : g.ρ d = .ownD j) (h5 : s.heap.get? a = some (instObj C d)) (h6 : s.heap.get? d = some (dctObj des ep)) (h7 : FsR prog w g fs des.toList) : InsAt prog w g s j C fs v
theorem inst_at (R : Rep prog w G tabs g P s.heap) {j C : Nat} {fs : List (Str × AV)} {v : Value} (hP : P[j]? = some (.inst C fs)) (r : VR prog w g (.ref j) v) : InsAt prog w g s j C fs v :=
  u12 r.inv fun x e hk => u13 (R.own _ _ hP) fun a h1 h2 h3 => u34 h3.inv fun d des ep e1 hd f q => ⟨a, d, des, ep, (si (hk.symm.trans h1)) ▸ e, h1, h2, hd, e1, f, q⟩
theorem instAt_of {h : Heap} {a d C : Addr} {des : Array DictEntry} {ep : Nat} (e : h.get? a = some (instObj C d)) (f : h.get? d = some (dctObj des ep)) : InstAt h a (instObj C d) C (some (dctObj des ep)) := ⟨e, rfl, rfl, f⟩
theorem lookIn_d {name : Str} {des : Array DictEntry} {ep : Nat} : lookIn name (dctObj des ep) = getL name des.toList := rfl
theorem handed_of {a : AV} {v : Value} (r : VR prog w g a v) (h : notTop a = true) : handedIn v = true := by
  have r := r.inv
  induction a using DK.AV.casesOn with
  | top => exact nt h
  | none => exact r ▸ rfl
  | bool => exact r ▸ rfl
  | int => exact r.elim fun z_ q => q ▸ rfl
  | str => exact r.elim fun z_ q => q ▸ rfl
  | byt => exact r.elim fun z_ q => q ▸ rfl
  | ref => exact u12 r fun z_ q z_ => q ▸ rfl
  | tup => exact u33 r fun z_ z_ z_ q z_ z_ => q ▸ rfl
  | lst => exact u33 r fun z_ z_ z_ q z_ z_ => q ▸ rfl
  | ins => exact u44 r fun z_ z_ z_ z_ q z_ z_ z_ => q ▸ rfl
  | met => exact u23 r fun z_ z_ q z_ z_ => q ▸ rfl
  | rng => exact u54 r fun z_ z_ z_ z_ z_ q z_ z_ z_ => q ▸ rfl
  | dvl => exact u23 r fun z_ z_ q z_ z_ => q ▸ rfl
  | iset => exact u23 r fun z_ z_ q z_ z_ => q ▸ rfl
theorem getF_snd (F : Facts prog w K G mg mb tabs) (R : Rep prog w G tabs g P s.heap) {x d C : Addr} {des : Array DictEntry} {ep : Nat} {fs : List (Str × AV)} {a : Str} {k : AV -> Out} {res : Res} {expr : Bool} {Q : Value -> Shared -> Prop}
    (e : s.heap.get? x = some (instObj C d)) (f : s.heap.get? d = some (dctObj des ep)) (q : FsR prog w g fs des.toList) (h : getF C a fs k = some res) (hQ : ∀ tk v u, k v = some res -> VR prog w g v u -> Q u { s with toks := tk }) :
    wpAny (model prog w) A (getAttr (.ref x) a expr) Q E s :=
  oi h fun hf h => omA h fun v hv h => oi h fun nt h => (q.get (a := a)).elim (fun z => u23 z fun v' u e1 e2 r => (F.cls C a hf).elim fun c1 z => z.elim fun c2 z => z.elim fun c3 z_ =>
    get_value (F.at R) (instAt_of e f) (plainGet_of c1).1 (findObj_own c2 c3 rfl (lookIn_d.trans e2)) (handed_of r (si (e1.symm.trans hv) ▸ nt)) (hQ _ v u h (si (e1.symm.trans hv) ▸ r))) fun z => nm (z.1.symm.trans hv)
theorem getL_any {a : Str} {l : List DictEntry} (h : ∃ z, getL a l = some z) : (!l.any (·.key.isStr a) && l.any (·.refKey)) = false := by
  refine h.elim fun z hl => ?_
  unfold getL at hl
  induction he : l.find? (·.key.isStr a) using Option.casesOn with
  | some en => rw [List.any_eq_true.mpr ⟨en, List.mem_of_find?_eq_some he, List.find?_some he⟩]; rfl
  | none =>
    rw [he] at hl
    induction hr : l.any (·.refKey) using Bool.casesOn with
    | false => exact Bool.and_false _
    | true => rw [hr] at hl; exact nm hl
theorem sput_len {a : Str} {y : AV} (l : List (Str × AV)) : (sput a y l).length ≤ l.length + 1 := by
  induction l with
  | nil => exact Nat.le_refl _
  | cons p l ih => exact (Classical.em (a = p.1)).elim (fun e => Nat.le_trans (Nat.le_of_eq (congrArg List.length (sput_at (z := p.1) (u := p.2) e))) (Nat.le_succ _)) fun e => Nat.le_trans (Nat.le_of_eq (congrArg List.length (sput_ne (z := p.1) (u := p.2) e))) (Nat.succ_le_succ ih)
theorem setF_core (F : Facts prog w K G mg mb tabs) (X : K.In s.heap) {x d C : Addr} {des : Array DictEntry} {ep : Nat} {fs : List (Str × AV)} {a : Str} {v : Value} {y : AV} {Q : Unit -> Shared -> Prop}
    (e : s.heap.get? x = some (instObj C d)) (f : s.heap.get? d = some (dctObj des ep)) (q : FsR prog w g fs des.toList) (hf : isField C a = true) (hz : fs.length < 100) (rv : VR prog w g y v)
    (hQ : ∀ h' tk des' ep', Heap.SameBut d s.heap h' -> h'.get? d = some (dctObj des' ep') -> FsR prog w g (sput a y fs) des'.toList -> Q () { s with heap := h', toks := tk }) : wpAny (model prog w) A (setAttr (.ref x) a v) Q E s := by
  refine (F.cls C a hf).elim fun c1 z => z.elim fun c2 z => z.elim fun c3 z => z.elim fun c4 z => z.elim fun c5 c6 => ?_
  have I := instAt_of e f
  have I' : InstAt ({ s with toks := s.toks + 1 } : Shared).heap x (instObj C d) C (some (dctObj des ep)) := I
  refine set_plain X I c4 (osa_open (s := { s with toks := s.toks + 1 }) X I' c5 c6 fun b => ?_)
  refine u12 (any_some c2) fun cd hc hd' => ?_
  refine wpAny_bind (wpAny_pure (wpAny_bind (wpAny_bind (wpAny_loadPart (s := { s with toks := s.toks + 1 }) e (wpAny_bind (Looks.here (s := { s with toks := s.toks + 1 }) (looks_clsIn X hc) ?_))))))
  rw [hd']
  refine wpAny_pure (a := some d) (wpAny_bind (wpAny_pure (wpAny_bind ?_)))
  unfold nsSet
  refine wpAny_bind (wpAny_bind (wpAny_askSetting (wpAny_pure (wpAny_bind (wpAny_mkText (wpAny_bind (wpAny_loadPart (s := { s with toks := s.toks + 1 + 1 }) f ?_)))))))
  have c : (!des.any (·.key.isStr a) && des.any (·.refKey)) = false := by
    rw [← Array.any_toList, ← Array.any_toList]
    exact getL_any ((q.get (a := a)).elim (fun z => u23 z fun z_ z_ z_ e2 z_ => ⟨_, e2⟩) fun z => ⟨_, z.2⟩)
  dsimp only
  rw [aRefKeyMayBeTheName_at, c]
  have key : Obj.putName a (PyData.keyHash w.params a) (.str a (s.toks + 1)) v (dctObj des ep) = dctObj (putL a (PyData.keyHash w.params a) (.str a (s.toks + 1)) v des.toList).toArray (putN a des.toList ep) :=
    putName_dict a (PyData.keyHash w.params a) (.str a (s.toks + 1)) v des.toList ep
  have D' := Heap.get?_update_self (Obj.putName a (PyData.keyHash w.params a) (.str a (s.toks + 1)) v) f (by rw [key]; rfl)
  rw [key] at D'
  have len : (putL a (PyData.keyHash w.params a) (.str a (s.toks + 1)) v des.toList).length ≤ 200 := by
    rw [← (FsR.put (a := a) (hs := PyData.keyHash w.params a) (t := s.toks + 1) rv q).len]
    exact Nat.le_trans (sput_len fs) (Nat.le_trans (Nat.succ_le_succ (Nat.le_of_lt hz)) (by decide))
  refine wpAny_updatePart (s := { s with toks := s.toks + 1 + 1 }) f ?_
  refine wpAny_bind (wpAny_lookBehind (s := { s with heap := _, toks := _ }) D' (pastItsLine_dict (Nat.le_trans len (sizeLine_eq ▸ by decide))) ?_)
  exact wpAny_pure (hQ _ _ _ _ (Heap.SameBut.update ..) D' (FsR.put rv q))
theorem setF_snd (F : Facts prog w K G mg mb tabs) (R : Rep prog w G tabs g P s.heap) {j C : Nat} {fs : List (Str × AV)} {a : Str} {o v : Value} {y : AV} {Q : Unit -> Shared -> Prop}
    (hP : P[j]? = some (.inst C fs)) (ro : VR prog w g (.ref j) o) (hf : isField C a = true) (hz : fs.length < 100) (rv : VR prog w g y v)
    (hQ : ∀ h' tk, Step prog w G tabs g s g (P.set j (.inst C (sput a y fs))) h' tk -> Q () { s with heap := h', toks := tk }) : wpAny (model prog w) A (setAttr o a v) Q E s := by
  refine (inst_at R hP ro).casesOn fun x d des ep e0 hσ hx hd e f q => ?_
  subst e0
  exact setF_core F (F.at R) e f q hf hz rv fun h' tk des' ep' sb D' q' => hQ _ _ ⟨R.setObj hσ (.inr hd) sb (.inst ((sb.2 x fun z => rx (hx.symm.trans (z ▸ hd))).trans e) hd D' q') (List.getElem?_eq_some_iff.mp hP).1, fun b => Ext.of_own (.inr hd) sb fun z => rx (hd.symm.trans z)⟩
end
end DK
namespace DK
open PySem PySem.W PySem.Calls PyProof.Rows
section
variable {prog : Program} {w : World} {K : Frag} {G : Heap} {mg mb : Str -> Option Value} {tabs : List (Addr × Addr × Str)} {g : Gh} {A : Around} {E : Value -> Shared -> Prop} {s : Shared} {P : Hp}
theorem findObj_nd {a gt : Value} {C : Addr} {od : Obj} {name : Str} (hh : hasDictIn K C = true) (ha : findIn K (.ref C) name = some (some a)) (hg : specialIn K a "__get__" = some (some gt)) (ht : takesIn K a = some false)
    (hc : copiedNames.contains name = false) (hl : lookIn name od = some none) : findObj K C (some od) name = some (.bind gt a) := by
  refine u12 (any_some hh) fun cd hcd hd => ?_
  unfold findObj
  have ho : PySem.W.ownOf cd (some od) name = some none := by unfold PySem.W.ownOf; rw [if_pos hd]; exact hl
  rw [hcd, Option.bind_some, ha, Option.bind_some]
  simp only [hg, ht, Option.bind_some, ho, hc, Bool.false_and, Bool.false_eq_true, if_false]
theorem none_field {a : Str} {fs : List (Str × AV)} {es : List DictEntry} (q : FsR prog w g fs es) (h : (slook a fs).isNone = true) : getL a es = some none :=
  q.get.elim (fun z => u23 z fun v u e1 z_ z_ => nt (e1 ▸ h : (some v).isNone = true)) And.right
theorem bound_snd (F : Facts prog w K G mg mb tabs) (R : Rep prog w G tabs g P s.heap) {j C f : Nat} {fs : List (Str × AV)} {m : Str} {o : Value} {expr : Bool} {Q : Value -> Shared -> Prop}
    (hP : P[j]? = some (.inst C fs)) (ro : VR prog w g (.ref j) o) (hm : slook m (classOf C) = some (.meth f)) (hn : (slook m fs).isNone = true)
    (hQ : ∀ g' h' tk v, Step prog w G tabs g s g' P h' tk -> VR prog w g' (.met f (.ref j)) v -> Q v { s with heap := h', toks := tk }) : wpAny (model prog w) A (getAttr o m expr) Q E s := by
  refine (inst_at R hP ro).casesOn fun x d des ep e0 hσ hx hd e fd q => u08 (F.meth C m f hm) fun c1 c2 c3 c4 c5 c6 c7 c8 => ?_
  subst e0
  have X := F.at R
  refine get_bind X (instAt_of e fd) (plainGet_of c1).1 (findObj_nd c2 c3 c6 c7 c8 (lookIn_d.trans (none_field q hn))) (plainGet_of c1).2 (wpAny_call (fn_get (s := { s with toks := s.toks + 1 }) X c4 ?_))
  have fr := R.froze (o := methodObj (.ref f) (.ref x)) rfl
  exact handed_on rfl (hQ _ _ _ _ ⟨fr.1, fun b => fr.2.2.1 b _⟩ (.met fr.2.2.2 (ro.mono fr.2.1)))
theorem method_snd (F : Facts prog w K G mg mb tabs) (R : Rep prog w G tabs g P s.heap) {j C f : Nat} {fs : List (Str × AV)} {m : Str} {o : Value} {pl : Sem Bool} {Q : Value × List Value -> Shared -> Prop}
    (hP : P[j]? = some (.inst C fs)) (ro : VR prog w g (.ref j) o) (hm : slook m (classOf C) = some (.meth f)) (hn : (slook m fs).isNone = true) (h : Q (.ref f, [o]) s) : wpAny (model prog w) A (getMethod o m pl) Q E s := by
  refine (inst_at R hP ro).casesOn fun x d des ep e0 hσ hx hd e fd q => u08 (F.meth C m f hm) fun c1 c2 c3 c4 z_ z_ z_ z_ => ?_
  subst e0
  exact method_fn (F.at R) (instAt_of e fd) (plainGet_of c1).1 (plainGet_of c1).2 c3 c4 (by show (lookIn m (dctObj des ep)).map _ = _; rw [lookIn_d, none_field q hn]; rfl) h
inductive LsAt (prog : Program) (w : World) (g : Gh) (s : Shared) (j : Nat) (l : List AV) (v : Value) : Prop
  | mk (a : Addr) (vs : Array Value) (n : Nat) (h1 : v = .ref a) (h2 : g.σ[j]? = some a) (h3 : g.ρ a = .own j) (h4 : s.heap.get? a = some (listObj vs n)) (h5 : VRs prog w g l vs.toList) : LsAt prog w g s j l v
theorem list_at (R : Rep prog w G tabs g P s.heap) {j : Nat} {l : List AV} {v : Value} (hP : P[j]? = some (.list l)) (r : VR prog w g (.ref j) v) : LsAt prog w g s j l v :=
  u12 r.inv fun x e hk => u13 (R.own _ _ hP) fun a h1 h2 h3 => u22 h3.inv fun vs n e1 q => ⟨a, vs, n, (si (hk.symm.trans h1)) ▸ e, h1, h2, e1, q⟩
theorem setList (R : Rep prog w G tabs g P s.heap) {j : Nat} {a : Addr} {l : List AV} {vs : Array Value} {n n' : Nat} {l' : List AV} {vs' : Array Value} {h' : Heap} {tk : Nat} (hP : P[j]? = some (.list l)) (hσ : g.σ[j]? = some a) (ha : g.ρ a = .own j) (e : s.heap.get? a = some (listObj vs n))
    (e' : h'.get? a = some (listObj vs' n')) (r : VRs prog w g l' vs'.toList) (sb : Heap.SameBut a s.heap h') : Step prog w G tabs g s g (P.set j (.list l')) h' tk :=
  ⟨R.setObj hσ (.inl ha) sb (.list e' r) (List.getElem?_eq_some_iff.mp hP).1, fun b => Ext.of_own (.inl ha) sb fun z_ es ep z => by rw [e] at z; exact absurd (congrArg Obj.cls (Option.some.inj z)) (by show Value.type "list" ≠ Value.type "dict"; decide)⟩
theorem size_of {l : List AV} {vs : Array Value} (q : VRs prog w g l vs.toList) : vs.size = l.length := q.length.symm
theorem sizeL : sizeLine = 16777216 := rfl
theorem szL {n m : Nat} (e : n = m) (h : m < 100001) : n < sizeLine := e ▸ Nat.lt_trans h (sizeL ▸ by decide)
theorem append_snd (R : Rep prog w G tabs g P s.heap) {j : Nat} {l : List AV} {x : AV} {o v : Value} {Q : Value -> Shared -> Prop} (hP : P[j]? = some (.list l)) (ro : VR prog w g (.ref j) o) (rv : VR prog w g x v) (hz : l.length < 100000)
    (hQ : ∀ h' tk, Step prog w G tabs g s g (P.set j (.list (l ++ [x]))) h' tk -> Q .none { s with heap := h', toks := tk }) : wpAny (model prog w) A (call (.builtin "list.append") [o, v]) Q E s := by
  refine (list_at R hP ro).casesOn fun a vs n e0 hσ ha e q => ?_
  subst e0
  refine wpAny_list_append_plain ⟨n, e⟩ (fun h' pl sb => pl.elim fun n' e' => ?_) (Nat.le_of_lt (szL (size_of q) (Nat.lt_succ_of_lt hz)))
  refine hQ h' s.toks (setList R hP hσ ha e e' ?_ sb)
  rw [Array.toList_push]
  exact q.append (.cons rv .nil)
theorem mapSeq_at {h : Heap} {a : Addr} {vs : Array Value} {n : Nat} (e : h.get? a = some (listObj vs n)) (f : Array Value -> Array Value) : ∃ n', (h.update a (Obj.mapSeq f)).get? a = some (listObj (f vs) n') :=
  ⟨_, Heap.get?_update_self (Obj.mapSeq f) e rfl⟩
theorem VRs.last {l : List AV} {vs : List Value} {x : AV} (r : VRs prog w g l vs) (h : l.getLast? = some x) : ∃ v, vs[vs.length - 1]? = some v ∧ VR prog w g x v ∧ VRs prog w g l.dropLast (vs.eraseIdx (vs.length - 1)) := by
  rw [List.getLast?_eq_getElem?] at h
  refine u12 (r.at h) fun v e2 rv => ⟨v, r.length ▸ e2, rv, ?_⟩
  have hlt := (List.getElem?_eq_some_iff.mp e2).1
  have e3 : vs.eraseIdx (vs.length - 1) = vs.dropLast := by
    rw [List.eraseIdx_eq_take_drop_succ, List.drop_eq_nil_of_le (Nat.le_of_eq (Nat.sub_add_cancel (Nat.lt_of_le_of_lt (Nat.zero_le _) hlt)).symm), List.append_nil, List.dropLast_eq_take]
  rw [e3, List.dropLast_eq_take, List.dropLast_eq_take, ← r.length]
  exact r.take _
theorem erase_at {vs : Array Value} {i : Nat} (h : i < vs.size) : (vs.eraseIdxIfInBounds i).toList = vs.toList.eraseIdx i := by
  unfold Array.eraseIdxIfInBounds
  rw [dif_pos h, Array.toList_eraseIdx]
theorem pop_snd (R : Rep prog w G tabs g P s.heap) {j : Nat} {l : List AV} {x : AV} {o : Value} {Q : Value -> Shared -> Prop} (hP : P[j]? = some (.list l)) (ro : VR prog w g (.ref j) o) (hx : l.getLast? = some x) (hz : l.length < 100000)
    (hQ : ∀ h' tk v, Step prog w G tabs g s g (P.set j (.list l.dropLast)) h' tk -> VR prog w g x v -> Q v { s with heap := h', toks := tk }) : wpAny (model prog w) A (call (.builtin "list.pop") [o]) Q E s := by
  refine (list_at R hP ro).casesOn fun a vs n e0 hσ ha e q => u13 (q.last hx) fun v e1 rv q' => ?_
  subst e0
  have e1 : vs[vs.size - 1]? = some v := (Array.getElem?_toList).symm.trans e1
  refine call_meets F.slot_list_pop ⟨_, e, rfl⟩ F.entry_list_pop (F.args_list_pop_1 _) (MeetsSeq.list_pop_last a vs n v e1 (Nat.le_of_lt (szL (size_of q) (Nat.lt_succ_of_lt hz)))) ⟨e, ?_⟩
  refine (mapSeq_at e fun xs => xs.eraseIdxIfInBounds (vs.size - 1)).elim fun n' e' => ?_
  exact hQ _ s.toks v (setList R hP hσ ha e e' ((erase_at (Array.getElem?_eq_some_iff.mp e1).1).symm ▸ q') (Heap.SameBut.update ..)) rv
theorem pop0_snd (R : Rep prog w G tabs g P s.heap) {j : Nat} {l : List AV} {x : AV} {o : Value} {t : Tok} {Q : Value -> Shared -> Prop} (hP : P[j]? = some (.list (x :: l))) (ro : VR prog w g (.ref j) o) (hz : l.length < 100000)
    (hQ : ∀ h' tk v, Step prog w G tabs g s g (P.set j (.list l)) h' tk -> VR prog w g x v -> Q v { s with heap := h', toks := tk }) : wpAny (model prog w) A (call (.builtin "list.pop") [o, .int 0 t]) Q E s := by
  refine (list_at R hP ro).casesOn fun a vs n e0 hσ ha e q => u23 q.ex fun v vl hv rv q' => ?_
  subst e0
  have hs : vs.size = l.length + 1 := size_of q
  have h0 : 0 < vs.size := hs ▸ Nat.succ_pos _
  have e1 : vs[0]? = some v := (Array.getElem?_toList).symm.trans (hv ▸ rfl)
  refine call_meets F.slot_list_pop ⟨_, e, rfl⟩ F.entry_list_pop (F.args_list_pop_2 _ _) (MeetsSeq.list_pop_at a vs n 0 t 0 v (by decide) (seqIndex_of (by decide) (Int.ofNat_lt.mpr h0)) e1 (Nat.le_of_lt (szL hs (Nat.succ_lt_succ hz)))) ⟨e, ?_⟩
  refine (mapSeq_at e fun xs => xs.eraseIdxIfInBounds 0).elim fun n' e' => ?_
  exact hQ _ s.toks v (setList R hP hσ ha e e' (((erase_at h0).trans (hv ▸ rfl : _ = vl)).symm ▸ q') (Heap.SameBut.update ..)) rv
theorem dvalues_snd (F : Facts prog w K G mg mb tabs) (R : Rep prog w G tabs g P s.heap) {j : Nat} {es : List (AV × AV)} {o : Value} {Q : Value -> Shared -> Prop} (hP : P[j]? = some (.dict es)) (ro : VR prog w g (.ref j) o)
    (hQ : ∀ g' h' tk v, Step prog w G tabs g s g' P h' tk -> VR prog w g' (.dvl j) v -> Q v { s with heap := h', toks := tk }) : wpAny (model prog w) A (call (.builtin "dict.values") [o]) Q E s := by
  refine (dict_at R hP ro).casesOn fun d des ep e0 hd ho e ao => ?_
  subst e0
  refine wpAny_call_entry PySem.F.slot_dict_values (typeIs_dct e) PySem.F.entry_dict_values ?_ (PySem.F.args_dict_values_1 _)
  unfold Builtin.«dict.values»
  have ns := own_ne_sys R F.sys ho
  have fr := R.froze (o := { cls := .type "dict_values", data := .fields #[.ref d] }) rfl
  have fin := hQ _ _ s.toks _ ⟨fr.1, fun b => fr.2.2.1 b _⟩ (.dvl (fr.2.1.pre _ _ hd) fr.2.2.2)
  refine wpAny_bind ?_
  unfold Builtin.Dict.noArgs
  refine wpAny_bind (wpAny_notOrdered_dict (typeIs_dct e) ?_)
  show wpAny _ _ (pure d) _ _ s
  refine wpAny_pure ?_
  show wpAny _ _ (Builtin.Dict.showsAll d >>= _) _ _ s
  unfold Builtin.Dict.showsAll
  rw [if_neg (by rw [ns]; exact Bool.false_ne_true)]
  refine wpAny_bind (wpAny_pure ?_)
  exact wpAny_bind (wpAny_newObj_type (wpAny_pure ⟨_, rfl, fin⟩))
end
end DK
namespace DK
open PySem PySem.W PySem.Calls PyProof.Rows
inductive ExSt where
  | fresh
  | fly
  | held (L : Addr)
inductive TbAt (e d : Addr) (vs : Array Value) (fl : Value) (g : Gh) (h : Heap) : Prop
  | mk (T : Addr) (oT : Obj) (ts : Array Value) (h1 : vs[1]? = some (.ref T)) (h2 : g.ρ T = .any) (h3 : T ≠ e) (h4 : T ≠ d) (h5 : h.get? T = some oT) (h6 : oT.data = .fields ts) (h7 : ts[3]? = some fl) : TbAt e d vs fl g h
noncomputable def TbSt (st : ExSt) (e d : Addr) (vs : Array Value) (g : Gh) (h : Heap) : Prop := match st with
  | .fresh => vs[1]? = some .none
  | .fly => TbAt e d vs .none g h
  | .held L => TbAt e d vs (rawInt L) g h
inductive Exc (prog : Program) (w : World) (b : AV) (st : ExSt) (e : Addr) (g : Gh) (h : Heap) : Prop
  | mk (d : Addr) (es : Array DictEntry) (ep : Nat) (vs : Array Value) (tv : Value) (he : h.get? e = some { cls := .ref 52, dict := some d, data := .fields vs }) (re : g.ρ e = .any) (rd : g.ρ d = .any) (hne : e ≠ d) (hd : h.get? d = some (dctObj es ep))
    (ht : getL "told" es.toList = some (some tv)) (rv : VR prog w g b tv) (nt : notTop b = true) (hsz : 1 < vs.size) (tb : TbSt st e d vs g h) : Exc prog w b st e g h
section
variable {prog : Program} {w : World} {K : Frag} {G : Heap} {mg mb : Str -> Option Value} {tabs : List (Addr × Addr × Str)} {g : Gh} {A : Around} {E : Value -> Shared -> Prop} {s : Shared} {P : Hp} {e L : Addr} {b : AV} {env : Env} {outer : List Env}
theorem funFrames_of (R : Rep prog w G tabs g P s.heap) {l : List Env} (h : ∀ e ∈ l, e.scope.kind ≠ .module ∧ ∃ L, e.frame = some L ∧ g.ρ L = .frm) : s.heap.FunFrames {} l := by
  induction l with
  | nil => trivial
  | cons env r ih => exact (h env (.head _)).elim fun h1 z => u12 z fun L h2 h3 => (R.frm L h3).elim fun m z => u33 z fun o es ep ho hd z_ => ⟨h1, ⟨L, o, h2, rfl, ho, fun vs q => Data.noConfusion (hd.symm.trans q)⟩, ih fun e he => h e (.tail _ he)⟩
theorem frames_frm {l : List Env} (h : ∀ e ∈ l, e.scope.kind ≠ .module ∧ ∃ L, e.frame = some L ∧ g.ρ L = .frm) {a : Addr} (ha : a ∈ l.filterMap (·.frame)) : g.ρ a = .frm :=
  u12 (List.mem_filterMap.mp ha) fun x hx hf => u12 (h x hx).2 fun L h2 h3 => si (h2.symm.trans hf) ▸ h3
noncomputable def Note (g : Gh) (h h' : Heap) : Prop := h.objs.size ≤ h'.objs.size ∧ (∀ a o, g.ρ a ≠ .any -> g.ρ a ≠ .frm -> h.get? a = some o -> h'.get? a = some o) ∧ ∀ a o, g.ρ a = .frm -> h.get? a = some o -> ∃ sl, h'.get? a = some { o with slots := sl }
theorem Note.refl (h : Heap) : Note g h h := ⟨Nat.le_refl _, fun z_ z_ z_ z_ e => e, fun z_ o z_ e => ⟨o.slots, e⟩⟩
theorem Note.trans {h₁ h₂ h₃ : Heap} (x : Note g h₁ h₂) (y : Note g h₂ h₃) : Note g h₁ h₃ :=
  ⟨Nat.le_trans x.1 y.1, fun a o r1 r2 e => y.2.1 a o r1 r2 (x.2.1 a o r1 r2 e), fun a o r e => let ⟨_, e₁⟩ := x.2.2 a o r e; let ⟨sl, e₂⟩ := y.2.2 a _ r e₁; ⟨sl, e₂⟩⟩
theorem Note.of_keep {h h' : Heap} (hs : h.objs.size ≤ h'.objs.size) (k : ∀ a o, g.ρ a ≠ .any -> h.get? a = some o -> h'.get? a = some o) : Note g h h' :=
  ⟨hs, fun a o r z_ e => k a o r e, fun a o r e => ⟨o.slots, k a o (rn r) e⟩⟩
theorem Note.step {h' : Heap} {tk : Nat} (N : Note g s.heap h') (R : Rep prog w G tabs g P s.heap) : Step prog w G tabs g s g P h' tk := by
  refine ⟨R.quiet N.1 (fun a o r1 r2 z_ z_ e => N.2.1 a o r1 r2 e) (fun a r => (R.frm a r).imp fun m n => ns_slots n fun o e => N.2.2 a o r e) (fun a r => (R.cel a r).imp fun v z => z.imp fun o z => z.imp_left (N.2.1 a o (rn r) (rn r))), fun b => ⟨⟨rfl, rfl, rfl⟩, N.1, .refl g, fun a o r e => N.2.1 a o (rn r) (rn r) e,
    fun a o z_ r e => N.2.2 a o r e, fun a o z_ r e => N.2.1 a o (rn r) (rn r) e, fun a i r => .of_keep fun o e => N.2.1 a o (rn r) (rn r) e⟩⟩
theorem noteE (hA : A.frames = some (env :: outer)) (hF : env.frame = some L) (hC : ∀ e ∈ env :: outer, e.scope.kind ≠ .module ∧ ∃ L, e.frame = some L ∧ g.ρ L = .frm) (R : Rep prog w G tabs g P s.heap)
    {st : ExSt} {head : Value} {hadNext : Bool} {Q : Unit -> Shared -> Prop} (x : Exc prog w b st e g s.heap)
    (h : ∀ h', Note g s.heap h' -> Exc prog w b (.held L) e g h' -> Q () { s with heap := h' }) :
    wpAny (model prog w) A (do let a ← frameOf env; let pl ← entryPlaceOf L hadNext; let b ← EntryCells.newEntry head a .none (rawInt L) .none pl; setField (.ref e) 1 b) Q E s := by
  refine x.casesOn fun d es ep vs tv he re rd hne hd ht rv nt hsz z_ => ?_
  refine wpAny_bind (wpAny_frameOf_fun hA (funFrames_of R hC) hF fun h₁ hs₁ => ?_)
  refine wpAny_bind (wpAny_entryPlaceOf fun pl hpl => ?_)
  unfold EntryCells.newEntry newFields
  refine wpAny_bind (wpAny_newObj_type ?_ (hpl.sizeOk5 _ _ _ _ _))
  have nf : ∀ {a : Addr}, g.ρ a = .any -> a ∉ (env :: outer).filterMap (·.frame) := fun r m => rx (r.symm.trans (frames_frm hC m))
  have he₁ := (hs₁.2.1 e (nf re)).trans he
  have hd₁ := (hs₁.2.1 d (nf rd)).trans hd
  have hsz₁ : h₁.objs.size = s.heap.objs.size := hs₁.1
  have hTe : h₁.objs.size ≠ e := Nat.ne_of_gt (Heap.lt_size he₁)
  have hTd : h₁.objs.size ≠ d := Nat.ne_of_gt (Heap.lt_size hd₁)
  generalize hts : ([head, .ref L, .none, rawInt L, .none] ++ (if pl.isEmpty then List.replicate 6 Value.none else pl)).toArray = ts
  have h3 : ts[3]? = some (rawInt L) := hts ▸ rfl
  have he₂ := Heap.get?_push_of_some { cls := .type "traceback", dict := none, data := .fields ts } he₁
  refine wpAny_setField he₂ rfl hsz (h _ ⟨?_, fun a o r1 r2 q => ?_, fun a o r q => ?_⟩ ?_)
  · rw [Heap.size_after_update, Heap.size_push, hsz₁]; exact Nat.le_succ _
  · rw [Heap.get?_update_other _ _ (Ne.symm (fun z => r1 (z ▸ re) : a ≠ e))]
    exact Heap.get?_push_of_some _ ((hs₁.2.1 a fun m => r2 (frames_frm hC m)).trans q)
  · rw [Heap.get?_update_other _ _ (Ne.symm (fun z => rx (re.symm.trans (z ▸ r)) : a ≠ e))]
    exact (hs₁.2.2 a o q).imp fun sl => Heap.get?_push_of_some _
  · refine ⟨d, es, ep, vs.setIfInBounds 1 (.ref h₁.objs.size), tv, Heap.get?_update_self _ he₂ rfl, re, rd, hne, ?_, ht, rv, nt, Nat.lt_of_lt_of_eq hsz Array.size_setIfInBounds.symm, ⟨h₁.objs.size, { cls := .type "traceback", dict := none, data := .fields ts }, ts, Array.getElem?_setIfInBounds_self_of_lt hsz, R.fresh (Nat.le_of_eq hsz₁.symm), hTe, hTd, ?_, rfl, h3⟩⟩
    · rw [Heap.get?_update_other _ _ hne]; exact Heap.get?_push_of_some _ hd₁
    · rw [Heap.get?_update_other _ _ (Ne.symm hTe)]; exact Heap.get?_push_size _ rfl
theorem setTb {d T : Addr} {oT : Obj} {vs ts : Array Value} {fl : Value} {Q : Unit -> Shared -> Prop} (rT : g.ρ T = .any) (hTe : T ≠ e) (hTd : T ≠ d) (hT : s.heap.get? T = some oT) (hdT : oT.data = .fields ts) (h3 : 3 < ts.size)
    {es : Array DictEntry} {ep : Nat} (he : s.heap.get? e = some { cls := .ref 52, dict := some d, data := .fields vs }) (hd : s.heap.get? d = some (dctObj es ep))
    (h : ∀ h', Note g s.heap h' -> (∃ oT, h'.get? T = some oT ∧ oT.data = .fields (ts.setIfInBounds 3 fl)) -> h'.get? e = some { cls := .ref 52, dict := some d, data := .fields vs } -> h'.get? d = some (dctObj es ep) -> Q () { s with heap := h' }) :
    wpAny (model prog w) A (setField (.ref T) 3 fl) Q E s := by
  refine wpAny_setField hT hdT h3 (h _ (.of_keep (Nat.le_of_eq (Heap.size_after_update ..).symm) fun a o r q => (Heap.get?_update_other _ _ (fun z => r (z ▸ rT) : T ≠ a)).trans q) ⟨_, Heap.get?_update_self _ hT (Obj.isFreed_of_fields (Obj.data_mapFields hdT _)), Obj.data_mapFields hdT _⟩ ((Heap.get?_update_other _ _ hTe).trans he) ((Heap.get?_update_other _ _ hTd).trans hd))
theorem ref_ne {T : Addr} : (Value.ref T != Value.none) = true := rfl
theorem flight_snd {st : ExSt} {fl : Option Addr} {st' : ExSt} {Q : Unit -> Shared -> Prop} (R : Rep prog w G tabs g P s.heap) (x : Exc prog w b st e g s.heap) (hs : st ≠ .fresh) (hfl : (fl = none ∧ st' = .fly) ∨ ∃ L, fl = some L ∧ st' = .held L)
    (h : ∀ h', Note g s.heap h' -> Exc prog w b st' e g h' -> Q () { s with heap := h' }) : wpAny (model prog w) A (setFlight (.ref e) fl) Q E s := by
  refine x.casesOn fun d es ep vs tv he re rd hne hd ht rv nt hsz tb => ?_
  have tb' : ∃ f, TbAt e d vs f g s.heap := by cases st with | fresh => exact absurd rfl hs | fly => exact ⟨_, tb⟩ | held L => exact ⟨_, tb⟩
  refine tb'.elim fun f tb => tb.casesOn fun T oT ts h1 rT hTe hTd hT hdT h3 => ?_
  unfold setFlight
  refine wpAny_bind (wpAny_field he rfl h1 ?_)
  rw [if_pos ref_ne]
  have h3' := (Array.getElem?_eq_some_iff.mp h3).1
  have hst : ∀ h', TbAt e d vs (fl.elim Value.none fun f => rawInt f) g h' -> TbSt st' e d vs g h' := fun h' t => hfl.elim (fun z => by rw [z.2]; rw [z.1] at t; exact t) fun z => z.elim fun L z => by rw [z.2]; rw [z.1] at t; exact t
  exact setTb rT hTe hTd hT hdT h3' he hd fun h' N qT qe qd => h h' N ⟨d, es, ep, vs, tv, qe, re, rd, hne, qd, ht, rv, nt, hsz, hst h' (u12 qT fun oT' q1 q2 => ⟨T, oT', _, h1, rT, hTe, hTd, q1, q2, Array.getElem?_setIfInBounds_self_of_lt h3'⟩)⟩
theorem note_snd {st : ExSt} {Q : Unit -> Shared -> Prop} (hA : A.frames = some (env :: outer)) (hF : env.frame = some L) (hC : ∀ e ∈ env :: outer, e.scope.kind ≠ .module ∧ ∃ L, e.frame = some L ∧ g.ρ L = .frm) (R : Rep prog w G tabs g P s.heap)
    (x : Exc prog w b st e g s.heap) (hs : st = .fresh ∨ st = .fly ∨ st = .held L) (h : ∀ h', Note g s.heap h' -> Exc prog w b (.held L) e g h' -> Q () { s with heap := h' }) : wpAny (model prog w) A (noteFrame (.ref e) env) Q E s := by
  unfold noteFrame
  simp only [hF]
  refine x.casesOn fun d es ep vs tv he re rd hne hd ht rv nt hsz tb => ?_
  refine hs.elim (fun e0 => ?_) fun z => z.elim (fun e0 => ?_) fun e0 => ?_
  · refine wpAny_bind (wpAny_field he rfl (show TbSt .fresh e d vs g s.heap from e0 ▸ tb) ?_)
    rw [if_neg (by decide)]
    exact noteE hA hF hC R x h
  · refine (show TbSt .fly e d vs g s.heap from e0 ▸ tb).casesOn fun T oT ts h1 rT hTe hTd hT hdT h3 => ?_
    refine wpAny_bind (wpAny_field he rfl h1 ?_)
    rw [if_pos ref_ne]
    refine wpAny_bind (wpAny_field hT hdT h3 ?_)
    rw [if_neg (show ¬ ((Value.none == rawInt L) = true) from Bool.false_ne_true)]
    have h3' := (Array.getElem?_eq_some_iff.mp h3).1
    refine wpAny_bind (setTb rT hTe hTd hT hdT h3' he hd fun h' N qT qe qd => ?_)
    exact noteE (st := .fly) (s := { s with heap := h' }) hA hF hC (N.step (tk := s.toks) R).1 ⟨d, es, ep, vs, tv, qe, re, rd, hne, qd, ht, rv, nt, hsz, u12 qT fun oT' q1 q2 => (⟨T, oT', _, h1, rT, hTe, hTd, q1, q2, Array.getElem?_setIfInBounds_self_of_lt h3'⟩ : TbSt .fly e d vs g h')⟩ fun h'' N' => h h'' (N.trans N')
  · refine (show TbSt (.held L) e d vs g s.heap from e0 ▸ tb).casesOn fun T oT ts h1 rT hTe hTd hT hdT h3 => ?_
    refine wpAny_bind (wpAny_field he rfl h1 ?_)
    rw [if_pos ref_ne]
    refine wpAny_bind (wpAny_field hT hdT h3 ?_)
    rw [if_pos (beq_self_eq_true _)]
    exact wpAny_pure (h s.heap (.refl _) (e0 ▸ x))
theorem leave_snd {st : ExSt} {Q : Unit -> Shared -> Prop} (hA : A.frames = some (env :: outer)) (hF : env.frame = some L) (hC : ∀ e ∈ env :: outer, e.scope.kind ≠ .module ∧ ∃ L, e.frame = some L ∧ g.ρ L = .frm) (R : Rep prog w G tabs g P s.heap)
    (x : Exc prog w b st e g s.heap) (hs : st = .fresh ∨ st = .fly ∨ st = .held L) (h : ∀ h', Note g s.heap h' -> Exc prog w b .fly e g h' -> Q () { s with heap := h' }) : wpAny (model prog w) A (leaving env (.ref e)) Q E s := by
  unfold leaving
  refine wpAny_bind (note_snd hA hF hC R x hs fun h' N x' => ?_)
  exact flight_snd (s := { s with heap := h' }) (N.step (tk := s.toks) R).1 x' nofun (.inl ⟨rfl, rfl⟩) fun h'' N' => h h'' (N.trans N')
theorem came_snd {x : Value} (hA : A.frames = some (env :: outer)) (hF : env.frame = some L) (R : Rep prog w G tabs g P s.heap) (hx : x = .ref e) (X : Exc prog w b (.held L) e g s.heap)
    (h : ∀ h', Note g s.heap h' -> Exc prog w b (.held L) e g h' -> E (.ref e) { s with heap := h' }) : cameBackBy (model prog w) A env E x s := by
  subst hx
  refine X.casesOn fun d es ep vs tv he re rd hne hd ht rv nt hsz tb => TbAt.casesOn tb fun T oT ts h1 z_ z_ z_ z_ z_ z_ => ?_
  unfold cameBackBy
  refine wpAny_bind (wpAny_field he rfl h1 ?_)
  rw [if_neg (show ¬ ((Value.ref T == Value.none) = true) from Bool.false_ne_true), hF]
  exact flight_snd R X nofun (.inr ⟨L, rfl, rfl⟩) h
end
end DK
namespace DK
open PySem PySem.W PySem.Calls PyProof.Rows Builtin Builtin.ObjectAttr
structure ExcFacts (K : Frag) : Prop where
  ga : findIn K (.ref 52) "__getattribute__" = some (some (.builtin "BaseException.__getattribute__"))
  gt : findIn K (.ref 52) "__getattr__" = some none
  sa : findIn K (.ref 52) "__setattr__" = some (some (.builtin "object.__setattr__"))
  dic : hasDictIn K 52 = true
  tol : findIn K (.ref 52) "told" = some none
  base : mroIn K 52 (.type "BaseException") = some true
section
variable {prog : Program} {w : World} {K : Frag} {A : Around} {E : Value -> Shared -> Prop} {s : Shared}
theorem getTold {e d : Addr} {es : Array DictEntry} {ep : Nat} {vs : Array Value} {tv : Value} {expr : Bool} {Q : Value -> Shared -> Prop} (X : K.In s.heap) (F : ExcFacts K)
    (he : s.heap.get? e = some { cls := .ref 52, dict := some d, data := .fields vs }) (hd : s.heap.get? d = some (dctObj es ep)) (ht : getL "told" es.toList = some (some tv)) (hh : handedIn tv = true)
    (hQ : Q tv { s with toks := s.toks + 1 }) : wpAny (model prog w) A (getAttr (.ref e) "told" expr) Q E s := by
  have I : InstAt s.heap e { cls := .ref 52, dict := some d, data := .fields vs } 52 (some (dctObj es ep)) := ⟨he, rfl, rfl, hd⟩
  obtain ⟨hp, g, dr, t, os⟩ := s
  have L0 := I.type (M := model prog w)
  have L1 := looks_findIn (M := model prog w) X F.ga
  have L2 := looks_findIn (M := model prog w) X F.gt
  have L3 := looks_find (M := model prog w) X I (findObj_own F.dic F.tol rfl (lookIn_d.trans ht))
  have L4 : Looks (model prog w) hp (isInstance (.ref e) (.type "BaseException")) true := L0.andThen (looks_mroIn X F.base)
  have f3 := PySem.F.attr_Exception.ga.bind (.ref e)
  unfold getAttr getAttrBy
  refine wpAny_bind (wpAny_mkText (wpAny_holding (wpAny_bind (L0.at (wpAny_bind (L1.at ?_))))))
  have hx2 : (Value.builtin "BaseException.__getattribute__" == Value.builtin "object.__getattribute__") = false := by decide +kernel
  dsimp only
  rw [hx2, Bool.and_false, if_neg Bool.false_ne_true]
  unfold getAttrByItsOwn hookBefore
  refine wpAny_bind (L2.at ?_)
  have hx0 : (expr && onTheHeap (Value.builtin "BaseException.__getattribute__")) = false := by cases expr <;> rfl
  unfold callGetattribute
  rw [hx0, if_neg Bool.false_ne_true]
  unfold boundAndCalled
  rw [f3]
  refine wpAny_bind (wpAny_attempt (wpAny_holding (wpAny_bind (wpAny_pure (wpAny_call ?_)))))
  have hk : builtinKind "BaseException.__getattribute__" = some .slot := by decide +kernel
  have hsplit : splitId "BaseException.__getattribute__" = some ("BaseException", "__getattribute__") := by decide +kernel
  refine codeAny_call_builtin PySem.F.attr_Exception.ga.plain PySem.F.entry_bexc_ga (@check_slot (model prog w) _ _ ⟨hp, g, dr, t + 1, os⟩ "BaseException.__getattribute__" "BaseException" "__getattribute__" (.ref e) [.str "told" t] [] _ hk hsplit L4 (PySem.F.args_bexc_ga _ _) ?_)
  unfold Builtin.«object.__getattribute__»
  repeat (first | exact hh | lk)
  show wpAny _ _ (handedOut tv) _ _ _
  rw [handedOut_of hh]
  exact wpAny_pure hQ
end
end DK
namespace DK
open PySem PySem.W PySem.Calls PyProof.Rows Builtin Builtin.ObjectAttr
noncomputable abbrev bmE : List Value := [.ref 39, .type "Exception", .type "BaseException", .type "object"]
section
variable {prog : Program} {w : World} {K : Frag} {A : Around} {E : Value -> Shared -> Prop}
variable {h : Heap} {g : Array GenState} {d : Drawn} {t : Nat} {os : OsState}
variable {nm q : Str} {N : Addr} {bs : List Value} {hdct : Bool} {sn : List Str} {sub : List Value} {ab : Bool} {col : Option Bool} {dd : Option Addr} {k0 k1 k2 k3 k5 : Option Value}
theorem cE : (Value.ref 52 :: bmE).contains (.type "Exception") = true := by decide +kernel
theorem cB : (Value.ref 52 :: bmE).contains (.type "BaseException") = true := by decide +kernel
theorem cA : (Value.ref 52 :: bmE).contains (.type "AttributeError") = false := by decide +kernel
theorem cN : (Value.ref 52 :: bmE).contains (.type "NameError") = false := by decide +kernel
theorem cS : (Value.ref 52 :: bmE).contains (.ref 52) = true := by decide +kernel
theorem check_newE {rest : List Value} {Q : Unit -> Shared -> Prop} (hC : h.get? 52 = some (excClassObj nm q 52 N bs bmE hdct sn sub ab col dd k0 k1 k2 k3 k5 "Exception.__new__"))
    (hq : Q () ⟨h, g, d, t, os⟩) : wpAny (model prog w) A (checkBuiltinCall "Exception.__new__" ⟨.ref 52 :: rest, []⟩) Q E ⟨h, g, d, t, os⟩ := by
  have F := PySem.F.excBase_Exception
  have hstar := F.noStar
  simp only [checkBuiltinCall, F.newKind, F.newSplit, F.newRow]
  repeat (first | refine wpAny_loadPart_at hC ?_ | (refine wpAny_isSubtype_exc hC ?_; rw [cE]) | refine wpAny_staticBase_exc hC ?_ | refine wpAny_madeBy_exc hC ?_ | simp only [bne_self_eq_false, Bool.false_eq_true, if_false] | wp_step)
  exact hq
theorem newE {R : Result -> Shared -> Prop} {rest : List Value} (hC : h.get? 52 = some (excClassObj nm q 52 N bs bmE hdct sn sub ab col dd k0 k1 k2 k3 k5 "Exception.__new__"))
    (hq : R (.ok (.ret (.ref (h.objs.size + 1)))) ⟨(h.push { cls := .type "tuple", data := .seq rest.toArray }).push
      { cls := .ref 52, data := .fields #[.ref h.objs.size, .none, .none, .none, .bool false, .none] }, g, d, t, os⟩) (hrest : rest.length ≤ sizeLine) :
    codeAny (model prog w) A (.builtin "Exception.__new__" ⟨.ref 52 :: rest, []⟩) R ⟨h, g, d, t, os⟩ := by
  have F := PySem.F.excBase_Exception
  have hends := F.ends
  refine PySem.codeAny_builtinAt F.entry ?_
  unfold Builtin.«BaseException.__new__»
  refine PySem.wpAt_bind ?_
  show PySem.wpAt _ _ _ (stack >>= _) _ _ _
  refine PySem.wpAt_bind (PySem.wpAt_stack fun p below => PySem.wpAt_of_wpAny ?_)
  wp_walk
  refine PySem.wpAt_of_wpAny ?_
  rw [F.owner]
  repeat (first | with_reducible refine wpAny_madeHere_exc F.canon hC ?_ | with_reducible refine wpAny_loadPart_at hC ?_ | (with_reducible refine wpAny_isSubtype_exc hC ?_; first | rw [cE] | rw [cA] | rw [cN]) | wp_step)
  show R _ _
  rw [Heap.size_push]
  exact hq
theorem typeCallE {rest : List Value} {Q : PySem.Fin -> Shared -> Prop} (X : K.In h) (hC : h.get? 52 = some (excClassObj nm q 52 N bs bmE hdct sn sub ab col dd k0 k1 k2 k3 k5 "Exception.__new__")) (hi : findIn K (.ref 52) "__init__" = some (some (.ref 36))) (hf : typeIn K (.ref 36) = some (.type "function")) (hrest : rest.length ≤ sizeLine)
    (hq : codeAny (model prog w) A (.call (.ref 36) ⟨.ref (h.objs.size + 1) :: rest, []⟩) (fun r s' => match r with | .ok (.ret v) => v = .none ∧ Q (.done (.ret (.ref (h.objs.size + 1)))) s' | .ok _ => False | .error e => E e s')
      ⟨(h.push { cls := .type "tuple", data := .seq rest.toArray }).push { cls := .ref 52, data := .fields #[.ref h.objs.size, .none, .none, .none, .bool false, .none] }, g, d, t, os⟩) :
    wpAny (model prog w) A (Builtin.«type.__call__» ⟨.ref 52 :: rest, []⟩) Q E ⟨h, g, d, t, os⟩ := by
  have F := PySem.F.excBase_Exception
  repeat (first | with_reducible refine wpAny_loadPart_at hC ?_ | with_reducible refine wpAny_madeBy_exc hC ?_ | wp_step)
  refine codeAny_call_builtin_code (Code.quiet_builtin _ F.quiet) (check_newE hC ?_)
  refine newE hC ?_ hrest
  show wpAny _ _ _ _ _ _
  have k : ∀ b o, h.get? b = some o -> ((h.push { cls := .type "tuple", data := .seq rest.toArray }).push { cls := .ref 52, data := .fields #[.ref h.objs.size, .none, .none, .none, .bool false, .none] }).get? b = some o := fun b o e => Heap.get?_push_of_some _ (Heap.get?_push_of_some _ e)
  have hC₁ := k _ _ hC
  have hget : ((h.push { cls := .type "tuple", data := .seq rest.toArray }).push
      { cls := .ref 52, data := .fields #[.ref h.objs.size, .none, .none, .none, .bool false, .none] }).get? (h.objs.size + 1) = some
      { cls := .ref 52, data := .fields #[.ref h.objs.size, .none, .none, .none, .bool false, .none] } := by heap_get
  have X' := X.keeps k
  have i1 := looks_findIn (M := model prog w) X' hi
  have b1 := bind_fn (M := model prog w) X' (.ref (h.objs.size + 1)) hf
  unfold isInstance
  repeat (first | with_reducible refine wpAny_loadPart_at hget ?_ | (with_reducible refine wpAny_isSubtype_exc hC₁ ?_; rw [cS]) | wp_step)
  show wpAny _ _ (typeLookup (.ref 52) _) _ _ _
  refine i1.at ?_
  refine wpAny_holding (wpAny_bind (b1.at ?_))
  refine wpAny_bind (wpAny_call (codeAny_mono hq fun r s' z => ?_))
  rcases r with e | (v | _ | _ | _) <;> first | exact z | exact z.elim | skip
  obtain ⟨rfl, z⟩ := z
  exact wpAny_pure (wpAny_pure z)
theorem makeE {rest : List Value} {Q : Value -> Shared -> Prop} (X : K.In h) (hC : h.get? 52 = some (excClassObj nm q 52 N bs bmE hdct sn sub ab col dd k0 k1 k2 k3 k5 "Exception.__new__")) (hi : findIn K (.ref 52) "__init__" = some (some (.ref 36))) (hf : typeIn K (.ref 36) = some (.type "function")) (hrest : rest.length ≤ sizeLine)
    (hq : codeAny (model prog w) (A.under (.builtin "type.__call__" ⟨.ref 52 :: rest, []⟩)) (.call (.ref 36) ⟨.ref (h.objs.size + 1) :: rest, []⟩) (fun r s' => match r with | .ok (.ret v) => v = .none ∧ Q (.ref (h.objs.size + 1)) s' | .ok _ => False | .error e => E e s')
      ⟨(h.push { cls := .type "tuple", data := .seq rest.toArray }).push { cls := .ref 52, data := .fields #[.ref h.objs.size, .none, .none, .none, .bool false, .none] }, g, d, t, os⟩) :
    wpAny (model prog w) A (call (.ref 52) rest) Q E ⟨h, g, d, t, os⟩ := by
  have f1 := tc_lookup
  have f2 := tc_bind (.ref 52)
  have hT : (⟨h, g, d, t, os⟩ : Shared).TypeIs (.ref 52) "type" := ⟨_, hC, rfl⟩
  refine wpAny_call (codeAny_of_tree ?_)
  show wpAny _ _ (callAny (.ref 52) _) _ _ _
  repeat (any_goals (first | assumption | with_reducible refine wpAny_loadPart_at hC ?_ | wp_step))
  refine ⟨rfl, ?_⟩
  refine codeAny_call_builtin_at (Code.quiet_builtin _ (by decide +kernel)) entry_typeCall (wpAny_check_type_call_sub hC (typeCallE (A := A.under (.builtin "type.__call__" ⟨.ref 52 :: rest, []⟩)) X hC hi hf hrest ?_))
  exact codeAny_mono hq fun r s' z => by rcases r with e | (v | _ | _ | _) <;> exact z
end
end DK
namespace DK
open PySem PySem.W PySem.Calls PyProof.Rows
noncomputable def slk (fs : Fs) : Nat := if fs.lam then 8 else 4
noncomputable def RoomE (m : Nat) (fs : Fs) (A : Around) : Prop := A.depth + 10 * m + slk fs ≤ 900 ∧ A.units + 100 * m + 10 * slk fs ≤ 9000
structure Cfg (prog : Program) (w : World) (G : Heap) (tabs : List (Addr × Addr × Str)) (m : Nat) (A : Around) (fs : Fs) (kd : Kinds) (cm : Str -> Option Addr) (env : Env) (l : Loc) (g : Gh) (P : Hp) (s : Shared) : Prop where
  R : Rep prog w G tabs g P s.heap
  C : CtxOk g A
  M : RoomE m fs A
  V : EnvOk tabs fs kd cm env
  F : Frm prog w fs kd cm env l g s.heap
noncomputable def Went (prog : Program) (w : World) (G : Heap) (tabs : List (Addr × Addr × Str)) (g : Gh) (s : Shared) (g' : Gh) (s' : Shared) (P' : Hp) : Prop :=
  Rep prog w G tabs g' P' s'.heap ∧ Ext s.heap.objs.size g s g' s'
section
variable {prog : Program} {w : World} {G : Heap} {tabs : List (Addr × Addr × Str)} {m : Nat} {A : Around} {fs : Fs} {kd : Kinds} {cm : Str -> Option Addr} {env : Env} {l : Loc} {g g' g'' : Gh} {P P' P'' : Hp} {s s' s'' : Shared}
theorem Went.trans (x : Went prog w G tabs g s g' s' P') (y : Went prog w G tabs g' s' g'' s'' P'') : Went prog w G tabs g s g'' s'' P'' := ⟨y.1, x.2.trans (y.2.down x.2.size)⟩
theorem Went.here (R : Rep prog w G tabs g P s.heap) {tk : Nat} : Went prog w G tabs g s g { s with toks := tk } P := ⟨R, Ext.toks⟩
theorem Went.of_step {h' : Heap} {tk : Nat} (x : Step prog w G tabs g s g' P' h' tk) : Went prog w G tabs g s g' { s with heap := h', toks := tk } P' := ⟨x.1, x.2 _⟩
theorem Cfg.went (X : Cfg prog w G tabs m A fs kd cm env l g P s) (x : Went prog w G tabs g s g' s' P') : Cfg prog w G tabs m A fs kd cm env l g' P' s' :=
  ⟨x.1, X.C.le x.2.le, X.M, X.V, X.F.ext X.R x.2⟩
end
section
variable (prog : Program) (w : World) (G : Heap) (tabs : List (Addr × Addr × Str)) (m : Nat) (A : Around) (fs : Fs) (kd : Kinds) (cm : Str -> Option Addr) (env : Env) (l : Loc)
noncomputable abbrev EvF := Hp -> (LV -> Hp -> Out) -> (AV -> Hp -> Out) -> Out
noncomputable def Snd (f : EvF) (t : Sem Value) : Prop := ∀ {P : Hp} {k : LV -> Hp -> Out} {ke : AV -> Hp -> Out} {res : Res} {g : Gh} {s : Shared} {Q E : Value -> Shared -> Prop}, Cfg prog w G tabs m A fs kd cm env l g P s -> f P k ke = some res ->
  (∀ v P' g' s' u, k v P' = some res -> Went prog w G tabs g s g' s' P' -> LVR prog w fs.cn cm g' v u -> Q u s') ->
  (∀ b P' g' s' e, ke b P' = some res -> Went prog w G tabs g s g' s' P' -> Exc prog w b .fly e g' s'.heap -> E (.ref e) s') ->
  wpAny (model prog w) A t Q E s
noncomputable def SndT (f : EvF) (t : Sem Bool) : Prop := ∀ {P : Hp} {k ke : AV -> Hp -> Out} {res : Res} {g : Gh} {s : Shared} {Q : Bool -> Shared -> Prop} {E : Value -> Shared -> Prop}, Cfg prog w G tabs m A fs kd cm env l g P s ->
  f P (avK k) ke = some res -> (∀ x P', k x P' = some res -> ∃ b, truth x = some b) ->
  (∀ x b P' g' s', k x P' = some res -> truth x = some b -> Went prog w G tabs g s g' s' P' -> Q b s') ->
  (∀ b P' g' s' e, ke b P' = some res -> Went prog w G tabs g s g' s' P' -> Exc prog w b .fly e g' s'.heap -> E (.ref e) s') ->
  wpAny (model prog w) A t Q E s
structure CallOk (r : CallR) (m : Nat) : Prop where
  code : ∀ {P : Hp} {f : AV} {args : List AV} {res : Res} {g : Gh} {s : Shared} {A : Around} {fv : Value} {vs : List Value} {B : Result -> Shared -> Prop}, isB f = false -> Rep prog w G tabs g P s.heap -> CtxOk g A -> Room m A ->
  VR prog w g f fv -> VRs prog w g args vs -> r P f args = some res ->
  (∀ x P' g' s' u, res = .ok x P' -> Went prog w G tabs g s g' s' P' -> VR prog w g' x u -> B (.ok (.ret u)) s') ->
  (∀ b P' g' s' e, res = .exc b P' -> Went prog w G tabs g s g' s' P' -> Exc prog w b .fly e g' s'.heap -> B (.error (.ref e)) s') ->
  codeAny (model prog w) A (.call fv ⟨vs, []⟩) B s
  blt : ∀ {P : Hp} {f : AV} {args : List AV} {res : Res} {g : Gh} {s : Shared} {A : Around} {fv : Value} {vs : List Value} {Q E : Value -> Shared -> Prop}, isB f = true -> Rep prog w G tabs g P s.heap -> CtxOk g A -> Room m A ->
    VR prog w g f fv -> VRs prog w g args vs -> r P f args = some res -> (∀ x P' g' s' u, res = .ok x P' -> Went prog w G tabs g s g' s' P' -> VR prog w g' x u -> Q u s') ->
    (∀ b P', res ≠ .exc b P') ∧ wpAny (model prog w) A (call fv vs []) Q E s
end
section
variable {prog : Program} {w : World} {K : Frag} {G : Heap} {mg mb : Str -> Option Value} {tabs : List (Addr × Addr × Str)} {m : Nat} {A : Around} {fs : Fs} {kd : Kinds} {cm : Str -> Option Addr} {env : Env} {l : Loc} {g : Gh} {P : Hp} {s : Shared}
  {E : Value -> Shared -> Prop} {ke : AV -> Hp -> Out} {res : Res}
noncomputable abbrev EOk (prog : Program) (w : World) (G : Heap) (tabs : List (Addr × Addr × Str)) (g : Gh) (s : Shared) (ke : AV -> Hp -> Out) (res : Res) (E : Value -> Shared -> Prop) : Prop :=
  ∀ b P' g' s' e, ke b P' = some res -> Went prog w G tabs g s g' s' P' -> Exc prog w b .fly e g' s'.heap -> E (.ref e) s'
noncomputable abbrev QOk (prog : Program) (w : World) (G : Heap) (tabs : List (Addr × Addr × Str)) (g : Gh) (s : Shared) (k : AV -> Hp -> Out) (res : Res) (Q : Value -> Shared -> Prop) : Prop :=
  ∀ v P' g' s' u, k v P' = some res -> Went prog w G tabs g s g' s' P' -> VR prog w g' v u -> Q u s'
theorem EOk.went {g' : Gh} {s' : Shared} {P' : Hp} (x : Went prog w G tabs g s g' s' P') (h : EOk prog w G tabs g s ke res E) : EOk prog w G tabs g' s' ke res E := fun b P' g'' s'' e h1 h2 h3 => h b P' g'' s'' e h1 (x.trans h2) h3
noncomputable abbrev QLk (prog : Program) (w : World) (G : Heap) (tabs : List (Addr × Addr × Str)) (fs : Fs) (cm : Str -> Option Addr) (g : Gh) (s : Shared) (k : LV -> Hp -> Out) (res : Res) (Q : Value -> Shared -> Prop) : Prop :=
  ∀ v P' g' s' u, k v P' = some res -> Went prog w G tabs g s g' s' P' -> LVR prog w fs.cn cm g' v u -> Q u s'
noncomputable abbrev QTk (prog : Program) (w : World) (G : Heap) (tabs : List (Addr × Addr × Str)) (g : Gh) (s : Shared) (k : AV -> Hp -> Out) (res : Res) (Q : Bool -> Shared -> Prop) : Prop :=
  ∀ x b P' g' s', k x P' = some res -> truth x = some b -> Went prog w G tabs g s g' s' P' -> Q b s'
theorem QOk.went {k : AV -> Hp -> Out} {Q : Value -> Shared -> Prop} {g' : Gh} {s' : Shared} {P' : Hp} (x : Went prog w G tabs g s g' s' P') (h : QOk prog w G tabs g s k res Q) : QOk prog w G tabs g' s' k res Q := fun v P' g'' s'' u h1 h2 h3 => h v P' g'' s'' u h1 (x.trans h2) h3
theorem QLk.went {k : LV -> Hp -> Out} {Q : Value -> Shared -> Prop} {g' : Gh} {s' : Shared} {P' : Hp} (x : Went prog w G tabs g s g' s' P') (h : QLk prog w G tabs fs cm g s k res Q) : QLk prog w G tabs fs cm g' s' k res Q := fun v P' g'' s'' u h1 h2 h3 => h v P' g'' s'' u h1 (x.trans h2) h3
theorem QTk.went {k : AV -> Hp -> Out} {Q : Bool -> Shared -> Prop} {g' : Gh} {s' : Shared} {P' : Hp} (x : Went prog w G tabs g s g' s' P') (h : QTk prog w G tabs g s k res Q) : QTk prog w G tabs g' s' k res Q := fun v b P' g'' s'' h1 hb h2 => h v b P' g'' s'' h1 hb (x.trans h2)
theorem QLk.av {k : LV -> Hp -> Out} {Q : Value -> Shared -> Prop} (h : QLk prog w G tabs fs cm g s k res Q) : QOk prog w G tabs g s (fun v P => k (.av v) P) res Q := fun v P' g' s' u h1 h2 h3 => h _ P' g' s' u h1 h2 (.av h3)
theorem Snd.av {f : EvF} {t : Sem Value} (h : Snd prog w G tabs m A fs kd cm env l f t) {k : AV -> Hp -> Out} {Q : Value -> Shared -> Prop} (X : Cfg prog w G tabs m A fs kd cm env l g P s) (hf : f P (avK k) ke = some res)
    (hQ : QOk prog w G tabs g s k res Q) (hE : EOk prog w G tabs g s ke res E) : wpAny (model prog w) A t Q E s := by
  refine h X hf (fun v P' g' s' u h1 h2 h3 => ?_) hE
  induction v using DK.LV.casesOn with
  | av v => exact hQ _ P' g' s' u h1 h2 h3.va
  | _ => exact nm h1
theorem truthy_of {f : EvF} {t : Sem Value} {e : Expr} (h : Snd prog w G tabs m A fs kd cm env l f t) (he : isTrue e env t = (do let v ← t; standAt e.pos; holding [v] (truthy v))) : SndT prog w G tabs m A fs kd cm env l f (isTrue e env t) := by
  intro P k ke res g s Q E X hf hk hQ hE
  refine isTrue_plain ?_ he
  refine h.av X hf (fun v P' g' s' u h1 h2 h3 => ?_) hE
  exact (hk v P' h1).elim fun b hb => truth_snd h3 hb fun tk => hQ v b P' g' _ h1 hb (h2.trans (Went.here h2.1))
theorem not_snd {f : EvF} {x : Expr} {pos : Pos} (h : Snd prog w G tabs m A fs kd cm env l f (eval x env)) :
    Snd prog w G tabs m A fs kd cm env l (fun P k ke => f P (avK fun v P => match truth v with | some b => k (.av (.bool !b)) P | .none => .none) ke) (eval (.UnaryOp .Not x pos) env) := by
  intro P k ke res g s Q E X hf hQ hE
  refine wpAny_UnaryOp (h.av X hf (fun v P' g' s' u h1 h2 h3 => ?_) hE)
  exact omB h1 fun b hb h1 => wpAny_holding (wpAny_bind (truth_snd h3 hb fun tk => wpAny_pure (hQ _ P' g' _ _ h1 (h2.trans (Went.here h2.1)) (.av (.bool _)))))
theorem notT_snd {f : EvF} {x : Expr} {pos : Pos} {whole : Sem Value} (h : SndT prog w G tabs m A fs kd cm env l f (isTrue x env (eval x env))) :
    SndT prog w G tabs m A fs kd cm env l (fun P k ke => f P (avK fun v P => match truth v with | some b => k (.av (.bool !b)) P | .none => .none) ke) (isTrue (.UnaryOp .Not x pos) env whole) := by
  intro P k ke res g s Q E X hf hk hQ hE
  refine wpAny_isTrue_Not (h X hf (fun x P' h1 => omB h1 fun b hb z_ => ⟨b, hb⟩) (fun x b P' g' s' h1 hb h2 => omB h1 fun c hc h1 => hQ (.bool !b) (!b) P' g' s' ((si (hc.symm.trans hb)) ▸ h1) rfl h2) hE)
theorem neg_snd {f : EvF} {x : Expr} {pos : Pos} (h : Snd prog w G tabs m A fs kd cm env l f (eval x env)) :
    Snd prog w G tabs m A fs kd cm env l (fun P k ke => f P (avK fun v P => match v with | .int i => k (.av (.int (-i))) P | _ => .none) ke) (eval (.UnaryOp .USub x pos) env) := by
  intro P k ke res g s Q E X hf hQ hE
  refine wpAny_UnaryOp (h.av X hf (fun v P' g' s' u h1 h2 h3 => ?_) hE)
  induction v using DK.AV.casesOn with
  | int i => exact (vr_int h3).elim fun t e => e ▸ PySem.P.neg_int (hQ _ P' g' _ _ h1 (h2.trans (Went.here h2.1)) (.av (.int _ _)))
  | _ => exact nm h1
theorem bin_rule {f₁ f₂ : EvF} {a b : Expr} {op : Operator} {pos : Pos} (h₁ : Snd prog w G tabs m A fs kd cm env l f₁ (eval a env)) (h₂ : Snd prog w G tabs m A fs kd cm env l f₂ (eval b env)) :
    Snd prog w G tabs m A fs kd cm env l (fun P k ke => f₁ P (avK fun x P => f₂ P (avK fun y P => match bin1 op x y with | some v => k (.av v) P | .none => .none) ke) ke) (eval (.BinOp a op b pos) env) := by
  intro P k ke res g s Q E X hf hQ hE
  refine wpAny_BinOp (h₁.av X hf (fun x P₁ g₁ s₁ u q₁ w₁ r₁ => ?_) hE)
  refine h₂.av (X.went w₁) q₁ (fun y P₂ g₂ s₂ v q₂ w₂ r₂ => ?_) (EOk.went w₁ hE)
  exact omA q₂ fun z hz q₂ => bin_snd w₂.1 (r₁.mono w₂.2.le) r₂ hz fun g₃ h₃ tk z' st rz => hQ _ P₂ g₃ _ _ q₂ (w₁.trans (w₂.trans (.of_step st))) (.av rz)
end
end DK
namespace DK
open PySem PySem.W PySem.Calls PyProof.Rows
section
variable {prog : Program} {w : World} {K : Frag} {G : Heap} {mg mb : Str -> Option Value} {tabs : List (Addr × Addr × Str)} {m : Nat} {A : Around} {fs : Fs} {kd : Kinds} {cm : Str -> Option Addr} {env : Env} {l : Loc} {g : Gh} {P : Hp} {s : Shared}
  {E : Value -> Shared -> Prop} {ke : AV -> Hp -> Out} {res : Res}
theorem RoomE.room (h : RoomE m fs A) : Room m A := ⟨by have := h.1; omega, by have := h.2; omega⟩
theorem slk4 : 4 ≤ slk fs := by unfold slk; split <;> decide
theorem RoomE.room1 (h : RoomE m fs A) : Room m A.in1 := by
  have h1 := h.1
  have h2 := h.2
  have h3 := slk4 (fs := fs)
  exact ⟨by show A.depth + _ ≤ _; omega, by show A.units + 1 + _ ≤ _; omega⟩
theorem RoomE.units (h : RoomE m fs A) : A.units + 10 < cLine := by
  have h1 := h.2
  have h2 : cLine = 9900 := rfl
  omega
theorem ite_ex {o : Option Bool} {a b : Out} {r : Res} (h : (match o with | some true => a | some false => b | .none => .none) = some r) : ∃ c, o = some c := by
  induction o using Option.casesOn with
  | none => exact nm h
  | some c => exact ⟨c, rfl⟩
theorem ite_at {o : Option Bool} {c : Bool} {a b : Out} {r : Res} (h : (match o with | some true => a | some false => b | .none => .none) = some r) (hc : o = some c) : c.rec b a = some r := by
  subst hc
  cases c <;> exact h
theorem ifexp_snd {ft fa fb : EvF} {t a b : Expr} {pos : Pos} (ht : SndT prog w G tabs m A fs kd cm env l ft (isTrue t env (eval t env))) (ha : Snd prog w G tabs m A fs kd cm env l fa (eval a env)) (hb : Snd prog w G tabs m A fs kd cm env l fb (eval b env)) :
    Snd prog w G tabs m A fs kd cm env l (fun P k ke => ft P (avK fun x P => match truth x with | some true => fa P k ke | some false => fb P k ke | .none => .none) ke) (eval (.IfExp t a b pos) env) := by
  intro P k ke res g s Q E X hf hQ hE
  refine wpAny_IfExp (ht X hf (fun x P' h1 => ite_ex h1) (fun x c P' g' s' h1 hc h2 => ?_) hE)
  have h1 := ite_at h1 hc
  induction c using Bool.casesOn with
  | true => exact ha (X.went h2) h1 (QLk.went h2 hQ) (EOk.went h2 hE)
  | false => exact hb (X.went h2) h1 (QLk.went h2 hQ) (EOk.went h2 hE)
theorem ifexpT_snd {ft fa fb : EvF} {t a b : Expr} {pos : Pos} {whole : Sem Value} (ht : SndT prog w G tabs m A fs kd cm env l ft (isTrue t env (eval t env))) (ha : SndT prog w G tabs m A fs kd cm env l fa (isTrue a env (eval a env))) (hb : SndT prog w G tabs m A fs kd cm env l fb (isTrue b env (eval b env))) :
    SndT prog w G tabs m A fs kd cm env l (fun P k ke => ft P (avK fun x P => match truth x with | some true => fa P k ke | some false => fb P k ke | .none => .none) ke) (isTrue (.IfExp t a b pos) env whole) := by
  intro P k ke res g s Q E X hf hk hQ hE
  refine (?_ : wpAny _ _ (isTrue t env (eval t env) >>= fun c => if c = true then isTrue a env (eval a env) else isTrue b env (eval b env)) _ _ _)
  refine wpAny_bind (ht X hf (fun x P' h1 => ite_ex h1) (fun x c P' g' s' h1 hc h2 => ?_) hE)
  have h1 := ite_at h1 hc
  induction c using Bool.casesOn with
  | true => exact ha (X.went h2) h1 hk (QTk.went h2 hQ) (EOk.went h2 hE)
  | false => exact hb (X.went h2) h1 hk (QTk.went h2 hQ) (EOk.went h2 hE)
theorem wp_eq {α : Type} {M : Model} {t t' : Sem α} {Q : α -> Shared -> Prop} (e : t = t') (h : wpAny M A t' Q E s) : wpAny M A t Q E s := e ▸ h
theorem bool_tree {op : BoolOp} {t : Bool} {v : Value} {rest : Sem Value} : (match op, t with | .And, false | .Or, true => pure v | _, _ => rest) = if stops op t then pure v else rest := by cases op <;> cases t <;> rfl
theorem bool_snd {F : Expr -> EvF} {op : BoolOp} {pos : Pos} (hF : ∀ e, Snd prog w G tabs m A fs kd cm env l (F e) (eval e env)) (es : List Expr) : ∀ {P : Hp} {k ke : AV -> Hp -> Out} {res : Res} {g : Gh} {s : Shared} {Q E : Value -> Shared -> Prop},
    Cfg prog w G tabs m A fs kd cm env l g P s -> boolE (fun e P k => F e P (avK k) ke) op k es P = some res -> QOk prog w G tabs g s k res Q -> EOk prog w G tabs g s ke res E -> wpAny (model prog w) A (boolOp pos op (evalEach es env)) Q E s := by
  induction es with
  | nil => exact fun z_ h => nm h
  | cons e rest ih =>
    intro P k ke res g s Q E X h hQ hE
    induction rest using List.casesOn with
    | nil => exact Snd.av (hF e) X h hQ hE
    | cons e2 rest =>
      refine (?_ : wpAny _ _ (do
        let v ← eval e env
        standAt pos
        let t ← holding [v] (truthy v)
        match op, t with
        | .And, false | .Or, true => pure v
        | _, _ => boolOp pos op (evalEach (e2 :: rest) env)) _ _ _)
      refine wpAny_bind (Snd.av (hF e) X h (fun v P' g' s' u h1 h2 h3 => wpAny_bind (wpAny_standAt ?_)) hE)
      refine omB (o := truth v) (f := fun t => if stops op t then k v P' else boolE (fun e P k => F e P (avK k) ke) op k (e2 :: rest) P') h1 fun t ht h1 => ?_
      refine wpAny_bind (wpAny_holding (truth_snd h3 ht fun tk => wp_eq bool_tree ?_))
      have st := h2.trans (Went.here (tk := tk) h2.1)
      refine oe h1 (fun hs h1 => ?_) fun hs h1 => ?_
      · rw [if_pos hs]; exact wpAny_pure (hQ v P' g' _ u h1 st h3)
      · rw [if_neg hs]; exact ih (X.went st) h1 (QOk.went st hQ) (EOk.went st hE)
theorem boolT_snd {F : Expr -> EvF} {op : BoolOp} (hF : ∀ e, SndT prog w G tabs m A fs kd cm env l (F e) (isTrue e env (eval e env))) (es : List Expr) : ∀ {P : Hp} {k ke : AV -> Hp -> Out} {res : Res} {g : Gh} {s : Shared} {Q : Bool -> Shared -> Prop} {E : Value -> Shared -> Prop},
    Cfg prog w G tabs m A fs kd cm env l g P s -> boolE (fun e P k => F e P (avK k) ke) op k es P = some res -> (∀ x P', k x P' = some res -> ∃ b, truth x = some b) ->
    QTk prog w G tabs g s k res Q -> EOk prog w G tabs g s ke res E -> wpAny (model prog w) A (allTrue op es env) Q E s := by
  induction es with
  | nil => exact fun z_ h => nm h
  | cons e rest ih =>
    intro P k ke res g s Q E X h hk hQ hE
    induction rest using List.casesOn with
    | nil =>
      induction op using PySem.BoolOp.casesOn with
      | And =>
        refine wpAny_allTrue_And_cons (hF e X h hk (fun x b P' g' s' h1 hb h2 => ?_) hE)
        induction b using Bool.casesOn with
        | true => exact wpAny_allTrue_And_nil (hQ x _ P' g' s' h1 hb h2)
        | false => exact hQ x _ P' g' s' h1 hb h2
      | Or =>
        refine wpAny_allTrue_Or_cons (hF e X h hk (fun x b P' g' s' h1 hb h2 => ?_) hE)
        induction b using Bool.casesOn with
        | true => exact hQ x _ P' g' s' h1 hb h2
        | false => exact wpAny_allTrue_Or_nil (hQ x _ P' g' s' h1 hb h2)
    | cons e2 rest =>
      induction op using PySem.BoolOp.casesOn with
      | And =>
        refine wpAny_allTrue_And_cons (hF e X h (fun x P' h1 => omB (f := fun t => if stops .And t then k x P' else boolE (fun e P k => F e P (avK k) ke) .And k (e2 :: rest) P') h1 fun b hb z_ => ⟨b, hb⟩) (fun x b P' g' s' h1 hb h2 => omB (f := fun t => if stops .And t then k x P' else boolE (fun e P k => F e P (avK k) ke) .And k (e2 :: rest) P') h1 fun c hc h1 => ?_) hE)
        cases si (hc.symm.trans hb)
        induction b using Bool.casesOn with
        | true => exact ih (X.went h2) h1 hk (QTk.went h2 hQ) (EOk.went h2 hE)
        | false => exact hQ x false P' g' s' h1 hb h2
      | Or =>
        refine wpAny_allTrue_Or_cons (hF e X h (fun x P' h1 => omB (f := fun t => if stops .Or t then k x P' else boolE (fun e P k => F e P (avK k) ke) .Or k (e2 :: rest) P') h1 fun b hb z_ => ⟨b, hb⟩) (fun x b P' g' s' h1 hb h2 => omB (f := fun t => if stops .Or t then k x P' else boolE (fun e P k => F e P (avK k) ke) .Or k (e2 :: rest) P') h1 fun c hc h1 => ?_) hE)
        cases si (hc.symm.trans hb)
        induction b using Bool.casesOn with
        | false => exact ih (X.went h2) h1 hk (QTk.went h2 hQ) (EOk.went h2 hE)
        | true => exact hQ x true P' g' s' h1 hb h2
theorem cmpE_one {av : Expr -> Hp -> (AV -> Hp -> Out) -> Out} {k : AV -> Hp -> Out} {x : AV} {op : CmpOp} {e : Expr} {P : Hp} : cmpE av k x [op] [e] P =
    av e P fun y P => match cmp1 P op x y with | some t => k (.bool t) P | .none => .none := rfl
theorem cmpE_m1 {av : Expr -> Hp -> (AV -> Hp -> Out) -> Out} {k : AV -> Hp -> Out} {x : AV} {op op2 : CmpOp} {ops : List CmpOp} {e : Expr} {es : List Expr} {P : Hp} : cmpE av k x (op :: op2 :: ops) (e :: es) P =
    av e P fun y P => match cmp1 P op x y with | some t => if t then cmpE av k y (op2 :: ops) es P else k (.bool false) P | .none => .none := rfl
theorem cmpE_m2 {av : Expr -> Hp -> (AV -> Hp -> Out) -> Out} {k : AV -> Hp -> Out} {x : AV} {op : CmpOp} {e e2 : Expr} {es : List Expr} {P : Hp} : cmpE av k x [op] (e :: e2 :: es) P =
    av e P fun y P => match cmp1 P op x y with | some t => if t then cmpE av k y [] (e2 :: es) P else k (.bool false) P | .none => .none := rfl
theorem marked1 {op op2 : CmpOp} {ops : List CmpOp} {e : Expr} {t : Sem Value} : markedEach (op :: op2 :: ops) [e] [t] = [t] := by simp [markedEach]
theorem marked2 {op : CmpOp} {e e2 : Expr} {es : List Expr} {t t2 : Sem Value} {ts : List (Sem Value)} : markedEach [op] (e :: e2 :: es) (t :: t2 :: ts) = t :: t2 :: ts := by simp [markedEach]
theorem marked3 {op op2 : CmpOp} {ops : List CmpOp} {e e2 : Expr} {es : List Expr} {t t2 : Sem Value} {ts : List (Sem Value)} : markedEach (op :: op2 :: ops) (e :: e2 :: es) (t :: t2 :: ts) = t :: markedEach (op2 :: ops) (e2 :: es) (t2 :: ts) := by simp [markedEach]
theorem step_go {β : Type} {f : EvF} {e : Expr} {op : CmpOp} {x : AV} {v : Value} {P : Hp} {k ke : AV -> Hp -> Out} {ko : AV -> Hp -> Out} {res : Res} {g : Gh} {s : Shared} {Q : β -> Shared -> Prop} {E : Value -> Shared -> Prop} {pos : Pos} {rest fin : Value -> Sem β} (hsys : ∃ o, G.get? sysModules = some o)
    (hf : Snd prog w G tabs m A fs kd cm env l f (eval e env)) (X : Cfg prog w G tabs m A fs kd cm env l g P s) (rv : VR prog w g x v)
    (h : f P (avK fun y P => match cmp1 P op x y with | some t => if t then ko y P else k (.bool false) P | .none => .none) ke = some res) (hE : EOk prog w G tabs g s ke res E)
    (hQ : ∀ P₂ g₂ s₂, k (.bool false) P₂ = some res -> Went prog w G tabs g s g₂ s₂ P₂ -> wpAny (model prog w) A (fin (.bool false)) Q E s₂)
    (hr : ∀ y P₂ g₂ s₂ u, ko y P₂ = some res -> Went prog w G tabs g s g₂ s₂ P₂ -> VR prog w g₂ y u -> wpAny (model prog w) A (rest u) Q E s₂) :
    wpAny (model prog w) A (do
      let rv ← holding [v] (eval e env)
      standAt pos
      let c ← holding [v, rv] (compareOp op v rv)
      release [v, rv] [c]
      if ← holding [c, rv] (truthy c) then rest rv else fin c) Q E s := by
  refine wpAny_bind (wpAny_holding (Snd.av hf X h (fun y P₂ g₂ s₂ u q₂ w₂ r₂ => wpAny_bind (wpAny_standAt ?_)) hE))
  refine omB q₂ fun t ht q₂ => wpAny_bind (wpAny_holding (cmp_snd w₂.1 hsys (rv.mono w₂.2.le) r₂ ht X.M.units fun tk => wpAny_bind (wpAny_release' (wpAny_bind (wpAny_holding (wpAny_truthy_bool ?_))))))
  have w₃ := w₂.trans (Went.here (tk := tk) w₂.1)
  induction t using Bool.casesOn with
  | true => exact hr y P₂ g₂ _ u q₂ w₃ r₂
  | false => exact hQ P₂ g₂ _ q₂ w₃
theorem no_marks {op : CmpOp} {e : Expr} (h : ∀ a b c, e ≠ .Set a b c) : behindInMarks op e = false := by
  unfold behindInMarks
  split
  · exact absurd rfl (h _ _ _)
  · rfl
theorem cmpE_snd {F : Expr -> EvF} {pos : Pos} (hsys : ∃ o, G.get? sysModules = some o) (hF : ∀ e, Snd prog w G tabs m A fs kd cm env l (F e) (eval e env)) (hset : ∀ a b c P k ke, F (.Set a b c) P k ke = none) (ops : List CmpOp) : ∀ (es : List Expr) {x : AV} {v : Value} {P : Hp} {k ke : AV -> Hp -> Out} {res : Res} {g : Gh} {s : Shared} {Q E : Value -> Shared -> Prop},
    Cfg prog w G tabs m A fs kd cm env l g P s -> VR prog w g x v -> cmpE (fun e P k => F e P (avK k) ke) k x ops es P = some res -> QOk prog w G tabs g s k res Q -> EOk prog w G tabs g s ke res E ->
      wpAny (model prog w) A (compareChain pos v ops (markedEach ops es (evalEach es env))) Q E s := by
  induction ops with
  | nil => exact fun z_ z_ z_ z_ z_ z_ z_ z_ z_ z_ z_ z_ z_ h => nm h
  | cons op ops ih =>
    intro es x v P k ke res g s Q E X rv h hQ hE
    induction es using List.casesOn with
    | nil => exact nm h
    | cons e es =>
      induction ops using List.casesOn with
      | nil =>
        induction es using List.casesOn with
        | nil =>
          rw [markedEach_of_false _ _ _ (show lastMarks [op] [e] = false from no_marks fun a b c z => nn ((hset a b c P _ ke).symm.trans (z ▸ h)))]
          exact chain_last (Snd.av (hF e) X h (fun y P₂ g₂ s₂ u q₂ w₂ r₂ => omB q₂ fun t ht q₂ => cmp_snd w₂.1 hsys (rv.mono w₂.2.le) r₂ ht X.M.units fun tk => hQ (.bool t) P₂ g₂ _ _ q₂ (w₂.trans (Went.here w₂.1)) (.bool t)) hE)
        | cons e2 es => exact step_go (ko := fun y P => cmpE (fun e P k => F e P (avK k) ke) k y [] (e2 :: es) P) (rest := fun rv => compareChain pos rv [] (eval e2 env :: evalEach es env)) (fin := pure) hsys (hF e) X rv h hE (fun P₂ g₂ s₂ q w => wpAny_pure (hQ _ P₂ g₂ s₂ _ q w (.bool false))) fun z_ z_ z_ z_ z_ h => nm h
      | cons op2 ops =>
        induction es using List.casesOn with
        | nil =>
          rw [show evalEach [e] env = [eval e env] from rfl, marked1]
          exact step_go (ko := fun y P => cmpE (fun e P k => F e P (avK k) ke) k y (op2 :: ops) [] P) (rest := fun rv => compareChain pos rv (op2 :: ops) []) (fin := pure) hsys (hF e) X rv h hE (fun P₂ g₂ s₂ q w => wpAny_pure (hQ _ P₂ g₂ s₂ _ q w (.bool false))) fun z_ z_ z_ z_ z_ h => nm h
        | cons e2 es =>
          rw [show evalEach (e :: e2 :: es) env = eval e env :: eval e2 env :: evalEach es env from rfl, marked3]
          exact step_go (ko := fun y P => cmpE (fun e P k => F e P (avK k) ke) k y (op2 :: ops) (e2 :: es) P) (rest := fun rv => compareChain pos rv (op2 :: ops) (markedEach (op2 :: ops) (e2 :: es) (evalEach (e2 :: es) env))) (fin := pure) hsys (hF e) X rv h hE (fun P₂ g₂ s₂ q w => wpAny_pure (hQ _ P₂ g₂ s₂ _ q w (.bool false))) fun y P₂ g₂ s₂ u q w₂ r => ih (e2 :: es) (X.went w₂) r q (QOk.went w₂ hQ) (EOk.went w₂ hE)
end
end DK
namespace DK
open PySem PySem.W PySem.Calls PyProof.Rows
section
variable {prog : Program} {w : World} {K : Frag} {G : Heap} {mg mb : Str -> Option Value} {tabs : List (Addr × Addr × Str)} {m : Nat} {A : Around} {fs : Fs} {kd : Kinds} {cm : Str -> Option Addr} {env : Env} {l : Loc} {g : Gh} {P : Hp} {s : Shared}
  {E : Value -> Shared -> Prop} {ke : AV -> Hp -> Out} {res : Res} {r : CallR}
noncomputable abbrev QBk (prog : Program) (w : World) (G : Heap) (tabs : List (Addr × Addr × Str)) (g : Gh) (s : Shared) (k : AV -> Hp -> Out) (res : Res) (Q : Bool -> Shared -> Prop) : Prop := ∀ t P' g' s', k (.bool t) P' = some res -> Went prog w G tabs g s g' s' P' -> Q t s'
theorem QBk.went {k : AV -> Hp -> Out} {Q : Bool -> Shared -> Prop} {g' : Gh} {s' : Shared} {P' : Hp} (x : Went prog w G tabs g s g' s' P') (h : QBk prog w G tabs g s k res Q) : QBk prog w G tabs g' s' k res Q := fun v P' g'' s'' h1 h2 => h v P' g'' s'' h1 (x.trans h2)
theorem cmpT_snd {F : Expr -> EvF} {pos : Pos} (hsys : ∃ o, G.get? sysModules = some o) (hF : ∀ e, Snd prog w G tabs m A fs kd cm env l (F e) (eval e env)) (hset : ∀ a b c P k ke, F (.Set a b c) P k ke = none) (ops : List CmpOp) : ∀ (es : List Expr) {x : AV} {v : Value} {P : Hp} {k ke : AV -> Hp -> Out} {res : Res} {g : Gh} {s : Shared} {Q : Bool -> Shared -> Prop} {E : Value -> Shared -> Prop},
    Cfg prog w G tabs m A fs kd cm env l g P s -> VR prog w g x v -> cmpE (fun e P k => F e P (avK k) ke) k x ops es P = some res -> QBk prog w G tabs g s k res Q -> EOk prog w G tabs g s ke res E ->
      wpAny (model prog w) A (testChain pos v ops (markedEach ops es (evalEach es env))) Q E s := by
  induction ops with
  | nil => exact fun z_ z_ z_ z_ z_ z_ z_ z_ z_ z_ z_ z_ z_ h => nm h
  | cons op ops ih =>
    intro es x v P k ke res g s Q E X rv h hQ hE
    induction es using List.casesOn with
    | nil => exact nm h
    | cons e es =>
      induction ops using List.casesOn with
      | nil =>
        induction es using List.casesOn with
        | nil =>
          rw [markedEach_of_false _ _ _ (show lastMarks [op] [e] = false from no_marks fun a b c z => nn ((hset a b c P _ ke).symm.trans (z ▸ h)))]
          exact test_last (Snd.av (hF e) X h (fun y P₂ g₂ s₂ u q₂ w₂ r₂ => omB q₂ fun t ht q₂ => cmp_snd w₂.1 hsys (rv.mono w₂.2.le) r₂ ht X.M.units fun tk => wpAny_truthy_bool (hQ t P₂ g₂ _ q₂ (w₂.trans (Went.here w₂.1)))) hE)
        | cons e2 es => exact step_go (ko := fun y P => cmpE (fun e P k => F e P (avK k) ke) k y [] (e2 :: es) P) (rest := fun rv => testChain pos rv [] (eval e2 env :: evalEach es env)) (fin := fun z_ => pure false) hsys (hF e) X rv h hE (fun P₂ g₂ s₂ q w => wpAny_pure (hQ false P₂ g₂ s₂ q w)) fun z_ z_ z_ z_ z_ h => nm h
      | cons op2 ops =>
        induction es using List.casesOn with
        | nil =>
          rw [show evalEach [e] env = [eval e env] from rfl, marked1]
          exact step_go (ko := fun y P => cmpE (fun e P k => F e P (avK k) ke) k y (op2 :: ops) [] P) (rest := fun rv => testChain pos rv (op2 :: ops) []) (fin := fun z_ => pure false) hsys (hF e) X rv h hE (fun P₂ g₂ s₂ q w => wpAny_pure (hQ false P₂ g₂ s₂ q w)) fun z_ z_ z_ z_ z_ h => nm h
        | cons e2 es =>
          rw [show evalEach (e :: e2 :: es) env = eval e env :: eval e2 env :: evalEach es env from rfl, marked3]
          exact step_go (ko := fun y P => cmpE (fun e P k => F e P (avK k) ke) k y (op2 :: ops) (e2 :: es) P) (rest := fun rv => testChain pos rv (op2 :: ops) (markedEach (op2 :: ops) (e2 :: es) (evalEach (e2 :: es) env))) (fin := fun z_ => pure false) hsys (hF e) X rv h hE (fun P₂ g₂ s₂ q w => wpAny_pure (hQ false P₂ g₂ s₂ q w)) fun y P₂ g₂ s₂ u q w₂ r => ih (e2 :: es) (X.went w₂) r q (QBk.went w₂ hQ) (EOk.went w₂ hE)
theorem compare_snd {f : EvF} {F : Expr -> EvF} {a : Expr} {ops : List CmpOp} {es : List Expr} {pos : Pos} (hsys : ∃ o, G.get? sysModules = some o) (hf : Snd prog w G tabs m A fs kd cm env l f (eval a env)) (hF : ∀ e, Snd prog w G tabs m A fs kd cm env l (F e) (eval e env)) (hset : ∀ a b c P k ke, F (.Set a b c) P k ke = none) :
    Snd prog w G tabs m A fs kd cm env l (fun P k ke => f P (avK fun x P => cmpE (fun e P k => F e P (avK k) ke) (fun v P => k (.av v) P) x ops es P) ke) (eval (.Compare a ops es pos) env) := by
  intro P k ke res g s Q E X h hQ hE
  rw [arm_eval_Compare]
  refine wpAny_bind (hf.av X h (fun x P₁ g₁ s₁ u q₁ w₁ r₁ => ?_) hE)
  exact cmpE_snd hsys hF hset ops es (X.went w₁) r₁ q₁ (QOk.went w₁ (QLk.av hQ)) (EOk.went w₁ hE)
theorem compareT_snd {f : EvF} {F : Expr -> EvF} {a : Expr} {ops : List CmpOp} {es : List Expr} {pos : Pos} {whole : Sem Value} (hsys : ∃ o, G.get? sysModules = some o) (hf : Snd prog w G tabs m A fs kd cm env l f (eval a env)) (hF : ∀ e, Snd prog w G tabs m A fs kd cm env l (F e) (eval e env)) (hset : ∀ a b c P k ke, F (.Set a b c) P k ke = none) :
    SndT prog w G tabs m A fs kd cm env l (fun P k ke => f P (avK fun x P => cmpE (fun e P k => F e P (avK k) ke) (fun v P => k (.av v) P) x ops es P) ke) (isTrue (.Compare a ops es pos) env whole) := by
  intro P k ke res g s Q E X h hk hQ hE
  refine (?_ : wpAny _ _ (eval a env >>= fun v => testChain pos v ops (markedEach ops es (evalEach es env))) _ _ _)
  refine wpAny_bind (hf.av X h (fun x P₁ g₁ s₁ u q₁ w₁ r₁ => ?_) hE)
  exact cmpT_snd hsys hF hset ops es (X.went w₁) r₁ q₁ (fun t P'' g'' s'' q1 q2 => hQ (.bool t) t P'' g'' s'' q1 rfl (w₁.trans q2)) (EOk.went w₁ hE)
theorem each_cons {e : Expr} {es : List Expr} (h : ∀ a b, e ≠ .Starred a b) : starEach (e :: es) env = (false, eval e env) :: starEach es env := by
  induction e using PySem.Expr.casesOn with
  | Starred a b => exact absurd rfl (h a b)
  | _ => rfl
noncomputable abbrev QSk (prog : Program) (w : World) (G : Heap) (tabs : List (Addr × Addr × Str)) (g : Gh) (s : Shared) (k : List AV -> Hp -> Out) (res : Res) (n : Nat) (Q : List Value -> Shared -> Prop) : Prop := ∀ vs P' g' s' us, k vs P' = some res -> Went prog w G tabs g s g' s' P' -> VRs prog w g' vs us -> us.length = n -> Q us s'
theorem seq_snd {F : Expr -> EvF} {pos : Pos} (hF : ∀ e, Snd prog w G tabs m A fs kd cm env l (F e) (eval e env)) (hst : ∀ a b P k ke, F (.Starred a b) P k ke = none) (es : List Expr) : ∀ {P : Hp} {k : List AV -> Hp -> Out} {ke : AV -> Hp -> Out} {res : Res} {g : Gh} {s : Shared} {Q : List Value -> Shared -> Prop} {E : Value -> Shared -> Prop},
    Cfg prog w G tabs m A fs kd cm env l g P s -> seqE (fun e P k => F e P (avK k) ke) es P k = some res -> QSk prog w G tabs g s k res es.length Q -> EOk prog w G tabs g s ke res E -> wpAny (model prog w) A (spliced (backTo pos (starEach es env))) Q E s := by
  induction es with
  | nil => exact fun X h hQ z_ => spliced_nil (hQ [] _ _ _ [] h (Went.here X.R) .nil rfl)
  | cons e es ih =>
    intro P k ke res g s Q E X h hQ hE
    rw [each_cons fun a b z => nn ((hst a b P _ ke).symm.trans (z ▸ h))]
    exact spliced_cons ((Snd.av (hF e)) X h (fun v P₁ g₁ s₁ u q₁ w₁ r₁ => ih (X.went w₁) q₁ (fun vs P₂ g₂ s₂ us q₂ w₂ r₂ n => hQ _ P₂ g₂ s₂ _ q₂ (w₁.trans w₂) (.cons (r₁.mono w₂.2.le) r₂) (congrArg Nat.succ n)) (EOk.went w₁ hE)) hE)
theorem len_ok {n m : Nat} (e : n = m) (h : m < 1000) : n ≤ sizeLine := e ▸ Nat.le_trans (Nat.le_of_lt h) (sizeL ▸ by decide)
theorem tuple_snd {F : Expr -> EvF} {es : List Expr} {n : Nat} {pos : Pos} (hF : ∀ e, Snd prog w G tabs m A fs kd cm env l (F e) (eval e env)) (hst : ∀ a b P k ke, F (.Starred a b) P k ke = none) :
    Snd prog w G tabs m A fs kd cm env l (fun P k ke => if es.length < 1000 then seqE (fun e P k => F e P (avK k) ke) es P fun vs P => k (.av (.tup vs)) P else .none) (eval (.Tuple es n pos) env) := by
  intro P k ke res g s Q E X h hQ hE
  refine oi h fun hz h => wpAny_Tuple (seq_snd hF hst es X h (fun vs P₁ g₁ s₁ us q₁ w₁ r₁ hn => ⟨len_ok hn hz, ?_⟩) hE)
  have fr := w₁.1.froze (o := tupObj us.toArray 0) rfl
  exact hQ _ P₁ _ _ _ q₁ (w₁.trans ⟨fr.1, fr.2.2.1 _ _⟩) (.av (.tup fr.2.2.2 (r₁.mono fr.2.1)))
theorem list_snd {F : Expr -> EvF} {es : List Expr} {pos : Pos} (hF : ∀ e, Snd prog w G tabs m A fs kd cm env l (F e) (eval e env)) (hst : ∀ a b P k ke, F (.Starred a b) P k ke = none) :
    Snd prog w G tabs m A fs kd cm env l (fun P k ke => if es.length < 1000 then seqE (fun e P k => F e P (avK k) ke) es P fun vs P => k (.av (.lst vs)) P else .none) (eval (.List es pos) env) := by
  intro P k ke res g s Q E X h hQ hE
  refine oi h fun hz h => wpAny_List (seq_snd hF hst es X h (fun vs P₁ g₁ s₁ us q₁ w₁ r₁ hn => ⟨len_ok hn hz, ?_⟩) hE)
  have fr := w₁.1.froze (o := listObj us.toArray 0) rfl
  exact hQ _ P₁ _ _ _ q₁ (w₁.trans ⟨fr.1, fr.2.2.1 _ _⟩) (.av (.lst fr.2.2.2 (r₁.mono fr.2.1)))
theorem omL {o : Option LV} {f : LV -> Out} {r : Res} {Q : Prop} (h : (match o with | some x => f x | none => none) = some r) (k : ∀ x, o = some x -> f x = some r -> Q) : Q := by
  induction o using Option.casesOn with
  | none => exact nm h
  | some x => exact k x rfl h
theorem name_k {o c : Option NameKind} {a b : Out} {r : Res} (h : (match o with
      | some .local => a
      | some .cell => a
      | some .free => a
      | some .globalImplicit => b
      | _ => .none) = some r) (e : o = c) : (match (generalizing := false) c with
      | some .local => a
      | some .cell => a
      | some .free => a
      | some .globalImplicit => b
      | _ => .none) = some r := e ▸ h
theorem name_snd {x : Str} {pos : Pos} (FX : Facts prog w K G mg mb tabs) :
    Snd prog w G tabs m A fs kd cm env l (fun P k ke => match slook x kd with
      | some .local => (match slook x l with | some v => k v P | .none => .none)
      | some .cell => (match slook x l with | some v => k v P | .none => .none)
      | some .free => (match slook x l with | some v => k v P | .none => .none)
      | some .globalImplicit => (match slook x globs with | some v => k (.av v) P | .none => .none)
      | _ => .none) (eval (.Name x pos) env) := by
  intro P k ke res g s Q E X h hQ hE
  have hx : ∀ k, slook x kd = some k -> (x == ("__debug__" : Str)) = false := fun k hk => (not_bad (X.V.nbad x k hk)).1
  have loc : ∀ {k' : NameKind}, slook x kd = some k' -> (k' = .local ∨ k' = .cell ∨ k' = .free) -> (match slook x l with | some v => k v P | .none => .none) = some res -> wpAny (model prog w) A (eval (.Name x pos) env) Q E s := fun hk hk' h =>
    omL h fun v hv h => wpAny_Name (loadName_snd X.V X.F hk hk' hv fun u ru => hQ v P g s u h (Went.here X.R) ru) (hx _ hk)
  induction hk : slook x kd using Option.casesOn with
  | none => exact nm (name_k h hk)
  | some c =>
    have h := name_k h hk
    induction c using PySem.NameKind.casesOn with
    | «local» => exact loc hk (.inl rfl) h
    | cell => exact loc hk (.inr (.inl rfl)) h
    | free => exact loc hk (.inr (.inr rfl)) h
    | globalExplicit => exact nm h
    | globalImplicit =>
      refine omA h fun v hv h => u12 (FX.glob x v hv) fun u hu hl => Name_function_global X.V.fn (X.V.gi x hk) ?_ (hx _ hk)
      have q := hQ _ P g s u h (Went.here X.R) (.av (vr_of_lit hl))
      have n1 : s.heap.Ns env.globals mg := X.V.glob ▸ FX.ns.keeps X.R.inG
      exact hu.elim (fun hu => loadGlobal_global n1 hu q) fun z => loadGlobal_builtin n1 z.1 (X.V.blt ▸ FX.nb.keeps X.R.inG) z.2 q
end
end DK
namespace DK
open PySem PySem.W PySem.Calls PyProof.Rows
section
variable {prog : Program} {w : World} {K : Frag} {G : Heap} {mg mb : Str -> Option Value} {tabs : List (Addr × Addr × Str)} {m : Nat} {A : Around} {fs : Fs} {kd : Kinds} {cm : Str -> Option Addr} {env : Env} {l : Loc} {g : Gh} {P : Hp} {s : Shared}
  {E : Value -> Shared -> Prop} {ke : AV -> Hp -> Out} {res : Res} {r : CallR}
theorem const_snd {c : Const} {n : Nat} {pos : Pos} : Snd prog w G tabs m A fs kd cm env l (fun P k ke => match c with
      | .none => k (.av .none) P
      | .bool b => k (.av (.bool b)) P
      | .int i => k (.av (.int i)) P
      | .str s => k (.av (.str s)) P
      | .bytes b => k (.av (.byt b)) P
      | _ => .none) (eval (.Constant c n pos) env) := by
  intro P k ke res g s Q E X h hQ hE
  have here : ∀ tk, Went prog w G tabs g s g { s with toks := tk } P := fun tk => .here X.R
  induction c using PySem.Const.casesOn with
  | none => exact Constant_none (hQ _ P g s _ h (here s.toks) (.av .none))
  | bool b => exact Constant_bool (hQ _ P g s _ h (here s.toks) (.av (.bool b)))
  | int i => exact fun z_ z_ z_ => hQ _ P g _ _ h (here (s.toks + 1)) (.av (.int i _))
  | str x => exact Constant_str (hQ _ P g _ _ h (here (s.toks + 1)) (.av (.str x _)))
  | bytes b => exact fun z_ z_ z_ => hQ _ P g _ _ h (here (s.toks + 1)) (.av (.byt b _))
  | _ => exact nm h
theorem base_of {o : Expr} {a : Str} {t : Sem Value} (h : notSuper o = true) : attributeBase o a env t = t := by
  induction o using PySem.Expr.casesOn with
  | Call f args kws p => induction f using PySem.Expr.casesOn with
    | Name x q => induction args using List.casesOn with
      | nil => induction kws using List.casesOn with
        | nil => exact nt h
        | cons => rfl
      | cons => rfl
    | _ => rfl
  | _ => rfl
theorem prop_snd (FX : Facts prog w K G mg mb tabs) (hr : CallOk prog w G tabs r m) (R : Rep prog w G tabs g P s.heap) (hC : CtxOk g A) (hM : Room m A.in1) {j C f : Nat} {fs : List (Str × AV)} {a : Str} {o : Value} {v : AV} {P' : Hp} {expr : Bool} {Q : Value -> Shared -> Prop}
    (hP : P[j]? = some (.inst C fs)) (ro : VR prog w g (.ref j) o) (hm : slook a (classOf C) = some (.prop f)) (hv : r P (rf f) [.ref j] = some (.ok v P')) (nt : notTop v = true)
    (hQ : ∀ g' s' u, Went prog w G tabs g s g' s' P' -> VR prog w g' v u -> Q u s') : wpAny (model prog w) A (getAttr o a expr) Q E s := by
  refine (inst_at R hP ro).casesOn fun x d des ep e0 hσ hx hd e fd q => (FX.prop C a f hm).elim fun c1 z => z.elim fun c2 z => u24 z fun p rest c3 c4 c5 c6 => ?_
  subst e0
  have X := FX.at R
  have R1 : Rep prog w G tabs g P ({ s with toks := s.toks + 1 } : Shared).heap := R
  refine get_bind X (instAt_of e fd) (plainGet_of c1).1 (findObj_data (u12 (any_some c2) fun cd hc z_ => hc.symm ▸ rfl) c3 c4 c5) (plainGet_of c1).2 (wpAny_call (prop_get (s := { s with toks := s.toks + 1 }) X c6 ?_))
  refine hr.code (s := { s with toks := s.toks + 1 }) rfl R1 hC hM (.top _) (.cons ro .nil) hv (fun x P'' g' s' u q1 q2 q3 => ?_) (fun b P'' g' s' e q1 => Res.noConfusion q1)
  have q1 := Res.ok.inj q1
  have q3 : VR prog w g' v u := q1.1 ▸ q3
  exact handed_on (handed_of q3 nt) (hQ g' s' u ((Went.here R).trans (q1.2 ▸ q2)) q3)
theorem getA_ref {j : Nat} {a : Str} {k : AV -> Hp -> Out} {o : Option AO} (e : P[j]? = o) : getA r P (.ref j) a k = match (generalizing := false) o with
    | some (.inst C fs) => match slook a (classOf C) with
      | some (.prop f) => (match r P (rf f) [.ref j] with
        | some (.ok v P) => if notTop v then k v P else .none
        | _ => .none)
      | some (.meth f) => if (slook a fs).isNone then k (.met f (.ref j)) P else .none
      | .none => getF C a fs fun v => k v P
    | _ => .none := by subst e; rfl
theorem okk {o : Out} {f : AV -> Hp -> Out} {M : Prop} (h : (match o with | some (.ok v P) => f v P | _ => .none) = some res) (k : ∀ v P, o = some (.ok v P) -> f v P = some res -> M) : M := by
  induction o using Option.casesOn with
  | none => exact nm h
  | some o => induction o using DK.Res.casesOn with
    | ok v P => exact k v P rfl h
    | exc => exact nm h
theorem cas_by {o : Option CA} {f g : Nat -> Out} {d : Out} {M : Prop} (h : (match o with | some (.prop n) => f n | some (.meth n) => g n | .none => d) = some res) (hp : ∀ n, o = some (.prop n) -> f n = some res -> M) (hm : ∀ n, o = some (.meth n) -> g n = some res -> M) (hd : d = some res -> M) : M := by
  induction o using Option.casesOn with
  | none => exact hd h
  | some o => induction o using DK.CA.casesOn with
    | prop n => exact hp n rfl h
    | meth n => exact hm n rfl h
theorem getA_by {j : Nat} {a : Str} {k : AV -> Hp -> Out} {M : Prop} (h : getA r P (.ref j) a k = some res) (hp : ∀ C fs f v P', P[j]? = some (.inst C fs) -> slook a (classOf C) = some (.prop f) -> r P (rf f) [.ref j] = some (.ok v P') -> notTop v = true -> k v P' = some res -> M)
    (hm : ∀ C fs f, P[j]? = some (.inst C fs) -> slook a (classOf C) = some (.meth f) -> (slook a fs).isNone = true -> k (.met f (.ref j)) P = some res -> M) (hf : ∀ C fs, P[j]? = some (.inst C fs) -> (getF C a fs fun v => k v P) = some res -> M) : M := by
  induction e : P[j]? using Option.casesOn with
  | none => exact nm ((getA_ref (r := r) (a := a) (k := k) e).symm.trans h)
  | some o =>
    have h := (getA_ref e).symm.trans h
    induction o using DK.AO.casesOn with
    | inst C fs => exact cas_by h (fun f e1 h => okk h fun v P' e2 h => oi h fun nt h => hp C fs f v P' e e1 e2 nt h) (fun f e1 h => oi h fun n h => hm C fs f e e1 n h) (hf C fs e)
    | _ => exact nm h
theorem getA_snd (FX : Facts prog w K G mg mb tabs) (hr : CallOk prog w G tabs r m) (X : Cfg prog w G tabs m A fs kd cm env l g P s) {x : AV} {a : Str} {o : Value} {k : AV -> Hp -> Out} {Q : Value -> Shared -> Prop} (ro : VR prog w g x o) (h : getA r P x a k = some res)
    (hQ : QOk prog w G tabs g s k res Q) : wpAny (model prog w) A (getAttr o a true) Q E s := by
  induction x using DK.AV.casesOn with
  | ins C fs' => exact u44 ro.inv fun x d es ep e0 e1 e2 q => e0 ▸ getF_snd FX X.R (X.R.fro _ _ e1) (X.R.fro _ _ e2) q h fun tk v u h1 h2 => hQ v P g _ u h1 (.here X.R) h2
  | ref j =>
    exact getA_by h (fun C fs' f v P' hP hf hv nt h => prop_snd FX hr X.R X.C X.M.room1 hP ro hf hv nt fun g' s' u h1 h2 => hQ v P' g' s' u h h1 h2)
      (fun C fs' f hP hf hn h => bound_snd FX X.R hP ro hf hn fun g' h' tk v st rv => hQ _ P g' _ v h (.of_step st) rv)
      (fun C fs' hP h => (inst_at X.R hP ro).casesOn fun y d des ep e0 z_ z_ z_ e fd q => e0 ▸ getF_snd FX X.R e fd q h fun tk v u h1 h2 => hQ v P g _ u h1 (.here X.R) h2)
  | _ => exact nm h
theorem attr_snd {f : EvF} {o : Expr} {a : Str} {pos : Pos} (FX : Facts prog w K G mg mb tabs) (hr : CallOk prog w G tabs r m) (ho : Snd prog w G tabs m A fs kd cm env l f (eval o env)) :
    Snd prog w G tabs m A fs kd cm env l (fun P k ke => if notSuper o then f P (avK fun v P => getA r P v a (fun v P => k (.av v) P)) ke else .none) (eval (.Attribute o a pos) env) := by
  intro P k ke res g s Q E X h hQ hE
  refine oi h fun hs h => ?_
  · rw [arm_eval_Attribute, base_of hs]
    refine wpAny_bind (ho.av X h (fun v P₁ g₁ s₁ u q₁ w₁ r₁ => wpAny_bind (wpAny_standAt ?_)) hE)
    exact wpAny_bind (wpAny_holding (getA_snd FX hr (X.went w₁) r₁ q₁ fun x P₂ g₂ s₂ y q₂ w₂ r₂ => wpAny_bind (wpAny_letTemporaryGo (wpAny_pure (hQ _ P₂ g₂ s₂ y q₂ (w₁.trans w₂) (.av r₂))))))
theorem gip {T id : String} {u : Value} {M : Model} {Q : Bool -> Shared -> Prop} (hl : typeLookup (.type T) "__getitem__" = pure (some (.builtin id))) (hT : s.TypeIs u T) (h : Q false s) : wpAny M A (getitemInPython u) Q E s := by
  rw [getitemInPython_of_ne hT.not_modules]
  exact wpAny_bind (wpAny_specialOf hT hl (wpAny_pure h))
theorem sub_plain {i : Expr} {u t : Value} {M : Model} {Q : Value -> Shared -> Prop} (hi : ∀ a b c d, i ≠ .Slice a b c d) (h : wpAny M A (getItem u t) Q E s) : wpAny M A (subscripted i false u t) Q E s := by
  induction i using PySem.Expr.casesOn with
  | Slice => exact absurd rfl (hi _ _ _ _)
  | _ => exact wpAny_operating h
theorem sub_rule {f₁ f₂ : EvF} {o i : Expr} {pos : Pos} (hi : ∀ a b c d, i ≠ .Slice a b c d) (ho : Snd prog w G tabs m A fs kd cm env l f₁ (eval o env)) (hi' : Snd prog w G tabs m A fs kd cm env l f₂ (eval i env)) :
    Snd prog w G tabs m A fs kd cm env l (fun P k ke => f₁ P (avK fun v P => f₂ P (avK fun j P => match item P v j with | some x => k (.av x) P | .none => .none) ke) ke) (eval (.Subscript o i pos) env) := by
  intro P k ke res g s Q E X h hQ hE
  rw [eval_Subscript]
  refine wpAny_bind (ho.av X h (fun v P₁ g₁ s₁ u q₁ w₁ r₁ => wpAny_bind (wpAny_holding (hi'.av (X.went w₁) q₁ (fun j P₂ g₂ s₂ t q₂ w₂ r₂ => wpAny_bind (wpAny_standAt ?_)) (EOk.went w₁ hE)))) hE)
  refine omA q₂ fun x hx q₂ => u23 (item_snd (E := E) w₂.1 (r₁.mono w₂.2.le) r₂ hx X.M.units (Q := fun y s₃ => wpAny (model prog w) A (letTemporaryGo o u y >>= fun z_ => pure y) Q E s₃)
      fun tk y ry => wpAny_bind (wpAny_letTemporaryGo (wpAny_pure (hQ _ P₂ g₂ _ y q₂ (w₁.trans (w₂.trans (.here w₂.1))) (.av ry))))) fun T id hl hT hg => ?_
  exact wpAny_bind (gip hl hT (wpAny_bind (sub_plain hi hg)))
theorem new_own (R : Rep prog w G tabs g P s.heap) {o : Obj} {ao : AO} (hf : o.isFreed = false) (n : ∀ h', (∀ a o, s.heap.get? a = some o -> h'.get? a = some o) -> h'.get? s.heap.objs.size = some o -> AOR prog w (g.add s.heap.objs.size) h' ao g.σ.length s.heap.objs.size) {tk : Nat} :
    Went prog w G tabs g s (g.add s.heap.objs.size) { s with heap := s.heap.push o, toks := tk } (P ++ [ao]) := by
  have fr := R.fresh (Nat.le_refl s.heap.objs.size)
  refine ⟨(R.push o).addObj fr (size_psh1 _ _) (n _ (fun a o' e => Heap.get?_push_of_some _ e) (Heap.get?_push_size _ hf)), .of_keeps (Gh.le_add fr) (Nat.le_of_lt (size_psh1 _ _)) fun a o' z_ e => Heap.get?_push_of_some _ e⟩
theorem push_any (R : Rep prog w G tabs g P s.heap) {o : Obj} {tk : Nat} : Went prog w G tabs g s g { s with heap := s.heap.push o, toks := tk } P :=
  ⟨R.push o, .of_keeps (.refl g) (Nat.le_of_lt (size_psh1 _ _)) fun a o' z_ e => Heap.get?_push_of_some _ e⟩
theorem new_list (R : Rep prog w G tabs g P s.heap) {vs : List AV} {us : List Value} (q : VRs prog w g vs us) {tk : Nat} :
    Went prog w G tabs g s (g.add s.heap.objs.size) { s with heap := s.heap.push (listObj us.toArray 0), toks := tk } (P ++ [.list vs]) ∧ VR prog w (g.add s.heap.objs.size) (.ref P.length) (.ref s.heap.objs.size) := by
  have fr := R.fresh (Nat.le_refl s.heap.objs.size)
  exact ⟨new_own R rfl fun h' k e => .list e (q.mono (Gh.le_add fr)), .ref (R.len ▸ List.getElem?_concat_length)⟩
theorem slc_by {o : Option (List AV)} {v : AV} {f : List AV -> Int -> Out} {M : Prop} (h : (match o, v with | some its, .int h => f its h | _, _ => .none) = some res) (k : ∀ its n, o = some its -> v = .int n -> f its n = some res -> M) : M := by
  induction o using Option.casesOn with
  | none => exact nm h
  | some its => induction v using DK.AV.casesOn with
    | int n => exact k its n rfl rfl h
    | _ => exact nm h
theorem pick_upto (vs : Array Value) {n : Int} (hn : 0 ≤ n) : slicePick vs none (some n) none = (vs.toList.take n.toNat).toArray := (Int.eq_ofNat_of_zero_le hn).elim fun k e => e ▸ slicePick_upto' vs k
theorem pick_from (vs : Array Value) {n : Int} (hn : 0 ≤ n) : slicePick vs (some n) none none = (vs.toList.drop n.toNat).toArray := (Int.eq_ofNat_of_zero_le hn).elim fun k e => e ▸ slicePick_from' vs k
theorem len_ok5 {n m : Nat} (e : n = m) (h : m < 100000) : n ≤ sizeLine := e ▸ Nat.le_trans (Nat.le_of_lt h) (sizeL ▸ by decide)
theorem slice_snd {f₁ f₂ : EvF} {o hi : Expr} {p pos : Pos} (ho : Snd prog w G tabs m A fs kd cm env l f₁ (eval o env)) (hh : Snd prog w G tabs m A fs kd cm env l f₂ (eval hi env)) :
    Snd prog w G tabs m A fs kd cm env l (fun P k ke => f₁ P (avK fun v P => f₂ P (avK fun hv P => match lstOf P v, hv with
      | some its, .int h => if 0 ≤ h ∧ its.length < 100000 then k (.av (.ref P.length)) (P ++ [.list (its.take h.toNat)]) else .none
      | _, _ => .none) ke) ke) (eval (.Subscript o (.Slice .none (some hi) .none p) pos) env) := by
  intro P k ke res g s Q E X h hQ hE
  rw [eval_Subscript]
  refine wpAny_bind (ho.av X h (fun v P₁ g₁ s₁ u q₁ w₁ r₁ => wpAny_bind (wpAny_holding (wpAny_Slice (wpAny_pure (hh.av (X.went w₁) q₁ (fun j P₂ g₂ s₂ t q₂ w₂ r₂ => ?_) (EOk.went w₁ hE)))))) hE)
  rw [evalPart_none]
  refine wpAny_pure (wpAny_bind (wpAny_standAt ?_))
  refine slc_by q₂ fun its n hl en q₂ => oi q₂ fun hb q₂ => (lst_of w₂.1 (r₁.mono w₂.2.le) hl).casesOn fun x vs e0 pl rv => (vr_int (en ▸ r₂)).elim fun tt e2 => ?_
  subst e0; subst e2
  have IL : s₂.heap.IsList x vs := pl.isList
  have w₃ := push_any (tk := s₂.toks) w₂.1 (o := { cls := .type "slice", data := .fields #[.none, .int n tt, .none] })
  refine wpAny_bind (gip (s := { s₂ with heap := s₂.heap.push { cls := .type "slice", data := .fields #[.none, .int n tt, .none] } }) list_getitem_lookup (IL.push _).typeIs ?_)
  refine wpAny_bind (wpAny_operating (wpAny_getItem_list_slice (IL.push _) (Heap.IsSliceOf.new ..) .none (.int n tt) .none (by simp) (wpAny_bind (wpAny_letTemporaryGo (wpAny_pure ?_))) (len_ok5 (size_of rv) hb.2)))
  rw [pick_upto vs hb.1]
  exact (new_list (tk := s₂.toks) w₃.1 (rv.take n.toNat)).elim fun w₄ r₄ => hQ _ _ _ _ _ q₂ (w₁.trans (w₂.trans (w₃.trans w₄))) (.av r₄)
theorem sliceFrom_snd {f₁ f₂ : EvF} {o lo : Expr} {p pos : Pos} (ho : Snd prog w G tabs m A fs kd cm env l f₁ (eval o env)) (hh : Snd prog w G tabs m A fs kd cm env l f₂ (eval lo env)) :
    Snd prog w G tabs m A fs kd cm env l (fun P k ke => f₁ P (avK fun v P => f₂ P (avK fun hv P => match lstOf P v, hv with
      | some its, .int h => if 0 ≤ h ∧ h ≤ its.length ∧ its.length < 100000 then k (.av (.ref P.length)) (P ++ [.list (its.drop h.toNat)]) else .none
      | _, _ => .none) ke) ke) (eval (.Subscript o (.Slice (some lo) .none .none p) pos) env) := by
  intro P k ke res g s Q E X h hQ hE
  rw [eval_Subscript]
  refine wpAny_bind (ho.av X h (fun v P₁ g₁ s₁ u q₁ w₁ r₁ => wpAny_bind (wpAny_holding (wpAny_Slice (hh.av (X.went w₁) q₁ (fun j P₂ g₂ s₂ t q₂ w₂ r₂ => ?_) (EOk.went w₁ hE))))) hE)
  rw [evalPart_none]
  refine wpAny_pure ?_
  refine wpAny_pure (wpAny_bind (wpAny_standAt ?_))
  refine slc_by q₂ fun its n hl en q₂ => oi q₂ fun hb q₂ => (lst_of w₂.1 (r₁.mono w₂.2.le) hl).casesOn fun x vs e0 pl rv => (vr_int (en ▸ r₂)).elim fun tt e2 => ?_
  subst e0; subst e2
  have IL : s₂.heap.IsList x vs := pl.isList
  have w₃ := push_any (tk := s₂.toks) w₂.1 (o := { cls := .type "slice", data := .fields #[.int n tt, .none, .none] })
  refine wpAny_bind (gip (s := { s₂ with heap := s₂.heap.push { cls := .type "slice", data := .fields #[.int n tt, .none, .none] } }) list_getitem_lookup (IL.push _).typeIs ?_)
  refine wpAny_bind (wpAny_operating (wpAny_getItem_list_slice (IL.push _) (Heap.IsSliceOf.new ..) (.int n tt) .none .none (by simp) (wpAny_bind (wpAny_letTemporaryGo (wpAny_pure ?_))) (len_ok5 (size_of rv) hb.2.2)))
  rw [pick_from vs hb.1]
  exact (new_list (tk := s₂.toks) w₃.1 (rv.drop n.toNat)).elim fun w₄ r₄ => hQ _ _ _ _ _ q₂ (w₁.trans (w₂.trans (w₃.trans w₄))) (.av r₄)
end
end DK
namespace DK
open PySem PySem.W PySem.Calls PyProof.Rows
section
variable {prog : Program} {w : World} {K : Frag} {G : Heap} {mg mb : Str -> Option Value} {tabs : List (Addr × Addr × Str)} {m : Nat} {A : Around} {fs : Fs} {kd : Kinds} {cm : Str -> Option Addr} {env : Env} {l : Loc} {g : Gh} {P : Hp} {s : Shared}
  {E : Value -> Shared -> Prop} {ke : AV -> Hp -> Out} {res : Res} {r : CallR}
theorem keepU_looks {M : Model} {h : Heap} {u : Value} (e : keepU K u = true) (X : K.In h) : ∃ k, (k = Keeper.frame ∨ k = Keeper.machine ∨ k = Keeper.boundFrame) ∧ Looks M h (keeperOf u) k := by
  induction u using PySem.Value.casesOn with
  | ref a => exact keeps_K (K := K) (f := .ref a) e h X
  | _ => exact ⟨.machine, .inr (.inl rfl), .now⟩
theorem noStar_by {e : Expr} {es : List Expr} (h : noStar (e :: es) = true) : starEach (e :: es) env = (false, eval e env) :: starEach es env ∧ noStar es = true := by
  induction e using PySem.Expr.casesOn with
  | Starred => exact nt h
  | _ => exact ⟨rfl, h⟩
theorem noStar_any {pos : Pos} {es : List Expr} (h : noStar es = true) : (backTo pos (starEach es env)).any (·.1) = false := by
  induction es with
  | nil => rfl
  | cons e es ih =>
    have z := noStar_by (env := env) h
    rw [z.1]
    exact ih z.2
theorem args_snd {F : Expr -> EvF} {pos : Pos} {f : Value} (hF : ∀ e, Snd prog w G tabs m A fs kd cm env l (F e) (eval e env)) (hst : ∀ a b P k ke, F (.Starred a b) P k ke = none) {es : List Expr} {k : List AV -> Hp -> Out} {Q : Args -> Shared -> Prop}
    (X : Cfg prog w G tabs m A fs kd cm env l g P s) (h : seqE (fun e P k => F e P (avK k) ke) es P k = some res) (hn : noStar es = true)
    (hQ : ∀ vs P' g' s' us, k vs P' = some res -> Went prog w G tabs g s g' s' P' -> VRs prog w g' vs us -> Q ⟨us, []⟩ s') (hE : EOk prog w G tabs g s ke res E) : wpAny (model prog w) A (evalArgs f true (backTo pos (starEach es env)) []) Q E s := by
  have sq := seq_snd (pos := pos) (Q := fun us s' => Q ⟨us, []⟩ s') (E := E) hF hst es X h (fun vs P' g' s' us h1 h2 h3 z_ => hQ vs P' g' s' us h1 h2 h3) hE
  induction es using List.casesOn with
  | nil => exact evalArgs_nil3 (hQ [] P g s [] h (Went.here X.R) .nil)
  | cons e es =>
    have key := (noStar_by (env := env) hn).1
    rw [key] at sq ⊢
    exact evalArgs_plain sq
theorem callW_snd {F : Expr -> EvF} {pos : Pos} {f : Value} {fst : List Value} (FX : Facts prog w K G mg mb tabs) (hk : keepU K f = true) (hF : ∀ e, Snd prog w G tabs m A fs kd cm env l (F e) (eval e env)) (hst : ∀ a b P k ke, F (.Starred a b) P k ke = none) {es : List Expr} {k : List AV -> Hp -> Out} {Q : Value -> Shared -> Prop}
    (X : Cfg prog w G tabs m A fs kd cm env l g P s) (h : seqE (fun e P k => F e P (avK k) ke) es P k = some res) (hn : noStar es = true)
    (hQ : ∀ vs P' g' s' us, k vs P' = some res -> Went prog w G tabs g s g' s' P' -> VRs prog w g' vs us -> wpAny (model prog w) A (call f (fst ++ us) []) Q E s') (hE : EOk prog w G tabs g s ke res E) :
    wpAny (model prog w) A (callWith pos f fst (backTo pos (starEach es env)) []) Q E s :=
  callWith_of (P := fun h => K.In h) (by rw [noStar_any hn]; rfl) (fun h X => keepU_looks hk X)
    (args_snd hF hst X h hn (fun vs P' g' s' us h1 h2 h3 => ⟨FX.at h2.1, hQ vs P' g' s' us h1 h2 h3⟩) hE)
theorem res_by {o : Out} {f k : AV -> Hp -> Out} {M : Prop} (h : (match o with | some (.ok v P) => f v P | some (.exc b P) => k b P | .none => .none) = some res) (ho : ∀ v P, o = some (.ok v P) -> f v P = some res -> M) (hx : ∀ b P, o = some (.exc b P) -> k b P = some res -> M) : M := by
  induction o using Option.casesOn with
  | none => exact nm h
  | some o => induction o using DK.Res.casesOn with
    | ok v P => exact ho v P rfl h
    | exc b P => exact hx b P rfl h
theorem doCall_snd (hr : CallOk prog w G tabs r m) (X : Cfg prog w G tabs m A fs kd cm env l g P s) {f : AV} {args : List AV} {fv : Value} {us : List Value} {k : AV -> Hp -> Out} {Q : Value -> Shared -> Prop} (rf : VR prog w g f fv) (ra : VRs prog w g args us)
    (h : doCall r P f args k ke = some res) (hQ : QOk prog w G tabs g s k res Q) (hE : EOk prog w G tabs g s ke res E) : wpAny (model prog w) A (call fv us []) Q E s := by
  refine res_by h (fun v P' hv h => ?_) fun b P' hv h => ?_
  · have hq (x P'' g' s' u) (q1 : Res.ok v P' = .ok x P'') (q2 : Went prog w G tabs g s g' s' P'') (q3 : VR prog w g' x u) : Q u s' := hQ v P' g' s' u h ((Res.ok.inj q1).2.symm ▸ q2) ((Res.ok.inj q1).1.symm ▸ q3)
    induction hb : isB f using Bool.casesOn with
    | true => exact (hr.blt hb X.R X.C X.M.room rf ra hv hq).2
    | false => exact wpAny_call (hr.code hb X.R X.C X.M.room rf ra hv hq fun z_ z_ z_ z_ z_ q1 => Res.noConfusion q1)
  · induction hb : isB f using Bool.casesOn with
    | true => exact absurd rfl ((hr.blt (Q := Q) (E := E) hb X.R X.C X.M.room rf ra hv (fun z_ z_ z_ z_ z_ q1 => Res.noConfusion q1)).1 b P')
    | false => exact wpAny_call (hr.code hb X.R X.C X.M.room rf ra hv (fun z_ z_ z_ z_ z_ q1 => Res.noConfusion q1) fun x P'' g' s' e q1 q2 q3 => hE b P' g' s' e h ((Res.exc.inj q1).2.symm ▸ q2) ((Res.exc.inj q1).1.symm ▸ q3))
theorem glob_snd {x : Str} {pos : Pos} {f : AV} {Q : Value -> Shared -> Prop} (FX : Facts prog w K G mg mb tabs) (X : Cfg prog w G tabs m A fs kd cm env l g P s) (hk : slook x kd = some .globalImplicit) (hf : slook x globs = some f)
    (h : ∀ u, litOk f u -> Q u s) : wpAny (model prog w) A (eval (.Name x pos) env) Q E s := by
  refine u12 (FX.glob x f hf) fun u hu hl => Name_function_global X.V.fn (X.V.gi x hk) ?_ (not_bad (X.V.nbad x _ hk)).1
  have n1 : s.heap.Ns env.globals mg := X.V.glob ▸ FX.ns.keeps X.R.inG
  exact hu.elim (fun hu => loadGlobal_global n1 hu (h u hl)) fun z => loadGlobal_builtin n1 z.1 (X.V.blt ▸ FX.nb.keeps X.R.inG) z.2 (h u hl)
theorem keep_lit (FX : Facts prog w K G mg mb tabs) {x : Str} {f : AV} {u : Value} (hf : slook x globs = some f) (hl : litOk f u) : keepU K u = true := by
  induction f using DK.AV.casesOn with
  | top v => exact (show v = u from hl) ▸ FX.keep x _ hf
  | int i => exact Exists.elim hl fun t e => e ▸ rfl
  | bool b => exact (show u = _ from hl) ▸ rfl
  | none => exact (show u = _ from hl) ▸ rfl
  | _ => exact False.elim hl
theorem glob_by {o : Option NameKind} {p : Option AV} {F : AV -> Out} {M : Prop} (h : (match o, p with | some .globalImplicit, some f => F f | _, _ => .none) = some res) (k : ∀ f, o = some .globalImplicit -> p = some f -> F f = some res -> M) : M := by
  induction o using Option.casesOn with
  | none => exact nm h
  | some o => induction o using PySem.NameKind.casesOn with
    | globalImplicit => induction p using Option.casesOn with
      | none => exact nm h
      | some f => exact k f rfl rfl h
    | _ => exact nm h
theorem call_snd {F : Expr -> EvF} {x : Str} {p pos : Pos} {es : List Expr} (FX : Facts prog w K G mg mb tabs) (hr : CallOk prog w G tabs r m) (hF : ∀ e, Snd prog w G tabs m A fs kd cm env l (F e) (eval e env)) (hst : ∀ a b P k ke, F (.Starred a b) P k ke = none) :
    Snd prog w G tabs m A fs kd cm env l (fun P k ke => match slook x kd, slook x globs with
        | some .globalImplicit, some f => if decide (es.length < 25) && noStar es then seqE (fun e P k => F e P (avK k) ke) es P fun vs P => doCall r P f vs (fun v P => k (.av v) P) ke else .none
        | _, _ => .none) (eval (.Call (.Name x p) es [] pos) env) := by
  intro P k ke res g s Q E X h hQ hE
  refine (?_ : wpAny _ _ (eval (.Name x p) env >>= fun f => callWith pos f [] (backTo pos (starEach es env)) []) _ _ _)
  refine glob_by h fun f hk hf h => oi h fun hb h => wpAny_bind (glob_snd FX X hk hf fun u hl => callW_snd FX (keep_lit FX hf hl) hF hst X h (Bool.and_eq_true_iff.mp hb).2 (fun vs P' g' s' us h1 h2 h3 => doCall_snd hr (X.went h2) (vr_of_lit hl) h3 h1 (QOk.went h2 (QLk.av hQ)) (EOk.went h2 hE)) hE)
end
end DK
namespace DK
open PySem PySem.W PySem.Calls PyProof.Rows
noncomputable def mtV : MT -> Value
  | .fn f => .ref f
  | .la => .builtin "list.append"
  | .lp => .builtin "list.pop"
  | .dg => .builtin "dict.get"
  | .dv => .builtin "dict.values"
theorem methOf_ref {P : Hp} {j : Nat} {m : Str} {o : Option AO} (e : P[j]? = o) : methOf P (.ref j) m = match (generalizing := false) o with
    | some (.inst C fs) => match slook m (classOf C) with
      | some (.meth f) => if (slook m fs).isNone then some (.fn f) else .none
      | _ => .none
    | some (.list _) => if m = Str.ofString "append" then some .la else if m = Str.ofString "pop" then some .lp else .none
    | some (.dict _) => if m = Str.ofString "get" then some .dg else if m = Str.ofString "values" then some .dv else .none
    | .none => .none := by subst e; rfl
theorem two_by {c d : Prop} {i : Decidable c} {i' : Decidable d} {α : Type} {x y mt : α} {M : Prop} (h : (if c then some x else if d then some y else none) = some mt) (hx : c -> x = mt -> M) (hy : d -> y = mt -> M) : M :=
  oe h (fun p h => hx p (si h)) fun z_ h => oi h fun p h => hy p (si h)
theorem methOf_by {P : Hp} {ov : AV} {a : Str} {mt : MT} {M : Prop} (h : methOf P ov a = some mt) (hm : ∀ j C fs f, ov = .ref j -> P[j]? = some (.inst C fs) -> slook a (classOf C) = some (.meth f) -> (slook a fs).isNone = true -> MT.fn f = mt -> M)
    (hl : ∀ j l, ov = .ref j -> P[j]? = some (.list l) -> (Str.ofString "append" = a ∧ MT.la = mt) ∨ (Str.ofString "pop" = a ∧ MT.lp = mt) -> M) (hd : ∀ j es, ov = .ref j -> P[j]? = some (.dict es) -> (Str.ofString "get" = a ∧ MT.dg = mt) ∨ (Str.ofString "values" = a ∧ MT.dv = mt) -> M) : M := by
  induction ov using DK.AV.casesOn with
  | ref j =>
    induction e : P[j]? using Option.casesOn with
    | none => exact nm ((methOf_ref (m := a) e).symm.trans h)
    | some o =>
      have h := (methOf_ref e).symm.trans h
      induction o using DK.AO.casesOn with
      | list l => exact two_by h (fun p q => hl j l rfl e (.inl ⟨p.symm, q⟩)) fun p q => hl j l rfl e (.inr ⟨p.symm, q⟩)
      | dict es => exact two_by h (fun p q => hd j es rfl e (.inl ⟨p.symm, q⟩)) fun p q => hd j es rfl e (.inr ⟨p.symm, q⟩)
      | inst C fs =>
        have h : (match slook a (classOf C) with
          | some (.meth f) => if (slook a fs).isNone then some (.fn f) else .none
          | _ => .none) = some mt := h
        induction e2 : slook a (classOf C) using Option.casesOn with
        | none => rw [e2] at h; exact nm h
        | some z =>
          rw [e2] at h
          induction z using DK.CA.casesOn with
          | meth f => exact oi h fun n h => hm j C fs f rfl e e2 n (si h)
          | prop => exact nm h
  | _ => exact nm h
section
variable {prog : Program} {w : World} {K : Frag} {G : Heap} {mg mb : Str -> Option Value} {tabs : List (Addr × Addr × Str)} {m : Nat} {A : Around} {fs : Fs} {kd : Kinds} {cm : Str -> Option Addr} {env : Env} {l : Loc} {g : Gh} {P : Hp} {s : Shared}
  {E : Value -> Shared -> Prop} {ke : AV -> Hp -> Out} {res : Res} {r : CallR}
theorem meth_bind {o : Expr} {a : Str} {apos pos : Pos} {es : List Expr} {ov f : Value} {first : List Value} {Q : Value -> Shared -> Prop} (hl : (apos.endLine == pos.line) = true) (hz : es.length < 25) (hn : noStar es = true)
    (h : wpAny (model prog w) A (getMethod ov a (do return (← importBound o env).getD true)) (fun p s' => wpAny (model prog w) A (callWith pos p.1 p.2 (backTo pos (starEach es env)) []) Q E s') E s) :
    wpAny (model prog w) A (methodCall o a apos pos env ov (es.length + 0) (backTo pos (starEach es env)) []) Q E s := by
  have hform : methodCallForm (es.length + 0) (backTo pos (starEach es env)) [] = true := by
    unfold methodCallForm
    have h1 : (backTo pos (starEach es env)).all (!·.1) = true := by
      exact List.all_eq_true.mpr fun x hx => (Bool.not_eq_true' _).mpr (Bool.eq_false_iff.mpr (List.any_eq_false.mp (noStar_any (env := env) (pos := pos) hn) x hx))
    rw [h1]
    simp only [List.all_nil, Bool.true_and, List.isEmpty_nil, if_true, decide_eq_true_eq]
    omega
  have hpos : methodCallPos true o env apos pos = pure pos := by unfold methodCallPos; simp [hl]
  unfold methodCall
  rw [hform]
  unfold calleeOf
  rw [if_pos rfl]
  refine wpAny_bind (wpAny_holding (wpAny_mono h (fun p s' h' => ?_) fun z_ z_ e => e))
  exact wpAny_bind (wpAny_of_eq hpos h')
theorem dictless {j : Nat} {ao : AO} {v : Value} (R : Rep prog w G tabs g P s.heap) (hP : P[j]? = some ao) (r : VR prog w g (.ref j) v) (hn : ∀ C fs, ao ≠ .inst C fs) : ∀ a, v = .ref a -> ∃ ob, s.heap.get? a = some ob ∧ ob.dict = none := by
  intro a e
  refine u12 r.inv fun x e' hk => u13 (R.own _ _ hP) fun b h1 h2 h3 => ?_
  have hx : b = a := (si (h1.symm.trans hk)).trans (Value.ref.inj (e'.symm.trans e))
  subst hx
  have h3 := h3.inv
  induction ao using DK.AO.casesOn with
  | list l => exact u22 h3 fun z_ z_ e z_ => ⟨_, e, rfl⟩
  | dict es => exact h3.elim (fun z => u33 z fun z_ z_ z_ e z_ z_ => ⟨_, e, rfl⟩) fun z => u34 z fun z_ z_ z_ e z_ z_ z_ => ⟨_, e, rfl⟩
  | inst => exact absurd rfl (hn _ _)
theorem typeList {j : Nat} {l : List AV} {v : Value} (R : Rep prog w G tabs g P s.heap) (hP : P[j]? = some (.list l)) (r : VR prog w g (.ref j) v) : s.TypeIs v "list" := by
  exact (list_at R hP r).casesOn fun a vs n e0 z_ z_ e z_ => e0 ▸ ⟨_, e, rfl⟩
theorem typeDict {j : Nat} {es : List (AV × AV)} {v : Value} (R : Rep prog w G tabs g P s.heap) (hP : P[j]? = some (.dict es)) (r : VR prog w g (.ref j) v) : s.TypeIs v "dict" := by
  exact (dict_at R hP r).casesOn fun d des ep e0 z_ z_ e z_ => e0 ▸ typeIs_dct e
theorem lsf_by {o : Option AO} {f : List AV -> Out} {M : Prop} (h : (match o with | some (.list l) => f l | _ => .none) = some res) (k : ∀ l, o = some (.list l) -> f l = some res -> M) : M := by
  induction o using Option.casesOn with
  | none => exact nm h
  | some o => induction o using DK.AO.casesOn with
    | list l => exact k l rfl h
    | _ => exact nm h
theorem lsc_by {o : Option AO} {f : AV -> List AV -> Out} {M : Prop} (h : (match o with | some (.list (v :: l)) => f v l | _ => .none) = some res) (k : ∀ v l, o = some (.list (v :: l)) -> f v l = some res -> M) : M := by
  induction o using Option.casesOn with
  | none => exact nm h
  | some o => induction o using DK.AO.casesOn with
    | list l => induction l using List.casesOn with
      | nil => exact nm h
      | cons v l => exact k v l rfl h
    | _ => exact nm h
theorem ref0_by {ov : AV} {vs : List AV} {F : Nat -> Out} {M : Prop} (h : (match ov, vs with | .ref j, [] => F j | _, _ => .none) = some res) (k : ∀ j, ov = .ref j -> vs = [] -> F j = some res -> M) : M := by
  induction ov using DK.AV.casesOn with
  | ref j => induction vs using List.casesOn with
    | nil => exact k j rfl rfl h
    | cons => exact nm h
  | _ => exact nm h
theorem ref1_by {ov : AV} {vs : List AV} {F : Nat -> AV -> Out} {M : Prop} (h : (match ov, vs with | .ref j, [v] => F j v | _, _ => .none) = some res) (k : ∀ j v, ov = .ref j -> vs = [v] -> F j v = some res -> M) : M := by
  induction ov using DK.AV.casesOn with
  | ref j => induction vs using List.casesOn with
    | nil => exact nm h
    | cons v r => induction r using List.casesOn with
      | nil => exact k j v rfl rfl h
      | cons => exact nm h
  | _ => exact nm h
theorem ref2_by {ov : AV} {vs : List AV} {F : Nat -> AV -> AV -> Out} {M : Prop} (h : (match ov, vs with | .ref j, [v, u] => F j v u | _, _ => .none) = some res) (k : ∀ j v u, ov = .ref j -> vs = [v, u] -> F j v u = some res -> M) : M := by
  induction ov using DK.AV.casesOn with
  | ref j => induction vs using List.casesOn with
    | nil => exact nm h
    | cons v r => induction r using List.casesOn with
      | nil => exact nm h
      | cons u r => induction r using List.casesOn with
        | nil => exact k j v u rfl rfl h
        | cons => exact nm h
  | _ => exact nm h
theorem refp_by {ov : AV} {vs : List AV} {F G : Nat -> Out} {M : Prop} (h : (match ov, vs with | .ref j, [] => F j | .ref j, [.int 0] => G j | _, _ => .none) = some res) (k : ∀ j, ov = .ref j -> vs = [] -> F j = some res -> M) (k' : ∀ j, ov = .ref j -> vs = [.int 0] -> G j = some res -> M) : M := by
  induction ov using DK.AV.casesOn with
  | ref j => induction vs using List.casesOn with
    | nil => exact k j rfl rfl h
    | cons v r => induction r using List.casesOn with
      | nil => induction v using DK.AV.casesOn with
        | int i => induction i using Int.casesOn with
          | ofNat n => cases n with
            | zero => exact k' j rfl rfl h
            | succ => exact nm h
          | negSucc => exact nm h
        | _ => exact nm h
      | cons => induction v using DK.AV.casesOn with
        | int i => induction i using Int.casesOn with
          | ofNat n => cases n <;> exact nm h
          | negSucc => exact nm h
        | _ => exact nm h
  | _ => exact nm h
theorem oov_by {o : Option (Option AV)} {f : AV -> Out} {d : Out} {M : Prop} (h : (match o with | some (some v) => f v | some .none => d | .none => .none) = some res) (k : ∀ x, o = some x -> (match x with | some v => f v | .none => d) = some res -> M) : M := by
  induction o using Option.casesOn with
  | none => exact nm h
  | some x => cases x <;> exact k _ rfl h
theorem methB_snd (FX : Facts prog w K G mg mb tabs) (hr : CallOk prog w G tabs r m) (X : Cfg prog w G tabs m A fs kd cm env l g P s) {mt : MT} {ov : AV} {o : Value} {vs : List AV} {us : List Value} {k : AV -> Hp -> Out} {Q : Value -> Shared -> Prop}
    (ro : VR prog w g ov o) (rv : VRs prog w g vs us) (h : methB r P mt ov vs k ke = some res) (hQ : QOk prog w G tabs g s k res Q) (hE : EOk prog w G tabs g s ke res E) :
    wpAny (model prog w) A (call (mtV mt) ([o] ++ us) []) Q E s := by
  induction mt using DK.MT.casesOn with
  | fn f => exact doCall_snd hr X (.top _) (.cons ro rv) h hQ hE
  | la =>
    refine ref1_by h fun j v e1 e2 q => lsf_by q fun l hP q => oi q fun hz q => ?_
    subst e1; subst e2
    refine u23 rv.ex fun u us' e rv' rn => ?_
    have e3 := rn.ex0
    subst e; subst e3
    exact append_snd X.R hP ro rv' hz fun h' tk st => hQ _ _ g _ _ q (.of_step st) .none
  | lp =>
    refine refp_by h (fun j e1 e2 q => lsf_by q fun l hP q => oi q fun hz q => omA q fun v hv q => ?_) fun j e1 e2 q => lsc_by q fun v l hP q => oi q fun hz q => ?_
    · subst e1; subst e2
      have e3 := rv.ex0
      subst e3
      exact pop_snd X.R hP ro hv hz fun h' tk u st ru => hQ _ _ g _ _ q (.of_step st) ru
    · subst e1; subst e2
      refine u23 rv.ex fun u us' e rv' rn => (vr_int rv').elim fun t et => ?_
      have e3 := rn.ex0
      subst e; subst e3; subst et
      exact pop0_snd X.R hP ro hz fun h' tk u st ru => hQ _ _ g _ _ q (.of_step st) ru
  | dg =>
    refine ref2_by h fun j key d e1 e2 q => dct_by q fun es hP q => oov_by q fun x hv q => ?_
    subst e1; subst e2
    refine u23 rv.ex fun u us' e rk rn => u23 rn.ex fun u' us'' e' rd rn' => (dict_at X.R hP ro).casesOn fun y des ep e0 hd ho eo ao => u12 (dget_snd X.R ao rk hv) fun rv' G1 G2 => ?_
    have e3 := rn'.ex0
    subst e; subst e'; subst e0; subst e3
    refine get2_dct eo (own_ne_sys X.R FX.sys ho) G1 (Nat.le_sub_of_add_le (Nat.le_of_lt (Nat.lt_of_le_of_lt (Nat.add_le_add_left (by decide : 2 ≤ 10) _) X.M.units))) fun tk => ?_
    induction x using Option.casesOn with
    | none => induction rv' using Option.casesOn with
      | none => exact hQ _ P g _ _ q (.here X.R) rd
      | some => exact G2.elim
    | some v => induction rv' using Option.casesOn with
      | none => exact G2.elim
      | some u => exact hQ _ P g _ _ q (.here X.R) G2
  | dv =>
    refine ref0_by h fun j e1 e2 q => dct_by q fun es hP q => ?_
    subst e1; subst e2
    have e3 := rv.ex0
    subst e3
    exact dvalues_snd FX X.R hP ro fun g' h' tk v st rv => hQ _ P g' _ v q (.of_step st) rv
theorem omM {o : Option MT} {f : MT -> Out} {M : Prop} (h : (match o with | some x => f x | none => none) = some res) (k : ∀ x, o = some x -> f x = some res -> M) : M := by
  induction o using Option.casesOn with
  | none => exact nm h
  | some x => exact k x rfl h
theorem meth_snd {f : EvF} {F : Expr -> EvF} {o : Expr} {a : Str} {apos pos : Pos} {es : List Expr} (FX : Facts prog w K G mg mb tabs) (hr : CallOk prog w G tabs r m) (ho : Snd prog w G tabs m A fs kd cm env l f (eval o env)) (hF : ∀ e, Snd prog w G tabs m A fs kd cm env l (F e) (eval e env)) (hst : ∀ a b P k ke, F (.Starred a b) P k ke = none) :
    Snd prog w G tabs m A fs kd cm env l (fun P k ke => if notSuper o && apos.endLine == pos.line && decide (es.length < 25) && noStar es then
        f P (avK fun ov P => match methOf P ov a with
          | some mt => seqE (fun e P k => F e P (avK k) ke) es P fun vs P => methB r P mt ov vs (fun v P => k (.av v) P) ke
          | .none => .none) ke
      else .none) (eval (.Call (.Attribute o a apos) es [] pos) env) := by
  intro P k ke res g s Q E X h hQ hE
  refine oi h fun hb h => (Bool.and_eq_true_iff.mp hb).elim fun hb hn => (Bool.and_eq_true_iff.mp hb).elim fun hb hz => (Bool.and_eq_true_iff.mp hb).elim fun hs hl => ?_
  rw [arm_eval_Call, base_of hs]
  refine wpAny_bind (ho.av X h (fun ov P₁ g₁ s₁ u q₁ w₁ r₁ => wpAny_bind (wpAny_standAt (meth_bind (f := u) (first := []) hl (of_decide_eq_true hz) hn (omM q₁ fun mt hm q₁ => ?_)))) hE)
  have X₁ := X.went w₁
  have fin : ∀ {fv : Value}, keepU K fv = true -> fv = (mtV mt) ->
      wpAny (model prog w) A (callWith pos fv [u] (backTo pos (starEach es env)) []) Q E s₁ := fun hk e => by
    subst e
    exact callW_snd FX hk hF hst X₁ q₁ hn (fun vs P₂ g₂ s₂ us q₂ w₂ r₂ => methB_snd FX hr (X₁.went w₂) (r₁.mono w₂.2.le) r₂ q₂ (QOk.went w₂ (QOk.went w₁ (QLk.av hQ))) (EOk.went w₂ (EOk.went w₁ hE))) (EOk.went w₁ hE)
  refine methOf_by hm (fun j C fs' f ej hP hf hno em => ?_) (fun j l' ej hP z => z.elim (fun z => ?_) fun z => ?_) fun j es' ej hP z => z.elim (fun z => ?_) fun z => ?_
  · exact method_snd FX X₁.R hP (ej ▸ r₁) hf hno (fin (FX.meth C a f hf).2.2.2.2.1 (em ▸ rfl))
  · exact z.1 ▸ getMethod_builtin (typeList X₁.R hP (ej ▸ r₁)) PySem.F.plainAttrs_list PySem.F.slot_list_append PySem.F.type_list_append (dictless X₁.R hP (ej ▸ r₁) (fun z_ z_ => AO.noConfusion)) (fin rfl (z.2 ▸ rfl))
  · exact z.1 ▸ getMethod_builtin (typeList X₁.R hP (ej ▸ r₁)) PySem.F.plainAttrs_list PySem.F.slot_list_pop PySem.F.type_list_pop (dictless X₁.R hP (ej ▸ r₁) (fun z_ z_ => AO.noConfusion)) (fin rfl (z.2 ▸ rfl))
  · exact z.1 ▸ getMethod_builtin (typeDict X₁.R hP (ej ▸ r₁)) PySem.F.plainAttrs_dict PySem.F.slot_dict_get PySem.F.type_dict_get (dictless X₁.R hP (ej ▸ r₁) (fun z_ z_ => AO.noConfusion)) (fin rfl (z.2 ▸ rfl))
  · exact z.1 ▸ getMethod_builtin (typeDict X₁.R hP (ej ▸ r₁)) PySem.F.plainAttrs_dict PySem.F.slot_dict_values PySem.F.type_dict_values (dictless X₁.R hP (ej ▸ r₁) (fun z_ z_ => AO.noConfusion)) (fin rfl (z.2 ▸ rfl))
end
end DK
namespace DK
open PySem PySem.W PySem.Calls PyProof.Rows
inductive PrR (prog : Program) (w : World) (g : Gh) : List (AV × AV) -> List (Value × Value) -> Prop
  | nil : PrR prog w g [] []
  | cons {a b : AV} {u v : Value} {l : List (AV × AV)} {us : List (Value × Value)} : VR prog w g a u -> VR prog w g b v -> PrR prog w g l us -> PrR prog w g ((a, b) :: l) ((u, v) :: us)
noncomputable def prT (env : Env) (pos : Pos) : List (Option Expr) -> List Expr -> List (Sem Value × Sem Value)
  | some a :: ks, b :: vs => (eval a env, do let x ← eval b env; standAt pos; pure x) :: prT env pos ks vs
  | _, _ => []
section
variable {prog : Program} {w : World} {K : Frag} {G : Heap} {mg mb : Str -> Option Value} {tabs : List (Addr × Addr × Str)} {m : Nat} {A : Around} {fs : Fs} {kd : Kinds} {cm : Str -> Option Addr} {env : Env} {l : Loc} {g : Gh} {P : Hp} {s : Shared}
  {E : Value -> Shared -> Prop} {ke : AV -> Hp -> Out} {res : Res} {r : CallR}
theorem PrR.mono {g g' : Gh} (L : g.Le g') {ps us} (r : PrR prog w g ps us) : PrR prog w g' ps us := by
  induction r with
  | nil => exact .nil
  | cons a b _ ih => exact .cons (a.mono L) (b.mono L) ih
theorem prT_shape {pos : Pos} (ks : List (Option Expr)) : ∀ {vs : List Expr}, dictOk ks vs = true ->
    (evalEachOpt ks env).zip ((evalEach vs env).map fun v => do let x ← v; standAt pos; pure x) = (prT env pos ks vs).map (fun p => (some p.1, p.2)) ∧ (prT env pos ks vs).length = ks.length := by
  induction ks with
  | nil =>
    intro vs h
    induction vs using List.casesOn with
    | nil => exact ⟨rfl, rfl⟩
    | cons => exact nt h
  | cons o ks ih =>
    intro vs h
    induction o using Option.casesOn with
    | none => exact nt h
    | some a => induction vs using List.casesOn with
      | nil => exact nt h
      | cons b vs => exact (ih h).elim fun h1 h2 => ⟨congrArg (List.cons _) h1, congrArg (· + 1) h2⟩
theorem pairs_snd {F : Expr -> EvF} {pos : Pos} (hF : ∀ e, Snd prog w G tabs m A fs kd cm env l (F e) (eval e env)) (ks : List (Option Expr)) : ∀ (vs : List Expr) {P : Hp} {k : List (AV × AV) -> Hp -> Out} {ke : AV -> Hp -> Out} {res : Res} {g : Gh} {s : Shared} {Q : List (Value × Value) -> Shared -> Prop} {E : Value -> Shared -> Prop},
    Cfg prog w G tabs m A fs kd cm env l g P s -> pairsE (fun e P k => F e P (avK k) ke) ks vs P k = some res ->
    (∀ ps P' g' s' us, k ps P' = some res -> Went prog w G tabs g s g' s' P' -> PrR prog w g' ps us -> Q us s') -> EOk prog w G tabs g s ke res E -> wpAny (model prog w) A (evalPairs (prT env pos ks vs)) Q E s := by
  induction ks with
  | nil =>
    intro vs P k ke res g s Q E X h hQ hE
    induction vs using List.casesOn with
    | nil => exact evalPairs_nil (hQ [] P g s [] h (Went.here X.R) .nil)
    | cons => exact nm h
  | cons o ks ih =>
    intro vs P k ke res g s Q E X h hQ hE
    induction o using Option.casesOn with
    | none => exact nm h
    | some a => induction vs using List.casesOn with
      | nil => exact nm h
      | cons b vs =>
        refine evalPairs_cons (Snd.av (hF a) X h (fun x P₁ g₁ s₁ u q₁ w₁ r₁ => ?_) hE)
        refine wpAny_bind (Snd.av (hF b) (X.went w₁) q₁ (fun y P₂ g₂ s₂ v q₂ w₂ r₂ => wpAny_bind (wpAny_standAt (wpAny_pure ?_))) (EOk.went w₁ hE))
        have w₁₂ := w₁.trans w₂
        exact ih vs (X.went w₁₂) q₂ (fun ps P₃ g₃ s₃ us q₃ w₃ r₃ => hQ _ P₃ g₃ s₃ _ q₃ (w₁₂.trans w₃) (.cons (r₁.mono (w₂.2.le.trans w₃.2.le)) (r₂.mono w₃.2.le) r₃)) (EOk.went w₁₂ hE)
theorem set_at {P : Hp} {j : Nat} {o : AO} (h : P[j]? = some o) : P.set j o = P := (List.getElem?_eq_some_iff.mp h).elim fun h1 h2 => h2 ▸ List.set_getElem_self h1
theorem storeAll_snd {j : Nat} {d : Addr} (hu : A.units + 1 ≤ cLine) {ps : List (AV × AV)} {us : List (Value × Value)} {g : Gh} (r : PrR prog w g ps us) : ∀ {acc es : List (AV × AV)} {P : Hp} {s : Shared} {Q : PUnit -> Shared -> Prop}, Rep prog w G tabs g P s.heap -> putAll ps acc = some es -> P[j]? = some (.dict acc) -> g.σ[j]? = some d -> g.ρ d = .own j ->
    (∀ s', Went prog w G tabs g s g s' (P.set j (.dict es)) -> Q PUnit.unit s') ->
    wpAny (model prog w) A (forIn us PUnit.unit fun (x : Value × Value) (_ : PUnit) => (do dictSet d x.1 x.2; pure (ForInStep.yield PUnit.unit) : Sem (ForInStep PUnit))) Q E s := by
  induction r with
  | nil =>
    intro acc es P s Q R h hP hσ ho hQ
    rw [List.forIn_nil]
    exact wpAny_pure (hQ s (by rw [set_at (si h ▸ hP)]; exact Went.here (tk := s.toks) R))
  | @cons a b u v ps us ra rb rr ih =>
    intro acc es P s Q R h hP hσ ho hQ
    refine oi h fun z_ h => ob h fun acc' h1 h2 => u13 (R.own _ _ hP) fun d' q1 q2 q3 => ?_
    rw [List.forIn_cons]
    have hlt := (List.getElem?_eq_some_iff.mp hP).1
    refine wpAny_bind (wpAny_bind (dput_snd R hP hσ ho ((si (hσ.symm.trans q1)) ▸ q3) ra rb h1 A E _ (Nat.le_sub_of_add_le hu) fun h' tk S => wpAny_pure ?_))
    have w₁ : Went prog w G tabs g s g { s with heap := h', toks := tk } (P.set j (.dict acc')) := ⟨S.1, S.2 _ tk⟩
    exact ih w₁.1 h2 (List.getElem?_set_self hlt) hσ ho fun s' w₂ => hQ s' (w₁.trans (List.set_set .. ▸ w₂))
theorem disp_by {o : Option (List (AV × AV))} {p : Option AO} {f : List (AV × AV) -> Out} {M : Prop} (h : (match o, p with | some d, some (.dict []) => f d | _, _ => .none) = some res) (k : ∀ d, o = some d -> p = some (.dict []) -> f d = some res -> M) : M := by
  induction o using Option.casesOn with
  | none => exact nm h
  | some d => induction p using Option.casesOn with
    | none => exact nm h
    | some z => induction z using DK.AO.casesOn with
      | dict es => induction es using List.casesOn with
        | nil => exact k d rfl rfl h
        | cons => exact nm h
      | _ => exact nm h
theorem dict_snd {F : Expr -> EvF} {ks : List (Option Expr)} {vs : List Expr} {pos : Pos} (hF : ∀ e, Snd prog w G tabs m A fs kd cm env l (F e) (eval e env)) :
    Snd prog w G tabs m A fs kd cm env l (fun P k ke => if decide (ks.length < 10) && dictOk ks vs then pairsE (fun e P k => F e P (avK k) ke) ks vs (P ++ [.dict []]) fun ps P' => match putAll ps [], P'[P.length]? with
        | some d, some (.dict []) => k (.av (.ref P.length)) (P'.set P.length (.dict d))
        | _, _ => .none
      else .none) (eval (.Dict ks vs pos) env) := by
  intro P k ke res g s Q E X h hQ hE
  refine oi h fun hb h => (Bool.and_eq_true_iff.mp hb).elim fun hz hd => ?_
  have hz := of_decide_eq_true hz
  have w₀ : Went prog w G tabs g s (g.add s.heap.objs.size) { s with heap := s.heap.push (dctObj #[] 0) } (P ++ [.dict []]) :=
    new_own X.R rfl fun h' kp e => .dictP (kvs := []) e ⟨fun e he => absurd he (Array.not_mem_empty e), .nil, List.nodup_nil⟩ .nil
  have σ₀ : (g.add s.heap.objs.size).σ[P.length]? = some s.heap.objs.size := X.R.len ▸ List.getElem?_concat_length
  have ρ₀ : (g.add s.heap.objs.size).ρ s.heap.objs.size = .own P.length := X.R.len ▸ if_pos rfl
  induction ks using List.casesOn with
  | nil =>
    induction vs using List.casesOn with
    | cons => exact nt hd
    | nil => exact wpAny_Dict_empty (disp_by h fun d e1 e2 q => hQ _ _ _ _ _ q (si e1 ▸ (set_at (List.getElem?_concat_length)).symm ▸ w₀) (.av (.ref σ₀)))
  | cons k0 ks =>
    refine (prT_shape (env := env) (pos := pos) _ hd).elim fun sh ln => ?_
    have ln' : (prT env pos (k0 :: ks) vs).length < 10 := ln ▸ hz
    rw [arm_eval_Dict, sh, dictDisplay_pairs _ (fun e => Nat.noConfusion (ln.symm.trans (congrArg List.length e))) (by omega)]
    refine wpAny_bind (wpAny_standAt (wpAny_bind ?_))
    unfold subDict
    refine wpAny_bind (wpAny_alloc (wpAny_bind (wpAny_holding ?_)))
    rw [if_pos (by omega)]
    refine wpAny_bind (pairs_snd hF _ _ (X.went w₀) h (fun ps P' g' s' us q₁ w₁ r₁ => wpAny_holding (disp_by q₁ fun d hp hP' q₁ => ?_)) (EOk.went w₀ hE))
    have X₁ := (X.went w₀).went w₁
    exact wpAny_bind (storeAll_snd (Nat.le_of_lt (Nat.lt_of_le_of_lt (Nat.add_le_add_left (by decide : 1 ≤ 10) _) X.M.units)) r₁ X₁.R hp hP' (w₁.2.le.pre _ _ σ₀) (w₁.2.le.at ρ₀) fun s'' w₂ => wpAny_pure (wpAny_pure (wpAny_pure
      (hQ _ _ _ _ _ q₁ (w₀.trans (w₁.trans w₂)) (.av (.ref ((w₁.2.le.trans w₂.2.le).pre _ _ σ₀)))))))
end
end DK
set_option maxHeartbeats 2000000
namespace DK
open PySem PySem.W PySem.Calls PyProof.Rows
section
variable {prog : Program} {w : World} {A : Around} {E : Value -> Shared -> Prop} {s : Shared} {d it : Addr} {des : Array DictEntry} {ep i : Nat}
theorem keyIter_dct {Q : Value -> Shared -> Prop} (hd : (d == sysModules) = false) (e : s.heap.get? d = some (dctObj des ep))
    (hQ : Q (.ref s.heap.objs.size) { s with heap := s.heap.push { cls := .type "dict_keyiterator", data := .fields #[.ref d, .int 0 0, .int des.size 0, .int ep 0] } }) : wpAny (model prog w) A (pyIter (.ref d)) Q E s := by
  refine wpAny_pyIter_slot (typeIs_dct e) F.slot_dict_iter (wpAny_call_entry F.slot_dict_iter (typeIs_dct e) F.entry_dict_iter ?_ (F.args_dict_iter_1 _))
  unfold Builtin.«dict.__iter__» Builtin.Dict.dictSlotNone
  refine wpAny_bind (wpAny_bind (wpAny_notOrdered_dict (typeIs_dct e) (wpAny_pure ?_)))
  show wpAny _ _ (Builtin.Dict.showsAll d >>= _) _ _ s
  unfold Builtin.Dict.showsAll
  rw [if_neg (by rw [hd]; exact Bool.false_ne_true)]
  exact wpAny_bind (wpAny_pure (wpAny_bind (wpAny_dictEntries e rfl (wpAny_bind (wpAny_dictEpoch e rfl (wpAny_bind (wpAny_newObj_type (wpAny_pure ⟨_, rfl, "dict_keyiterator", _, ⟨_, Heap.get?_push_size _ rfl, rfl⟩, F.slot_dict_keyiterator_next.lookup, by simpa [rawInt] using hQ⟩))))))))
theorem keyNext_dct {Q : Option Value -> Shared -> Prop} {en : DictEntry} (hit : s.heap.IsKeyIter it d i des.size ep) (e : s.heap.get? d = some (dctObj des ep)) (hx : des[i]? = some en)
    (hQ : ∀ h', h'.IsKeyIter it d (i + 1) des.size ep -> Heap.SameBut it s.heap h' -> Q (some en.key) { s with heap := h' }) : wpAny (model prog w) A (pyNext (.ref it)) Q E s := by
  obtain ⟨o, ho, hc, hd⟩ := id hit
  unfold pyNext
  refine wpAny_bind (wpAny_attempt (wpAny_callSpecial?_slot (name := Str.ofString "__next__") hit.typeIs F.slot_dict_keyiterator_next
    (wpAny_call_entry F.slot_dict_keyiterator_next hit.typeIs F.entry_dict_keyiterator_next ?_ (F.args_dict_keyiterator_next_1 _))))
  have T := hit.typeIs
  have f1 : Builtin.Dict_items.ownsTuple "dict_keyiterator" = false := by decide
  have f2 : ((Manifest.find? "dict_keyiterator").elim "dict_keyiterator" fun x => x.tpName) = "dict_keyiterator" := by rw [find?_eq_fast]; kernel_rfl
  wp_walk
  rw [hd]
  refine wpAny_pure ?_
  rw [f2, f1]
  have f3 : ((des.size : Int) != (des.size : Int)) = false := by simp
  have f4 : ((ep : Int) != (ep : Int)) = false := by simp
  have hlt := (Array.getElem?_eq_some_iff.mp hx).1
  have e1 : dictEntries d = dictEntries d := rfl
  show wpAny _ _ (dictEntries d >>= _) _ _ _
  refine wpAny_bind (wpAny_dictEntries e rfl ?_)
  dsimp only
  rw [f3]
  show wpAny _ _ (dictEpoch d >>= _) _ _ _
  refine wpAny_bind (wpAny_dictEpoch e rfl ?_)
  rw [f4]
  refine wpAny_pure ?_
  dsimp only
  rw [if_neg (show ¬ ((i : Int) < 0) by omega), Int.toNat_natCast, hx]
  dsimp only
  wp_walk
  rw [hd]
  dsimp only
  rw [f2, f1]
  show wpAny _ _ (update it (Obj.mapFields (·.setIfInBounds 1 (rawInt ((i : Int) + 1))))) _ _ _
  refine wpAny_update ho ?_
  have hit' : (s.heap.update it (Obj.mapFields (·.setIfInBounds 1 (rawInt ((i : Int) + 1))))).IsKeyIter it d (i + 1) des.size ep :=
    ⟨_, Heap.get?_update_self _ ho (Obj.isFreed_of_fields (Obj.data_mapFields hd _)), (Obj.cls_mapFields ..).trans hc, by rw [Obj.data_mapFields hd]; simp [rawInt]⟩
  refine wpAny_bind (wpAny_holding ?_)
  have T' := hit'.typeIs (s := { s with heap := s.heap.update it (Obj.mapFields (·.setIfInBounds 1 (rawInt ((i : Int) + 1)))) })
  wp_walk
  exact ⟨_, rfl, wpAny_pure (hQ _ hit' (Heap.SameBut.update ..))⟩
theorem valNext_dct {Q : Option Value -> Shared -> Prop} {en : DictEntry} (hit : s.heap.IsValIter it d i des.size ep) (e : s.heap.get? d = some (dctObj des ep)) (hx : des[i]? = some en)
    (hQ : ∀ h', h'.IsValIter it d (i + 1) des.size ep -> Heap.SameBut it s.heap h' -> Q (some en.val) { s with heap := h' }) : wpAny (model prog w) A (pyNext (.ref it)) Q E s := by
  obtain ⟨o, ho, hc, hd⟩ := id hit
  unfold pyNext
  refine wpAny_bind (wpAny_attempt (wpAny_callSpecial?_slot (name := Str.ofString "__next__") hit.typeIs F.slot_dict_valueiterator_next
    (wpAny_call_entry F.slot_dict_valueiterator_next hit.typeIs F.entry_dict_valueiterator_next ?_ (F.args_dict_valueiterator_next_1 _))))
  have T := hit.typeIs
  have f1 : Builtin.Dict_items.ownsTuple "dict_valueiterator" = false := by decide
  have f2 : ((Manifest.find? "dict_valueiterator").elim "dict_valueiterator" fun x => x.tpName) = "dict_valueiterator" := by rw [find?_eq_fast]; kernel_rfl
  wp_walk
  rw [hd]
  refine wpAny_pure ?_
  rw [f2, f1]
  have f3 : ((des.size : Int) != (des.size : Int)) = false := by simp
  have f4 : ((ep : Int) != (ep : Int)) = false := by simp
  have hlt := (Array.getElem?_eq_some_iff.mp hx).1
  have e1 : dictEntries d = dictEntries d := rfl
  show wpAny _ _ (dictEntries d >>= _) _ _ _
  refine wpAny_bind (wpAny_dictEntries e rfl ?_)
  dsimp only
  rw [f3]
  show wpAny _ _ (dictEpoch d >>= _) _ _ _
  refine wpAny_bind (wpAny_dictEpoch e rfl ?_)
  rw [f4]
  refine wpAny_pure ?_
  dsimp only
  rw [if_neg (show ¬ ((i : Int) < 0) by omega), Int.toNat_natCast, hx]
  dsimp only
  wp_walk
  rw [hd]
  dsimp only
  rw [f2, f1]
  show wpAny _ _ (update it (Obj.mapFields (·.setIfInBounds 1 (rawInt ((i : Int) + 1))))) _ _ _
  refine wpAny_update ho ?_
  have hit' : (s.heap.update it (Obj.mapFields (·.setIfInBounds 1 (rawInt ((i : Int) + 1))))).IsValIter it d (i + 1) des.size ep :=
    ⟨_, Heap.get?_update_self _ ho (Obj.isFreed_of_fields (Obj.data_mapFields hd _)), (Obj.cls_mapFields ..).trans hc, by rw [Obj.data_mapFields hd]; simp [rawInt]⟩
  refine wpAny_bind (wpAny_holding ?_)
  have T' := hit'.typeIs (s := { s with heap := s.heap.update it (Obj.mapFields (·.setIfInBounds 1 (rawInt ((i : Int) + 1)))) })
  wp_walk
  exact ⟨_, rfl, wpAny_pure (hQ _ hit' (Heap.SameBut.update ..))⟩
theorem valIter_dct {v : Addr} {Q : Value -> Shared -> Prop} (hv : s.heap.IsValuesView v d) (e : s.heap.get? d = some (dctObj des ep))
    (hQ : Q (.ref s.heap.objs.size) { s with heap := s.heap.push { cls := .type "dict_valueiterator", data := .fields #[.ref d, .int 0 0, .int des.size 0, .int ep 0] } }) : wpAny (model prog w) A (pyIter (.ref v)) Q E s := by
  obtain ⟨ov, hov, hcv, hdv⟩ := id hv
  refine wpAny_pyIter_slot hv.typeIs F.slot_dict_values_iter (wpAny_call_entry F.slot_dict_values_iter hv.typeIs F.entry_dict_values_iter ?_ (F.args_dict_values_iter_1 _))
  unfold Builtin.«dict_values.__iter__»
  refine wpAny_bind (wpAny_pure (wpAny_bind ?_))
  unfold Builtin.Dict_items.dictOf
  refine wpAny_bind (wpAny_field hov hdv (x := .ref d) rfl (wpAny_pure (wpAny_bind ?_)))
  unfold Builtin.Dict_items.newIterator
  have hown : Builtin.Dict_items.ownsTuple "dict_valueiterator" = false := by decide
  refine wpAny_bind (wpAny_dictEntries e rfl (wpAny_bind (wpAny_dictEpoch e rfl ?_)))
  simp only [hown, Bool.false_eq_true, if_false]
  exact wpAny_newObj_type (wpAny_pure ⟨_, rfl, "dict_valueiterator", _, ⟨_, Heap.get?_push_size _ rfl, rfl⟩, F.slot_dict_valueiterator_next.lookup, by simpa [rawInt] using hQ⟩)
end
end DK
namespace DK
open PySem PySem.W PySem.Calls PyProof.Rows
theorem runs_size {M : Model} {Γ : Ctx} {p : Pos} {t : Sem Fin} {fs : List Frame} {s s' : Shared} {e : End} (h : Runs M Γ p t fs s e s') : s.heap.objs.size ≤ s'.heap.objs.size := by
  induction h with
  | done | raise | yield => exact Nat.le_refl _
  | update _ _ ih => rw [show ∀ f : Obj -> Obj, ∀ h : Heap, ∀ a, (h.update a f).objs.size = h.objs.size from fun f h a => Heap.size_after_update ..] at ih; exact ih
  | alloc _ ih => refine Nat.le_trans ?_ ih; show _ ≤ (Heap.push _ _).objs.size; rw [Heap.size_push]; exact Nat.le_succ _
  | call _ _ a b | segRet _ _ a b => exact Nat.le_trans a b
  | resumeFresh _ _ _ _ a b | resumeSuspended _ _ _ _ a b => exact Nat.le_trans a b
  | segGen _ _ a b => exact Nat.le_trans a b
  | segSuspGen _ _ _ _ a b => exact Nat.le_trans a b
  | _ => assumption
theorem wakes_size {M : Model} {Γ : Ctx} {p : Pos} {g : Nat} {r : Resume} {s s' : Shared} {x : GenResult} (h : Wakes M Γ p g r s x s') : s.heap.objs.size ≤ s'.heap.objs.size := by
  unfold Wakes at h
  split at h
  · exact h.elim
  · split at h
    · obtain ⟨e, s₁, h1, _, _, rfl⟩ := h; have := runs_size h1; exact this
    · rw [h.2]; exact Nat.le_refl _
    · rw [h.2]; exact Nat.le_refl _
  · obtain ⟨e, s₁, h1, _, _, rfl⟩ := h; have := runs_size h1; exact this
  · rw [h.2]; exact Nat.le_refl _
  · rw [h.2]; exact Nat.le_refl _
theorem wp_size {α : Type} {M : Model} {Γ : Ctx} {Q : α -> Pos -> Shared -> Prop} {E : Value -> Pos -> Shared -> Prop} {n : Nat} (t : Sem α) : ∀ {p : Pos} {s : Shared}, n ≤ s.heap.objs.size -> Sem.wp M Γ t (fun a p s' => n ≤ s'.heap.objs.size -> Q a p s') (fun e p s' => n ≤ s'.heap.objs.size -> E e p s') p s -> Sem.wp M Γ t Q E p s := by
  induction t with
  | pure | raise => exact fun hn h => h hn
  | unsupported | finish | yield | fork | await | register => exact fun z_ h => h
  | rule _ k ih | «at» _ k ih | loadIfAlive _ k ih | point _ k ih | fresh k ih | ask k ih | os _ _ k ih | handled _ k ih | newGen _ k ih | stack k ih | thread k ih => exact fun hn h => ih _ hn h
  | alloc o k ih => exact fun hn h => ih _ (Nat.le_trans hn (by show _ ≤ (Heap.push _ _).objs.size; rw [Heap.size_push]; exact Nat.le_succ _)) h
  | load a _ k ih | genState a k ih => exact fun hn ⟨o, ho, h⟩ => ⟨o, ho, ih _ hn h⟩
  | choose _ _ k ih => exact fun hn ⟨ha, h⟩ => ⟨ha, ih _ hn h⟩
  | update a _ f k ih => exact fun hn ⟨ha, h⟩ => ⟨ha, ih _ (Nat.le_trans hn (Nat.le_of_eq (Heap.size_after_update ..).symm)) h⟩
  | call c h g l k ih => exact fun hn ⟨r, s', h1, h2⟩ => ⟨r, s', h1, ih _ (Nat.le_trans hn (runs_size h1)) h2⟩
  | resume g r l k ih => exact fun hn ⟨x, s', hw, h⟩ => ⟨x, s', hw, ih _ (Nat.le_trans hn (wakes_size hw)) h⟩
theorem wpAny_size {α : Type} {M : Model} {A : Around} {t : Sem α} {Q : α -> Shared -> Prop} {E : Value -> Shared -> Prop} {s : Shared} (h : wpAny M A t (fun a s' => s.heap.objs.size ≤ s'.heap.objs.size -> Q a s') (fun e s' => s.heap.objs.size ≤ s'.heap.objs.size -> E e s') s) : wpAny M A t Q E s :=
  fun Γ p hΓ => wp_size t (Nat.le_refl _) (h Γ p hΓ)
end DK
set_option maxHeartbeats 2000000
namespace DK
open PySem PySem.W PySem.Calls PyProof.Rows
section
variable {prog : Program} {w : World} {G : Heap} {tabs : List (Addr × Addr × Str)} {A : Around} {E : Value -> Shared -> Prop} {s s₀ : Shared} {g g₀ g' : Gh} {P : Hp} {I : Addr}
theorem Rep.but (R : Rep prog w G tabs g P s.heap) (hI : g.ρ I = .keep) {h' : Heap} (hz : s.heap.objs.size ≤ h'.objs.size) (hs : Heap.ExtBut I s.heap h') : Rep prog w G tabs g P h' := by
  refine R.quiet hz (fun a o z_ z_ z_ r e => hs a o (fun q => r (q ▸ hI)) e) (fun a r => (R.frm a r).imp fun m n => ns_slots n fun o e => ⟨o.slots, hs a o (fun q => rx (hI.symm.trans (q ▸ r))) e⟩) fun a r => (R.cel a r).imp fun v z => z.imp fun o z => z.imp_left (hs a o fun q => rx (hI.symm.trans (q ▸ r)))
theorem Ext.but {b : Nat} (x : Ext b g₀ s₀ g s) (hI : g₀.ρ I = .any) {h' : Heap} {tk : Nat} (hz : s.heap.objs.size ≤ h'.objs.size) (hs : Heap.ExtBut I s.heap h') : Ext b g₀ s₀ g { s with heap := h', toks := tk } := by
  have ne : ∀ {a : Addr} {r : Role}, g₀.ρ a = r -> Nat.beq r.tg 0 = false -> a ≠ I := fun e h q => rn (z := .any) e h (q ▸ hI)
  refine ⟨x.same, Nat.le_trans x.size hz, x.le, fun a o r e => hs a o (ne r rfl) (x.keep a o r e), fun a o hb r e => (x.frm a o hb r e).imp fun sl q => hs a _ (ne r rfl) q, fun a o hb r e => hs a o (ne r rfl) (x.cel a o hb r e), fun a k r => (x.dct a k r).trans (.of_keep fun o e => hs a o (ne r rfl) e)⟩
variable {it : Addr}
noncomputable def Ended (it : Addr) (h h' : Heap) : Prop := Heap.ExtBut it h h' ∧ h.objs.size ≤ h'.objs.size
theorem stopped {α : Type} {Q : Option Value -> Shared -> Prop} (hh : A.handled = none) (he : Ended it s₀.heap s.heap) (hQ : ∀ h', Ended it s₀.heap h' -> Q none { s with heap := h' }) {R : α -> Shared -> Prop} :
    wpAny (model prog w) A.in1 (newExc (.type "StopIteration") [] >>= fun e => (raiseNew e : Sem α)) R (fun e s' => wpAny (model prog w) A (isInstance e (.type "StopIteration") >>= fun b => if b = true then pure none else throw e) Q E s') s := by
  refine wpAny_bind ?_
  simp only [newExc, newTuple]
  refine wpAny_bind (wpAny_newObj_type ?_ (by size_fits))
  refine wpAny_bind (m := firstArgMember _ _) (wpAny_of_eq (a := Value.none) (by first | rfl | (simp only [firstArgMember]; rfl)) ?_)
  refine wpAny_newObj_type ?_ (by size_fits)
  simp only [raiseNew]
  refine wpAny_bind (wpAny_handled ?_)
  rw [show A.in1.handled = none from hh]
  refine wpAny_bind (wpAny_pure (wpAny_throw ?_))
  refine wpAny_bind (wpAny_isInstance (T := "StopIteration") (b := true) ⟨_, Heap.get?_push_size _ rfl, rfl⟩ isSubtype_stop ?_)
  exact wpAny_pure (hQ _ ⟨(he.1.push _).push _, by rw [Heap.size_push, Heap.size_push]; exact Nat.le_trans he.2 (by omega)⟩)
theorem Ended.upd {f : Obj -> Obj} : Ended it s.heap (s.heap.update it f) := ⟨(Heap.SameBut.update ..).extBut, by rw [Heap.size_after_update]; exact Nat.le_refl _⟩
theorem listEnd {l : Addr} {i : Nat} {items : Array Value} {Q : Option Value -> Shared -> Prop} (hh : A.handled = none) (hit : s.heap.IsListIter it l i) (hl : s.heap.IsList l items) (hx : items[i]? = none)
    (hQ : ∀ h', Ended it s.heap h' -> Q none { s with heap := h' }) : wpAny (model prog w) A (pyNext (.ref it)) Q E s :=
  wpAny_size (wpAny_pyNext_list_end hh hit hl hx fun h' e hz => hQ h' ⟨e, hz⟩)
theorem tupleEnd {l : Addr} {i : Nat} {items : Array Value} {Q : Option Value -> Shared -> Prop} (hh : A.handled = none) (hit : s.heap.IsTupleIter it l i) (hl : s.heap.IsTuple l items) (hx : items[i]? = none)
    (hQ : ∀ h', Ended it s.heap h' -> Q none { s with heap := h' }) : wpAny (model prog w) A (pyNext (.ref it)) Q E s :=
  wpAny_size (wpAny_pyNext_tuple_end hh hit hl hx fun h' e hz => hQ h' ⟨e, hz⟩)
theorem rangeEnd {x left step : Int} {Q : Option Value -> Shared -> Prop} (hh : A.handled = none) (hit : IsRangeIter s.heap it x left step) (hx : left ≤ 0)
    (hQ : ∀ h', Ended it s.heap h' -> Q none { s with heap := h' }) : wpAny (model prog w) A (pyNext (.ref it)) Q E s :=
  wpAny_size (wpAny_pyNext_range_end hh hit hx fun h' e hz => hQ h' ⟨e, hz⟩)
theorem valuesEnd {d : Addr} {i ep : Nat} {des : Array DictEntry} {Q : Option Value -> Shared -> Prop} (hh : A.handled = none) (hit : s.heap.IsValIter it d i des.size ep) (e : s.heap.get? d = some (dctObj des ep)) (hx : des[i]? = none)
    (hQ : ∀ h', Ended it s.heap h' -> Q none { s with heap := h' }) : wpAny (model prog w) A (pyNext (.ref it)) Q E s := by
  obtain ⟨o, ho, hc, hd⟩ := id hit
  unfold pyNext
  refine wpAny_bind (wpAny_attempt (wpAny_callSpecial?_slot (name := Str.ofString "__next__") hit.typeIs F.slot_dict_valueiterator_next
    (wpAny_call_entry F.slot_dict_valueiterator_next hit.typeIs F.entry_dict_valueiterator_next ?_ (F.args_dict_valueiterator_next_1 _))))
  have T := hit.typeIs
  have f1 : Builtin.Dict_items.ownsTuple "dict_valueiterator" = false := by decide
  have f2 : ((Manifest.find? "dict_valueiterator").elim "dict_valueiterator" fun x => x.tpName) = "dict_valueiterator" := by rw [find?_eq_fast]; kernel_rfl
  wp_walk
  rw [hd]
  refine wpAny_pure ?_
  rw [f2, f1]
  have f3 : ((des.size : Int) != (des.size : Int)) = false := by simp
  have f4 : ((ep : Int) != (ep : Int)) = false := by simp
  show wpAny _ _ (dictEntries d >>= _) _ _ _
  refine wpAny_bind (wpAny_dictEntries e rfl ?_)
  dsimp only
  rw [f3]
  show wpAny _ _ (dictEpoch d >>= _) _ _ _
  refine wpAny_bind (wpAny_dictEpoch e rfl ?_)
  rw [f4]
  refine wpAny_pure ?_
  dsimp only
  rw [if_neg (show ¬ ((i : Int) < 0) by omega), Int.toNat_natCast, hx]
  dsimp only
  wp_walk
  rw [hd]
  dsimp only
  rw [f2, f1]
  show wpAny _ _ (update it (Obj.mapFields (·.setIfInBounds 0 .none))) _ _ _
  refine wpAny_update ho ?_
  exact stopped (s₀ := s) (s := { s with heap := s.heap.update it _ }) hh Ended.upd hQ
theorem keysEnd {d : Addr} {i ep : Nat} {des : Array DictEntry} {Q : Option Value -> Shared -> Prop} (hh : A.handled = none) (hit : s.heap.IsKeyIter it d i des.size ep) (e : s.heap.get? d = some (dctObj des ep)) (hx : des[i]? = none)
    (hQ : ∀ h', Ended it s.heap h' -> Q none { s with heap := h' }) : wpAny (model prog w) A (pyNext (.ref it)) Q E s := by
  obtain ⟨o, ho, hc, hd⟩ := id hit
  unfold pyNext
  refine wpAny_bind (wpAny_attempt (wpAny_callSpecial?_slot (name := Str.ofString "__next__") hit.typeIs F.slot_dict_keyiterator_next
    (wpAny_call_entry F.slot_dict_keyiterator_next hit.typeIs F.entry_dict_keyiterator_next ?_ (F.args_dict_keyiterator_next_1 _))))
  have T := hit.typeIs
  have f1 : Builtin.Dict_items.ownsTuple "dict_keyiterator" = false := by decide
  have f2 : ((Manifest.find? "dict_keyiterator").elim "dict_keyiterator" fun x => x.tpName) = "dict_keyiterator" := by rw [find?_eq_fast]; kernel_rfl
  wp_walk
  rw [hd]
  refine wpAny_pure ?_
  rw [f2, f1]
  have f3 : ((des.size : Int) != (des.size : Int)) = false := by simp
  have f4 : ((ep : Int) != (ep : Int)) = false := by simp
  show wpAny _ _ (dictEntries d >>= _) _ _ _
  refine wpAny_bind (wpAny_dictEntries e rfl ?_)
  dsimp only
  rw [f3]
  show wpAny _ _ (dictEpoch d >>= _) _ _ _
  refine wpAny_bind (wpAny_dictEpoch e rfl ?_)
  rw [f4]
  refine wpAny_pure ?_
  dsimp only
  rw [if_neg (show ¬ ((i : Int) < 0) by omega), Int.toNat_natCast, hx]
  dsimp only
  wp_walk
  rw [hd]
  dsimp only
  rw [f2, f1]
  show wpAny _ _ (update it (Obj.mapFields (·.setIfInBounds 0 .none))) _ _ _
  refine wpAny_update ho ?_
  exact stopped (s₀ := s) (s := { s with heap := s.heap.update it _ }) hh Ended.upd hQ
end
end DK
namespace DK
open PySem PySem.W PySem.Calls PyProof.Rows
noncomputable def Lat (h : Heap) (a : Addr) (n ep : Nat) : Prop := ∃ des ep', h.get? a = some (dctObj des ep') ∧ n ≤ des.size ∧ (des.size = n -> ep' = ep)
section
variable (prog : Program) (w : World)
noncomputable def ItR (cn : List Str) (cm : Str -> Option Addr) (g : Gh) (h : Heap) (I : Addr) (x : LV) (n i : Nat) : Prop := match x with
  | .av v => (match v with
    | .ref k => ∃ a, g.σ[k]? = some a ∧ h.IsListIter I a i
    | .lst l => ∃ a vs m, g.ρ a = .fro (listObj vs m) ∧ VRs prog w g l vs.toList ∧ h.IsListIter I a i
    | .tup l => ∃ a vs m, g.ρ a = .fro (tupObj vs m) ∧ VRs prog w g l vs.toList ∧ h.IsTupleIter I a i
    | .rng a n' st => i ≤ n ∧ IsRangeIter h I (a + (i : Int) * st) ((n : Int) - i) st
    | .dvl k => ∃ a ep, g.σ[k]? = some a ∧ g.ρ a = .own k ∧ h.IsValIter I a i n ep ∧ Lat h a n ep
    | _ => False)
  | .keys k => ∃ a ep, g.σ[k]? = some a ∧ g.ρ a = .own k ∧ h.IsKeyIter I a i n ep ∧ Lat h a n ep
  | .clos l => ∃ a vs m, g.ρ a = .fro (listObj vs m) ∧ ClosR cn cm g l vs.toList ∧ h.IsListIter I a i
  | .clo _ _ => False
end
section
variable {prog : Program} {w : World} {G : Heap} {tabs : List (Addr × Addr × Str)} {A : Around} {E : Value -> Shared -> Prop} {s s' s₀ : Shared} {g g₀ g' : Gh} {P : Hp} {I : Addr} {cn : List Str} {cm : Str -> Option Addr}
theorem Lat.grow {h h' : Heap} {a : Addr} {n ep : Nat} (x : Lat h a n ep) (d : DGrow h h' a) : Lat h' a n ep := by
  exact u23 x fun des ep' e h1 h2 => u23 (d des ep' e) fun des' ep'' e' l q => ⟨des', ep'', e', Nat.le_trans h1 l, fun z => have z' : des.size = n := Nat.le_antisymm (z ▸ l) h1; (q (z.trans z'.symm)).trans (h2 z')⟩
theorem isListIter_keep {h h' : Heap} {I a : Addr} {i : Nat} (x : h.IsListIter I a i) (k : ∀ o, h.get? I = some o -> h'.get? I = some o) : h'.IsListIter I a i := x.imp fun o => And.imp_left (k o)
theorem ItR.mv {h h' : Heap} {v : LV} {n i : Nat} (x : ItR prog w cn cm g h I v n i) (L : g.Le g') (k : ∀ o, h.get? I = some o -> h'.get? I = some o) (d : ∀ a k, g.ρ a = .own k -> DGrow h h' a) : ItR prog w cn cm g' h' I v n i := by
  induction v using DK.LV.casesOn with
  | av v => induction v using DK.AV.casesOn with
    | ref => exact Exists.imp (fun a z => ⟨L.pre _ _ z.1, isListIter_keep z.2 k⟩) x
    | lst => exact Exists.imp (fun a z => z.imp fun z_ z => z.imp fun z_ z => ⟨L.at z.1, z.2.1.mono L, isListIter_keep z.2.2 k⟩) x
    | tup => exact Exists.imp (fun a z => z.imp fun z_ z => z.imp fun z_ z => ⟨L.at z.1, z.2.1.mono L, z.2.2.imp fun o => And.imp_left (k o)⟩) x
    | rng => exact And.imp_right (k _) x
    | dvl => exact Exists.imp (fun a z => z.imp fun z_ z => ⟨L.pre _ _ z.1, L.at z.2.1, z.2.2.1.imp fun o => And.imp_left (k o), z.2.2.2.grow (d _ _ z.2.1)⟩) x
    | _ => exact x
  | keys => exact Exists.imp (fun a z => z.imp fun z_ z => ⟨L.pre _ _ z.1, L.at z.2.1, z.2.2.1.imp fun o => And.imp_left (k o), z.2.2.2.grow (d _ _ z.2.1)⟩) x
  | clos => exact Exists.imp (fun a z => z.imp fun z_ z => z.imp fun z_ z => ⟨L.at z.1, z.2.1.mono L, isListIter_keep z.2.2 k⟩) x
  | clo => exact x
theorem ItR.ext {v : LV} {n i : Nat} (x : ItR prog w cn cm g s.heap I v n i) (hI : g.ρ I = .keep) {b : Nat} (y : Ext b g s g' s') : ItR prog w cn cm g' s'.heap I v n i := x.mv y.le (fun o => y.keep I o hI) y.dct
theorem vrs_of {l : List AV} : ∀ {ks : List K0} {vs : List Value}, ItemsAre (mixK prog w) ks vs -> k0s l = some ks -> VRs prog w g l vs := by
  induction l with
  | nil => intro ks vs i h; have e := si h; subst e; cases i; exact .nil
  | cons a l ih =>
    intro ks vs i h
    refine ob h fun k h1 h2 => op h2 fun ks h3 h4 => ?_
    subst h4
    cases i with
    | cons a b => exact .cons (of_isK h1 a) (ih b h3)
noncomputable def EnR (prog : Program) (w : World) (g : Gh) (es : List (AV × AV)) (des : List DictEntry) (i : Nat) : Prop := (∃ p en, es[i]? = some p ∧ des[i]? = some en ∧ VR prog w g p.1 en.key ∧ VR prog w g p.2 en.val) ∨ (es[i]? = none ∧ des[i]? = none)
theorem esP_get {es : List (AV × AV)} {kvs : List (K0 × Value)} (q : EsP prog w g es kvs) : ∀ {des : List DictEntry}, Pairs (mixK prog w) des kvs -> ∀ i : Nat, EnR prog w g es des i := by
  induction q with
  | nil => intro des p i; cases p; exact .inr ⟨rfl, rfl⟩
  | cons h r q ih =>
    intro des p i
    cases p with
    | cons a b c => cases i with
      | zero => exact .inl ⟨_, _, rfl, rfl, of_isK h a, b ▸ r⟩
      | succ i => exact ih c i
theorem esT_get {es : List (AV × AV)} {xs : List (List K0 × Addr × Value)} (q : EsT prog w g es xs) : ∀ i : Nat, EnR prog w g es (xs.map (entryOfKey (tupleKind (mixK prog w)))) i := by
  induction q with
  | nil => exact fun i => .inr ⟨rfl, rfl⟩
  | cons h f it r q ih => exact fun i => i.casesOn (.inl ⟨_, _, rfl, rfl, .tup f (vrs_of it h), r⟩) ih
theorem dict_get {h : Heap} {es : List (AV × AV)} {k : Nat} {a : Addr} (x : AOR prog w g h (.dict es) k a) : ∃ des ep, h.get? a = some (dctObj des ep) ∧ des.size = es.length ∧ ∀ i : Nat, EnR prog w g es des.toList i :=
  x.inv.elim (fun z => u33 z fun des ep kvs e d q => ⟨des, ep, e, d.2.1.length.trans q.len.symm, esP_get q d.2.1⟩) fun z => u34 z fun des ep xs e d q n => ⟨des, ep, e, (congrArg List.length d).trans ((List.length_map ..).trans q.len.symm), d ▸ esT_get q⟩
theorem ClosR.get {l : List (Expr × Scope)} {us : List Value} (r : ClosR cn cm g l us) : ∀ i : Nat, (∃ p u, l[i]? = some p ∧ us[i]? = some u ∧ CloR cn cm g p.1 p.2 u) ∨ (l[i]? = none ∧ us[i]? = none) := by
  induction r with
  | nil => exact fun i => .inr ⟨rfl, rfl⟩
  | cons a r ih => exact fun i => i.casesOn (.inl ⟨_, _, rfl, rfl, a⟩) ih
theorem ClosR.len {l : List (Expr × Scope)} {us : List Value} (r : ClosR cn cm g l us) : l.length = us.length := by
  induction r with
  | nil => rfl
  | cons _ _ ih => exact congrArg Nat.succ ih
theorem LVR.clos_inv {l : List (Expr × Scope)} {u : Value} (x : LVR prog w cn cm g (.clos l) u) : ∃ a vs n, u = .ref a ∧ g.ρ a = .fro (listObj vs n) ∧ ClosR cn cm g l vs.toList := by cases x with | clos h r => exact ⟨_, _, _, rfl, h, r⟩
theorem st_eq' {x y : LV} {m n : Nat} {M : Prop} (h : some (x, m) = some (y, n)) (k : x = y -> m = n -> M) : M := k (Prod.mk.inj (si h)).1 (Prod.mk.inj (si h)).2
theorem start_ref {k : Nat} {o : Option AO} (e : P[k]? = o) : startL P (.av (.ref k)) = match (generalizing := false) o with
      | some (.list l) => some (.av (.ref k), l.length)
      | some (.dict es) => some (.keys k, es.length)
      | _ => .none := by subst e; rfl
theorem lsg_by {β : Type} {o : Option AO} {f : List AV -> Option β} {r : β} {M : Prop} (h : (match o with | some (.list l) => f l | _ => .none) = some r) (k : ∀ l, o = some (.list l) -> f l = some r -> M) : M := by
  induction o using Option.casesOn with
  | none => exact nm h
  | some o => induction o using DK.AO.casesOn with
    | list l => exact k l rfl h
    | _ => exact nm h
theorem rng_step {h' : Heap} {a st : Int} {i n : Nat} (it' : IsRangeIter h' I (a + (i : Int) * st + st) ((n : Int) - i - 1) st) : IsRangeIter h' I (a + ((i + 1 : Nat) : Int) * st) ((n : Int) - ((i + 1 : Nat) : Int)) st := by
  have e1 : a + (i : Int) * st + st = a + ((i + 1 : Nat) : Int) * st := by
    rw [Int.natCast_add, Int.add_mul]; simp [Int.add_assoc]
  have e2 : (n : Int) - i - 1 = (n : Int) - ((i + 1 : Nat) : Int) := by omega
  rw [← e1, ← e2]; exact it'
theorem iter_snd {x y : LV} {n : Nat} {u : Value} {Q : Value -> Shared -> Prop} (R : Rep prog w G tabs g P s.heap) (hG : ∃ o, G.get? sysModules = some o) (r : LVR prog w cn cm g x u) (h : startL P x = some (y, n))
    (hQ : ∀ I g' s', Rep prog w G tabs g' P s'.heap -> (∀ b, Ext b g s g' s') -> g.ρ I = .any -> g'.ρ I = .keep -> s.heap.objs.size ≤ I -> ItR prog w cn cm g' s'.heap I y n 0 -> Q (.ref I) s') : wpAny (model prog w) A (pyIter u) Q E s := by
  have fr := R.fresh (Nat.le_refl s.heap.objs.size)
  have L := Gh.le_set .keep fr
  have fin : ∀ {o : Obj}, o.isFreed = false -> ((s.heap.push o).get? s.heap.objs.size = some o -> ItR prog w cn cm (g.set s.heap.objs.size .keep) (s.heap.push o) s.heap.objs.size y n 0) -> Q (.ref s.heap.objs.size) { s with heap := s.heap.push o } := fun {o} hf it =>
    hQ _ _ { s with heap := s.heap.push o } (Rep.role (r := .keep) (R.push o) fr (size_psh1 _ _) (fun z_ e => rx e) (fun e => rx e) fun e => rx e) (fun b => .of_keeps (tk := s.toks) L (Nat.le_of_lt (size_psh1 _ _)) fun a o' z_ e => Heap.get?_push_of_some _ e) fr (Gh.set_self ..) (Nat.le_refl _) (it (Heap.get?_push_size _ hf))
  induction x using DK.LV.casesOn with
  | clos l =>
    exact u33 r.clos_inv fun a vs m e f q => st_eq' h fun e1 e2 => by
      subst e; subst e1
      exact wpAny_pyIter_list ⟨_, R.fro _ _ f, rfl, _, rfl⟩ (fin rfl fun e => ⟨a, vs, m, L.at f, q.mono L, _, e, rfl, rfl⟩)
  | clo => exact nm h
  | keys => exact nm h
  | av v =>
    have r := r.va.inv
    induction v using DK.AV.casesOn with
    | ref k =>
      refine u12 r fun a e0 hk => ?_
      subst e0
      induction hP : P[k]? using Option.casesOn with
      | none => exact nm ((start_ref (k := k) hP).symm.trans h)
      | some o =>
        have h := (start_ref hP).symm.trans h
        induction o using DK.AO.casesOn with
        | list l =>
          exact st_eq' h fun e1 e2 => u13 (R.own _ _ hP) fun a' q1 z_ q3 => u22 q3.inv fun vs m e q => by
            subst e1
            exact wpAny_pyIter_list ⟨_, (si (q1.symm.trans hk)) ▸ e, rfl, _, rfl⟩ (fin rfl fun e => ⟨a, L.pre _ _ hk, _, e, rfl, rfl⟩)
        | dict es =>
          exact st_eq' h fun e1 e2 => u13 (R.own _ _ hP) fun a' q1 q2 q3 => u23 (dict_get q3) fun des ep e hz z_ => by
            have ea := si (q1.symm.trans hk)
            subst ea; subst e1; subst e2
            exact keyIter_dct (own_ne_sys R hG q2) e (fin rfl fun e' => ⟨a', ep, L.pre _ _ hk, L.at q2, ⟨_, e', rfl, by rw [hz]; rfl⟩, des, ep, Heap.get?_push_of_some _ e, Nat.le_of_eq hz.symm, fun z_ => rfl⟩)
        | inst => exact nm h
    | tup l =>
      exact u33 r fun a vs m e f q => st_eq' h fun e1 e2 => by
        subst e; subst e1
        exact wpAny_pyIter_tuple ⟨_, R.fro _ _ f, rfl, _, rfl⟩ (fin rfl fun e => ⟨a, vs, m, L.at f, q.mono L, _, e, rfl, rfl⟩)
    | lst l =>
      exact u33 r fun a vs m e f q => st_eq' h fun e1 e2 => by
        subst e; subst e1
        exact wpAny_pyIter_list ⟨_, R.fro _ _ f, rfl, _, rfl⟩ (fin rfl fun e => ⟨a, vs, m, L.at f, q.mono L, _, e, rfl, rfl⟩)
    | rng a n' st =>
      exact u54 r fun r b t y' z e f sm sz => st_eq' h fun e1 e2 => by
        subst e; subst e1; subst e2
        refine wpAny_pyIter_range (R.fro _ _ f) sm (fin rfl fun e => ⟨Nat.zero_le _, ?_⟩)
        rw [show a + ((0 : Nat) : Int) * st = a by simp, show ((n' : Nat) : Int) - ((0 : Nat) : Int) = Builtin.Range.rangeSize a b st by rw [sz]; simp]
        exact e
    | dvl k =>
      refine u23 r fun a d e0 hk f => ?_
      subst e0
      exact dct_by h fun es hP h => st_eq' h fun e1 e2 => u13 (R.own _ _ hP) fun a' q1 q2 q3 => u23 (dict_get q3) fun des ep e hz z_ => by
        have ea := si (q1.symm.trans hk)
        subst ea; subst e1; subst e2
        exact valIter_dct ⟨_, R.fro _ _ f, rfl, rfl⟩ e (fin rfl fun e' => ⟨a', ep, L.pre _ _ hk, L.at q2, ⟨_, e', rfl, by rw [hz]; rfl⟩, des, ep, Heap.get?_push_of_some _ e, Nat.le_of_eq hz.symm, fun z_ => rfl⟩)
    | _ => exact nm h
theorem get_by {l : List AV} {vs : Array Value} {i : Nat} {M : Prop} (q : VRs prog w g l vs.toList) (hs : ∀ x v, l[i]? = some x -> vs[i]? = some v -> VR prog w g x v -> M) (hn : l[i]? = none -> vs[i]? = none -> M) : M :=
  (q.get i).elim (fun z => u23 z fun x v q1 q2 => hs x v q1 ((Array.getElem?_toList).symm.trans q2)) fun z => hn z.1 ((Array.getElem?_toList).symm.trans z.2)
theorem en_by {es : List (AV × AV)} {des : Array DictEntry} {i : Nat} {M : Prop} (q : EnR prog w g es des.toList i) (hs : ∀ p en, es[i]? = some p -> des[i]? = some en -> VR prog w g p.1 en.key -> VR prog w g p.2 en.val -> M) (hn : es[i]? = none -> des[i]? = none -> M) : M :=
  q.elim (fun z => u24 z fun x v q1 q2 => hs x v q1 ((Array.getElem?_toList).symm.trans q2)) fun z => hn z.1 ((Array.getElem?_toList).symm.trans z.2)
theorem map_eq {α β : Type} {o : Option α} {x : Option α} {f : α -> β} {r : Option β} (h : some (o.map f) = some r) (e : o = x) : r = x.map f := e ▸ (si h).symm
theorem dct_now (R : Rep prog w G tabs g P s.heap) (hI : g.ρ I = .keep) {k n ep : Nat} {a : Addr} {es : List (AV × AV)} (hP : P[k]? = some (.dict es)) (hn : es.length = n) (hk : g.σ[k]? = some a) (ho : g.ρ a = .own k) (lt : Lat s.heap a n ep) :
    ∃ des : Array DictEntry, s.heap.get? a = some (dctObj des ep) ∧ des.size = n ∧ (∀ i, EnR prog w g es des.toList i) ∧ ∀ h', Heap.SameBut I s.heap h' -> Lat h' a n ep :=
  u13 (R.own _ _ hP) fun a' q1 z_ q3 => u23 (dict_get q3) fun des ep' e hz ge => u23 lt fun des' ep'' e' l1 l2 => by
    have ea := si (q1.symm.trans hk)
    subst ea
    refine (dct_inj (si (e'.symm.trans e)) : des' = des ∧ ep'' = ep').elim fun x1 x2 => ?_
    have hs : des.size = n := hz.trans hn
    have hep : ep' = ep := x2.symm.trans (l2 (x1 ▸ hs))
    exact ⟨des, hep ▸ e, hs, ge, fun h' sb => ⟨des, ep, (sb.2 _ fun z => rx (ho.symm.trans (z ▸ hI))).trans (hep ▸ e), Nat.le_of_eq hs.symm, fun z_ => rfl⟩⟩
theorem next_snd {y : LV} {n i : Nat} {r : Option LV} {Q : Option Value -> Shared -> Prop} (R : Rep prog w G tabs g P s.heap) (hA : A.handled = none) (hI : g.ρ I = .keep) (x : ItR prog w cn cm g s.heap I y n i) (h : nthL P y n i = some r)
    (h0 : r = none -> ∀ h', Ended I s.heap h' -> Q none { s with heap := h' })
    (h1 : ∀ v h' tk u, r = some v -> Heap.SameBut I s.heap h' -> LVR prog w cn cm g v u -> ItR prog w cn cm g h' I y n (i + 1) -> Q (some u) { s with heap := h', toks := tk }) : wpAny (model prog w) A (pyNext (.ref I)) Q E s := by
  induction y using DK.LV.casesOn with
  | clo => exact x.elim
  | clos l =>
    exact u33 x fun a vs m f q it => (q.get i).elim (fun z => u23 z fun p v q1 q2 q3 => wpAny_pyNext_list_item it ⟨_, R.fro _ _ f, rfl, _, rfl⟩ ((Array.getElem?_toList).symm.trans q2) fun h' it' sb => h1 (.clo p.1 p.2) h' s.toks v (map_eq h q1) sb (.clo q3) ⟨a, vs, m, f, q, it'⟩)
      fun z => listEnd hA it ⟨_, R.fro _ _ f, rfl, _, rfl⟩ ((Array.getElem?_toList).symm.trans z.2) (h0 (map_eq h z.1))
  | keys k =>
    exact u24 x fun a ep hk ho it lt => dct_by h fun es hP h => oi h fun hn h => u14 (dct_now R hI hP hn hk ho lt) fun des e hs ge lt' => en_by (ge i)
      (fun p en g1 g2 g3 g4 => keyNext_dct (hs.symm ▸ it) e g2 fun h' it' sb => h1 (.av p.1) h' s.toks en.key (map_eq h g1) sb (.av g3) ⟨a, ep, hk, ho, hs ▸ it', lt' h' sb⟩) fun g1 g2 => keysEnd hA (hs.symm ▸ it) e g2 (h0 (map_eq h g1))
  | av y => induction y using DK.AV.casesOn with
    | ref k =>
      exact u12 x fun a hk it => op h fun o h2 h3 => lsg_by h2 fun l hP h2 => u13 (R.own _ _ hP) fun a' q1 z_ q3 => u22 q3.inv fun vs m e q => by
        have ea := si (q1.symm.trans hk)
        subst ea
        have h : some (l[i]?.map LV.av) = some r := congrArg some ((congrArg (Option.map LV.av) (si h2)).trans h3)
        exact get_by q (fun x v q1 q2 q3 => wpAny_pyNext_list_item it ⟨_, e, rfl, _, rfl⟩ q2 fun h' it' sb => h1 (.av x) h' s.toks v (map_eq h q1) sb (.av q3) ⟨_, hk, it'⟩) fun q1 q2 => listEnd hA it ⟨_, e, rfl, _, rfl⟩ q2 (h0 (map_eq h q1))
    | lst l => exact u33 x fun a vs m f q it => get_by q (fun x v q1 q2 q3 => wpAny_pyNext_list_item it ⟨_, R.fro _ _ f, rfl, _, rfl⟩ q2 fun h' it' sb => h1 (.av x) h' s.toks v (map_eq h q1) sb (.av q3) ⟨a, vs, m, f, q, it'⟩) fun q1 q2 => listEnd hA it ⟨_, R.fro _ _ f, rfl, _, rfl⟩ q2 (h0 (map_eq h q1))
    | tup l => exact u33 x fun a vs m f q it => get_by q (fun x v q1 q2 q3 => wpAny_pyNext_tuple_item it ⟨_, R.fro _ _ f, rfl, _, rfl⟩ q2 fun h' it' sb => h1 (.av x) h' s.toks v (map_eq h q1) sb (.av q3) ⟨a, vs, m, f, q, it'⟩) fun q1 q2 => tupleEnd hA it ⟨_, R.fro _ _ f, rfl, _, rfl⟩ q2 (h0 (map_eq h q1))
    | rng a n' st =>
      exact And.elim (fun hi it => (Nat.lt_or_ge i n).elim (fun hn => wpAny_pyNext_range_item it (by omega) fun h' it' sb => h1 (.av (.int (a + (i : Int) * st))) h' _ _ (map_eq h (if_pos hn)) sb (.av (.int _ _)) ⟨hn, rng_step it'⟩)
        fun hn => rangeEnd hA it (by omega) (h0 (map_eq h (if_neg (Nat.not_lt.mpr hn))))) x
    | dvl k =>
      exact u24 x fun a ep hk ho it lt => op h fun o h2 h3 => dct_by h2 fun es hP h2 => oi h2 fun hn h2 => u14 (dct_now R hI hP hn hk ho lt) fun des e hs ge lt' => by
        have h : some (es[i]?.map fun p => LV.av p.2) = some r := congrArg some ((Option.map_map ..).symm.trans ((congrArg (Option.map LV.av) (si h2)).trans h3))
        exact en_by (ge i) (fun p en g1 g2 g3 g4 => valNext_dct (hs.symm ▸ it) e g2 fun h' it' sb => h1 (.av p.2) h' s.toks en.val (map_eq h g1) sb (.av g4) ⟨a, ep, hk, ho, hs ▸ it', lt' h' sb⟩) fun g1 g2 => valuesEnd hA (hs.symm ▸ it) e g2 (h0 (map_eq h g1))
    | _ => exact x.elim
end
end DK
namespace DK
open PySem PySem.W PySem.Calls PyProof.Rows
noncomputable def cloOf (env : Env) : List (Str × NameKind) -> List (Str × Addr) -> List (Str × Addr)
  | [], cs => cs
  | (n, k) :: r, cs => cloOf env r (if k == .free then (match env.cells.lookup n with | some a => (n, a) :: cs | none => cs) else cs)
theorem cloOf_at {env : Env} {y : Str} {c : Addr} (hy : env.cells.lookup y = some c) : ∀ (names : List (Str × NameKind)) (cs : List (Str × Addr)), (y, NameKind.free) ∈ names ∨ cs.lookup y = some c -> (cloOf env names cs).lookup y = some c
  | [], cs, h => h.elim (fun h => nomatch h) id
  | (n, k) :: r, cs, h => by
    unfold cloOf
    refine cloOf_at hy r _ ?_
    by_cases hn : y = n
    · subst hn
      by_cases hk : (k == NameKind.free) = true
      · rw [if_pos hk, hy]; exact .inr (by simp)
      · rw [if_neg hk]
        rcases h with h | h
        · rcases List.mem_cons.mp h with h | h
          · cases h; exact absurd rfl hk
          · exact .inl h
        · exact .inr h
    · rcases h with h | h
      · rcases List.mem_cons.mp h with h | h
        · cases h; exact absurd rfl hn
        · exact .inl h
      · refine .inr ?_
        split
        · split
          · rw [List.lookup_cons, beq_eq_false_iff_ne.mpr hn]; exact h
          · exact h
        · exact h
theorem clo_loop {env : Env} : ∀ (names : List (Str × NameKind)) (cs : List (Str × Addr)), (∀ p ∈ names, isFree p.2 = true -> ∃ c, env.cells.lookup p.1 = some c) ->
    (forIn names cs fun (x : Str × NameKind) (cs : List (Str × Addr)) => (if (x.2 == NameKind.free) = true then do let a ← cellOf env x.1; pure (ForInStep.yield ((x.1, a) :: cs)) else pure (ForInStep.yield cs) : Sem (ForInStep (List (Str × Addr))))) = pure (cloOf env names cs)
  | [], cs, _ => by rw [List.forIn_nil]; rfl
  | (n, k) :: r, cs, h => by
    rw [List.forIn_cons]
    have ih := fun cs => clo_loop r cs fun p hp => h p (.tail _ hp)
    unfold cloOf
    by_cases hk : (k == NameKind.free) = true
    · obtain ⟨c, hc⟩ := h (n, k) (.head _) (by have := beq_iff_eq.mp hk; subst this; rfl)
      have e : cellOf env n = pure c := by unfold cellOf; rw [show env.cells.lookup n = some c from hc]
      rw [if_pos hk, if_pos hk, e, show env.cells.lookup n = some c from hc]
      simp only [pure_bind]
      exact ih _
    · rw [if_neg hk, if_neg hk]
      simp only [pure_bind]
      exact ih _
theorem closureFor_eq {env : Env} {scope : Scope} (h : ∀ p ∈ scope.names, isFree p.2 = true -> ∃ c, env.cells.lookup p.1 = some c) : closureFor scope env = pure (cloOf env scope.names []) := by
  have := clo_loop scope.names [] h
  unfold closureFor
  refine Eq.trans ?_ (congrArg (fun t => t >>= pure) this |>.trans (by simp))
  rfl
end DK
namespace DK
open PySem PySem.W PySem.Calls PyProof.Rows
theorem lookup_relabel {env : Env} {y : Str} : ∀ {names : List (Str × NameKind)},
    (names.map fun (n, k) => if (k == NameKind.free && env.scope.kind == .function && env.kindOf n == some .cell) then (n, NameKind.cell) else (n, k)).lookup y =
      (names.lookup y).map fun k => if (k == NameKind.free && env.scope.kind == .function && env.kindOf y == some .cell) then NameKind.cell else k
  | [] => rfl
  | (n, k) :: r => by
    have ih := @lookup_relabel env y r
    show List.lookup y ((if (k == NameKind.free && env.scope.kind == .function && env.kindOf n == some .cell) = true then (n, NameKind.cell) else (n, k)) :: _) = _
    by_cases hc : (k == NameKind.free && env.scope.kind == .function && env.kindOf n == some .cell) = true
    · rw [if_pos hc, List.lookup_cons, List.lookup_cons]
      induction hx : y == n using Bool.casesOn with
      | true => have hy := beq_iff_eq.mp hx; subst hy; dsimp only; rw [Option.map_some, if_pos hc]
      | false => exact ih
    · rw [if_neg hc, List.lookup_cons, List.lookup_cons]
      induction hx : y == n using Bool.casesOn with
      | true => have hy := beq_iff_eq.mp hx; subst hy; dsimp only; rw [Option.map_some, if_neg hc]
      | false => exact ih
theorem mem_slook {α : Type} {y : Str} {v : α} {l : List (Str × α)} (h : slook y l = some v) : (y, v) ∈ l := by
  induction l with
  | nil => exact nm h
  | cons p r ih => exact (Classical.em (y = p.1)).elim (fun e => (Prod.ext e (si ((slook_self (v := p.2) (r := r) e).symm.trans h)).symm : (y, v) = p) ▸ .head _) fun e => .tail _ (ih ((slook_ne (v := p.2) e).symm.trans h))
theorem slook_filter {α : Type} {y : Str} {p : Str × α -> Bool} {l : List (Str × α)} (h : ∀ q ∈ l, q.1 = y -> p q = true) : slook y (l.filter p) = slook y l := by
  induction l with
  | nil => rfl
  | cons q r ih =>
    have ih := ih fun q hq => h q (.tail _ hq)
    rw [List.filter_cons]
    by_cases e : y = q.1
    · rw [if_pos (h q (.head _) e.symm)]
      exact (slook_self (v := q.2) e).trans (slook_self (v := q.2) e).symm
    · have e2 : slook y (q :: r) = slook y r := slook_ne (v := q.2) e
      rw [e2]
      split
      · exact (slook_ne (v := q.2) e).trans ih
      · exact ih
section
variable {tabs : List (Addr × Addr × Str)} {fs : Fs} {kd : Kinds} {cm : Str -> Option Addr} {env : Env}
theorem cap_at (V : EnvOk tabs fs kd cm env) {sc : Scope} (h : capOk kd sc = true) {p : Str × NameKind} (hp : p ∈ sc.names) (hf : isFree p.2 = true) : ∃ c, cm p.1 = some c ∧ env.cells.lookup p.1 = some c := by
  have h := List.all_eq_true.mp h p hp
  rw [hf] at h
  have h : isCap (slook p.1 kd) = true := h
  induction e : slook p.1 kd using Option.casesOn with
  | none => rw [e] at h; exact nt h
  | some k =>
    rw [e] at h
    induction k using PySem.NameKind.casesOn with
    | cell => exact (V.cel _ e).2.imp fun c z => ⟨z.1, z.2.1⟩
    | free => exact (V.fre _ e).2
    | _ => exact nt h
theorem closure_of (V : EnvOk tabs fs kd cm env) {sc : Scope} (h : capOk kd sc = true) : closureFor sc env = pure (cloOf env sc.names []) :=
  closureFor_eq fun p hp hf => let ⟨c, _, h2⟩ := cap_at V h hp hf; ⟨c, h2⟩
theorem closure_get (V : EnvOk tabs fs kd cm env) {sc : Scope} (h : capOk kd sc = true) {y : Str} (hy : (y, NameKind.free) ∈ sc.names) : ∃ c, cm y = some c ∧ (cloOf env sc.names []).lookup y = some c :=
  let ⟨c, h1, h2⟩ := cap_at V h hy rfl; ⟨c, h1, cloOf_at h2 _ _ (.inl hy)⟩
structure CompP (x : Str) (sc : Scope) (cn : List Str) : Prop where
  kind : sc.kind = .function
  ncn : cn.contains x = false
  nbad : bad.contains x = false
  ndot : x ≠ dot0
  hx : slook x sc.names = some .local
  loc : ∀ p ∈ sc.names, p.1 = x ∨ p.1 = dot0 -> p.2 = .local
  oth : ∀ p ∈ sc.names, p.1 ≠ x -> p.1 ≠ dot0 -> isFreeGlob p.2 = true ∧ bad.contains p.1 = false
theorem compP_of {x : Str} {sc : Scope} {cn : List Str} (h : compOk x sc cn = true) : CompP x sc cn := by
  have a6 := Bool.and_eq_true_iff.mp h
  have a5 := Bool.and_eq_true_iff.mp a6.1
  have a4 := Bool.and_eq_true_iff.mp a5.1
  have a3 := Bool.and_eq_true_iff.mp a4.1
  have a2 := Bool.and_eq_true_iff.mp a3.1
  have nb {b : Bool} (h : (!b) = true) : b = false := Bool.not_eq_true' b |>.mp h
  have hkind : sc.kind = .function := by
    have h1 := a2.1
    cases hk : sc.kind with
    | function => rfl
    | _ => rw [hk] at h1; exact nt h1
  have loc_of : ∀ {k : NameKind}, isLocal k = true -> k = .local := fun {k} e => by
    induction k using PySem.NameKind.casesOn with
    | «local» => rfl
    | _ => exact nt e
  have all (p) (hp : p ∈ sc.names) : ((p.1 = x ∨ p.1 = dot0) ∧ isLocal p.2 = true) ∨ (p.1 ≠ x ∧ p.1 ≠ dot0 ∧ isFreeGlob p.2 = true ∧ bad.contains p.1 = false) :=
    (Bool.or_eq_true_iff.mp (List.all_eq_true.mp a6.2 p hp)).imp (fun z => (Bool.and_eq_true_iff.mp z).imp_left fun z => (Bool.or_eq_true_iff.mp z).imp eq_of_beq eq_of_beq) fun z => by
      have b5 := Bool.and_eq_true_iff.mp z
      have b4 := Bool.and_eq_true_iff.mp b5.1
      have b3 := Bool.and_eq_true_iff.mp b4.1
      have b2 := Bool.and_eq_true_iff.mp b3.1
      exact ⟨bne_iff_ne.mp b2.1, bne_iff_ne.mp b2.2, b3.2, nb b4.2⟩
  refine ⟨hkind, nb a2.2, nb a3.2, bne_iff_ne.mp a4.2, ?_, fun p hp e => (all p hp).elim (fun z => loc_of z.2) fun z => e.elim (fun e => absurd e z.1) fun e => absurd e z.2.1, fun p hp e1 e2 => (all p hp).elim (fun z => z.1.elim (fun e => absurd e e1) fun e => absurd e e2) fun z => z.2.2⟩
  have h5 := a5.2
  induction e : slook x sc.names using Option.casesOn with
  | none => rw [e] at h5; exact nt h5
  | some k => rw [e] at h5; exact congrArg some (loc_of h5)
theorem slook_compK {x y : Str} {sc : Scope} {k : NameKind} {M : Prop} (C : CompP x sc fs.cn) (h : slook y (compK x sc) = some k) (h1 : y = x -> k = .local -> M) (h2 : y ≠ x -> y ≠ dot0 -> slook y sc.names = some k -> isFreeGlob k = true -> bad.contains y = false -> (y, k) ∈ sc.names -> M) : M := by
  by_cases e : y = x
  · exact h1 e (si ((slook_self e).symm.trans h)).symm
  · have h : slook y (sc.names.filter fun p => isFreeGlob p.2) = some k := (slook_ne e).symm.trans h
    refine (List.mem_filter.mp (mem_slook h)).elim fun m1 m2 => ?_
    have m2 : isFreeGlob k = true := m2
    have hd : y ≠ dot0 := fun z => nt ((show k = .local from C.loc _ m1 (.inr z)) ▸ m2 : isFreeGlob .local = true)
    rw [slook_filter fun q hq hy => (C.oth q hq (hy ▸ e) (hy ▸ hd)).1] at h
    exact h2 e hd h m2 (C.oth _ m1 e hd).2 m1
theorem comp_env (V : EnvOk tabs fs kd cm env) {x : Str} {sc : Scope} {C : Addr} (hc : compOk x sc fs.cn = true) (hcap : capOk kd sc = true) : EnvOk tabs fs (compK x sc) cm (compEnvC sc (cloOf env sc.names []) C env) := by
  have CP := compP_of hc
  have kof : ∀ y, (compEnvC sc (cloOf env sc.names []) C env).kindOf y = (sc.names.lookup y).map fun k => if (k == NameKind.free && env.scope.kind == .function && env.kindOf y == some .cell) then NameKind.cell else k := fun y => lookup_relabel
  have cmx : cm x = none := by
    induction e : cm x using Option.casesOn with
    | none => rfl
    | some c => exact Bool.noConfusion (CP.ncn.symm.trans (V.cn x c e))
  refine ⟨CP.kind, V.glob, V.blt, fun y k h => slook_compK CP h (fun e z_ => e ▸ CP.nbad) fun z_ z_ z_ z_ q z_ => q, fun y h => slook_compK CP h (fun e z_ => e ▸ ⟨?_, cmx⟩) fun z_ z_ z_ q z_ z_ => nt q, fun y h => slook_compK CP h (fun z_ e => NameKind.noConfusion e) fun z_ z_ z_ q z_ z_ => nt q,
    fun y h => slook_compK CP h (fun z_ e => NameKind.noConfusion e) fun z_ z_ q1 z_ z_ q2 => u12 (closure_get V hcap q2) fun c h1 h2 => ⟨?_, c, h1, h2⟩, fun y h => slook_compK CP h (fun z_ e => NameKind.noConfusion e) fun z_ z_ q1 z_ z_ z_ => ?_, V.cn, V.dom, V.inj, V.lam⟩
  · rw [kof, ← slook_eq, CP.hx]; rfl
  · rw [kof, ← slook_eq, q1, Option.map_some]
    split
    · exact .inr rfl
    · exact .inl rfl
  · rw [kof, ← slook_eq, q1]; rfl
end
section
variable {prog : Program} {w : World} {G : Heap} {tabs : List (Addr × Addr × Str)} {A : Around} {E : Value -> Shared -> Prop} {s s' s₀ : Shared} {g g₀ g' : Gh} {P : Hp} {I D : Addr} {cn : List Str} {cm : Str -> Option Addr} {h : Heap}
theorem wk_forget (hD : g.ρ D = .keep ∨ g.ρ D = .frm) : g.Wk (g.set D .any) :=
  ⟨fun a h1 h2 h3 => if_neg (fun z => hD.elim (fun e => h2 (z ▸ e)) fun e => h3 (z ▸ e) : ¬ a = D), fun z_ z_ e => e⟩
theorem Rep.forget (R : Rep prog w G tabs g P h) (hD : g.ρ D = .keep ∨ g.ρ D = .frm) : Rep prog w G tabs (g.set D .any) P h := by
  have W := wk_forget hD
  have ne : ∀ {a : Addr} {r : Role}, (g.set D .any).ρ a = r -> Nat.beq r.tg 0 = false -> g.ρ a = r := fun {a r} e hr => Gh.set_by e (fun z_ q => absurd q (rn (z := .any) rfl hr)) fun z_ q => q
  exact ⟨fun a o e => R.fro a o (ne e rfl), fun a o e => W.at (R.base a o e), R.len, fun k o e => u13 (R.own k o e) fun a h1 h2 h3 => ⟨a, h1, W.at h2, h3.wk W (fun z_ e => e) fun z_ z_ z_ e => e⟩, fun a e => R.frm a (ne e rfl), fun a e => R.cel a (ne e rfl),
    fun c T q m => (R.tab c T q m).imp W.at fun x => x.imp fun z_ x => x.imp_right fun x => x.imp_right fun x pos cv e => (x pos cv e).imp fun z_ x => x.imp fun z_ x => x.imp fun z_ x => x.imp fun z_ x => x.imp_right fun x => x.imp_left W.at, fun a e => (Classical.em (a = D)).elim (fun z => absurd (if_pos z) e) fun z => R.low a fun q => e ((if_neg z).trans q)⟩
theorem iterSelf {y : LV} {n i : Nat} {Q : Value -> Shared -> Prop} (x : ItR prog w cn cm g s.heap I y n i) (h : Q (.ref I) s) : wpAny (model prog w) A (pyIter (.ref I)) Q E s := by
  induction y using DK.LV.casesOn with
  | clo => exact x.elim
  | clos => exact u33 x fun a vs m z_ z_ b => wpAny_pyIter_listiter b h
  | keys => exact u24 x fun a ep z_ z_ b z_ => wpAny_pyIter_keyiter b h
  | av y => induction y using DK.AV.casesOn with
    | ref => exact u12 x fun a z_ b => wpAny_pyIter_listiter b h
    | lst => exact u33 x fun a vs m z_ z_ b => wpAny_pyIter_listiter b h
    | tup => exact u33 x fun a vs m z_ z_ b => wpAny_pyIter_tupleiter b h
    | rng => exact wpAny_pyIter_rangeiter (And.right x) h
    | dvl => exact u24 x fun a ep z_ z_ b z_ => wpAny_pyIter_valiter b h
    | _ => exact x.elim
end
end DK
namespace DK
open PySem PySem.W PySem.Calls PyProof.Rows
section
variable (prog : Program) (w : World) (G : Heap) (tabs : List (Addr × Addr × Str)) (cn : List Str) (cm : Str -> Option Addr) (g₁ : Gh) (s₁ : Shared) (I D C : Addr) (y : LV) (n : Nat)
structure CompSt (g : Gh) (P : Hp) (s : Shared) (acc : List AV) (us : Array Value) (i : Nat) : Prop where
  R : Rep prog w G tabs g P s.heap
  E : Ext s₁.heap.objs.size g₁ s₁ g s
  kI : g.ρ I = .keep
  kD : g.ρ D = .keep
  kC : g.ρ C = .frm
  it : ItR prog w cn cm g s.heap I y n i
  pl : s.heap.PlainList D us
  rv : VRs prog w g acc us.toList
end
section
variable {prog : Program} {w : World} {G : Heap} {tabs : List (Addr × Addr × Str)} {m : Nat} {A : Around} {fs : Fs} {kd : Kinds} {cm : Str -> Option Addr} {env : Env} {l : Loc} {cn : List Str} {g₁ : Gh} {s₁ : Shared} {I D C : Addr} {y : LV} {n : Nat}
  {g g' : Gh} {P P' : Hp} {s s' : Shared} {acc : List AV} {us : Array Value} {i : Nat} {E : Value -> Shared -> Prop}
theorem CompSt.went (c : CompSt prog w G tabs cn cm g₁ s₁ I D C y n g P s acc us i) (x : Went prog w G tabs g s g' s' P') : CompSt prog w G tabs cn cm g₁ s₁ I D C y n g' P' s' acc us i :=
  ⟨x.1, c.E.trans (x.2.down c.E.size), x.2.le.at c.kI, x.2.le.at c.kD, x.2.le.at c.kC, c.it.ext c.kI x.2, c.pl.at fun o => x.2.keep D o c.kD, c.rv.mono x.2.le⟩
theorem CompSt.append {x : AV} {u : Value} {Q : Value -> Shared -> Prop} (c : CompSt prog w G tabs cn cm g₁ s₁ I D C y n g P s acc us i) (hD : g₁.ρ D = .any) (hID : I ≠ D) (r : VR prog w g x u) (hz : acc.length < 100000)
    (h : ∀ h', CompSt prog w G tabs cn cm g₁ s₁ I D C y n g P { s with heap := h' } (acc ++ [x]) (us.push u) i -> Q .none { s with heap := h' }) : wpAny (model prog w) A (call (.builtin "list.append") [.ref D, u]) Q E s := by
  refine wpAny_list_append_plain c.pl (fun h' pl sb => h h' ?_) (Nat.le_of_lt (szL (size_of c.rv) (Nat.lt_succ_of_lt hz)))
  have hz' : s.heap.objs.size ≤ h'.objs.size := Nat.le_of_eq sb.1.symm
  have k : ∀ a o, a ≠ D -> s.heap.get? a = some o -> h'.get? a = some o := fun a o q e => (sb.2 a q).trans e
  exact ⟨c.R.but c.kD hz' sb.extBut, c.E.but (tk := s.toks) hD hz' sb.extBut, c.kI, c.kD, c.kC, c.it.mv (.refl g) (fun o => k I o hID) fun a i r => .of_keep fun o => k a o fun z => rx (c.kD.symm.trans (z ▸ r)), pl, by rw [Array.toList_push]; exact c.rv.append (.cons r .nil)⟩
theorem CompSt.done (c : CompSt prog w G tabs cn cm g₁ s₁ I D C y n g P s acc us i) (hD : g₁.ρ D = .any) (hC : g₁.ρ C = .any) (hI : g₁.ρ I = .any) (hDC : D ≠ C) (hID : I ≠ D) {h₁ h₂ : Heap} (e₁ : Ended I s.heap h₁) (sb : Heap.SameBut C h₁ h₂) {tk : Nat} :
    (∃ g', Went prog w G tabs g₁ s₁ g' { s with heap := h₂, toks := tk } P ∧ VR prog w g' (.lst acc) (.ref D) ∧ g'.ρ C = .any) ∧ ∃ g', Went prog w G tabs g₁ s₁ g' { s with heap := h₂, toks := tk } (P ++ [.list acc]) ∧ VR prog w g' (.ref P.length) (.ref D) ∧ g'.ρ C = .any := by
  have R₁ := c.R.but c.kI e₁.2 e₁.1
  have E₁ := c.E.but (tk := s.toks) hI e₁.2 e₁.1
  have hz : h₁.objs.size ≤ h₂.objs.size := Nat.le_of_eq sb.1.symm
  have E₂ : Ext s₁.heap.objs.size g₁ s₁ g { s with heap := h₂, toks := tk } := Ext.but (s := { s with heap := h₁ }) E₁ hC hz sb.extBut
  have R₂ : Rep prog w G tabs (g.set C .any) P h₂ := by
    have R' := R₁.forget (.inr c.kC)
    have ne : ∀ a, (g.set C .any).ρ a ≠ .any -> a ≠ C := fun a e z => e (if_pos z)
    exact R'.quiet hz (fun a o r z_ z_ z_ e => (sb.2 a (ne a r)).trans e) (fun a r => (R'.frm a r).imp fun m n => n.sameBut sb (ne a (rn r))) fun a r => (R'.cel a r).imp fun m n => n.sameBut sb (ne a (rn r))
  have kD : (g.set C .any).ρ D = .keep := (if_neg hDC).trans c.kD
  have R₃ := R₂.forget (.inl kD)
  have aD : ((g.set C .any).set D .any).ρ D = .any := Gh.set_self ..
  refine ((c.pl.at fun o e => e₁.1 D o (Ne.symm hID) e).at fun o e => (sb.2 D hDC).trans e : h₂.PlainList D us).elim fun nn pl => ?_
  have lt := Heap.lt_size pl
  have rv : VRs prog w ((g.set C .any).set D .any) acc us.toList := (c.rv.wk (wk_forget (.inr c.kC))).wk (wk_forget (.inl kD))
  have le₃ : g₁.Le ((g.set C .any).set D .any) := ⟨fun a e => (if_neg (fun z => e (z ▸ hD) : ¬ a = D)).trans ((if_neg (fun z => e (z ▸ hC) : ¬ a = C)).trans (E₂.le.role a e)), E₂.le.pre⟩
  have re : ∀ {g₇ : Gh}, ((g.set C .any).set D .any).Le g₇ -> Ext s₁.heap.objs.size g₁ s₁ g₇ { s with heap := h₂, toks := tk } := fun L => { E₂ with le := le₃.trans L }
  have aC : ((g.set C .any).set D .any).ρ C = .any := (if_neg (Ne.symm hDC)).trans (if_pos rfl)
  constructor
  · have L := Gh.le_set (.fro (listObj us nn)) aD
    exact ⟨_, ⟨Rep.role (r := .fro (listObj us nn)) R₃ aD lt (fun o e => Role.fro.inj e ▸ pl) (fun e => rx e) (fun e => rx e), re L⟩, .lst (Gh.set_self ..) (rv.mono L), (if_neg (Ne.symm hDC)).trans aC⟩
  · have L := Gh.le_add aD
    exact ⟨_, ⟨R₃.addObj aD lt (.list pl (rv.mono L)), re L⟩, .ref (R₃.len ▸ List.getElem?_concat_length), (if_neg (Ne.symm hDC)).trans aC⟩
end
end DK
namespace DK
open PySem PySem.W PySem.Calls PyProof.Rows
noncomputable def turnE (Fe : LV -> EvF) (Fc : Expr -> LV -> EvF) (ifs : List Expr) : LV -> List AV -> Hp -> (List AV -> Hp -> Out) -> Out := fun v acc P f =>
  let go (P : Hp) : Out := Fe v P (avK fun w P => f (acc ++ [w]) P) (fun z_ z_ => .none)
  match ifs with
  | [] => go P
  | [c] => Fc c v P (avK fun t P => match truth t with | some true => go P | some false => f acc P | .none => .none) (fun z_ z_ => .none)
  | _ => .none
section
variable {prog : Program} {w : World} {G : Heap} {tabs : List (Addr × Addr × Str)} {m : Nat} {A : Around} {fs : Fs} {kd : Kinds} {cm : Str -> Option Addr} {env : Env} {l : Loc} {g₁ : Gh} {s₁ : Shared} {I D C : Addr} {y : LV} {n : Nat}
  {g g' : Gh} {P P' : Hp} {s s' : Shared} {acc : List AV} {us : Array Value} {i : Nat} {E : Value -> Shared -> Prop} {x : Str} {sc : Scope}
theorem turn_snd {Fe : LV -> EvF} {Fc : Expr -> LV -> EvF} {ifs : List Expr} {elt : Expr} {px : Pos} {v : LV} {u : Value} {f : List AV -> Hp -> Out} {res : Res} {N : Shared -> Prop} (hc : compOk x sc fs.cn = true) (hcap : capOk kd sc = true)
    (he : ∀ v, Snd prog w G tabs m A fs (compK x sc) cm (compEnvC sc (cloOf env sc.names []) C env) ((x, v) :: l) (Fe v) (eval elt (compEnvC sc (cloOf env sc.names []) C env)))
    (ht : ∀ c v, SndT prog w G tabs m A fs (compK x sc) cm (compEnvC sc (cloOf env sc.names []) C env) ((x, v) :: l) (Fc c v) (isTrue c (compEnvC sc (cloOf env sc.names []) C env) (eval c (compEnvC sc (cloOf env sc.names []) C env))))
    (X : Cfg prog w G tabs m A fs kd cm env l g₁ P s₁) {P' : Hp} (c : CompSt prog w G tabs fs.cn cm g₁ s₁ I D C y n g P' s acc us i) (hD : g₁.ρ D = .any) (hC : g₁.ρ C = .any) (hIC : I ≠ C) (hID : I ≠ D) (hDC : D ≠ C) (hz : acc.length < 100000)
    (r : LVR prog w fs.cn cm g v u) (h : turnE Fe Fc ifs v acc P' f = some res)
    (hN : ∀ g' P'' s' acc' us', f acc' P'' = some res -> acc'.length ≤ acc.length + 1 -> CompSt prog w G tabs fs.cn cm g₁ s₁ I D C y n g' P'' s' acc' us' i -> N s') :
    wpAny (model prog w) A (assign (.Name x px) (compEnvC sc (cloOf env sc.names []) C env) u) (fun z_ s₂ =>
      wpAny (model prog w) A (forIn ifs true fun c r => if r = true then do let ok ← isTrue c (compEnvC sc (cloOf env sc.names []) C env) (eval c (compEnvC sc (cloOf env sc.names []) C env)); pure (ForInStep.yield ok) else pure (ForInStep.yield r)) (fun ok s₃ =>
        if ok = true then wpAny (model prog w) A (eval elt (compEnvC sc (cloOf env sc.names []) C env)) (fun x s₄ =>
          wpAny (model prog w) A (call (.builtin "list.append") [.ref D, x]) (fun z_ s₅ => N s₅) E s₄) E s₃
        else N s₃) E s₂) E s := by
  have CP := compP_of hc
  have V' := comp_env (C := C) X.V hc hcap
  refine (V'.loc x (if_pos rfl)).elim fun hk cmx => (c.R.frm C c.kC).elim fun mm ns => ?_
  refine wpAny_assign_Name (wpAny_storeName_local hk ns (fun h' ns' sb => ?_) (by rw [V'.fn]; rfl))
  have hz' : s.heap.objs.size ≤ h'.objs.size := Nat.le_of_eq sb.1.symm
  have k : ∀ a o, a ≠ C -> s.heap.get? a = some o -> h'.get? a = some o := fun a o q e => (sb.2 a q).trans e
  have EC : Ext C g s g { s with heap := h', toks := s.toks + 1 } := Ext.frame (.inl c.kC) (Nat.le_refl _) sb
  have c' : CompSt prog w G tabs fs.cn cm g₁ s₁ I D C y n g P' { s with heap := h', toks := s.toks + 1 } acc us i :=
    ⟨c.R.ns c.kC ns' sb, c.E.but hC hz' sb.extBut, c.kI, c.kD, c.kC, c.it.ext c.kI EC, c.pl.at fun o => k D o hDC, c.rv⟩
  have F₀ : Frm prog w fs kd cm env l g h' := X.F.ext X.R c'.E
  have X' : Cfg prog w G tabs m A fs (compK x sc) cm (compEnvC sc (cloOf env sc.names []) C env) ((x, v) :: l) g P' { s with heap := h', toks := s.toks + 1 } := by
    refine ⟨c'.R, X.C.le c.E.le, X.M, V', c.kC, F₀.cells, ⟨_, ns', fun z v' e1 e2 => ?_⟩, fun z v' a e1 e2 => ?_⟩
    · exact slook_compK CP e1 (fun e z_ => ⟨u, if_pos e, (si ((slook_self e).symm.trans e2)) ▸ r⟩) fun z_ z_ z_ q z_ z_ => nt q
    · have hzx : z ≠ x := fun q => nm (cmx.symm.trans (q ▸ e2))
      exact F₀.cel z v' a ((slook_ne hzx).symm.trans e1) e2
  have item : ∀ {g₂ : Gh} {s₂ : Shared} {P₂ : Hp}, Went prog w G tabs g { s with heap := h', toks := s.toks + 1 } g₂ s₂ P₂ -> Fe v P₂ (avK fun w P => f (acc ++ [w]) P) (fun z_ z_ => .none) = some res ->
      wpAny (model prog w) A (eval elt (compEnvC sc (cloOf env sc.names []) C env)) (fun x s₄ => wpAny (model prog w) A (call (.builtin "list.append") [.ref D, x]) (fun z_ s₅ => N s₅) E s₄) E s₂ := fun {g₂ s₂ P₂} w₂ h₂ => by
    refine Snd.av (he v) (X'.went w₂) h₂ (fun z P₃ g₃ s₃ t q₃ w₃ r₃ => ?_) (fun z_ z_ z_ z_ z_ q => nm q)
    exact CompSt.append ((c'.went w₂).went w₃) hD hID r₃ hz fun h₄ c₄ => hN _ _ _ _ _ q₃ (Nat.le_of_eq List.length_append) c₄
  induction ifs using List.casesOn with
  | nil =>
    rw [List.forIn_nil]
    exact wpAny_pure (by rw [if_pos rfl]; exact item (Went.here (tk := s.toks + 1) c'.R) h)
  | cons cnd r => induction r using List.casesOn with
    | cons => exact nm h
    | nil =>
      refine wpAny_tests_one (ht cnd v X' h (fun t P₂ q => ite_ex q) (fun t b P₂ g₂ s₂ q hb w₂ => ?_) (fun z_ z_ z_ z_ z_ q => nm q))
      have q := ite_at q hb
      induction b using Bool.casesOn with
      | true => rw [if_pos rfl]; exact item w₂ q
      | false => rw [if_neg Bool.false_ne_true]; exact hN _ _ _ _ _ q (Nat.le_succ _) (c'.went w₂)
theorem slook_mem {α : Type} {p : Str × α} {L : List (Str × α)} (h : p ∈ L) : ∃ k, slook p.1 L = some k := by
  induction L with
  | nil => exact absurd h List.not_mem_nil
  | cons q L ih => exact (Classical.em (p.1 = q.1)).elim (fun e => ⟨q.2, slook_self e⟩) fun e => (List.mem_cons.mp h).elim (fun z => absurd (congrArg Prod.fst z) e) fun h => (ih h).imp fun k z => (slook_ne (v := q.2) e).trans z
theorem walk_none {α : Type} {v : LV} {n m i : Nat} {turn : LV -> α -> Hp -> (α -> Hp -> Out) -> Out} {fin : α -> Hp -> Out} {a : α} (e : nthL P v n i = none) : walk v n turn fin (m + 1) i a P = none := by
  rw [walk_eq, e]
theorem walk_some {α : Type} {v : LV} {n m i : Nat} {turn : LV -> α -> Hp -> (α -> Hp -> Out) -> Out} {fin : α -> Hp -> Out} {a : α} {o : Option LV} (e : nthL P v n i = some o) : walk v n turn fin (m + 1) i a P = match (generalizing := false) o with | .none => fin a P | some x => turn x a P fun a P => walk v n turn fin m (i + 1) a P := by
  rw [walk_eq, e]
  cases o <;> rfl
theorem start_by {o : Option (LV × Nat)} {F : LV -> Nat -> Out} {res : Res} {M : Prop} (h : (match o with | some (iv, m) => F iv m | .none => .none) = some res) (k : ∀ iv m, o = some (iv, m) -> F iv m = some res -> M) : M := by
  induction o using Option.casesOn with
  | none => exact nm h
  | some p => exact k p.1 p.2 rfl h
inductive CInv (prog : Program) (w : World) (G : Heap) (tabs : List (Addr × Addr × Str)) (cn : List Str) (cm : Str -> Option Addr) (g₁ : Gh) (s₁ : Shared) (I D C : Addr) (y : LV) (n : Nat) (turn : LV -> List AV -> Hp -> (List AV -> Hp -> Out) -> Out) (fin : List AV -> Hp -> Out) (res : Res) (k : Nat) (s' : Shared) : Prop
  | mk (i : Nat) (acc : List AV) (P' : Hp) (g' : Gh) (us : Array Value) (h1 : i + k = n + 1) (h2 : acc.length ≤ i) (h3 : walk y n turn fin k i acc P' = some res) (h4 : CompSt prog w G tabs cn cm g₁ s₁ I D C y n g' P' s' acc us i) : CInv prog w G tabs cn cm g₁ s₁ I D C y n turn fin res k s'
theorem comp_loop {Fe : LV -> EvF} {Fc : Expr -> LV -> EvF} {ifs : List Expr} {elt it : Expr} {px pos : Pos} {use : Option (Value -> Sem Unit)} {fin : List AV -> Hp -> Out} {res : Res} {Q : Value -> Shared -> Prop} {P₀ : Hp} {us₀ : Array Value} (hc : compOk x sc fs.cn = true) (hcap : capOk kd sc = true)
    (he : ∀ v, Snd prog w G tabs m A fs (compK x sc) cm (compEnvC sc (cloOf env sc.names []) C env) ((x, v) :: l) (Fe v) (eval elt (compEnvC sc (cloOf env sc.names []) C env)))
    (ht : ∀ c v, SndT prog w G tabs m A fs (compK x sc) cm (compEnvC sc (cloOf env sc.names []) C env) ((x, v) :: l) (Fc c v) (isTrue c (compEnvC sc (cloOf env sc.names []) C env) (eval c (compEnvC sc (cloOf env sc.names []) C env))))
    (X : Cfg prog w G tabs m A fs kd cm env l g₁ P s₁) (hD : g₁.ρ D = .any) (hC : g₁.ρ C = .any) (hI : g₁.ρ I = .any) (hIC : I ≠ C) (hID : I ≠ D) (hDC : D ≠ C) (hn : n < 100000) (h : walk y n (turnE Fe Fc ifs) fin (n + 1) 0 [] P₀ = some res)
    (c₀ : CompSt prog w G tabs fs.cn cm g₁ s₁ I D C y n g P₀ s [] us₀ 0)
    (hfin : ∀ g' P' s' acc us i h', CompSt prog w G tabs fs.cn cm g₁ s₁ I D C y n g' P' s' acc us i -> Ended I s'.heap h' -> fin acc P' = some res -> compPost (model prog w) A E use Q (.ref D) C (.ok .next) { s' with heap := h' }) :
    codeAny (model prog w) A (.compLoop (.ListComp elt [⟨.Name x px, it, ifs, 0⟩] sc pos) 0 (.ref I) (.ref D) (compEnvC sc (cloOf env sc.names []) C env)) (compPost (model prog w) A E use Q (.ref D) C) s := by
  refine codeAny_compLoop_tests (CInv prog w G tabs fs.cn cm g₁ s₁ I D C y n (turnE Fe Fc ifs) fin res) (fun k s' hI' => ?_) (n + 1) ⟨0, [], P₀, _, us₀, Nat.zero_add _, Nat.le_refl _, h, c₀⟩
  refine hI'.casesOn fun i acc P' g' us hik hacc hw c => cc fun kk => ?_
  cases k with
  | zero => exact nn (walk_z.symm.trans hw)
  | succ k =>
    induction hn0 : nthL P' y n i using Option.casesOn with
    | none => exact nn ((walk_none hn0).symm.trans hw)
    | some o =>
      have hw := (walk_some hn0).symm.trans hw
      induction o using Option.casesOn with
      | none => exact kk (next_snd c.R X.C.1 c.kI c.it hn0 (fun z_ h' en => hfin _ _ _ _ _ _ _ c en hw) fun v h' tk u e => nm e)
      | some v =>
        refine kk (next_snd c.R X.C.1 c.kI c.it hn0 (fun e => nm e.symm) fun v' h' tk u e sb rv it' => ?_)
        have hz' : s'.heap.objs.size ≤ h'.objs.size := Nat.le_of_eq sb.1.symm
        have c' : CompSt prog w G tabs fs.cn cm g₁ s₁ I D C y n g' P' { s' with heap := h', toks := tk } acc us (i + 1) :=
          ⟨c.R.but c.kI hz' sb.extBut, c.E.but hI hz' sb.extBut, c.kI, c.kD, c.kC, it', c.pl.at fun o e => (sb.2 D (Ne.symm hID)).trans e, c.rv⟩
        exact turn_snd (E := notedBy (model prog w) A (compEnvC sc (cloOf env sc.names []) C env) fun e s' => compPost (model prog w) A E use Q (.ref D) C (.error e) s') (px := px) (N := fun s₅ => ∃ j, j < k + 1 ∧ CInv prog w G tabs fs.cn cm g₁ s₁ I D C y n (turnE Fe Fc ifs) fin res j s₅)
          hc hcap he ht X c' hD hC hIC hID hDC (by omega) ((si e) ▸ rv) hw (fun g' P'' s' acc' us' q hl c'' => ⟨k, Nat.lt_succ_self k, i + 1, acc', P'', g', us', by omega, Nat.le_trans hl (Nat.succ_le_succ hacc), q, c''⟩)
theorem comp_core {f : EvF} {Fe : LV -> EvF} {Fc : Expr -> LV -> EvF} {ifs : List Expr} {elt it : Expr} {px pos : Pos} {use : Option (Value -> Sem Unit)} {fin : List AV -> Hp -> Out} {ke : AV -> Hp -> Out} {res : Res} {Q : Value -> Shared -> Prop} (hsys : ∃ o, G.get? sysModules = some o)
    (hset : ∀ a b c, it = .Set a b c -> ∀ P k ke, f P k ke = none) (hf : Snd prog w G tabs m A fs kd cm env l f (eval it env))
    (he : ∀ C v, Snd prog w G tabs m A fs (compK x sc) cm (compEnvC sc (cloOf env sc.names []) C env) ((x, v) :: l) (Fe v) (eval elt (compEnvC sc (cloOf env sc.names []) C env)))
    (ht : ∀ C c v, SndT prog w G tabs m A fs (compK x sc) cm (compEnvC sc (cloOf env sc.names []) C env) ((x, v) :: l) (Fc c v) (isTrue c (compEnvC sc (cloOf env sc.names []) C env) (eval c (compEnvC sc (cloOf env sc.names []) C env))))
    (X : Cfg prog w G tabs m A fs kd cm env l g P s) (hc : compOk x sc fs.cn = true) (hcap : capOk kd sc = true)
    (h : f P (fun iv P => match startL P iv with
        | some (iv, m) => if m < 100000 then walk iv m (turnE Fe Fc ifs) fin (m + 1) 0 [] P else .none
        | .none => .none) ke = some res)
    (hfin : ∀ g₁ s₁ P₁ I D C y n g' P' s' acc us i h', Went prog w G tabs g s g₁ s₁ P₁ -> CompSt prog w G tabs fs.cn cm g₁ s₁ I D C y n g' P' s' acc us i -> g₁.ρ D = .any -> g₁.ρ C = .any -> g₁.ρ I = .any -> D ≠ C -> I ≠ D -> s₁.heap.objs.size ≤ C -> Ended I s'.heap h' -> fin acc P' = some res ->
      compPost (model prog w) A E use Q (.ref D) C (.ok .next) { s' with heap := h' })
    (hE : ∀ b P' g' s' e, ke b P' = some res -> Went prog w G tabs g s g' s' P' -> Exc prog w b .fly e g' s'.heap -> E (.ref e) s') :
    wpAny (model prog w) A (comprehension (.ListComp elt [⟨.Name x px, it, ifs, 0⟩] sc pos) sc env (firstIterPos [⟨.Name x px, it, ifs, 0⟩] pos) (newList []) false (eval it env) use) Q E s := by
  have CP := compP_of hc
  have hs : ∀ u, foldedSetIterable it env u = pure u := by
    intro u
    induction it using PySem.Expr.casesOn with
    | Set a b c => exact nm ((hset _ _ _ rfl P _ ke).symm.trans h)
    | _ => kernel_rfl
  have hcell : ∀ p ∈ sc.names, p.2 ≠ .cell := fun p hp e => (Classical.em (p.1 = x ∨ p.1 = dot0)).elim (fun h1 => NameKind.noConfusion (e.symm.trans (CP.loc p hp h1))) fun h1 => nt (e ▸ (CP.oth p hp (fun z => h1 (.inl z)) (fun z => h1 (.inr z))).1 : isFreeGlob .cell = true)
  have hnames : ∀ p ∈ sc.names, p.2 = .local -> sc.names.lookup p.1 = some .local := fun p hp e => (slook_eq p.1 sc.names).symm.trans
    ((Classical.em (p.1 = x)).elim (fun h1 => h1 ▸ CP.hx) fun h1 => (Classical.em (p.1 = dot0)).elim (fun h2 => (slook_mem hp).elim fun kk hq => hq.trans (congrArg some (CP.loc _ (mem_slook hq) (.inr h2)))) fun h2 => nt (e ▸ (CP.oth p hp h1 h2).1 : isFreeGlob .local = true))
  refine wpAny_comprehension_free (use := use) (g := ⟨.Name x px, it, ifs, 0⟩) (gs := []) rfl hs (closure_of X.V hcap) CP.kind hnames (hf X h (fun iv P₁ g₁ s₁ u q₁ w₁ r₁ => ?_) hE)
  refine start_by q₁ fun y n hst q₁ => oi q₁ fun hn q₁ => ?_
  have X₁ := X.went w₁
  refine iter_snd w₁.1 hsys r₁ hst fun I g₂ s₂ R₂ E₂ aI kI lI it₂ => ?_
  refine wpAny_newList ?_ (Nat.zero_le _)
  refine wpAny_newFunctionEnv hcell (fun z_ hx => nomatch hx) (fun h₄ ns₄ sb₄ => ?_) CP.kind
  have sz : (s₂.heap.push (listObj ([] : List Value).toArray 0)).objs.size = s₂.heap.objs.size + 1 := Heap.size_push ..
  have dI : I < s₂.heap.objs.size := R₂.low I (rn kI)
  have aD := R₂.fresh (Nat.le_refl s₂.heap.objs.size)
  have aC₂ : g₂.ρ (s₂.heap.push (listObj ([] : List Value).toArray 0)).objs.size = .any := R₂.fresh (Nat.le_of_lt (size_psh1 _ _))
  have lD := (E₂ 0).size
  have a₁ : ∀ {a : Addr}, s₁.heap.objs.size ≤ a -> g₁.ρ a = .any := fun ha => X₁.R.fresh ha
  change Heap.SameBut _ ((s₂.heap.push (listObj ([] : List Value).toArray 0)).push { cls := .type "dict", data := .dict #[] }) h₄ at sb₄
  change h₄.Ns (s₂.heap.push (listObj ([] : List Value).toArray 0)).objs.size _ at ns₄
  refine (?_ : codeAny (model prog w) A (.compStart (.ListComp elt [⟨.Name x px, it, ifs, 0⟩] sc pos) 0 (.ref I) (.ref s₂.heap.objs.size) (compEnvC sc (cloOf env sc.names []) (s₂.heap.push (listObj ([] : List Value).toArray 0)).objs.size env)) (compPost (model prog w) A E use Q (.ref s₂.heap.objs.size) (s₂.heap.push (listObj ([] : List Value).toArray 0)).objs.size) { s₂ with heap := h₄, toks := s₂.toks + 0 })
  have eD : (s₂.heap.push (listObj ([] : List Value).toArray 0)).get? s₂.heap.objs.size = some (listObj #[] 0) := Heap.get?_push_size _ rfl
  have kp : ∀ a o, a ≠ (s₂.heap.push (listObj ([] : List Value).toArray 0)).objs.size -> s₂.heap.get? a = some o -> h₄.get? a = some o := fun a o q e => (sb₄.2 a q).trans (Heap.get?_push_of_some _ (Heap.get?_push_of_some _ e))
  have RL : Rep prog w G tabs g₂ P₁ (s₂.heap.push (listObj ([] : List Value).toArray 0)) := R₂.push _
  have hz₄ : s₂.heap.objs.size ≤ h₄.objs.size := Nat.le_trans (Nat.le_of_lt (size_psh1 _ _)) (Nat.le_trans (Nat.le_of_lt (size_psh1 _ _)) (Nat.le_of_eq sb₄.1.symm))
  generalize s₂.heap.objs.size = D at dI aD lD eD sz ⊢
  generalize s₂.heap.push (listObj ([] : List Value).toArray 0) = L at eD kp RL sb₄ ns₄ sz aC₂ ⊢
  have szL := Heap.size_push L { cls := .type "dict", data := .dict #[] }
  generalize hC : L.objs.size = C at kp sz szL sb₄ ns₄ aC₂ ⊢
  have zz : C < h₄.objs.size := Nat.lt_of_lt_of_eq (Nat.lt_succ_self C) (szL.symm.trans sb₄.1.symm)
  have lDC : @LT.lt Nat _ D C := Nat.lt_of_lt_of_eq (Nat.lt_succ_self D) sz.symm
  have hDC : D ≠ C := Nat.ne_of_lt lDC
  have hIC : I ≠ C := Nat.ne_of_lt (Nat.lt_trans dI lDC)
  have hID : I ≠ D := Nat.ne_of_lt dI
  have ne : ∀ a, (g₂.set D .keep).ρ a ≠ .any -> a ≠ C := fun a e z => e (z ▸ ((if_neg (Ne.symm hDC)).trans aC₂))
  have rD : Rep prog w G tabs (g₂.set D .keep) P₁ h₄ := by
    have RP := Rep.role (r := .keep) (RL.push { cls := .type "dict", data := .dict #[] }) aD (Nat.lt_trans lDC (Nat.lt_of_lt_of_eq (Nat.lt_succ_self C) szL.symm)) (fun z_ e => rx e) (fun e => rx e) fun e => rx e
    exact RP.quiet (Nat.le_of_eq sb₄.1.symm) (fun a o r z_ z_ z_ e => (sb₄.2 a (ne a r)).trans e) (fun a r => (RP.frm a r).imp fun m n => n.sameBut sb₄ (ne a (rn r))) fun a r => (RP.cel a r).imp fun m n => n.sameBut sb₄ (ne a (rn r))
  have aC : (g₂.set D .keep).ρ C = .any := (if_neg (Ne.symm hDC)).trans aC₂
  have r₄ := Rep.role (r := .frm) rD aC zz (fun z_ e => rx e) (fun z_ => ⟨_, ns₄⟩) fun e => rx e
  have L₁ := Gh.le_set .keep aD
  have L₂ := L₁.trans (Gh.le_set .frm aC)
  have E₄ : ∀ b, Ext b g₂ s₂ ((g₂.set D .keep).set C .frm) { s₂ with heap := h₄, toks := s₂.toks + 0 } := fun b => .of_keeps L₂ hz₄ fun a o e q => kp a o (fun z => e (z ▸ aC₂)) q
  have c₀ : CompSt prog w G tabs fs.cn cm g₁ s₁ I D C y n ((g₂.set D .keep).set C .frm) P₁ { s₂ with heap := h₄, toks := s₂.toks + 0 } [] #[] 0 :=
    ⟨r₄, (E₂ _).trans (E₄ _), L₂.at kI, (Gh.le_set .frm aC).at (Gh.set_self ..), Gh.set_self .., it₂.ext kI (E₄ 0), ⟨0, (sb₄.2 D hDC).trans (Heap.get?_push_of_some _ eD)⟩, .nil⟩
  have lC : s₁.heap.objs.size ≤ C := Nat.le_of_lt (Nat.lt_of_le_of_lt (Nat.le_trans lI (Nat.le_of_lt dI)) lDC)
  have D₁ := a₁ (a := D) (Nat.le_trans lI (Nat.le_of_lt dI))
  have C₁ := a₁ (a := C) lC
  have loop := comp_loop (it := it) (pos := pos) (px := px) (use := use) (Q := Q) (E := E) hc hcap (he C) (ht C) X₁ D₁ C₁ aI hIC hID hDC hn q₁ c₀ fun g' P' s' acc us i h' c en hw => hfin _ _ _ _ _ _ _ _ _ _ _ _ _ _ _ w₁ c D₁ C₁ aI hDC hID lC en hw
  exact codeAny_compStart_list loop (iterSelf c₀.it loop)
theorem comp_snd {f : EvF} {Fe : LV -> EvF} {Fc : Expr -> LV -> EvF} {ifs : List Expr} {elt it : Expr} {px pos : Pos} (hsys : ∃ o, G.get? sysModules = some o)
    (hset : ∀ a b c, it = .Set a b c -> ∀ P k ke, f P k ke = none) (hf : Snd prog w G tabs m A fs kd cm env l f (eval it env))
    (he : ∀ C v, Snd prog w G tabs m A fs (compK x sc) cm (compEnvC sc (cloOf env sc.names []) C env) ((x, v) :: l) (Fe v) (eval elt (compEnvC sc (cloOf env sc.names []) C env)))
    (ht : ∀ C c v, SndT prog w G tabs m A fs (compK x sc) cm (compEnvC sc (cloOf env sc.names []) C env) ((x, v) :: l) (Fc c v) (isTrue c (compEnvC sc (cloOf env sc.names []) C env) (eval c (compEnvC sc (cloOf env sc.names []) C env)))) :
    Snd prog w G tabs m A fs kd cm env l (fun P k ke => if compOk x sc fs.cn && capOk kd sc then f P (fun iv P =>
        match startL P iv with
        | some (iv, m) => if m < 100000 then walk iv m (turnE Fe Fc ifs)
            (fun acc P => if isSliceIter it then k (.av (.ref P.length)) (P ++ [.list acc]) else k (.av (.lst acc)) P) (m + 1) 0 [] P else .none
        | .none => .none) ke else .none) (eval (.ListComp elt [⟨.Name x px, it, ifs, 0⟩] sc pos) env) := by
  intro P k ke res g s Q E X h hQ hE
  refine oi h fun hcc h => (Bool.and_eq_true_iff.mp hcc).elim fun h1 h2 => comp_core (use := none) hsys hset hf he ht X h1 h2 h (fun g₁ s₁ P₁ I D C y n g' P' s' acc us i h' w₁ c D₁ C₁ I₁ hDC hID z_ en hw => ?_) hE
  refine ((c.R.but c.kI en.2 en.1).frm C c.kC).imp fun mm ns => ⟨ns, fun h'' sb => ?_⟩
  refine (c.done (tk := s'.toks) D₁ C₁ I₁ hDC hID en sb).elim fun za zb => oe hw (fun z_ hw => u13 zb fun gb wb rb z_ => hQ _ _ gb _ _ hw (w₁.trans wb) (.av rb)) fun z_ hw => u13 za fun ga wa ra z_ => hQ _ _ ga _ _ hw (w₁.trans wa) (.av ra)
end
end DK
namespace DK
open PySem PySem.W PySem.Calls PyProof.Rows
inductive BR (prog : Program) (w : World) (g : Gh) : List (Str × AV) -> List (Str × Value) -> Prop
  | nil : BR prog w g [] []
  | cons {x : Str} {a : AV} {u : Value} {l : List (Str × AV)} {us : List (Str × Value)} : VR prog w g a u -> BR prog w g l us -> BR prog w g ((x, a) :: l) ((x, u) :: us)
section
variable {prog : Program} {w : World} {g : Gh}
theorem Lits.len {l : List AV} {vs : List Value} (r : Lits l vs) : l.length = vs.length := by
  induction r with
  | nil => rfl
  | cons _ _ ih => exact congrArg Nat.succ ih
theorem Lits.drop {l : List AV} {vs : List Value} (r : Lits l vs) : ∀ n, Lits (l.drop n) (vs.drop n) := by
  induction r with
  | nil => exact fun n => n.casesOn .nil fun z_ => .nil
  | cons a r ih => exact fun n => n.casesOn (.cons a r) ih
theorem BR.zip {l : List AV} {vs : List Value} (r : Lits l vs) : ∀ {ps : List Str}, BR prog w g (ps.zip l) (ps.zip vs) := by
  induction r with
  | nil => intro ps; cases ps <;> exact .nil
  | cons a r ih =>
    intro ps
    induction ps using List.casesOn with
    | nil => exact .nil
    | cons => exact .cons (vr_of_lit a) ih
theorem bindD_rel {ps : List Str} : ∀ {args : List AV} {vs : List Value} {dflt : List AV} {dvs : List Value} {b : List (Str × AV)}, VRs prog w g args vs -> Lits dflt dvs -> bindD ps args dflt = some b -> ∃ bv, bindD ps vs dvs = some bv ∧ BR prog w g b bv := by
  induction ps with
  | nil =>
    intro args vs dflt dvs b r L h
    induction args using List.casesOn with
    | nil => exact r.ex0 ▸ si h ▸ ⟨_, rfl, .nil⟩
    | cons => exact nm h
  | cons p ps ih =>
    intro args vs dflt dvs b r L h
    induction args using List.casesOn with
    | nil => exact r.ex0 ▸ oe h (fun z_ h => nm h) fun hl h => si h ▸ ⟨(p :: ps).zip (dvs.drop (dvs.length - (p :: ps).length)), if_neg (L.len ▸ hl), L.len ▸ BR.zip (L.drop _)⟩
    | cons a as =>
      refine u23 r.ex fun v vs' e ra r => op h fun b' h1 h2 => u12 (ih r L h1) fun bv h3 h4 => ?_
      subst e; subst h2
      exact ⟨_, congrArg (Option.map _) h3, .cons ra h4⟩
theorem bindD_names {α : Type} {dflt : List α} {ps : List Str} : ∀ {args : List α} {b : List (Str × α)}, bindD ps args dflt = some b -> b.map (·.1) = ps := by
  induction ps with
  | nil =>
    intro args b h
    induction args using List.casesOn with
    | nil => exact si h ▸ rfl
    | cons => exact nm h
  | cons p ps ih =>
    intro args b h
    induction args using List.casesOn with
    | nil => exact oe h (fun z_ h => nm h) fun hl h => si h ▸ List.map_fst_zip (by rw [List.length_drop]; omega)
    | cons a as => exact op h fun b' h1 h2 => h2 ▸ congrArg (List.cons p) (ih h1)
theorem BR.get {x : Str} {v : LV} {b : List (Str × AV)} {bv : List (Str × Value)} (r : BR prog w g b bv) (h : slook x (b.map fun p => (p.1, LV.av p.2)) = some v) : ∃ a u, v = .av a ∧ (x, u) ∈ bv ∧ VR prog w g a u := by
  induction r with
  | nil => exact nm h
  | @cons y a u b bv r q ih => exact (Classical.em (x = y)).elim (fun e => ⟨a, u, (si ((slook_self e).symm.trans h)).symm, e ▸ .head _, r⟩) fun e => (ih ((slook_ne e).symm.trans h)).imp fun a z => z.imp fun u z => ⟨z.1, .tail _ z.2.1, z.2.2⟩
theorem BR.names {b : List (Str × AV)} {bv : List (Str × Value)} (r : BR prog w g b bv) : b.map (·.1) = bv.map (·.1) := by
  induction r with
  | nil => rfl
  | cons _ _ ih => exact congrArg (List.cons _) ih
end
theorem not_in {x n : Str} {v : Value} {r : List (Str × Value)} (h : x ∉ ((n, v) :: r).map (·.1)) : x ≠ n ∧ x ∉ r.map (·.1) := ⟨fun e => h (e ▸ .head _), fun z => h (.tail _ z)⟩
theorem bindL_other {kindOf : Str -> Option NameKind} {x : Str} {bv : List (Str × Value)} : ∀ {m : Str -> Option Value}, x ∉ bv.map (·.1) -> bindL kindOf bv m x = m x := by
  induction bv with
  | nil => exact fun z_ => rfl
  | cons p r ih =>
    intro m h
    have h := not_in (n := p.1) (v := p.2) h
    refine (ih h.2).trans ?_
    split
    · exact if_neg h.1
    · rfl
theorem bindL_at {kindOf : Str -> Option NameKind} {x : Str} {u : Value} (hk : kindOf x = some .local) {bv : List (Str × Value)} : ∀ {m : Str -> Option Value}, (x, u) ∈ bv -> (bv.map (·.1)).Nodup -> bindL kindOf bv m x = some u := by
  induction bv with
  | nil => exact fun h => absurd h List.not_mem_nil
  | cons p r ih =>
    intro m h nd
    have nd := List.nodup_cons.mp nd
    refine (List.mem_cons.mp h).elim (fun e => ?_) fun h => ih h nd.2
    subst e
    refine (bindL_other nd.1).trans ?_
    rw [if_pos hk]
    exact if_pos rfl
theorem bindC_other {kindOf : Str -> Option NameKind} {x : Str} {bv : List (Str × Value)} : ∀ {m : Str -> Option Value}, x ∉ bv.map (·.1) -> bindC kindOf bv m x = m x := by
  induction bv with
  | nil => exact fun z_ => rfl
  | cons p r ih =>
    intro m h
    have h := not_in (n := p.1) (v := p.2) h
    refine (ih h.2).trans ?_
    split
    · rfl
    · exact if_neg h.1
theorem bindC_at {kindOf : Str -> Option NameKind} {x : Str} {u : Value} (hk : kindOf x ≠ some .local) {bv : List (Str × Value)} : ∀ {m : Str -> Option Value}, (x, u) ∈ bv -> (bv.map (·.1)).Nodup -> bindC kindOf bv m x = some u := by
  induction bv with
  | nil => exact fun h => absurd h List.not_mem_nil
  | cons p r ih =>
    intro m h nd
    have nd := List.nodup_cons.mp nd
    refine (List.mem_cons.mp h).elim (fun e => ?_) fun h => ih h nd.2
    subst e
    refine (bindC_other nd.1).trans ?_
    rw [if_neg hk]
    exact if_pos rfl
theorem mem_of_lookup {y : Str} {c : Addr} {l : List (Str × Addr)} (h : l.lookup y = some c) : (y, c) ∈ l := mem_slook ((slook_eq y l).trans h)
set_option tactic.hygienic true in
theorem cellsFrom_mem {y : Str} {c : Addr} {names : List (Str × NameKind)} : ∀ {n : Nat} {acc : List (Str × Addr)}, (y, c) ∈ cellsFrom n names acc -> (y, NameKind.cell) ∈ names ∨ (y, c) ∈ acc := by
  induction names with
  | nil => exact fun h => .inr h
  | cons p r ih =>
    intro n acc h
    unfold cellsFrom at h
    split at h
    · rename_i hk
      exact (ih h).elim (fun q => .inl (.tail _ q)) fun q => (List.mem_cons.mp q).elim (fun q => .inl (((Prod.ext (Prod.mk.inj q).1 (eq_of_beq hk).symm : (y, NameKind.cell) = p)) ▸ .head _)) .inr
    · exact (ih h).imp_left (.tail _)
theorem slook_of_mem {α : Type} {y : Str} {v : α} {l : List (Str × α)} (nd : (l.map (·.1)).Nodup) (h : (y, v) ∈ l) : slook y l = some v := by
  induction l with
  | nil => exact absurd h List.not_mem_nil
  | cons p r ih =>
    have nd := List.nodup_cons.mp nd
    exact (List.mem_cons.mp h).elim (fun e => e ▸ if_pos rfl) fun h => (slook_ne (v := p.2) fun e => nd.1 (List.mem_map.mpr ⟨_, h, e⟩)).trans (ih nd.2 h)
noncomputable def setCells (g : Gh) : List (Str × Addr) -> Gh
  | [] => g
  | (_, c) :: r => (setCells g r).set c .cel
section
variable {prog : Program} {w : World} {G : Heap} {tabs : List (Addr × Addr × Str)} {g : Gh} {P : Hp} {h : Heap}
theorem setCells_other {a : Addr} {l : List (Str × Addr)} (hn : ∀ p ∈ l, p.2 ≠ a) : (setCells g l).ρ a = g.ρ a := by
  induction l with
  | nil => rfl
  | cons p r ih => exact (if_neg (Ne.symm (hn _ (.head _)))).trans (ih fun p hp => hn p (.tail _ hp))
theorem setCells_at {n : Str} {c : Addr} {l : List (Str × Addr)} (hm : (n, c) ∈ l) : (setCells g l).ρ c = .cel := by
  induction l with
  | nil => exact absurd hm List.not_mem_nil
  | cons p r ih => exact (Classical.em (c = p.2)).elim (fun e => if_pos e) fun e => (if_neg e).trans ((List.mem_cons.mp hm).elim (fun q => absurd (congrArg Prod.snd q) e) ih)
theorem Rep.cells {l : List (Str × Addr)} (R : Rep prog w G tabs g P h) : (∀ p ∈ l, g.ρ p.2 = .any ∧ ∃ v, h.IsCell p.2 v) -> l.Pairwise (fun x y => x.2 ≠ y.2) -> Rep prog w G tabs (setCells g l) P h ∧ g.Le (setCells g l) := by
  induction l with
  | nil => exact fun z_ z_ => ⟨R, .refl g⟩
  | cons p r ih =>
    intro hc nd
    refine (List.pairwise_cons.mp nd).elim fun nd1 nd2 => (ih (fun p hp => hc p (.tail _ hp)) nd2).elim fun R' L => (hc _ (.head _)).elim fun ha z => z.elim fun v iv => ?_
    have ha' : (setCells g r).ρ p.2 = .any := (setCells_other fun p hp => Ne.symm (nd1 p hp)).trans ha
    exact ⟨R'.role ha' (iv.elim fun z_ z => Heap.lt_size z.1) (fun o e => rx e) (fun e => rx e) (fun z_ => ⟨v, iv⟩), L.trans (Gh.le_set .cel ha')⟩
end
structure FiP (fi : FI) : Prop where
  nd : (fi.scope.names.map (·.1)).Nodup
  ps : fi.params.Nodup
  nbad : ∀ p ∈ fi.scope.names, bad.contains p.1 = false
  kinds : ∀ p ∈ fi.scope.names, p.2 = .local ∨ p.2 = .cell ∨ p.2 = .globalImplicit
  par : ∀ x ∈ fi.params, slook x fi.scope.names = some .local ∨ slook x fi.scope.names = some .cell
theorem fiP_of {fi : FI} (h : fiOk fi = true) : FiP fi := by
  refine (Bool.and_eq_true_iff.mp h).elim fun h h4 => (Bool.and_eq_true_iff.mp h).elim fun h h3 => (Bool.and_eq_true_iff.mp h).elim fun h1 h2 => ?_
  have h3 := fun p hp => Bool.and_eq_true_iff.mp (List.all_eq_true.mp h3 p hp)
  refine ⟨of_decide_eq_true h1, of_decide_eq_true h2, fun p hp => (Bool.not_eq_true' _).mp (h3 p hp).1, fun p hp => ?_, fun x hx => ?_⟩
  · have h3 := (h3 p hp).2
    induction e : p.2 using PySem.NameKind.casesOn with
    | «local» => exact .inl rfl
    | cell => exact .inr (.inl rfl)
    | globalImplicit => exact .inr (.inr rfl)
    | _ => rw [e] at h3; exact nt h3
  · have h4 := List.all_eq_true.mp h4 x hx
    induction e : slook x fi.scope.names using Option.casesOn with
    | none => rw [e] at h4; exact nt h4
    | some k => induction k using PySem.NameKind.casesOn with
      | «local» => exact .inl rfl
      | cell => exact .inr rfl
      | _ => rw [e] at h4; exact nt h4
section
variable {prog : Program} {w : World} {K : Frag} {G : Heap} {mg mb : Str -> Option Value} {tabs : List (Addr × Addr × Str)} {m : Nat} {A : Around} {g : Gh} {P : Hp} {s : Shared}
noncomputable def cmOf (L : Addr) (fi : FI) : Str -> Option Addr := fun x => (cellsFrom (L + 1) fi.scope.names []).lookup x
noncomputable def fsOf (fi : FI) : Fs := ⟨cellNames fi.scope.names, fi.lam⟩
theorem def_env {fi : FI} {L f : Addr} {qual : Str} {cdv : Value} (hk : fi.scope.kind = .function) (F : FiP fi) (lam : fi.lam = true -> ∃ c T, cdv = .ref c ∧ (c, T, qual ++ (".<locals>." : Str) ++ ("<lambda>" : Str)) ∈ tabs)
    (cells : List (Str × Addr)) (hcells : cells = cellsFrom (L + 1) fi.scope.names []) (above : ∀ n c, (n, c) ∈ cells -> L < c) (apart : cells.Pairwise fun x y => x.2 ≠ y.2) :
    EnvOk tabs (fsOf fi) fi.scope.names (cmOf L fi) { scope := fi.scope, locals := L, globals := mainGlobals, cells := cells, qual := qual ++ (".<locals>." : Str), func := some f, code := cdv, frame := some L, builtins := builtinsNs } := by
  subst hcells
  have mem : ∀ {x c}, cmOf L fi x = some c -> (x, c) ∈ cellsFrom (L + 1) fi.scope.names [] := fun h => mem_of_lookup h
  have kcell : ∀ {x c}, cmOf L fi x = some c -> (x, NameKind.cell) ∈ fi.scope.names := fun h => (cellsFrom_mem (mem h)).elim id fun q => absurd q List.not_mem_nil
  have kof : ∀ x, Env.kindOf { scope := fi.scope, locals := L, globals := mainGlobals, cells := cellsFrom (L + 1) fi.scope.names [], qual := qual ++ (".<locals>." : Str), func := some f, code := cdv, frame := some L, builtins := builtinsNs } x = slook x fi.scope.names := fun x => (slook_eq x _).symm
  refine ⟨hk, rfl, rfl, fun x k h => F.nbad _ (mem_slook h), fun x h => ⟨(kof x).trans h, ?_⟩, fun x h => ⟨(kof x).trans h, ?_⟩, fun x h => ?_, fun x h => (kof x).trans h, fun x c h => ?_, fun x h => ?_, fun x y c h1 h2 => ?_, lam⟩
  · induction e : cmOf L fi x using Option.casesOn with
    | none => rfl
    | some c => exact NameKind.noConfusion (si (h.symm.trans (slook_of_mem F.nd (kcell e))))
  · exact (Option.isSome_iff_exists.mp (cellsFrom_some fi.scope.names (L + 1) [] (.inl ((slook_eq _ _).symm.trans h)))).elim fun c hc => ⟨c, hc, hc, above _ _ (mem_of_lookup hc)⟩
  · exact (F.kinds _ (mem_slook h)).elim (fun q => NameKind.noConfusion q) fun q => q.elim (fun q => NameKind.noConfusion q) fun q => NameKind.noConfusion q
  · exact List.contains_iff_mem.mpr (List.mem_map.mpr ⟨_, List.mem_filter.mpr ⟨kcell h, rfl⟩, rfl⟩)
  · refine u12 (List.mem_map.mp (List.contains_iff_mem.mp h)) fun p hp e => (List.mem_filter.mp hp).elim fun hp1 hp2 => ?_
    have hc : p.2 = .cell := (F.kinds _ hp1).elim (fun q => by rw [q] at hp2; exact nt hp2) fun q => q.elim id fun q => by rw [q] at hp2; exact nt hp2
    exact Option.isSome_iff_exists.mp (cellsFrom_some fi.scope.names (L + 1) [] (.inl ((slook_eq _ _).symm.trans (e ▸ (slook_of_mem F.nd (v := p.2) hp1).trans (congrArg some hc)))))
  · refine cc fun hxy => (List.mem_iff_getElem.mp (mem h1)).elim fun i z => z.elim fun hi ei => (List.mem_iff_getElem.mp (mem h2)).elim fun j z => z.elim fun hj ej => ?_
    have pw := List.pairwise_iff_getElem.mp apart
    have hij : i ≠ j := fun z => by subst z; exact hxy (congrArg Prod.fst (ei.symm.trans ej))
    exact (Nat.lt_or_gt_of_ne hij).elim (fun q => pw i j hi hj q (by rw [ei, ej])) fun q => pw j i hj hi q (by rw [ei, ej])
end
end DK
namespace DK
open PySem PySem.W PySem.Calls PyProof.Rows
section
variable {prog : Program} {w : World} {K : Frag} {G : Heap} {mg mb : Str -> Option Value} {tabs : List (Addr × Addr × Str)} {m : Nat} {A : Around} {g : Gh} {P : Hp} {s : Shared}
theorem CtxOk.deeper {env : Env} {L : Addr} (x : CtxOk g A) (h1 : env.scope.kind = .function) (h2 : env.frame = some L) (h3 : g.ρ L = .frm) : CtxOk g (A.deeper env) := by
  exact x.elim fun hh z => u12 z fun fr hf hs => ⟨hh, env :: fr, by show A.frames.map (env :: ·) = _; rw [hf]; rfl, fun e he => (List.mem_cons.mp he).elim (fun q => q ▸ ⟨h1 ▸ nofun, L, h2, h3⟩) (hs e)⟩
theorem cells_nodup {names : List (Str × NameKind)} : ∀ {k : Nat} {acc : List (Str × Addr)}, (names.map (·.1)).Nodup -> (acc.map (·.1)).Nodup -> (∀ p ∈ names, p.1 ∉ acc.map (·.1)) -> ((cellsFrom k names acc).map (·.1)).Nodup := by
  induction names with
  | nil => exact fun z_ h z_ => h
  | cons p r ih =>
    intro k acc nd na hn
    have nd := List.nodup_cons.mp nd
    unfold cellsFrom
    split
    · exact ih nd.2 (List.nodup_cons.mpr ⟨hn _ (.head _), na⟩) fun q hq z => (List.mem_cons.mp z).elim (fun e => nd.1 (List.mem_map.mpr ⟨q, hq, e⟩)) (hn q (.tail _ hq))
    · exact ih nd.2 na fun q hq => hn q (.tail _ hq)
theorem def_call (FX : Facts prog w K G mg mb tabs) (R : Rep prog w G tabs g P s.heap) (hC : CtxOk g A) (hroom : A.depth < recursionLimit) {f : Addr} {fi : FI} (hf : finfo f = some fi) {args : List AV} {vs : List Value} {b : List (Str × AV)}
    (ra : VRs prog w g args vs) (hb : bindD fi.params args fi.dflt = some b) {B : Result -> Shared -> Prop}
    (h : ∀ g' s' cm env, Went prog w G tabs g s g' s' P -> s.heap.objs.size ≤ env.locals -> env.frame = some env.locals -> EnvOk tabs (fsOf fi) fi.scope.names cm env -> Frm prog w (fsOf fi) fi.scope.names cm env (b.map fun p => (p.1, .av p.2)) g' s'.heap -> CtxOk g' (A.deeper env) ->
      wpAny (model prog w) (A.deeper env) (execs fi.body env) (fun fl s'' => B (.ok (.ret (match fl with | .ret v => v | _ => .none))) s'')
        (fun e s'' => wpAny (model prog w) (A.deeper env) (leaving env e) (fun z_ s₃ => B (.error e) s₃) (fun e' s₃ => B (.error e') s₃) s'') s') :
    codeAny (model prog w) A (.call (.ref f) ⟨vs, []⟩) B s := by
  have FN := FX.fn f fi hf
  have FP := fiP_of FN.ok
  refine FN.ex.casesOn fun oc od osl name qual params dV kV doc pm an cdv ct hl hcd hlam z => u12 z fun dvs hd hp => u12 (bindD_rel (prog := prog) (w := w) (g := g) ra hd hb) fun bv hbv br => ?_
  have X := FX.at R
  refine codeAny_call_function hroom (X _ _ hl) rfl FN.co FN.gen rfl (codeRec_of X hcd) (Looks.here (Looks.of_peek X (hp vs bv hbv _)) ?_)
  have nb := bindD_names hbv
  refine wpAny_newFunctionEnv_cells FN.kind (fun x hx => (FP.par _ (nb ▸ List.mem_map_of_mem hx)).imp ((slook_eq _ _).symm.trans ·) fun q => ⟨(slook_eq _ _).symm.trans q, cellsFrom_some _ _ _ (.inl ((slook_eq _ _).symm.trans q))⟩) fun env he s' x => ?_
  subst he
  refine ⟨(FX.lim.keeps R.inG).keeps x.toInCall.keep, codeAny_func ?_⟩
  refine u22 x.done fun h₁ tk es kp => ?_
  subst es
  have ns := x.toInCall.ns
  have cell := x.cell
  have apart := x.apart
  have above := x.above
  generalize hL : s.heap.objs.size = L at *
  have lt : L < h₁.objs.size := ns.lt
  have aL := R.fresh (Nat.le_of_eq hL)
  have cmem : ∀ {n c}, (n, c) ∈ cellsFrom (L + 1) fi.scope.names [] -> h₁.IsCell c (bindC (Env.kindOf (newEnv fi.scope L mainGlobals (cellsFrom (L + 1) fi.scope.names []) (qual ++ (".<locals>." : Str)) (some f) cdv none builtinsNs)) bv (fun z_ => none) n) := fun {n c} hm => by
    exact cell n c (lookup_of_mem_nodup (cells_nodup FP.nd List.nodup_nil fun z_ z_ => List.not_mem_nil) hm)
  have acell : ∀ p ∈ cellsFrom (L + 1) fi.scope.names [], (g.set L .frm).ρ p.2 = .any ∧ ∃ v, h₁.IsCell p.2 v := fun p hp => by
    have hlt : @LT.lt Nat _ L p.2 := above p.1 p.2 hp
    exact ⟨(if_neg (show ¬ p.2 = L from Nat.ne_of_gt hlt)).trans (R.fresh (hL ▸ Nat.le_of_lt hlt)), _, cmem hp⟩
  have R₁ : Rep prog w G tabs (g.set L .frm) P h₁ := Rep.role (r := .frm) (R.keeps (hL ▸ Nat.le_of_lt lt) kp) aL lt (fun z_ e => rx e) (fun z_ => ⟨_, ns⟩) fun e => rx e
  refine (R₁.cells acell apart).elim fun R₂ L₂ => ?_
  have L₁ := (Gh.le_set .frm aL).trans L₂
  have E₂ : Ext s.heap.objs.size g s (setCells (g.set L .frm) (cellsFrom (L + 1) fi.scope.names [])) { s with heap := h₁, toks := tk } := .of_keeps L₁ (hL ▸ Nat.le_of_lt lt) fun a o z_ e => kp a o e
  have rL : (setCells (g.set L .frm) (cellsFrom (L + 1) fi.scope.names [])).ρ L = .frm := L₂.at (Gh.set_self ..)
  have EV := def_env (tabs := tabs) (fi := fi) (L := L) (f := f) (qual := qual) (cdv := cdv) FN.kind FP hlam _ rfl above apart
  refine h _ { s with heap := h₁, toks := tk } (cmOf L fi) _ ⟨R₂, E₂⟩ (Nat.le_refl _) rfl EV ⟨rL, fun x c e => setCells_at (mem_of_lookup e), ⟨_, ns, fun x v e1 e2 => ?_⟩, fun x v c e1 e2 => ?_⟩ ((hC.le L₁).deeper FN.kind rfl rL)
  · exact u23 (br.get e2) fun a u e hm r => ⟨u, bindL_at ((slook_eq x _).symm.trans e1) hm (nb.symm ▸ FP.ps), e ▸ .av (r.mono L₁)⟩
  · have hm2 := mem_of_lookup e2
    have hk : (x, NameKind.cell) ∈ fi.scope.names := (cellsFrom_mem hm2).elim id fun q => absurd q List.not_mem_nil
    refine u23 (br.get e1) fun a u e hm r => ?_
    have this := cmem hm2
    rw [bindC_at (by
      intro e
      have e' : fi.scope.names.lookup x = some .local := e
      exact NameKind.noConfusion (si (e'.symm.trans ((slook_eq x _).symm.trans (slook_of_mem FP.nd hk))))) hm (nb.symm ▸ FP.ps)] at this
    exact ⟨u, a, this, e, r.mono L₁⟩
end
end DK
namespace DK
open PySem PySem.W PySem.Calls PyProof.Rows
structure TabFacts (G : Heap) (mg : Str -> Option Value) (tabs : List (Addr × Addr × Str)) : Prop where
  code : ∀ c T q, (c, T, q) ∈ tabs -> CodeHd G c T ∧ mainGlobals ≠ T ∧ G.BuiltinsAt mg T
  uniq : ∀ c T q c' q', (c, T, q) ∈ tabs -> (c', T, q') ∈ tabs -> q = q'
section
variable {prog : Program} {w : World} {K : Frag} {G : Heap} {mg mb : Str -> Option Value} {tabs : List (Addr × Addr × Str)} {m : Nat} {A : Around} {fs : Fs} {kd : Kinds} {cm : Str -> Option Addr} {env : Env} {l : Loc} {g : Gh} {P : Hp} {s : Shared}
  {E : Value -> Shared -> Prop}
structure LamP (sc : Scope) (cn : List Str) : Prop where
  kind : sc.kind = .function
  co : sc.isCoroutine = false
  gen : sc.isGenerator = false
  all : ∀ p ∈ sc.names, isFreeGlob p.2 = true ∧ bad.contains p.1 = false ∧ (isFree p.2 = true -> cn.contains p.1 = true)
theorem lamP_of {sc : Scope} {cn : List Str} (h : lamOk sc cn = true) : LamP sc cn := by
  refine (Bool.and_eq_true_iff.mp h).elim fun h h4 => (Bool.and_eq_true_iff.mp h).elim fun h h3 => (Bool.and_eq_true_iff.mp h).elim fun h1 h2 => ?_
  have hk : sc.kind = .function := by
    cases hk : sc.kind with
    | function => rfl
    | _ => rw [hk] at h1; exact nt h1
  refine ⟨hk, (Bool.not_eq_true' _).mp h2, (Bool.not_eq_true' _).mp h3, fun p hp => ?_⟩
  refine (Bool.and_eq_true_iff.mp (List.all_eq_true.mp h4 p hp)).elim fun z q3 => (Bool.and_eq_true_iff.mp z).elim fun q1 q2 => ⟨q1, (Bool.not_eq_true' _).mp q2, fun e => (Bool.or_eq_true_iff.mp q3).elim (fun z => nt ((Bool.not_eq_true' _).mp z ▸ e : false = true)) id⟩
theorem trip_snoc {c : Value} {i j : Int} {l : List Value} (hl : TriplesOk l) : TriplesOk (l ++ [rawInt i, rawInt j, c]) := by
  fun_induction TriplesOk l with
  | case1 => trivial
  | case2 _ _ _ _ _ rest ih => exact ih hl
  | case3 => exact hl.elim
theorem among_snoc {c cv : Value} {i j : Int} {pos' : Pos} {l : List Value} (hl : TriplesOk l) : codeAmong pos' (l ++ [rawInt i, rawInt j, c]) = some cv -> codeAmong pos' l = some cv ∨ cv = c := by
  fun_induction TriplesOk l with
  | case1 => exact fun h => oi h fun z_ h => .inr (si h).symm
  | case2 i t j u c rest ih => exact fun h => oe h (fun z h => .inl ((if_pos z).trans h)) fun z h => (ih hl h).imp_left ((if_neg z).trans ·)
  | case3 => exact hl.elim
theorem Rep.tabbed (R : Rep prog w G tabs g P s.heap) (TF : TabFacts G mg tabs) {c T c' : Addr} {q : Str} {ps : Array Value} {h' : Heap} {pos : Pos} {oc : Obj} {vs : Array Value} {t : Tok} (hm : (c, T, q) ∈ tabs)
    (hP : s.heap.get? T = some (tabObj ps)) (ht : TriplesOk ps.toList) (hn : codeAmong pos ps.toList = none) (hk : ∀ pos cv, codeAmong pos ps.toList = some cv -> ∃ c' oc vs t, cv = .ref c' ∧ g.ρ c' = .fro oc ∧ oc.data = .fields vs ∧ vs[1]? = some (.str q t))
    (x : Heap.ExtBut T s.heap h') (hz : s.heap.objs.size ≤ c') (hz' : c' < h'.objs.size) (hc : h'.get? c' = some oc) (hd : oc.data = .fields vs) (hq : vs[1]? = some (.str q t)) (hT : h'.get? T = some (tabObj (ps ++ #[rawInt pos.line, rawInt pos.col, .ref c']))) :
    Rep prog w G tabs (g.set c' (.fro oc)) P h' ∧ ∀ b tk, Ext b g s (g.set c' (.fro oc)) { s with heap := h', toks := tk } := by
  have rT := (R.tab c T q hm).1
  have ac := R.fresh hz
  have L := Gh.le_set (.fro oc) ac
  have kp : ∀ {a : Addr} {o : Obj} {r : Role}, g.ρ a = r -> Nat.beq r.tg 7 = false -> s.heap.get? a = some o -> h'.get? a = some o := fun e hr => x _ _ fun z => rn (z := .tab) e hr (z ▸ rT)
  have hzz := Nat.le_of_lt (Nat.lt_of_le_of_lt hz hz')
  refine ⟨⟨fun a o e => Gh.set_by e (fun y z => y ▸ (Role.fro.inj z).symm ▸ hc) fun z_ z => kp z rfl (R.fro a o z), fun a o e => L.at (R.base a o e), R.len, fun k o e => u13 (R.own k o e) fun a h1 h2 h3 => ⟨a, h1, L.at h2, h3.mono L (fun o => kp h2 rfl) fun d o r => kp r rfl⟩,
    fun a e => Gh.set_by e (fun z_ z => rx z) fun z_ z => (R.frm a z).imp fun m n => ns_slots n fun o e => ⟨o.slots, kp z rfl e⟩, fun a e => Gh.set_by e (fun z_ z => rx z) fun z_ z => (R.cel a z).imp fun v y => y.imp fun o y => y.imp_left (kp z rfl), fun c₂ T₂ q₂ hm₂ => ?_,
    fun a e => (Classical.em (a = c')).elim (fun z => z ▸ hz') fun z => Nat.lt_of_lt_of_le (R.low a fun q => e ((if_neg z).trans q)) hzz⟩,
    fun b tk => ⟨⟨rfl, rfl, rfl⟩, hzz, L, fun a o r => kp r rfl, fun a o z_ r e => ⟨o.slots, kp r rfl e⟩, fun a o z_ r => kp r rfl, fun a k r => .of_keep fun o => kp r rfl⟩⟩
  refine (R.tab c₂ T₂ q₂ hm₂).imp L.at fun z => ?_
  by_cases hTT : T₂ = T
  · subst hTT
    have hqq := TF.uniq _ _ _ _ _ hm hm₂
    subst hqq
    refine ⟨_, hT, by rw [Array.toList_append]; exact trip_snoc ht, fun pos' cv h1 => (among_snoc ht (by rw [Array.toList_append] at h1; exact h1)).elim (fun z => ?_) fun z => ⟨c', oc, vs, t, z, Gh.set_self .., hd, hq⟩⟩
    exact (hk pos' cv z).imp fun z_ z => z.imp fun z_ z => z.imp fun z_ z => z.imp fun z_ z => z.imp_right fun z => z.imp_left L.at
  · exact tab_le L (z.imp fun z_ z => z.imp_left (x _ _ hTT))
theorem lam_make (FX : Facts prog w K G mg mb tabs) (TF : TabFacts G mg tabs) (R : Rep prog w G tabs g P s.heap) (V : EnvOk tabs fs kd cm env) (hl : fs.lam = true) {b : Expr} {sc : Scope} {pos : Pos} (hok : lamOk sc fs.cn = true) (hcap : capOk kd sc = true) {Q : Value -> Shared -> Prop}
    (h : ∀ g' s' u, Went prog w G tabs g s g' s' P -> CloR fs.cn cm g' b sc u -> Q u s') : wpAny (model prog w) A (eval (.Lambda noArgs b sc pos) env) Q E s := by
  refine u22 (V.lam hl) fun c T hc hm => (R.tab c T _ hm).elim fun rT z => u13 z fun ps hP ht hk => (TF.code c T _ hm).elim fun t1 z => z.elim fun t2 z => ?_
  have CH := t1.keeps R.inG
  have BA : s.heap.BuiltinsAt mg T := z.imp fun z_ z => z.imp fun z_ z => ⟨z.1, z.2.1, z.2.2.1, z.2.2.2.1, R.inG _ _ z.2.2.2.2.1, z.2.2.2.2.2⟩
  have hcl := closure_of V hcap
  have gn : s.heap.Ns mainGlobals mg := FX.ns.keeps R.inG
  have hclo : ∀ x, slook x sc.names = some .free -> (cloOf env sc.names []).lookup x = cm x := fun x hx => u12 (closure_get V hcap (mem_slook hx)) fun c h1 h2 => h2.trans h1.symm
  refine kla_eval rfl ?_
  induction hf : codeAmong pos ps.toList using Option.casesOn with
  | some cv =>
    refine u44 (hk pos cv hf) fun c' oc vs t ec q1 q2 q3 => ?_
    subst ec
    refine kla_makeFunctionHit hcl V.glob gn hc CH hP ht hf BA fun ctv h' tk kp hz => ?_
    have R' := R.keeps hz kp
    have E' : ∀ b, Ext b g s g { s with heap := h', toks := tk } := fun b => .of_keeps (.refl g) hz fun a o z_ => kp a o
    have fr := Rep.froze (s := { s with heap := h', toks := tk }) (o := kla_obj "<lambda>" (env.qual ++ "<lambda>") noArgs b sc (cloOf env sc.names []) ((mg "__name__").getD .none) c' ctv) R' rfl
    exact h _ _ _ ⟨fr.1, (E' _).trans (fr.2.2.1 _ tk)⟩ ⟨_, _, _, _, _, _, _, oc, vs, t, rfl, fr.2.2.2, hclo, hok, fr.2.1.at q1, q2, q3⟩
  | none =>
    refine kla_makeFunction hcl V.glob gn hc CH hP ht hf t2 BA fun c' ctv h' tk x hz hz' cr hT => ?_
    refine u44 cr fun c'' oc vs t e1 e2 e3 e4 => ?_
    have e1 := Value.ref.inj e1
    subst e1
    refine (R.tabbed TF hm hP ht hf hk x hz hz' e2 e3 e4 hT).elim fun R' E' => ?_
    have fr := Rep.froze (s := { s with heap := h', toks := tk }) (o := kla_obj "<lambda>" (env.qual ++ "<lambda>") noArgs b sc (cloOf env sc.names []) ((mg "__name__").getD .none) c' ctv) R' rfl
    exact h _ _ _ ⟨fr.1, (E' _ tk).trans (fr.2.2.1 _ tk)⟩ ⟨_, _, _, _, _, _, _, oc, vs, t, rfl, fr.2.2.2, hclo, hok, fr.2.1.at (Gh.set_self ..), e3, e4⟩
end
end DK
namespace DK
open PySem PySem.W PySem.Calls PyProof.Rows
noncomputable abbrev lamEnv (sc : Scope) (L : Addr) (clos : List (Str × Addr)) (qual : Str) (a : Addr) (cv : Value) : Env := { scope := sc, locals := L, globals := mainGlobals, cells := clos, qual := qual, func := some a, code := cv, frame := some L, builtins := builtinsNs }
section
variable {prog : Program} {w : World} {K : Frag} {G : Heap} {mg mb : Str -> Option Value} {tabs : List (Addr × Addr × Str)} {m : Nat} {A : Around} {fs : Fs} {kd : Kinds} {cm : Str -> Option Addr} {env : Env} {l : Loc} {g : Gh} {P : Hp} {s : Shared}
  {E : Value -> Shared -> Prop} {ke : AV -> Hp -> Out} {res : Res} {r : CallR}
theorem lam_env (V : EnvOk tabs fs kd cm env) {sc : Scope} {clos : List (Str × Addr)} {L a : Addr} {qual : Str} {cv : Value} (hok : lamOk sc fs.cn = true) (hclo : ∀ x, slook x sc.names = some .free -> clos.lookup x = cm x) :
    EnvOk tabs ⟨fs.cn, false⟩ sc.names cm (lamEnv sc L clos qual a cv) := by
  have LP := lamP_of hok
  have kof : ∀ x, Env.kindOf (lamEnv sc L clos qual a cv) x = slook x sc.names := fun x => (slook_eq x _).symm
  refine ⟨LP.kind, rfl, rfl, fun x k h => (LP.all _ (mem_slook h)).2.1, fun x h => ?_, fun x h => ?_, fun x h => ?_, fun x h => (kof x).trans h, V.cn, V.dom, V.inj, nofun⟩
  · exact nt (LP.all _ (mem_slook h)).1
  · exact nt (LP.all _ (mem_slook h)).1
  · exact (V.dom x ((LP.all _ (mem_slook h)).2.2 rfl)).elim fun c hc => ⟨.inl ((kof x).trans h), c, hc, (hclo x h).trans hc⟩
theorem lam_call (FX : Facts prog w K G mg mb tabs) {A' : Around} {b : Expr} {sc : Scope} {u : Value} {f : EvF} (X : Cfg prog w G tabs m A fs kd cm env l g P s) (hl : fs.lam = true) (hC : CtxOk g A') (hd : A'.depth ≤ A.depth + 2) (hu : A'.units ≤ A.units + 10) (cl : CloR fs.cn cm g b sc u)
    (hf : ∀ A'' env'', Snd prog w G tabs m A'' ⟨fs.cn, false⟩ sc.names cm env'' l f (eval b env'')) {k : AV -> Hp -> Out} {B : Result -> Shared -> Prop} (h : f P (avK k) ke = some res)
    (hQ : ∀ v P' g' s' t, k v P' = some res -> Went prog w G tabs g s g' s' P' -> VR prog w g' v t -> B (.ok (.ret t)) s') (hE : ∀ b P' g' s' e, ke b P' = some res -> Went prog w G tabs g s g' s' P' -> Exc prog w b .fly e g' s'.heap -> B (.error (.ref e)) s') :
    codeAny (model prog w) A' (.call u ⟨[], []⟩) B s := by
  refine cl.casesOn fun a name qual pm c' ctv clos oc vs t e0 ra hclo hok rc hdc hq => ?_
  subst e0
  have LP := lamP_of hok
  have hm := X.M
  unfold RoomE slk at hm
  rw [if_pos hl] at hm
  have hcell : ∀ p ∈ sc.names, p.2 ≠ .cell := fun p hp e => nt (e ▸ (LP.all p hp).1 : isFreeGlob .cell = true)
  refine kla_callFunE (by show A'.depth < 1000; omega) (X.R.fro _ _ ra) rfl LP.co LP.gen rfl ⟨c', oc, vs, t, rfl, X.R.fro _ _ rc, hdc, hq⟩ ?_
  refine wpAny_of_eq (a := []) rfl ?_
  refine wpAny_newFunctionEnv hcell (fun z_ hx => nomatch hx) (fun h' ns sb => ?_) LP.kind
  have ns : h'.Ns s.heap.objs.size (fun x => ([] : List (Str × Value)).reverse.lookup x) := ns
  have sb : Heap.SameBut s.heap.objs.size (s.heap.push { cls := .type "frame", data := .dict #[] }) h' := sb
  have aL := X.R.fresh (Nat.le_refl s.heap.objs.size)
  have lt : s.heap.objs.size < h'.objs.size := ns.lt
  have kp : ∀ a o, s.heap.get? a = some o -> h'.get? a = some o := fun a o e => (sb.2 a (Nat.ne_of_lt (Heap.lt_size e))).trans (Heap.get?_push_of_some _ e)
  have R₁ := Rep.role (r := .frm) (X.R.keeps (Nat.le_of_lt lt) kp) aL lt (fun z_ e => rx e) (fun z_ => ⟨_, ns⟩) fun e => rx e
  have L₁ := Gh.le_set .frm aL
  have w₁ : Went prog w G tabs g s (g.set s.heap.objs.size .frm) { s with heap := h', toks := s.toks + 0 } P := ⟨R₁, .of_keeps L₁ (Nat.le_of_lt lt) fun a o z_ => kp a o⟩
  refine ⟨(FX.lim.keeps X.R.inG).keeps kp, kla_codeExpr ?_⟩
  have V' := lam_env X.V (sc := sc) (clos := clos) (L := s.heap.objs.size) (a := a) (qual := qual ++ (".<locals>." : Str)) (cv := .ref c') hok hclo
  have F₁ := X.F.ext X.R w₁.2
  have rL : (g.set s.heap.objs.size .frm).ρ s.heap.objs.size = .frm := Gh.set_self ..
  have C' : CtxOk (g.set s.heap.objs.size .frm) (A'.deeper (lamEnv sc s.heap.objs.size clos (qual ++ (".<locals>." : Str)) a (.ref c'))) :=
    (hC.le L₁).deeper LP.kind rfl rL
  have X' : Cfg prog w G tabs m (A'.deeper (lamEnv sc s.heap.objs.size clos (qual ++ (".<locals>." : Str)) a (.ref c'))) ⟨fs.cn, false⟩ sc.names cm (lamEnv sc s.heap.objs.size clos (qual ++ (".<locals>." : Str)) a (.ref c')) l (g.set s.heap.objs.size .frm) P { s with heap := h', toks := s.toks + 0 } := by
    refine ⟨R₁, C', ?_, V', rL, F₁.cells, ⟨_, ns, fun x v e1 z_ => ?_⟩, F₁.cel⟩
    · unfold RoomE slk
      rw [if_neg (by simp)]
      exact ⟨by show A'.depth + 1 + _ + _ ≤ _; omega, by show A'.units + 3 + _ + _ ≤ _; omega⟩
    · exact nt (LP.all _ (mem_slook e1)).1
  refine Snd.av (hf _ _) X' h (fun v P' g' s' t q1 q2 q3 => hQ v P' g' s' t q1 (w₁.trans q2) q3) (fun b P' g' s' e q1 q2 q3 => ?_)
  refine u12 (C'.le q2.2.le).2 fun fr hfr hall => u12 hC.2 fun fr' hfr' z_ => ?_
  have hfr'' : (A'.deeper (lamEnv sc s.heap.objs.size clos (qual ++ (".<locals>." : Str)) a (.ref c'))).frames = some ((lamEnv sc s.heap.objs.size clos (qual ++ (".<locals>." : Str)) a (.ref c')) :: fr') := by
    show A'.frames.map _ = _; rw [hfr']; rfl
  have hall := (si (hfr.symm.trans hfr'')) ▸ hall
  refine leave_snd hfr'' rfl hall q2.1 q3 (.inr (.inl rfl)) fun h'' N x'' => ?_
  have st : Step prog w G tabs g' s' g' P' h'' s'.toks := N.step q2.1
  exact hE b P' g' _ e q1 (w₁.trans (q2.trans (.of_step st))) x''
noncomputable def ToldRule (prog : Program) (w : World) (G : Heap) (tabs : List (Addr × Addr × Str)) : Prop := ∀ {A : Around} {g : Gh} {P : Hp} {s : Shared} {u : Value} {k : AV -> Hp -> Out} {res : Res} {Q E : Value -> Shared -> Prop}, Rep prog w G tabs g P s.heap -> CtxOk g A -> A.depth ≤ 900 -> A.units ≤ 9000 ->
  (∀ g' s', Went prog w G tabs g s g' s' P -> ∃ k, (k = Keeper.frame ∨ k = Keeper.machine ∨ k = Keeper.boundFrame) ∧ Looks (model prog w) s'.heap (keeperOf u) k) ->
  (∀ A' g' s' (B : Result -> Shared -> Prop), CtxOk g' A' -> A'.depth ≤ A.depth + 2 -> A'.units ≤ A.units + 10 -> Went prog w G tabs g s g' s' P ->
    (∀ x P'' g'' s'' t, k (.tup [x, .none]) P'' = some res -> Went prog w G tabs g' s' g'' s'' P'' -> VR prog w g'' x t -> B (.ok (.ret t)) s'') ->
    (∀ b P'' g'' s'' e, k (.tup [.none, b]) P'' = some res -> Went prog w G tabs g' s' g'' s'' P'' -> Exc prog w b .fly e g'' s''.heap -> B (.error (.ref e)) s'') -> codeAny (model prog w) A' (.call u ⟨[], []⟩) B s') ->
  (∀ v P' g' s' t, k v P' = some res -> Went prog w G tabs g s g' s' P' -> VR prog w g' v t -> Q t s') -> wpAny (model prog w) A (call (.ref 700) [u] []) Q E s
theorem told_call (FX : Facts prog w K G mg mb tabs) (h7 : keepIn K (.ref 700) = true) (TR : ToldRule prog w G tabs) (X : Cfg prog w G tabs m A fs kd cm env l g P s) {x : Str} {p pos : Pos} {e : Expr} {Q : Value -> Shared -> Prop} (hx : x = Str.ofString "_law_told") (hk : slook x kd = some .globalImplicit)
    (hs : ∀ a b, e ≠ .Starred a b) (h : wpAny (model prog w) A (eval e env) (fun u s' => K.In s'.heap ∧ wpAny (model prog w) A (call (.ref 700) [u] []) Q E s') E s) : wpAny (model prog w) A (eval (.Call (.Name x p) [e] [] pos) env) Q E s := by
  refine (?_ : wpAny _ _ (eval (.Name x p) env >>= fun f => callWith pos f [] (backTo pos (starEach [e] env)) []) _ _ _)
  have hd : (x == ("__debug__" : Str)) = false := (not_bad (X.V.nbad x _ hk)).1
  have n1 : s.heap.Ns env.globals mg := by rw [X.V.glob]; exact FX.ns.keeps X.R.inG
  refine wpAny_bind (Name_function_global X.V.fn (X.V.gi x hk) (loadGlobal_global n1 (by rw [hx]; exact FX.told) ?_) hd)
  rw [each_cons hs]
  refine callWith_of (P := fun h => K.In h) rfl (fun h X => keeps_K (K := K) (f := .ref 700) h7 h X) (evalArgs_plain (spliced_cons ?_))
  exact wpAny_mono h (fun u s' q => spliced_nil ⟨q.1, q.2⟩) fun z_ z_ y => y
theorem clo_keeper {b : Expr} {sc : Scope} {u : Value} {cn : List Str} (R : Rep prog w G tabs g P s.heap) (cl : CloR cn cm g b sc u) : ∃ k, (k = Keeper.frame ∨ k = Keeper.machine ∨ k = Keeper.boundFrame) ∧ Looks (model prog w) s.heap (keeperOf u) k := by
  exact cl.casesOn fun a name qual pm c' ctv clos oc vs t e0 ra z_ z_ z_ z_ z_ => e0 ▸ ⟨.frame, .inl rfl, (Looks.ld (part := none) (R.fro _ _ ra)).andThen .now⟩
theorem met_keeper (FX : Facts prog w K G mg mb tabs) {f : Nat} {self : AV} {u : Value} (hf : (finfo f).isSome = true) (R : Rep prog w G tabs g P s.heap) (r : VR prog w g (.met f self) u) : ∃ k, (k = Keeper.frame ∨ k = Keeper.machine ∨ k = Keeper.boundFrame) ∧ Looks (model prog w) s.heap (keeperOf u) k :=
  isk (fun fi hfi => (FX.fn f fi hfi).ex.casesOn fun oc od osl name qual params dV kV doc pm an cdv ct hl z_ z_ z_ => u23 r.inv fun a v e0 e z_ => e0 ▸ ⟨.boundFrame, .inr (.inr rfl), (Looks.ld (part := none) (R.fro _ _ e)).andThen ((Looks.ld (part := none) (FX.at R _ _ hl)).andThen .now)⟩) hf
theorem told_lam_snd {x : Str} {p pos lp : Pos} {b : Expr} {sc : Scope} {f : EvF} (FX : Facts prog w K G mg mb tabs) (TF : TabFacts G mg tabs) (h7 : keepIn K (.ref 700) = true) (TR : ToldRule prog w G tabs) (hx : x = Str.ofString "_law_told") (hk : slook x kd = some .globalImplicit) (hl : fs.lam = true)
    (hf : ∀ A'' env'', Snd prog w G tabs m A'' ⟨fs.cn, false⟩ sc.names cm env'' l f (eval b env'')) :
    Snd prog w G tabs m A fs kd cm env l (fun P k ke => if lamOk sc fs.cn && capOk kd sc then f P (avK fun v P => k (.av (.tup [v, .none])) P) (fun b P => k (.av (.tup [.none, b])) P) else .none) (eval (.Call (.Name x p) [.Lambda noArgs b sc lp] [] pos) env) := by
  intro P k ke res g s Q E X h hQ hE
  refine oi h fun hcc h => (Bool.and_eq_true_iff.mp hcc).elim fun h1 h2 => told_call FX h7 TR X hx hk (fun z_ z_ => nofun) (lam_make FX TF X.R X.V hl h1 h2 fun g₁ s₁ u w₁ cl => ⟨FX.at w₁.1, ?_⟩)
  have X₁ := X.went w₁
  have hm := X.M.room
  exact TR (k := fun v P => k (.av v) P) X₁.R X₁.C (Nat.le_trans (Nat.le_add_right _ _) hm.1) (Nat.le_trans (Nat.le_add_right _ _) hm.2) (fun g₂ s₂ w₂ => clo_keeper w₂.1 (cl.mono w₂.2.le)) (fun A' g₂ s₂ B hC hd hu w₂ hok her => lam_call FX (X₁.went w₂) hl hC hd hu (cl.mono w₂.2.le) hf h hok her) (QOk.went w₁ (QLk.av hQ))
theorem LVR.clo_inv {cn : List Str} {b : Expr} {sc : Scope} {u : Value} (x : LVR prog w cn cm g (.clo b sc) u) : CloR cn cm g b sc u := by cases x with | clo h => exact h
theorem told_val_snd {x : Str} {p pos : Pos} {e : Expr} {f : EvF} {fb : Expr -> Scope -> EvF} (FX : Facts prog w K G mg mb tabs) (h7 : keepIn K (.ref 700) = true) (TR : ToldRule prog w G tabs) (hr : CallOk prog w G tabs r m) (hx : x = Str.ofString "_law_told") (hk : slook x kd = some .globalImplicit) (hl : fs.lam = true)
    (hs : ∀ a b, e ≠ .Starred a b) (he : Snd prog w G tabs m A fs kd cm env l f (eval e env)) (hf : ∀ b sc A'' env'', Snd prog w G tabs m A'' ⟨fs.cn, false⟩ sc.names cm env'' l (fb b sc) (eval b env'')) :
    Snd prog w G tabs m A fs kd cm env l (fun P k ke => f P (fun v P => match v with
              | .clo b sc => fb b sc P (avK fun v P => k (.av (.tup [v, .none])) P) (fun b P => k (.av (.tup [.none, b])) P)
              | .av (.met f self) => if (finfo f).isSome then told (r P (.met f self) []) fun v P => k (.av v) P else .none
              | _ => .none) ke) (eval (.Call (.Name x p) [e] [] pos) env) := by
  intro P k ke res g s Q E X h hQ hE
  refine told_call FX h7 TR X hx hk hs (he X h (fun v P₁ g₁ s₁ u q₁ w₁ r₁ => ⟨FX.at w₁.1, ?_⟩) hE)
  have X₁ := X.went w₁
  have hm := X.M.room
  have hm' := X.M
  have rest : (∀ g' s', Went prog w G tabs g₁ s₁ g' s' P₁ -> ∃ k, (k = Keeper.frame ∨ k = Keeper.machine ∨ k = Keeper.boundFrame) ∧ Looks (model prog w) s'.heap (keeperOf u) k) -> (∀ A' g' s' (B : Result -> Shared -> Prop), CtxOk g' A' -> A'.depth ≤ A.depth + 2 -> A'.units ≤ A.units + 10 -> Went prog w G tabs g₁ s₁ g' s' P₁ ->
      (∀ x P'' g'' s'' t, k (.av (.tup [x, .none])) P'' = some res -> Went prog w G tabs g' s' g'' s'' P'' -> VR prog w g'' x t -> B (.ok (.ret t)) s'') ->
      (∀ b P'' g'' s'' e, k (.av (.tup [.none, b])) P'' = some res -> Went prog w G tabs g' s' g'' s'' P'' -> Exc prog w b .fly e g'' s''.heap -> B (.error (.ref e)) s'') -> codeAny (model prog w) A' (.call u ⟨[], []⟩) B s') -> wpAny (model prog w) A (call (.ref 700) [u] []) Q E s₁ := fun hk hh =>
    TR (k := fun v P => k (.av v) P) X₁.R X₁.C (Nat.le_trans (Nat.le_add_right _ _) hm.1) (Nat.le_trans (Nat.le_add_right _ _) hm.2) hk hh (QOk.went w₁ (QLk.av hQ))
  induction v using DK.LV.casesOn with
  | clo b sc =>
    have cl := r₁.clo_inv
    exact rest (fun g₂ s₂ w₂ => clo_keeper w₂.1 (cl.mono w₂.2.le)) fun A' g₂ s₂ B hC hd hu w₂ hok her => lam_call FX (X₁.went w₂) hl hC hd hu (cl.mono w₂.2.le) (hf _ _) q₁ hok her
  | clos => exact nm q₁
  | keys => exact nm q₁
  | av a =>
    have ra := r₁.va
    induction a using DK.AV.casesOn with
    | met f self =>
      refine oi q₁ fun hfi q₁ => rest (fun g₂ s₂ w₂ => met_keeper FX hfi w₂.1 (ra.mono w₂.2.le)) fun A' g₂ s₂ B hC hd hu w₂ hok her => ?_
      unfold RoomE slk at hm'
      rw [if_pos hl] at hm'
      have hroom : Room m A' := ⟨by omega, by omega⟩
      refine res_by q₁ (fun v P₂ hv q₁ => hr.code rfl w₂.1 hC hroom (ra.mono w₂.2.le) .nil hv (fun x P' g' s' t e1 e2 e3 => hok v P₂ g' s' t q₁ ((Res.ok.inj e1).2.symm ▸ e2) ((Res.ok.inj e1).1.symm ▸ e3)) fun z_ z_ z_ z_ z_ e1 => Res.noConfusion e1)
        fun b P₂ hv q₁ => hr.code rfl w₂.1 hC hroom (ra.mono w₂.2.le) .nil hv (fun z_ z_ z_ z_ z_ e1 => Res.noConfusion e1) fun x P' g' s' e e1 e2 e3 => her _ P₂ g' s' e q₁ ((Res.exc.inj e1).2.symm ▸ e2) ((Res.exc.inj e1).1.symm ▸ e3)
    | _ => exact nm q₁
end
end DK
namespace DK
open PySem PySem.W PySem.Calls PyProof.Rows
section
variable {prog : Program} {w : World} {K : Frag} {G : Heap} {mg mb : Str -> Option Value} {tabs : List (Addr × Addr × Str)} {m : Nat} {A : Around} {fs : Fs} {kd : Kinds} {cm : Str -> Option Addr} {env : Env} {l : Loc} {r : CallR} {tl : List Str -> Kinds -> Loc -> Hp -> Expr -> (LV -> Hp -> Out) -> (AV -> Hp -> Out) -> Out}
theorem snd_none {f : EvF} {t : Sem Value} (h : ∀ P k ke, f P k ke = none) : Snd prog w G tabs m A fs kd cm env l f t := by
  intro P k ke res g s Q E X hf
  rw [h] at hf; cases hf
theorem sliceOf_inv {i : Expr} {a b c : Option Expr} (h : sliceOf i = some (a, b, c)) : ∃ d, i = .Slice a b c d := by
  induction i using PySem.Expr.casesOn with
  | Slice a' b' c' d =>
    have h : some (a', b', c') = some (a, b, c) := h
    cases h; exact ⟨d, rfl⟩
  | _ => exact nm h
theorem sliceOf_none {i : Expr} (h : sliceOf i = none) : ∀ a b c d, i ≠ .Slice a b c d := fun a b c d e => by subst e; exact ns h
theorem lam0_inv {e b : Expr} {sc : Scope} (h : lam0 e = some (b, sc)) : ∃ p, e = .Lambda noArgs b sc p := by
  induction e using PySem.Expr.casesOn with
  | Lambda args b' sc' p => cases args with
    | mk x1 x2 x3 x4 x5 x6 x7 => induction x1 using List.casesOn with
      | cons => exact nm h
      | nil => induction x2 using List.casesOn with
        | cons => exact nm h
        | nil => induction x3 using Option.casesOn with
          | some => exact nm h
          | none => induction x4 using List.casesOn with
            | cons => exact nm h
            | nil => induction x5 using List.casesOn with
              | cons => exact nm h
              | nil => induction x6 using Option.casesOn with
                | some => exact nm h
                | none => induction x7 using List.casesOn with
                  | cons => exact nm h
                  | nil => exact (Prod.mk.inj (si h)).1 ▸ (Prod.mk.inj (si h)).2 ▸ ⟨p, rfl⟩
  | _ => exact nm h
theorem gen1_inv {gs : List Comprehension} {x : Str} {it : Expr} {ifs : List Expr} (h : gen1 gs = some (x, it, ifs)) : ∃ px, gs = [⟨.Name x px, it, ifs, 0⟩] := by
  induction gs using List.casesOn with
  | nil => exact nm h
  | cons gn gs => cases gn with
    | mk tg it' ifs' asy => induction tg using PySem.Expr.casesOn with
      | Name y px => induction gs using List.casesOn with
        | cons => induction asy using Int.casesOn with
          | negSucc k => exact nm h
          | ofNat k => cases k <;> exact nm h
        | nil => induction asy using Int.casesOn with
          | negSucc k => exact nm h
          | ofNat k => cases k with
            | succ k => exact nm h
            | zero => exact ⟨px, (Prod.mk.inj (si h)).1 ▸ (Prod.mk.inj (Prod.mk.inj (si h)).2).1 ▸ (Prod.mk.inj (Prod.mk.inj (si h)).2).2 ▸ rfl⟩
      | _ => exact nm h
theorem callee_attr {f o : Expr} {a : Str} {p : Pos} (h : callee f = .attr o a p) : f = .Attribute o a p := by
  induction f using PySem.Expr.casesOn with
  | Attribute o' a' p' =>
    have h : Callee.attr o' a' p' = .attr o a p := h
    cases h; rfl
  | _ => exact Callee.noConfusion h
theorem callee_nm {f : Expr} {x : Str} (h : callee f = .nm x) : ∃ p, f = .Name x p := by
  induction f using PySem.Expr.casesOn with
  | Name x' p =>
    have h : Callee.nm x' = .nm x := h
    cases h; exact ⟨p, rfl⟩
  | _ => exact Callee.noConfusion h
theorem kind_inv {o : Option NameKind} {F : Out} {res : Res} (h : (match o with | some .globalImplicit => F | _ => .none) = some res) : o = some .globalImplicit ∧ F = some res := by
  induction o using Option.casesOn with
  | none => exact nm h
  | some o => induction o using PySem.NameKind.casesOn with
    | globalImplicit => exact ⟨rfl, h⟩
    | _ => exact nm h
theorem arg_by {args : List Expr} {H : Expr -> Out} {res : Res} {M : Prop} (h : (match args with | [e] => H e | _ => .none) = some res) (k : ∀ e, args = [e] -> H e = some res -> M) : M := by
  induction args using List.casesOn with
  | nil => exact nm h
  | cons e r => induction r using List.casesOn with
    | nil => exact k e rfl h
    | cons => exact nm h
theorem lam_by {o : Option (Expr × Scope)} {F : Expr -> Scope -> Out} {H : Out} {res : Res} {M : Prop} (h : (match o with | some (b, sc) => F b sc | .none => H) = some res) (k : ∀ b sc, o = some (b, sc) -> F b sc = some res -> M) (k' : H = some res -> M) : M := by
  induction o using Option.casesOn with
  | none => exact k' h
  | some p => exact k p.1 p.2 rfl h
theorem ev_set (n : Nat) (a : List Expr) (b : Nat) (c : Pos) (P : Hp) (k : LV -> Hp -> Out) (ke : AV -> Hp -> Out) : evF r tl fs n kd l P (.Set a b c) k ke = none := by cases n <;> rfl
theorem ev_star (n : Nat) (a : Expr) (b : Pos) (P : Hp) (k : LV -> Hp -> Out) (ke : AV -> Hp -> Out) : evF r tl fs n kd l P (.Starred a b) k ke = none := by cases n <;> rfl
theorem evF_snd (FX : Facts prog w K G mg mb tabs) (TF : TabFacts G mg tabs) (h7 : keepIn K (.ref 700) = true) (TR : ToldRule prog w G tabs) (hr : CallOk prog w G tabs r m) (hT : ∀ (A : Around) (cn : List Str) (kd : Kinds) (cm : Str -> Option Addr) (env : Env) (l : Loc) (e : Expr), Snd prog w G tabs m A ⟨cn, false⟩ kd cm env l (fun P k ke => tl cn kd l P e k ke) (eval e env)) : ∀ (n : Nat) (A : Around) (fs : Fs) (kd : Kinds) (cm : Str -> Option Addr) (env : Env) (l : Loc) (e : Expr),
    Snd prog w G tabs m A fs kd cm env l (fun P k ke => evF r tl fs n kd l P e k ke) (eval e env) ∧ SndT prog w G tabs m A fs kd cm env l (fun P k ke => evF r tl fs n kd l P e k ke) (isTrue e env (eval e env)) := by
  intro n
  induction n with
  | zero =>
    intro A fs kd cm env l e
    exact ⟨snd_none fun z_ z_ z_ => rfl, fun {P k ke res g s Q E} X hf => by cases hf⟩
  | succ n ih =>
    intro A fs kd cm env l e
    have iv : ∀ e, Snd prog w G tabs m A fs kd cm env l (fun P k ke => evF r tl fs n kd l P e k ke) (eval e env) := fun e => (ih A fs kd cm env l e).1
    have it : ∀ e, SndT prog w G tabs m A fs kd cm env l (fun P k ke => evF r tl fs n kd l P e k ke) (isTrue e env (eval e env)) := fun e => (ih A fs kd cm env l e).2
    have hst : ∀ a b P k ke, (fun (e : Expr) (P : Hp) (k : LV -> Hp -> Out) (ke : AV -> Hp -> Out) => evF r tl fs n kd l P e k ke) (.Starred a b) P k ke = none := fun a b P k ke => ev_star n a b P k ke
    have hset : ∀ a b c P k ke, (fun (e : Expr) (P : Hp) (k : LV -> Hp -> Out) (ke : AV -> Hp -> Out) => evF r tl fs n kd l P e k ke) (.Set a b c) P k ke = none := fun a b c P k ke => ev_set n a b c P k ke
    have main : Snd prog w G tabs m A fs kd cm env l (fun P k ke => evF r tl fs (n + 1) kd l P e k ke) (eval e env) := by
      induction e using PySem.Expr.casesOn with
      | Constant c a b => exact const_snd
      | Name x p => exact name_snd FX
      | BoolOp op es p =>
        intro P k ke res g s Q E X h hQ hE
        rw [arm_eval_BoolOp]
        exact bool_snd iv es X h (fun v P' g' s' u q1 q2 q3 => hQ _ P' g' s' u q1 q2 (.av q3)) hE
      | BinOp a op b p => exact bin_rule (iv a) (iv b)
      | UnaryOp op x p =>
        cases op with
        | Not => exact not_snd (iv x)
        | USub => exact neg_snd (iv x)
        | Invert => exact snd_none fun z_ z_ z_ => rfl
        | UAdd => exact snd_none fun z_ z_ z_ => rfl
      | IfExp t a b p => exact ifexp_snd (it t) (iv a) (iv b)
      | Compare a ops es p => exact compare_snd FX.sys (iv a) iv hset
      | Attribute o a p => exact attr_snd FX hr (iv o)
      | List es p => exact list_snd iv hst
      | Tuple es c p => exact tuple_snd iv hst
      | Dict ks vs p => exact dict_snd iv
      | Subscript o i p =>
        induction hs : sliceOf i using Option.casesOn with
        | none =>
          intro P k ke res g s Q E X h hQ hE
          refine sub_rule (sliceOf_none hs) (iv o) (iv i) X (?_ : _ = some res) hQ hE
          have h : (match sliceOf i with | .none => _ | some (.none, some _, .none) => _ | some (some _, .none, .none) => _ | _ => _ : Out) = some res := h
          rw [hs] at h
          exact h
        | some z =>
          obtain ⟨a, b, c⟩ := z
          obtain ⟨d, e⟩ := sliceOf_inv hs
          subst e
          induction c using Option.casesOn with
          | some c => cases a <;> cases b <;> exact snd_none fun z_ z_ z_ => rfl
          | none =>
            induction a using Option.casesOn with
            | none =>
              induction b using Option.casesOn with
              | none => exact snd_none fun z_ z_ z_ => rfl
              | some b => exact slice_snd (iv o) (iv b)
            | some a =>
              induction b using Option.casesOn with
              | none => exact sliceFrom_snd (iv o) (iv a)
              | some b => exact snd_none fun z_ z_ z_ => rfl
      | ListComp elt gens sc p =>
        induction hg : gen1 gens using Option.casesOn with
        | none =>
          have z : ∀ P k ke, evF r tl fs (n + 1) kd l P (.ListComp elt gens sc p) k ke = none := fun P k ke => by
            show (match gen1 gens with | .none => none | some (x, it, ifs) => _ : Out) = none
            rw [hg]
          intro P k ke res g s Q E X hf
          exact nm ((z P k ke).symm.trans hf)
        | some z =>
          obtain ⟨x, it', ifs⟩ := z
          obtain ⟨px, e⟩ := gen1_inv hg
          subst e
          exact comp_snd (Fe := fun v P k ke => evF r tl fs n (compK x sc) ((x, v) :: l) P elt k ke) (Fc := fun c v P k ke => evF r tl fs n (compK x sc) ((x, v) :: l) P c k ke) FX.sys
            (fun a b c e P k ke => by subst e; exact ev_set n a b c P k ke) (iv it') (fun C v => (ih _ _ _ _ _ _ _).1) (fun C c v => (ih _ _ _ _ _ _ _).2)
      | Call f args kws p =>
        induction kws using List.casesOn with
        | cons => exact snd_none fun z_ z_ z_ => rfl
        | nil =>
          cases hc : callee f with
          | no =>
            have z : ∀ P k ke, evF r tl fs (n + 1) kd l P (.Call f args [] p) k ke = none := fun P k ke => by
              show (match callee f with | .attr o m p => _ | .nm x => _ | .no => none : Out) = none
              rw [hc]
            intro P k ke res g s Q E X hf
            exact nm ((z P k ke).symm.trans hf)
          | attr o a ap =>
            have e := callee_attr hc
            subst e
            intro P k ke res g s Q E X h hQ hE
            exact meth_snd FX hr (iv o) iv hst X h hQ hE
          | nm x =>
            obtain ⟨np, e⟩ := callee_nm hc
            subst e
            intro P k ke res g s Q E X h hQ hE
            refine oe h (fun hx h => (kind_inv h).elim fun hk h => oi h fun hl h => arg_by h fun e ea h => ?_) fun hx h => call_snd FX hr iv hst X h hQ hE
            subst ea
            refine lam_by h (fun b sc e2 h => ?_) fun h => ?_
            · obtain ⟨lp, e2⟩ := lam0_inv e2
              subst e2
              exact told_lam_snd FX TF h7 TR hx hk hl (fun A'' env'' => hT _ _ _ _ _ _ _) X h hQ hE
            · have hs : ∀ a b, e ≠ Expr.Starred a b := fun a b z => by subst z; exact nn ((ev_star n a b P _ ke).symm.trans h)
              exact told_val_snd (fb := fun b sc P k ke => tl fs.cn sc.names l P b k ke) FX h7 TR hr hx hk hl hs (iv e) (fun b sc A'' env'' => hT _ _ _ _ _ _ _) X h hQ hE
      | _ => exact snd_none fun z_ z_ z_ => rfl
    refine ⟨main, ?_⟩
    induction e using PySem.Expr.casesOn with
    | BoolOp op es p =>
      intro P k ke res g s Q E X h hk hQ hE
      exact wpAny_isTrue_BoolOp (boolT_snd it es X h hk hQ hE)
    | UnaryOp op x p =>
      cases op with
      | Not => exact notT_snd (it x)
      | _ => exact truthy_of main rfl
    | IfExp t a b p => exact ifexpT_snd (it t) (it a) (it b)
    | Compare a ops es p => exact compareT_snd FX.sys (iv a) iv hset
    | _ => exact truthy_of main rfl
theorem ev_snd (FX : Facts prog w K G mg mb tabs) (TF : TabFacts G mg tabs) (h7 : keepIn K (.ref 700) = true) (TR : ToldRule prog w G tabs) (hr : CallOk prog w G tabs r m) (n : Nat) (A : Around) (fs : Fs) (kd : Kinds) (cm : Str -> Option Addr) (env : Env) (l : Loc) (e : Expr) :
    Snd prog w G tabs m A fs kd cm env l (fun P k ke => ev r fs n kd l P e k ke) (eval e env) ∧ SndT prog w G tabs m A fs kd cm env l (fun P k ke => ev r fs n kd l P e k ke) (isTrue e env (eval e env)) :=
  evF_snd FX TF h7 TR hr (fun A cn kd cm env l e => (evF_snd FX TF h7 TR hr (fun z_ z_ z_ z_ z_ z_ z_ => snd_none fun z_ z_ z_ => rfl) 20 A ⟨cn, false⟩ kd cm env l e).1) n A fs kd cm env l e
end
end DK
namespace DK
open PySem PySem.W PySem.Calls PyProof.Rows
noncomputable def SWent (prog : Program) (w : World) (G : Heap) (tabs : List (Addr × Addr × Str)) (b : Nat) (g : Gh) (s : Shared) (g' : Gh) (s' : Shared) (P' : Hp) : Prop := Rep prog w G tabs g' P' s'.heap ∧ Ext b g s g' s'
section
variable {prog : Program} {w : World} {K : Frag} {G : Heap} {mg mb : Str -> Option Value} {tabs : List (Addr × Addr × Str)} {m : Nat} {A : Around} {fs : Fs} {kd : Kinds} {cm : Str -> Option Addr} {env : Env} {l l' : Loc} {g g' g'' : Gh} {P P' P'' : Hp} {s s' s'' : Shared}
  {E : Value -> Shared -> Prop} {res : Res} {r : CallR} {b : Nat}
theorem SWent.trans (x : SWent prog w G tabs b g s g' s' P') (y : SWent prog w G tabs b g' s' g'' s'' P'') : SWent prog w G tabs b g s g'' s'' P'' := ⟨y.1, x.2.trans y.2⟩
theorem Went.sw (x : Went prog w G tabs g s g' s' P') (h : b ≤ s.heap.objs.size) : SWent prog w G tabs b g s g' s' P' := ⟨x.1, x.2.down h⟩
theorem Cfg.sw (X : Cfg prog w G tabs m A fs kd cm env l g P s) (x : SWent prog w G tabs b g s g' s' P') (F : Frm prog w fs kd cm env l' g' s'.heap) : Cfg prog w G tabs m A fs kd cm env l' g' P' s' := ⟨x.1, X.C.le x.2.le, X.M, X.V, F⟩
theorem Cfg.lt (X : Cfg prog w G tabs m A fs kd cm env l g P s) (h : b ≤ env.locals) : b ≤ s.heap.objs.size := Nat.le_trans h (Nat.le_of_lt (X.R.low _ (rn X.F.frm)))
theorem unpack_snd (R : Rep prog w G tabs g P s.heap) (hA : A.handled = none) {vs : List AV} {u : Value} {n : Nat} {Q : List Value -> Shared -> Prop} (r : VR prog w g (.tup vs) u) (hn : n = vs.length)
    (h : ∀ s' us, Went prog w G tabs g s g s' P -> VRs prog w g vs us -> Q us s') : wpAny (model prog w) A (unpackItems u n none) Q E s := by
  refine u33 r.inv fun a us k e0 f q => ?_
  have ht : s.heap.IsTuple a us := ⟨_, R.fro _ _ f, rfl, _, rfl⟩
  have hlt : a ≠ s.heap.objs.size := Nat.ne_of_lt (Heap.lt_size (R.fro _ _ f))
  have en : n = us.size := hn.trans (size_of q).symm
  subst e0; subst en
  unfold unpackItems notIterableAtAll
  refine wpAny_bind (wpAny_bind (wpAny_specialOf ht.typeIs PySem.F.slot_tuple_iter.lookup (wpAny_pure ?_)))
  rw [if_neg Bool.false_ne_true]
  refine wpAny_bind (wpAny_holding (wpAny_pyIter_tuple ht ?_))
  refine wpAny_bind (wpAny_holding (wpAny_draw_tuple hlt us.size 0 _ _ ⟨_, Heap.get?_push_size _ rfl, rfl, rfl⟩ (ht.push _) (Nat.le_of_eq (Nat.zero_add _)) fun h₁ hit₁ hs₁ => ?_))
  rw [show List.take us.size (List.drop 0 us.toList) = us.toList from List.take_of_length_le (Nat.le_refl _), if_neg (by simp)]
  have ht₁ : h₁.IsTuple a us := (ht.push _).extBut hs₁.extBut hlt
  refine wpAny_bind (wpAny_holding (tupleEnd hA hit₁ ht₁ (by simp) fun h₂ he₂ => ?_))
  rw [show (none : Option Value).isSome = false from rfl, if_neg Bool.false_ne_true]
  refine wpAny_pure (h { s with heap := h₂ } us.toList ?_ q)
  have kp : ∀ a o, s.heap.get? a = some o -> h₂.get? a = some o := fun a o e => he₂.1 a o (Nat.ne_of_lt (Heap.lt_size e)) ((hs₁.2 a (Nat.ne_of_lt (Heap.lt_size e))).trans (Heap.get?_push_of_some _ e))
  have hz : s.heap.objs.size ≤ h₂.objs.size := Nat.le_trans (Nat.le_trans (Nat.le_of_lt (size_psh1 _ _)) (Nat.le_of_eq hs₁.1.symm)) he₂.2
  exact ⟨R.keeps hz kp, .of_keeps (tk := s.toks) (.refl g) hz fun a o z_ => kp a o⟩
noncomputable def StE (prog : Program) (w : World) (G : Heap) (tabs : List (Addr × Addr × Str)) (L : Addr) (b : Nat) (g : Gh) (s : Shared) (res : Res) (E : Value -> Shared -> Prop) : Prop :=
  ∀ bv P' g' s' e st, res = .exc bv P' -> SWent prog w G tabs b g s g' s' P' -> Exc prog w bv st e g' s'.heap -> (st = .fresh ∨ st = .fly ∨ st = .held L) -> E (.ref e) s'
theorem StE.sw {L : Addr} (h : StE prog w G tabs L b g s res E) (x : SWent prog w G tabs b g s g' s' P') : StE prog w G tabs L b g' s' res E := fun bv P'' g'' s'' e st h1 h2 h3 h4 => h bv P'' g'' s'' e st h1 (x.trans h2) h3 h4
noncomputable def EvAll (prog : Program) (w : World) (G : Heap) (tabs : List (Addr × Addr × Str)) (r : CallR) (m : Nat) : Prop := ∀ (n : Nat) (A : Around) (fs : Fs) (kd : Kinds) (cm : Str -> Option Addr) (env : Env) (l : Loc) (e : Expr),
    Snd prog w G tabs m A fs kd cm env l (fun P k ke => ev r fs n kd l P e k ke) (eval e env) ∧ SndT prog w G tabs m A fs kd cm env l (fun P k ke => ev r fs n kd l P e k ke) (isTrue e env (eval e env))
theorem evA_snd (EV : EvAll prog w G tabs r m) (X : Cfg prog w G tabs m A fs kd cm env l g P s) {L : Addr} (hb : b ≤ env.locals) {e : Expr} {k : AV -> Hp -> Out} {Q : Value -> Shared -> Prop} (h : evA r fs kd l P e k = some res)
    (hQ : ∀ v P' g' s' u, k v P' = some res -> Went prog w G tabs g s g' s' P' -> VR prog w g' v u -> Q u s') (hE : StE prog w G tabs L b g s res E) : wpAny (model prog w) A (eval e env) Q E s :=
  Snd.av (EV 40 A fs kd cm env l e).1 X h hQ (fun bv P' g' s' e q1 q2 q3 => hE bv P' g' s' e .fly (si q1).symm (q2.sw (X.lt hb)) q3 (.inr (.inl rfl)))
theorem evT_snd (EV : EvAll prog w G tabs r m) (X : Cfg prog w G tabs m A fs kd cm env l g P s) {L : Addr} (hb : b ≤ env.locals) {e : Expr} {k : AV -> Hp -> Out} {Q : Bool -> Shared -> Prop} (h : evA r fs kd l P e k = some res) (hk : ∀ x P', k x P' = some res -> ∃ b, truth x = some b)
    (hQ : ∀ x t P' g' s', k x P' = some res -> truth x = some t -> Went prog w G tabs g s g' s' P' -> Q t s') (hE : StE prog w G tabs L b g s res E) : wpAny (model prog w) A (isTrue e env (eval e env)) Q E s :=
  (EV 40 A fs kd cm env l e).2 X h hk hQ (fun bv P' g' s' e q1 q2 q3 => hE bv P' g' s' e .fly (si q1).symm (q2.sw (X.lt hb)) q3 (.inr (.inl rfl)))
theorem lc_by {o : Option NameKind} {F H : Out} {M : Prop} (h : (match o with | some .local => F | some .cell => H | _ => .none) = some res) (k : o = some .local -> F = some res -> M) (k' : o = some .cell -> H = some res -> M) : M := by
  induction o using Option.casesOn with
  | none => exact nm h
  | some o => induction o using PySem.NameKind.casesOn with
    | «local» => exact k rfl h
    | cell => exact k' rfl h
    | _ => exact nm h
theorem ins_by {o : Option AO} {F : Nat -> List (Str × AV) -> Out} {M : Prop} (h : (match o with | some (.inst C fs) => F C fs | _ => .none) = some res) (k : ∀ C fs, o = some (.inst C fs) -> F C fs = some res -> M) : M := by
  induction o using Option.casesOn with
  | none => exact nm h
  | some o => induction o using DK.AO.casesOn with
    | inst C fs => exact k C fs rfl h
    | _ => exact nm h
theorem esd_by {o : Option (List (AV × AV))} {F : List (AV × AV) -> Out} {M : Prop} (h : (match o with | some x => F x | .none => .none) = some res) (k : ∀ x, o = some x -> F x = some res -> M) : M := by
  induction o using Option.casesOn with
  | none => exact nm h
  | some x => exact k x rfl h
theorem store1_snd (FX : Facts prog w K G mg mb tabs) (EV : EvAll prog w G tabs r m) (X : Cfg prog w G tabs m A fs kd cm env l g P s) {L : Addr} (hb : b ≤ env.locals) {t : Expr} {v : AV} {u : Value} {k : Loc -> Hp -> Out} {Q : Unit -> Shared -> Prop} (rv : VR prog w g v u)
    (h : store1 r fs kd l P t v k = some res) (hQ : ∀ l' P' g' s', k l' P' = some res -> SWent prog w G tabs b g s g' s' P' -> Frm prog w fs kd cm env l' g' s'.heap -> Q () s') (hE : StE prog w G tabs L b g s res E) : wpAny (model prog w) A (assign t env u) Q E s := by
  induction t using PySem.Expr.casesOn with
  | Name x p =>
    have fin : ∀ {kk : NameKind}, slook x kd = some kk -> (kk = .local ∨ (kk = .cell ∧ ∃ a, LV.av v = .av a)) -> k (sput x (.av v) l) P = some res -> wpAny (model prog w) A (assign (.Name x p) env u) Q E s := fun hk hk' h =>
      wpAny_assign_Name (storeName_snd X.V X.F X.R hk hk' (.av rv) fun s' R' E' F' => hQ _ _ g s' h ⟨R', E'.down hb⟩ F')
    exact lc_by h (fun hk h => fin hk (.inl rfl) h) fun hk h => fin hk (.inr ⟨rfl, _, rfl⟩) h
  | Attribute o a p =>
    rw [assign_Attribute]
    refine wpAny_bind (wpAny_holding (evA_snd EV X hb h (fun ov P₁ g₁ s₁ ou q₁ w₁ r₁ => wpAny_bind (wpAny_standAt ?_)) hE))
    induction ov using DK.AV.casesOn with
    | ref j =>
      refine ins_by q₁ fun C fs' hP q₁ => oi q₁ fun hc q₁ => (Bool.and_eq_true_iff.mp hc).elim fun h1 h2 => wpAny_bind (wpAny_holding (setF_snd FX w₁.1 hP r₁ h1 (of_decide_eq_true h2) (rv.mono w₁.2.le) fun h' tk st => wpAny_release ?_))
      have w₂ := w₁.trans (.of_step st)
      exact hQ _ _ g₁ _ q₁ (w₂.sw (X.lt hb)) (X.F.ext X.R w₂.2)
    | _ => exact nm q₁
  | Subscript o i p =>
    rw [assign_Subscript]
    refine wpAny_bind (wpAny_holding (evA_snd EV X hb h (fun ov P₁ g₁ s₁ ou q₁ w₁ r₁ => wpAny_bind (wpAny_holding ?_)) hE))
    refine evA_snd EV (X.went w₁) hb q₁ (fun iv P₂ g₂ s₂ iu q₂ w₂ r₂ => wpAny_bind (wpAny_standAt (wpAny_bind (wpAny_holding ?_)))) (hE.sw (w₁.sw (X.lt hb)))
    induction ov using DK.AV.casesOn with
    | ref j =>
      refine dct_by q₂ fun es hP q₂ => oi q₂ fun z_ q₂ => esd_by q₂ fun es' hd q₂ => ?_
      have w₁₂ := w₁.trans w₂
      refine (dict_at w₂.1 hP (r₁.mono w₂.2.le)).casesOn fun d des ep e0 hσ ho e ao => ?_
      subst e0
      refine setItem_dct e (dput_snd w₂.1 hP hσ ho ao r₂ (rv.mono w₁₂.2.le) hd) (Nat.le_sub_of_add_le (Nat.le_of_lt (Nat.lt_of_le_of_lt (Nat.add_le_add_left (by decide : 2 ≤ 10) _) X.M.units))) fun h' tk S => wpAny_release ?_
      have w₃ : Went prog w G tabs g s g₂ { s₂ with heap := h', toks := tk } (P₂.set j (.dict es')) := w₁₂.trans ⟨S.1, S.2 _ tk⟩
      exact hQ _ _ g₂ _ q₂ (w₃.sw (X.lt hb)) (X.F.ext X.R w₃.2)
    | _ => exact nm q₂
  | _ => exact nm h
end
end DK
namespace DK
open PySem PySem.W PySem.Calls PyProof.Rows
noncomputable def puts : List (Str × AV) -> Loc -> Loc
  | [], l => l
  | (x, v) :: r, l => puts r (sput x (.av v) l)
theorem slook_puts {x : Str} {ps : List (Str × AV)} : ∀ {l : Loc}, (ps.map (·.1)).Nodup -> slook x (puts ps l) = match slook x ps with | some a => some (.av a) | none => slook x l := by
  induction ps with
  | nil => exact fun z_ => rfl
  | cons p r ih =>
    intro l nd
    have nd := List.nodup_cons.mp nd
    refine (ih nd.2).trans ?_
    rw [slook_sput]
    by_cases e : x = p.1
    · have h1 : slook x r = none := by
        induction q : slook x r using Option.casesOn with
        | none => rfl
        | some a => exact absurd (List.mem_map.mpr ⟨(x, a), mem_slook q, e⟩) nd.1
      rw [h1, show slook x (p :: r) = some p.2 from slook_self e]
      exact if_pos e
    · rw [show slook x (p :: r) = slook x r from slook_ne e]
      induction slook x r using Option.casesOn with
      | none => exact if_neg e
      | some a => rfl
theorem slook_rev {α : Type} {x : Str} {ps : List (Str × α)} (nd : (ps.map (·.1)).Nodup) : slook x ps.reverse = slook x ps := by
  have nd' : (ps.reverse.map (·.1)).Nodup := by rw [List.map_reverse]; exact List.pairwise_reverse.mpr (nd.imp Ne.symm)
  induction q : slook x ps using Option.casesOn with
  | some a => exact slook_of_mem nd' (List.mem_reverse.mpr (mem_slook q))
  | none =>
    induction q' : slook x ps.reverse using Option.casesOn with
    | none => rfl
    | some a => rw [slook_of_mem nd (List.mem_reverse.mp (mem_slook q'))] at q; cases q
inductive NamesR (env : Env) : List Expr -> List Str -> Prop
  | nil : NamesR env [] []
  | cons {x : Str} {p : Pos} {ts : List Expr} {ns : List Str} : env.kindOf x = some .local -> NamesR env ts ns -> NamesR env (.Name x p :: ts) (x :: ns)
section
variable {prog : Program} {w : World} {K : Frag} {G : Heap} {mg mb : Str -> Option Value} {tabs : List (Addr × Addr × Str)} {m : Nat} {A : Around} {fs : Fs} {kd : Kinds} {cm : Str -> Option Addr} {env : Env} {l l' : Loc} {g g' g'' : Gh} {P P' P'' : Hp} {s s' s'' : Shared}
  {E : Value -> Shared -> Prop} {res : Res} {r : CallR} {b : Nat}
theorem Frm.congr {h : Heap} (F : Frm prog w fs kd cm env l g h) (e : ∀ x, slook x l' = slook x l) : Frm prog w fs kd cm env l' g h :=
  ⟨F.frm, F.cells, let ⟨m, n, q⟩ := F.loc; ⟨m, n, fun x v h1 h2 => q x v h1 ((e x).symm.trans h2)⟩, fun x v c h1 h2 => F.cel x v c ((e x).symm.trans h1) h2⟩
theorem storeLocal {Q : Unit -> Shared -> Prop} {x : Str} {v : LV} {u : Value} (V : EnvOk tabs fs kd cm env) (F : Frm prog w fs kd cm env l g s.heap) (R : Rep prog w G tabs g P s.heap) (hk : env.kindOf x = some .local) (hc : cm x = none) (r : LVR prog w fs.cn cm g v u)
    (h : ∀ h' tk, Heap.SameBut env.locals s.heap h' -> Rep prog w G tabs g P h' -> Ext env.locals g s g { s with heap := h', toks := tk } -> Frm prog w fs kd cm env (sput x v l) g h' -> Q () { s with heap := h', toks := tk }) : wpAny (model prog w) A (storeName env x u) Q E s := by
  exact u12 F.loc fun m n q => wpAny_storeName_local hk n (fun h' n' hs => h h' (s.toks + 1) hs (R.ns F.frm n' hs) (Ext.frame (.inl F.frm) (Nat.le_refl _) hs)
    ⟨F.frm, F.cells, ⟨_, n', fun y v' e1 e2 => sput_by e2 (fun hy hv => ⟨u, if_pos hy, hv ▸ r⟩) fun hy e2 => (q y v' e1 e2).imp fun z_ z => z.imp_left (if_neg hy).trans⟩,
      fun y v' c e1 e2 => sput_by e1 (fun hy z_ => nm (hc.symm.trans (hy ▸ e2))) fun hy e1 => (F.cel y v' c e1 e2).imp fun z_ z => z.imp fun z_ z => z.imp_left fun c1 => c1.sameBut hs fun z => rx (F.frm.symm.trans (z ▸ F.cells y c e2))⟩) (by rw [V.fn]; rfl)
theorem local_of (V : EnvOk tabs fs kd cm env) {x : Str} (hk : env.kindOf x = some .local) {kk : NameKind} (h : slook x kd = some kk) (h' : kk = .local ∨ kk = .cell) : slook x kd = some .local := by
  exact h'.elim (fun e => e ▸ h) fun e => NameKind.noConfusion (si (hk.symm.trans (V.cel x (e ▸ h)).1))
theorem bindAll (V : EnvOk tabs fs kd cm env) (ps : List (Str × AV)) : ∀ {us : List Value} {l : Loc} {s : Shared} {Q : Unit -> Shared -> Prop}, (∀ p ∈ ps, slook p.1 kd = some .local) -> Frm prog w fs kd cm env l g s.heap -> Rep prog w G tabs g P s.heap -> VRs prog w g (ps.map (·.2)) us ->
    (∀ s', SWent prog w G tabs env.locals g s g s' P -> Frm prog w fs kd cm env (puts ps l) g s'.heap -> Q () s') -> wpAny (model prog w) A (assignInOrder ((ps.map (·.1)).map fun n => bindName env n) us) Q E s := by
  induction ps with
  | nil =>
    intro us l s Q _ F R rv h
    exact rv.ex0 ▸ wpAny_pure (h s ⟨R, Ext.toks (tk := s.toks)⟩ F)
  | cons p ps ih =>
    intro us l s Q hk F R rv h
    refine u23 rv.ex fun u us' e rv1 rr => ?_
    subst e
    refine (?_ : wpAny _ _ (holding us' (bindName env p.1 u) >>= fun z_ => assignInOrder _ us') _ _ _)
    exact (V.loc p.1 (hk _ (.head _))).elim fun k1 k2 => wpAny_bind (wpAny_holding (wpAny_bindName (storeLocal V F R k1 k2 (.av rv1) fun h' tk sb R' E' F' => ih (fun p hp => hk p (.tail _ hp)) F' R' rr fun s' w' F'' => h s' (SWent.trans ⟨R', E'⟩ w') F'')))
theorem names_of_store {env : Env} (V : EnvOk tabs fs kd cm env) {ts : List Expr} {ns : List Str} (nr : NamesR env ts ns) : ∀ {vs : List AV} {l : Loc} {k : Loc -> Hp -> Out}, stores r fs kd ts vs l P k = some res ->
    (∀ x ∈ ns, slook x kd = some .local) ∧ vs.length = ns.length ∧ k (puts (ns.zip vs) l) P = some res := by
  induction nr with
  | nil =>
    intro vs l k h
    induction vs using List.casesOn with
    | nil => exact ⟨fun z_ hx => absurd hx List.not_mem_nil, rfl, h⟩
    | cons => exact nm h
  | @cons x p ts ns hk nr ih =>
    intro vs l k h
    induction vs using List.casesOn with
    | nil => exact nm h
    | cons v vs =>
      have fin : slook x kd = some .local -> stores r fs kd ts vs (sput x (.av v) l) P k = some res -> (∀ y ∈ x :: ns, slook y kd = some .local) ∧ (v :: vs).length = (x :: ns).length ∧ k (puts ((x :: ns).zip (v :: vs)) l) P = some res := fun hl h =>
        (ih h).imp (fun q1 y hy => (List.mem_cons.mp hy).elim (fun e => e ▸ hl) (q1 y)) fun z => z.imp_left (congrArg Nat.succ)
      exact lc_by h fin fun hc h => fin (local_of V hk hc (.inr rfl)) h
noncomputable def nameAt (env : Env) (line : Nat) : Expr -> Option Str := fun
    | .Name id pos => if env.kindOf id == some .local && pos.line == line then some id else none
    | _ => none
theorem names_of_filter {line : Nat} {ts : List Expr} (h : (ts.filterMap (nameAt env line)).length = ts.length) : NamesR env ts (ts.filterMap (nameAt env line)) ∧ ts.filterMap (nameAt env line) = ts.filterMap nameOf := by
  induction ts with
  | nil => exact ⟨.nil, rfl⟩
  | cons t ts ih =>
    have hle : (ts.filterMap (nameAt env line)).length ≤ ts.length := List.length_filterMap_le _ _
    have nope (e : nameAt env line t = none) : False := Nat.not_succ_le_self ts.length (by rw [List.filterMap_cons, e] at h; exact Nat.le_trans (Nat.le_of_eq h.symm) hle)
    induction t using PySem.Expr.casesOn with
    | Name id pos =>
      have yes (c : (env.kindOf id == some .local && pos.line == line) = true) : nameAt env line (.Name id pos) = some id := if_pos c
      refine (Classical.em ((env.kindOf id == some .local && pos.line == line) = true)).elim (fun c => ?_) fun c => (nope (if_neg c)).elim
      rw [List.filterMap_cons, yes c] at h ⊢
      exact (ih (Nat.succ.inj h)).imp (.cons (eq_of_beq (Bool.and_eq_true_iff.mp c).1)) (congrArg (List.cons id))
    | _ => exact (nope rfl).elim
theorem swap_inv {t e : Expr} {z : List Expr × List Expr} (h : (match [t], e with
    | [.Tuple ts _ _], .Tuple vs _ _ | [.List ts _], .Tuple vs _ _ => some (ts, vs)
    | _, _ => none) = some z) : (∃ k p k' p', t = .Tuple z.1 k p ∧ e = .Tuple z.2 k' p') ∨ ∃ p, t = .List z.1 p := by
  induction t using PySem.Expr.casesOn with
  | Tuple ts k p => induction e using PySem.Expr.casesOn with
    | Tuple vs k' p' => exact si h ▸ .inl ⟨k, p, k', p', rfl, rfl⟩
    | _ => exact nm h
  | List ts p => induction e using PySem.Expr.casesOn with
    | Tuple vs k' p' => exact si h ▸ .inr ⟨p, rfl⟩
    | _ => exact nm h
  | _ => exact nm h
theorem swapOk_tup {ts vs : List Expr} {k k' : Nat} {p p' : Pos} (h : swapOk (.Tuple ts k p) (.Tuple vs k' p') = true) : vs.all (constantsAlone 8) = false ∧ (ts.filterMap nameOf).Nodup :=
  (Bool.and_eq_true_iff.mp h).imp (Bool.not_eq_true' _).mp of_decide_eq_true
theorem swapOk_list {ts : List Expr} {e : Expr} {p : Pos} (h : swapOk (.List ts p) e = true) : False := by
  cases e <;> exact nt h
set_option tactic.hygienic true in
theorem swapped_cases {t e : Expr} (hok : swapOk t e = true) : swappedStores [t] e env = pure none ∨ ∃ ts k p ns, t = .Tuple ts k p ∧ swappedStores [t] e env = pure (some ns) ∧ NamesR env ts ns ∧ ns.Nodup ∧ ns.length = ts.length := by
  unfold swappedStores
  split
  · rename_i ts vs heq
    refine (swap_inv heq).elim (fun z => u42 z fun k p k' p' e1 e2 => ?_) fun z => z.elim fun p e1 => (swapOk_list (e1 ▸ hok)).elim
    have hok := swapOk_tup (e1 ▸ e2 ▸ hok)
    split
    · exact .inl rfl
    · split
      · exact .inl rfl
      · dsimp only
        split
        · exact .inl rfl
        · rename_i hlen
          have hlen := (not_or.mp fun z => hlen (Bool.or_eq_true_iff.mpr z)).1
          split
          · exact .inl rfl
          · rw [if_neg (by rw [hok.1]; decide)]
            exact (names_of_filter (bne_eq_false_iff_eq.mp (Bool.not_eq_true _ |>.mp hlen))).elim fun n1 n2 => .inr ⟨_, _, _, _, e1, rfl, n1, Eq.mpr (congrArg List.Nodup n2) hok.2, bne_eq_false_iff_eq.mp (Bool.not_eq_true _ |>.mp hlen)⟩
  · exact .inl rfl
end
end DK
namespace DK
open PySem PySem.W PySem.Calls PyProof.Rows
section
variable {prog : Program} {w : World} {K : Frag} {G : Heap} {mg mb : Str -> Option Value} {tabs : List (Addr × Addr × Str)} {m : Nat} {A : Around} {fs : Fs} {kd : Kinds} {cm : Str -> Option Addr} {env : Env} {l l' : Loc} {g g' g'' : Gh} {P P' P'' : Hp} {s s' s'' : Shared}
  {E : Value -> Shared -> Prop} {res : Res} {r : CallR} {b : Nat}
theorem VRs.rev {a : List AV} {b : List Value} (r : VRs prog w g a b) : VRs prog w g a.reverse b.reverse :=
  VRs.ind (M := fun a b => VRs prog w g a.reverse b.reverse) .nil (fun x z_ m => by rw [List.reverse_cons, List.reverse_cons]; exact m.append (.cons x .nil)) r
theorem assignEach_cons {t : Expr} {ts : List Expr} (h : noStar (t :: ts) = true) : assignEach (t :: ts) env = (false, assign t env) :: assignEach ts env ∧ noStar ts = true := by
  induction t using PySem.Expr.casesOn with
  | Starred => exact nt h
  | _ => exact ⟨rfl, h⟩
theorem assignEach_len {ts : List Expr} (h : noStar ts = true) : (assignEach ts env).length = ts.length ∧ (assignEach ts env).findIdx? (·.1) = none := by
  induction ts with
  | nil => exact ⟨rfl, rfl⟩
  | cons t ts ih =>
    refine (assignEach_cons (env := env) h).elim fun e h' => (ih h').elim fun i1 i2 => ?_
    rw [e]
    exact ⟨congrArg Nat.succ i1, by rw [List.findIdx?_cons, i2]; rfl⟩
noncomputable abbrev QFk (prog : Program) (w : World) (G : Heap) (tabs : List (Addr × Addr × Str)) (fs : Fs) (kd : Kinds) (cm : Str -> Option Addr) (env : Env) (b : Nat) (g : Gh) (s : Shared) (k : Loc -> Hp -> Out) (res : Res) (Q : Shared -> Prop) : Prop :=
  ∀ l' P' g' s', k l' P' = some res -> SWent prog w G tabs b g s g' s' P' -> Frm prog w fs kd cm env l' g' s'.heap -> Q s'
theorem QFk.went {k : Loc -> Hp -> Out} {Q : Shared -> Prop} (x : SWent prog w G tabs b g s g' s' P') (h : QFk prog w G tabs fs kd cm env b g s k res Q) : QFk prog w G tabs fs kd cm env b g' s' k res Q := fun l' P' g' s' q w' F' => h l' P' g' s' q (x.trans w') F'
theorem stores_snd (FX : Facts prog w K G mg mb tabs) (EV : EvAll prog w G tabs r m) {L : Addr} (hb : b ≤ env.locals) (ts : List Expr) : ∀ {vs : List AV} {us : List Value} {l : Loc} {g : Gh} {P : Hp} {s : Shared} {k : Loc -> Hp -> Out} {Q : Unit -> Shared -> Prop}, noStar ts = true -> Cfg prog w G tabs m A fs kd cm env l g P s -> VRs prog w g vs us ->
    stores r fs kd ts vs l P k = some res -> QFk prog w G tabs fs kd cm env b g s k res (Q ()) -> StE prog w G tabs L b g s res E -> wpAny (model prog w) A (assignInOrder ((assignEach ts env).map (·.2)) us) Q E s := by
  induction ts with
  | nil =>
    intro vs us l g P s k Q _ X rv h hQ hE
    induction vs using List.casesOn with
    | nil => exact rv.ex0 ▸ wpAny_pure (hQ l P g s h ⟨X.R, Ext.toks (tk := s.toks)⟩ X.F)
    | cons => exact nm h
  | cons t ts ih =>
    intro vs us l g P s k Q hn X rv h hQ hE
    induction vs using List.casesOn with
    | nil => exact nm h
    | cons v vs =>
      refine u23 rv.ex fun u us' e0 rv1 rr => (assignEach_cons (env := env) hn).elim fun e hn' => ?_
      subst e0
      rw [e]
      refine (?_ : wpAny _ _ (holding us' (assign t env u) >>= fun z_ => assignInOrder _ us') _ _ _)
      exact wpAny_bind (wpAny_holding (store1_snd FX EV X hb rv1 h (fun l₁ P₁ g₁ s₁ q₁ w₁ F₁ => ih hn' (X.sw w₁ F₁) (rr.mono w₁.2.le) q₁ (QFk.went w₁ hQ) (hE.sw w₁)) hE))
theorem tupOf_inv {t : Expr} {ts : List Expr} (h : tupOf t = some ts) : ∃ c p, t = .Tuple ts c p := by
  induction t using PySem.Expr.casesOn with
  | Tuple ts' c p => exact ⟨c, p, congrArg (Expr.Tuple · c p) (si h)⟩
  | _ => exact nm h
theorem tup_by {v : AV} {F : List AV -> Out} {M : Prop} (h : (match v with | .tup vs => F vs | _ => .none) = some res) (k : ∀ vs, v = .tup vs -> F vs = some res -> M) : M := by
  induction v using DK.AV.casesOn with
  | tup vs => exact k vs rfl h
  | _ => exact nm h
theorem storeT_by {t : Expr} {v : AV} {k : Loc -> Hp -> Out} {M : Prop} (h : storeT r fs kd t v l P k = some res) (ht : ∀ ts c p vs, t = .Tuple ts c p -> v = .tup vs -> noStar ts = true -> ts.length = vs.length -> stores r fs kd ts vs l P k = some res -> M) (h1 : tupOf t = none -> store1 r fs kd l P t v k = some res -> M) : M := by
  unfold storeT at h
  induction e : tupOf t using Option.casesOn with
  | none => rw [e] at h; exact h1 e h
  | some ts =>
    rw [e] at h
    exact u21 (tupOf_inv e) fun c p et => tup_by h fun vs ev h => oi h fun hc h => (Bool.and_eq_true_iff.mp hc).elim fun hc h3 => ht ts c p vs et ev (Bool.and_eq_true_iff.mp hc).2 (of_decide_eq_true h3) h
theorem assignT_snd (FX : Facts prog w K G mg mb tabs) (EV : EvAll prog w G tabs r m) {L : Addr} (hb : b ≤ env.locals) {t : Expr} {v : AV} {u : Value} {k : Loc -> Hp -> Out} {Q : Unit -> Shared -> Prop} (X : Cfg prog w G tabs m A fs kd cm env l g P s) (rv : VR prog w g v u)
    (h : storeT r fs kd t v l P k = some res) (hQ : QFk prog w G tabs fs kd cm env b g s k res (Q ())) (hE : StE prog w G tabs L b g s res E) : wpAny (model prog w) A (assign t env u) Q E s := by
  refine storeT_by h (fun ts c p vs e1 e2 hn hl q => ?_) fun z_ h => store1_snd FX EV X hb rv h hQ hE
  subst e1; subst e2
  rw [arm_assign_Tuple]
  refine (assignEach_len (env := env) hn).elim fun e1 e2 => ?_
  unfold unpack
  rw [e1, e2]
  refine wpAny_bind (wpAny_standAt (wpAny_bind (wpAny_holding (unpack_snd X.R X.C.1 rv hl fun s₁ us w₁ rr => ?_))))
  have ws := w₁.sw (X.lt hb)
  exact stores_snd FX EV hb ts hn (X.went w₁) rr q (QFk.went ws hQ) (hE.sw ws)
theorem assignStores_snd (FX : Facts prog w K G mg mb tabs) (EV : EvAll prog w G tabs r m) {L : Addr} (hb : b ≤ env.locals) {t e : Expr} {v : AV} {u : Value} {k : Loc -> Hp -> Out} {Q : Flow -> Shared -> Prop} (X : Cfg prog w G tabs m A fs kd cm env l g P s) (rv : VR prog w g v u) (hok : swapOk t e = true)
    (h : storeT r fs kd t v l P k = some res) (hQ : QFk prog w G tabs fs kd cm env b g s k res (Q .next)) (hE : StE prog w G tabs L b g s res E) :
    wpAny (model prog w) A (swappedStores [t] e env >>= fun o => assignStores env u o ((assignEach [t] env).map (·.2))) Q E s := by
  have ht : assignEach [t] env = [(false, assign t env)] := by
    induction t using PySem.Expr.casesOn with
    | Starred => exact storeT_by h (fun z_ z_ z_ z_ z => Expr.noConfusion z) fun z_ z => nm z
    | _ => rfl
  rw [ht]
  refine (swapped_cases (env := env) hok).elim (fun hs => ?_) fun z => u45 z fun ts c p ns e0 hs nr nd hl => ?_
  · rw [hs]
    refine wpAny_bind (wpAny_pure ?_)
    refine (?_ : wpAny _ _ (assign t env u >>= fun z_ => pure Flow.next) _ _ _)
    exact wpAny_bind (assignT_snd FX EV hb X rv h (fun l' P' g' s' q w' F' => wpAny_pure (hQ l' P' g' s' q w' F')) hE)
  · rw [hs]
    refine wpAny_bind (wpAny_pure ?_)
    refine storeT_by h (fun ts' c' p' vs z ev hn hl' q0 => ?_) fun z z_ => (DK.ns ((e0 ▸ z : tupOf (.Tuple ts c p) = none))).elim
    have z := (Expr.Tuple.inj (e0.symm.trans z)).1
    subst z; subst ev
    refine (names_of_store X.V nr q0).elim fun q1 q => q.elim fun q2 q3 => ?_
    refine (?_ : wpAny _ _ (rule "assign.swapped-stores" >>= fun z_ => unpackItems u ns.length none >>= fun items => assignInOrder (ns.reverse.map fun n => bindName env n) items.reverse >>= fun z_ => pure Flow.next) _ _ _)
    refine wpAny_bind (wpAny_rule (wpAny_bind (unpack_snd X.R X.C.1 rv q2.symm fun s₁ us w₁ rr => ?_)))
    have X₁ := X.went w₁
    have h1 : ((ns.zip vs).map (·.1)) = ns := List.map_fst_zip (Nat.le_of_eq q2.symm)
    have h2 : ((ns.zip vs).map (·.2)) = vs := List.map_snd_zip (Nat.le_of_eq q2)
    have nd' : ((ns.zip vs).map (·.1)).Nodup := h1.symm ▸ nd
    have rev : VRs prog w g ((ns.zip vs).reverse.map (·.2)) us.reverse := by
      rw [List.map_reverse, h2]
      exact rr.rev
    rw [show ns.reverse = (ns.zip vs).reverse.map (·.1) by rw [List.map_reverse, h1]]
    refine wpAny_bind (bindAll X.V (ns.zip vs).reverse (fun p hp => q1 _ (h1 ▸ List.mem_map_of_mem (List.mem_reverse.mp hp))) X₁.F X₁.R rev fun s₂ w₂ F₂ => wpAny_pure ?_)
    refine hQ _ _ g s₂ q3 (SWent.trans (w₁.sw (X.lt hb)) ⟨w₂.1, w₂.2.down hb⟩) (F₂.congr fun x => ?_)
    have ndr : ((ns.zip vs).reverse.map (·.1)).Nodup := by rw [List.map_reverse]; exact List.pairwise_reverse.mpr (nd'.imp Ne.symm)
    rw [slook_puts nd', slook_puts ndr, slook_rev nd']
end
end DK
namespace DK
open PySem PySem.W PySem.Calls PyProof.Rows
section
variable {prog : Program} {w : World} {K : Frag} {G : Heap} {mg mb : Str -> Option Value} {tabs : List (Addr × Addr × Str)} {m : Nat} {A : Around} {fs : Fs} {kd : Kinds} {cm : Str -> Option Addr} {env : Env} {l l' : Loc} {g g' g'' : Gh} {P P' P'' : Hp} {s s' s'' : Shared}
  {E : Value -> Shared -> Prop} {res : Res} {r : CallR} {b : Nat}
theorem of_kind {o : Option NameKind} {k : NameKind} (h : (o == some k) = true) : o = some k := eq_of_beq h
theorem swaps_cases {e t : Expr} {line : Nat} (h1 : ∀ a b c d, e ≠ .SetComp a b c d) (h2 : ∀ a b c d f, e ≠ .DictComp a b c d f) :
    swapsWithSole [t] e line env = pure false ∨ ∃ elt gens sc pos y py, e = .ListComp elt gens sc pos ∧ t = .Name y py ∧ env.kindOf y = some .local ∧ swapsWithSole [t] e line env = pure true := by
  induction e using PySem.Expr.casesOn with
  | ListComp elt gens sc pos =>
    induction t using PySem.Expr.casesOn with
    | Name y py =>
      induction hc : (env.blockKind == .function && env.kindOf y == some .local && py.line == pos.line && !(sc.names.any fun (n, k) => n == y && (k == .local || k == .cell))) using Bool.casesOn with
      | false => exact .inl (congrArg (pure (f := Sem)) hc)
      | true => exact .inr ⟨elt, gens, sc, pos, y, py, rfl, rfl, of_kind (Bool.and_eq_true_iff.mp (Bool.and_eq_true_iff.mp (Bool.and_eq_true_iff.mp hc).1).1).2, congrArg (pure (f := Sem)) hc⟩
    | _ => exact .inl rfl
  | SetComp a b c d => exact absurd rfl (h1 a b c d)
  | DictComp a b c d f => exact absurd rfl (h2 a b c d f)
  | _ => exact .inl rfl
theorem exec_assign {t e : Expr} {pos : Pos} : exec (.Assign [t] e pos) env = (do
    standAt pos
    if ← swapsWithSole [t] e pos.line env then do
      evalThenUse e env fun v => assignAll v ((assignEach [t] env).map (·.2))
      pure .next
    else do
      let v ← eval e env
      assignStores env v (← swappedStores [t] e env) ((assignEach [t] env).map (·.2))) := rfl
theorem assign_plain {t e : Expr} {pos : Pos} {Q : Flow -> Shared -> Prop} (hs : swapsWithSole [t] e pos.line env = pure false)
    (h : wpAny (model prog w) A (eval e env) (fun v s₁ => wpAny (model prog w) A (swappedStores [t] e env >>= fun o => assignStores env v o ((assignEach [t] env).map (·.2))) Q E s₁) E s) : wpAny (model prog w) A (exec (.Assign [t] e pos) env) Q E s := by
  rw [exec_assign, hs]
  refine wpAny_bind (wpAny_standAt (wpAny_bind (wpAny_pure ?_)))
  rw [if_neg (by decide)]
  exact wpAny_bind h
theorem lams_by {e : Expr} {es : List Expr} {cn : List Str} {c : List (Expr × Scope)} {M : Prop} (h : lamsOf cn kd (e :: es) = some c) (k : ∀ b sc p c', e = .Lambda noArgs b sc p -> lamOk sc cn = true -> capOk kd sc = true -> lamsOf cn kd es = some c' -> c = (b, sc) :: c' -> M) : M := by
  have h : (match lam0 e with
    | some (b, sc) => if lamOk sc cn && capOk kd sc then (lamsOf cn kd es).map ((b, sc) :: ·) else .none
    | .none => .none) = some c := h
  induction q : lam0 e using Option.casesOn with
  | none => rw [q] at h; exact nm h
  | some z =>
    rw [q] at h
    exact oi h fun hc h => (lam0_inv q).elim fun p e => u12 (Option.map_eq_some_iff.mp h) fun c' h1 h2 => k z.1 z.2 p c' e (Bool.and_eq_true_iff.mp hc).1 (Bool.and_eq_true_iff.mp hc).2 h1 h2.symm
theorem lams_snd (FX : Facts prog w K G mg mb tabs) (TF : TabFacts G mg tabs) (V : EnvOk tabs fs kd cm env) (hl : fs.lam = true) {pos : Pos} (es : List Expr) : ∀ {c : List (Expr × Scope)} {g : Gh} {s : Shared} {Q : List Value -> Shared -> Prop}, lamsOf fs.cn kd es = some c -> Rep prog w G tabs g P s.heap ->
    (∀ g' s' us, Went prog w G tabs g s g' s' P -> ClosR fs.cn cm g' c us -> us.length = es.length -> Q us s') -> wpAny (model prog w) A (spliced (backTo pos (starEach es env))) Q E s := by
  induction es with
  | nil => exact fun h R hQ => spliced_nil (hQ _ _ [] ⟨R, Ext.toks (tk := _)⟩ (si h ▸ .nil) rfl)
  | cons e es ih =>
    intro c g s Q h R hQ
    refine lams_by h fun b sc p c' e1 h1 h2 hc' e2 => ?_
    subst e1; subst e2
    refine (?_ : wpAny _ _ (spliced ((false, eval (.Lambda noArgs b sc p) env) :: backTo pos (starEach es env))) _ _ _)
    exact spliced_cons (lam_make FX TF R V hl h1 h2 fun g₁ s₁ u w₁ cl => ih hc' w₁.1 fun g₂ s₂ us w₂ cr hn => hQ g₂ s₂ _ (w₁.trans w₂) (.cons (cl.mono w₂.2.le) cr) (congrArg Nat.succ hn))
theorem ev_list {n : Nat} {es : List Expr} {p : Pos} {k : LV -> Hp -> Out} {ke : AV -> Hp -> Out} : ev r fs (n + 1) kd l P (.List es p) k ke = if es.length < 1000 then seqE (fun e P k => ev r fs n kd l P e (avK k) ke) es P fun vs P => k (.av (.lst vs)) P else .none := rfl
theorem listOf_inv {e : Expr} {ts : List Expr} (h : listOf e = some ts) : ∃ p, e = .List ts p := by
  induction e using PySem.Expr.casesOn with
  | List ts' p => exact ⟨p, congrArg (Expr.List · p) (si h)⟩
  | _ => exact nm h
theorem nameOf_inv {e : Expr} {x : Str} (h : nameOf e = some x) : ∃ p, e = .Name x p := by
  induction e using PySem.Expr.casesOn with
  | Name x' p => exact ⟨p, congrArg (Expr.Name · p) (si h)⟩
  | _ => exact nm h
theorem loc_by {β : Type} {o : Option NameKind} {c : Bool} {F : Option β} {r : β} {M : Prop} (h : (match o with | some .local => if c then F else .none | _ => .none) = some r) (k : o = some .local -> c = true -> F = some r -> M) : M := by
  induction o using Option.casesOn with
  | none => exact nm h
  | some o => induction o using PySem.NameKind.casesOn with
    | «local» => exact oi h fun h1 h => k rfl h1 h
    | _ => exact nm h
theorem lst_by {v : AV} {F : List AV -> Out} {M : Prop} (h : (match v with | .lst vs => F vs | _ => .none) = some res) (k : ∀ vs, v = .lst vs -> F vs = some res -> M) : M := by
  induction v using DK.AV.casesOn with
  | lst vs => exact k vs rfl h
  | _ => exact nm h
theorem cl_by {x : Option Str} {o : Option (List (Expr × Scope))} {es : List Expr} {F : Str -> List (Expr × Scope) -> Out} {H : Out} {M : Prop} (h : (match x, o, es with | some x, some c, _ :: _ => F x c | _, _, _ => H) = some res) (k : ∀ y c, x = some y -> o = some c -> F y c = some res -> M) (k' : H = some res -> M) : M := by
  induction x using Option.casesOn with
  | none => exact k' h
  | some x => induction o using Option.casesOn with
    | none => exact k' h
    | some c => induction es using List.casesOn with
      | nil => exact k' h
      | cons => exact k x c rfl rfl h
theorem StE.eok {L : Addr} (hE : StE prog w G tabs L b g s res E) (X : Cfg prog w G tabs m A fs kd cm env l g P s) (hb : b ≤ env.locals) : EOk prog w G tabs g s (fun b P => some (.exc b P)) res E := fun bv P' g' s' e q1 q2 q3 => hE bv P' g' s' e .fly (si q1).symm (q2.sw (X.lt hb)) q3 (.inr (.inl rfl))
theorem assign_by {kr : AV -> Hp -> Out} {kn : Loc -> Hp -> Out} {n : Nat} {t e : Expr} {pos : Pos} {M : Prop} (h : ex r fs kd kr (n + 1) (.Assign [t] e pos) l P kn = some res)
    (k1 : ∀ es p x px c, e = .List es p -> t = .Name x px -> lamsOf fs.cn kd es = some c -> slook x kd = some .local -> fs.lam = true -> es.length < 1000 -> kn (sput x (.clos c) l) P = some res -> M)
    (k2 : ∀ es p, e = .List es p -> swapOk t e = true -> evA r fs kd l P e (fun v P => match v with
          | .lst vs => storeT r fs kd t (.ref P.length) l (P ++ [.list vs]) kn
          | _ => .none) = some res -> M) (k3 : swapOk t e = true -> evA r fs kd l P e (fun v P => storeT r fs kd t v l P kn) = some res -> M) : M := by
  refine oi (h : (if _ then _ else none) = some res) fun hok h => ?_
  induction q : listOf e using Option.casesOn with
  | none => rw [q] at h; exact k3 hok h
  | some es =>
    rw [q] at h
    refine (listOf_inv q).elim fun p eq => cl_by h (fun x c e1 e2 h => (nameOf_inv e1).elim fun px et => loc_by h fun h1 h2 h => k1 es p x px c eq et e2 h1 (Bool.and_eq_true_iff.mp h2).1 (of_decide_eq_true (Bool.and_eq_true_iff.mp h2).2) h) fun h => k2 es p eq hok h
theorem assign_snd (FX : Facts prog w K G mg mb tabs) (TF : TabFacts G mg tabs) (EV : EvAll prog w G tabs r m) {L : Addr} (hb : b ≤ env.locals) {t e : Expr} {pos : Pos} {n : Nat} {kr : AV -> Hp -> Out} {kn : Loc -> Hp -> Out} {Q : Flow -> Shared -> Prop} (X : Cfg prog w G tabs m A fs kd cm env l g P s)
    (hsw : swapsWithSole [t] e pos.line env = pure false)
    (h : ex r fs kd kr (n + 1) (.Assign [t] e pos) l P kn = some res) (hQ : QFk prog w G tabs fs kd cm env b g s kn res (Q .next)) (hE : StE prog w G tabs L b g s res E) :
    wpAny (model prog w) A (exec (.Assign [t] e pos) env) Q E s := by
  refine assign_plain hsw (assign_by h (fun es p x px c e1 e2 hc hk hl hz q => ?_) (fun es p e1 hok q => ?_) fun hok q => ?_)
  · subst e1; subst e2
    refine wpAny_List (lams_snd FX TF X.V hl es hc X.R fun g₁ s₁ us w₁ cr hn => ⟨len_ok hn hz, ?_⟩)
    have fr := w₁.1.froze (o := listObj us.toArray 0) rfl
    have w₂ : Went prog w G tabs g s _ { s₁ with heap := s₁.heap.push (listObj us.toArray 0), toks := s₁.toks } P := w₁.trans ⟨fr.1, fr.2.2.1 _ _⟩
    refine (?_ : wpAny _ _ (pure none >>= fun o => assignStores env (.ref s₁.heap.objs.size) o _) _ _ _)
    refine wpAny_bind (wpAny_pure ?_)
    refine (?_ : wpAny _ _ (assign (.Name x px) env (.ref s₁.heap.objs.size) >>= fun z_ => pure Flow.next) _ _ _)
    have X₂ := X.went w₂
    exact wpAny_bind (wpAny_assign_Name (storeName_snd X₂.V X₂.F X₂.R hk (.inl rfl) (.clos fr.2.2.2 (cr.mono fr.2.1)) fun s' R' E' F' => wpAny_pure (hQ _ _ _ s' q ((w₂.sw (X.lt hb)).trans ⟨R', E'.down hb⟩) F')))
  · subst e1
    refine oi (q : (if es.length < 1000 then _ else none) = some res) fun hz q => ?_
    refine wpAny_List (seq_snd (F := fun e P k ke => ev r fs 39 kd l P e k ke) (fun e => (EV 39 A fs kd cm env l e).1) (fun a b P k ke => ev_star 39 a b P k ke) es X q (fun vs P₁ g₁ s₁ us q₁ w₁ r₁ hn => ⟨len_ok hn hz, ?_⟩) (hE.eok X hb))
    refine (new_list (tk := s₁.toks) w₁.1 r₁).elim fun w₂ r₂ => ?_
    have w₃ := w₁.trans w₂
    have ws := w₃.sw (X.lt hb)
    exact assignStores_snd FX EV hb (X.went w₃) r₂ hok q₁ (QFk.went ws hQ) (hE.sw ws)
  · refine evA_snd EV X hb q (fun v P₁ g₁ s₁ u q₁ w₁ r₁ => ?_) hE
    have ws := w₁.sw (X.lt hb)
    exact assignStores_snd FX EV hb (X.went w₁) r₁ hok q₁ (QFk.went ws hQ) (hE.sw ws)
end
end DK
namespace DK
open PySem PySem.W PySem.Calls PyProof.Rows
section
variable {prog : Program} {w : World} {K : Frag} {G : Heap} {mg mb : Str -> Option Value} {tabs : List (Addr × Addr × Str)} {m : Nat} {A : Around} {fs : Fs} {kd : Kinds} {cm : Str -> Option Addr} {env : Env} {l l' : Loc} {g g' g'' : Gh} {P P' P'' : Hp} {s s' s'' : Shared}
  {E : Value -> Shared -> Prop} {res : Res} {r : CallR} {b : Nat}
theorem comp_by {n : Nat} {elt : Expr} {gens : List Comprehension} {sc : Scope} {lp : Pos} {k : LV -> Hp -> Out} {ke : AV -> Hp -> Out} {M : Prop} (h : ev r fs (n + 1) kd l P (.ListComp elt gens sc lp) k ke = some res)
    (c : ∀ x px it ifs, gens = [⟨.Name x px, it, ifs, 0⟩] -> compOk x sc fs.cn = true -> capOk kd sc = true -> ev r fs n kd l P it (fun iv P => match startL P iv with
        | some (iv, m) => if m < 100000 then walk iv m (turnE (fun v P k ke => ev r fs n (compK x sc) ((x, v) :: l) P elt k ke) (fun c v P k ke => ev r fs n (compK x sc) ((x, v) :: l) P c k ke) ifs)
            (fun acc P => if isSliceIter it then k (.av (.ref P.length)) (P ++ [.list acc]) else k (.av (.lst acc)) P) (m + 1) 0 [] P else .none
        | .none => .none) ke = some res -> M) : M := by
  induction hg : gen1 gens using Option.casesOn with
  | none =>
    refine nm (Eq.trans (Eq.symm (?_ : (match gen1 gens with | .none => none | some (x, it, ifs) => _ : Out) = none)) h)
    rw [hg]
  | some z =>
    refine (gen1_inv hg).elim fun px e => ?_
    subst e
    exact oi (h : (if compOk z.1 sc fs.cn && capOk kd sc then _ else none) = some res) fun hc h => c z.1 px z.2.1 z.2.2 rfl (Bool.and_eq_true_iff.mp hc).1 (Bool.and_eq_true_iff.mp hc).2 h
theorem name_by {y : Str} {py : Pos} {v : AV} {k : Loc -> Hp -> Out} {M : Prop} (V : EnvOk tabs fs kd cm env) (hk : env.kindOf y = some .local) (h : storeT r fs kd (.Name y py) v l P k = some res) (c : slook y kd = some .local -> k (sput y (.av v) l) P = some res -> M) : M := by
  have h : (match slook y kd with
        | some .local => k (sput y (.av v) l) P
        | some .cell => k (sput y (.av v) l) P
        | _ => none) = some res := h
  induction e : slook y kd using Option.casesOn with
  | none => rw [e] at h; exact nm h
  | some o =>
    rw [e] at h
    induction o using PySem.NameKind.casesOn with
    | «local» => exact c e h
    | cell => exact c (local_of V hk e (.inr rfl)) h
    | _ => exact nm h
theorem comp_any {y : LV} {n i : Nat} {acc : List AV} {us : Array Value} {g₁ : Gh} {s₁ : Shared} {I D C : Addr} (X : Cfg prog w G tabs m A fs kd cm env l g P s) (w₁ : Went prog w G tabs g s g₁ s₁ P') (hlC : s₁.heap.objs.size ≤ C) : C ≠ env.locals := fun z => by
  have h1 := (X.went w₁).R.low env.locals (rn (X.went w₁).F.frm)
  rw [← z] at h1
  exact Nat.lt_irrefl _ (Nat.lt_of_lt_of_le h1 hlC)
theorem emptied {C : Addr} {h₄ : Heap} {tk : Nat} (X : Cfg prog w G tabs m A fs kd cm env l g P s) (aC : g.ρ C = .any) (sb₄ : Heap.SameBut C s.heap h₄) : SWent prog w G tabs b g s g { s with heap := h₄, toks := tk } P ∧ Frm prog w fs kd cm env l g h₄ := by
  have kp : ∀ a o, g.ρ a ≠ .any -> s.heap.get? a = some o -> h₄.get? a = some o := fun a o ne e => (sb₄.2 a (fun z => ne (z ▸ aC))).trans e
  have hz : s.heap.objs.size ≤ h₄.objs.size := Nat.le_of_eq sb₄.1.symm
  have E₄ : ∀ b, Ext b g s g { s with heap := h₄, toks := tk } := fun b => .of_keeps (.refl g) hz kp
  exact ⟨⟨X.R.quiet hz (fun a o r z_ z_ z_ e => kp a o r e) (fun a r => (X.R.frm a r).imp fun m n => n.sameBut sb₄ fun z => rx (r.symm.trans (z ▸ aC))) fun a r => (X.R.cel a r).imp fun m n => n.sameBut sb₄ fun z => rx (r.symm.trans (z ▸ aC)), E₄ b⟩, X.F.ext X.R (E₄ _)⟩
theorem assign_comp (FX : Facts prog w K G mg mb tabs) (EV : EvAll prog w G tabs r m) {L : Addr} (hb : b ≤ env.locals) {elt : Expr} {gens : List Comprehension} {sc : Scope} {lp py pos : Pos} {y : Str} {n : Nat} {kr : AV -> Hp -> Out} {kn : Loc -> Hp -> Out} {Q : Flow -> Shared -> Prop} (X : Cfg prog w G tabs m A fs kd cm env l g P s)
    (hsw : swapsWithSole [.Name y py] (.ListComp elt gens sc lp) pos.line env = pure true) (hky : env.kindOf y = some .local)
    (h : ex r fs kd kr (n + 1) (.Assign [.Name y py] (.ListComp elt gens sc lp) pos) l P kn = some res) (hQ : QFk prog w G tabs fs kd cm env b g s kn res (Q .next)) (hE : StE prog w G tabs L b g s res E) :
    wpAny (model prog w) A (exec (.Assign [.Name y py] (.ListComp elt gens sc lp) pos) env) Q E s := by
  rw [exec_assign, hsw]
  refine wpAny_bind (wpAny_standAt (wpAny_bind (wpAny_pure ?_)))
  rw [if_pos rfl]
  refine assign_by h (fun z_ z_ z_ z_ z_ z => Expr.noConfusion z) (fun z_ z_ z => Expr.noConfusion z) fun z_ h1 => ?_
  refine comp_by (n := 39) h1 fun x px it ifs e hc hcap q1 => ?_
  subst e
  refine (?_ : wpAny _ _ ((comprehension (.ListComp elt [⟨.Name x px, it, ifs, 0⟩] sc lp) sc env (firstIterPos [⟨.Name x px, it, ifs, 0⟩] lp) (newList []) false (eval it env) (some fun v => assignAll v [assign (.Name y py) env]) >>= fun z_ => pure ()) >>= fun z_ => pure Flow.next) _ _ _)
  refine wpAny_bind (wpAny_bind (comp_core (use := some fun v => assignAll v [assign (.Name y py) env]) (Q := fun z_ s' => wpAny (model prog w) A (pure ()) (fun z_ s' => wpAny (model prog w) A (pure Flow.next) Q E s') E s') FX.sys (fun a b c e P k ke => by subst e; exact ev_set 39 a b c P k ke) (EV 39 A fs kd cm env l it).1
    (fun C v => (EV 39 _ _ _ _ _ _ _).1) (fun C c v => (EV 39 _ _ _ _ _ _ _).2) X hc hcap q1 (fun g₁ s₁ P₁ I D C y' n' g' P' s' acc us i h' w₁ c D₁ C₁ I₁ hDC hID hlC en hw => ?_)
    (hE.eok X hb)))
  refine ((c.R.but c.kI en.2 en.1).frm C c.kC).elim fun mm ns => (c.done (tk := s'.toks) D₁ C₁ I₁ hDC hID en (Heap.SameBut.refl C h')).elim fun d1 d2 => d1.elim fun ga z => z.elim fun wa z => d2.elim fun gb z' => z'.elim fun wb z' => ?_
  have fin : ∀ {v : AV} {P₂ : Hp} {gz : Gh}, Went prog w G tabs g₁ s₁ gz { s' with heap := h', toks := s'.toks } P₂ -> gz.ρ C = .any -> VR prog w gz v (.ref D) -> storeT r fs kd (.Name y py) v l P₂ kn = some res ->
      compPost (model prog w) A E (some fun v => assignAll v [assign (.Name y py) env]) (fun z_ s' => wpAny (model prog w) A (pure ()) (fun z_ s' => wpAny (model prog w) A (pure Flow.next) Q E s') E s') (.ref D) C (.ok .next) { s' with heap := h' } := fun {v P₂ gz} wz aC rz hk => name_by X.V hky hk fun k1 k2 => by
    have w₂ := w₁.trans wz
    have X₂ := X.went w₂
    refine (?_ : wpAny _ _ (assign (.Name y py) env (.ref D)) _ _ _)
    refine wpAny_assign_Name (storeLocal (s := { s' with heap := h', toks := s'.toks }) X₂.V X₂.F X₂.R hky (X₂.V.loc y k1).2 (.av rz) fun h₃ tk sb R₃ E₃ F₃ => ⟨mm, ns.sameBut sb (comp_any (y := y') (n := n') (i := i) (acc := acc) (us := us) (I := I) (D := D) X w₁ hlC), fun h₄ sb₄ => wpAny_pure (wpAny_pure ?_)⟩)
    have ws : SWent prog w G tabs b g s gz { s' with heap := h₃, toks := tk } P₂ := (w₂.sw (X.lt hb)).trans ⟨R₃, E₃.down hb⟩
    exact (emptied (b := b) (tk := tk) (X.sw ws F₃) aC sb₄).elim fun e1 e2 => hQ _ P₂ gz _ k2 (ws.trans e1) e2
  exact oe hw (fun z_ hw => fin wb z'.2 z'.1 hw) fun z_ hw => fin wa z.2 z.1 hw
end
end DK
namespace DK
open PySem PySem.W PySem.Calls PyProof.Rows
section
variable {prog : Program} {w : World} {K : Frag} {G : Heap} {mg mb : Str -> Option Value} {tabs : List (Addr × Addr × Str)} {m : Nat} {A : Around} {fs : Fs} {kd : Kinds} {cm : Str -> Option Addr} {env : Env} {l l' : Loc} {g g' g'' : Gh} {P P' P'' : Hp} {s s' s'' : Shared}
  {E : Value -> Shared -> Prop} {res : Res} {r : CallR} {b : Nat}
noncomputable abbrev QRk (prog : Program) (w : World) (G : Heap) (tabs : List (Addr × Addr × Str)) (b : Nat) (g : Gh) (s : Shared) (kr : AV -> Hp -> Out) (res : Res) (Q : Flow -> Shared -> Prop) : Prop :=
  ∀ v P' g' s' u, kr v P' = some res -> SWent prog w G tabs b g s g' s' P' -> VR prog w g' v u -> Q (.ret u) s'
theorem QRk.sw {kr : AV -> Hp -> Out} {Q : Flow -> Shared -> Prop} (x : SWent prog w G tabs b g s g' s' P') (h : QRk prog w G tabs b g s kr res Q) : QRk prog w G tabs b g' s' kr res Q := fun v P'' g'' s'' u q w' rv => h v P'' g'' s'' u q (x.trans w') rv
noncomputable def StS (prog : Program) (w : World) (G : Heap) (tabs : List (Addr × Addr × Str)) (m : Nat) (A : Around) (fs : Fs) (kd : Kinds) (cm : Str -> Option Addr) (env : Env) (b : Nat) (kr : AV -> Hp -> Out) (f : Loc -> Hp -> (Loc -> Hp -> Out) -> Out) (t : Sem Flow) : Prop :=
  ∀ (l : Loc) (P : Hp) (kn : Loc -> Hp -> Out) (res : Res) (g : Gh) (s : Shared) (Q : Flow -> Shared -> Prop) (E : Value -> Shared -> Prop), Cfg prog w G tabs m A fs kd cm env l g P s -> f l P kn = some res ->
    QFk prog w G tabs fs kd cm env b g s kn res (Q .next) -> QRk prog w G tabs b g s kr res Q -> StE prog w G tabs env.locals b g s res E -> wpAny (model prog w) A t Q E s
theorem StS.use {kr : AV -> Hp -> Out} {f : Loc -> Hp -> (Loc -> Hp -> Out) -> Out} {t : Sem Flow} (x : StS prog w G tabs m A fs kd cm env b kr f t) {kn : Loc -> Hp -> Out} {Q : Flow -> Shared -> Prop} (X : Cfg prog w G tabs m A fs kd cm env l g P s) (hf : f l P kn = some res)
    (hN : QFk prog w G tabs fs kd cm env b g s kn res (Q .next)) (hR : QRk prog w G tabs b g s kr res Q) (hE : StE prog w G tabs env.locals b g s res E) : wpAny (model prog w) A t Q E s := x _ _ _ _ _ _ _ _ X hf hN hR hE
theorem blk_snd {kr : AV -> Hp -> Out} {one : Stmt -> Loc -> Hp -> (Loc -> Hp -> Out) -> Out} (ho : ∀ st, StS prog w G tabs m A fs kd cm env b kr (one st) (exec st env)) (body : List Stmt) : StS prog w G tabs m A fs kd cm env b kr (blk one body) (execs body env) := by
  induction body with
  | nil => exact fun l P kn res g s Q E X h hN hR hE => wpAny_pure (hN l P g s (blk_nil.symm.trans h) ⟨X.R, Ext.toks (tk := s.toks)⟩ X.F)
  | cons st rest ih =>
    intro l P kn res g s Q E X h hN hR hE
    refine (?_ : wpAny _ _ (exec st env >>= fun f => match f with | .next => execs rest env | f => pure f) _ _ _)
    exact wpAny_bind ((ho st).use X (blk_cons.symm.trans h) (fun l₁ P₁ g₁ s₁ q₁ w₁ F₁ => ih.use (X.sw w₁ F₁) q₁ (QFk.went w₁ hN) (QRk.sw w₁ hR) (hE.sw w₁)) (fun v P' g' s' u q w' rv => wpAny_pure (hR v P' g' s' u q w' rv)) hE)
noncomputable def TupIt (h : Heap) (I : Addr) : Prop := ∃ o T, h.get? I = some o ∧ o.cls = .type T ∧ ["enumerate", "zip", "dict_itemiterator", "dict_reverseitemiterator", "odict_iterator", "itertools.zip_longest", "itertools.pairwise"].contains T = false
theorem ItR.cls {cn : List Str} {h : Heap} {I : Addr} {y : LV} {n i : Nat} (it : ItR prog w cn cm g h I y n i) : TupIt h I := by
  have li : ∀ {l : Addr}, h.IsListIter I l i -> TupIt h I := fun z => z.elim fun o z => ⟨o, _, z.1, z.2.1, by decide⟩
  induction y using DK.LV.casesOn with
  | clo => exact it.elim
  | clos => exact u33 it fun z_ z_ z_ z_ z_ z => li z
  | keys => exact u24 it fun z_ z_ z_ z_ z z_ => z.elim fun o z => ⟨o, _, z.1, z.2.1, by decide⟩
  | av v => induction v using DK.AV.casesOn with
    | ref => exact u12 it fun z_ z_ z => li z
    | lst => exact u33 it fun z_ z_ z_ z_ z_ z => li z
    | tup => exact u33 it fun z_ z_ z_ z_ z_ z => z.elim fun o z => ⟨o, _, z.1, z.2.1, by decide⟩
    | rng => exact ⟨_, _, it.2, rfl, by decide⟩
    | dvl => exact u24 it fun z_ z_ z_ z_ z z_ => z.elim fun o z => ⟨o, _, z.1, z.2.1, by decide⟩
    | _ => exact it.elim
theorem letGo_snd {I : Addr} {t : Expr} {u : Value} {Q : Unit -> Shared -> Prop} (it : TupIt s.heap I) (h : Q () s) : wpAny (model prog w) A (letOwnedTupleGo t (.ref I) u) Q E s := by
  refine u23 it fun o T ho hc hT => ?_
  have body : ∀ a : Addr, wpAny (model prog w) A (load I >>= fun o => match o.cls, o.data with
        | .type n, .fields vs => if ["enumerate", "zip", "dict_itemiterator", "dict_reverseitemiterator", "odict_iterator", "itertools.zip_longest", "itertools.pairwise"].contains n && vs[0]? == some (rawInt a) then do
            rule "for.unpacks-the-owned-tuple"
            updateField I 0 .none
          else pure ()
        | _, _ => pure ()) Q E s := fun a => by
    refine wpAny_bind (wpAny_load ho ?_)
    rw [hc]
    induction o.data using PySem.Data.casesOn with
    | fields vs =>
      refine (?_ : wpAny _ _ (if (_ && _) = true then _ else pure ()) _ _ _)
      rw [hT]
      exact wpAny_pure h
    | _ => exact wpAny_pure h
  have go : wpAny (model prog w) A (do
      let (.ref r, .ref a) := (Value.ref I, u) | return
      let o ← load r
      match o.cls, o.data with
      | .type n, .fields vs =>
        if ["enumerate", "zip", "dict_itemiterator", "dict_reverseitemiterator", "odict_iterator", "itertools.zip_longest", "itertools.pairwise"].contains n && vs[0]? == some (rawInt a) then
          rule "for.unpacks-the-owned-tuple"
          updateField r 0 .none
      | _, _ => pure ()) Q E s := by
    induction u using PySem.Value.casesOn with
    | ref a => exact body a
    | _ => exact wpAny_pure h
  induction t using PySem.Expr.casesOn with
  | Tuple => exact go
  | List => exact go
  | _ => exact wpAny_pure h
theorem CtxOk.all {outer : List Env} (x : CtxOk g A) (hA : A.frames = some (env :: outer)) : ∀ e ∈ env :: outer, e.scope.kind ≠ .module ∧ ∃ L, e.frame = some L ∧ g.ρ L = .frm := by
  obtain ⟨_, fr, h, a⟩ := x
  rw [hA] at h; cases h
  exact a
theorem Frm.but (F : Frm prog w fs kd cm env l g s.heap) {I : Addr} (hI : g.ρ I = .keep) {h' : Heap} (hs : Heap.ExtBut I s.heap h') : Frm prog w fs kd cm env l g h' :=
  have ne : ∀ {a : Addr} {ro : Role}, g.ρ a = ro -> Nat.beq ro.tg Role.keep.tg = false -> a ≠ I := fun e h q => rn (z := .keep) e h (q ▸ hI)
  ⟨F.frm, F.cells, F.loc.imp fun mm z => z.imp_left fun ns => ns_slots ns fun o e => ⟨o.slots, hs _ o (ne F.frm rfl) e⟩, fun x v c e1 e2 => (F.cel x v c e1 e2).imp fun u z => z.imp fun a z => z.imp_left fun c => c.imp fun o c => c.imp_left (hs _ o (ne (F.cells _ _ e2) rfl))⟩
theorem loop_exc {outer : List Env} {bv : AV} {e : Addr} {st : ExSt} (hA : A.frames = some (env :: outer)) (hF : env.frame = some env.locals) (hC : CtxOk g A) (R : Rep prog w G tabs g P s.heap) (x : Exc prog w bv st e g s.heap) (hs : st = .fresh ∨ st = .fly ∨ st = .held env.locals)
    {g₁ : Gh} {s₁ : Shared} (hw : SWent prog w G tabs b g₁ s₁ g s P) (hE : StE prog w G tabs env.locals b g₁ s₁ res E) (hr : res = .exc bv P) : notedBy (model prog w) A env (fun e s' => cameBackBy (model prog w) A env E e s') (.ref e) s := by
  refine note_snd hA hF (hC.all hA) R x hs fun h' N x' => ?_
  have st' : Step prog w G tabs g s g P h' s.toks := N.step R
  refine came_snd (s := { s with heap := h' }) hA hF st'.1 rfl x' fun h'' N' x'' => ?_
  have st'' : Step prog w G tabs g { s with heap := h' } g P h'' s.toks := N'.step st'.1
  exact hE bv P g _ e (.held env.locals) hr (hw.trans ⟨st''.1, (st'.2 b).trans (st''.2 b)⟩) x'' (.inr (.inr rfl))
theorem evA_set {a : List Expr} {b : Nat} {c : Pos} {k : AV -> Hp -> Out} : evA r fs kd l P (.Set a b c) k = none := rfl
theorem evA_star {a : Expr} {b : Pos} {k : AV -> Hp -> Out} : evA r fs kd l P (.Starred a b) k = none := rfl
inductive FInv (prog : Program) (w : World) (G : Heap) (tabs : List (Addr × Addr × Str)) (fs : Fs) (kd : Kinds) (cm : Str -> Option Addr) (env : Env) (b : Nat) (g₁ : Gh) (s₁ : Shared) (I : Addr) (y : LV) (n : Nat) (turn : LV -> Loc -> Hp -> (Loc -> Hp -> Out) -> Out) (kn : Loc -> Hp -> Out) (res : Res) (k : Nat) (s' : Shared) : Prop
  | mk (i : Nat) (l' : Loc) (P' : Hp) (g' : Gh) (h1 : walk y n turn kn k i l' P' = some res) (h2 : SWent prog w G tabs b g₁ s₁ g' s' P') (h3 : Frm prog w fs kd cm env l' g' s'.heap) (h4 : g'.ρ I = .keep) (h5 : ItR prog w fs.cn cm g' s'.heap I y n i) : FInv prog w G tabs fs kd cm env b g₁ s₁ I y n turn kn res k s'
theorem av_by {x : LV} {F : AV -> Out} {M : Prop} (h : (match x with | .av x => F x | _ => .none) = some res) (k : ∀ v, x = .av v -> F v = some res -> M) : M := by
  induction x using DK.LV.casesOn with
  | av v => exact k v rfl h
  | _ => exact nm h
theorem for_snd (FX : Facts prog w K G mg mb tabs) (EV : EvAll prog w G tabs r m) {outer : List Env} (hA : A.frames = some (env :: outer)) (hF : env.frame = some env.locals) (hb : b ≤ env.locals) {kr : AV -> Hp -> Out} {body : Loc -> Hp -> (Loc -> Hp -> Out) -> Out} {t it : Expr} {sts : List Stmt} {pos : Pos}
    (hB : StS prog w G tabs m A fs kd cm env b kr body (execs sts env)) :
    StS prog w G tabs m A fs kd cm env b kr (fun l P kn => evA r fs kd l P it fun v P => match startL P (.av v) with
      | some (iv, m) => walk iv m (fun x l P f => match x with
          | .av x => storeT r fs kd t x l P fun l P => body l P f
          | _ => .none) kn (m + 1) 0 l P
      | .none => .none) (exec (.For t it sts [] pos) env) := by
  intro l P kn res g s Q E X h hN hR hE
  have hs : ∀ u, foldedSetIterable it env u = pure u := by
    intro u
    induction it using PySem.Expr.casesOn with
    | Set a b c => exact nm (evA_set.symm.trans h)
    | _ => kernel_rfl
  refine wpAny_For (evA_snd EV X hb h (fun v P₁ g₁ s₁ u q₁ w₁ r₁ => start_by q₁ fun y n hst q₁ => iter_snd w₁.1 FX.sys (cn := fs.cn) (cm := cm) (.av r₁) hst fun I g₂ s₂ R₂ E₂ aI kI lI it₂ => ?_) hE) hs
  have X₁ := X.went w₁
  have ws := w₁.sw (X.lt hb)
  have hE₁ := hE.sw ws
  refine codeAny_forLoop_any (FInv prog w G tabs fs kd cm env b g₁ s₁ I y n (fun x l P f => match x with
        | .av x => storeT r fs kd t x l P fun l P => body l P f
        | _ => .none) kn res) (fun k s' hI => ?_) (n + 1) ⟨0, l, P₁, g₂, q₁, ⟨R₂, E₂ b⟩, X₁.F.ext X₁.R (E₂ _), kI, it₂⟩
  refine hI.casesOn fun i l' P' g' hw wg F' kI' it' => cc fun kk => ?_
  cases k with
  | zero => exact nn (walk_z.symm.trans hw)
  | succ k =>
    induction hn0 : nthL P' y n i using Option.casesOn with
    | none => exact nn ((walk_none hn0).symm.trans hw)
    | some o =>
      have hw := (walk_some hn0).symm.trans hw
      induction o using Option.casesOn with
      | none =>
        exact kk (next_snd wg.1 X.C.1 kI' it' hn0 (fun z_ h' en => wpAny_pure (hN l' P' g' _ hw (ws.trans ⟨wg.1.but kI' en.2 en.1, wg.2.but (tk := s'.toks) aI en.2 en.1⟩) (F'.but kI' en.1))) fun v h' tk u e => nm e)
      | some v =>
        refine kk (next_snd wg.1 X.C.1 kI' it' hn0 (fun e => nm e.symm) fun v' h' tk u e sb rv it'' => ?_)
        have hz' : s'.heap.objs.size ≤ h'.objs.size := Nat.le_of_eq sb.1.symm
        have wn : SWent prog w G tabs b g₁ s₁ g' { s' with heap := h', toks := tk } P' := ⟨wg.1.but kI' hz' sb.extBut, wg.2.but aI hz' sb.extBut⟩
        refine letGo_snd (s := { s' with heap := h', toks := tk }) it''.cls (av_by hw fun x ex hw => ?_)
        have rv := ((si e).symm.trans ex ▸ rv : LVR prog w fs.cn cm g' (.av x) u).va
        have X' : Cfg prog w G tabs m A fs kd cm env l' g' P' { s' with heap := h', toks := tk } := X₁.sw wn (F'.but kI' sb.extBut)
        have exc : ∀ {g₃ : Gh} {s₃ : Shared} {P₃ : Hp}, SWent prog w G tabs b g₁ s₁ g₃ s₃ P₃ -> CtxOk g₃ A -> StE prog w G tabs env.locals b g₃ s₃ res (notedBy (model prog w) A env fun e s' => cameBackBy (model prog w) A env E e s') := fun {g₃ s₃ P₃} w₃ C₃ bv P₄ g₄ s₄ e st hr w₄ x₄ hs₄ =>
          loop_exc hA hF (C₃.le w₄.2.le) w₄.1 x₄ hs₄ (w₃.trans w₄) hE₁ hr
        refine assignT_snd FX EV hb X' rv hw (fun l₃ P₃ g₃ s₃ q₃ w₃ F₃ => ?_) (exc wn X'.C)
        have X₃ := X'.sw w₃ F₃
        have w₁₃ := wn.trans w₃
        exact hB.use X₃ q₃ (fun l₄ P₄ g₄ s₄ q₄ w₄ F₄ => ⟨k, Nat.lt_succ_self k, i + 1, l₄, P₄, g₄, q₄, w₁₃.trans w₄, F₄, (w₃.trans w₄).2.le.at kI', it''.ext kI' (w₃.trans w₄).2⟩) (QRk.sw (ws.trans w₁₃) hR) (exc w₁₃ X₃.C)
noncomputable def RaiseRule (prog : Program) (w : World) (G : Heap) (tabs : List (Addr × Addr × Str)) : Prop := ∀ {m : Nat} {A : Around} {fs : Fs} {kd : Kinds} {cm : Str -> Option Addr} {env : Env} {l : Loc} {g : Gh} {P : Hp} {s : Shared} {x : Str} {p pc pos : Pos} {e : Expr} {Q : Flow -> Shared -> Prop} {E : Value -> Shared -> Prop}, Cfg prog w G tabs m A fs kd cm env l g P s ->
  x = Str.ofString "PsError" -> slook x kd = some .globalImplicit -> (∀ a b, e ≠ .Starred a b) -> wpAny (model prog w) A (eval e env) (fun u s₁ => ∃ bv P₁ g₁, Went prog w G tabs g s g₁ s₁ P₁ ∧ VR prog w g₁ (.byt bv) u ∧
    ∀ g₂ s₂ e, Went prog w G tabs g₁ s₁ g₂ s₂ P₁ -> Exc prog w (.byt bv) .fresh e g₂ s₂.heap -> E (.ref e) s₂) E s -> wpAny (model prog w) A (exec (.Raise (some (.Call (.Name x p) [e] [] pc)) none pos) env) Q E s
theorem sts_none {kr : AV -> Hp -> Out} {f : Loc -> Hp -> (Loc -> Hp -> Out) -> Out} {t : Sem Flow} (h : ∀ l P kn, f l P kn = none) : StS prog w G tabs m A fs kd cm env b kr f t := fun l P kn res g s Q E X hf => nm ((h l P kn).symm.trans hf)
theorem call1_inv {f : Expr} {args : List Expr} {kws : List Keyword} {pc : Pos} {z : Str × Expr} (h : raise1 (some (.Call f args kws pc)) = some z) : ∃ p, f = .Name z.1 p ∧ args = [z.2] ∧ kws = [] := by
  induction f using PySem.Expr.casesOn with
  | Name x p => induction args using List.casesOn with
    | nil => exact nm h
    | cons e es => induction es using List.casesOn with
      | cons => exact nm h
      | nil => induction kws using List.casesOn with
        | cons => exact nm h
        | nil => exact si h ▸ ⟨p, rfl, rfl, rfl⟩
  | _ => exact nm h
theorem raise1_inv {c : Option Expr} {z : Str × Expr} (h : raise1 c = some z) : ∃ p pc, c = some (.Call (.Name z.1 p) [z.2] [] pc) := by
  induction c using Option.casesOn with
  | none => exact nm h
  | some c => induction c using PySem.Expr.casesOn with
    | Call f args kws pc => exact u13 (call1_inv h) fun p e1 e2 e3 => ⟨p, pc, by rw [e1, e2, e3]⟩
    | _ => exact nm h
theorem byt_by {v : AV} {F : List UInt8 -> Option Res} {M : Prop} (h : (match v with | .byt b => F b | _ => .none) = some res) (k : ∀ b, v = .byt b -> F b = some res -> M) : M := by
  induction v using DK.AV.casesOn with
  | byt b => exact k b rfl h
  | _ => exact nm h
theorem none_by {v : AV} {F : Out} {M : Prop} (h : (match v with | .none => F | _ => .none) = some res) (k : F = some res -> M) : M := by
  induction v using DK.AV.casesOn with
  | none => exact k h
  | _ => exact nm h
theorem raise_snd (EV : EvAll prog w G tabs r m) (RR : RaiseRule prog w G tabs) (hb : b ≤ env.locals) {kr : AV -> Hp -> Out} {n : Nat} {c : Option Expr} {pos : Pos} : StS prog w G tabs m A fs kd cm env b kr (ex r fs kd kr (n + 1) (.Raise c .none pos)) (exec (.Raise c .none pos) env) := by
  intro l P kn res g s Q E X h hN hR hE
  induction q : raise1 c using Option.casesOn with
  | none =>
    refine nm (Eq.trans (Eq.symm (?_ : (match raise1 c with | some (x, e) => _ | .none => .none : Out) = none)) h)
    rw [q]
  | some z =>
    refine u21 (raise1_inv q) fun p pc e => ?_
    subst e
    exact oi (h : (if _ then _ else none) = some res) fun hx h => (kind_inv h).elim fun hk h => RR X hx hk (fun a b e => nm (evA_star.symm.trans (e ▸ h))) (evA_snd EV X hb h (fun v P₁ g₁ s₁ u q₁ w₁ r₁ => byt_by q₁ fun bv ev q₁ => ⟨bv, P₁, g₁, w₁, ev ▸ r₁, fun g₂ s₂ e w₂ x₂ => hE (.byt bv) P₁ g₂ s₂ e .fresh (si q₁).symm ((w₁.trans w₂).sw (X.lt hb)) x₂ (.inl rfl)⟩) hE)
theorem as_snd (FX : Facts prog w K G mg mb tabs) (TF : TabFacts G mg tabs) (EV : EvAll prog w G tabs r m) (hb : b ≤ env.locals) {kr : AV -> Hp -> Out} {n : Nat} {t e : Expr} {pos : Pos} : StS prog w G tabs m A fs kd cm env b kr (ex r fs kd kr (n + 1) (.Assign [t] e pos)) (exec (.Assign [t] e pos) env) := by
  intro l P kn res g s Q E X h hN hR hE
  refine (swaps_cases (env := env) (e := e) (t := t) (line := pos.line) (fun a b c d z => assign_by h (fun z_ z_ z_ z_ z_ e1 => Expr.noConfusion (z.symm.trans e1)) (fun z_ z_ e1 => Expr.noConfusion (z.symm.trans e1)) fun z_ q => nm (z ▸ q)) (fun a b c d f z => assign_by h (fun z_ z_ z_ z_ z_ e1 => Expr.noConfusion (z.symm.trans e1)) (fun z_ z_ e1 => Expr.noConfusion (z.symm.trans e1)) fun z_ q => nm (z ▸ q))).elim (fun hs => assign_snd FX TF EV hb X hs h hN hE) fun z => u64 z fun elt gens sc lp y py e1 e2 hk hs => ?_
  subst e1; subst e2
  exact assign_comp FX EV hb X hs hk h hN hE
theorem st_snd (FX : Facts prog w K G mg mb tabs) (TF : TabFacts G mg tabs) (EV : EvAll prog w G tabs r m) (RR : RaiseRule prog w G tabs) {outer : List Env} (hA : A.frames = some (env :: outer)) (hF : env.frame = some env.locals) (hb : b ≤ env.locals) (kr : AV -> Hp -> Out) (n : Nat) :
    ∀ st, StS prog w G tabs m A fs kd cm env b kr (ex r fs kd kr n st) (exec st env) := by
  induction n with
  | zero => exact fun st => sts_none fun z_ z_ z_ => rfl
  | succ n ih =>
    intro st
    have ib := blk_snd ih
    induction st using PySem.Stmt.casesOn with
    | For t it body orelse pos =>
      induction orelse using List.casesOn with
      | cons => exact sts_none fun z_ z_ z_ => rfl
      | nil => exact for_snd FX EV hA hF hb (ib body)
    | If t a c pos =>
      intro l P kn res g s Q E X h hN hR hE
      refine wpAny_If (evT_snd EV X hb h (fun x P' q => ite_ex q) (fun x t P' g' s' q ht w' => ?_) hE)
      have ws := w'.sw (X.lt hb)
      have q := ite_at q ht
      induction t using Bool.casesOn with
      | true => rw [if_pos rfl]; exact (ib a).use (X.went w') q (QFk.went ws hN) (QRk.sw ws hR) (hE.sw ws)
      | false => rw [if_neg Bool.false_ne_true]; exact (ib c).use (X.went w') q (QFk.went ws hN) (QRk.sw ws hR) (hE.sw ws)
    | Return v pos =>
      induction v using Option.casesOn with
      | none => exact sts_none fun z_ z_ z_ => rfl
      | some e =>
        intro l P kn res g s Q E X h hN hR hE
        refine (?_ : wpAny _ _ (standAt pos >>= fun z_ => eval e env >>= fun v => pure (Flow.ret v)) _ _ _)
        exact wpAny_bind (wpAny_standAt (wpAny_bind (evA_snd EV X hb h (fun v P' g' s' u q w' rv => wpAny_pure (hR v P' g' s' u q (w'.sw (X.lt hb)) rv)) hE)))
    | Expr e pos =>
      intro l P kn res g s Q E X h hN hR hE
      refine oe (h : (if _ then none else _) = some res) (fun z_ h => nm h) fun hc h => ?_
      have hi : interactive env = false := by unfold interactive; rw [X.V.fn]; rfl
      have hs : swapsWith e none pos.line env = pure false := by
        induction e using PySem.Expr.casesOn with
        | ListComp => exact absurd rfl hc
        | SetComp => exact absurd rfl hc
        | DictComp => exact absurd rfl hc
        | _ => rfl
      exact wpAny_Expr_any (evA_snd EV X hb h (fun v P' g' s' u q w' rv => none_by q fun q => hN l P' g' s' q (w'.sw (X.lt hb)) (X.F.ext X.R w'.2)) hE) hi hs
    | Assign ts e pos =>
      induction ts using List.casesOn with
      | nil => exact sts_none fun z_ z_ z_ => rfl
      | cons t ts =>
        induction ts using List.casesOn with
        | cons => exact sts_none fun z_ z_ z_ => rfl
        | nil => exact as_snd FX TF EV hb
    | Raise exc cause pos =>
      induction cause using Option.casesOn with
      | some => exact sts_none fun z_ z_ z_ => rfl
      | none => exact raise_snd EV RR hb
    | _ => exact sts_none fun z_ z_ z_ => rfl
end
end DK
namespace DK
open PySem PySem.W PySem.Calls PyProof.Rows
section
variable {prog : Program} {w : World} {K : Frag} {G : Heap} {mg mb : Str -> Option Value} {tabs : List (Addr × Addr × Str)} {m : Nat} {A : Around} {g : Gh} {P : Hp} {s : Shared} {res : Res} {r : CallR}
theorem CallOk.evAll (FX : Facts prog w K G mg mb tabs) (TF : TabFacts G mg tabs) (h7 : keepIn K (.ref 700) = true) (TR : ToldRule prog w G tabs) (hr : CallOk prog w G tabs r m) : EvAll prog w G tabs r m := fun n A fs kd cm env l e => ev_snd FX TF h7 TR hr n A fs kd cm env l e
noncomputable def defB (r : CallR) (fi : FI) (P : Hp) (args : List AV) : Out := match bindD fi.params args fi.dflt with
      | some b => blk (ex r ⟨cellNames fi.scope.names, fi.lam⟩ fi.scope.names (fun v P => some (.ok v P)) 12) fi.body (b.map fun p => (p.1, .av p.2)) P (fun z_ P => some (.ok .none P))
      | .none => .none
theorem bd_by {o : Option (List (Str × AV))} {F : List (Str × AV) -> Out} {M : Prop} (h : (match o with | some b => F b | .none => .none) = some res) (k : ∀ b, o = some b -> F b = some res -> M) : M := by
  induction o using Option.casesOn with
  | none => exact nm h
  | some b => exact k b rfl h
theorem room_lt (hM : Room (m + 1) A) : A.depth < 1000 := Nat.lt_of_le_of_lt (Nat.le_trans (Nat.le_add_right _ _) hM.1) (by decide)
theorem room_dn {n k : Nat} (l : k ≤ n) (hM : Room n A) : Room k A := ⟨Nat.le_trans (Nat.add_le_add_left (Nat.mul_le_mul_left 10 l) _) hM.1, Nat.le_trans (Nat.add_le_add_left (Nat.mul_le_mul_left 100 l) _) hM.2⟩
theorem slk8 {fs : Fs} : slk fs ≤ 8 := (Classical.em (fs.lam = true)).elim (fun e => Nat.le_of_eq (if_pos e)) fun e => Nat.le_trans (Nat.le_of_eq (if_neg e)) (by decide)
theorem room_e {fs : Fs} {env : Env} (hM : Room (m + 1) A) : RoomE m fs (A.deeper env) := by
  have h1 := hM.1
  have h2 := hM.2
  have h3 := slk8 (fs := fs)
  refine ⟨(?_ : A.depth + 1 + _ + _ ≤ _), (?_ : A.units + 3 + _ + _ ≤ _)⟩ <;> omega
theorem def_snd (FX : Facts prog w K G mg mb tabs) (TF : TabFacts G mg tabs) (h7 : keepIn K (.ref 700) = true) (TR : ToldRule prog w G tabs) (RR : RaiseRule prog w G tabs) (hr : CallOk prog w G tabs r m) {f : Addr} {fi : FI} (hf : finfo f = some fi) {args : List AV} {vs : List Value} {B : Result -> Shared -> Prop}
    (R : Rep prog w G tabs g P s.heap) (hC : CtxOk g A) (hM : Room (m + 1) A) (ra : VRs prog w g args vs) (h : defB r fi P args = some res)
    (hok : ∀ x P' g' s' u, res = .ok x P' -> Went prog w G tabs g s g' s' P' -> VR prog w g' x u -> B (.ok (.ret u)) s')
    (her : ∀ b P' g' s' e, res = .exc b P' -> Went prog w G tabs g s g' s' P' -> Exc prog w b .fly e g' s'.heap -> B (.error (.ref e)) s') : codeAny (model prog w) A (.call (.ref f) ⟨vs, []⟩) B s := by
  refine bd_by h fun b hb h => def_call FX R hC (room_lt hM) hf ra hb fun g₁ s₁ cm env w₁ hL hfr V F C₁ => ?_
  have X₁ : Cfg prog w G tabs m (A.deeper env) (fsOf fi) fi.scope.names cm env (b.map fun p => (p.1, .av p.2)) g₁ P s₁ := ⟨w₁.1, C₁, room_e hM, V, F⟩
  refine hC.2.elim fun fr q => ?_
  have hA : (A.deeper env).frames = some (env :: fr) := congrArg (Option.map (env :: ·)) q.1
  refine (blk_snd (st_snd FX TF (hr.evAll FX TF h7 TR) RR hA hfr hL (fun v P => some (.ok v P)) 12) fi.body).use X₁ h (fun l' P' g' s' q w' F' => hok .none P' g' s' .none (si q).symm ⟨w'.1, w₁.2.trans w'.2⟩ .none) (fun v P' g' s' u q w' rv => hok v P' g' s' u (si q).symm ⟨w'.1, w₁.2.trans w'.2⟩ rv) (fun bv P' g' s' e st q w' x' hs => ?_)
  refine leave_snd hA hfr ((C₁.le w'.2.le).all hA) w'.1 x' hs fun h'' N x'' => ?_
  have st' : Step prog w G tabs g' s' g' P' h'' s'.toks := N.step w'.1
  exact her bv P' g' _ e q ⟨st'.1, (w₁.2.trans w'.2).trans (st'.2 _)⟩ x''
noncomputable def RestRule (prog : Program) (w : World) (G : Heap) (tabs : List (Addr × Addr × Str)) (r : CallR) (m : Nat) : Prop := ∀ {P : Hp} {a fI : Nat} {args : List AV} {res : Res} {g : Gh} {s : Shared} {A : Around} {vs : List Value} {B : Result -> Shared -> Prop}, initOf a = some fI ->
  Rep prog w G tabs g P s.heap -> CtxOk g A -> Room (m + 1) A -> VRs prog w g args vs ->
  (if a = 72 then (bindD thingNames args thingDflt).map fun b => .ok (.ins 72 (putsF b [])) P
              else (match r (P ++ [.inst a []]) (DK.rf fI) (.ref P.length :: args) with
              | some (.ok .none Q) => some (.ok (.ref P.length) Q)
              | _ => .none)) = some res ->
  (∀ x P' g' s' u, res = .ok x P' -> Went prog w G tabs g s g' s' P' -> VR prog w g' x u -> B (.ok (.ret u)) s') ->
  codeAny (model prog w) A (.call (.ref a) ⟨vs, []⟩) B s
noncomputable def BuiltRule (prog : Program) (w : World) (G : Heap) (tabs : List (Addr × Addr × Str)) : Prop := ∀ {P : Hp} {f : AV} {args : List AV} {res : Res} {g : Gh} {s : Shared} {A : Around} {fv : Value} {vs : List Value} {Q E : Value -> Shared -> Prop}, isB f = true -> Rep prog w G tabs g P s.heap -> CtxOk g A -> Room 1 A ->
    VR prog w g f fv -> VRs prog w g args vs -> builtB P f args = some res -> (∀ x P' g' s' u, res = .ok x P' -> Went prog w G tabs g s g' s' P' -> VR prog w g' x u -> Q u s') ->
    (∀ b P', res ≠ .exc b P') ∧ wpAny (model prog w) A (call fv vs []) Q E s
theorem call_step (FX : Facts prog w K G mg mb tabs) (TF : TabFacts G mg tabs) (h7 : keepIn K (.ref 700) = true) (TR : ToldRule prog w G tabs) (RR : RaiseRule prog w G tabs) (BR : BuiltRule prog w G tabs) (hr : CallOk prog w G tabs r m) (RS : RestRule prog w G tabs r m) : CallOk prog w G tabs (callB r) (m + 1) := by
  refine ⟨?_, ?_⟩
  · intro P f args res g s A fv vs B hf R hC hM rf ra h hok her
    have rv := rf.inv
    induction f using DK.AV.casesOn with
    | top v =>
      have rv : fv = v := rv
      subst rv
      induction fv using PySem.Value.casesOn with
      | ref a =>
        have h' : (match finfo a with
          | some fi => defB r fi P args
          | .none => match initOf a with
            | some fI => _
            | .none => .none) = some res := h
        induction hi : finfo a using Option.casesOn with
        | some fi =>
          rw [hi] at h'
          exact def_snd FX TF h7 TR RR hr hi R hC hM ra h' hok her
        | none =>
          rw [hi] at h'
          induction hj : initOf a using Option.casesOn with
          | none => rw [hj] at h'; exact nm h'
          | some fI =>
            rw [hj] at h'
            exact RS hj R hC hM ra h' hok
      | builtin => exact nt hf.symm
      | type => exact nt hf.symm
      | _ => exact nm h
    | met a self => exact u23 rv fun e v ev e1 rs => ev ▸ method_call (R.fro _ _ e1) (hr.code rfl R hC (room_dn (Nat.le_succ m) hM) (.top _) (.cons rs ra) h hok her)
    | _ => exact nm h
  · intro P f args res g s A fv vs Q E hf R hC hM rf ra h hok
    refine BR hf R hC (room_dn (Nat.succ_le_succ (Nat.zero_le m)) hM) rf ra ?_ hok
    induction f using DK.AV.casesOn with
    | top v => induction v using PySem.Value.casesOn with
      | builtin => exact h
      | type => exact h
      | _ => exact nt hf
    | _ => exact nt hf
theorem calls_ok (FX : Facts prog w K G mg mb tabs) (TF : TabFacts G mg tabs) (h7 : keepIn K (.ref 700) = true) (TR : ToldRule prog w G tabs) (RR : RaiseRule prog w G tabs) (BR : BuiltRule prog w G tabs) (RS : ∀ n, CallOk prog w G tabs (R n) n -> RestRule prog w G tabs (R n) n) (n : Nat) : CallOk prog w G tabs (R n) n := by
  induction n with
  | zero =>
    exact ⟨fun z_ z_ z_ z_ z_ z_ h => nm h, fun z_ z_ z_ z_ z_ z_ h => nm h⟩
  | succ n ih => exact call_step FX TF h7 TR RR BR ih (RS n ih)
end
end DK
namespace DK
open PySem PySem.W PySem.Calls PyProof.Rows
inductive ToldForm (fi : FI) (f c x e : Str) : Prop
  | mk (p1 p2 p3 p4 p5 p6 p7 p8 p9 p10 p11 p12 p13 p14 p15 p16 p17 p18 p19 p20 : Pos) (k1 k2 k3 k4 k5 : Nat) (h :
  fi.body = [.Assign [.Name f p1] (.Constant .none k1 p2) p3,
    .Try [.Assign [.Name f p4] (.Tuple [.Call (.Name c p5) [] [] p6, .Constant .none k2 p7] k3 p8) p9]
      [.ExceptHandler (some (.Name x p10)) (some e) [.Assign [.Name f p11] (.Tuple [.Constant .none k4 p12, .Attribute (.Name e p13) "told" p14] k5 p15) p16] p17] [] [] p18,
    .Return (some (.Name f p19)) p20]) : ToldForm fi f c x e
structure ToldFn (fi : FI) (f c x e : Str) : Prop where
  form : ToldForm fi f c x e
  par : fi.params = [c]
  dfl : fi.dflt = []
  kf : slook f fi.scope.names = some .local
  kc : slook c fi.scope.names = some .local
  kx : slook x fi.scope.names = some .globalImplicit
  ke : slook e fi.scope.names = some .local
  fc : c ≠ f
  fe : f ≠ e
section
variable {prog : Program} {w : World} {K : Frag} {G : Heap} {mg mb : Str -> Option Value} {tabs : List (Addr × Addr × Str)} {A : Around} {fs : Fs} {kd : Kinds} {cm : Str -> Option Addr} {env : Env} {l : Loc} {g g' : Gh} {P : Hp} {s s' : Shared} {E : Value -> Shared -> Prop}
theorem Exc.keep {b : AV} {st : ExSt} {e : Addr} {h h' : Heap} (k : ∀ a o, g.ρ a = .any -> h.get? a = some o -> h'.get? a = some o) (x : Exc prog w b st e g h) : Exc prog w b st e g h' := by
  refine x.casesOn fun d es ep vs tv he re rd hne hd ht rv nt hsz tb => ⟨d, es, ep, vs, tv, k _ _ re he, re, rd, hne, k _ _ rd hd, ht, rv, nt, hsz, ?_⟩
  have tk : ∀ {fl : Value}, TbAt e d vs fl g h -> TbAt e d vs fl g h' := fun z => z.casesOn fun T oT ts h1 rT h2 h3 hT r1 r2 => ⟨T, oT, ts, h1, rT, h2, h3, k _ _ rT hT, r1, r2⟩
  cases st with
  | fresh => exact tb
  | fly => exact tk tb
  | held L => exact tk tb
theorem set_name {f : Str} {p pos : Pos} {e : Expr} {Q : Flow -> Shared -> Prop} (hs : swapsWithSole [.Name f p] e pos.line env = pure false) (hw : swappedStores [.Name f p] e env = pure none)
    (h : wpAny (model prog w) A (eval e env) (fun u s₁ => wpAny (model prog w) A (storeName env f u) (fun z_ s₂ => Q .next s₂) E s₁) E s) : wpAny (model prog w) A (exec (.Assign [.Name f p] e pos) env) Q E s := by
  refine assign_plain hs (wpAny_mono h (fun u s₁ h₁ => ?_) fun z_ z_ x => x)
  rw [hw]
  refine wpAny_bind (wpAny_pure ?_)
  refine (?_ : wpAny _ _ (assign (.Name f p) env u >>= fun z_ => pure Flow.next) _ _ _)
  exact wpAny_bind (wpAny_assign_Name (wpAny_mono h₁ (fun z_ z_ x => wpAny_pure x) fun z_ z_ x => x))
theorem sizeL2 (a b : Value) : [a, b].length ≤ sizeLine := len_ok (m := 2) rfl (by decide)
theorem storeLoc {Q : Unit -> Shared -> Prop} {x : Str} {v : LV} {u : Value} (V : EnvOk tabs fs kd cm env) (F : Frm prog w fs kd cm env l g s.heap) (R : Rep prog w G tabs g P s.heap) (hk : slook x kd = some .local) (r : LVR prog w fs.cn cm g v u)
    (h : ∀ s', Rep prog w G tabs g P s'.heap -> Ext env.locals g s g s' -> Frm prog w fs kd cm env (sput x v l) g s'.heap -> (∀ a o, g.ρ a = .any -> s.heap.get? a = some o -> s'.heap.get? a = some o) -> Q () s') : wpAny (model prog w) A (storeName env x u) Q E s := by
  exact u12 F.loc fun m n q => wpAny_storeName_local (V.loc x hk).1 n (fun h' n' hs => h { s with heap := h', toks := s.toks + 1 } (R.ns F.frm n' hs) (Ext.frame (.inl F.frm) (Nat.le_refl _) hs)
    ⟨F.frm, F.cells, ⟨_, n', fun y v' e1 e2 => sput_by e2 (fun hy hv => ⟨u, if_pos hy, hv ▸ r⟩) fun hy e2 => (q y v' e1 e2).imp fun z_ z => z.imp_left (if_neg hy).trans⟩,
      fun y v' c e1 e2 => sput_by e1 (fun hy z_ => DK.nm ((V.loc x hk).2.symm.trans (hy ▸ e2))) fun hy e1 => (F.cel y v' c e1 e2).imp fun z_ z => z.imp fun z_ z => z.imp_left fun c1 => c1.sameBut hs fun z => rx (F.frm.symm.trans (z ▸ F.cells y c e2))⟩
    fun a o ra e => (hs.2 a fun z => rx (F.frm.symm.trans (z ▸ ra))).trans e) (by rw [V.fn]; rfl)
theorem sl_at {x : Str} {v : LV} {l : Loc} : slook x (sput x v l) = some v := (slook_sput x x v l).trans (if_pos rfl)
theorem sl_ne {x y : Str} {v : LV} {l : Loc} (h : y ≠ x) : slook y (sput x v l) = slook y l := (slook_sput x y v l).trans (if_neg h)
theorem nameGoes {n f : Str} {pos : Pos} {v : LV} {Q : Unit -> Shared -> Prop} (V : EnvOk tabs fs kd cm env) (F : Frm prog w fs kd cm env l g s.heap) (R : Rep prog w G tabs g P s.heap) (hn : slook n kd = some .local) (hf : slook f kd = some .local) (hne : f ≠ n) (hl : slook f l = some v)
    (h : ∀ s', Rep prog w G tabs g P s'.heap -> Ext env.locals g s g s' -> Frm prog w fs kd cm env [(f, v)] g s'.heap -> Q () s') : wpAny (model prog w) A (do bindName env n .none; unbindBehindTheSuite env n pos) Q E s := by
  refine wpAny_bind (wpAny_bindName (storeLoc V F R hn (.av .none) fun s₁ R₁ e₁ F₁ z_ => ?_))
  unfold unbindBehindTheSuite
  refine u12 F₁.loc fun m ns q => u12 (q n _ hn sl_at) fun u hu z_ => u12 (q f v hf ((sl_ne hne).trans hl)) fun uf huf rf => ?_
  exact wpAny_onRaise (wpAny_unbindName_local (V.loc n hn).1 ns hu (by rw [V.fn]; rfl) fun h' z n' hs => h { s₁ with heap := h' } (R₁.ns F.frm n' hs) (e₁.trans (Ext.frame (tk := s₁.toks) (.inl F.frm) (Nat.le_refl _) hs))
    ⟨F.frm, F.cells, ⟨_, n', fun y v' e1 e2 => oi (e2 : (if y = f then some v else none) = some v') fun hy e2 => ⟨uf, (if_neg (hy ▸ hne)).trans (hy ▸ huf), si e2 ▸ rf⟩⟩, fun y v' c e1 e2 => oi (e1 : (if y = f then some v else none) = some v') fun hy z_ => DK.nm ((V.loc f hf).2.symm.trans (hy ▸ e2))⟩)
theorem nd_of (V : EnvOk tabs fs kd cm env) {y : Str} {k : NameKind} (hk : slook y kd = some k) : (y == ("__debug__" : Str)) = false := (not_bad (V.nbad y k hk)).1
theorem told_ret {f : Str} {p19 p20 : Pos} {B : Flow -> Shared -> Prop} {v : AV} (V : EnvOk tabs fs kd cm env) (F₃ : Frm prog w fs kd cm env l g s.heap) (hf : slook f kd = some .local) (hl : slook f l = some (.av v)) (h : ∀ t, VR prog w g v t -> B (.ret t) s) : wpAny (model prog w) A (execs [.Return (some (.Name f p19)) p20] env) B E s := by
  refine (?_ : wpAny _ _ ((standAt p20 >>= fun z_ => eval (.Name f p19) env >>= fun v => pure (Flow.ret v)) >>= fun fl => match fl with | .next => execs [] env | f => pure f) _ _ _)
  exact wpAny_bind (wpAny_bind (wpAny_standAt (wpAny_bind (wpAny_Name (loadName_snd V F₃ hf (.inl rfl) hl fun t rt => wpAny_pure (wpAny_pure (h t rt.va))) (nd_of V hf)))))
theorem told_try (FX : Facts prog w K G mg mb tabs) (XF : ExcFacts K) {nm q : Str} {N : Addr} {bs : List Value} {hdct : Bool} {sn : List Str} {sub : List Value} {ab : Bool} {col : Option Bool} {dd : Option Addr} {k0 k1 k2 k3 k5 : Option Value} {newId : String} {bm : List Value}
    (hC : G.get? 52 = some (excClassObj nm q 52 N bs bm hdct sn sub ab col dd k0 k1 k2 k3 k5 newId)) (hbm : bm.contains (.type "BaseException") = true)
    {fi : FI} {f c x e : Str} (TF : ToldFn fi f c x e) (hx : mg x = some (.ref 52)) {p4 p5 p6 p7 p8 p9 p10 p11 p12 p13 p14 p15 p16 p17 p18 : Pos} {c2 c3 c4 c5 : Nat} {fr : List Env} {u : Value} {B : Flow -> Shared -> Prop} {k : AV -> Hp -> Out} {res : Res} {b : Nat}
    (hb : b ≤ env.locals) (hbs : b ≤ s.heap.objs.size) (hA : A.frames = some (env :: fr)) (hfr : env.frame = some env.locals) (V : EnvOk tabs (fsOf fi) fi.scope.names cm env) (F₂ : Frm prog w (fsOf fi) fi.scope.names cm env l g s.heap) (R₂ : Rep prog w G tabs g P s.heap) (C₁ : CtxOk g A) (hlc : slook c l = some (.av (.top u)))
    (hkeep : ∃ k, (k = Keeper.frame ∨ k = Keeper.machine ∨ k = Keeper.boundFrame) ∧ Looks (model prog w) s.heap (keeperOf u) k)
    (H : ∀ (B : Result -> Shared -> Prop), (∀ x P'' g'' s'' t, k (.tup [x, .none]) P'' = some res -> Went prog w G tabs g s g'' s'' P'' -> VR prog w g'' x t -> B (.ok (.ret t)) s'') ->
      (∀ b P'' g'' s'' e, k (.tup [.none, b]) P'' = some res -> Went prog w G tabs g s g'' s'' P'' -> Exc prog w b .fly e g'' s''.heap -> B (.error (.ref e)) s'') -> codeAny (model prog w) A (.call u ⟨[], []⟩) B s)
    (hQ : ∀ l₃ v P₃ g₃ s₃, SWent prog w G tabs b g s g₃ s₃ P₃ -> Frm prog w (fsOf fi) fi.scope.names cm env l₃ g₃ s₃.heap -> slook f l₃ = some (.av v) -> k v P₃ = some res -> B .next s₃) :
    wpAny (model prog w) A (exec (.Try [.Assign [.Name f p4] (.Tuple [.Call (.Name c p5) [] [] p6, .Constant .none c2 p7] c3 p8) p9]
      [.ExceptHandler (some (.Name x p10)) (some e) [.Assign [.Name f p11] (.Tuple [.Constant .none c4 p12, .Attribute (.Name e p13) "told" p14] c5 p15) p16] p17] [] [] p18) env) B E s := by
  refine wpAny_Try_except ?_
  refine (?_ : wpAny _ _ (exec _ env >>= fun fl => match fl with | .next => execs _ env | f => pure f) _ _ _)
  refine wpAny_bind (set_name rfl rfl (wpAny_Tuple ?_))
  refine (?_ : wpAny _ _ (spliced ((false, eval (.Call (.Name c p5) [] [] p6) env) :: (false, eval (.Constant .none c2 p7) env) :: [])) _ _ _)
  refine spliced_cons ?_
  refine (?_ : wpAny _ _ (eval (.Name c p5) env >>= fun f => callWith p6 f [] [] []) _ _ _)
  refine wpAny_bind (wpAny_Name (loadName_snd V F₂ TF.kc (.inl rfl) hlc fun t rt => ?_) (nd_of V TF.kc))
  have et : t = u := rt.va.inv
  subst et
  refine callWith_of (P := fun h => h = s.heap) rfl (fun h e => e ▸ hkeep) (evalArgs_nil3 ⟨rfl, wpAny_call (H _ (fun v P₃ g₃ s₃ t hk w₃ rv => ?_) fun bv P₃ g₃ s₃ ex hk w₃ xe => ?_)⟩)
  · refine spliced_cons (wpAny_Constant_none (spliced_nil ⟨sizeL2 _ _, ?_⟩))
    have fr := w₃.1.froze (o := tupObj [t, Value.none].toArray 0) rfl
    have F₃ := F₂.ext R₂ (w₃.2.trans ((fr.2.2.1 _ s₃.toks)))
    refine storeLoc V F₃ fr.1 TF.kf (.av (.tup fr.2.2.2 (.cons (rv.mono fr.2.1) (.cons .none .nil)))) fun s₄ R₄ e₄ F₄ z_ => wpAny_pure (wpAny_pure ?_)
    exact hQ _ _ _ _ _ ⟨R₄, (w₃.2.down hbs).trans ((fr.2.2.1 _ _).trans (e₄.down hb))⟩ F₄ sl_at hk
  · have F₃ := F₂.ext R₂ w₃.2
    have C₃ := C₁.le w₃.2.le
    refine note_snd hA hfr (C₃.all hA) w₃.1 xe (.inr (.inl rfl)) fun h₄ N x₄ => ?_
    refine flight_snd (s := { s₃ with heap := h₄ }) (N.step (tk := s₃.toks) w₃.1).1 x₄ nofun (.inl ⟨rfl, rfl⟩) fun h₅ N' x₅ => ?_
    have st₅ : Step prog w G tabs g₃ s₃ g₃ P₃ h₅ s₃.toks := (N.trans N').step w₃.1
    have n1 : h₅.Ns env.globals mg := by rw [V.glob]; exact FX.ns.keeps st₅.1.inG
    refine wpAny_handleBy_cons (codeAny_handlers_test (Name_function_global V.fn (V.gi x TF.kx) (loadGlobal_global n1 hx ?_) (nd_of V TF.kx))) nofun
    refine x₅.casesOn fun d es ep vs tv he z_ z_ z_ z_ z_ z_ z_ z_ z_ => wpAny_excMatches_sub_self (st₅.1.inG _ _ hC) he rfl hbm ?_
    refine codeAny_handlers_suite_as (flight_snd (s := { s₃ with heap := h₅ }) st₅.1 x₅ nofun (.inl ⟨rfl, rfl⟩) fun h₆ N'' x₆ => ?_)
    have st₆ : Step prog w G tabs g₃ s₃ g₃ P₃ h₆ s₃.toks := ((N.trans N').trans N'').step w₃.1
    have F₆ := F₃.ext w₃.1 (st₆.2 _)
    refine storeLoc (s := { s₃ with heap := h₆ }) V F₆ st₆.1 TF.ke (.av (.top _)) fun s₇ R₇ e₇ F₇ k₇ => ?_
    refine (x₆.keep k₇).casesOn fun d es ep vs tv he re rd hne hd ht rv nt z_ z_ => ?_
    refine (?_ : wpAny _ _ (exec _ env >>= fun fl => match fl with | .next => execs _ env | f => pure f) _ _ _)
    refine wpAny_bind (set_name rfl rfl (wpAny_Tuple ?_))
    refine (?_ : wpAny _ _ (spliced ((false, eval (.Constant .none c4 p12) env) :: (false, eval (.Attribute (.Name e p13) "told" p14) env) :: [])) _ _ _)
    refine spliced_cons (wpAny_Constant_none (spliced_cons ?_))
    rw [arm_eval_Attribute, base_of (o := .Name e p13) rfl]
    refine wpAny_bind (wpAny_Name (loadName_snd V F₇ TF.ke (.inl rfl) sl_at fun t rt => wpAny_bind (wpAny_standAt ?_)) (nd_of V TF.ke))
    have et : t = _ := rt.va.inv
    subst et
    refine wpAny_bind (wpAny_holding (getTold (FX.at R₇) XF he hd ht (handed_of rv nt) (wpAny_bind (wpAny_letTemporaryGo (wpAny_pure (spliced_nil ⟨sizeL2 _ _, ?_⟩))))))
    have fr := Rep.froze (s := { s₇ with toks := s₇.toks + 1 }) R₇ (o := tupObj [Value.none, tv].toArray 0) rfl
    have F₈ := Frm.ext (s := { s₇ with toks := s₇.toks + 1 }) F₇ R₇ (fr.2.2.1 _ (s₇.toks + 1))
    refine storeLoc V F₈ fr.1 TF.kf (.av (.tup fr.2.2.2 (.cons .none (.cons (rv.mono fr.2.1) .nil)))) fun s₉ R₉ e₉ F₉ z_ => wpAny_pure ?_
    refine nameGoes V F₉ R₉ TF.ke TF.kf TF.fe sl_at fun s₁₀ R₁₀ e₁₀ F₁₀ => ?_
    exact hQ _ _ _ _ _ ⟨R₁₀, (w₃.2.down hbs).trans ((st₆.2 _).trans ((e₇.down hb).trans ((Ext.toks (tk := s₇.toks + 1)).trans ((fr.2.2.1 _ _).trans ((e₉.down hb).trans (e₁₀.down hb))))))⟩ F₁₀ (if_pos rfl) hk
theorem told_rule (FX : Facts prog w K G mg mb tabs) (XF : ExcFacts K) {nm q : Str} {N : Addr} {bs : List Value} {hdct : Bool} {sn : List Str} {sub : List Value} {ab : Bool} {col : Option Bool} {dd : Option Addr} {k0 k1 k2 k3 k5 : Option Value} {newId : String} {bm : List Value}
    (hC : G.get? 52 = some (excClassObj nm q 52 N bs bm hdct sn sub ab col dd k0 k1 k2 k3 k5 newId)) (hbm : bm.contains (.type "BaseException") = true)
    {fi : FI} {f c x e : Str} (hfi : finfo 700 = some fi) (TF : ToldFn fi f c x e) (hx : mg x = some (.ref 52)) : ToldRule prog w G tabs := by
  intro A g P s u k res Q E R hCA hd hu hkeep H hQ
  refine TF.form.casesOn fun p1 p2 p3 p4 p5 p6 p7 p8 p9 p10 p11 p12 p13 p14 p15 p16 p17 p18 p19 p20 c1 c2 c3 c4 c5 hbody => ?_
  have hb : bindD fi.params [AV.top u] fi.dflt = some [(c, .top u)] := by rw [TF.par, TF.dfl]; rfl
  refine wpAny_call (def_call FX R hCA (Nat.lt_of_le_of_lt hd (by decide)) hfi (.cons (.top u) .nil) hb fun g₁ s₁ cm env w₁ hL hfr V F C₁ => ?_)
  rw [hbody]
  refine hCA.2.elim fun fr q => ?_
  have hA : (A.deeper env).frames = some (env :: fr) := congrArg (Option.map (env :: ·)) q.1
  refine (?_ : wpAny _ _ (exec _ env >>= fun fl => match fl with | .next => execs _ env | f => pure f) _ _ _)
  refine wpAny_bind (set_name rfl rfl (wpAny_Constant_none (storeLoc V F w₁.1 TF.kf (.av .none) fun s₂ R₂ e₂ F₂ z_ => ?_)))
  have w₂ : Went prog w G tabs g s g₁ s₂ P := ⟨R₂, w₁.2.trans (e₂.down hL)⟩
  refine (?_ : wpAny _ _ (exec _ env >>= fun fl => match fl with | .next => execs _ env | f => pure f) _ _ _)
  refine wpAny_bind (told_try FX XF hC hbm TF hx hL w₂.2.size hA hfr V F₂ R₂ C₁ ((sl_ne TF.fc).trans (if_pos rfl)) (hkeep _ _ w₂) (fun B h1 h2 => H (A.deeper env) g₁ s₂ B C₁ (Nat.le_succ _) (Nat.add_le_add_left (by decide : 3 ≤ 10) _) w₂ h1 h2) fun l₃ v P₃ g₃ s₃ w₃ F₃ hl hk => ?_)
  exact told_ret V F₃ TF.kf hl fun t rt => hQ v P₃ g₃ s₃ t hk ⟨w₃.1, w₂.2.trans w₃.2⟩ rt
end
end DK
namespace DK
open PySem PySem.W PySem.Calls PyProof.Rows Builtin Builtin.ObjectAttr
theorem tcw (C : Addr) (rest : List Value) : (Code.builtin "type.__call__" ⟨.ref C :: rest, []⟩).weight = 1 := by kernel_rfl
theorem tcu (C : Addr) (rest : List Value) : (Code.builtin "type.__call__" ⟨.ref C :: rest, []⟩).cUnits = 1 := by kernel_rfl
theorem tce (C : Addr) (rest : List Value) : (Code.builtin "type.__call__" ⟨.ref C :: rest, []⟩).envs = [] := by kernel_rfl
structure ExcFacts2 (K : Frag) : Prop extends ExcFacts K where
  mro : ∃ cd, clsIn K 52 = some cd ∧ cd.mro = .ref 52 :: bmE ∧ cd.hasDict = true
  obj : mroIn K 52 (.type "object") = some true
  keep : keepIn K (.ref 52) = true
  ini : findIn K (.ref 52) "__init__" = some (some (.ref 36))
  fn36 : typeIn K (.ref 36) = some (.type "function")
section
variable {prog : Program} {w : World} {K : Frag} {A : Around} {E : Value -> Shared -> Prop} {s : Shared}
theorem setTold {e : Addr} {vs : Array Value} {u : Value} {Q : Unit -> Shared -> Prop} (X : K.In s.heap) (F : ExcFacts2 K) (he : s.heap.get? e = some { cls := .ref 52, data := .fields vs })
    (h : ∀ h' tk D es ep, s.heap.objs.size ≤ h'.objs.size -> (∀ a o, a ≠ e -> s.heap.get? a = some o -> h'.get? a = some o) -> s.heap.objs.size ≤ D -> h'.get? e = some { cls := .ref 52, dict := some D, data := .fields vs } -> h'.get? D = some (dctObj es ep) ->
      getL "told" es.toList = some (some u) -> Q () { s with heap := h', toks := tk }) : wpAny (model prog w) A (setAttr (.ref e) "told" u) Q E s := by
  have I : InstAt s.heap e { cls := .ref 52, data := .fields vs } 52 none := ⟨he, rfl, rfl, trivial⟩
  refine u13 F.mro fun cd hc hm hd => ?_
  have SF := PySem.F.store_Exception
  refine set_plain X I F.sa ?_
  have I' : InstAt ({ s with toks := s.toks + 1 } : Shared).heap e { cls := .ref 52, data := .fields vs } 52 none := I
  have sub : Looks (model prog w) s.heap (isInstance (.ref e) (.type "object")) true := I.type.andThen (looks_mroIn X F.obj)
  have hM : Looks (model prog w) s.heap (mroOf (.ref 52)) cd.mro := (looks_clsIn X hc).andThen .now
  refine codeAny_call_builtin SF.slot.plain SF.entry (@check_slot (model prog w) _ _ { s with toks := s.toks + 1 } "object.__setattr__" "object" "__setattr__" (.ref e) [.str "told" s.toks, u] [] _ SF.kind SF.split sub (SF.args (.ref e) (.str "told" s.toks) u) ?_)
  rw [osa_eq, refuse_eq]
  refine wpAny_bind (wpAny_bind (Looks.here (s := { s with toks := s.toks + 1 }) I.type (wpAny_bind (Looks.here (s := { s with toks := s.toks + 1 }) hM ?_))))
  rw [hm, refuseLoop_ref, refuseLoop_ref, SF.passes]
  refine wpAny_pure (wpAny_bind (Looks.here (s := { s with toks := s.toks + 1 }) I.type (wpAny_bind (Looks.here (s := { s with toks := s.toks + 1 }) (looks_findIn X F.tol) (wpAny_bind (wpAny_pure ?_))))))
  refine wpAny_bind (wpAny_pure (wpAny_bind (wpAny_bind (wpAny_loadPart (s := { s with toks := s.toks + 1 }) he (wpAny_bind (Looks.here (s := { s with toks := s.toks + 1 }) (looks_clsIn X hc) ?_))))))
  rw [hd]
  have he₁ := Heap.get?_push_of_some ({ cls := .type "dict", data := .dict #[] } : Obj) he
  have hes : e ≠ s.heap.objs.size := Nat.ne_of_lt (Heap.lt_size he)
  refine wpAny_bind (wpAny_alloc ?_)
  refine wpAny_bind (wpAny_update he₁ ?_)
  refine wpAny_pure (a := some s.heap.objs.size) ?_
  have he₂ : ((s.heap.push { cls := .type "dict", data := .dict #[] }).update e fun o => { o with dict := some s.heap.objs.size }).get? e = some { cls := .ref 52, dict := some s.heap.objs.size, data := .fields vs } := Heap.get?_update_self _ he₁ rfl
  have hD₂ : ((s.heap.push { cls := .type "dict", data := .dict #[] }).update e fun o => { o with dict := some s.heap.objs.size }).get? s.heap.objs.size = some (dctObj #[]) :=
    (Heap.get?_update_other _ _ hes).trans (Heap.get?_push_size _ rfl)
  refine (?_ : wpAny _ _ (storeInDict s.heap.objs.size (.str "told" s.toks) "told" u) _ _ _)
  unfold storeInDict newKeyGuard
  refine wpAny_bind (wpAny_pure (wpAny_bind ?_))
  unfold nsSet
  refine wpAny_bind (wpAny_bind (wpAny_askSetting (wpAny_pure (wpAny_bind (wpAny_mkText (wpAny_bind (wpAny_loadPart hD₂ ?_)))))))
  dsimp only
  rw [aRefKeyMayBeTheName_at, show (!(#[] : Array DictEntry).any (·.key.isStr "told") && (#[] : Array DictEntry).any (·.refKey)) = false from by simp]
  have key := putName_dict "told" (PyData.keyHash w.params "told") (.str "told" (s.toks + 1)) u [] 0
  have D' := Heap.get?_update_self (Obj.putName "told" (PyData.keyHash w.params "told") (.str "told" (s.toks + 1)) u) hD₂ (by rw [key]; rfl)
  rw [key] at D'
  refine wpAny_updatePart hD₂ ?_
  refine wpAny_bind (wpAny_lookBehind D' (pastItsLine_dict (by rw [List.size_toArray, sizeLine_eq]; show 1 ≤ _; omega)) ?_)
  refine wpAny_pure (h _ _ s.heap.objs.size _ _ ?_ (fun a o hne q => ?_) (Nat.le_refl _) ((Heap.get?_update_other _ _ (Ne.symm hes)).trans he₂) D' rfl)
  · rw [Heap.size_after_update, Heap.size_after_update, Heap.size_push]; omega
  · rw [Heap.get?_update_other _ _ (Nat.ne_of_gt (Heap.lt_size q)), Heap.get?_update_other _ _ (Ne.symm hne)]
    exact Heap.get?_push_of_some _ q
end
end DK
namespace DK
open PySem PySem.W PySem.Calls PyProof.Rows Builtin Builtin.ObjectAttr
section
variable {prog : Program} {w : World} {K : Frag} {G : Heap} {mg mb : Str -> Option Value} {tabs : List (Addr × Addr × Str)} {A : Around} {g : Gh} {P : Hp} {s : Shared} {E : Value -> Shared -> Prop} {env : Env}
theorem raiseMade {nm q : Str} {C N : Addr} {bs bm : List Value} {hdct : Bool} {sn : List Str} {sub : List Value} {ab : Bool} {col : Option Bool} {dd : Option Addr} {k0 k1 k2 k3 k5 : Option Value} {newId : String} {x : Sem Value} {Q : Flow -> Shared -> Prop} (hbase : bm.contains (.type "BaseException") = true) (hh : A.handled = none)
    (h : wpAny (model prog w) A x (fun v s₁ => ∃ e d vs, v = .ref e ∧ s₁.heap.get? C = some (excClassObj nm q C N bs bm hdct sn sub ab col dd k0 k1 k2 k3 k5 newId) ∧
      s₁.heap.get? e = some { cls := .ref C, dict := d, data := .fields vs } ∧ vs[1]? = some .none ∧ E (.ref e) s₁) E s) :
    wpAny (model prog w) A (raiseStmt env (some x) none) Q E s := by
  have hcB : (Value.ref C :: bm).contains (.type "BaseException") = true := by rw [List.contains_cons, hbase, Bool.or_true]
  unfold raiseStmt
  refine wpAny_bind (wpAny_mono h (fun v s₁ h₁ => ?_) fun z_ z_ x => x)
  refine u35 h₁ fun e d vs ev hC he h1 hE => ?_
  subst ev
  obtain ⟨hp, g, d, tk, os⟩ := s₁
  repeat (first | with_reducible refine wpAny_loadPart_at he ?_ | with_reducible refine wpAny_loadPart_at hC ?_ | (with_reducible refine wpAny_isSubtype_exc hC ?_; rw [hcB]) | wp_step)
  rw [h1]
  refine wpAny_pure ?_
  rw [if_neg (by decide)]
  exact wpAny_pure (wpAny_raiseNew_none hh hE)
structure PutFn (fi : FI) (x t : Str) : Prop where
  form : ∃ p1 p2 p3 p4 : Pos, fi.body = [.Assign [.Attribute (.Name x p1) "told" p2] (.Name t p3) p4]
  par : fi.params = [x, t]
  kx : slook x fi.scope.names = some .local
  kt : slook t fi.scope.names = some .local
  ne : t ≠ x
set_option maxHeartbeats 400000 in
theorem raise_rule (FX : Facts prog w K G mg mb tabs) (XF : ExcFacts2 K) {nm q : Str} {N : Addr} {bs : List Value} {hdct : Bool} {sn : List Str} {sub : List Value} {ab : Bool} {col : Option Bool} {dd : Option Addr} {k0 k1 k2 k3 k5 : Option Value}
    (hC : G.get? 52 = some (excClassObj nm q 52 N bs bmE hdct sn sub ab col dd k0 k1 k2 k3 k5 "Exception.__new__"))
    {fi : FI} {sf tn : Str} (hfi : finfo 36 = some fi) (PF : PutFn fi sf tn) (hps : mg "PsError" = some (.ref 52)) : RaiseRule prog w G tabs := by
  intro m A fs kd cm env l g P s x p pc pos e Q E X hx hk hst h
  have hh := X.C.1
  have hM := X.M.room
  rw [arm_exec_Raise]
  refine wpAny_bind (wpAny_standAt (raiseMade (C := 52) (nm := nm) (q := q) (N := N) (bs := bs) (bm := bmE) (hdct := hdct) (sn := sn) (sub := sub) (ab := ab) (col := col) (dd := dd) (k0 := k0) (k1 := k1) (k2 := k2) (k3 := k3) (k5 := k5) (newId := "Exception.__new__")
    (by decide +kernel) hh ?_))
  refine (?_ : wpAny _ _ (eval (.Call (.Name x p) [e] [] pc) env >>= fun v => standAt pos >>= fun z_ => pure v) _ _ _)
  refine wpAny_bind (wpAny_mono (Q := fun v s₁ => _) ?_ (fun v s₃ h₃ => wpAny_bind (wpAny_standAt (wpAny_pure h₃))) fun z_ z_ x => x)
  refine (?_ : wpAny _ _ (eval (.Name x p) env >>= fun f => callWith pc f [] (backTo pc (starEach [e] env)) []) _ _ _)
  have n1 : s.heap.Ns env.globals mg := by rw [X.V.glob]; exact FX.ns.keeps X.R.inG
  refine wpAny_bind (Name_function_global X.V.fn (X.V.gi x hk) (loadGlobal_global n1 (by rw [hx]; exact hps) ?_) (nd_of X.V hk))
  have key : starEach [e] env = [(false, eval e env)] := by
    induction e using PySem.Expr.casesOn with
    | Starred a b => exact absurd rfl (hst a b)
    | _ => rfl
  rw [key]
  refine callWith_of (P := fun h => K.In h) rfl (fun h X => keeps_K (K := K) (f := .ref 52) XF.keep h X) (evalArgs_plain (spliced_cons (wpAny_mono h (fun u s₁ q => spliced_nil ?_) fun z_ z_ y => y)))
  refine u33 q fun bv P₁ g₁ w₁ ru hE => ?_
  refine ⟨FX.at w₁.1, ?_⟩
  obtain ⟨h₁, gs, dr, tk, os⟩ := s₁
  refine (?_ : wpAny _ _ (call (.ref 52) [u]) _ _ _)
  refine makeE (FX.at w₁.1) (w₁.1.inG _ _ hC) XF.ini XF.fn36 (len_ok (m := 1) rfl (by decide)) ?_
  have kp : ∀ b o, h₁.get? b = some o -> ((h₁.push { cls := .type "tuple", data := .seq [u].toArray }).push { cls := .ref 52, data := .fields #[.ref h₁.objs.size, .none, .none, .none, .bool false, .none] }).get? b = some o := fun b o e => Heap.get?_push_of_some _ (Heap.get?_push_of_some _ e)
  have he₂ : ((h₁.push { cls := .type "tuple", data := .seq [u].toArray }).push { cls := .ref 52, data := .fields #[.ref h₁.objs.size, .none, .none, .none, .bool false, .none] }).get? (h₁.objs.size + 1) = some { cls := .ref 52, data := .fields #[.ref h₁.objs.size, .none, .none, .none, .bool false, .none] } := by
    have := Heap.get?_push_size (h₁.push { cls := .type "tuple", data := .seq [u].toArray }) (o := { cls := .ref 52, data := .fields #[.ref h₁.objs.size, .none, .none, .none, .bool false, .none] }) rfl
    rwa [Heap.size_push] at this
  generalize ((h₁.push { cls := .type "tuple", data := .seq [u].toArray }).push { cls := .ref 52, data := .fields #[.ref h₁.objs.size, .none, .none, .none, .bool false, .none] } : Heap) = h₂ at kp he₂ ⊢
  have hz₂ : h₁.objs.size ≤ h₂.objs.size := Nat.le_trans (Nat.le_succ _) (Nat.le_of_lt (Heap.lt_size he₂))
  have fr₂ : g₁.ρ (h₁.objs.size + 1) = .any := w₁.1.fresh (Nat.le_succ _)
  have R₂ : Rep prog w G tabs (g₁.set (h₁.objs.size + 1) .keep) P₁ h₂ := Rep.role (r := .keep) (w₁.1.keeps hz₂ kp) fr₂ (Heap.lt_size he₂) (fun z_ e => rx e) (fun e => rx e) fun e => rx e
  have L₂ : g₁.Le (g₁.set (h₁.objs.size + 1) .keep) := Gh.le_set .keep fr₂
  refine u41 PF.form fun p1 p2 p3 p4 hbody => ?_
  have hb : bindD fi.params [AV.top (.ref (h₁.objs.size + 1)), AV.byt bv] fi.dflt = some [(sf, .top (.ref (h₁.objs.size + 1))), (tn, .byt bv)] := by rw [PF.par]; rfl
  have hA₂ : CtxOk (g₁.set (h₁.objs.size + 1) .keep) (A.under (.builtin "type.__call__" ⟨[.ref 52, u], []⟩)) := by
    have XC := (X.C.le w₁.2.le).le L₂
    refine ⟨XC.1, XC.2.imp fun fr z => z.imp_left fun a2 => ?_⟩
    refine (?_ : pushEnvs (Code.builtin "type.__call__" ⟨[.ref 52, u], []⟩).envs A.frames = some fr)
    rw [tce]; exact a2
  refine def_call (s := ⟨h₂, gs, dr, tk, os⟩) FX R₂ hA₂ ?_ hfi (.cons (.top (.ref (h₁.objs.size + 1))) (.cons (ru.mono L₂) .nil)) hb fun g₃ s₃ cm' env' w₃ hL hfr V F C₃ => ?_
  · refine (?_ : A.depth + Code.weight _ < 1000)
    rw [tcw]
    exact Nat.lt_of_le_of_lt (Nat.succ_le_succ (Nat.le_trans (Nat.le_add_right _ _) hM.1)) (by decide)
  rw [hbody]
  refine (?_ : wpAny _ _ (exec _ env' >>= fun fl => match fl with | .next => execs [] env' | f => pure f) _ _ _)
  refine wpAny_bind (assign_plain rfl (wpAny_Name (loadName_snd V F PF.kt (.inl rfl) (show slook tn [(sf, _), (tn, _)] = _ from (if_neg PF.ne).trans (if_pos rfl)) fun t rt => ?_) (nd_of V PF.kt)))
  refine (?_ : wpAny _ _ (pure none >>= fun o => assignStores env' t o _) _ _ _)
  refine wpAny_bind (wpAny_pure ?_)
  refine (?_ : wpAny _ _ (assign (.Attribute (.Name sf p1) "told" p2) env' t >>= fun z_ => pure Flow.next) _ _ _)
  rw [assign_Attribute]
  refine wpAny_bind (wpAny_bind (wpAny_holding (wpAny_Name (loadName_snd V F PF.kx (.inl rfl) (show slook sf [(sf, _), (tn, _)] = _ from if_pos rfl) fun t' rt' => wpAny_bind (wpAny_standAt (wpAny_bind (wpAny_holding ?_)))) (nd_of V PF.kx))))
  have et : t' = .ref (h₁.objs.size + 1) := rt'.va.inv
  subst et
  have kE : (g₁.set (h₁.objs.size + 1) .keep).ρ (h₁.objs.size + 1) = .keep := Gh.set_self ..
  have kE₃ : g₃.ρ (h₁.objs.size + 1) = .keep := w₃.2.le.at kE
  have he₃ := w₃.2.keep _ _ kE he₂
  have R₃ : Rep prog w G tabs (g₃.set (h₁.objs.size + 1) .any) P₁ s₃.heap := w₃.1.forget (.inl kE₃)
  have W₃ := wk_forget (g := g₃) (D := h₁.objs.size + 1) (.inl kE₃)
  have E₃ : Ext h₁.objs.size g₁ ⟨h₁, gs, dr, tk, os⟩ g₃ s₃ := (Ext.of_keeps (s := ⟨h₁, gs, dr, tk, os⟩) (tk := tk) L₂ hz₂ fun a o z_ e => kp a o e).trans (w₃.2.down hz₂)
  have E₃' : Ext h₁.objs.size g₁ ⟨h₁, gs, dr, tk, os⟩ (g₃.set (h₁.objs.size + 1) .any) s₃ := by
    exact ⟨E₃.same, E₃.size, ⟨fun a r => (if_neg fun z : a = h₁.objs.size + 1 => r (z ▸ fr₂)).trans (E₃.le.role a r), fun k a r => E₃.le.pre k a r⟩, E₃.keep, E₃.frm, E₃.cel, E₃.dct⟩
  refine setTold (w₃.1.inG |> FX.X.keeps) XF he₃ fun h' tk' D es ep hz kp' hD he' hD' ht => wpAny_release (wpAny_pure (wpAny_pure ⟨rfl, ?_⟩))
  have ne' : ∀ a, (g₃.set (h₁.objs.size + 1) .any).ρ a ≠ .any -> a ≠ h₁.objs.size + 1 := fun a r z => r (z ▸ Gh.set_self ..)
  have N : Note (g₃.set (h₁.objs.size + 1) .any) s₃.heap h' := .of_keep hz fun a o r e => kp' a o (ne' a r) e
  have st : Step prog w G tabs (g₃.set (h₁.objs.size + 1) .any) s₃ (g₃.set (h₁.objs.size + 1) .any) P₁ h' tk' := N.step R₃
  refine ⟨_, _, _, rfl, st.1.inG _ _ hC, he', rfl, hE _ _ _ ⟨st.1, E₃'.trans (st.2 _)⟩ ⟨D, es, ep, _, t, he', Gh.set_self .., R₃.fresh hD, ?_, hD', ht, rt.va.wk W₃, rfl, by simp, rfl⟩⟩
  exact Nat.ne_of_lt (Nat.lt_of_lt_of_le (Heap.lt_size he₃) hD)
end
end DK
namespace DK
open PySem PySem.W PySem.Calls PyProof.Rows
theorem room_eq (a k m : Nat) : a + k + k * m = a + k * (m + 1) := by rw [Nat.mul_succ, Nat.add_assoc, Nat.add_comm k]
theorem CtxOk.new {g : Gh} {A : Around} (x : CtxOk g A) (C : Addr) (rest : List Value) : CtxOk g (A.under (.builtin "type.__call__" ⟨.ref C :: rest, []⟩)) := by
  refine ⟨x.1, x.2.imp fun fr z => z.imp_left fun a2 => ?_⟩
  refine (?_ : pushEnvs (Code.builtin "type.__call__" ⟨.ref C :: rest, []⟩).envs A.frames = some fr)
  rw [tce]; exact a2
theorem Room.new {m : Nat} {A : Around} (x : Room (m + 1) A) (C : Addr) (rest : List Value) : Room m (A.under (.builtin "type.__call__" ⟨.ref C :: rest, []⟩)) :=
  ⟨Nat.le_trans (Nat.add_le_add_right (Nat.add_le_add_left (Nat.le_trans (Nat.le_of_eq (tcw C rest)) (by decide : 1 ≤ 10)) A.depth) _) (Nat.le_trans (Nat.le_of_eq (room_eq _ 10 m)) x.1),
   Nat.le_trans (Nat.add_le_add_right (Nat.add_le_add_left (Nat.le_trans (Nat.le_of_eq (tcu C rest)) (by decide : 1 ≤ 100)) A.units) _) (Nat.le_trans (Nat.le_of_eq (room_eq _ 100 m)) x.2)⟩
inductive PutsForm (x : Str) : List Str -> List Stmt -> Prop
  | nil : PutsForm x [] []
  | cons {n : Str} {p1 p2 p3 p4 : Pos} {ns : List Str} {sts : List Stmt} : PutsForm x ns sts -> PutsForm x (n :: ns) (.Assign [.Attribute (.Name x p1) n p2] (.Name n p3) p4 :: sts)
theorem PutsForm.nil_inv {x : Str} {sts : List Stmt} (h : PutsForm x [] sts) : sts = [] := by cases h; rfl
theorem PutsForm.cons_inv {x n : Str} {ns : List Str} {sts : List Stmt} (h : PutsForm x (n :: ns) sts) : ∃ (p : Pos × Pos × Pos × Pos) (sts' : List Stmt), sts = .Assign [.Attribute (.Name x p.1) n p.2.1] (.Name n p.2.2.1) p.2.2.2 :: sts' ∧ PutsForm x ns sts' := by
  cases h with
  | cons h => exact ⟨(_, _, _, _), _, rfl, h⟩
structure ThingFn (fi : FI) (sf : Str) : Prop where
  form : PutsForm sf thingNames fi.body
  par : fi.params = sf :: thingNames
  dfl : fi.dflt = thingDflt
  kx : slook sf fi.scope.names = some .local
  kn : ∀ n ∈ thingNames, slook n fi.scope.names = some .local
  ne : sf ∉ thingNames
  fld : ∀ n ∈ thingNames, isField 72 n = true
section
variable {prog : Program} {w : World} {K : Frag} {G : Heap} {mg mb : Str -> Option Value} {tabs : List (Addr × Addr × Str)} {m : Nat} {A : Around} {g : Gh} {P : Hp} {s : Shared} {r : CallR} {fs : Fs} {kd : Kinds} {cm : Str -> Option Addr} {env : Env} {l : Loc} {E : Value -> Shared -> Prop} {h h' : Heap} {x d C : Addr}
theorem heap_two {hh : Heap} {C : Addr} : ((hh.push emptyDict).push (instObj C hh.objs.size)).get? hh.objs.size = some emptyDict ∧ ((hh.push emptyDict).push (instObj C hh.objs.size)).get? (hh.objs.size + 1) = some (instObj C hh.objs.size) ∧
    (∀ b o, hh.get? b = some o -> ((hh.push emptyDict).push (instObj C hh.objs.size)).get? b = some o) ∧ hh.objs.size ≤ ((hh.push emptyDict).push (instObj C hh.objs.size)).objs.size := by
  refine ⟨Heap.get?_push_of_some _ (Heap.get?_push_size _ rfl), ?_, fun b o e => Heap.get?_push_of_some _ (Heap.get?_push_of_some _ e), Nat.le_trans (Nat.le_of_lt (size_psh1 _ _)) (Nat.le_of_lt (size_psh1 _ _))⟩
  have := Heap.get?_push_size (hh.push emptyDict) (o := instObj C hh.objs.size) rfl
  rwa [Heap.size_push] at this
theorem new_snd (FX : Facts prog w K G mg mb tabs) (hr : CallOk prog w G tabs r m) {fI : Nat} {Q : Hp} (R : Rep prog w G tabs g P s.heap) (hC : CtxOk g A) (hM : Room (m + 1) A) (hi : initOf C = some fI) {args : List AV} {vs : List Value} (ra : VRs prog w g args vs)
    (h : r (P ++ [.inst C []]) (rf fI) (.ref P.length :: args) = some (.ok .none Q)) {B : Result -> Shared -> Prop}
    (hB : ∀ g' s' u, Went prog w G tabs g s g' s' Q -> VR prog w g' (.ref P.length) u -> B (.ok (.ret u)) s') : codeAny (model prog w) A (.call (.ref C) ⟨vs, []⟩) B s := by
  have X := FX.at R
  obtain ⟨hh, gs, dr, tk, os⟩ := s
  refine (FX.made C fI hi).elim fun c1 z => z.elim fun c2 c3 => make_core (makes_of X c1) (looks_findIn X c2) (fun self => bind_fn X self c3) (.inl rfl) ?_
  refine u04 (heap_two (hh := hh) (C := C)) fun eD eX kp hz => ?_
  generalize (hh.push emptyDict).push (instObj C hh.objs.size) = h₂ at *
  have R' : Rep prog w G tabs g P hh := R
  have fD := R'.fresh (Nat.le_refl hh.objs.size)
  have fX := R'.fresh (Nat.le_succ hh.objs.size)
  have ne : hh.objs.size + 1 ≠ hh.objs.size := Nat.succ_ne_self _
  have R₂ := Rep.role (r := .ownD g.σ.length) (R'.keeps hz kp) fD (Heap.lt_size eD) (fun z_ e => rx e) (fun e => rx e) fun e => rx e
  have R₃ : Rep prog w G tabs (g.addD (hh.objs.size + 1) hh.objs.size) (P ++ [.inst C []]) h₂ := R₂.addObj (a := hh.objs.size + 1) (o := .inst C []) ((Gh.set_ne _ _ ne).trans fX) (Heap.lt_size eX) (.inst eX ((if_neg (Ne.symm ne)).trans (Gh.set_self ..)) eD .nil)
  have L := Gh.le_addD fX fD ne
  have hσ : (g.addD (hh.objs.size + 1) hh.objs.size).σ[P.length]? = some (hh.objs.size + 1) := R'.len ▸ List.getElem?_concat_length
  exact hr.code (s := ⟨h₂, gs, dr, tk, os⟩) rfl R₃ ((hC.le L).new C vs) (hM.new C vs) (.top (.ref fI)) (.cons (.ref hσ) (ra.mono L)) h (fun x P' g' s' u q w' rv => (Res.ok.inj q).elim fun q1 q2 => by
    subst q1; subst q2
    exact ⟨rv.inv, hB g' s' _ ⟨w'.1, (Ext.of_keeps (s := ⟨hh, gs, dr, tk, os⟩) (tk := tk) L hz fun a o z_ e => kp a o e).trans (w'.2.down hz)⟩ (.ref (w'.2.le.pre _ _ hσ))⟩) fun b P' g' s' e q => Res.noConfusion q
theorem puts_snd (FX : Facts prog w K G mg mb tabs) (V : EnvOk tabs fs kd cm env) {sf : Str} (kx : slook sf kd = some .local) (hx : slook sf l = some (.av (.top (.ref x)))) (hd : g.ρ d = .keep) (hne : x ≠ d) : ∀ (b : List (Str × AV)) {sts : List Stmt} {s : Shared} {fl : List (Str × AV)} {des : Array DictEntry} {ep : Nat} {Q : Flow -> Shared -> Prop}, PutsForm sf (b.map (·.1)) sts ->
    Rep prog w G tabs g P s.heap -> Frm prog w fs kd cm env l g s.heap -> s.heap.get? x = some (instObj C d) -> s.heap.get? d = some (dctObj des ep) -> FsR prog w g fl des.toList ->
    (∀ p ∈ b, slook p.1 kd = some .local ∧ slook p.1 l = some (.av p.2) ∧ isField C p.1 = true) -> fl.length + b.length < 100 ->
    (∀ h' tk des' ep', Heap.SameBut d s.heap h' -> h'.get? d = some (dctObj des' ep') -> FsR prog w g (putsF b fl) des'.toList -> Q .next { s with heap := h', toks := tk }) -> wpAny (model prog w) A (execs sts env) Q E s := by
  intro b
  induction b with
  | nil => exact fun fm R F e f q hb hz hQ => fm.nil_inv ▸ wpAny_pure (hQ _ _ _ _ (.refl ..) f q)
  | cons nv b ih =>
    intro sts s fl des ep Q fm R F e f q hb hz hQ
    refine u22 fm.cons_inv fun p sts' es fm' => ?_
    subst es
    have hz' : fl.length + b.length + 1 < 100 := hz
    refine u03 (hb _ (.head _)) fun b1 b2 b3 => ?_
    refine (?_ : wpAny _ _ (exec _ env >>= fun fl => match fl with | .next => execs sts' env | f => pure f) _ _ _)
    refine wpAny_bind (assign_plain rfl (wpAny_Name (loadName_snd V F b1 (.inl rfl) b2 fun t rt => ?_) (nd_of V b1)))
    refine (?_ : wpAny _ _ (pure none >>= fun o => assignStores env t o _) _ _ _)
    refine wpAny_bind (wpAny_pure ?_)
    refine (?_ : wpAny _ _ (assign (.Attribute (.Name sf p.1) nv.1 p.2.1) env t >>= fun z_ => pure Flow.next) _ _ _)
    rw [assign_Attribute]
    refine wpAny_bind (wpAny_bind (wpAny_holding (wpAny_Name (loadName_snd V F kx (.inl rfl) hx fun t' rt' => wpAny_bind (wpAny_standAt (wpAny_bind (wpAny_holding ?_)))) (nd_of V kx))))
    have et : t' = .ref x := rt'.va.inv
    subst et
    exact setF_core FX (FX.at R) e f q b3 (Nat.lt_of_le_of_lt (Nat.le_trans (Nat.le_add_right _ _) (Nat.le_succ _)) hz') rt.va fun h' tk des' ep' sb D' q' => wpAny_release (wpAny_pure (ih fm' (R.but hd (Nat.le_of_eq sb.1.symm) sb.extBut) (F.but hd sb.extBut) ((sb.2 x hne).trans e) D' q' (fun p hp => hb p (.tail _ hp))
      (Nat.lt_of_le_of_lt (Nat.le_trans (Nat.add_le_add_right (sput_len ..) _) (Nat.le_of_eq (Nat.succ_add ..))) hz') fun h'' tk' des'' ep'' sb' D'' q'' => hQ h'' tk' des'' ep'' (sb.trans sb') D'' q''))
theorem bindD_cons {α : Type} {p : Str} {ps : List Str} {a : α} {as d : List α} {b : List (Str × α)} (h : bindD ps as d = some b) : bindD (p :: ps) (a :: as) d = some ((p, a) :: b) := by
  exact congrArg (Option.map _) h
theorem rfro {o o' : Obj} (h : Role.fro o = .fro o') : o = o' := Role.fro.inj h
theorem thing_snd (FX : Facts prog w K G mg mb tabs) {fi : FI} {sf : Str} (hfi : finfo 69 = some fi) (TF : ThingFn fi sf) (R : Rep prog w G tabs g P s.heap) (hC : CtxOk g A) (hM : Room (m + 1) A) {args : List AV} {vs : List Value} (ra : VRs prog w g args vs)
    {b : List (Str × AV)} (hb : bindD thingNames args thingDflt = some b) {B : Result -> Shared -> Prop}
    (hB : ∀ g' s' u, Went prog w G tabs g s g' s' P -> VR prog w g' (.ins 72 (putsF b [])) u -> B (.ok (.ret u)) s') : codeAny (model prog w) A (.call (.ref 72) ⟨vs, []⟩) B s := by
  have X := FX.at R
  obtain ⟨hh, gs, dr, tk, os⟩ := s
  refine (FX.made 72 69 rfl).elim fun c1 z => z.elim fun c2 c3 => make_core (makes_of X c1) (looks_findIn X c2) (fun self => bind_fn X self c3) (.inl rfl) ?_
  refine u04 (heap_two (hh := hh) (C := 72)) fun eD eX kp hz => ?_
  generalize (hh.push emptyDict).push (instObj 72 hh.objs.size) = h₂ at *
  have R' : Rep prog w G tabs g P hh := R
  have ne : hh.objs.size + 1 ≠ hh.objs.size := Nat.succ_ne_self _
  have fD := R'.fresh (Nat.le_refl hh.objs.size)
  have fX := R'.fresh (Nat.le_succ hh.objs.size)
  have fX' : (g.set hh.objs.size .keep).ρ (hh.objs.size + 1) = .any := (Gh.set_ne _ _ ne).trans fX
  have R₂ := Rep.role (r := .keep) (R'.keeps hz kp) fD (Heap.lt_size eD) (fun z_ e => rx e) (fun e => rx e) fun e => rx e
  have R₃ := Rep.role (r := .keep) R₂ fX' (Heap.lt_size eX) (fun z_ e => rx e) (fun e => rx e) fun e => rx e
  have L : g.Le ((g.set hh.objs.size .keep).set (hh.objs.size + 1) .keep) := (Gh.le_set _ fD).trans (Gh.le_set _ fX')
  have kX : ((g.set hh.objs.size .keep).set (hh.objs.size + 1) .keep).ρ (hh.objs.size + 1) = .keep := Gh.set_self ..
  have kD : ((g.set hh.objs.size .keep).set (hh.objs.size + 1) .keep).ρ hh.objs.size = .keep := (Gh.set_ne _ _ (Ne.symm ne)).trans (Gh.set_self ..)
  have hb' : bindD fi.params (AV.top (.ref (hh.objs.size + 1)) :: args) fi.dflt = some ((sf, AV.top (.ref (hh.objs.size + 1))) :: b) := by rw [TF.par, TF.dfl]; exact bindD_cons hb
  refine def_call (s := ⟨h₂, gs, dr, tk, os⟩) FX R₃ ((hC.le L).new 72 vs) (Nat.lt_of_le_of_lt (Nat.le_trans (Nat.le_add_right _ _) (hM.new 72 vs).1) (by decide)) hfi (.cons (.top _) (ra.mono L)) hb' fun g₃ s₃ cm env w₃ hL hfr V F C₃ => ?_
  have nm := bindD_names hb
  have E₃ : Ext hh.objs.size g ⟨hh, gs, dr, tk, os⟩ g₃ s₃ := (Ext.of_keeps (s := ⟨hh, gs, dr, tk, os⟩) (tk := tk) L hz fun a o z_ e => kp a o e).trans (w₃.2.down hz)
  have kX₃ : g₃.ρ (hh.objs.size + 1) = .keep := w₃.2.le.at kX
  have kD₃ : g₃.ρ hh.objs.size = .keep := w₃.2.le.at kD
  have eX₃ := w₃.2.keep _ _ kX eX
  have eD₃ := w₃.2.keep _ _ kD eD
  refine puts_snd FX V TF.kx (slook_self rfl) kD₃ ne b (by rw [nm]; exact TF.form) w₃.1 F eX₃ eD₃ .nil (fun p hp => ?_) ?_ fun h' tk' des ep sb D' q' => ?_
  · have hp' : p.1 ∈ thingNames := nm ▸ List.mem_map_of_mem hp
    have nd : (b.map (·.1)).Nodup := nm ▸ (by decide : thingNames.Nodup)
    exact ⟨TF.kn _ hp', (slook_ne fun z : p.1 = sf => TF.ne (z ▸ hp')).trans (slook_of_mem ((List.map_map (f := fun p : Str × AV => (p.1, LV.av p.2)) (g := (·.1)) (l := b)).symm ▸ nd) (List.mem_map.mpr ⟨p, hp, rfl⟩)), TF.fld _ hp'⟩
  · have : b.length = 4 := (List.length_map ..).symm.trans (congrArg List.length nm)
    refine (?_ : 0 + b.length < 100)
    rw [this]
    decide
  · have kX' : (g₃.set hh.objs.size .any).ρ (hh.objs.size + 1) = .keep := (Gh.set_ne _ _ ne).trans kX₃
    have RA := ((w₃.1.but kD₃ (Nat.le_of_eq sb.1.symm) sb.extBut).forget (.inl kD₃)).forget (.inl kX')
    have aD : ((g₃.set hh.objs.size .any).set (hh.objs.size + 1) .any).ρ hh.objs.size = .any := (Gh.set_ne _ _ (Ne.symm ne)).trans (Gh.set_self ..)
    have aX : ((g₃.set hh.objs.size .any).set (hh.objs.size + 1) .any).ρ (hh.objs.size + 1) = .any := Gh.set_self ..
    have RB := Rep.role (r := .fro (dctObj des ep)) RA aD (Heap.lt_size D') (fun o e => rfro e ▸ D') (fun e => rx e) fun e => rx e
    have aX' : (((g₃.set hh.objs.size .any).set (hh.objs.size + 1) .any).set hh.objs.size (.fro (dctObj des ep))).ρ (hh.objs.size + 1) = .any := (Gh.set_ne _ _ ne).trans aX
    have eX' : h'.get? (hh.objs.size + 1) = some (instObj 72 hh.objs.size) := (sb.2 _ ne).trans eX₃
    have RC := Rep.role (r := .fro (instObj 72 hh.objs.size)) RB aX' (Heap.lt_size eX') (fun o e => rfro e ▸ eX') (fun e => rx e) fun e => rx e
    have LB := Gh.le_set (.fro (dctObj des ep)) aD
    have LC := Gh.le_set (.fro (instObj 72 hh.objs.size)) aX'
    have no : ∀ {a : Addr} {r : Role}, g.ρ a = r -> r ≠ .any -> a ≠ hh.objs.size ∧ a ≠ hh.objs.size + 1 := fun e hr => ⟨fun z => hr (e.symm.trans (z ▸ fD)), fun z => hr (e.symm.trans (z ▸ fX))⟩
    have k' : ∀ {a : Addr} {o : Obj} {r : Role}, g.ρ a = r -> r ≠ .any -> s₃.heap.get? a = some o -> h'.get? a = some o := fun e hr q => (sb.2 _ (no e hr).1).trans q
    refine ⟨rfl, hB _ _ _ ⟨RC, E₃.same, Nat.le_trans E₃.size (Nat.le_of_eq sb.1.symm), ⟨fun a r => ?_, E₃.le.pre⟩, fun a o r e => k' r nofun (E₃.keep a o r e), fun a o hb r e => (E₃.frm a o hb r e).imp fun sl q => k' r nofun q, fun a o hb r e => k' r nofun (E₃.cel a o hb r e),
      fun a k r => (E₃.dct a k r).trans (.of_keep fun o e => k' r nofun e)⟩ (.ins (Gh.set_self ..) (LC.at (Gh.set_self ..)) ((((q'.wk (wk_forget (.inl kD₃))).wk (wk_forget (.inl kX'))).mono LB).mono LC))⟩
    exact (no rfl r).elim fun n1 n2 => ((Gh.set_ne _ _ n2).trans ((Gh.set_ne _ _ n1).trans ((Gh.set_ne _ _ n2).trans (Gh.set_ne _ _ n1)))).trans (E₃.le.role a r)
end
end DK
namespace DK
open PySem PySem.W PySem.Calls PyProof.Rows
section
theorem slot_bytes_lt : Slot "bytes" (cmpInfo .Lt).2.1 "bytes.__lt__" :=
  .of (owner := "bytes") (n := "__lt__") (by rw [typeLookup_type, builtinLookup_eq_fast]; kernel_rfl) (by decide +kernel) (by decide +kernel) (by decide +kernel)
    (by first | exact .inl (by decide +kernel) | exact .inr (by decide +kernel)) (by rw [isSubtype_type]; kernel_rfl)
theorem entry_bytes_lt : entryFor table "bytes.__lt__" = some Builtin.«bytes.__lt__» := entryFor_of_tree (by kernel_rfl)
theorem args_bytes_lt (a b : Value) : argsOk "bytes.__lt__" ⟨[a, b], []⟩ := by
  unfold argsOk; rw [signature?_of (id := "bytes.__lt__") (n := ['_', '_', 't', 'l', '_', '_']) (o := ['s', 'e', 't', 'y', 'b']) (by kernel_rfl) FB.owner_bytes]; kernel_rfl
@[reducible] noncomputable def oneKind : PyProof.Rows.KeyKind where
  α := Nat
  blt a b := decide (a < b)
  irrefl a := by simp
  trans a b c h1 h2 := by simp only [decide_eq_true_eq] at *; omega
  negTrans a b c h := by simp only [decide_eq_true_eq] at *; omega
  total a b h1 h2 := by simp only [decide_eq_false_iff_not] at *; omega
  keyOf v := match v with | .bytes b _ => (match b.toList with | [x] => some x.toNat | _ => none) | _ => none
  dflt := 0
theorem one_key {v : Value} {a : Nat} (h : oneKind.keyOf v = some a) : ∃ x t, v = .bytes [x].toArray t ∧ a = x.toNat := by
  induction v using PySem.Value.casesOn with
  | bytes b t =>
    obtain ⟨b⟩ := b
    match b, h with
    | [x], h => cases h; exact ⟨_, _, rfl, rfl⟩
    | [], h => exact nm h
    | _ :: _ :: _, h => exact nm h
  | _ => exact nm h
theorem oneKind_lt : oneKind.OneLt := by
  intro prog w A E s x y a b Q ha hb h
  obtain ⟨x, t, rfl, rfl⟩ := one_key ha
  obtain ⟨y, u, rfl, rfl⟩ := one_key hb
  rw [oneLt'_eq]
  simp only [if_true]
  refine wpAny_bind (wpAny_cRoomFor_byValue rfl ?_)
  refine wpAny_bind (wpAny_callSpecialIfBound?_slot (typeIs_bytes s _ t) slot_bytes_lt (wpAny_call_entry slot_bytes_lt (typeIs_bytes s _ t) entry_bytes_lt ?_ (args_bytes_lt _ _)))
  show wpAny _ _ (isInstance (.bytes [y].toArray u) (.type "bytes") >>= fun r => _) _ _ s
  refine wpAny_bind (wpAny_isInstance (typeIs_bytes s _ u) F.sub_bytes_bytes ?_)
  refine wpAny_pure ⟨_, rfl, ?_⟩
  refine wpAny_truthy_bool ?_
  have e : Builtin.Bytes.holds "__lt__" (Builtin.Bytes.order [x] [y]) = oneKind.blt x.toNat y.toNat := by
    show ((if x < y then Ordering.lt else if x > y then .gt else .eq) == .lt) = decide (x.toNat < y.toNat)
    by_cases hxy : x < y
    · rw [if_pos hxy, decide_eq_true (UInt8.lt_iff_toNat_lt.mp hxy)]; rfl
    · rw [if_neg hxy, decide_eq_false fun z => hxy (UInt8.lt_iff_toNat_lt.mpr z)]; split <;> rfl
  show Q (Builtin.Bytes.holds "__lt__" (Builtin.Bytes.order [x] [y])) s
  rw [e]; exact h
end
section
variable {prog : Program} {w : World} {G : Heap} {tabs : List (Addr × Addr × Str)} {A : Around} {g g' : Gh} {P : Hp} {s s' s₀ : Shared} {res : Res} {Q E : Value -> Shared -> Prop} {x y z : AV} {u v : Value}
noncomputable abbrev Fine (prog : Program) (w : World) (G : Heap) (tabs : List (Addr × Addr × Str)) (g : Gh) (s : Shared) (res : Res) (Q : Value -> Shared -> Prop) : Prop := ∀ x P' g' s' u, res = .ok x P' -> Went prog w G tabs g s g' s' P' -> VR prog w g' x u -> Q u s'
noncomputable abbrev Done (prog : Program) (w : World) (A : Around) (E : Value -> Shared -> Prop) (s : Shared) (res : Res) (t : Sem Value) (Q : Value -> Shared -> Prop) : Prop := (∀ b P', res ≠ .exc b P') ∧ wpAny (model prog w) A t Q E s
theorem went_keep (R : Rep prog w G tabs g P s.heap) {h' : Heap} {tk : Nat} (hz : s.heap.objs.size ≤ h'.objs.size) (hk : ∀ b o, s.heap.get? b = some o -> h'.get? b = some o) : Went prog w G tabs g s g { s with heap := h', toks := tk } P :=
  ⟨R.keeps hz hk, Ext.of_keeps (.refl g) hz fun a o z_ e => hk a o e⟩
theorem went_new (R : Rep prog w G tabs g P s.heap) {h' : Heap} {tk : Nat} (hz : s.heap.objs.size ≤ h'.objs.size) (hk : ∀ b o, s.heap.get? b = some o -> h'.get? b = some o) {a : Addr} {o : Obj} (ha : s.heap.objs.size ≤ a) (e : h'.get? a = some o) :
    Went prog w G tabs g s (g.set a (.fro o)) { s with heap := h', toks := tk } P ∧ g.Le (g.set a (.fro o)) ∧ (g.set a (.fro o)).ρ a = .fro o := by
  have fr := R.fresh ha
  have L := Gh.le_set (.fro o) fr
  exact ⟨⟨(R.keeps hz hk).role fr (Heap.lt_size e) (fun o' e' => by cases e'; exact e) nofun nofun, Ext.of_keeps L hz fun a o z_ e => hk a o e⟩, L, Gh.set_self ..⟩
theorem okV_inj {v : AV} (h : okV v P = some res) : res = .ok v P := (Option.some.inj h).symm
theorem plain_size {n : Nat} (h : n < 100000) : n ≤ sizeLine := by rw [sizeLine_eq]; omega
theorem dd_le : ∀ (l acc : List Int), (l.foldl dd1 acc).length ≤ acc.length + l.length
  | [], acc => Nat.le_refl _
  | i :: l, acc => by
    have h1 : (dd1 acc i).length ≤ acc.length + 1 := by unfold dd1; split <;> simp
    have := dd_le l (dd1 acc i)
    show (l.foldl dd1 (dd1 acc i)).length ≤ _
    simp only [List.length_cons]; omega
theorem len_lst {a : Addr} {vs : Array Value} {l : List AV} (R : Rep prog w G tabs g P s.heap) (hl : s.heap.IsList a vs) (r : VRs prog w g l vs.toList) (hz : l.length < 100000) (hQ : Fine prog w G tabs g s (.ok (.int l.length) P) Q) : wpAny (model prog w) A (call (.builtin "len") [.ref a]) Q E s := by
  have hs : l.length = vs.size := r.length.trans (Array.length_toList ..)
  refine call_len_list hl (by omega) (hQ _ P g _ _ rfl (Went.here R) ?_)
  rw [hs]; exact .int _ _
theorem len_dct {d : Addr} {des : Array DictEntry} {ep : Nat} (e : s.heap.get? d = some (dctObj des ep)) (hd : (d == sysModules) = false) (hfit : des.size < 100000)
    (h : Q (.int des.size (s.toks + 1)) { s with toks := s.toks + 1 + 1 }) : wpAny (model prog w) A (call (.builtin "len") [.ref d]) Q E s := by
  refine Calls.call_function_entry kind_len plain_len entry_len (args_len1 _) ?_
  unfold Builtin.«len»
  refine wpAny_bind (m := oneArg "len" _) (wpAny_pure ?_)
  refine wpAny_bind (m := callSpecial? (.ref d) (Str.ofString "__len__")) (wpAny_callSpecial?_slot (name := Str.ofString "__len__") (typeIs_dct e) F.slot_dict_len (wpAny_call_entry F.slot_dict_len (typeIs_dct e) F.entry_dict_len ?_ (F.args_dict_len_1 _)))
  show wpAny _ _ (dictSize d >>= _) _ _ s
  unfold dictSize
  refine wpAny_bind (wpAny_bind (wpAny_dictEntries e rfl (wpAny_pure ?_)))
  show wpAny _ _ (Builtin.Dict.pendingCount d >>= _) _ _ s
  refine wpAny_bind (wpAny_pendingCount_other hd ?_)
  refine wpAny_bind (wpAny_mkInt (wpAny_pure ⟨_, rfl, ?_⟩))
  rw [Nat.add_zero]
  refine wpAny_bind (wpAny_holding (wpAny_pure ?_))
  refine wpAny_bind (wpAny_letGo ?_)
  show wpAny _ _ (if ((des.size : Nat) : Int) < 0 then _ else _) _ _ _
  rw [if_neg (by omega)]
  show wpAny _ _ (if ((des.size : Nat) : Int) ≥ 2 ^ 63 then _ else _) _ _ _
  rw [if_neg (by omega)]
  exact wpAny_bind (wpAny_mkInt (wpAny_pure ⟨_, rfl, h⟩))
theorem lst_ref {k : Nat} {l : List AV} (hP : P[k]? = some (.list l)) : lstOf P (.ref k) = some l := by
  show (match P[k]? with
    | some (.list l) => some l
    | _ => .none) = some l
  rw [hP]
set_option tactic.hygienic true in
theorem len1_snd (R : Rep prog w G tabs g P s.heap) (hG : ∃ o, G.get? sysModules = some o) (rx : VR prog w g x u) (h : len1 P x = some res) (hQ : Fine prog w G tabs g s res Q) : Done prog w A E s res (call (.builtin "len") [u]) Q := by
  induction x using DK.AV.casesOn with
  | iset l =>
    have h : (if l.length < 1000 then okV (.int (distinct l)) P else .none) = some res := h
    split at h
    · obtain rfl := okV_inj h
      cases rx with
      | iset e sx =>
        obtain ⟨S, ⟨hex, es, ep, t, hd, _, _, hn, hf⟩, hl⟩ := sx
        have h1 : distinct l ≤ l.length := by have := dd_le l []; simpa [distinct] using this
        refine ⟨nofun, call_len_set (R.fro _ _ e) hex hd hf (by omega) (hQ _ P g _ _ rfl (Went.here R) ?_)⟩
        rw [hn]; exact .int _ _
    · exact nm h
  | lst l =>
    have h : (if l.length < 100000 then okV (.int l.length) P else .none) = some res := h
    split at h
    · rename_i hz
      obtain rfl := okV_inj h
      obtain ⟨a, vs, rfl, pl, r⟩ := lst_of R rx (rfl : lstOf P (.lst l) = some l)
      exact ⟨nofun, len_lst R pl.isList r hz hQ⟩
    · exact nm h
  | ref k =>
    have h : (match P[k]? with
    | some (.list l) => if l.length < 100000 then okV (.int l.length) P else .none
    | some (.dict es) => if es.length < 100000 then okV (.int es.length) P else .none
    | _ => .none) = some res := h
    split at h
    · rename_i l hP
      split at h
      · rename_i hz
        obtain rfl := okV_inj h
        obtain ⟨a, vs, rfl, pl, r⟩ := lst_of R rx (lst_ref hP)
        exact ⟨nofun, len_lst R pl.isList r hz hQ⟩
      · exact nm h
    · rename_i es hP
      split at h
      · rename_i hz
        obtain rfl := okV_inj h
        obtain ⟨d, _, _, rfl, _, ho, _, x⟩ := dict_at R hP rx
        obtain ⟨des, ep, e, hs, _⟩ := dict_get x
        refine ⟨nofun, len_dct e (own_ne_sys R hG ho) (by omega) (hQ _ P g _ _ rfl (Went.here R) ?_)⟩
        rw [hs]; exact .int _ _
      · exact nm h
    · exact nm h
  | _ => exact nm h
theorem keyKind_one {a b : Array UInt8} {t t' : Tok} : keyKind' [Value.bytes a t, .bytes b t'].toArray = pure oneType' := by
  have e1 : [Value.bytes a t, .bytes b t'].mapM firstOfTuple' = pure [none, none] := rfl
  have e2 : [Value.bytes a t, .bytes b t'].mapM typeOf = pure [Value.type "bytes", .type "bytes"] := rfl
  rw [keyKind'_eq, List.mapM_toArray, e1]
  simp only [map_pure, pure_bind]
  rw [if_neg (by simp), if_neg (by simp)]
  rw [oneTypeOnly'_eq, List.mapM_toArray, e2]
  simp only [map_pure, pure_bind, List.all_toArray]
  rfl
theorem one_inv {a : AV} {c : UInt8} (h : one1 a = some c) : a = .byt [c] := by
  induction a using DK.AV.casesOn with
  | byt l => induction l using List.casesOn with
    | nil => exact nm h
    | cons x l => induction l using List.casesOn with
      | nil => exact si h ▸ rfl
      | cons => exact nm h
  | _ => exact nm h
theorem perm_two {α : Type} {l : List α} {a b : α} (h : l.Perm [a, b]) : l = [a, b] ∨ l = [b, a] := by
  match l, h.length_eq with
  | [p, q], _ =>
    have hp := h.mem_iff.mp (List.mem_cons_self : p ∈ [p, q])
    rcases List.mem_cons.mp hp with rfl | hp
    · have := (List.perm_cons _).mp h
      rw [List.perm_singleton] at this
      cases this; exact .inl rfl
    · rw [List.mem_singleton] at hp
      subst hp
      have := (List.perm_cons _).mp (h.trans (List.Perm.swap ..))
      rw [List.perm_singleton] at this
      cases this; exact .inr rfl
theorem sort_by {l : List AV} {M : Prop} (h : sortV P l = some res) (k0 : l = [] -> res = .ok (.lst []) P -> M) (k1 : ∀ c, l = [.byt [c]] -> res = .ok (.lst [.byt [c]]) P -> M)
    (k2 : ∀ c d, l = [.byt [c], .byt [d]] -> res = .ok (.lst (if d < c then [.byt [d], .byt [c]] else [.byt [c], .byt [d]])) P -> M) : M := by
  induction l using List.casesOn with
  | nil => exact k0 rfl (okV_inj h)
  | cons a l => induction l using List.casesOn with
    | nil => exact ob h fun c h1 h2 => k1 c (one_inv h1 ▸ rfl) (okV_inj h2)
    | cons b l => induction l using List.casesOn with
      | nil => exact ob h fun c h1 h2 => ob h2 fun d h3 h4 => k2 c d (one_inv h1 ▸ one_inv h3 ▸ rfl) (okV_inj h4)
      | cons => exact nm h
theorem sortV_len {l : List AV} (h : sortV P l = some res) : l.length ≤ 2 := sort_by h (fun e z_ => e ▸ Nat.zero_le _) (fun z_ e z_ => e ▸ Nat.le_succ _) fun z_ z_ e z_ => e ▸ Nat.le_refl _
theorem byt1_inv {c : UInt8} {vs : List Value} (r : VRs prog w g [.byt [c]] vs) : ∃ t, vs = [.bytes [c].toArray t] := u23 r.ex fun v vs' e r1 r2 => (vr_byt r1).elim fun t q => ⟨t, e.trans (congr (congrArg List.cons q) r2.ex0)⟩
theorem byt2_inv {c d : UInt8} {vs : List Value} (r : VRs prog w g [.byt [c], .byt [d]] vs) : ∃ t t', vs = [.bytes [c].toArray t, .bytes [d].toArray t'] := u23 r.ex fun v vs' e r1 r2 => (vr_byt r1).elim fun t q => (byt1_inv r2).elim fun t' q' => ⟨t, t', e.trans (congr (congrArg List.cons q) q')⟩
theorem sort_core {a : Addr} {vs : List Value} {l : List AV} {n : Nat} {Q : Shared -> Prop} (ho : s.heap.get? a = some (listObj vs.toArray n)) (r : VRs prog w g l vs) (h : sortV P l = some res)
    (hQ : ∀ out l' h' e, res = .ok (.lst l') P -> VRs prog w g l' out -> h'.get? a = some (listObj out.toArray e) -> (∀ b o, b ≠ a -> s.heap.get? b = some o -> h'.get? b = some o) -> Q { s with heap := h' }) :
    wpAny (model prog w) A (call (.builtin "list.sort") [.ref a]) (fun z_ s' => Q s') E s := by
  have go : ∀ (h0 : PyProof.Rows.KeysOf oneKind (PyProof.Rows.pairsOf vs)) (hkk : ∀ v₁ v₂ rest, vs = v₁ :: v₂ :: rest -> keyKind' (v₁ :: v₂ :: rest).toArray = pure oneType') (h64 : vs.length < 64),
      (∀ xs : Array Keyed, xs.toList.Perm (vs.zip vs) -> SortedToK oneKind xs (PyProof.Rows.pairsOf vs).size -> ∃ l', res = .ok (.lst l') P ∧ VRs prog w g l' (xs.toList.map (·.2))) -> wpAny (model prog w) A (call (.builtin "list.sort") [.ref a]) (fun z_ s' => Q s') E s := fun h0 hkk h64 fin => by
    refine wpAny_call_entry slot_list_sort ⟨_, ho, rfl⟩ entry_list_sort (list_sort_treeK oneKind_lt ho h0 hkk h64 fun st' hp hs => ⟨_, rfl, ?_⟩) (args_list_sort _)
    exact u12 (fin (arrOf st') (pairsOf_toList vs ▸ Array.perm_iff_toList_perm.mp hp) hs) fun l' e1 e2 => u11 (sortedHeap_at (out := (arrOf st').map (·.2)) ho) fun e he =>
      hQ _ l' _ e e1 e2 (by rw [← Array.toList_map, Array.toArray_toList]; exact he) fun b o hb q => (sortedHeap_old hb (Heap.lt_size q)).trans q
  have mem : ∀ (p : Value × Value), p ∈ (PyProof.Rows.pairsOf vs).toList -> p ∈ vs.zip vs := fun p hp => pairsOf_toList vs ▸ hp
  refine sort_by h (fun el er => ?_) (fun c el er => ?_) fun c d el er => ?_
  · subst el; subst er
    have e := r.ex0
    subst e
    exact go (fun p hp => absurd (mem p hp) List.not_mem_nil) (fun z_ z_ z_ q => nomatch q) (by decide) fun xs hp z_ => ⟨_, rfl, List.perm_nil.mp hp ▸ .nil⟩
  · subst el; subst er
    refine u11 (byt1_inv r) fun t e => ?_
    subst e
    exact go (fun p hp => List.mem_singleton.mp (mem p hp) ▸ ⟨_, rfl⟩) (fun z_ z_ z_ q => nomatch (List.cons.inj q).2) (by decide : 1 < 64) fun xs hp z_ => ⟨_, rfl, List.perm_singleton.mp hp ▸ r⟩
  · subst el; subst er
    refine u21 (byt2_inv r) fun t t' e => ?_
    subst e
    refine go (fun p hp => (List.mem_cons.mp (mem p hp)).elim (fun e => e ▸ ⟨_, rfl⟩) fun hp => List.mem_singleton.mp hp ▸ ⟨_, rfl⟩) (fun v₁ v₂ rest q => q ▸ keyKind_one) (by decide : 2 < 64) fun xs hp hs => ⟨_, rfl, ?_⟩
    obtain ⟨xs⟩ := xs
    have hs' := hs 0 1 (by decide) (by rw [pairsOf_size]; exact (by decide : 1 < 2))
    refine (perm_two hp).elim (fun q => ?_) fun q => ?_
    · have q : xs = _ := q
      subst q
      exact if_neg (fun z : d < c => of_decide_eq_false (hs' : decide (d.toNat < c.toNat) = false) (UInt8.lt_iff_toNat_lt.mp z)) ▸ r
    · have q : xs = _ := q
      subst q
      have r' : VRs prog w g [.byt [d], .byt [c]] [.bytes [d].toArray t', .bytes [c].toArray t] := r.inv2 fun r1 r2 => r2.inv2 fun r2 z_ => .cons r2 (.cons r1 .nil)
      refine (Classical.em (d < c)).elim (fun hn => if_pos hn ▸ r') fun hn => ?_
      have ec : c = d := UInt8.toNat_inj.mp (Nat.le_antisymm (Nat.le_of_not_lt fun z => hn (UInt8.lt_iff_toNat_lt.mpr z)) (Nat.le_of_not_lt (of_decide_eq_false (hs' : decide (c.toNat < d.toNat) = false))))
      rw [if_neg hn]
      subst ec
      exact r'
theorem sorted_by (R : Rep prog w G tabs g P s.heap) {l : List AV} {u : Value} (h : sortV P l = some res) (hQ : Fine prog w G tabs g s res Q)
    (hc : ∀ {E : Value -> Shared -> Prop} {C : List Value -> Shared -> Prop}, (∀ h' tk vs, (∀ b o, s.heap.get? b = some o -> h'.get? b = some o) -> VRs prog w g l vs -> C vs { s with heap := h', toks := tk }) -> wpAny (model prog w) A.in1 (collect u) C E s) : Done prog w A E s res (call (.builtin "sorted") [u]) Q := by
  have ok : ∃ l', res = .ok (.lst l') P := sort_by h (fun z_ e => ⟨_, e⟩) (fun z_ z_ e => ⟨_, e⟩) fun z_ z_ z_ e => ⟨_, e⟩
  refine ⟨fun z_ z_ e => u11 ok fun l' q => Res.noConfusion (q.symm.trans e), ?_⟩
  refine Calls.call_function_entry kind_sorted plain_sorted entry_sorted (args_sorted1 _) ?_
  unfold Builtin.«sorted»
  refine wpAny_bind (m := checkCount "sorted" 1 1 _) (wpAny_pure ?_)
  refine wpAny_bind (wpAny_size (hc fun h' tk vs hk r hs => ?_))
  have hl : vs.length = l.length := r.length.symm
  have hl2 := sortV_len h
  refine wpAny_bind (wpAny_newList ?_ (by rw [hl]; exact plain_size (by omega)))
  have hoL : (h'.push (listObj vs.toArray 0)).get? h'.objs.size = some (listObj vs.toArray 0) := Heap.get?_push_size _ rfl
  refine wpAny_bind (wpAny_holding (sort_core (s := { s with heap := h'.push (listObj vs.toArray 0), toks := tk }) hoL r h fun out l' h'' e e1 e2 e3 e4 => ?_))
  refine wpAny_pure ⟨_, rfl, ?_⟩
  have hk' : ∀ b o, s.heap.get? b = some o -> h''.get? b = some o := fun b o q => e4 b o (fun z => by have := Heap.lt_size (hk b o q); rw [z] at this; exact Nat.lt_irrefl _ this) (Heap.get?_push_of_some _ (hk b o q))
  have W := went_new (tk := tk) R (Nat.le_trans hs (Nat.le_of_lt (Heap.lt_size e3))) hk' hs e3
  exact hQ _ P _ _ _ e1 W.1 (.lst W.2.2 (by simpa using e2.mono W.2.1))
theorem keys_vrs {es : List (AV × AV)} {kvs : List (K0 × Value)} (q : EsP prog w g es kvs) : ∀ {acc : List Value}, acc.length = kvs.length -> (∀ (j : Nat) v, acc[j]? = some v -> ∃ k x, kvs[j]? = some (k, x) ∧ isK k v = true) -> VRs prog w g (es.map (·.1)) acc := by
  induction q with
  | nil => exact fun hl z_ => List.length_eq_zero_iff.mp hl ▸ .nil
  | cons h r q ih =>
    intro acc hl hv
    induction acc using List.casesOn with
    | nil => exact Nat.noConfusion hl
    | cons v acc => exact .cons (u22 (hv 0 v rfl) fun k x e hk => of_isK h ((Prod.mk.inj (si e)).1 ▸ hk)) (ih (Nat.succ.inj hl) fun j v e => hv (j + 1) v e)
theorem EsT.hd {p : AV × AV} {es : List (AV × AV)} {xs : List (List K0 × Addr × Value)} (q : EsT prog w g (p :: es) xs) : ∃ l, p.1 = .tup l :=
  EsT.casesOn (motive := fun es z_ z_ => match es with | [] => True | p :: _ => ∃ l, p.1 = .tup l) q trivial fun z_ z_ z_ z_ z_ => ⟨_, rfl⟩
theorem sortV_tup {l rest : List AV} : sortV P (.tup l :: rest) = none := by
  induction rest using List.casesOn with
  | nil => rfl
  | cons b r => cases r <;> rfl
theorem aor_bytes {es : List (AV × AV)} {k : Nat} {a : Addr} {h : Heap} (x : AOR prog w g h (.dict es) k a) (hs : sortV P (es.map (·.1)) = some res) : ∃ des ep kvs, h.get? a = some (dctObj des ep) ∧ DObj prog w des kvs ∧ EsP prog w g es kvs := by
  induction es using List.casesOn with
  | nil => exact u11 (aor_nil x) fun ep e => ⟨_, _, [], e, ⟨fun e he => absurd he (Array.not_mem_empty e), .nil, List.nodup_nil⟩, .nil⟩
  | cons p es => exact x.inv.elim id fun z => u34 z fun z_ z_ z_ z_ z_ q z_ => u11 q.hd fun l e => nm (sortV_tup.symm.trans ((e ▸ hs : sortV P (.tup l :: es.map (·.1)) = some res)))
set_option tactic.hygienic true in
theorem sorted1_snd (R : Rep prog w G tabs g P s.heap) (hG : ∃ o, G.get? sysModules = some o) (hA : A.handled = none) (rx : VR prog w g x u) (h : sorted1 P x = some res) (hQ : Fine prog w G tabs g s res Q) : Done prog w A E s res (call (.builtin "sorted") [u]) Q := by
  induction x using DK.AV.casesOn with
  | ref k =>
    have h : (match P[k]? with
    | some (.list l) => sortV P l
    | some (.dict es) => sortV P (es.map (·.1))
    | _ => .none) = some res := h
    split at h
    · rename_i l hP
      obtain ⟨a, vs, rfl, pl, r⟩ := lst_of R rx (lst_ref hP)
      obtain ⟨n, e⟩ := pl
      refine sorted_by R h hQ fun hC => collect_list (vs := vs.toList) (by rw [Array.toArray_toList]; exact ⟨_, e, rfl, _, rfl⟩) ?_ (by have := sortV_len h; rw [← r.length]; exact plain_size (by omega))
      have := hC ((s.heap.push (seqObj "list" #[] 0)).update s.heap.objs.size (Obj.mapSeq (· ++ vs.toList.toArray))) s.toks vs.toList (fun b o q => ?_) r
      · exact this
      · rw [Heap.get?_update_other _ _ (Ne.symm fun z => by have := Heap.lt_size q; rw [z] at this; exact Nat.lt_irrefl _ this)]
        exact Heap.get?_push_of_some _ q
    · rename_i es hP
      obtain ⟨d, _, _, rfl, _, ho, _, x⟩ := dict_at R hP rx
      obtain ⟨des, ep, kvs, e, D, q⟩ := aor_bytes x h
      have hn : kvs.length = es.length := q.len.symm
      have h2 : es.length ≤ 2 := by have := sortV_len h; rwa [List.length_map] at this
      refine sorted_by R h hQ fun hC => W.kdu_collect (kdl_dict (knd := mixK prog w) (kvs := kvs) (ep := ep) (own_ne_sys R hG ho)) hA ⟨_, des, e, ⟨rfl, rfl, rfl⟩, rfl, D.1, D.2.1, D.2.2⟩ (plain_size (by omega)) fun h' tk acc hk hacc => ?_
      exact hC h' tk acc.toList hk (keys_vrs q (by rw [Array.length_toList]; exact hacc.1) fun j v e => hacc.2 j v (by rw [← Array.getElem?_toList]; exact e))
    · exact nm h
  | _ => exact nm h
theorem min2_snd (R : Rep prog w G tabs g P s.heap) (hA : A.handled = none) (rx : VR prog w g x u) (ry : VR prog w g y v) (h : min2 P x y = some res) (hQ : Fine prog w G tabs g s res Q) : Done prog w A E s res (call (.builtin "min") [u, v]) Q := by
  induction x using DK.AV.casesOn with
  | int a =>
    induction y using DK.AV.casesOn with
    | int b =>
      obtain rfl := okV_inj h
      obtain ⟨t, rfl⟩ := vr_int rx
      obtain ⟨t', rfl⟩ := vr_int ry
      refine ⟨nofun, wpAny_size (min_two_ints hA fun h' tk hk hz => hQ _ P g _ _ rfl (went_keep R hz hk) ?_)⟩
      split <;> exact .int _ _
    | _ => exact nm h
  | _ => exact nm h
theorem repr1_snd (R : Rep prog w G tabs g P s.heap) (rx : VR prog w g x u) (h : repr1 P x = some res) (hQ : Fine prog w G tabs g s res Q) : Done prog w A E s res (call (.builtin "repr") [u]) Q := by
  induction x using DK.AV.casesOn with
  | bool b =>
    obtain rfl := okV_inj h
    cases rx
    exact ⟨nofun, PySem.P.repr_of_bool (hQ _ P g _ _ rfl (Went.here R) (by cases b <;> exact .str _ _))⟩
  | _ => exact nm h
theorem ord1_snd (R : Rep prog w G tabs g P s.heap) (rx : VR prog w g x u) (h : ord1 P x = some res) (hQ : Fine prog w G tabs g s res Q) : Done prog w A E s res (call (.builtin "ord") [u]) Q := by
  unfold ord1 at h
  split at h
  · obtain rfl := okV_inj h
    obtain ⟨t, rfl⟩ := vr_str rx
    exact ⟨nofun, PySem.P.ord_of_char (hQ _ P g _ _ rfl (Went.here R) (.int _ _))⟩
  · exact nm h
theorem int1_snd (R : Rep prog w G tabs g P s.heap) (rx : VR prog w g x u) (h : int1 P x = some res) (hQ : Fine prog w G tabs g s res Q) : Done prog w A E s res (call (.type "int") [u]) Q := by
  induction x using DK.AV.casesOn with
  | int i =>
    obtain rfl := okV_inj h
    obtain ⟨t, rfl⟩ := vr_int rx
    exact ⟨nofun, call_int_int (hQ _ P g _ _ rfl (Went.here (tk := s.toks) R) (.int _ _))⟩
  | _ => exact nm h
theorem small_of {a b st : Int} (ha : a.natAbs < 1000000) (hb : b.natAbs < 1000000) (hs : st = 1 ∨ st = -1) : Builtin.Range.small a b st = true ∧ Builtin.Range.rangeSize a b st = (if st = 1 then (b - a).toNat else (a - b).toNat : Nat) := by
  have fits : ∀ {z : Int}, -10000000 < z -> z < 10000000 -> Builtin.Range.rangeFitsLong z = true := fun h1 h2 => by unfold Builtin.Range.rangeFitsLong; simp; omega
  rcases hs with rfl | rfl
  · have e : Builtin.Range.rangeSize a b 1 = ((b - a).toNat : Nat) := rangeSize_nat a b
    refine ⟨?_, by rw [if_pos rfl]; exact e⟩
    unfold Builtin.Range.small
    rw [e, fits (by omega) (by omega), fits (by omega) (by omega), fits (by omega) (by omega), fits (by omega) (by omega), if_pos (by decide), fits (by omega) (by omega)]; simp
  · have e : Builtin.Range.rangeSize a b (-1) = ((a - b).toNat : Nat) := by
      unfold Builtin.Range.rangeSize
      rw [if_neg (by decide)]
      split <;> simp <;> omega
    refine ⟨?_, by rw [if_neg (by decide)]; exact e⟩
    unfold Builtin.Range.small
    rw [e, fits (by omega) (by omega), fits (by omega) (by omega), fits (by omega) (by omega), fits (by omega) (by omega), if_neg (by decide), fits (by omega) (by omega)]; simp
set_option tactic.hygienic true in
theorem range1_snd (R : Rep prog w G tabs g P s.heap) (rx : VR prog w g x u) (h : range1 P x = some res) (hQ : Fine prog w G tabs g s res Q) : Done prog w A E s res (call (.type "range") [u]) Q := by
  induction x using DK.AV.casesOn with
  | int n =>
    have h : (if n.natAbs < 1000000 then okV (.rng 0 n.toNat 1) P else .none) = some res := h
    split at h
    · rename_i hz
      obtain rfl := okV_inj h
      obtain ⟨t, rfl⟩ := vr_int rx
      have sm := small_of (a := 0) (b := n) (by decide) hz (.inl rfl)
      have fr := R.froze (o := { cls := .type "range", data := .fields #[.int 0 s.toks, .int n t, .int 1 (s.toks + 1)] }) rfl
      refine ⟨nofun, call_range_1 (hQ _ P _ _ _ rfl ⟨fr.1, fr.2.2.1 _ _⟩ (.rng fr.2.2.2 sm.1 (by rw [sm.2]; simp)))⟩
    · exact nm h
  | _ => exact nm h
theorem range3_snd (R : Rep prog w G tabs g P s.heap) (rx : VR prog w g x u) (ry : VR prog w g y v) {c : Value} (rz : VR prog w g z c) (h : range3 P x y z = some res) (hQ : Fine prog w G tabs g s res Q) : Done prog w A E s res (call (.type "range") [u, v, c]) Q := by
  induction x using DK.AV.casesOn with
  | int a => induction y using DK.AV.casesOn with
    | int b => induction z using DK.AV.casesOn with
      | int st =>
        refine oi (h : (if st = -1 ∧ a.natAbs < 1000000 ∧ b.natAbs < 1000000 then okV (.rng a (a - b).toNat (-1)) P else none) = some res) fun hz h => ?_
        have e1 := hz.1
        have e2 := okV_inj h
        subst e1; subst e2
        refine u11 (vr_int rx) fun t e1 => u11 (vr_int ry) fun t' e2 => u11 (vr_int rz) fun t'' e3 => ?_
        subst e1; subst e2; subst e3
        have sm := small_of (a := a) (b := b) hz.2.1 hz.2.2 (.inr rfl)
        have fr := R.froze (o := { cls := .type "range", data := .fields #[.int a t, .int b t', .int (-1) t''] }) rfl
        exact ⟨nofun, call_range_3 (by decide) (hQ _ P _ _ _ rfl ⟨fr.1, fr.2.2.1 _ s.toks⟩ (.rng fr.2.2.2 sm.1 (sm.2.trans (congrArg Int.ofNat (if_neg (by decide)))))) (.inl (PyProof.noPylong_small (by decide)))⟩
      | _ => exact nm h
    | _ => exact nm h
  | _ => exact nm h
set_option tactic.hygienic true in
theorem list1_snd (R : Rep prog w G tabs g P s.heap) (rx : VR prog w g x u) (h : list1 P x = some res) (hQ : Fine prog w G tabs g s res Q) : Done prog w A E s res (call (.type "list") [u]) Q := by
  obtain ⟨l, h1, h2⟩ := Option.bind_eq_some_iff.mp h
  split at h2
  · rename_i hz
    obtain rfl := okV_inj h2
    obtain ⟨a, vs, rfl, ⟨n, e⟩, r⟩ := lst_of R rx h1
    refine ⟨nofun, wpAny_size (call_list_seq a (.inl rfl) e rfl rfl (fun h' c' hk e' hz' => ?_) (by rw [← Array.length_toList, ← r.length]; exact plain_size hz))⟩
    have W := went_new (tk := s.toks) R hz' hk (Nat.le_refl _) e'
    exact hQ _ P _ _ _ rfl W.1 (.lst W.2.2 (r.mono W.2.1))
  · cases h2
theorem bytes1_snd (R : Rep prog w G tabs g P s.heap) (hA : A.handled = none) (rx : VR prog w g x u) (h : bytes1 P x = some res) (hQ : Fine prog w G tabs g s res Q) : Done prog w A E s res (call (.type "bytes") [u]) Q := by
  induction x using DK.AV.casesOn with
  | lst l => induction l using List.casesOn with
    | nil => exact nm h
    | cons a l => induction a using DK.AV.casesOn with
      | int i => induction l using List.casesOn with
        | cons => exact nm h
        | nil =>
          refine oi (h : (if 0 ≤ i ∧ i < 256 then okV (.byt [i.toNat.toUInt8]) P else none) = some res) fun hi h => ?_
          have e := okV_inj h
          subst e
          refine u33 rx.inv fun a vs n ev e r => u23 r.ex fun v vs' e1 ra r => u11 (vr_int ra) fun t e2 => ?_
          subst ev
          have pl : s.heap.IsList a [Value.int i t].toArray := ⟨_, R.fro _ _ e, rfl, _, congrArg (Data.seq · n) ((Array.toArray_toList (xs := vs)).symm.trans (congrArg List.toArray (e1.trans (congr (congrArg List.cons e2) r.ex0))))⟩
          exact ⟨nofun, wpAny_size (call_bytes_ints (ns := [i]) pl (.cons i t .nil) (fun n hn => List.mem_singleton.mp hn ▸ hi) (len_ok (m := 1) rfl (by decide)) hA fun h' t k hk hz => hQ _ P g _ _ rfl (went_keep R hz hk) (.byt _ _))⟩
      | _ => exact nm h
  | _ => exact nm h
theorem met_dd : ∀ (l : List Int), (firstMet (fun i => l.getD i 0) l.length) = l.foldl dd1 [] := fun l => by
  unfold firstMet
  have : (List.range l.length).map (fun i => l.getD i 0) = l := by
    refine List.ext_getElem (by simp) fun i h1 h2 => ?_
    simp [h2]
  rw [this]; rfl
set_option tactic.hygienic true in
theorem set1_snd (R : Rep prog w G tabs g P s.heap) (hA : A.handled = none) (rx : VR prog w g x u) (h : set1 P x = some res) (hQ : Fine prog w G tabs g s res Q) : Done prog w A E s res (call (.type "set") [u]) Q := by
  induction x using DK.AV.casesOn with
  | lst l =>
    obtain ⟨is, h1, h2⟩ := Option.bind_eq_some_iff.mp h
    split at h2
    · rename_i hz
      obtain rfl := okV_inj h2
      obtain ⟨a, vs, rfl, pl, r⟩ := lst_of R rx rfl
      have ia := ints_at r h1
      have hl : vs.size = is.length := by rw [← Array.length_toList]; exact ia.length
      refine ⟨nofun, wpAny_size (call_set_list hA pl.isList ia (by rw [hl]; unfold scanBound; omega) fun h' tk hS hk hz' => ?_)⟩
      rw [hl, met_dd] at hS
      obtain ⟨o, ho, hso⟩ := hS.objOf
      have W := went_new (tk := tk) R hz' (fun b o e => hk b o (Heap.lt_size e) e) (Nat.le_refl _) ho
      exact hQ _ P _ _ _ rfl W.1 (.iset W.2.2 ⟨_, hso, hz⟩)
    · cases h2
  | _ => exact nm h
theorem keys_missed {a : Addr} {vs : Array Value} {n : Nat} {Q : Option Value -> Shared -> Prop} (hx : s.heap.get? a = some (listObj vs n)) (hA : A.handled = none)
    (h : ∀ h' tk, (∀ b o, s.heap.get? b = some o -> h'.get? b = some o) -> Q none { s with heap := h', toks := tk }) : wpAny (model prog w) A (getAttr? (.ref a) "keys") Q E s := by
  obtain ⟨hp, g, d, tk, os⟩ := s
  have hT : ∀ tk', (⟨hp, g, d, tk', os⟩ : Shared).TypeIs (.ref a) "list" := fun z_ => ⟨_, hx, rfl⟩
  have f1 := sub_AttributeError
  have f3 := F.slot_list_getattribute.lookup
  have f4 := F.slot_list_getattribute.bind (.ref a)
  have f5 := am_list_getattr_none
  have hmiss : typeLookup (.type "list") "keys" = pure none := am_miss_of_fast (by kernel_rfl)
  unfold getAttr? getAttrBy? getAttrBy
  repeat (any_goals (first | assumption | exact hT _ | ((with_reducible show wpAny _ _ (call (Value.builtin "list.__getattribute__") _ _) _ _ _); refine call_meets F.slot_list_getattribute (hT _) am_entry_list_getattribute (F.args_list_getattribute_2 _ _) (meets_getattribute_miss_list a vs n #[] "keys" _ hmiss (by decide)) ⟨hx, hA, fun h' tk' e hx' => ?_⟩) | wp_step))
  obtain ⟨t', u', he⟩ := hx'.there
  show wpAny _ _ (getattributeRaised _ _ _ _ _ _ _) _ _ _
  unfold getattributeRaised
  repeat (any_goals (first | assumption | wp_step))
  exact h _ _ hx'.keeps
end
end DK
namespace DK
open PySem PySem.W PySem.Calls PyProof.Rows
section
variable {prog : Program} {w : World} {K : Frag} {G : Heap} {mg mb : Str -> Option Value} {tabs : List (Addr × Addr × Str)} {A : Around} {g g' : Gh} {P : Hp} {s s' s₀ : Shared} {res : Res} {Q E : Value -> Shared -> Prop} {x y z : AV} {u v : Value}
theorem plain_upd : plainId "dict.update.loop" = true := by decide +kernel
theorem entry_upd : entryFor table "dict.update.loop" = some Builtin.«dict.update.loop» := entryFor_of_tree (by kernel_rfl)
theorem tup2_inv (r : VR prog w g (.tup [x, y]) u) : ∃ a m uk uv, u = .ref a ∧ g.ρ a = .fro { cls := .type "tuple", data := .seq [uk, uv].toArray m } ∧ VR prog w g x uk ∧ VR prog w g y uv :=
  u33 r.inv fun a vs m e f q => u23 q.ex fun uk us' e1 r1 q => u23 q.ex fun uv us'' e2 r2 q => ⟨a, m, uk, uv, e, (((Array.toArray_toList (xs := vs)).symm.trans (congrArg List.toArray (e1.trans (congrArg (uk :: ·) (e2.trans (congrArg (uv :: ·) q.ex0)))))) ▸ f : g.ρ a = .fro (tupObj [uk, uv].toArray m)), r1, r2⟩
theorem pairs_inv {rest : List AV} {acc es : List (AV × AV)} (h : pairsOf (y :: rest) acc = some es) : ∃ k v, y = .tup [.int k, v] := by
  induction y using DK.AV.casesOn with
  | tup l => induction l using List.casesOn with
    | nil => exact nm h
    | cons a l => induction a using DK.AV.casesOn with
      | int k => induction l using List.casesOn with
        | nil => exact nm h
        | cons v l => induction l using List.casesOn with
          | nil => exact ⟨k, v, rfl⟩
          | cons => exact nm h
      | _ => exact nm h
  | _ => exact nm h
theorem upd_loop {j : Nat} {d I l : Addr} {vs : Array Value} {n b : Nat} {all : List AV} {g₀ : Gh} {B : Result -> Shared -> Prop} (hA : A.handled = none) (hu : A.units + 10 < cLine) (hσ : g.σ[j]? = some d) (ho : g.ρ d = .own j) (hI : g.ρ I = .keep) (hI₀ : g₀.ρ I = .any)
    (hl : g.ρ l = .fro (listObj vs n)) (r : VRs prog w g all vs.toList) (rest : List AV) : ∀ {i : Nat} {t : Int} {acc es : List (AV × AV)} {P : Hp} {s : Shared}, Rep prog w G tabs g P s.heap -> Ext b g₀ s₀ g s -> P[j]? = some (.dict acc) ->
      s.heap.IsListIter I l i -> all.drop i = rest -> pairsOf rest acc = some es ->
      (∀ s', Rep prog w G tabs g (P.set j (.dict es)) s'.heap -> Ext b g₀ s₀ g s' -> B (.ok (.ret .none)) s') ->
      codeAny (model prog w) A (.builtin "dict.update.loop" ⟨[.ref d, .ref I, rawInt t, .none], []⟩) B s := by
  induction rest with
  | nil =>
    intro i t acc es P s R X hP it hd h hB
    refine codeAny_builtin entry_upd ?_
    rw [Around.under_plainId plain_upd _]
    have hlen : vs[i]? = none := (Array.getElem?_toList).symm.trans (List.getElem?_eq_none (r.length ▸ List.drop_eq_nil_iff.mp hd))
    have e : P.set j (.dict es) = P := (List.getElem?_eq_some_iff.mp hP).elim fun h1 h2 => si h ▸ h2 ▸ List.set_getElem_self h1
    refine (?_ : wpAny _ _ (pyNext (.ref I) >>= _) _ _ s)
    refine wpAny_bind (listEnd (s := s) (it := I) hA it ⟨_, R.fro _ _ hl, rfl, _, rfl⟩ hlen fun h' en => ?_)
    refine (?_ : wpAny _ _ (Builtin.Dict.addKeywords d [] >>= fun z_ => _) _ _ _)
    exact wpAny_bind (wpAny_pure (wpAny_pure (hB { s with heap := h' } (e.symm ▸ R.but hI en.2 en.1) (Ext.but (tk := s.toks) X hI₀ en.2 en.1))))
  | cons y rest ih =>
    intro i t acc es P s R X hP it hd h hB
    refine codeAny_builtin entry_upd ?_
    rw [Around.under_plainId plain_upd _]
    refine u21 (pairs_inv h) fun k v ey => ?_
    subst ey
    refine ob (h : (dput (.int k) v acc).bind (fun acc => pairsOf rest acc) = some es) fun acc' h1 h2 => ?_
    have hi : all[i]? = some (.tup [.int k, v]) := List.head?_drop.symm.trans (congrArg List.head? hd)
    refine u12 (r.at hi) fun u q2 ry => u44 (tup2_inv ry) fun a m uk uv eu ea rk rv => ?_
    subst eu
    refine (?_ : wpAny _ _ (pyNext (.ref I) >>= _) _ _ s)
    refine wpAny_bind (wpAny_pyNext_list_item it (⟨_, R.fro _ _ hl, rfl, _, rfl⟩ : s.heap.IsList l vs) (x := .ref a) ((Array.getElem?_toList).symm.trans q2) fun h₁ it₁ sb => ?_)
    have R₁ : Rep prog w G tabs g P h₁ := R.but hI (Nat.le_of_eq sb.1.symm) sb.extBut
    have X₁ : Ext b g₀ s₀ g { s with heap := h₁ } := Ext.but (tk := s.toks) X hI₀ (Nat.le_of_eq sb.1.symm) sb.extBut
    have ha := R₁.fro _ _ ea
    refine wpAny_bind (wpAny_holding (wpAny_bind (wpAny_tryCatch ?_)))
    unfold Builtin.Dict.pairItems
    refine wpAny_bind (wpAny_typeOf (T := "tuple") ⟨_, ha, rfl⟩ ?_)
    rw [if_pos (by decide)]
    refine wpAny_bind (wpAny_seqItems ha rfl (wpAny_pure ?_))
    refine (?_ : wpAny _ _ (holding [uk, uv] (dictSet d uk uv)) _ _ _)
    refine u13 (R₁.own _ _ hP) fun d' p1 p2 p3 => ?_
    have ed := si (p1.symm.trans hσ)
    subst ed
    refine wpAny_holding (dput_snd (s := { s with heap := h₁ }) R₁ hP hσ ho p3 rk rv h1 A.in1 _ _ (Nat.le_sub_one_of_lt (Nat.lt_of_le_of_lt (Nat.add_le_add_left (by decide : 1 ≤ 10) _) hu)) fun h₂ tk S => ?_)
    have hlt := (List.getElem?_eq_some_iff.mp hP).1
    exact wpAny_pure ⟨plainId_quiet plain_upd _, ih (s := { s with heap := h₂, toks := tk }) S.1 (X₁.trans (S.2 b tk)) (List.getElem?_set_self hlt) (isListIter_keep it₁ fun o e => (S.2 0 0).keep I o hI e) ((List.drop_drop ..).symm.trans (congrArg (List.drop 1) hd)) h2 fun s' R' X' => hB s' (List.set_set _ ▸ R') X'⟩
theorem dict1_snd (R : Rep prog w G tabs g P s.heap) (hA : A.handled = none) (hu : A.units + 20 < cLine) (rx : VR prog w g x u) (h : dict1 P x = some res) (hQ : Fine prog w G tabs g s res Q) : Done prog w A E s res (call (.type "dict") [u]) Q := by
  induction x using DK.AV.casesOn with
  | lst l =>
    refine oi (h : (if l.length < 1000 then (pairsOf l []).bind fun es => okV (.ref P.length) (P ++ [.dict es]) else .none) = some res) fun hz h => ob h fun es h1 h2 => ?_
    have er : res = .ok (.ref P.length) (P ++ [.dict es]) := (si h2).symm
    subst er
    refine u33 rx.inv fun a vs n eu ea r => ?_
    subst eu
    have e := R.fro _ _ ea
    refine ⟨nofun, ?_⟩
    refine callType_codes (Q₁ := fun obj s₁ => obj = .ref s.heap.objs.size ∧ s₁ = { s with heap := s.heap.push { cls := .type "dict", data := .dict #[] } }) PySem.F.kt_called_dict (PySem.F.kt_typeCall_dict_1 _) F.entry_dict_init (kt_code_dict_new _ ⟨rfl, rfl⟩) fun obj s₁ z => ?_
    rw [z.1, z.2]
    have w₀ : Went prog w G tabs g s (g.add s.heap.objs.size) { s with heap := s.heap.push (dctObj #[] 0) } (P ++ [.dict []]) :=
      new_own R rfl fun h' kp e => .dictP (kvs := []) e ⟨fun e he => absurd he (Array.not_mem_empty e), .nil, List.nodup_nil⟩ .nil
    have σ₀ : (g.add s.heap.objs.size).σ[P.length]? = some s.heap.objs.size := R.len ▸ List.getElem?_concat_length
    have ρ₀ : (g.add s.heap.objs.size).ρ s.heap.objs.size = .own P.length := R.len ▸ if_pos rfl
    have hnew : (s.heap.push (dctObj #[] 0)).get? s.heap.objs.size = some (dctObj #[] 0) := Heap.get?_push_size _ rfl
    have ha : (s.heap.push (dctObj #[] 0)).get? a = some (listObj vs n) := Heap.get?_push_of_some _ e
    refine ⟨⟨_, hnew, rfl⟩, F.args_dict_init_2 _ _, ?_⟩
    unfold Builtin.«dict.__init__»
    refine wpAny_bind ?_
    unfold Builtin.Dict.selfAndRest
    refine wpAny_bind (wpAny_notOrdered_dict ⟨_, hnew, rfl⟩ ?_)
    refine (?_ : wpAny _ _ (pure (s.heap.objs.size, [Value.ref a])) _ _ _)
    refine wpAny_pure ?_
    refine (?_ : wpAny _ _ (Builtin.Dict.updateFrom "dict.__init__" s.heap.objs.size (.ref a) [] .none) _ _ _)
    unfold Builtin.Dict.updateFrom
    refine wpAny_bind (wpAny_typeOf (T := "list") ⟨_, ha, rfl⟩ ?_)
    rw [if_pos (by decide)]
    refine wpAny_bind (wpAny_size (keys_missed (s := { s with heap := s.heap.push (dctObj #[] 0) }) ha hA fun h₁ tk k₁ z₁ => ?_))
    have w₁ := w₀.trans (went_keep (tk := tk) w₀.1 z₁ k₁)
    rw [if_pos (show (Option.isNone (none : Option Value)) = true from rfl)]
    refine wpAny_bind (wpAny_rule (wpAny_bind (wpAny_pyIter_list (⟨_, k₁ _ _ ha, rfl, _, rfl⟩ : h₁.IsList a vs) ?_)))
    have fr := w₁.1.fresh (Nat.le_refl _)
    have L := Gh.le_set .keep fr
    have X₂ : Ext s.heap.objs.size g s ((g.add s.heap.objs.size).set h₁.objs.size .keep) { s with heap := h₁.push { cls := .type "list_iterator", data := .fields #[.ref a, .int 0 0] }, toks := tk } :=
      w₁.2.trans (Ext.of_keeps (s := { s with heap := h₁, toks := tk }) (tk := tk) L (Nat.le_of_lt (size_psh1 _ _)) fun a o z_ e => Heap.get?_push_of_some _ e)
    have R₂ := Rep.role (r := .keep) (w₁.1.push { cls := .type "list_iterator", data := .fields #[.ref a, .int 0 0] }) fr (size_psh1 _ _) (fun z_ e => DK.rx e) (fun e => DK.rx e) fun e => DK.rx e
    have Lg := w₁.2.le.trans L
    have fI : g.ρ h₁.objs.size = .any := Classical.byContradiction fun z => z ((w₁.2.le.role _ z).symm.trans fr)
    refine wpAny_pure ⟨plainId_quiet plain_upd _, upd_loop (A := A.in1) (t := 0) (I := h₁.objs.size) (j := P.length) hA (Nat.lt_of_le_of_lt (Nat.add_le_add_left (by decide : 1 + 10 ≤ 20) A.units) hu) (L.pre _ _ σ₀) (L.at ρ₀) (Gh.set_self ..) fI (Lg.at ea) (r.mono Lg) l (i := 0) R₂ X₂ List.getElem?_concat_length ⟨_, Heap.get?_push_size _ rfl, rfl, rfl⟩ rfl h1 fun s' R' X' => ⟨rfl, ?_⟩⟩
    have e2 : (P ++ [AO.dict []]).set P.length (.dict es) = P ++ [.dict es] := (List.set_append_right _ _ (Nat.le_refl _)).trans (by rw [Nat.sub_self]; rfl)
    exact hQ _ _ _ _ _ rfl ⟨e2 ▸ R', X'⟩ (.ref (L.pre _ _ σ₀))
  | _ => exact nm h
theorem built_rule (hG : ∃ o, G.get? sysModules = some o) : BuiltRule prog w G tabs := by
  intro P f args res g s A fv vs Q E hf R hC hM rf ra h hQ
  have hA := hC.1
  have hu : A.units + 20 < cLine := Nat.lt_of_le_of_lt (Nat.le_trans (Nat.add_le_add_left (by decide : 20 ≤ 100 * 1) _) hM.2) (by decide : (9000 : Nat) < cLine)
  induction f using DK.AV.casesOn with
  | top v =>
    have e := rf.inv
    subst e
    induction fv using PySem.Value.casesOn with
    | builtin id => induction args using List.casesOn with
      | nil => exact nm h
      | cons a args => refine u23 ra.ex fun v1 vs1 ev r1 ra => ev ▸ ?_; induction args using List.casesOn with
        | nil =>
          rw [ra.ex0]
          refine oe (h : (if id = "len" then _ else _ : Out) = some res) (fun e h => e ▸ len1_snd R hG r1 h hQ) fun z_ h => oe h (fun e h => e ▸ sorted1_snd R hG hA r1 h hQ) fun z_ h => oe h (fun e h => e ▸ repr1_snd R r1 h hQ) fun z_ h => oi h fun e h => e ▸ ord1_snd R r1 h hQ
        | cons b args => refine u23 ra.ex fun v2 vs2 ev r2 ra => ev ▸ ?_; induction args using List.casesOn with
          | nil =>
            rw [ra.ex0]
            exact oi (h : (if id = "min" then _ else none : Out) = some res) fun e h => e ▸ min2_snd R hA r1 r2 h hQ
          | cons => exact nm h
    | type id => induction args using List.casesOn with
      | nil => exact nm h
      | cons a args => refine u23 ra.ex fun v1 vs1 ev r1 ra => ev ▸ ?_; induction args using List.casesOn with
        | nil =>
          rw [ra.ex0]
          exact oe (h : (if id = "range" then _ else _ : Out) = some res) (fun e h => e ▸ range1_snd R r1 h hQ) fun z_ h => oe h (fun e h => e ▸ list1_snd R r1 h hQ) fun z_ h => oe h (fun e h => e ▸ int1_snd R r1 h hQ) fun z_ h => oe h (fun e h => e ▸ bytes1_snd R hA r1 h hQ) fun z_ h => oe h (fun e h => e ▸ dict1_snd R hA hu r1 h hQ) fun z_ h => oi h fun e h => e ▸ set1_snd R hA r1 h hQ
        | cons b args => refine u23 ra.ex fun v2 vs2 ev r2 ra => ev ▸ ?_; induction args using List.casesOn with
          | nil => exact nm h
          | cons c args => refine u23 ra.ex fun v3 vs3 ev r3 ra => ev ▸ ?_; induction args using List.casesOn with
            | nil =>
              rw [ra.ex0]
              exact oi (h : (if id = "range" then _ else none : Out) = some res) fun e h => e ▸ range3_snd R r1 r2 r3 h hQ
            | cons => exact nm h
    | _ => exact nt hf
  | _ => exact nt hf
theorem rs_by {o : Out} {F : Hp -> Res} {M : Prop} (h : (match o with | some (.ok .none Q) => some (F Q) | _ => .none) = some res) (k : ∀ Q, o = some (.ok .none Q) -> F Q = res -> M) : M := by
  induction o using Option.casesOn with
  | none => exact nm h
  | some o => induction o using DK.Res.casesOn with
    | ok x Q => induction x using DK.AV.casesOn with
      | none => exact k Q rfl (si h)
      | _ => exact nm h
    | exc => exact nm h
theorem rest_rule (FX : Facts prog w K G mg mb tabs) {fi : FI} {sf : Str} (hfi : finfo 69 = some fi) (TF : ThingFn fi sf) {r : CallR} {m : Nat} (hr : CallOk prog w G tabs r m) : RestRule prog w G tabs r m := by
  intro P a fI args res g s A vs B hi R hC hM ra h hB
  refine oe h (fun e h => op h fun b hb er => ?_) fun z_ h => rs_by h fun Q q er => ?_
  · subst e; subst er
    exact thing_snd FX hfi TF R hC hM ra hb fun g' s' u W r => hB _ _ _ _ _ rfl W r
  · subst er
    exact new_snd FX hr R hC hM hi ra q fun g' s' u W r => hB _ _ _ _ _ rfl W r
end
end DK
namespace DK
open PySem PySem.W PySem.Calls PyProof.Rows
theorem peek_bind {α β : Type} {K : Frag} {S : Setting} {f : α -> Sem β} {a : α} {r : Option β} {t : Sem α} (h : peek K S t = some a) (k : peek K S (f a) = r) : peek K S (t >>= f) = r := by
  induction t with
  | pure b => exact (si h ▸ k : peek K S (f b) = r)
  | rule _ k ih => exact ih () h
  | point _ k ih => exact ih () h
  | ask k ih => exact ih _ h
  | load x p k ih =>
    unfold peek at h
    refine (?_ : peek K S (.load x p fun o => k o >>= f) = r)
    unfold peek
    induction hx : K.lookup x using Option.casesOn with
    | none => rw [hx] at h; exact nm h
    | some o => rw [hx] at h; exact ih o h
  | _ => exact nm h
noncomputable abbrev ABind := List (Str × Value)
noncomputable def addS (s : ABind) (p : Str × Value) : ABind := if (s.lookup p.1).isNone then s ++ [(p.1, p.2)] else s
noncomputable def lateD (ps : List Str) (d : List Value) : ABind := (ps.drop (ps.length - (d.drop (d.length - ps.length)).length)).zip (d.drop (d.length - ps.length))
theorem peek_for {K : Frag} {S : Setting} {body : Str × Value -> ABind -> Sem (ForInStep ABind)} (h : ∀ p s, body p s = pure (.yield (addS s p))) (l : ABind) : ∀ s, peek K S (forIn l s body) = some (l.foldl addS s) := by
  induction l with
  | nil => exact fun z_ => rfl
  | cons p l ih => exact fun s => (congrArg (peek K S) (List.forIn_cons ..)).trans (peek_bind (a := .yield (addS s p)) ((congrArg (peek K S) (h p s)).trans rfl) (ih _))
theorem look_ne {x y : Str} {v : Value} {s : ABind} (h : x ≠ y) : List.lookup x ((y, v) :: s) = List.lookup x s := by rw [List.lookup_cons, beq_eq_false_iff_ne.mpr h]
theorem fold_cons {p : Str} {a : Value} (l : ABind) : ∀ {s : ABind}, p ∉ l.map (·.1) -> l.foldl addS ((p, a) :: s) = (p, a) :: l.foldl addS s := by
  induction l with
  | nil => exact fun z_ => rfl
  | cons q l ih =>
    intro s h
    have h1 : q.1 ≠ p := fun e => h (e ▸ .head _)
    have : addS ((p, a) :: s) q = (p, a) :: addS s q := by
      unfold addS
      rw [look_ne h1]
      split <;> rfl
    rw [List.foldl_cons, this, List.foldl_cons]
    exact ih fun z => h (.tail _ z)
theorem fold_all (l : ABind) : ∀ {s : ABind}, ((s ++ l).map (·.1)).Nodup -> l.foldl addS s = s ++ l := by
  induction l with
  | nil => exact fun z_ => (List.append_nil _).symm
  | cons q l ih =>
    intro s h
    have : addS s q = s ++ [q] := by
      unfold addS
      refine if_pos (Option.isNone_iff_eq_none.mpr (List.lookup_eq_none_iff.mpr fun p hp => ?_))
      rw [List.map_append] at h
      exact bne_iff_ne.mpr fun e => (List.nodup_append.mp h).2.2 _ (List.mem_map_of_mem hp) _ (.head _) e.symm
    rw [List.foldl_cons, this, ih (by rw [List.append_assoc]; exact h), List.append_assoc]; rfl
theorem pick_all {R : ABind} : ∀ {l : ABind}, (l.map (·.1)).Nodup -> (∀ p ∈ l, R.lookup p.1 = some p.2) -> (l.map (·.1)).filterMap (fun n => (R.lookup n).map (n, ·)) = l := by
  intro l
  induction l with
  | nil => exact fun z_ z_ => rfl
  | cons q l ih => exact fun nd h => by rw [List.map_cons, List.filterMap_cons, h q (.head _)]; exact congrArg (q :: ·) (ih (List.nodup_cons.mp nd).2 fun p hp => h p (.tail _ hp))
theorem look_all : ∀ {l : ABind}, (l.map (·.1)).Nodup -> ∀ p ∈ l, l.lookup p.1 = some p.2 := by
  intro l
  induction l with
  | nil => exact fun z_ p hp => absurd hp List.not_mem_nil
  | cons q l ih =>
    intro nd p hp
    have nd := List.nodup_cons.mp nd
    refine (List.mem_cons.mp hp).elim (fun e => ?_) fun h => (look_ne fun e : p.1 = q.1 => nd.1 (List.mem_map.mpr ⟨p, h, e⟩)).trans (ih nd.2 p h)
    subst e
    rw [List.lookup_cons, beq_self_eq_true]
theorem late_names {ps : List Str} {d : List Value} {x : Str} (h : x ∈ (lateD ps d).map (·.1)) : x ∈ ps := by
  obtain ⟨p, hp, rfl⟩ := List.mem_map.mp h
  exact List.mem_of_mem_drop (List.of_mem_zip hp).1
theorem late_cons {p : Str} {ps : List Str} {d : List Value} : (lateD (p :: ps) d = lateD ps d ∧ (p :: ps).length - (d.drop (d.length - (p :: ps).length)).length = ps.length - (d.drop (d.length - ps.length)).length + 1) ∨
    (∃ v, lateD (p :: ps) d = (p, v) :: lateD ps d ∧ (p :: ps).length - (d.drop (d.length - (p :: ps).length)).length = 0) := by
  unfold lateD
  by_cases h : d.length ≤ ps.length
  · have h1 : d.length - ps.length = 0 := Nat.sub_eq_zero_of_le h
    have h2 : d.length - (p :: ps).length = 0 := Nat.sub_eq_zero_of_le (Nat.le_succ_of_le h)
    have h3 : (p :: ps).length - d.length = ps.length - d.length + 1 := Nat.succ_sub h
    rw [h1, h2, List.drop_zero, h3]
    exact .inl ⟨rfl, rfl⟩
  · have h1 : d.length - ps.length = d.length - (p :: ps).length + 1 := by rw [List.length_cons]; omega
    have hk : d.length - (p :: ps).length < d.length := by rw [List.length_cons]; omega
    generalize d.length - (p :: ps).length = m at h1 hk ⊢
    rw [h1, List.drop_eq_getElem_cons hk]
    have h2 : (p :: ps).length - (d[m] :: d.drop (m + 1)).length = 0 := by rw [List.length_cons, List.length_cons, List.length_drop]; omega
    have h3 : ps.length - (d.drop (m + 1)).length = 0 := by rw [List.length_drop]; omega
    rw [h2, h3]
    exact .inr ⟨_, rfl, rfl⟩
theorem fm_congr {f g : Str -> Option (Str × Value)} {l : List Str} (h : ∀ x ∈ l, f x = g x) : l.filterMap f = l.filterMap g := by
  induction l with
  | nil => rfl
  | cons p l ih => rw [List.filterMap_cons, List.filterMap_cons, h p (.head _), ih fun x hx => h x (.tail _ hx)]
theorem bind_core {d : List Value} : ∀ {ps : List Str} {vals : List Value} {b : ABind}, ps.Nodup -> bindD ps vals d = some b -> ¬ vals.length > ps.length ∧
    ((ps.take (ps.length - (d.drop (d.length - ps.length)).length)).filter fun n => ((ps.zip vals).lookup n).isNone) = [] ∧
    ps.filterMap (fun n => (((lateD ps d).foldl addS (ps.zip vals)).lookup n).map (n, ·)) = b := by
  intro ps
  induction ps with
  | nil =>
    intro vals b nd h
    induction vals using List.casesOn with
    | nil => exact ⟨Nat.lt_irrefl _, (by rw [List.take_nil]; rfl), si h⟩
    | cons => exact nm h
  | cons p ps ih =>
    intro vals b nd h
    induction vals using List.casesOn with
    | nil =>
      refine oe h (fun z_ h => nm h) fun hl h => ?_
      have hl := Nat.not_lt.mp hl
      have e : (p :: ps).length - (d.drop (d.length - (p :: ps).length)).length = 0 := by rw [List.length_drop]; omega
      have hm : (((p :: ps).zip (d.drop (d.length - (p :: ps).length))).map (·.1)) = p :: ps := List.map_fst_zip (by rw [List.length_drop]; omega)
      rw [e]
      have hL : lateD (p :: ps) d = b := by unfold lateD; rw [e]; exact si h
      have nd' : (b.map (·.1)).Nodup := si h ▸ hm.symm ▸ nd
      refine ⟨Nat.not_lt_zero _, rfl, ?_⟩
      rw [hL]
      refine ((congrArg (fun R => (p :: ps).filterMap fun n => (List.lookup n R).map (n, ·)) (fold_all b (s := []) nd')).trans ?_)
      have hb : b.map (·.1) = p :: ps := si h ▸ hm
      rw [← hb]
      exact pick_all nd' (look_all nd')
    | cons a vals =>
      refine op h fun b' h1 h2 => ?_
      subst h2
      have nd := List.nodup_cons.mp nd
      obtain ⟨i1, i2, i3⟩ := ih nd.2 h1
      refine ⟨fun z => i1 (Nat.lt_of_succ_lt_succ z), ?_, ?_⟩
      · refine (late_cons (p := p) (ps := ps) (d := d)).elim (fun z => ?_) fun z => ?_
        · rw [z.2]
          refine (List.filter_cons_of_neg (by rw [List.zip_cons_cons, List.lookup_cons, beq_self_eq_true]; exact Bool.false_ne_true)).trans (Eq.trans (List.filter_congr fun x hx => ?_) i2)
          rw [List.zip_cons_cons, look_ne fun e : x = p => nd.1 (e ▸ List.mem_of_mem_take hx)]
        · rw [z.choose_spec.2]; rfl
      · have key : (lateD (p :: ps) d).foldl addS ((p :: ps).zip (a :: vals)) = (p, a) :: (lateD ps d).foldl addS (ps.zip vals) := by
          refine Eq.trans ?_ (fold_cons _ fun z => nd.1 (late_names z))
          refine (late_cons (p := p) (ps := ps) (d := d)).elim (fun z => ?_) fun z => ?_
          · rw [z.1]; rfl
          · rw [z.choose_spec.1, List.foldl_cons]
            have : addS ((p :: ps).zip (a :: vals)) (p, z.choose) = (p, a) :: ps.zip vals := by
              unfold addS
              rw [List.zip_cons_cons, List.lookup_cons, beq_self_eq_true]; rfl
            rw [this]
        rw [key, List.filterMap_cons, List.lookup_cons, beq_self_eq_true]
        refine congrArg ((p, a) :: ·) (Eq.trans (fm_congr fun x hx => ?_) i3)
        rw [look_ne fun e : x = p => nd.1 (e ▸ hx)]
theorem bind_peek {K : Frag} {name qual : Str} {args : List Arg} {kwd : List (Option Expr)} {dflt : List Expr} {body : List Stmt} {sc : Scope} {dV kV doc pm cdv ct : Value} {an : Option Addr} {dvs vals : List Value} {b : ABind}
    (nd : (args.map (·.arg)).Nodup) {S : Setting} (hd : ∃ o, peek K S (seqItems? dV) = some o ∧ (o.getD #[]).toList = dvs) (hb : bindD (args.map (·.arg)) vals dvs = some b) :
    peek K S (bindArgs (fnOf name qual ⟨[], args, none, [], kwd, none, dflt⟩ body sc dV kV doc pm an cdv ct) ⟨vals, []⟩) = some b := by
  refine (bind_core nd hb).elim fun q1 z => z.elim fun q2 q3 => u12 hd fun o ho hdv => ?_
  subst hdv
  unfold bindArgs
  refine peek_bind (a := _) rfl ?_
  refine peek_bind ho ?_
  refine ((congrArg (peek K S) (if_neg (fun h => q1 (of_decide_eq_true (Bool.and_eq_true_iff.mp h).1)))).trans ?_)
  refine ((congrArg (peek K S) (if_neg fun h => Bool.false_ne_true ((congrArg (fun l => !List.isEmpty l) q2).symm.trans h))).trans ?_)
  refine peek_bind (peek_for (fun p s => (apply_ite (fun x => (pure (ForInStep.yield x) : Sem (ForInStep ABind))) ((s.lookup p.1).isNone = true) (s ++ [(p.1, p.2)]) s).symm) (lateD (args.map (·.arg)) (o.getD #[]).toList) _) ?_
  refine peek_bind (a := _) rfl ?_
  refine (?_ : some (List.filterMap (fun n => (List.lookup n ((lateD (args.map (·.arg)) (o.getD #[]).toList).foldl addS ((args.map (·.arg)).zip vals))).map (n, ·)) (args.map (·.arg) ++ [])) = some b)
  exact congrArg some ((congrArg (List.filterMap _) (List.append_nil _)).trans q3)
end DK
namespace DK
open PySem PySem.W PySem.Calls PyProof.Rows
theorem nlook_mem {α : Type} {k : Nat} {x : α} {l : List (Nat × α)} (h : nlook k l = some x) : (k, x) ∈ l := by
  induction l with
  | nil => exact nm h
  | cons p l ih =>
    have h : (match Nat.beq p.1 k with | true => some p.2 | false => nlook k l) = some x := h
    induction hb : Nat.beq p.1 k using Bool.casesOn with
    | true => rw [hb] at h; exact Nat.eq_of_beq_eq_true hb ▸ si h ▸ .head _
    | false => rw [hb] at h; exact .tail _ (ih h)
theorem tab_mem {β : Type} {k : Nat} {a : Str} {v : β} {l : List (Nat × List (Str × β))} (h : slook a ((nlook k l).getD []) = some v) : ∃ r, (k, r) ∈ l ∧ (a, v) ∈ r := by
  induction hl : nlook k l using Option.casesOn with
  | none => rw [hl] at h; exact nm h
  | some r => rw [hl] at h; exact ⟨r, nlook_mem hl, mem_slook h⟩
theorem all_at {α β : Type} {f : Nat -> α × β -> Bool} {l : List (Nat × List (α × β))} (h : (l.all fun p => p.2.all (f p.1)) = true) {k : Nat} {r : List (α × β)} {a : α} {v : β} (h1 : (k, r) ∈ l) (h2 : (a, v) ∈ r) : f k (a, v) = true :=
  List.all_eq_true.mp (List.all_eq_true.mp h _ h1) _ h2
noncomputable def litB : AV -> Value -> Bool
  | .top u, v => decide (u = v)
  | .int i, .int j _ => decide (i = j)
  | .bool a, v => decide (v = .bool a)
  | .none, v => decide (v = .none)
  | _, _ => false
theorem litB_ok {a : AV} {v : Value} (h : litB a v = true) : litOk a v := by
  induction a using DK.AV.casesOn with
  | top u => exact (of_decide_eq_true h : u = v)
  | int i => induction v using PySem.Value.casesOn with
    | int j t => exact ⟨t, (of_decide_eq_true h : i = j) ▸ rfl⟩
    | _ => exact nt h
  | bool b => exact (of_decide_eq_true h : v = .bool b)
  | none => exact (of_decide_eq_true h : v = .none)
  | _ => exact nt h
noncomputable def litsB : List AV -> List Value -> Bool
  | [], [] => true
  | a :: l, v :: vs => litB a v && litsB l vs
  | _, _ => false
theorem litsB_ok {l : List AV} : ∀ {vs : List Value}, litsB l vs = true -> Lits l vs := by
  induction l with
  | nil => intro vs h; induction vs using List.casesOn with
    | nil => exact .nil
    | cons => exact nt h
  | cons a l ih => intro vs h; induction vs using List.casesOn with
    | nil => exact nt h
    | cons => exact (Bool.and_eq_true_iff.mp h).elim fun h1 h2 => .cons (litB_ok h1) (ih h2)
section
variable (K : Frag)
noncomputable def fdAt (f : Addr) : FuncData := match K.lookup f with
  | some ⟨_, _, .func fd, _⟩ => fd
  | _ => default
noncomputable def shape (f : Addr) (fi : FI) : FuncData := fnOf (fdAt K f).name (fdAt K f).qualname ⟨[], (fdAt K f).params.args, none, [], (fdAt K f).params.kw_defaults, none, (fdAt K f).params.defaults⟩ fi.body fi.scope (fdAt K f).defaults (fdAt K f).kwdefaults (fdAt K f).doc (fdAt K f).pyModule (fdAt K f).annotations (fdAt K f).code (fdAt K f).closureTuple
noncomputable def isFn (f : Addr) : Bool := match K.lookup f with
  | some ⟨_, _, .func _, _⟩ => true
  | _ => false
noncomputable def dfltIn (v : Value) : Option (List Value) := match v with
  | .none => some []
  | .ref a => (match K.lookup a with
    | some ⟨_, _, .seq xs _, _⟩ => some xs.toList
    | _ => none)
  | _ => none
noncomputable def dfltB (fi : FI) (v : Value) : Bool := match dfltIn K v with
  | some vs => litsB fi.dflt vs
  | none => false
noncomputable def lamB (tabs : List (Addr × Addr × Str)) (v : Value) (q : Str) : Bool := match v with
  | .ref c => tabs.any fun t => decide (t.1 = c ∧ t.2.2 = q)
  | _ => false
noncomputable def fnB (tabs : List (Addr × Addr × Str)) (f : Addr) (fi : FI) : Bool := isFn K f && (decide ((fdAt K f).params.args.map (·.arg) = fi.params) && (codeIn K (fdAt K f).code (fdAt K f).qualname && ((!fi.lam || lamB tabs (fdAt K f).code ((fdAt K f).qualname ++ (".<locals>." : Str) ++ ("<lambda>" : Str))) &&
  (dfltB K fi (fdAt K f).defaults && (decide (fi.scope.isCoroutine = false) && (decide (fi.scope.isGenerator = false) && (decide (fi.scope.kind = .function) && fiOk fi)))))))
theorem isFn_ok {f : Addr} (h : isFn K f = true) : ∃ oc od osl, K.lookup f = some ⟨oc, od, .func (fdAt K f), osl⟩ := by
  unfold isFn at h
  unfold fdAt
  induction hl : K.lookup f using Option.casesOn with
  | none => rw [hl] at h; exact nt h
  | some o =>
    rw [hl] at h
    obtain ⟨oc, od, dt, osl⟩ := o
    induction dt using PySem.Data.casesOn with
    | func fd => exact ⟨oc, od, osl, rfl⟩
    | _ => exact nt h
theorem dflt_ok {fi : FI} {v : Value} (h : dfltB K fi v = true) : ∃ dvs, Lits fi.dflt dvs ∧ ∀ S, ∃ o, peek K S (seqItems? v) = some o ∧ (o.getD #[]).toList = dvs := by
  unfold dfltB at h
  induction hd : dfltIn K v using Option.casesOn with
  | none => rw [hd] at h; exact nt h
  | some vs =>
    rw [hd] at h
    refine ⟨vs, litsB_ok h, fun S => ?_⟩
    induction v using PySem.Value.casesOn with
    | none => exact ⟨none, rfl, si hd⟩
    | ref a =>
      unfold dfltIn at hd
      dsimp only at hd
      induction hl : K.lookup a using Option.casesOn with
      | none => rw [hl] at hd; exact nm hd
      | some o =>
        rw [hl] at hd
        obtain ⟨oc, od, dt, osl⟩ := o
        induction dt using PySem.Data.casesOn with
        | seq xs n =>
          refine ⟨some xs, ?_, si hd⟩
          refine peek_bind (a := ⟨oc, od, .seq xs n, osl⟩) ?_ rfl
          refine (?_ : peek K S (.load a none fun o => .pure o) = _)
          unfold peek
          rw [hl]; rfl
        | _ => exact nm hd
    | _ => exact nm hd
variable {K}
theorem fn_of {tabs : List (Addr × Addr × Str)} {f : Addr} {fi : FI} (h : fnB K tabs f fi = true) (e : fdAt K f = shape K f fi) : FnOk K tabs f fi := by
  have A {a b : Bool} := (Bool.and_eq_true_iff (x := a) (y := b)).mp
  refine (A h).elim fun h1 h => (A h).elim fun h2 h => (A h).elim fun h3 h => (A h).elim fun h4 h => (A h).elim fun h5 h => (A h).elim fun h6 h => (A h).elim fun h7 h => (A h).elim fun h8 h9 => ?_
  have h2 := of_decide_eq_true h2
  refine ⟨(isFn_ok K h1).elim fun oc z => u21 z fun od osl hl => ?_, of_decide_eq_true h6, of_decide_eq_true h7, of_decide_eq_true h8, h9⟩
  refine ⟨oc, od, osl, _, _, _, _, _, _, _, _, _, _, e ▸ hl, h3, fun l => ?_, (dflt_ok K h5).imp fun dvs z => ⟨z.1, fun vals b hb S => bind_peek (h2 ▸ (fiP_of h9).ps) (z.2 S) (h2 ▸ hb)⟩⟩
  rw [l] at h4
  have h4 : lamB tabs (fdAt K f).code ((fdAt K f).qualname ++ (".<locals>." : Str) ++ ("<lambda>" : Str)) = true := h4
  unfold lamB at h4
  induction hc : (fdAt K f).code using PySem.Value.casesOn with
  | ref c =>
    rw [hc] at h4
    obtain ⟨t, ht, hd⟩ := List.any_eq_true.mp h4
    have hd := of_decide_eq_true hd
    exact ⟨c, t.2.1, rfl, hd.1 ▸ hd.2 ▸ ht⟩
  | _ => rw [hc] at h4; exact nt h4
end
end DK
namespace DK
open PySem PySem.W PySem.Calls PyProof.Rows
section
variable (K : Frag)
noncomputable def globB (x : Str) (v : AV) : Bool := match nsIn K mainGlobals x with
  | some (some u) => litB v u
  | some none => decide (x ≠ "__name__") && (match bootBuiltins x with
    | some u => litB v u
    | none => false)
  | none => false
noncomputable def keepB (v : AV) : Bool := match v with
  | .top u => keepU K u
  | _ => true
noncomputable def clsB (C : Nat) (p : Str × Unit) : Bool := decide (plainGet K C p.1 = true ∧ hasDictIn K C = true ∧ findIn K (.ref C) p.1 = some none ∧ findIn K (.ref C) "__setattr__" = some (some (.builtin "object.__setattr__")) ∧ plainOver K C = true ∧ takerIn K C p.1 = some none)
noncomputable def isPropOf (f : Nat) (l : Option (List Value)) : Bool := match l with
  | some (.ref f' :: _) => decide (f' = f)
  | _ => false
noncomputable def methB1 (C : Nat) (p : Str × CA) : Bool := match p.2 with
  | .meth f => decide (plainGet K C p.1 = true ∧ hasDictIn K C = true ∧ findIn K (.ref C) p.1 = some (some (.ref f)) ∧ typeIn K (.ref f) = some (.type "function") ∧ keepIn K (.ref f) = true ∧
    specialIn K (.ref f) "__get__" = some (some (.builtin "function.__get__")) ∧ takesIn K (.ref f) = some false ∧ copiedNames.contains p.1 = false)
  | .prop f => (match findIn K (.ref C) p.1 with
    | some (some (.ref q)) => decide (plainGet K C p.1 = true ∧ hasDictIn K C = true ∧ specialIn K (.ref q) "__get__" = some (some (.builtin "property.__get__")) ∧ takesIn K (.ref q) = some true) && isPropOf f (recIn K q "property")
    | _ => false)
noncomputable def madeB (p : Nat × Nat) : Bool := decide (makesIn K p.1 = true ∧ findIn K (.ref p.1) "__init__" = some (some (.ref p.2)) ∧ typeIn K (.ref p.2) = some (.type "function"))
noncomputable def fnsB (tabs : List (Addr × Addr × Str)) : Bool := fTab.all fun p => match p.2 with
  | some fi => fnB K tabs p.1 fi
  | none => true
noncomputable def Texts : Prop := (fTab.map fun p => fdAt K p.1) = fTab.map fun p => shape K p.1 (p.2.getD default)
theorem isProp_ok {f : Nat} {l : Option (List Value)} (h : isPropOf f l = true) : ∃ rest, l = some (.ref f :: rest) := by
  induction l using Option.casesOn with
  | none => exact nt h
  | some l => induction l using List.casesOn with
    | nil => exact nt h
    | cons v r => induction v using PySem.Value.casesOn with
      | ref f' => exact ⟨r, (of_decide_eq_true h : f' = f) ▸ rfl⟩
      | _ => exact nt h
theorem glob_ok {G : Heap} {mg mb : Str -> Option Value} (X : K.In G) (ns : G.Ns mainGlobals mg) (hb : ∀ x : Str, x ≠ "__name__" -> mb x = bootBuiltins x) {x : Str} {v : AV} (h : globB K x v = true) : ∃ u, (mg x = some u ∨ (mg x = none ∧ mb x = some u)) ∧ litOk v u := by
  unfold globB at h
  induction hn : nsIn K mainGlobals x using Option.casesOn with
  | none => rw [hn] at h; exact nt h
  | some o =>
    rw [hn] at h
    induction o using Option.casesOn with
    | some u => exact ⟨u, .inl (mg_of X ns hn), litB_ok h⟩
    | none =>
      refine (Bool.and_eq_true_iff.mp h).elim fun h1 h2 => ?_
      induction hu : bootBuiltins x using Option.casesOn with
      | none => rw [hu] at h2; exact nt h2
      | some u => rw [hu] at h2; exact ⟨u, .inr ⟨mg_none_of X ns hn, (hb x (of_decide_eq_true h1)).trans hu⟩, litB_ok h2⟩
theorem prop_ok {C : Nat} {m : Str} {f : Nat} (h : methB1 K C (m, .prop f) = true) : plainGet K C m = true ∧ hasDictIn K C = true ∧ ∃ p rest, findIn K (.ref C) m = some (some (.ref p)) ∧ specialIn K (.ref p) "__get__" = some (some (.builtin "property.__get__")) ∧
    takesIn K (.ref p) = some true ∧ recIn K p "property" = some (.ref f :: rest) := by
  unfold methB1 at h
  dsimp only at h
  induction hf : findIn K (.ref C) m using Option.casesOn with
  | none => rw [hf] at h; exact nt h
  | some o => induction o using Option.casesOn with
    | none => rw [hf] at h; exact nt h
    | some u => induction u using PySem.Value.casesOn with
      | ref q =>
        rw [hf] at h
        refine (Bool.and_eq_true_iff.mp h).elim fun h1 h2 => ?_
        have h1 := of_decide_eq_true h1
        exact (isProp_ok h2).elim fun rest e => ⟨h1.1, h1.2.1, q, rest, rfl, h1.2.2.1, h1.2.2.2, e⟩
      | _ => rw [hf] at h; exact nt h
theorem facts_of {prog : Program} {w : World} {G : Heap} {mg mb : Str -> Option Value} {tabs : List (Addr × Addr × Str)} (X : K.In G) (lim : G.NoLimit) (sys : ∃ o, G.get? sysModules = some o) (ns : G.Ns mainGlobals mg) (nb : G.Ns builtinsNs mb)
    (hb : ∀ x : Str, x ≠ "__name__" -> mb x = bootBuiltins x) (told : nsIn K mainGlobals "_law_told" = some (some (.ref 700))) (hg : (globs.all fun p => globB K p.1 p.2 && keepB K p.2) = true) (hc : (dTab.all fun p => p.2.all (clsB K p.1)) = true) (hm : (cTab.all fun p => p.2.all (methB1 K p.1)) = true) (hi : iTab.all (madeB K) = true) (hf : fnsB K tabs = true) (e : Texts K) : Facts prog w K G mg mb tabs := by
  have hg := fun p hp => Bool.and_eq_true_iff.mp (List.all_eq_true.mp hg p hp)
  exact {
    X := X, lim := lim, sys := sys, ns := ns, nb := nb
    glob := fun x v h => glob_ok K X ns hb (hg _ (mem_slook h)).1
    told := mg_of X ns told
    keep := fun x u h => (hg _ (mem_slook h)).2
    cls := fun C a h => (Option.isSome_iff_exists.mp h).elim fun v h => u12 (tab_mem h) fun r h1 h2 => of_decide_eq_true (all_at hc h1 h2)
    meth := fun C m f h => u12 (tab_mem h) fun r h1 h2 => of_decide_eq_true (all_at hm h1 h2)
    prop := fun C m f h => u12 (tab_mem h) fun r h1 h2 => prop_ok K (all_at hm h1 h2)
    fn := fun f fi h => by
      refine ob h fun o h1 h2 => ?_
      have h2 : o = some fi := h2
      subst h2
      have hm := nlook_mem h1
      exact fn_of (List.all_eq_true.mp hf _ hm) (List.map_inj_left.mp e _ hm)
    made := fun C f h => of_decide_eq_true (List.all_eq_true.mp hi _ (nlook_mem h)) }
end
end DK
namespace DK
open PySem PySem.W PySem.Calls PyProof.Rows
noncomputable def tabs3 : List (Addr × Addr × Str) := [(718, 716, "_law_search_right.<locals>.<lambda>"), (725, 721, "_law_deed.<locals>.<lambda>"), (735, 733, "law.<locals>.<lambda>")]
noncomputable abbrev tabs2 : List (Addr × Addr) := [(718, 716), (725, 721), (735, 733)]
theorem tabs_in {c T : Addr} {q : Str} (h : (c, T, q) ∈ tabs3) : (c, T) ∈ tabs2 := List.mem_map_of_mem (f := fun t : Addr × Addr × Str => (t.1, t.2.1)) h
theorem tabs_uniq (c T : Addr) (q : Str) (c' : Addr) (q' : Str) (h : (c, T, q) ∈ tabs3) (h' : (c', T, q') ∈ tabs3) : q = q' :=
  (of_decide_eq_true (List.all_eq_true.mp (List.all_eq_true.mp (show (tabs3.all fun a => tabs3.all fun b => decide (a.2.1 ≠ b.2.1 ∨ a.2.2 = b.2.2)) = true by kernel_rfl) _ h) _ h')).elim (fun z => absurd rfl z) id
theorem told_form {fi : FI} (h : finfo 700 = some fi) : ToldFn fi "found" "call" "PsError" "e" := by
  obtain rfl := si h
  exact ⟨⟨_, _, _, _, _, _, _, _, _, _, _, _, _, _, _, _, _, _, _, _, _, _, _, _, _, rfl⟩, rfl, rfl, rfl, rfl, rfl, rfl, by decide, by decide⟩
theorem put_form {fi : FI} (h : finfo 36 = some fi) : PutFn fi "self" "told" := by
  obtain rfl := si h
  exact ⟨⟨_, _, _, _, rfl⟩, rfl, rfl, rfl, by decide⟩
theorem thing_form {fi : FI} (h : finfo 69 = some fi) : ThingFn fi "self" := by
  obtain rfl := si h
  exact ⟨.cons (.cons (.cons (.cons .nil))), rfl, rfl, rfl, by decide, by decide, by decide⟩
noncomputable def excB (K : Frag) : Bool := decide (findIn K (.ref 52) "__getattribute__" = some (some (.builtin "BaseException.__getattribute__")) ∧ findIn K (.ref 52) "__getattr__" = some none ∧ findIn K (.ref 52) "__setattr__" = some (some (.builtin "object.__setattr__")) ∧ hasDictIn K 52 = true ∧
  findIn K (.ref 52) "told" = some none ∧ mroIn K 52 (.type "BaseException") = some true ∧ mroIn K 52 (.type "object") = some true ∧ keepIn K (.ref 52) = true ∧ findIn K (.ref 52) "__init__" = some (some (.ref 36)) ∧ typeIn K (.ref 36) = some (.type "function")) &&
  (clsIn K 52).any fun cd => decide (cd.mro = .ref 52 :: bmE ∧ cd.hasDict = true)
theorem exc_of {K : Frag} (h : excB K = true) : ExcFacts2 K := by
  refine (Bool.and_eq_true_iff.mp h).elim fun h1 h2 => ?_
  have z := of_decide_eq_true h1
  refine ⟨⟨z.1, z.2.1, z.2.2.1, z.2.2.2.1, z.2.2.2.2.1, z.2.2.2.2.2.1⟩, ?_, z.2.2.2.2.2.2.1, z.2.2.2.2.2.2.2.1, z.2.2.2.2.2.2.2.2.1, z.2.2.2.2.2.2.2.2.2⟩
  exact ((Option.any_eq_true _ _).mp h2).imp fun cd y => ⟨y.1, (of_decide_eq_true y.2).1, (of_decide_eq_true y.2).2⟩
end DK
namespace DK.PL
open PySem
theorem r_up {n : Nat} {P : Hp} {f : AV} {as : List AV} {e : Out} (h : callB (R n) P f as = e) : R (n + 1) P f as = e := h
noncomputable abbrev TT (a x e : Out) : Prop := a = x -> a = e
noncomputable abbrev Nx {a x : Out} (h : a = x) (e : Out) : Prop := x = e
theorem s_blk {one : Stmt -> Loc -> Hp -> (Loc -> Hp -> Out) -> Out} {s : Stmt} {rest : List Stmt} {l : Loc} {P : Hp} {kn : Loc -> Hp -> Out} {e : Out} (h : one s l P (fun l P => blk one rest l P kn) = e) : blk one (s :: rest) l P kn = e := blk_cons.trans h
theorem s_nil {one : Stmt -> Loc -> Hp -> (Loc -> Hp -> Out) -> Out} {l : Loc} {P : Hp} {kn : Loc -> Hp -> Out} {e : Out} (h : kn l P = e) : blk one [] l P kn = e := blk_nil.trans h
structure ST where
  s0 : List AV
  left : List Int
  mx : Int
  row : List Nat
  lrow : List Nat
  acc : Nat -> Int
  lacc : Nat -> Int
  en : Nat -> List (Nat × Int)
  len : Nat -> List (Nat × Int)
  cnt : Int
  lf : Int
noncomputable def bkey : Nat -> AV
  | 0 => .tup [.str "word", .byt [97]]
  | 1 => .tup [.str "word", .byt [98]]
  | _ => .tup [.str "number", .int 7000000]
noncomputable def lkey : Nat -> AV
  | 0 => .str "a"
  | 1 => .str "b"
  | _ => .int 7
noncomputable def mkT (k v : AV) : AV := .ins 72 [("kind", k), ("value", v), ("is_exec", .bool false), ("access", .int 3)]
noncomputable def kth : Nat -> AV
  | 0 => mkT (.str "name") (.byt [97])
  | 1 => mkT (.str "name") (.byt [98])
  | _ => mkT (.str "integer") (.int 7)
noncomputable def ith (c : Int) : AV := mkT (.str "integer") (.int c)
noncomputable def dth (d : Nat) : AV := mkT (.str "dict") (.ref (10 + 4 * d))
noncomputable def limO : AO := .inst 384 [("operands", .int 500), ("dicts", .int 20), ("frames", .int 250), ("saves", .int 15), ("gstates", .int 31), ("text", .int 65535), ("row", .int 65535), ("entries", .int 65535), ("word", .int 127),
  ("path", .int 1500), ("dash", .int 11), ("files", .int 15), ("system", .int 600), ("vm", .int 16777216)]
noncomputable def memO : AO := .inst 665 [("limits", .ref 3), ("is_global", .bool false), ("saves", .ref 5), ("journal", .ref 6), ("made", .ref 7), ("freed", .ref 8), ("used", .int 288), ("used_global", .int 0), ("last_body", .int 6), ("last_save", .int 0)]
noncomputable def mad (n : Int) : AV × AV := (.int n, .tup [.int 48, .bool false, .int 0])
noncomputable def bodyO (a : Int) (d : Nat) : AO := .inst 105 [("number", .int (d + 1 : Nat)), ("most", .int 3), ("is_global", .bool false), ("level", .int 0), ("access", .int a), ("entries", .ref (11 + 4 * d))]
noncomputable def entO (l : List (Nat × Int)) : AO := .dict (l.map fun p => (bkey p.1, .tup [kth p.1, ith p.2]))
noncomputable def oneO (a : Int) (d : Nat) : AO := .dict [(.str "body", .ref (10 + 4 * d)), (.str "number", .int (d + 1 : Nat)), (.str "access", .int a), (.str "entries", .ref (13 + 4 * d))]
noncomputable def lenO (l : List (Nat × Int)) : AO := .dict (l.map fun p => (lkey p.1, .int p.2))
noncomputable def one (d : Nat) : AV := .ref (12 + 4 * d)
noncomputable def lay (t : ST) : Hp := [.list t.s0, .list (t.left.map .int), .dict [(.str "left", .ref 1), (.str "mixed", .int t.mx)], limO, memO, .list [], .list [], .dict [mad 1, mad 2, mad 3, mad 4, mad 5, mad 6], .list [], .list [one 0, one 1, one 2, one 3, one 4, one 5],
  bodyO (t.acc 0) 0, entO (t.en 0), oneO (t.lacc 0) 0, lenO (t.len 0),
  bodyO (t.acc 1) 1, entO (t.en 1), oneO (t.lacc 1) 1, lenO (t.len 1),
  bodyO (t.acc 2) 2, entO (t.en 2), oneO (t.lacc 2) 2, lenO (t.len 2),
  bodyO (t.acc 3) 3, entO (t.en 3), oneO (t.lacc 3) 3, lenO (t.len 3),
  bodyO (t.acc 4) 4, entO (t.en 4), oneO (t.lacc 4) 4, lenO (t.len 4),
  bodyO (t.acc 5) 5, entO (t.en 5), oneO (t.lacc 5) 5, lenO (t.len 5),
  .inst 362 [("most", .int 6), ("things", .ref 35)], .list (t.row.map dth), .dict [(.str "row", .ref 37), (.str "more", .ref 38), (.str "count", .int t.cnt), (.str "left", .int t.lf)], .list (t.lrow.map one), .list [one 3, one 4, one 5]]
theorem lay_body (t : ST) {d : Nat} (h : d < 6) : (lay t)[10 + 4 * d]? = some (bodyO (t.acc d) d) := match d, h with
  | 0, _ => rfl | 1, _ => rfl | 2, _ => rfl | 3, _ => rfl | 4, _ => rfl | 5, _ => rfl
theorem lay_ent (t : ST) {d : Nat} (h : d < 6) : (lay t)[11 + 4 * d]? = some (entO (t.en d)) := match d, h with
  | 0, _ => rfl | 1, _ => rfl | 2, _ => rfl | 3, _ => rfl | 4, _ => rfl | 5, _ => rfl
theorem lay_one (t : ST) {d : Nat} (h : d < 6) : (lay t)[12 + 4 * d]? = some (oneO (t.lacc d) d) := match d, h with
  | 0, _ => rfl | 1, _ => rfl | 2, _ => rfl | 3, _ => rfl | 4, _ => rfl | 5, _ => rfl
theorem lay_len (t : ST) {d : Nat} (h : d < 6) : (lay t)[13 + 4 * d]? = some (lenO (t.len d)) := match d, h with
  | 0, _ => rfl | 1, _ => rfl | 2, _ => rfl | 3, _ => rfl | 4, _ => rfl | 5, _ => rfl
noncomputable def upd {α : Type} (f : Nat -> α) (d : Nat) (v : α) : Nat -> α := fun x => if x = d then v else f x
theorem set_body (t : ST) {d : Nat} (h : d < 6) (a : Int) : (lay t).set (10 + 4 * d) (bodyO a d) = lay { t with acc := upd t.acc d a } := match d, h with
  | 0, _ => rfl | 1, _ => rfl | 2, _ => rfl | 3, _ => rfl | 4, _ => rfl | 5, _ => rfl
theorem set_ent (t : ST) {d : Nat} (h : d < 6) (l : List (Nat × Int)) : (lay t).set (11 + 4 * d) (entO l) = lay { t with en := upd t.en d l } := match d, h with
  | 0, _ => rfl | 1, _ => rfl | 2, _ => rfl | 3, _ => rfl | 4, _ => rfl | 5, _ => rfl
theorem set_one (t : ST) {d : Nat} (h : d < 6) (a : Int) : (lay t).set (12 + 4 * d) (oneO a d) = lay { t with lacc := upd t.lacc d a } := match d, h with
  | 0, _ => rfl | 1, _ => rfl | 2, _ => rfl | 3, _ => rfl | 4, _ => rfl | 5, _ => rfl
theorem set_len (t : ST) {d : Nat} (h : d < 6) (l : List (Nat × Int)) : (lay t).set (13 + 4 * d) (lenO l) = lay { t with len := upd t.len d l } := match d, h with
  | 0, _ => rfl | 1, _ => rfl | 2, _ => rfl | 3, _ => rfl | 4, _ => rfl | 5, _ => rfl
theorem dec_t {p : Prop} {α : Type} {f : ¬ p -> α} {g : p -> α} {i : Decidable p} (h : p) : Decidable.rec (motive := fun z_ => α) f g i = g h := by cases i with | isTrue _ => rfl | isFalse n => exact absurd h n
theorem dec_f {p : Prop} {α : Type} {f : ¬ p -> α} {g : p -> α} {i : Decidable p} (h : ¬ p) : Decidable.rec (motive := fun z_ => α) f g i = f h := by cases i with | isTrue n => exact absurd n h | isFalse _ => rfl
theorem bin_mod {a m : Int} (hm : 0 < m) : bin1 .Mod (.int a) (.int m) = some (.int (Int.fmod a m)) := if_pos hm
local macro_rules | `(tactic| walk_at "v") => `(tactic| (refine' (?f : TT _ _ _) ?aux; (case aux => (conv => lhs; whnf)); intro h; refine (?_ : Nx h _); refine (?_ : _ = _)))
local macro_rules | `(tactic| walk_at "w") => `(tactic| (walk_at "v"; try ((first | refine s_blk ?_ | refine s_nil ?_); walk_at "w")))
local macro_rules | `(tactic| walk_at "o") => `(tactic| first | exact dn (by assumption) | exact dl (by assumption) | omega)
theorem dn {a b n : Nat} (h : b ≤ n + 1) (d : Nat.ble (a + 1) b = true := by rfl) : a ≤ n := Nat.le_of_succ_le_succ (Nat.le_trans (Nat.le_of_ble_eq_true d) h)
theorem dl {a b n : Nat} (h : b ≤ n) (d : Nat.ble a b = true := by rfl) : a ≤ n := Nat.le_trans (Nat.le_of_ble_eq_true d) h
theorem draw_cons (n : Nat) (t : ST) (x : Int) (r : List Int) (m : Int) (hm : 0 < m) (hr : r.length < 100000) : R (n + 1) (lay { t with left := x :: r }) (rf 693) [.ref 2, .int m] = some (.ok (.int (Int.fmod x m)) (lay { t with left := r })) := by
  walk_at "w"
  refine (dec_t (by simpa using hr)).trans ?_
  walk_at "w"
  erw [bin_mod hm]
  rfl
theorem draw_nil (n : Nat) (t : ST) (m : Int) (hm : 0 < m) : R (n + 1) (lay { t with left := [] }) (rf 693) [.ref 2, .int m] = some (.ok (.int (Int.fmod (Int.fdiv (Int.fmod (t.mx * 4801 + 97) 1000003) 7) m)) (lay { t with left := [], mx := Int.fmod (t.mx * 4801 + 97) 1000003 })) := by
  walk_at "w"
  erw [bin_mod hm]
  rfl
theorem fmod_in {a m : Int} (hm : 0 < m) : 0 ≤ Int.fmod a m ∧ Int.fmod a m < m := ⟨Int.fmod_nonneg_of_pos a hm, Int.fmod_lt_of_pos a hm⟩
theorem draw_ok (n : Nat) (hn : 1 ≤ n) (t : ST) (m : Int) (hm : 0 < m) (hl : t.left.length < 100000) : ∃ v l x, R n (lay t) (rf 693) [.ref 2, .int m] = some (.ok (.int v) (lay { t with left := l, mx := x })) ∧ 0 ≤ v ∧ v < m ∧ l.length < 100000 := by
  obtain ⟨n, rfl⟩ : ∃ k, n = k + 1 := ⟨n - 1, by omega⟩
  obtain ⟨s0, left, mx, row, lrow, acc, lacc, en, len, cnt, lf⟩ := t
  cases left with
  | nil => exact ⟨_, _, _, draw_nil n ⟨s0, [], mx, row, lrow, acc, lacc, en, len, cnt, lf⟩ m hm, (fmod_in hm).1, (fmod_in hm).2, hl⟩
  | cons x r =>
    have hr : r.length < 100000 := by simp at hl; omega
    exact ⟨_, _, _, draw_cons n ⟨s0, [], mx, row, lrow, acc, lacc, en, len, cnt, lf⟩ x r m hm hr, (fmod_in hm).1, (fmod_in hm).2, hr⟩
noncomputable def L (l : List (String × AV)) : Loc := l.map fun p => (Str.ofString p.1, .av p.2)
theorem walk_fin {α : Type} {turn : LV -> α -> Hp -> (α -> Hp -> Out) -> Out} {fin : α -> Hp -> Out} {v : LV} {n : Nat} {P : Hp} {g : Nat -> LV} {dec : Nat -> Option Out} {e : Out} (I : α -> Prop)
    (hv : ∀ i, nthL P v n i = some (if i < n then some (g i) else .none)) (ht : ∀ i l f, i < n -> I l -> match dec i with | some o => turn (g i) l P f = o | .none => ∃ l', I l' ∧ turn (g i) l P f = f l' P) (hf : ∀ l, I l -> fin l P = e) :
    ∀ j i l, i + j = n -> I l -> walk v n turn fin (j + 1) i l P = ((List.range' i j).findSome? dec).getD e
  | 0, i, l, hi, hl => by
    rw [walk_eq, hv, if_neg (by omega)]
    exact hf l hl
  | j + 1, i, l, hi, hl => by
    rw [walk_eq, hv, if_pos (by omega)]
    have := ht i l (fun l P => walk v n turn fin (j + 1) (i + 1) l P) (by omega) hl
    refine (?_ : turn (g i) l P _ = _)
    rw [List.range'_succ, List.findSome?_cons]
    cases hd : dec i with
    | some o => rw [hd] at this; exact this
    | none =>
      rw [hd] at this
      obtain ⟨l', h1, h2⟩ := this
      rw [h2]
      exact walk_fin I hv ht hf j (i + 1) l' (by omega) h1
theorem find_list {α β : Type} (F : α -> Option β) : ∀ (xs : List α) (k : Nat) (G : Nat -> Option β), (∀ i x, xs[i]? = some x -> G (k + i) = F x) -> (List.range' k xs.length).findSome? G = xs.findSome? F
  | [], k, G, h => rfl
  | x :: xs, k, G, h => by
    rw [List.length_cons, List.range'_succ, List.findSome?_cons, List.findSome?_cons, show G k = F x from h 0 x rfl, find_list F xs (k + 1) G fun i y e => by rw [show k + 1 + i = k + (i + 1) by omega]; exact h (i + 1) y (by simpa using e)]
noncomputable def lk (k : Nat) (l : List (Nat × Int)) : Option Int := (l.find? (·.1 == k)).map (·.2)
noncomputable def Ks (l : List (Nat × Int)) : Prop := (∀ p ∈ l, p.1 < 3) ∧ (l.map (·.1)).Nodup
theorem bkey_eq {a b : Nat} (ha : a < 3) (hb : b < 3) : kkeq (bkey a) (bkey b) = some (a == b) := match a, b, ha, hb with
  | 0, 0, _, _ | 0, 1, _, _ | 0, 2, _, _ | 1, 0, _, _ | 1, 1, _, _ | 1, 2, _, _ | 2, 0, _, _ | 2, 1, _, _ | 2, 2, _, _ => rfl
theorem lkey_eq {a b : Nat} (ha : a < 3) (hb : b < 3) : kkeq (lkey a) (lkey b) = some (a == b) := match a, b, ha, hb with
  | 0, 0, _, _ | 0, 1, _, _ | 0, 2, _, _ | 1, 0, _, _ | 1, 1, _, _ | 1, 2, _, _ | 2, 0, _, _ | 2, 1, _, _ | 2, 2, _, _ => rfl
theorem dget0_map {key : Nat -> AV} (hk : ∀ {a b : Nat}, a < 3 -> b < 3 -> kkeq (key a) (key b) = some (a == b)) {k : Nat} (h3 : k < 3) (F : Nat × Int -> AV) : ∀ {l : List (Nat × Int)}, (∀ p ∈ l, p.1 < 3) -> dget0 (key k) (l.map fun (p : Nat × Int) => (key p.1, F p)) = some ((l.find? (·.1 == k)).map F)
  | [], _ => rfl
  | p :: l, h => by
    show (match kkeq (key p.1) (key k) with | some true => some (some (F p)) | some false => dget0 (key k) (l.map fun (p : Nat × Int) => (key p.1, F p)) | .none => .none) = _
    rw [hk (h p (.head _)) h3, List.find?_cons]
    cases hc : p.1 == k with
    | true => rfl
    | false => exact dget0_map hk h3 F fun q hq => h q (.tail _ hq)
theorem bkey_ok (k : Nat) : keyOk (bkey k) = true := match k with | 0 | 1 | _ + 2 => rfl
theorem lkey_ok (k : Nat) : keyOk (lkey k) = true := match k with | 0 | 1 | _ + 2 => rfl
theorem find_key {k : Nat} : ∀ {l : List (Nat × Int)} {p : Nat × Int}, l.find? (·.1 == k) = some p -> p.1 = k := fun h => by have := List.find?_some h; simpa using this
theorem bget {l : List (Nat × Int)} (h : Ks l) {k : Nat} (h3 : k < 3) : dget (bkey k) (l.map fun (p : Nat × Int) => (bkey p.1, .tup [kth p.1, ith p.2])) = some ((lk k l).map fun c => .tup [kth k, ith c]) := by
  unfold dget
  rw [bkey_ok, if_pos rfl, dget0_map bkey_eq h3 (fun (p : Nat × Int) => .tup [kth p.1, ith p.2]) h.1]
  unfold lk
  cases hf : l.find? (·.1 == k) with
  | none => rfl
  | some p => simp only [Option.map_some]; rw [find_key hf]
theorem lget {l : List (Nat × Int)} (h : Ks l) {k : Nat} (h3 : k < 3) : dget (lkey k) (l.map fun (p : Nat × Int) => (lkey p.1, .int p.2)) = some ((lk k l).map fun c => .int c) := by
  unfold dget
  rw [lkey_ok, if_pos rfl, dget0_map lkey_eq h3 (fun (p : Nat × Int) => .int p.2) h.1]
  unfold lk
  cases hf : l.find? (·.1 == k) with
  | none => rfl
  | some p => rfl
theorem len_ok {n : Nat} (hn : 1 ≤ n) {P : Hp} {j : Nat} {l : List AV} (h : P[j]? = some (.list l)) (hz : l.length < 100000) : R n P (.top (.builtin "len")) [.ref j] = some (.ok (.int l.length) P) := by
  obtain ⟨n, rfl⟩ : ∃ k, n = k + 1 := ⟨n - 1, by omega⟩
  show len1 P (.ref j) = _
  unfold len1
  simp only [h]
  rw [if_pos hz]; rfl
theorem down_ok {n : Nat} (hn : 1 ≤ n) {P : Hp} {k : Nat} (hk : k < 1000) : R n P (.top (.type "range")) [.int ((k : Int) - 1), .int (-1), .int (-1)] = some (.ok (.rng ((k : Int) - 1) k (-1)) P) := by
  obtain ⟨n, rfl⟩ : ∃ k, n = k + 1 := ⟨n - 1, by omega⟩
  show range3 P (.int ((k : Int) - 1)) (.int (-1)) (.int (-1)) = _
  unfold range3
  simp only
  rw [if_pos (by refine ⟨trivial, ?_, ?_⟩ <;> omega), show (((k : Int) - 1) - -1).toNat = k by omega]; rfl
theorem down_nth {P : Hp} {k i : Nat} : nthL P (.av (.rng ((k : Int) - 1) k (-1))) k i = some (if i < k then some (.av (.int ((k : Int) - 1 - i))) else .none) := by
  show (some (if i < k then some (AV.int ((k : Int) - 1 + (i : Int) * -1)) else none)).map (fun x => x.map LV.av) = _
  split
  · rw [show ((k : Int) - 1 + (i : Int) * -1) = (k : Int) - 1 - i by omega]; rfl
  · rfl
theorem down_item {α β : Type} {xs : List α} {f : α -> β} {i : Nat} {x : α} (h : xs.reverse[i]? = some x) (hz : xs.length < 1000) : ((place ((xs.length : Int) - 1 - i) (xs.map f).length).bind fun j => (xs.map f)[j]?) = some (f x) := by
  have hi : i < xs.length := by have := (List.getElem?_eq_some_iff.mp h).1; rwa [List.length_reverse] at this
  unfold place
  rw [List.length_map, if_pos (by omega), if_pos (by omega), if_pos (by omega), Option.bind_some, List.getElem?_map, show ((xs.length : Int) - 1 - i).toNat = xs.length - 1 - i by omega, ← List.getElem?_reverse hi, h]; rfl
theorem s_walk {α : Type} {v : LV} {n : Nat} {turn : LV -> α -> Hp -> (α -> Hp -> Out) -> Out} {fin : α -> Hp -> Out} {m i : Nat} {l : α} {P : Hp} {e : Out} (h : (match nthL P v n i with
    | .none => .none
    | some .none => fin l P
    | some (some x) => turn x l P fun l P => walk v n turn fin m (i + 1) l P) = e) : walk v n turn fin (m + 1) i l P = e := walk_eq.trans h
section
variable {β : Type} {α : Type}
theorem s_av {o : Option AV} {a : AV} {f : AV -> Out} {g : Unit -> Out} {e : Out} (h : o = some a) (k : f a = e) : getF.match_1 (fun z_ => Out) o f g = e := by subst h; exact k
theorem s_inst {o : Option AO} {C : Nat} {fs : List (Str × AV)} {f : Nat -> List (Str × AV) -> Out} {g : Option AO -> Out} {e : Out} (h : o = some (.inst C fs)) (k : f C fs = e) : getA.match_1 (fun z_ => Out) o f g = e := by subst h; exact k
theorem s_t {o : Option Bool} {f1 f2 f3 : Unit -> Out} {e : Out} (h : o = some true) (k : f1 () = e) : dget0.match_1 (fun z_ => Out) o f1 f2 f3 = e := by subst h; exact k
theorem s_f {o : Option Bool} {f1 f2 f3 : Unit -> Out} {e : Out} (h : o = some false) (k : f2 () = e) : dget0.match_1 (fun z_ => Out) o f1 f2 f3 = e := by subst h; exact k
theorem blk_heap {one : Stmt -> Loc -> Hp -> (Loc -> Hp -> Out) -> Out} {ss : List Stmt} {l : Loc} {P P' : Hp} {kn : Loc -> Hp -> Out} {e : Out} (h : P = P') (k : blk one ss l P' kn = e) : blk one ss l P kn = e := h ▸ k
theorem blk_loc {one : Stmt -> Loc -> Hp -> (Loc -> Hp -> Out) -> Out} {ss : List Stmt} {l l' : Loc} {P : Hp} {kn : Loc -> Hp -> Out} {e : Out} (h : l = l') (k : blk one ss l' P kn = e) : blk one ss l P kn = e := h ▸ k
theorem s_res {o : Out} {x : AV} {P : Hp} {f : AV -> Hp -> Out} {f' : AV -> Hp -> Out} {g : Unit -> Out} {e : Out} (h : o = some (.ok x P)) (k : f x P = e) : doCall.match_1 (fun z_ => Out) o f f' g = e := by subst h; exact k
theorem s_exc {o : Out} {x : AV} {P : Hp} {f : AV -> Hp -> Out} {f' : AV -> Hp -> Out} {g : Unit -> Out} {e : Out} (h : o = some (.exc x P)) (k : f' x P = e) : doCall.match_1 (fun z_ => Out) o f f' g = e := by subst h; exact k
theorem s_prop {o : Out} {x : AV} {P : Hp} {f : AV -> Hp -> Out} {g : Out -> Out} {e : Out} (h : o = some (.ok x P)) (k : f x P = e) : propK.match_1 (fun z_ => Out) o f g = e := by subst h; exact k
theorem s_b {o : Option Bool} {b : Bool} {f : Bool -> Out} {g : Unit -> Out} {e : Out} (h : o = some b) (k : f b = e) : boolK.match_1 (fun z_ => Out) o f g = e := by subst h; exact k
end
noncomputable abbrev invalidaccess : AV := .byt "invalidaccess".toUTF8.toList
noncomputable def findStep (t : ST) (k : Nat) (d : Nat) : Option Out := if t.acc d < 2 then some (some (.exc (.byt [105, 110, 118, 97, 108, 105, 100, 97, 99, 99, 101, 115, 115]) (lay t))) else (lk k (t.en d)).map fun c => some (.ok (.tup [.ref (10 + 4 * d), ith c]) (lay t))
structure Good (t : ST) : Prop where
  row : ∀ d ∈ t.row, d < 6
  rl : t.row.length < 1000
  ks : ∀ d, Ks (t.en d)
theorem in_ent {t : ST} (hG : Good t) {d k : Nat} (h6 : d < 6) (h3 : k < 3) : cmp1 (lay t) .In (bkey k) (.ref (11 + 4 * d)) = some (lk k (t.en d)).isSome := by
  show (match (lay t)[11 + 4 * d]? with
      | some (.dict es) => (dget (bkey k) es).map (fun (x : Option AV) => x.isSome)
      | _ => .none) = _
  rw [lay_ent t h6]
  show (dget (bkey k) _).map _ = _
  rw [bget (hG.ks d) h3, Option.map_some, Option.isSome_map]
theorem at_ent {t : ST} (hG : Good t) {d k : Nat} (h6 : d < 6) (h3 : k < 3) : item (lay t) (.ref (11 + 4 * d)) (bkey k) = (lk k (t.en d)).map fun c => .tup [kth k, ith c] := by
  have : item (lay t) (.ref (11 + 4 * d)) (bkey k) = (match (lay t)[11 + 4 * d]? with
    | some (.list l) => (match bkey k with
      | .int i => (place i l.length).bind fun j => l[j]?
      | _ => .none)
    | some (.dict es) => (dget (bkey k) es).bind id
    | _ => .none) := rfl
  rw [this, lay_ent t h6]
  show (dget (bkey k) _).bind id = _
  rw [bget (hG.ks d) h3]; rfl
theorem find_ok (n : Nat) (hn : 2 ≤ n) {t : ST} (hG : Good t) {k : Nat} (h3 : k < 3) : R n (lay t) (rf 319) [.ref 34, bkey k] = (t.row.reverse.findSome? (findStep t k)).getD (some (.ok .none (lay t))) := by
  obtain ⟨n, rfl⟩ : ∃ k, n = k + 1 := ⟨n - 1, by omega⟩
  have c1 := len_ok (n := n) (by walk_at "o") (P := lay t) (j := 35) rfl (by rw [List.length_map]; exact Nat.lt_trans hG.rl (by decide))
  have c2 := down_ok (n := n) (by walk_at "o") (P := lay t) (k := t.row.length) hG.rl
  rw [List.length_map] at c1
  refine r_up ?_
  generalize R n = r at c1 c2
  walk_at "w"; refine s_res c1 ?_; walk_at "w"; refine s_res c2 ?_; walk_at "w"
  refine (walk_fin (g := fun i => .av (.int ((t.row.length : Int) - 1 - i))) (dec := fun i => (t.row.reverse[i]?).bind (findStep t k)) (e := some (.ok .none (lay t)))
    (fun l => l = L [("self", .ref 34), ("key", bkey k)] ∨ ∃ x y, l = L [("self", .ref 34), ("key", bkey k), ("at", x), ("body", y)]) (fun i => down_nth) (fun i l f hi hl => ?_) (fun l hl => ?_) t.row.length 0 _ (Nat.zero_add _) (.inl rfl)).trans ?_
  · obtain ⟨d, hd⟩ : ∃ d, t.row.reverse[i]? = some d := ⟨_, List.getElem?_eq_getElem (by rwa [List.length_reverse])⟩
    have h6 : d < 6 := hG.row d (by have := List.mem_of_getElem? hd; simpa using this)
    have it : item (lay t) (.ref 35) (.int ((t.row.length : Int) - 1 - i)) = some (dth d) := down_item (f := dth) hd hG.rl
    have hb := lay_body t h6
    have hi := in_ent hG h6 h3
    have he := at_ent hG h6 h3
    obtain ⟨tl, q1, q2⟩ : ∃ tl, sput "at" (.av (.int ((t.row.length : Int) - 1 - i))) l = L [("self", .ref 34), ("key", bkey k), ("at", .int ((t.row.length : Int) - 1 - i))] ++ tl ∧
        ∀ b, sput "body" (.av b) (L [("self", .ref 34), ("key", bkey k), ("at", .int ((t.row.length : Int) - 1 - i))] ++ tl) = L [("self", .ref 34), ("key", bkey k), ("at", .int ((t.row.length : Int) - 1 - i)), ("body", b)] := by
      rcases hl with rfl | ⟨x, y, rfl⟩
      · exact ⟨[], rfl, fun z_ => rfl⟩
      · exact ⟨L [("body", y)], rfl, fun z_ => rfl⟩
    rw [hd, Option.bind_some]
    unfold findStep
    by_cases ha : t.acc d < 2
    · rw [if_pos ha]
      walk_at "v"; refine blk_loc q1 ?_; walk_at "w"; refine s_av it ?_; walk_at "v"; refine blk_loc (q2 _) ?_; walk_at "w"; refine s_inst hb ?_; walk_at "w"; refine s_t (congrArg some (decide_eq_true ha)) ?_; walk_at "w"; rfl
    · rw [if_neg ha]
      cases hk : lk k (t.en d) with
      | some c =>
        rw [hk] at hi he
        walk_at "v"; refine blk_loc q1 ?_; walk_at "w"; refine s_av it ?_; walk_at "v"; refine blk_loc (q2 _) ?_; walk_at "w"; refine s_inst hb ?_; walk_at "w"; refine s_f (congrArg some (decide_eq_false ha)) ?_; walk_at "w"; refine s_inst hb ?_; walk_at "w"; refine s_b hi ?_; walk_at "w"; refine s_inst hb ?_; walk_at "w"; refine s_av he ?_; walk_at "w"; rfl
      | none =>
        rw [hk] at hi he
        refine ⟨_, .inr ⟨.int ((t.row.length : Int) - 1 - i), .ref (10 + 4 * d), rfl⟩, ?_⟩
        walk_at "v"; refine blk_loc q1 ?_; walk_at "w"; refine s_av it ?_; walk_at "v"; refine blk_loc (q2 _) ?_; walk_at "w"; refine s_inst hb ?_; walk_at "w"; refine s_f (congrArg some (decide_eq_false ha)) ?_; walk_at "w"; refine s_inst hb ?_; walk_at "w"; refine s_b hi ?_; walk_at "w"; rfl
  · walk_at "w"; rfl
  · rw [← List.length_reverse, find_list (findStep t k) t.row.reverse 0 (fun i => (t.row.reverse[i]?).bind (findStep t k)) fun i x e => by rw [Nat.zero_add, e]; rfl]
theorem down (n : Nat) {k : Nat} (h : k ≤ n) : ∃ m, n = m + k := ⟨n - k, by omega⟩
theorem key_ok {n : Nat} (hn : 6 ≤ n) {P : Hp} {k : Nat} (h3 : k < 3) : R n P (rf 215) [kth k] = some (.ok (bkey k) P) := by
  obtain ⟨n, rfl⟩ := down n hn
  match k, h3 with
  | 0, _ => kernel_rfl
  | 1, _ => kernel_rfl
  | 2, _ => kernel_rfl
noncomputable def look (t : ST) (k : Nat) : Option (Option (Nat × Int)) := t.row.reverse.findSome? fun d => if t.acc d < 2 then some .none else (lk k (t.en d)).map fun c => some (d, c)
noncomputable abbrev bInv : AV := .byt [105, 110, 118, 97, 108, 105, 100, 97, 99, 99, 101, 115, 115]
noncomputable abbrev bUnd : AV := .byt [117, 110, 100, 101, 102, 105, 110, 101, 100]
noncomputable def findR (t : ST) : Option (Option (Nat × Int)) -> Out
  | .none => some (.ok .none (lay t))
  | some .none => some (.exc bInv (lay t))
  | some (some (d, c)) => some (.ok (.tup [.ref (10 + 4 * d), ith c]) (lay t))
theorem findSome_map {α β γ : Type} (f : α -> Option β) (g : β -> γ) : ∀ l : List α, (l.findSome? fun x => (f x).map g) = (l.findSome? f).map g
  | [] => rfl
  | x :: l => by
    rw [List.findSome?_cons, List.findSome?_cons]
    cases f x with
    | none => exact findSome_map f g l
    | some y => rfl
theorem find_look {n : Nat} (hn : 2 ≤ n) {t : ST} (hG : Good t) {k : Nat} (h3 : k < 3) : R n (lay t) (rf 319) [.ref 34, bkey k] = findR t (look t k) := by
  rw [find_ok n hn hG h3]
  have e : (fun d => findStep t k d) = fun d => (if t.acc d < 2 then some .none else (lk k (t.en d)).map fun c => some (d, c)).map fun x => findR t (some x) := by
    funext d
    unfold findStep
    split
    · rfl
    · cases lk k (t.en d) <;> rfl
  rw [show findStep t k = fun d => findStep t k d from rfl, e, findSome_map]
  show ((look t k).map _).getD _ = _
  cases look t k with
  | none => rfl
  | some x => rfl
set_option tactic.hygienic true in
theorem look_mem {t : ST} {k d : Nat} {c : Int} (h : look t k = some (some (d, c))) : d ∈ t.row ∧ ¬ t.acc d < 2 ∧ lk k (t.en d) = some c := by
  obtain ⟨d', h1, h2⟩ := List.exists_of_findSome?_eq_some h
  split at h2
  · cases h2
  · rename_i ha
    obtain ⟨c', h3, h4⟩ := Option.map_eq_some_iff.mp h2
    cases h4
    exact ⟨by simpa using h1, ha, h3⟩
theorem load_ok {n : Nat} (hn : 8 ≤ n) {t : ST} (hG : Good t) {k : Nat} (h3 : k < 3) : R n (lay t) (rf 326) [.ref 34, kth k] = (match look t k with
    | .none => some (.exc bUnd (lay t))
    | some .none => some (.exc bInv (lay t))
    | some (some (d, c)) => some (.ok (ith c) (lay t))) := by
  obtain ⟨n, rfl⟩ := down n (show 1 ≤ n by walk_at "o")
  have c1 := key_ok (n := n) (by walk_at "o") (P := lay t) h3
  have c2 := find_look (n := n) (by omega) hG h3
  refine r_up ?_
  generalize R n = r at c1 c2
  cases h : look t k with
  | none =>
    rw [h] at c2
    walk_at "w"; refine s_res c1 ?_; walk_at "w"; refine s_res c2 ?_; walk_at "w"; rfl
  | some x =>
    rw [h] at c2
    cases x with
    | none =>
      walk_at "w"; refine s_res c1 ?_; walk_at "w"; refine s_exc c2 ?_; walk_at "w"; rfl
    | some p =>
      walk_at "w"; refine s_res c1 ?_; walk_at "w"; refine s_res c2 ?_; walk_at "w"; rfl
theorem where_ok {n : Nat} (hn : 8 ≤ n) {t : ST} (hG : Good t) {k : Nat} (h3 : k < 3) : R n (lay t) (rf 333) [.ref 34, kth k] = (match look t k with
    | .none => some (.ok .none (lay t))
    | some .none => some (.exc bInv (lay t))
    | some (some (d, c)) => some (.ok (dth d) (lay t))) := by
  obtain ⟨n, rfl⟩ := down n (show 1 ≤ n by walk_at "o")
  have c1 := key_ok (n := n) (by walk_at "o") (P := lay t) h3
  have c2 := find_look (n := n) (by omega) hG h3
  have c3 := len_ok (n := n) (by walk_at "o") (P := lay t) (j := 35) rfl (by rw [List.length_map]; exact Nat.lt_trans hG.rl (by decide))
  have c4 := down_ok (n := n) (by walk_at "o") (P := lay t) (k := t.row.length) hG.rl
  rw [List.length_map] at c3
  refine r_up ?_
  generalize R n = r at c1 c2 c3 c4
  cases h : look t k with
  | none =>
    rw [h] at c2
    walk_at "w"; refine s_res c1 ?_; walk_at "w"; refine s_res c2 ?_; walk_at "w"; rfl
  | some x =>
    rw [h] at c2
    cases x with
    | none =>
      walk_at "w"; refine s_res c1 ?_; walk_at "w"; refine s_exc c2 ?_; walk_at "w"; rfl
    | some p =>
      obtain ⟨d, c⟩ := p
      have hm := (look_mem h).1
      walk_at "w"; refine s_res c1 ?_; walk_at "w"; refine s_res c2 ?_; walk_at "w"; refine s_res c3 ?_; walk_at "w"; refine s_res c4 ?_; walk_at "w"
      refine (walk_fin (g := fun i => .av (.int ((t.row.length : Int) - 1 - i))) (dec := fun i => (t.row.reverse[i]?).bind fun d' => if d' = d then some (some (.ok (dth d) (lay t))) else .none) (e := some (.ok .none (lay t)))
        (fun l => l = L [("self", .ref 34), ("key", kth k), ("found", .tup [.ref (10 + 4 * d), ith c])] ∨ ∃ x, l = L [("self", .ref 34), ("key", kth k), ("found", .tup [.ref (10 + 4 * d), ith c]), ("at", x)]) (fun i => down_nth) (fun i l f hi hl => ?_) (fun l hl => ?_) t.row.length 0 _ (Nat.zero_add _) (.inl rfl)).trans ?_
      · obtain ⟨d', hd⟩ : ∃ d, t.row.reverse[i]? = some d := ⟨_, List.getElem?_eq_getElem (by rwa [List.length_reverse])⟩
        have h6 : d' < 6 := hG.row d' (by have := List.mem_of_getElem? hd; simpa using this)
        have it : item (lay t) (.ref 35) (.int ((t.row.length : Int) - 1 - i)) = some (dth d') := down_item (f := dth) hd hG.rl
        have hb' := lay_body t h6
        have hb := lay_body t (hG.row d hm)
        rw [hd, Option.bind_some]
        have q1 : sput "at" (.av (.int ((t.row.length : Int) - 1 - i))) l = L [("self", .ref 34), ("key", kth k), ("found", .tup [.ref (10 + 4 * d), ith c]), ("at", .int ((t.row.length : Int) - 1 - i))] := by rcases hl with rfl | ⟨x, rfl⟩ <;> rfl
        by_cases hdd : d' = d
        · subst hdd
          rw [if_pos rfl]
          walk_at "v"; refine blk_loc q1 ?_; walk_at "w"; refine s_av it ?_; walk_at "w"; refine s_inst hb' ?_; walk_at "w"; refine s_inst hb ?_; walk_at "w"; refine s_t (congrArg some (decide_eq_true rfl)) ?_; walk_at "w"; refine s_av it ?_; walk_at "w"; rfl
        · rw [if_neg hdd]
          refine ⟨_, .inr ⟨.int ((t.row.length : Int) - 1 - i), rfl⟩, ?_⟩
          walk_at "v"; refine blk_loc q1 ?_; walk_at "w"; refine s_av it ?_; walk_at "w"; refine s_inst hb' ?_; walk_at "w"; refine s_inst hb ?_; walk_at "w"; refine s_f (congrArg some (decide_eq_false fun z => hdd (by omega))) ?_; walk_at "w"; rfl
      · walk_at "w"; rfl
      · rw [← List.length_reverse, find_list (fun d' => if d' = d then some (some (.ok (dth d) (lay t))) else .none) t.row.reverse 0 _ fun i x e => by rw [Nat.zero_add, e]; rfl]
        have : t.row.reverse.findSome? (fun d' => if d' = d then some (some (Res.ok (dth d) (lay t))) else .none) = some (some (.ok (dth d) (lay t))) := by
          have hm' : d ∈ t.row.reverse := by simpa using hm
          generalize t.row.reverse = xs at hm'
          induction xs with
          | nil => cases hm'
          | cons y xs ih =>
            rw [List.findSome?_cons]
            by_cases hy : y = d
            · rw [if_pos hy]
            · rw [if_neg hy]
              exact ih (by rcases List.mem_cons.mp hm' with q | q; exact absurd q.symm hy; exact q)
        rw [this]; rfl
set_option pp.match false
noncomputable def putl (k : Nat) (c : Int) : List (Nat × Int) -> List (Nat × Int)
  | [] => [(k, c)]
  | (a, x) :: r => if a = k then (a, c) :: r else (a, x) :: putl k c r
set_option tactic.hygienic true in
theorem putl_mem {k : Nat} {c : Int} : ∀ {l : List (Nat × Int)} {p : Nat × Int}, p ∈ putl k c l -> p.1 = k ∨ p ∈ l
  | [], p, h => by rw [List.mem_singleton.mp h]; exact .inl rfl
  | (a, x) :: r, p, h => by
    unfold putl at h
    split at h
    · rename_i e
      rcases List.mem_cons.mp h with rfl | h
      · exact .inl e
      · exact .inr (.tail _ h)
    · rcases List.mem_cons.mp h with rfl | h
      · exact .inr (.head _)
      · exact (putl_mem h).imp id (.tail _)
set_option tactic.hygienic true in
theorem putl_ks {k : Nat} {c : Int} (h3 : k < 3) : ∀ {l : List (Nat × Int)}, Ks l -> Ks (putl k c l)
  | [], _ => ⟨fun p hp => by rw [List.mem_singleton.mp hp]; exact h3, by simp [putl]⟩
  | (a, x) :: r, h => by
    have hr : Ks r := ⟨fun p hp => h.1 p (.tail _ hp), (List.nodup_cons.mp h.2).2⟩
    unfold putl
    split
    · exact ⟨fun p hp => by
        rcases List.mem_cons.mp hp with rfl | hp
        · exact h.1 (a, x) (.head _)
        · exact h.1 p (.tail _ hp), h.2⟩
    · rename_i hne
      have ih := putl_ks (c := c) h3 hr
      refine ⟨fun p hp => ?_, List.nodup_cons.mpr ⟨fun hm => ?_, ih.2⟩⟩
      · rcases List.mem_cons.mp hp with rfl | hp
        · exact h.1 (a, x) (.head _)
        · exact ih.1 p hp
      · obtain ⟨p, hp, e⟩ := List.mem_map.mp hm
        rcases putl_mem hp with q | q
        · exact hne (e.symm.trans q)
        · exact (List.nodup_cons.mp h.2).1 (List.mem_map.mpr ⟨p, q, e⟩)
theorem nodup_le : ∀ (n : Nat) (l : List Nat), l.Nodup -> (∀ a ∈ l, a < n) -> l.length ≤ n
  | 0, l, _, h => by
    cases l with
    | nil => exact Nat.le_refl _
    | cons a l => exact absurd (h a (.head _)) (Nat.not_lt_zero _)
  | n + 1, l, hn, h => by
    have h1 := nodup_le n (l.erase n) (hn.erase n) fun a ha => by
      have h2 := h a (List.mem_of_mem_erase ha)
      have h3 : a ≠ n := fun z => by subst z; exact (hn.not_mem_erase) ha
      omega
    by_cases hm : n ∈ l
    · rw [List.length_erase_of_mem hm] at h1; omega
    · rw [List.erase_of_not_mem hm] at h1; omega
theorem ks_len {l : List (Nat × Int)} (h : Ks l) : l.length ≤ 3 := by
  have := nodup_le 3 (l.map (·.1)) h.2 fun a ha => by
    obtain ⟨p, hp, e⟩ := List.mem_map.mp ha
    rw [← e]; exact h.1 p hp
  simpa using this
theorem ks_room {l : List (Nat × Int)} {k : Nat} (h : Ks l) (h3 : k < 3) (hk : lk k l = none) : l.length < 3 := by
  have := ks_len (putl_ks (c := 0) h3 h)
  have e : ∀ l : List (Nat × Int), lk k l = none -> (putl k 0 l).length = l.length + 1 := fun l => by
    induction l with
    | nil => intro _; rfl
    | cons p l ih =>
      intro hl
      obtain ⟨a, x⟩ := p
      unfold lk at hl
      rw [List.find?_cons] at hl
      unfold putl
      by_cases ha : a = k
      · rw [show (a == k) = true by simpa using ha] at hl; cases hl
      · rw [show (a == k) = false by simpa using ha] at hl
        rw [if_neg ha]
        show (putl k 0 l).length + 1 = _
        rw [ih hl]; rfl
  rw [e l hk] at this; omega
theorem dput0_map {key : Nat -> AV} (hk : ∀ {a b : Nat}, a < 3 -> b < 3 -> kkeq (key a) (key b) = some (a == b)) {k : Nat} {c : Int} (h3 : k < 3) (F : Nat × Int -> AV) (hF : ∀ a, a = k -> F (a, c) = F (k, c)) : ∀ {l : List (Nat × Int)}, (∀ p ∈ l, p.1 < 3) ->
    dput0 (key k) (F (k, c)) (l.map fun (p : Nat × Int) => (key p.1, F p)) = some ((putl k c l).map fun (p : Nat × Int) => (key p.1, F p))
  | [], _ => rfl
  | (a, x) :: l, h => by
    show (match kkeq (key a) (key k) with | some true => some ((key a, F (k, c)) :: l.map fun (p : Nat × Int) => (key p.1, F p)) | some false => (dput0 (key k) (F (k, c)) (l.map fun (p : Nat × Int) => (key p.1, F p))).map ((key a, F (a, x)) :: ·) | .none => .none) = _
    rw [hk (h (a, x) (.head _)) h3]
    unfold putl
    by_cases ha : a = k
    · rw [show (a == k) = true by simpa using ha, if_pos ha]
      show some ((key a, F (k, c)) :: _) = some ((key a, F (a, c)) :: _)
      rw [hF a ha]
    · rw [show (a == k) = false by simpa using ha, if_neg ha]
      show (dput0 (key k) (F (k, c)) _).map _ = _
      rw [dput0_map hk h3 F hF fun q hq => h q (.tail _ hq)]; rfl
theorem bput {l : List (Nat × Int)} (h : Ks l) {k : Nat} {c : Int} (h3 : k < 3) : dput (bkey k) (.tup [kth k, ith c]) (l.map fun (p : Nat × Int) => (bkey p.1, .tup [kth p.1, ith p.2])) = some ((putl k c l).map fun (p : Nat × Int) => (bkey p.1, .tup [kth p.1, ith p.2])) := by
  unfold dput
  have := ks_len h
  rw [bkey_ok, if_pos (by simp; omega)]
  exact dput0_map bkey_eq h3 (fun (p : Nat × Int) => .tup [kth p.1, ith p.2]) (fun a e => by rw [e]) h.1
theorem lput {l : List (Nat × Int)} (h : Ks l) {k : Nat} {c : Int} (h3 : k < 3) : dput (lkey k) (.int c) (l.map fun (p : Nat × Int) => (lkey p.1, .int p.2)) = some ((putl k c l).map fun (p : Nat × Int) => (lkey p.1, .int p.2)) := by
  unfold dput
  have := ks_len h
  rw [lkey_ok, if_pos (by simp; omega)]
  exact dput0_map lkey_eq h3 (fun (p : Nat × Int) => .int p.2) (fun a e => rfl) h.1
theorem s_dict {o : Option AO} {es : List (AV × AV)} {f : List (AV × AV) -> Out} {g : Option AO -> Out} {e : Out} (h : o = some (.dict es)) (k : f es = e) : items.match_2 (fun z_ => Out) o f g = e := by subst h; exact k
theorem s_put {o : Option (List (AV × AV))} {es : List (AV × AV)} {f : List (AV × AV) -> Out} {g : Unit -> Out} {e : Out} (h : o = some es) (k : f es = e) : stSK2.match_1 (fun z_ => Out) o f g = e := by subst h; exact k
theorem s_lt {p : Prop} {i : Decidable p} {a b e : Out} (h : p) (k : a = e) : (if p then a else b) = e := (if_pos h).trans k
theorem kthing_ok {n : Nat} (hn : 6 ≤ n) {P : Hp} {k : Nat} (h3 : k < 3) : R n P (rf 222) [kth k] = some (.ok (kth k) P) := by
  obtain ⟨n, rfl⟩ := down n hn
  match k, h3 with
  | 0, _ => kernel_rfl
  | 1, _ => kernel_rfl
  | 2, _ => kernel_rfl
theorem holds_ok {n : Nat} (hn : 1 ≤ n) {t : ST} {d : Nat} (h6 : d < 6) {x : AV} : R n (lay t) (rf 508) [.ref 4, .ref (10 + 4 * d), x] = some (.ok .none (lay t)) := by
  obtain ⟨n, rfl⟩ := down n hn
  refine r_up ?_
  generalize R n = r
  walk_at "w"; walk_at "w"; refine s_inst (lay_body t h6) ?_; walk_at "w"; rfl
theorem level_ok {n : Nat} (hn : 2 ≤ n) {t : ST} : R n (lay t) (rf 430) [.ref 4] = some (.ok (.int 0) (lay t)) := by
  obtain ⟨n, rfl⟩ := down n (show 1 ≤ n by walk_at "o")
  have c1 := len_ok (n := n) (by walk_at "o") (P := lay t) (j := 5) (l := []) rfl (by decide)
  refine r_up ?_
  generalize R n = r at c1
  walk_at "w"; walk_at "w"; refine s_res c1 ?_; walk_at "w"; rfl
theorem elder_ok {n : Nat} (hn : 4 ≤ n) {t : ST} {d : Nat} (h6 : d < 6) : R n (lay t) (rf 501) [.ref 4, .ref (10 + 4 * d)] = some (.ok (.bool false) (lay t)) := by
  obtain ⟨n, rfl⟩ := down n (show 1 ≤ n by walk_at "o")
  have hb := lay_body t h6
  have c1 := level_ok (n := n) (by walk_at "o") (t := t)
  refine r_up ?_
  generalize R n = r at c1
  walk_at "w"; walk_at "w"; refine s_inst hb ?_; walk_at "w"; walk_at "w"; walk_at "w"; refine s_inst hb ?_; walk_at "w"; walk_at "w"; walk_at "w"; refine s_prop c1 ?_; walk_at "w"; rfl
theorem dlen_ok {n : Nat} (hn : 1 ≤ n) {P : Hp} {j : Nat} {l : List (AV × AV)} (h : P[j]? = some (.dict l)) (hz : l.length < 100000) : R n P (.top (.builtin "len")) [.ref j] = some (.ok (.int l.length) P) := by
  obtain ⟨n, rfl⟩ : ∃ k, n = k + 1 := ⟨n - 1, by omega⟩
  show len1 P (.ref j) = _
  unfold len1
  simp only [h]
  rw [if_pos hz]; rfl
theorem not_in_ent {t : ST} (hG : Good t) {d k : Nat} (h6 : d < 6) (h3 : k < 3) : cmp1 (lay t) .NotIn (bkey k) (.ref (11 + 4 * d)) = some !(lk k (t.en d)).isSome := by
  show (match (lay t)[11 + 4 * d]? with
      | some (.dict es) => (dget (bkey k) es).map fun (x : Option AV) => !x.isSome
      | _ => .none) = _
  rw [lay_ent t h6]
  show (dget (bkey k) _).map _ = _
  rw [bget (hG.ks d) h3, Option.map_some, Option.isSome_map]
theorem put_ok {n : Nat} (hn : 8 ≤ n) {t : ST} (hG : Good t) {d k : Nat} {c : Int} (h6 : d < 6) (h3 : k < 3) : R n (lay t) (rf 550) [.ref 4, .ref (10 + 4 * d), kth k, ith c] = some (.ok .none (lay { t with en := upd t.en d (putl k c (t.en d)) })) := by
  obtain ⟨n, rfl⟩ := down n (show 1 ≤ n by walk_at "o")
  have c1 := key_ok (n := n) (by walk_at "o") (P := lay t) h3
  have c2 := kthing_ok (n := n) (by walk_at "o") (P := lay t) h3
  have c3 := holds_ok (n := n) (by walk_at "o") (t := t) h6 (x := ith c)
  have c4 := holds_ok (n := n) (by walk_at "o") (t := t) h6 (x := kth k)
  have c5 := elder_ok (n := n) (by walk_at "o") (t := t) h6
  have kl := ks_len (hG.ks d)
  have c6 := dlen_ok (n := n) (by walk_at "o") (P := lay t) (lay_ent t h6) (by rw [List.length_map]; omega)
  rw [List.length_map] at c6
  have hb := lay_body t h6
  have he := lay_ent t h6
  have hi := in_ent hG h6 h3
  have hni := not_in_ent hG h6 h3
  have ha := at_ent hG h6 h3
  have hp := bput (hG.ks d) (c := c) h3
  refine r_up ?_
  generalize R n = r at c1 c2 c3 c4 c5 c6
  have hz : ((t.en d).map fun (p : Nat × Int) => (bkey p.1, AV.tup [kth p.1, ith p.2])).length < 100000 := by rw [List.length_map]; omega
  cases hk : lk k (t.en d) with
  | some x =>
    rw [hk] at hi hni ha
    walk_at "w"; walk_at "w"; refine s_res c1 ?_; walk_at "w"; walk_at "w"; walk_at "w"; refine s_res c3 ?_; walk_at "w"; walk_at "w"; walk_at "w"; refine s_res c2 ?_; walk_at "w"; walk_at "w"; walk_at "w"; refine s_res c4 ?_; walk_at "w"; walk_at "w"; walk_at "w"; refine s_inst hb ?_; walk_at "w"; walk_at "w"; walk_at "w"; refine s_b hni ?_; walk_at "w"; walk_at "w"; walk_at "w"; refine s_res c5 ?_; walk_at "w"; walk_at "w"; walk_at "w"; refine s_inst hb ?_; walk_at "w"; walk_at "w"; walk_at "w"; refine s_b hi ?_; walk_at "w"; walk_at "w"; walk_at "w"; refine s_inst hb ?_; walk_at "w"; walk_at "w"; walk_at "w"; refine s_av ha ?_; walk_at "w"; walk_at "w"; walk_at "w"; refine s_inst hb ?_; walk_at "w"; walk_at "w"; walk_at "w"; refine s_dict he ?_; walk_at "w"; walk_at "w"; walk_at "w"; refine s_lt hz ?_; walk_at "w"; walk_at "w"; walk_at "w"; refine s_put hp ?_; walk_at "w"
    exact congrArg (fun P => some (Res.ok .none P)) (set_ent t h6 _)
  | none =>
    rw [hk] at hi hni
    have hr := ks_room (hG.ks d) h3 hk
    walk_at "w"; walk_at "w"; refine s_res c1 ?_; walk_at "w"; walk_at "w"; walk_at "w"; refine s_res c3 ?_; walk_at "w"; walk_at "w"; walk_at "w"; refine s_res c2 ?_; walk_at "w"; walk_at "w"; walk_at "w"; refine s_res c4 ?_; walk_at "w"; walk_at "w"; walk_at "w"; refine s_inst hb ?_; walk_at "w"; walk_at "w"; walk_at "w"; refine s_b hni ?_; walk_at "w"; walk_at "w"; walk_at "w"; refine s_inst hb ?_; walk_at "w"; walk_at "w"; walk_at "w"; refine s_res c6 ?_; walk_at "w"; walk_at "w"; walk_at "w"; refine s_inst hb ?_; walk_at "w"; walk_at "w"; walk_at "w"; refine s_f (congrArg some (decide_eq_false (by omega))) ?_; walk_at "w"; walk_at "w"; walk_at "w"; refine s_res c5 ?_; walk_at "w"; walk_at "w"; walk_at "w"; refine s_inst hb ?_; walk_at "w"; walk_at "w"; walk_at "w"; refine s_b hi ?_; walk_at "w"; walk_at "w"; walk_at "w"; refine s_res c2 ?_; walk_at "w"; walk_at "w"; walk_at "w"; refine s_inst hb ?_; walk_at "w"; walk_at "w"; walk_at "w"; refine s_dict he ?_; walk_at "w"; walk_at "w"; walk_at "w"; refine s_lt hz ?_; walk_at "w"; walk_at "w"; walk_at "w"; refine s_put hp ?_; walk_at "w"
    exact congrArg (fun P => some (Res.ok .none P)) (set_ent t h6 _)
theorem s_dt {p : Prop} {i : Decidable p} {f : ¬ p -> Out} {g : p -> Out} {e : Out} (h : p) (k : g h = e) : Decidable.rec (motive := fun z_ => Out) f g i = e := (dec_t h).trans k
theorem s_df {p : Prop} {i : Decidable p} {f : ¬ p -> Out} {g : p -> Out} {e : Out} (h : ¬ p) (k : f h = e) : Decidable.rec (motive := fun z_ => Out) f g i = e := (dec_f h).trans k
theorem back_at {α : Type} {xs : List α} {f : α -> AV} {i : Nat} {x : α} (h : xs.reverse[i]? = some x) (hz : xs.length < 1000) : ((place (-1 - (i : Int)) (xs.map f).length).bind fun j => (xs.map f)[j]?) = some (f x) := by
  have hi : i < xs.length := by have := (List.getElem?_eq_some_iff.mp h).1; rwa [List.length_reverse] at this
  unfold place
  rw [List.length_map, if_pos (by omega), if_neg (by omega), if_pos (by omega), Option.bind_some, List.getElem?_map, show (-1 - (i : Int) + (xs.length : Int)).toNat = xs.length - 1 - i by omega, ← List.getElem?_reverse hi, h]; rfl
theorem item_last {α : Type} {xs : List α} {f : α -> AV} {x : α} (h : xs.getLast? = some x) (hz : xs.length < 1000) : ((place (-1) (xs.map f).length).bind fun j => (xs.map f)[j]?) = some (f x) :=
  back_at (i := 0) (List.head?_eq_getElem?.symm.trans (List.head?_reverse.trans h)) hz
theorem cur_ok {n : Nat} (hn : 1 ≤ n) {t : ST} (hG : Good t) {d : Nat} (h : t.row.getLast? = some d) : R n (lay t) (rf 272) [.ref 34] = some (.ok (dth d) (lay t)) := by
  obtain ⟨n, rfl⟩ := down n hn
  have it : item (lay t) (.ref 35) (.int (-1)) = some (dth d) := item_last (f := dth) h hG.rl
  refine r_up ?_
  generalize R n = r
  walk_at "w"; refine s_av it ?_; walk_at "w"; rfl
theorem accP {n : Nat} (hn : 1 ≤ n) {P : Hp} {d : Nat} {a : Int} (hb : P[10 + 4 * d]? = some (bodyO a d)) : R n P (rf 180) [dth d] = some (.ok (.int a) P) := by
  obtain ⟨n, rfl⟩ := down n hn
  refine r_up ?_
  generalize R n = r
  walk_at "w"; refine s_inst hb ?_; walk_at "w"; rfl
theorem canwP {n : Nat} (hn : 2 ≤ n) {P : Hp} {d : Nat} {a : Int} (hb : P[10 + 4 * d]? = some (bodyO a d)) : R n P (rf 194) [dth d] = some (.ok (.bool (decide (a = 3))) P) := by
  obtain ⟨n, rfl⟩ := down n (show 1 ≤ n by walk_at "o")
  have c1 := accP (n := n) (by omega) hb
  refine r_up ?_
  generalize R n = r at c1
  walk_at "w"; refine s_res c1 ?_; walk_at "w"; rfl
theorem canrP {n : Nat} (hn : 2 ≤ n) {P : Hp} {d : Nat} {a : Int} (hb : P[10 + 4 * d]? = some (bodyO a d)) : R n P (rf 187) [dth d] = some (.ok (.bool (decide (2 ≤ a))) P) := by
  obtain ⟨n, rfl⟩ := down n (show 1 ≤ n by walk_at "o")
  have c1 := accP (n := n) (by omega) hb
  refine r_up ?_
  generalize R n = r at c1
  walk_at "w"; refine s_res c1 ?_; walk_at "w"; rfl
theorem chkwP {n : Nat} (hn : 3 ≤ n) {P : Hp} {d : Nat} {a : Int} (hb : P[10 + 4 * d]? = some (bodyO a d)) : R n P (rf 236) [dth d] = some (if a = 3 then .ok .none P else .exc bInv P) := by
  obtain ⟨n, rfl⟩ := down n (show 1 ≤ n by walk_at "o")
  have c1 := canwP (n := n) (by omega) hb
  refine r_up ?_
  generalize R n = r at c1
  by_cases ha : a = 3
  · rw [decide_eq_true ha] at c1
    rw [if_pos ha]
    walk_at "w"; refine s_res c1 ?_; walk_at "w"; rfl
  · rw [decide_eq_false ha] at c1
    rw [if_neg ha]
    walk_at "w"; refine s_res c1 ?_; walk_at "w"; rfl
theorem chkrP {n : Nat} (hn : 3 ≤ n) {P : Hp} {d : Nat} {a : Int} (hb : P[10 + 4 * d]? = some (bodyO a d)) : R n P (rf 229) [dth d] = some (if 2 ≤ a then .ok .none P else .exc bInv P) := by
  obtain ⟨n, rfl⟩ := down n (show 1 ≤ n by walk_at "o")
  have c1 := canrP (n := n) (by omega) hb
  refine r_up ?_
  generalize R n = r at c1
  by_cases ha : 2 ≤ a
  · rw [decide_eq_true ha] at c1
    rw [if_pos ha]
    walk_at "w"; refine s_res c1 ?_; walk_at "w"; rfl
  · rw [decide_eq_false ha] at c1
    rw [if_neg ha]
    walk_at "w"; refine s_res c1 ?_; walk_at "w"; rfl
theorem chkw_ok {n : Nat} (hn : 3 ≤ n) {t : ST} {d : Nat} (h6 : d < 6) : R n (lay t) (rf 236) [dth d] = some (if t.acc d = 3 then .ok .none (lay t) else .exc bInv (lay t)) := chkwP hn (lay_body t h6)
theorem chkr_ok {n : Nat} (hn : 3 ≤ n) {t : ST} {d : Nat} (h6 : d < 6) : R n (lay t) (rf 229) [dth d] = some (if 2 ≤ t.acc d then .ok .none (lay t) else .exc bInv (lay t)) := chkrP hn (lay_body t h6)
noncomputable def putR (t : ST) (d k : Nat) (c : Int) : Res := if t.acc d = 3 then .ok .none (lay { t with en := upd t.en d (putl k c (t.en d)) }) else .exc bInv (lay t)
theorem define_ok {n : Nat} (hn : 9 ≤ n) {t : ST} (hG : Good t) {d k : Nat} {c : Int} (h3 : k < 3) (h : t.row.getLast? = some d) : R n (lay t) (rf 340) [.ref 34, .ref 4, kth k, ith c] = some (putR t d k c) := by
  obtain ⟨n, rfl⟩ := down n (show 1 ≤ n by walk_at "o")
  have h6 : d < 6 := hG.row d (List.mem_of_getLast? h)
  have c1 := cur_ok (n := n) (by walk_at "o") hG h
  have c2 := chkw_ok (n := n) (by walk_at "o") (t := t) h6
  have c3 := put_ok (n := n) (by walk_at "o") hG (c := c) h6 h3
  refine r_up ?_
  generalize R n = r at c1 c2 c3
  unfold putR
  by_cases ha : t.acc d = 3
  · rw [if_pos ha] at c2 ⊢
    walk_at "w"; refine s_res c1 ?_; walk_at "w"; refine s_res c2 ?_; walk_at "w"; refine s_res c1 ?_; walk_at "w"; refine s_res c3 ?_; walk_at "w"; rfl
  · rw [if_neg ha] at c2 ⊢
    walk_at "w"; refine s_res c1 ?_; walk_at "w"; refine s_exc c2 ?_; walk_at "w"; rfl
theorem store_ok {n : Nat} (hn : 9 ≤ n) {t : ST} (hG : Good t) {d k : Nat} {c : Int} (h3 : k < 3) (h : t.row.getLast? = some d) : R n (lay t) (rf 347) [.ref 34, .ref 4, kth k, ith c] = some (match look t k with
    | .none => putR t d k c
    | some .none => .exc bInv (lay t)
    | some (some (d, _)) => putR t d k c) := by
  obtain ⟨n, rfl⟩ := down n (show 1 ≤ n by walk_at "o")
  have c0 := where_ok (n := n) (by walk_at "o") hG h3
  have c1 := cur_ok (n := n) (by walk_at "o") hG h
  have go : ∀ d, d < 6 -> ∃ c2 : R n (lay t) (rf 236) [dth d] = some (if t.acc d = 3 then .ok .none (lay t) else .exc bInv (lay t)), R n (lay t) (rf 550) [.ref 4, .ref (10 + 4 * d), kth k, ith c] = some (.ok .none (lay { t with en := upd t.en d (putl k c (t.en d)) })) :=
    fun d h6 => ⟨chkw_ok (n := n) (by walk_at "o") (t := t) h6, put_ok (n := n) (by walk_at "o") hG (c := c) h6 h3⟩
  refine r_up ?_
  cases hl : look t k with
  | none =>
    rw [hl] at c0
    obtain ⟨c2, c3⟩ := go d (hG.row d (List.mem_of_getLast? h))
    generalize R n = r at c0 c1 c2 c3
    show _ = some (putR t d k c)
    unfold putR
    by_cases ha : t.acc d = 3
    · rw [if_pos ha] at c2 ⊢
      walk_at "w"; refine s_res c0 ?_; walk_at "w"; refine s_res c1 ?_; walk_at "w"; refine s_res c2 ?_; walk_at "w"; refine s_res c3 ?_; walk_at "w"; rfl
    · rw [if_neg ha] at c2 ⊢
      walk_at "w"; refine s_res c0 ?_; walk_at "w"; refine s_res c1 ?_; walk_at "w"; refine s_exc c2 ?_; walk_at "w"; rfl
  | some x =>
    rw [hl] at c0
    cases x with
    | none =>
      generalize R n = r at c0 c1
      walk_at "w"; refine s_exc c0 ?_; walk_at "w"; rfl
    | some p =>
      obtain ⟨d', c'⟩ := p
      obtain ⟨c2, c3⟩ := go d' (hG.row d' (look_mem hl).1)
      generalize R n = r at c0 c1 c2 c3
      show _ = some (putR t d' k c)
      unfold putR
      by_cases ha : t.acc d' = 3
      · rw [if_pos ha] at c2 ⊢
        walk_at "w"; refine s_res c0 ?_; walk_at "w"; refine s_res c2 ?_; walk_at "w"; refine s_res c3 ?_; walk_at "w"; rfl
      · rw [if_neg ha] at c2 ⊢
        walk_at "w"; refine s_res c0 ?_; walk_at "w"; refine s_exc c2 ?_; walk_at "w"; rfl
noncomputable abbrev bOver : AV := .byt [100, 105, 99, 116, 115, 116, 97, 99, 107, 111, 118, 101, 114, 102, 108, 111, 119]
noncomputable abbrev bUnder : AV := .byt [100, 105, 99, 116, 115, 116, 97, 99, 107, 117, 110, 100, 101, 114, 102, 108, 111, 119]
noncomputable abbrev bRange : AV := .byt [114, 97, 110, 103, 101, 99, 104, 101, 99, 107]
theorem tlen {n : Nat} (hn : 1 ≤ n) {t : ST} (hG : Good t) : R n (lay t) (.top (.builtin "len")) [.ref 35] = some (.ok (.int t.row.length) (lay t)) := by
  have := len_ok (n := n) hn (P := lay t) (j := 35) rfl (by rw [List.length_map]; exact Nat.lt_trans hG.rl (by decide))
  rwa [List.length_map] at this
theorem begin_ok {n : Nat} (hn : 4 ≤ n) {t : ST} (hG : Good t) {d : Nat} (h6 : d < 6) : R n (lay t) (rf 298) [.ref 34, dth d] = some (if 2 ≤ t.acc d then (if 6 ≤ t.row.length then .exc bOver (lay t) else .ok .none (lay { t with row := t.row ++ [d] })) else .exc bInv (lay t)) := by
  obtain ⟨n, rfl⟩ := down n (show 1 ≤ n by walk_at "o")
  have c1 := chkr_ok (n := n) (by walk_at "o") (t := t) h6
  have c2 := tlen (n := n) (by omega) hG
  have hz : (t.row.map dth).length < 100000 := by rw [List.length_map]; exact Nat.lt_trans hG.rl (by decide)
  refine r_up ?_
  generalize R n = r at c1 c2
  by_cases ha : 2 ≤ t.acc d
  · rw [if_pos ha] at c1 ⊢
    by_cases hl : 6 ≤ t.row.length
    · rw [if_pos hl]
      walk_at "w"; refine s_res c1 ?_; walk_at "w"; refine s_res c2 ?_; walk_at "w"; refine s_t (congrArg some (decide_eq_true (by omega))) ?_; walk_at "w"; rfl
    · rw [if_neg hl]
      have e : (lay t).set 35 (.list (t.row.map dth ++ [dth d])) = lay { t with row := t.row ++ [d] } := by
        unfold lay; simp only [List.map_append]; rfl
      walk_at "w"; refine s_res c1 ?_; walk_at "w"; refine s_res c2 ?_; walk_at "w"; refine s_f (congrArg some (decide_eq_false (by omega))) ?_; walk_at "w"; refine s_dt hz ?_; walk_at "w"
      exact congrArg (fun P => some (Res.ok .none P)) e
  · rw [if_neg ha] at c1 ⊢
    walk_at "w"; refine s_exc c1 ?_; walk_at "w"; rfl
theorem end_ok {n : Nat} (hn : 2 ≤ n) {t : ST} (hG : Good t) {d : Nat} (h : t.row.getLast? = some d) : R n (lay t) (rf 305) [.ref 34] = some (if t.row.length ≤ 3 then .exc bUnder (lay t) else .ok (dth d) (lay { t with row := t.row.dropLast })) := by
  obtain ⟨n, rfl⟩ := down n (show 1 ≤ n by walk_at "o")
  have c2 := tlen (n := n) (by omega) hG
  have hz : (t.row.map dth).length < 100000 := by rw [List.length_map]; exact Nat.lt_trans hG.rl (by decide)
  have hg : (t.row.map dth).getLast? = some (dth d) := by rw [List.getLast?_map, h]; rfl
  refine r_up ?_
  generalize R n = r at c2
  by_cases hl : t.row.length ≤ 3
  · rw [if_pos hl]
    walk_at "w"; refine s_res c2 ?_; walk_at "w"; refine s_t (congrArg some (decide_eq_true (by omega))) ?_; walk_at "w"; rfl
  · rw [if_neg hl]
    have e : (lay t).set 35 (.list (t.row.map dth).dropLast) = lay { t with row := t.row.dropLast } := by
      unfold lay; simp only [List.map_dropLast]; rfl
    walk_at "w"; refine s_res c2 ?_; walk_at "w"; refine s_f (congrArg some (decide_eq_false (by omega))) ?_; walk_at "w"; refine s_dt hz ?_; walk_at "w"; refine s_av hg ?_; walk_at "w"
    exact congrArg (fun P => some (Res.ok (dth d) P)) e
theorem many_ok {n : Nat} (hn : 2 ≤ n) {t : ST} (hG : Good t) : R n (lay t) (rf 264) [.ref 34] = some (.ok (.int t.row.length) (lay t)) := by
  obtain ⟨n, rfl⟩ := down n (show 1 ≤ n by walk_at "o")
  have c2 := tlen (n := n) (by omega) hG
  refine r_up ?_
  generalize R n = r at c2
  walk_at "w"; refine s_res c2 ?_; walk_at "w"; rfl
theorem list_ok {n : Nat} (hn : 1 ≤ n) {P : Hp} {v : AV} {l : List AV} (h : lstOf P v = some l) (hz : l.length < 100000) : R n P (.top (.type "list")) [v] = some (.ok (.lst l) P) := by
  obtain ⟨n, rfl⟩ := down n hn
  show list1 P v = _
  unfold list1
  rw [h, Option.bind_some, if_pos hz]; rfl
theorem tolist_ok {n : Nat} (hn : 2 ≤ n) {t : ST} (hG : Good t) : R n (lay t) (rf 286) [.ref 34] = some (.ok (.lst (t.row.map dth)) (lay t)) := by
  obtain ⟨n, rfl⟩ := down n (show 1 ≤ n by walk_at "o")
  have c2 := list_ok (n := n) (by walk_at "o") (P := lay t) (v := .ref 35) (l := t.row.map dth) rfl (by rw [List.length_map]; exact Nat.lt_trans hG.rl (by decide))
  refine r_up ?_
  generalize R n = r at c2
  walk_at "w"; refine s_res c2 ?_; walk_at "w"; rfl
theorem at_ok {n : Nat} (hn : 2 ≤ n) {t : ST} (hG : Good t) {i : Nat} : R n (lay t) (rf 279) [.ref 34, .int i] = some (match t.row.reverse[i]? with
    | some d => .ok (dth d) (lay t)
    | .none => .exc bRange (lay t)) := by
  obtain ⟨n, rfl⟩ := down n (show 1 ≤ n by walk_at "o")
  have c2 := tlen (n := n) (by omega) hG
  refine r_up ?_
  generalize R n = r at c2
  cases hd : t.row.reverse[i]? with
  | none =>
    have hi : t.row.length ≤ i := by have := List.getElem?_eq_none_iff.mp hd; rwa [List.length_reverse] at this
    walk_at "w"; refine s_res c2 ?_; walk_at "w"; refine s_t (congrArg some (congrArg (!·) (decide_eq_false (by omega)))) ?_; walk_at "w"; rfl
  | some d =>
    have it : item (lay t) (.ref 35) (.int ((t.row.length : Int) - 1 - i)) = some (dth d) := down_item (f := dth) hd hG.rl
    have hi : i < t.row.length := by have := (List.getElem?_eq_some_iff.mp hd).1; rwa [List.length_reverse] at this
    walk_at "w"; refine s_res c2 ?_; walk_at "w"; refine s_f (congrArg some (congrArg (!·) (decide_eq_true (by omega)))) ?_; walk_at "w"; refine s_res c2 ?_; walk_at "w"; refine s_av it ?_; walk_at "w"; rfl
theorem walk_fold {α : Type} {turn : LV -> α -> Hp -> (α -> Hp -> Out) -> Out} {fin : α -> Hp -> Out} {v : LV} {n : Nat} {g : Nat -> LV} (st : Nat -> α × Hp)
    (hv : ∀ i, i ≤ n -> nthL (st i).2 v n i = some (if i < n then some (g i) else .none)) (ht : ∀ i f, i < n -> turn (g i) (st i).1 (st i).2 f = f (st (i + 1)).1 (st (i + 1)).2) :
    ∀ j i, i + j = n -> walk v n turn fin (j + 1) i (st i).1 (st i).2 = fin (st n).1 (st n).2
  | 0, i, hi => by
    rw [walk_eq, hv i (by omega), if_neg (by omega), show n = i by omega]
  | j + 1, i, hi => by
    rw [walk_eq, hv i (by omega), if_pos (by omega)]
    show turn (g i) (st i).1 (st i).2 _ = _
    rw [ht i _ (by omega)]
    exact walk_fold st hv ht j (i + 1) (by omega)
theorem list_nth {P : Hp} {j i : Nat} {l : List AV} (h : P[j]? = some (.list l)) : nthL P (.av (.ref j)) l.length i = some (if i < l.length then some (.av (l.getD i .none)) else .none) := by
  show (match P[j]? with
    | some (.list l) => some l[i]?
    | _ => .none).map (fun (x : Option AV) => x.map LV.av) = _
  rw [h]
  by_cases hi : i < l.length
  · rw [if_pos hi]; simp [List.getElem?_eq_getElem hi]
  · rw [if_neg hi]; simp [List.getElem?_eq_none (Nat.not_lt.mp hi)]
theorem holds_row {n : Nat} (hn : 2 ≤ n) {t : ST} (hG : Good t) {d : Nat} (h6 : d < 6) : R n (lay t) (rf 291) [.ref 34, .ref (10 + 4 * d)] = some (.ok (.bool (decide (d ∈ t.row))) (lay t)) := by
  obtain ⟨n, rfl⟩ := down n (show 1 ≤ n by walk_at "o")
  have hb := lay_body t h6
  have hz : (t.row.map dth).length < 100000 := by rw [List.length_map]; exact Nat.lt_trans hG.rl (by decide)
  refine r_up ?_
  generalize R n = r
  walk_at "w"; refine s_dt hz ?_
  refine (?_ : walk _ _ _ _ _ _ _ _ = _)
  refine (walk_fold (g := fun i => .av ((t.row.map dth).getD i .none)) (fun i => (((t.row.take i).filter (· == d)).map dth, lay t)) (fun i z_ => list_nth rfl) (fun i f hi => ?_) (t.row.map dth).length 0 (Nat.zero_add _)).trans ?_
  · rw [List.length_map] at hi
    have hx : t.row[i]? = some t.row[i] := List.getElem?_eq_getElem hi
    generalize t.row[i] = x at hx
    have e0 : (t.row.map dth).getD i .none = dth x := by rw [List.getD_eq_getElem?_getD, List.getElem?_map, hx]; rfl
    have e1 : t.row.take (i + 1) = t.row.take i ++ [x] := by rw [List.take_add_one, hx]; rfl
    have hbx := lay_body t (hG.row x (List.mem_of_getElem? hx))
    rw [e0, e1, List.filter_append, List.map_append]
    by_cases hd : x = d
    · subst hd
      rw [show [x].filter (· == x) = [x] by simp]
      walk_at "w"; refine s_inst hbx ?_; walk_at "w"; refine s_inst hb ?_; walk_at "w"; refine s_t (congrArg some (decide_eq_true rfl)) ?_; walk_at "w"; rfl
    · rw [show [x].filter (· == d) = [] by simp [hd], List.map_nil, List.append_nil]
      walk_at "w"; refine s_inst hbx ?_; walk_at "w"; refine s_inst hb ?_; walk_at "w"; refine s_f (congrArg some (decide_eq_false (by omega))) ?_; walk_at "w"; rfl
  · rw [List.length_map, List.take_length]
    by_cases hm : d ∈ t.row
    · obtain ⟨y, ys, e⟩ : ∃ y ys, (t.row.filter (· == d)).map dth = y :: ys := by
        cases hl : (t.row.filter (· == d)).map dth with
        | nil => simp at hl; exact absurd hm (by intro z; exact hl d z rfl)
        | cons y ys => exact ⟨y, ys, rfl⟩
      rw [decide_eq_true hm]
      walk_at "w"
      erw [e]
      rfl
    · have e : (t.row.filter (· == d)).map dth = [] := by simp; intro x hx z; exact hm (z ▸ hx)
      rw [decide_eq_false hm]
      walk_at "w"
      erw [e]
      rfl
theorem access_ok {n : Nat} (hn : 5 ≤ n) {t : ST} {d : Nat} {a : Int} (h6 : d < 6) (ha : a ≤ t.acc d) : R n (lay t) (rf 564) [.ref 4, .ref (10 + 4 * d), .int a] = some (.ok .none (lay { t with acc := upd t.acc d a })) := by
  obtain ⟨n, rfl⟩ := down n (show 1 ≤ n by walk_at "o")
  have hb := lay_body t h6
  have c5 := elder_ok (n := n) (by walk_at "o") (t := t) h6
  refine r_up ?_
  generalize R n = r at c5
  walk_at "w"; refine s_inst hb ?_; walk_at "w"; refine s_f (congrArg some (decide_eq_false (by omega))) ?_; walk_at "w"; refine s_res c5 ?_; walk_at "w"; refine s_inst hb ?_; walk_at "w"
  exact congrArg (fun P => some (Res.ok .none P)) (set_body t h6 a)
structure GoodL (t : ST) : Prop where
  row : ∀ d ∈ t.lrow, d < 6
  rl : t.lrow.length < 1000
  ks : ∀ d, Ks (t.len d)
theorem one_acc {t : ST} {d : Nat} (h6 : d < 6) : item (lay t) (one d) (.str "access") = some (.int (t.lacc d)) := match d, h6 with
  | 0, _ => rfl | 1, _ => rfl | 2, _ => rfl | 3, _ => rfl | 4, _ => rfl | 5, _ => rfl
theorem one_num {t : ST} {d : Nat} (h6 : d < 6) : item (lay t) (one d) (.str "number") = some (.int (d + 1 : Nat)) := match d, h6 with
  | 0, _ => rfl | 1, _ => rfl | 2, _ => rfl | 3, _ => rfl | 4, _ => rfl | 5, _ => rfl
theorem one_ent {t : ST} {d : Nat} (h6 : d < 6) : item (lay t) (one d) (.str "entries") = some (.ref (13 + 4 * d)) := match d, h6 with
  | 0, _ => rfl | 1, _ => rfl | 2, _ => rfl | 3, _ => rfl | 4, _ => rfl | 5, _ => rfl
theorem one_body {t : ST} {d : Nat} (h6 : d < 6) : item (lay t) (one d) (.str "body") = some (.ref (10 + 4 * d)) := match d, h6 with
  | 0, _ => rfl | 1, _ => rfl | 2, _ => rfl | 3, _ => rfl | 4, _ => rfl | 5, _ => rfl
theorem in_len {t : ST} (hG : GoodL t) {d k : Nat} (h6 : d < 6) (h3 : k < 3) : cmp1 (lay t) .In (lkey k) (.ref (13 + 4 * d)) = some (lk k (t.len d)).isSome := by
  show (match (lay t)[13 + 4 * d]? with
      | some (.dict es) => (dget (lkey k) es).map (fun (x : Option AV) => x.isSome)
      | _ => .none) = _
  rw [lay_len t h6]
  show (dget (lkey k) _).map _ = _
  rw [lget (hG.ks d) h3, Option.map_some, Option.isSome_map]
theorem at_len {t : ST} (hG : GoodL t) {d k : Nat} (h6 : d < 6) (h3 : k < 3) : item (lay t) (.ref (13 + 4 * d)) (lkey k) = (lk k (t.len d)).map fun c => .int c := by
  have : item (lay t) (.ref (13 + 4 * d)) (lkey k) = (match (lay t)[13 + 4 * d]? with
    | some (.list l) => (match lkey k with
      | .int i => (place i l.length).bind fun j => l[j]?
      | _ => .none)
    | some (.dict es) => (dget (lkey k) es).bind id
    | _ => .none) := rfl
  rw [this, lay_len t h6]
  show (dget (lkey k) _).bind id = _
  rw [lget (hG.ks d) h3]; rfl
noncomputable def lStep (t : ST) (k n : Nat) (i : Nat) (d : Nat) : Option AV := if t.lacc d < 2 then some (.str "closed") else if (lk k (t.len d)).isSome then some (.int ((n : Int) - 1 - i)) else .none
noncomputable def lFound (t : ST) (k : Nat) : AV := ((List.range' 0 t.lrow.length).findSome? fun i => (t.lrow.reverse[i]?).bind (lStep t k t.lrow.length i)).getD .none
theorem lfound_ok {n : Nat} (hn : 2 ≤ n) {t : ST} (hG : GoodL t) {k : Nat} (h3 : k < 3) : R n (lay t) (rf 707) [.ref 37, lkey k] = some (.ok (lFound t k) (lay t)) := by
  obtain ⟨n, rfl⟩ := down n (show 1 ≤ n by walk_at "o")
  have c1 := len_ok (n := n) (by walk_at "o") (P := lay t) (j := 37) rfl (by rw [List.length_map]; exact Nat.lt_trans hG.rl (by decide))
  have c2 := down_ok (n := n) (by walk_at "o") (P := lay t) (k := t.lrow.length) hG.rl
  rw [List.length_map] at c1
  refine r_up ?_
  generalize R n = r at c1 c2
  walk_at "w"; refine s_res c1 ?_; walk_at "w"; refine s_res c2 ?_; walk_at "w"
  refine (walk_fin (g := fun i => .av (.int ((t.lrow.length : Int) - 1 - i))) (dec := fun i => ((t.lrow.reverse[i]?).bind (lStep t k t.lrow.length i)).map fun v => some (.ok v (lay t))) (e := some (.ok .none (lay t)))
    (fun l => l = L [("row", .ref 37), ("key", lkey k)] ∨ ∃ x, l = L [("row", .ref 37), ("key", lkey k), ("at", x)]) (fun i => down_nth) (fun i l f hi hl => ?_) (fun l hl => ?_) t.lrow.length 0 _ (Nat.zero_add _) (.inl rfl)).trans ?_
  · obtain ⟨d, hd⟩ : ∃ d, t.lrow.reverse[i]? = some d := ⟨_, List.getElem?_eq_getElem (by rwa [List.length_reverse])⟩
    have h6 : d < 6 := hG.row d (by have := List.mem_of_getElem? hd; simpa using this)
    have it : item (lay t) (.ref 37) (.int ((t.lrow.length : Int) - 1 - i)) = some (one d) := down_item (f := one) hd hG.rl
    have ha := one_acc (t := t) h6
    have he := one_ent (t := t) h6
    have hin := in_len hG h6 h3
    rw [hd, Option.bind_some]
    unfold lStep
    have q1 : sput "at" (.av (.int ((t.lrow.length : Int) - 1 - i))) l = L [("row", .ref 37), ("key", lkey k), ("at", .int ((t.lrow.length : Int) - 1 - i))] := by rcases hl with rfl | ⟨x, rfl⟩ <;> rfl
    by_cases hc : t.lacc d < 2
    · rw [if_pos hc]
      dsimp only [Option.map]
      walk_at "v"; refine blk_loc q1 ?_; walk_at "w"; refine s_av it ?_; walk_at "w"; refine s_av ha ?_; walk_at "w"; refine s_t (congrArg some (decide_eq_true hc)) ?_; walk_at "w"; rfl
    · rw [if_neg hc]
      cases hs : (lk k (t.len d)).isSome with
      | true =>
        rw [hs] at hin
        dsimp only [Option.map, if_true]
        walk_at "v"; refine blk_loc q1 ?_; walk_at "w"; refine s_av it ?_; walk_at "w"; refine s_av ha ?_; walk_at "w"; refine s_f (congrArg some (decide_eq_false hc)) ?_; walk_at "w"; refine s_av it ?_; walk_at "w"; refine s_av he ?_; walk_at "w"; refine s_b hin ?_; walk_at "w"; rfl
      | false =>
        rw [hs] at hin
        refine ⟨_, .inr ⟨.int ((t.lrow.length : Int) - 1 - i), rfl⟩, ?_⟩
        walk_at "v"; refine blk_loc q1 ?_; walk_at "w"; refine s_av it ?_; walk_at "w"; refine s_av ha ?_; walk_at "w"; refine s_f (congrArg some (decide_eq_false hc)) ?_; walk_at "w"; refine s_av it ?_; walk_at "w"; refine s_av he ?_; walk_at "w"; refine s_b hin ?_; walk_at "w"; rfl
  · walk_at "w"; rfl
  · rw [findSome_map]
    unfold lFound
    cases (List.range' 0 t.lrow.length).findSome? fun i => (t.lrow.reverse[i]?).bind (lStep t k t.lrow.length i) <;> rfl
theorem isput_ok {n : Nat} (hn : 1 ≤ n) {t : ST} (hG : GoodL t) {d k : Nat} {c : Int} (h6 : d < 6) (h3 : k < 3) : R n (lay t) (rf 714) [one d, lkey k, .int c] =
    some (if t.lacc d < 3 then .ok (.tup [.none, bInv]) (lay t) else .ok (.tup [.none, .none]) (lay { t with len := upd t.len d (putl k c (t.len d)) })) := by
  obtain ⟨n, rfl⟩ := down n hn
  have ha := one_acc (t := t) h6
  have he := one_ent (t := t) h6
  have hle := lay_len t h6
  have hp := lput (hG.ks d) (c := c) h3
  have kl := ks_len (hG.ks d)
  have hz : ((t.len d).map fun (p : Nat × Int) => (lkey p.1, AV.int p.2)).length < 100000 := by rw [List.length_map]; omega
  refine r_up ?_
  generalize R n = r
  by_cases hc : t.lacc d < 3
  · rw [if_pos hc]
    walk_at "w"; refine s_av ha ?_; walk_at "w"; refine s_t (congrArg some (decide_eq_true hc)) ?_; walk_at "w"; rfl
  · rw [if_neg hc]
    walk_at "w"; refine s_av ha ?_; walk_at "w"; refine s_f (congrArg some (decide_eq_false hc)) ?_; walk_at "w"; refine s_av he ?_; walk_at "w"; refine s_dict hle ?_; walk_at "w"; refine s_lt hz ?_; walk_at "w"; refine s_put hp ?_; walk_at "w"
    exact congrArg (fun P => some (Res.ok (.tup [.none, .none]) P)) (set_len t h6 _)
structure Sync (t : ST) : Prop where
  row : t.lrow = t.row
  acc : t.lacc = t.acc
  en : t.len = t.en
theorem Good.law {t : ST} (hG : Good t) (hS : Sync t) : GoodL t := ⟨by rw [hS.row]; exact hG.row, by rw [hS.row]; exact hG.rl, by rw [hS.en]; exact hG.ks⟩
theorem found_rel {α : Type} {F : α -> Option (Option (α × Int))} {A : AV} {B : Nat -> AV} {H : α -> Option Int} {C : α -> Prop} [∀ d, Decidable (C d)] (hF : ∀ d, F d = if C d then some .none else (H d).map fun c => some (d, c)) : ∀ (xs : List α) (k : Nat) (G : Nat -> Option AV),
    (∀ i d, xs[i]? = some d -> G (k + i) = if C d then some A else if (H d).isSome then some (B (k + i)) else .none) -> match xs.findSome? F with
      | .none => (List.range' k xs.length).findSome? G = .none
      | some .none => (List.range' k xs.length).findSome? G = some A
      | some (some (d, c)) => ∃ i, xs[i]? = some d ∧ (List.range' k xs.length).findSome? G = some (B (k + i))
  | [], k, G, h => rfl
  | d :: xs, k, G, h => by
    have h0 := h 0 d rfl
    rw [Nat.add_zero] at h0
    rw [List.length_cons, List.range'_succ, List.findSome?_cons, List.findSome?_cons, hF, h0]
    by_cases hc : C d
    · rw [if_pos hc, if_pos hc]
    · rw [if_neg hc, if_neg hc]
      cases hH : H d with
      | some c => exact ⟨0, rfl, rfl⟩
      | none =>
        have ih := found_rel hF xs (k + 1) G fun i d' e => by
          have := h (i + 1) d' (by simpa using e)
          rwa [show k + (i + 1) = k + 1 + i by omega] at this
        simp only [Option.map_none, Option.isSome_none, Bool.false_eq_true, if_false]
        cases hf : xs.findSome? F with
        | none => rw [hf] at ih; exact ih
        | some x =>
          rw [hf] at ih
          cases x with
          | none => exact ih
          | some p =>
            obtain ⟨i, h1, h2⟩ := ih
            exact ⟨i + 1, by simpa using h1, by rw [show k + (i + 1) = k + 1 + i by omega]; exact h2⟩
theorem lfound_look {t : ST} (hS : Sync t) {k : Nat} : match look t k with
    | .none => lFound t k = .none
    | some .none => lFound t k = .str "closed"
    | some (some (d, c)) => ∃ i : Nat, t.lrow.reverse[i]? = some d ∧ lFound t k = .int ((t.lrow.length : Int) - 1 - i) := by
  have := found_rel (A := .str "closed") (B := fun i => .int ((t.lrow.length : Int) - 1 - i)) (H := fun d => lk k (t.en d)) (C := fun d => t.acc d < 2) (F := fun d => if t.acc d < 2 then some .none else (lk k (t.en d)).map fun c => some (d, c)) (fun d => rfl) t.row.reverse 0
    (fun i => (t.lrow.reverse[i]?).bind (lStep t k t.lrow.length i)) fun i d e => by
      rw [Nat.zero_add, hS.row, e, Option.bind_some]; unfold lStep; rw [hS.acc, hS.en]
  unfold lFound
  rw [List.length_reverse] at this
  unfold look
  cases hf : t.row.reverse.findSome? fun d => if t.acc d < 2 then some .none else (lk k (t.en d)).map fun c => some (d, c) with
  | none => rw [hf] at this; rw [hS.row] at this ⊢; rw [this]; rfl
  | some x =>
    rw [hf] at this
    cases x with
    | none => rw [hS.row] at this ⊢; rw [this]; rfl
    | some p =>
      obtain ⟨i, h1, h2⟩ := this
      refine ⟨i, by rw [hS.row]; exact h1, ?_⟩
      rw [Nat.zero_add] at h2
      rw [hS.row] at h2 ⊢
      rw [h2]; rfl
theorem search_ok {n : Nat} (hn : 10 ≤ n) {t : ST} (hG : Good t) (hS : Sync t) {k : Nat} (h3 : k < 3) : R n (lay t) (rf 719) [.ref 34, .ref 37, kth k, lkey k] = some (.ok (.bool true) (lay t)) := by
  obtain ⟨n, rfl⟩ := down n (show 1 ≤ n by walk_at "o")
  have c1 := lfound_ok (n := n) (by walk_at "o") (hG.law hS) h3
  have c2 := load_ok (n := n) (by walk_at "o") hG h3
  have c3 := where_ok (n := n) (by walk_at "o") hG h3
  have c4 := key_ok (n := n) (by walk_at "o") (P := lay t) h3
  have c5 := find_look (n := n) (by omega) hG h3
  have hf := lfound_look (k := k) hS
  refine r_up ?_
  cases hl : look t k with
  | none =>
    rw [hl] at c2 c3 c5 hf
    dsimp only at hf
    rw [hf] at c1
    generalize R n = r at c1 c2 c3 c4 c5
    walk_at "w"; refine s_res c1 ?_; walk_at "w"; refine s_walk ?_; walk_at "w"; refine s_exc c2 ?_; walk_at "w"; refine s_walk ?_; walk_at "w"; refine s_res c3 ?_; walk_at "w"; refine s_walk ?_; walk_at "w"; refine s_res c4 ?_; walk_at "w"; refine s_res c5 ?_; walk_at "w"; refine s_walk ?_; walk_at "w"; rfl
  | some x =>
    rw [hl] at c2 c3 c5 hf
    cases x with
    | none =>
      dsimp only at hf
      rw [hf] at c1
      generalize R n = r at c1 c2 c3 c4 c5
      walk_at "w"; refine s_res c1 ?_; walk_at "w"; refine s_walk ?_; walk_at "w"; refine s_exc c2 ?_; walk_at "w"; refine s_walk ?_; walk_at "w"; refine s_exc c3 ?_; walk_at "w"; refine s_walk ?_; walk_at "w"; refine s_res c4 ?_; walk_at "w"; refine s_exc c5 ?_; walk_at "w"; refine s_walk ?_; walk_at "w"; rfl
    | some p =>
      obtain ⟨d, c⟩ := p
      obtain ⟨i, h1, h2⟩ := hf
      rw [h2] at c1
      obtain ⟨m1, m2, m3⟩ := look_mem hl
      have h6 : d < 6 := hG.row d m1
      have it : item (lay t) (.ref 37) (.int ((t.lrow.length : Int) - 1 - i)) = some (one d) := down_item (f := one) h1 (hG.law hS).rl
      have he := one_ent (t := t) h6
      have hnu := one_num (t := t) h6
      have hb := lay_body t h6
      have hat := at_len (hG.law hS) h6 h3
      rw [hS.en, m3] at hat
      generalize R n = r at c1 c2 c3 c4 c5
      have f1 : ∀ x : Int, truth (.bool (!decide (x = x))) = some false := fun x => congrArg (fun b => some (!b)) (decide_eq_true rfl)
      have f2 : ∀ x : Int, truth (.bool (decide (x = x))) = some true := fun x => congrArg some (decide_eq_true rfl)
      walk_at "w"; refine s_res c1 ?_; walk_at "w"; refine s_walk ?_; walk_at "w"; refine s_res c2 ?_; walk_at "w"; refine s_walk ?_; walk_at "w"; refine s_res c3 ?_; walk_at "w"; refine s_walk ?_; walk_at "w"; refine s_res c4 ?_; walk_at "w"; refine s_res c5 ?_; walk_at "w"; refine s_walk ?_; walk_at "w"; refine s_walk ?_; walk_at "w"; refine s_walk ?_; walk_at "w"; refine s_walk ?_; walk_at "w"; refine s_walk ?_; walk_at "w"; refine s_av it ?_; walk_at "w"; refine s_av he ?_; walk_at "w"; refine s_av hat ?_; walk_at "w"; refine s_f (f1 _) ?_; walk_at "w"; refine s_inst hb ?_; walk_at "w"; refine s_av it ?_; walk_at "w"; refine s_av hnu ?_; walk_at "w"; refine s_f (f1 _) ?_; walk_at "w"; refine s_inst hb ?_; walk_at "w"; refine s_av it ?_; walk_at "w"; refine s_av hnu ?_; walk_at "w"; refine s_df (by simp [stops]) ?_; walk_at "w"; refine s_av it ?_; walk_at "w"; refine s_av he ?_; walk_at "w"; refine s_av hat ?_; walk_at "w"
      exact congrArg (fun b => some (Res.ok (.bool b) (lay t))) (decide_eq_true rfl)
theorem s_start {o : Option (LV × Nat)} {v : LV} {m : Nat} {f : LV -> Nat -> Out} {g : Unit -> Out} {e : Out} (h : o = some (v, m)) (k : f v m = e) : listK.match_1 (fun z_ => Out) o f g = e := by subst h; exact k
noncomputable def epair (p : Nat × Int) : AV := .tup [kth p.1, ith p.2]
theorem lk_mem : ∀ {l : List (Nat × Int)} {p : Nat × Int}, (l.map (·.1)).Nodup -> p ∈ l -> lk p.1 l = some p.2
  | q :: l, p, hn, hm => by
    unfold lk
    rw [List.find?_cons]
    rcases List.mem_cons.mp hm with rfl | hm
    · rw [show (p.1 == p.1) = true by simp]; rfl
    · have hne : (q.1 == p.1) = false := by
        have := (List.nodup_cons.mp hn).1
        simp only [beq_eq_false_iff_ne, ne_eq]
        intro e
        exact this (List.mem_map.mpr ⟨p, hm, e.symm⟩)
      rw [hne]
      exact lk_mem (List.nodup_cons.mp hn).2 hm
theorem at_entP {P : Hp} {l : List (Nat × Int)} {j : Nat} (he : P[j]? = some (entO l)) (hk : Ks l) {p : Nat × Int} (hm : p ∈ l) : item P (.ref j) (bkey p.1) = some (epair p) := by
  have : item P (.ref j) (bkey p.1) = (match P[j]? with
    | some (.list l) => (match bkey p.1 with
      | .int i => (place i l.length).bind fun j => l[j]?
      | _ => .none)
    | some (.dict es) => (dget (bkey p.1) es).bind id
    | _ => .none) := rfl
  rw [this, he]
  show (dget (bkey p.1) _).bind id = _
  rw [bget hk (hk.1 p hm), lk_mem hk.2 hm]; rfl
theorem pairs_ok {n : Nat} (hn : 1 ≤ n) {P : Hp} {a : Int} {d : Nat} {l : List (Nat × Int)} (hb : P[10 + 4 * d]? = some (bodyO a d)) (he : P[11 + 4 * d]? = some (entO l)) (hk : Ks l) : R n P (rf 102) [.ref (10 + 4 * d)] = some (.ok (.lst (l.map epair)) P) := by
  obtain ⟨n, rfl⟩ := down n hn
  have hst : startL P (.av (.ref (11 + 4 * d))) = some (.keys (11 + 4 * d), l.length) := by
    show (match P[11 + 4 * d]? with
      | some (.list l) => some (LV.av (.ref (11 + 4 * d)), l.length)
      | some (.dict es) => some (.keys (11 + 4 * d), es.length)
      | _ => .none) = _
    rw [he]; show some (LV.keys (11 + 4 * d), (List.map _ l).length) = _
    rw [List.length_map]
  have hnth : ∀ i, nthL P (.keys (11 + 4 * d)) l.length i = some (if i < l.length then some (.av (bkey (l.getD i (0, 0)).1)) else .none) := fun i => by
    show (match P[11 + 4 * d]? with
      | some (.dict es) => if es.length = l.length then some (es[i]?.map fun (p : AV × AV) => LV.av p.1) else .none
      | _ => .none) = _
    rw [he]
    show (if (List.map _ l).length = l.length then some ((List.map _ l)[i]?.map _) else none) = _
    rw [List.length_map, if_pos rfl]
    by_cases hi : i < l.length
    · rw [if_pos hi]; simp [hi]
    · rw [if_neg hi]; simp [Nat.not_lt.mp hi]
  have hz : l.length < 100000 := by have := ks_len hk; omega
  refine r_up ?_
  generalize R n = r
  walk_at "w"; refine s_inst hb ?_; walk_at "w"; refine s_start hst ?_; walk_at "w"; refine s_dt hz ?_
  refine (?_ : walk _ _ _ _ _ _ _ _ = _)
  refine (walk_fold (g := fun i => .av (bkey (l.getD i (0, 0)).1)) (fun i => ((l.take i).map epair, P)) (fun i z_ => hnth i) (fun i f hi => ?_) l.length 0 (Nat.zero_add _)).trans ?_
  · have hx : l[i]? = some l[i] := List.getElem?_eq_getElem hi
    generalize l[i] = p at hx
    have e0 : l.getD i (0, 0) = p := by rw [List.getD_eq_getElem?_getD, hx]; rfl
    have e1 : l.take (i + 1) = l.take i ++ [p] := by rw [List.take_add_one, hx]; rfl
    have hit := at_entP he hk (List.mem_of_getElem? hx)
    rw [e0, e1, List.map_append]
    walk_at "w"; refine s_inst hb ?_; walk_at "w"; refine s_av hit ?_; walk_at "w"; rfl
  · rw [List.take_length]
    rfl
noncomputable def nmOf : Nat -> Option UInt8
  | 0 => some 97
  | 1 => some 98
  | _ => .none
noncomputable def nms (l : List (Nat × Int)) : List AV := (l.filterMap fun p => nmOf p.1).map fun b => .byt [b]
noncomputable def has (k : Nat) (l : List (Nat × Int)) : Bool := (lk k l).isSome
noncomputable def srt (a b : Bool) : List AV := (if a then [.byt [97]] else []) ++ (if b then [.byt [98]] else [])
theorem has_cons (k : Nat) (p : Nat × Int) (l : List (Nat × Int)) : has k (p :: l) = (p.1 == k || has k l) := by
  unfold has lk
  rw [List.find?_cons]
  cases p.1 == k <;> rfl
theorem sort_nms {P : Hp} : ∀ {l : List (Nat × Int)}, Ks l -> sortV P (nms l) = okV (.lst (srt (has 0 l) (has 1 l))) P := by
  have key : ∀ {l : List (Nat × Int)}, Ks l -> (has 0 l = false ∧ has 1 l = false ∧ nms l = []) ∨ (has 0 l = true ∧ has 1 l = false ∧ nms l = [.byt [97]]) ∨ (has 0 l = false ∧ has 1 l = true ∧ nms l = [.byt [98]]) ∨ (has 0 l = true ∧ has 1 l = true ∧ (nms l = [.byt [97], .byt [98]] ∨ nms l = [.byt [98], .byt [97]])) := fun {l} => by
    induction l with
    | nil => intro _; exact .inl ⟨rfl, rfl, rfl⟩
    | cons p l ih =>
      intro h
      have hr : Ks l := ⟨fun q hq => h.1 q (.tail _ hq), (List.nodup_cons.mp h.2).2⟩
      obtain ⟨k, c⟩ := p
      have h3 : k < 3 := h.1 (k, c) (.head _)
      have hk : has k l = false := by
        cases hh : has k l with
        | false => rfl
        | true =>
          unfold has lk at hh
          rw [Option.isSome_map] at hh
          obtain ⟨q, hq⟩ := Option.isSome_iff_exists.mp hh
          exact absurd (List.mem_map.mpr ⟨q, List.mem_of_find?_eq_some hq, find_key hq⟩) (List.nodup_cons.mp h.2).1
      have e : nms ((k, c) :: l) = (match nmOf k with | some b => [.byt [b]] | .none => []) ++ nms l := by
        unfold nms; rw [List.filterMap_cons]; cases nmOf k <;> rfl
      rw [has_cons, has_cons, e]
      match k, h3, hk with
      | 0, _, hk =>
        rcases ih hr with ⟨a, b, q⟩ | ⟨a, b, q⟩ | ⟨a, b, q⟩ | ⟨a, b, q⟩
        · exact .inr (.inl ⟨rfl, b, by rw [q]; rfl⟩)
        · rw [hk] at a; cases a
        · exact .inr (.inr (.inr ⟨rfl, b, .inl (by rw [q]; rfl)⟩))
        · rw [hk] at a; cases a
      | 1, _, hk =>
        rcases ih hr with ⟨a, b, q⟩ | ⟨a, b, q⟩ | ⟨a, b, q⟩ | ⟨a, b, q⟩
        · exact .inr (.inr (.inl ⟨a, rfl, by rw [q]; rfl⟩))
        · exact .inr (.inr (.inr ⟨a, rfl, .inr (by rw [q]; rfl)⟩))
        · rw [hk] at b; cases b
        · rw [hk] at b; cases b
      | 2, _, _ => exact ih hr
  intro l h
  rcases key h with ⟨a, b, q⟩ | ⟨a, b, q⟩ | ⟨a, b, q⟩ | ⟨a, b, q | q⟩ <;> rw [a, b, q] <;> rfl
theorem apl {P X : Hp} {j : Nat} {o : AO} (h : P[j]? = some o) : (P ++ X)[j]? = some o := by
  rw [List.getElem?_append_left (List.getElem?_eq_some_iff.mp h).1]; exact h
theorem apn {P : Hp} {o : AO} : (P ++ [o])[P.length]? = some o := by simp
theorem aps {P : Hp} {o o' : AO} : (P ++ [o]).set P.length o' = P ++ [o'] := by simp
theorem sorted_ok {n : Nat} (hn : 1 ≤ n) {P : Hp} {j : Nat} {l : List AV} {v : AV} (h : P[j]? = some (.list l)) (hs : sortV P l = okV v P) : R n P (.top (.builtin "sorted")) [.ref j] = some (.ok v P) := by
  obtain ⟨n, rfl⟩ := down n hn
  show (match P[j]? with
    | some (.list l) => sortV P l
    | some (.dict es) => sortV P (es.map fun (p : AV × AV) => p.1)
    | _ => .none) = _
  rw [h]; exact hs
theorem s_list {o : Option AO} {l : List AV} {f : List AV -> Out} {g : Option AO -> Out} {e : Out} (h : o = some (.list l)) (k : f l = e) : lstOf.match_1 (fun z_ => Out) o f g = e := by subst h; exact k
theorem s_mt {o : Option MT} {m : MT} {f : MT -> Out} {g : Unit -> Out} {e : Out} (h : o = some m) (k : f m = e) : methK.match_1 (fun z_ => Out) o f g = e := by subst h; exact k
theorem m_inst {P : Hp} {j C f : Nat} {fs : List (Str × AV)} {m : Str} (h : P[j]? = some (.inst C fs)) (hm : slook m (classOf C) = some (.meth f)) (hn : (slook m fs).isNone = true) : methOf P (.ref j) m = some (.fn f) := by
  show (match P[j]? with
    | some (.inst C fs) => (match slook m (classOf C) with
      | some (.meth f) => if (slook m fs).isNone then some (MT.fn f) else .none
      | _ => .none)
    | some (.list _) => (if m = Str.ofString "append" then some .la else if m = Str.ofString "pop" then some .lp else .none)
    | some (.dict _) => (if m = Str.ofString "get" then some .dg else if m = Str.ofString "values" then some .dv else .none)
    | .none => .none) = _
  rw [h]
  show (match slook m (classOf C) with
      | some (.meth f) => if (slook m fs).isNone then some (MT.fn f) else .none
      | _ => .none) = _
  rw [hm]
  exact if_pos hn
theorem m_list {P : Hp} {j : Nat} {l : List AV} (h : P[j]? = some (.list l)) : methOf P (.ref j) (Str.ofString "append") = some .la := by
  show (match P[j]? with
    | some (.inst C fs) => (match slook (Str.ofString "append") (classOf C) with
      | some (.meth f) => if (slook (Str.ofString "append") fs).isNone then some (MT.fn f) else .none
      | _ => .none)
    | some (.list _) => (if Str.ofString "append" = Str.ofString "append" then some .la else if Str.ofString "append" = Str.ofString "pop" then some .lp else .none)
    | some (.dict _) => (if Str.ofString "append" = Str.ofString "get" then some .dg else if Str.ofString "append" = Str.ofString "values" then some .dv else .none)
    | .none => .none) = _
  rw [h]
  exact if_pos rfl
noncomputable def nmL (k : Nat) : List AV := (nmOf k).toList.map fun b => .byt [b]
theorem nms_snoc (l : List (Nat × Int)) (p : Nat × Int) : nms (l ++ [p]) = nms l ++ nmL p.1 := by
  unfold nms nmL
  rw [List.filterMap_append, List.map_append]
  cases h : nmOf p.1 <;> simp [h]
noncomputable def kt9 (l : List (Nat × Int)) : Nat -> Loc
  | 0 => []
  | i + 1 => L [("key", kth (l.getD i (0, 0)).1), ("thing", ith (l.getD i (0, 0)).2)]
theorem dnames_ok {n : Nat} (hn : 3 ≤ n) {P : Hp} {a : Int} {d : Nat} {l : List (Nat × Int)} (hb : P[10 + 4 * d]? = some (bodyO a d)) (he : P[11 + 4 * d]? = some (entO l)) (hk : Ks l) :
    R n P (rf 243) [.ref (10 + 4 * d)] = some (.ok (.lst (srt (has 0 l) (has 1 l))) (P ++ [.list (nms l)])) := by
  obtain ⟨n, rfl⟩ := down n (show 1 ≤ n by walk_at "o")
  have c1 := pairs_ok (n := n) (by walk_at "o") (P := P ++ [.list []]) (apl hb) (apl he) hk
  have c2 := sorted_ok (n := n) (by walk_at "o") (P := P ++ [.list (nms l)]) (j := P.length) apn (sort_nms hk)
  have hb' : (P ++ [AO.list []])[10 + 4 * d]? = some (bodyO a d) := apl hb
  refine r_up ?_
  generalize R n = r at c1 c2
  have m1 := m_inst (m := Str.ofString "pairs") (f := 102) hb' rfl rfl
  have hl3 := ks_len hk
  walk_at "w"; refine s_mt m1 ?_; walk_at "w"; refine s_res c1 ?_; walk_at "w"
  refine (walk_fold (g := fun i => .av ((l.map epair).getD i .none)) (fun i => (L [("body", .ref (10 + 4 * d)), ("found", .ref P.length)] ++ kt9 l i, P ++ [.list (nms (l.take i))])) (fun i z_ => ?_) (fun i f hi => ?_) (l.map epair).length 0 (Nat.zero_add _)).trans ?_
  · show (some (l.map epair)[i]?).map (fun (x : Option AV) => x.map LV.av) = _
    by_cases hi : i < (l.map epair).length
    · rw [if_pos hi, List.getD_eq_getElem?_getD, List.getElem?_eq_getElem hi]; rfl
    · rw [if_neg hi, List.getElem?_eq_none (Nat.not_lt.mp hi)]; rfl
  · rw [List.length_map] at hi
    have hx : l[i]? = some l[i] := List.getElem?_eq_getElem hi
    generalize l[i] = p at hx
    have e0 : l.getD i (0, 0) = p := by rw [List.getD_eq_getElem?_getD, hx]; rfl
    have e1 : l.take (i + 1) = l.take i ++ [p] := by rw [List.take_add_one, hx]; rfl
    have e2 : (l.map epair).getD i .none = epair p := by rw [List.getD_eq_getElem?_getD, List.getElem?_map, hx]; rfl
    have hz : (nms (l.take i)).length < 100000 := by
      have : (nms (l.take i)).length ≤ (l.take i).length := by unfold nms; rw [List.length_map]; exact List.length_filterMap_le ..
      have := List.length_take_le i l; omega
    have h3 := hk.1 p (List.mem_of_getElem? hx)
    have q1 : ∀ a b, sput "thing" (.av b) (sput "key" (.av a) (L [("body", .ref (10 + 4 * d)), ("found", .ref P.length)] ++ kt9 l i)) = L [("body", .ref (10 + 4 * d)), ("found", .ref P.length), ("key", a), ("thing", b)] := fun a b => by cases i <;> rfl
    rw [e2, e1, nms_snoc]
    dsimp only
    rw [show kt9 l (i + 1) = L [("key", kth p.1), ("thing", ith p.2)] from e0 ▸ rfl]
    obtain ⟨k, c⟩ := p
    have hj : (P ++ [AO.list (nms (l.take i))])[P.length]? = some (.list (nms (l.take i))) := apn
    have m2 := m_list hj
    match k, h3 with
    | 2, _ =>
      rw [show nmL (2, c).1 = [] from rfl, List.append_nil]
      walk_at "v"; refine blk_loc (q1 _ _) ?_; walk_at "w"; rfl
    | 0, _ =>
      rw [← (aps : (P ++ [AO.list (nms (l.take i))]).set P.length (.list (nms (l.take i) ++ nmL 0)) = P ++ [.list (nms (l.take i) ++ nmL 0)])]
      walk_at "v"; refine blk_loc (q1 _ _) ?_; walk_at "w"; refine s_mt m2 ?_; walk_at "w"; refine s_list hj ?_; walk_at "w"; refine s_lt hz ?_; walk_at "w"; rfl
    | 1, _ =>
      rw [← (aps : (P ++ [AO.list (nms (l.take i))]).set P.length (.list (nms (l.take i) ++ nmL 1)) = P ++ [.list (nms (l.take i) ++ nmL 1)])]
      walk_at "v"; refine blk_loc (q1 _ _) ?_; walk_at "w"; refine s_mt m2 ?_; walk_at "w"; refine s_list hj ?_; walk_at "w"; refine s_lt hz ?_; walk_at "w"; rfl
  · rw [List.length_map, List.take_length]
    walk_at "w"; refine s_res c2 ?_; walk_at "w"; rfl
theorem walk_run {α : Type} {turn : LV -> α -> Hp -> (α -> Hp -> Out) -> Out} {fin : α -> Hp -> Out} {v : LV} {n : Nat} {g : Nat -> LV} (st : Nat -> α × Hp) (out : Nat -> Option Out)
    (hv : ∀ i, i ≤ n -> nthL (st i).2 v n i = some (if i < n then some (g i) else .none)) (ht : ∀ i f, i < n -> turn (g i) (st i).1 (st i).2 f = (out i).getD (f (st (i + 1)).1 (st (i + 1)).2)) :
    ∀ j i, i + j = n -> walk v n turn fin (j + 1) i (st i).1 (st i).2 = ((List.range' i j).findSome? out).getD (fin (st n).1 (st n).2)
  | 0, i, hi => by
    rw [walk_eq, hv i (by omega), if_neg (by omega), show n = i by omega]; rfl
  | j + 1, i, hi => by
    rw [walk_eq, hv i (by omega), if_pos (by omega)]
    show turn (g i) (st i).1 (st i).2 _ = _
    rw [ht i _ (by omega), List.range'_succ, List.findSome?_cons]
    cases out i with
    | some o => rfl
    | none => exact walk_run st out hv ht j (i + 1) (by omega)
theorem ap1 {P Y : Hp} {o : AO} : (P ++ o :: Y)[P.length]? = some o := by simp
theorem ap2 {P Y : Hp} {o o' : AO} : (P ++ o :: Y).set P.length o' = P ++ o' :: Y := by simp
theorem ap3 {P Y : Hp} {o z : AO} : (P ++ o :: Y) ++ [z] = P ++ o :: (Y ++ [z]) := by simp
noncomputable def ins (b : UInt8) (s : List UInt8) : List UInt8 := if s.contains b then s else s ++ [b]
noncomputable def sE (s : List UInt8) : List (AV × AV) := s.map fun b => (.byt [b], .bool true)
noncomputable def SOk (s : List UInt8) : Prop := s = [] ∨ s = [97] ∨ s = [98] ∨ s = [97, 98] ∨ s = [98, 97]
theorem SOk.ins {s : List UInt8} {b : UInt8} (h : SOk s) (hb : b = 97 ∨ b = 98) : SOk (ins b s) := by
  rcases hb with rfl | rfl <;> rcases h with rfl | rfl | rfl | rfl | rfl <;> simp [SOk, DK.PL.ins]
theorem SOk.len {s : List UInt8} (h : SOk s) : s.length ≤ 2 := by rcases h with rfl | rfl | rfl | rfl | rfl <;> simp
theorem SOk.sort {s : List UInt8} (h : SOk s) {P : Hp} : sortV P (s.map fun b => .byt [b]) = okV (.lst (srt (s.contains 97) (s.contains 98))) P := by
  rcases h with rfl | rfl | rfl | rfl | rfl <;> rfl
set_option tactic.hygienic true in
theorem ins_has (b c : UInt8) (s : List UInt8) : (ins b s).contains c = (s.contains c || b == c) := by
  unfold ins
  split
  · rename_i h
    by_cases hc : b = c
    · subst hc; rw [h]; simp
    · simp [hc]
  · rw [List.contains_append]; by_cases hc : b = c
    · subst hc; simp
    · have : (c == b) = false := by simpa using fun z => hc z.symm
      have h2 : (b == c) = false := by simpa using hc
      simp [this, h2, hc, Ne.symm hc]
theorem byt_eq (a b : UInt8) : kkeq (.byt [a]) (.byt [b]) = some (a == b) := by
  show some (decide (K0.b [a] = K0.b [b])) = _
  congr 1
  by_cases h : a = b
  · subst h; simp
  · simp [h]
theorem sE_put {s : List UInt8} {b : UInt8} (h : s.length ≤ 2) : dput (.byt [b]) (.bool true) (sE s) = some (sE (ins b s)) := by
  have key : ∀ s : List UInt8, dput0 (.byt [b]) (.bool true) (sE s) = some (sE (ins b s)) := fun s => by
    induction s with
    | nil => rfl
    | cons a s ih =>
      show (match kkeq (.byt [a]) (.byt [b]) with | some true => some ((AV.byt [a], AV.bool true) :: sE s) | some false => (dput0 (.byt [b]) (.bool true) (sE s)).map ((AV.byt [a], AV.bool true) :: ·) | .none => .none) = _
      rw [byt_eq]
      unfold ins
      by_cases hab : a = b
      · subst hab
        rw [show (a == a) = true by simp, if_pos (by simp)]; rfl
      · rw [show (a == b) = false by simpa using hab]
        show (dput0 _ _ (sE s)).map _ = _
        rw [ih]
        unfold ins
        by_cases hs : s.contains b = true
        · rw [if_pos hs, if_pos (by simp at hs ⊢; exact .inr hs)]; rfl
        · rw [if_neg hs, if_neg (by simp at hs ⊢; exact ⟨fun z => hab z.symm, hs⟩)]; rfl
  unfold dput
  rw [show (keyOk (.byt [b]) && decide ((sE s).length < 100000)) = true by unfold sE; rw [List.length_map]; simp [keyOk, k0]; omega, if_pos rfl]
  exact key s
noncomputable def insAll (a b : Bool) (s : List UInt8) : List UInt8 := if b then ins 98 (if a then ins 97 s else s) else (if a then ins 97 s else s)
noncomputable def seen (t : ST) (r : List Nat) : List UInt8 := r.foldl (fun s d => insAll (has 0 (t.en d)) (has 1 (t.en d)) s) []
theorem insAll_ok {s : List UInt8} (h : SOk s) (a b : Bool) : SOk (insAll a b s) := by
  cases a <;> cases b
  · exact h
  · exact h.ins (.inr rfl)
  · exact h.ins (.inl rfl)
  · exact (h.ins (.inl rfl)).ins (.inr rfl)
theorem seen_snoc (t : ST) (r : List Nat) (d : Nat) : seen t (r ++ [d]) = insAll (has 0 (t.en d)) (has 1 (t.en d)) (seen t r) := by unfold seen; rw [List.foldl_append]; rfl
theorem seen_ok (t : ST) (r : List Nat) : SOk (seen t r) := by
  unfold seen
  have : ∀ (r : List Nat) (s : List UInt8), SOk s -> SOk (r.foldl (fun s d => insAll (has 0 (t.en d)) (has 1 (t.en d)) s) s) := fun r => by
    induction r with
    | nil => exact fun s h => h
    | cons d r ih => exact fun s h => ih _ (insAll_ok h _ _)
  exact this r [] (.inl rfl)
theorem seen_has (t : ST) (r : List Nat) : (seen t r).contains 97 = r.any (fun d => has 0 (t.en d)) ∧ (seen t r).contains 98 = r.any (fun d => has 1 (t.en d)) := by
  unfold seen
  have : ∀ (r : List Nat) (s : List UInt8), (r.foldl (fun s d => insAll (has 0 (t.en d)) (has 1 (t.en d)) s) s).contains 97 = (s.contains 97 || r.any fun d => has 0 (t.en d)) ∧ (r.foldl (fun s d => insAll (has 0 (t.en d)) (has 1 (t.en d)) s) s).contains 98 = (s.contains 98 || r.any fun d => has 1 (t.en d)) := fun r => by
    induction r with
    | nil => exact fun s => by simp
    | cons d r ih =>
      intro s
      have e1 : ∀ a b : Bool, (insAll a b s).contains 97 = (s.contains 97 || a) := fun a b => by cases a <;> cases b <;> simp only [insAll, ins_has, if_true, if_false, Bool.false_eq_true] <;> simp
      have e2 : ∀ a b : Bool, (insAll a b s).contains 98 = (s.contains 98 || b) := fun a b => by cases a <;> cases b <;> simp only [insAll, ins_has, if_true, if_false, Bool.false_eq_true] <;> simp
      rw [List.foldl_cons, List.any_cons, List.any_cons, (ih _).1, (ih _).2, e1, e2, Bool.or_assoc, Bool.or_assoc]
      exact ⟨rfl, rfl⟩
  have h := this r []
  simpa using h
theorem s_disp {o : Option (List (AV × AV))} {o' : Option AO} {d : List (AV × AV)} {f : List (AV × AV) -> Out} {g : Option (List (AV × AV)) -> Option AO -> Out} {e : Out} (h : o = some d) (h' : o' = some (.dict [])) (k : f d = e) : dictK.match_1 (fun z_ z_ => Out) o o' f g = e := by subst h; subst h'; exact k
theorem walk_runI {α : Type} {turn : LV -> α -> Hp -> (α -> Hp -> Out) -> Out} {fin : α -> Hp -> Out} {v : LV} {n : Nat} {g : Nat -> LV} (I : α -> Prop) (st : Nat -> Hp) (out : Nat -> Option Out) {fv : Out}
    (hv : ∀ i, i ≤ n -> nthL (st i) v n i = some (if i < n then some (g i) else .none)) (ht : ∀ i l f, i < n -> I l -> ∃ l', I l' ∧ turn (g i) l (st i) f = (out i).getD (f l' (st (i + 1)))) (hf : ∀ l, I l -> fin l (st n) = fv) :
    ∀ j i l, i + j = n -> I l -> walk v n turn fin (j + 1) i l (st i) = ((List.range' i j).findSome? out).getD fv
  | 0, i, l, hi, hl => by
    rw [walk_eq, hv i (by omega), if_neg (by omega), show i = n by omega]; exact hf l hl
  | j + 1, i, l, hi, hl => by
    rw [walk_eq, hv i (by omega), if_pos (by omega)]
    show turn (g i) l (st i) _ = _
    obtain ⟨l', h1, h2⟩ := ht i l (fun l P => walk v n turn fin (j + 1) (i + 1) l P) (by omega) hl
    rw [h2, List.range'_succ, List.findSome?_cons]
    cases out i with
    | some o => rfl
    | none => exact walk_runI I st out hv ht hf j (i + 1) l' (by omega) h1
noncomputable def noFI : FI := ⟨[], [], ⟨.module, [], false, false, []⟩, [], false⟩
noncomputable def fi354 : FI := (finfo 354).getD noFI
noncomputable def inner354 : List Stmt := match (fi354.body[1]? : Option Stmt) with
  | some (Stmt.For _ _ [_, Stmt.For _ _ b _ _] _ _) => b
  | _ => []
theorem inner_seen {r : CallR} {P P' : Hp} {j : Nat} {es es' : List (AV × AV)} {kr : AV -> Hp -> Out} {f : Loc -> Hp -> Out} {s x : AV} {b : UInt8} {e : Out} (h : P[j]? = some (.dict es)) (hz : es.length < 100000) (hp : dput (.byt [b]) (.bool true) es = some es') (hq : P.set j (.dict es') = P')
    (k : f (L [("self", s), ("found", .ref j), ("thing", x), ("octets", .byt [b])]) P' = e) : blk (ex r ⟨cellNames fi354.scope.names, false⟩ fi354.scope.names kr 10) inner354 (L [("self", s), ("found", .ref j), ("thing", x), ("octets", .byt [b])]) P f = e := by
  subst hq
  walk_at "w"; refine s_dict h ?_; walk_at "w"; refine s_lt hz ?_; walk_at "w"; refine s_put hp ?_; walk_at "w"
  exact k
noncomputable def Tl2 (a b : String) (tl : Loc) : Prop := tl = [] ∨ (∃ x, tl = L [(a, x)]) ∨ ∃ x y, tl = L [(a, x), (b, y)]
noncomputable def Tl1 (b : String) (tl : Loc) : Prop := tl = [] ∨ ∃ y, tl = L [(b, y)]
theorem Tl1.up {a b : String} {x : AV} {tl : Loc} (h : Tl1 b tl) : Tl2 a b (L [(a, x)] ++ tl) := by
  rcases h with rfl | ⟨y, rfl⟩
  · exact .inr (.inl ⟨x, rfl⟩)
  · exact .inr (.inr ⟨x, y, rfl⟩)
theorem dsorted_ok {n : Nat} (hn : 1 ≤ n) {P : Hp} {j : Nat} {es : List (AV × AV)} {v : AV} (h : P[j]? = some (.dict es)) (hs : sortV P (es.map fun p => p.1) = okV v P) : R n P (.top (.builtin "sorted")) [.ref j] = some (.ok v P) := by
  obtain ⟨n, rfl⟩ := down n hn
  show (match P[j]? with
    | some (.list l) => sortV P l
    | some (.dict es) => sortV P (es.map fun (p : AV × AV) => p.1)
    | _ => .none) = _
  rw [h]; exact hs
theorem row_at {t : ST} {i x : Nat} (hx : t.row[i]? = some x) : (t.row.map dth).getD i .none = dth x := by rw [List.getD_eq_getElem?_getD, List.getElem?_map, hx]; rfl
theorem row_hz {t : ST} (hG : Good t) : (t.row.map dth).length < 100000 := by rw [List.length_map]; exact Nat.lt_trans hG.rl (by decide)
noncomputable def garb (t : ST) (r : List Nat) : Hp := r.map fun d => .list (nms (t.en d))
noncomputable def nsOut (t : ST) (P : Hp) (i : Nat) : Option Out := (t.row[i]?).bind fun d => if 2 ≤ t.acc d then .none else some (some (.exc bInv (P ++ .dict (sE (seen t (t.row.take i))) :: garb t (t.row.take i))))
theorem nseen_ok {n : Nat} (hn : 5 ≤ n) {t : ST} (hG : Good t) (X : Hp) : R n (lay t ++ X) (rf 354) [.ref 34] = ((List.range' 0 t.row.length).findSome? (nsOut t (lay t ++ X))).getD
    (some (.ok (.lst (srt ((seen t t.row).contains 97) ((seen t t.row).contains 98))) ((lay t ++ X) ++ .dict (sE (seen t t.row)) :: garb t t.row))) := by
  obtain ⟨n, rfl⟩ := down n (show 1 ≤ n by walk_at "o")
  have hB : ∀ d, d < 6 -> ∀ Z : Hp, ((lay t ++ X) ++ Z)[10 + 4 * d]? = some (bodyO (t.acc d) d) := fun d h6 Z => apl (apl (lay_body t h6))
  have hE : ∀ d, d < 6 -> ∀ Z : Hp, ((lay t ++ X) ++ Z)[11 + 4 * d]? = some (entO (t.en d)) := fun d h6 Z => apl (apl (lay_ent t h6))
  have hT : ∀ Z : Hp, ((lay t ++ X) ++ Z)[35]? = some (.list (t.row.map dth)) := fun Z => apl (apl rfl)
  have hS : ∀ Z : Hp, ((lay t ++ X) ++ Z)[34]? = some (.inst 362 [("most", .int 6), ("things", .ref 35)]) := fun Z => apl (apl rfl)
  generalize lay t ++ X = P at hB hE hT hS ⊢
  have c1 : ∀ d, d < 6 -> ∀ Z : Hp, R n (P ++ Z) (rf 229) [dth d] = some (if 2 ≤ t.acc d then .ok .none (P ++ Z) else .exc bInv (P ++ Z)) := fun d h6 Z => chkrP (by walk_at "o") (hB d h6 Z)
  have c2 : ∀ d, d < 6 -> ∀ (o : AO) (Y : Hp), R n (P ++ o :: Y) (rf 243) [.ref (10 + 4 * d)] = some (.ok (.lst (srt (has 0 (t.en d)) (has 1 (t.en d)))) (P ++ o :: (Y ++ [.list (nms (t.en d))]))) := fun d h6 o Y => by
    rw [← ap3]; exact dnames_ok (by walk_at "o") (hB d h6 _) (hE d h6 _) (hG.ks d)
  have c3 : ∀ (s : List UInt8), SOk s -> ∀ Y : Hp, R n (P ++ .dict (sE s) :: Y) (.top (.builtin "sorted")) [.ref P.length] = some (.ok (.lst (srt (s.contains 97) (s.contains 98))) (P ++ .dict (sE s) :: Y)) := fun s hs Y =>
    dsorted_ok (by walk_at "o") ap1 (by unfold sE; rw [List.map_map]; exact hs.sort)
  refine r_up ?_
  generalize R n = r at c1 c2 c3
  have e0 : (P ++ [AO.dict []]).set P.length (.dict []) = P ++ .dict [] :: [] := aps
  have hs0 : startL (P ++ .dict [] :: []) (.av (.ref 35)) = some (.av (.ref 35), t.row.length) := by
    show (match (P ++ .dict [] :: [])[35]? with
      | some (.list l) => some (LV.av (.ref 35), l.length)
      | some (.dict es) => some (.keys 35, es.length)
      | _ => .none) = _
    rw [hT]; show some (LV.av (.ref 35), (t.row.map dth).length) = _
    rw [List.length_map]
  walk_at "w"; refine s_disp rfl apn ?_; walk_at "v"; refine blk_heap e0 ?_; walk_at "w"; refine s_inst (hS _) ?_; walk_at "w"; refine s_start hs0 ?_; walk_at "w"
  refine walk_runI (g := fun i => .av ((t.row.map dth).getD i .none)) (fun l => ∃ tl, l = L [("self", .ref 34), ("found", .ref P.length)] ++ tl ∧ Tl2 "thing" "octets" tl)
    (fun i => P ++ .dict (sE (seen t (t.row.take i))) :: garb t (t.row.take i)) (fun i => (t.row[i]?).bind fun d => if 2 ≤ t.acc d then .none else some (some (.exc bInv (P ++ .dict (sE (seen t (t.row.take i))) :: garb t (t.row.take i))))) (fun i hi => ?_) (fun i l f hi hl => ?_) (fun l hl => ?_) t.row.length 0 _ (Nat.zero_add _) ⟨[], rfl, .inl rfl⟩
  · have := list_nth (i := i) (hT (.dict (sE (seen t (t.row.take i))) :: garb t (t.row.take i)))
    rwa [List.length_map] at this
  · have hx : t.row[i]? = some t.row[i] := List.getElem?_eq_getElem hi
    generalize t.row[i] = x at hx
    have e1 : t.row.take (i + 1) = t.row.take i ++ [x] := by rw [List.take_add_one, hx]; rfl
    have h6 := hG.row x (List.mem_of_getElem? hx)
    rw [row_at hx, hx, Option.bind_some, e1]
    generalize t.row.take i = rr
    rw [seen_snoc, show garb t (rr ++ [x]) = garb t rr ++ [.list (nms (t.en x))] by unfold garb; rw [List.map_append]; rfl]
    have hs := seen_ok t rr
    have c1 := c1 x h6 (.dict (sE (seen t rr)) :: garb t rr)
    obtain ⟨tl, q1, q2, q3⟩ : ∃ tl, sput "thing" (.av (dth x)) l = L [("self", .ref 34), ("found", .ref P.length)] ++ (L [("thing", dth x)] ++ tl) ∧ (∀ b, sput "octets" (.av b) (L [("self", .ref 34), ("found", .ref P.length)] ++ (L [("thing", dth x)] ++ tl)) = L [("self", .ref 34), ("found", .ref P.length), ("thing", dth x), ("octets", b)]) ∧ Tl1 "octets" tl := by
      rcases hl with ⟨tl, rfl, rfl | ⟨x', rfl⟩ | ⟨x', y', rfl⟩⟩
      · exact ⟨[], rfl, fun z_ => rfl, .inl rfl⟩
      · exact ⟨[], rfl, fun z_ => rfl, .inl rfl⟩
      · exact ⟨L [("octets", y')], rfl, fun z_ => rfl, .inr ⟨y', rfl⟩⟩
    by_cases ha : 2 ≤ t.acc x
    · rw [if_pos ha] at c1 ⊢
      have c2 := c2 x h6 (.dict (sE (seen t rr))) (garb t rr)
      generalize garb t rr ++ [.list (nms (t.en x))] = Y at c2 ⊢
      generalize has 0 (t.en x) = a at c2 ⊢
      generalize has 1 (t.en x) = b at c2 ⊢
      generalize seen t rr = s at hs c1 c2 ⊢
      have st : ∀ (s : List UInt8) (b : UInt8), (P ++ .dict (sE s) :: Y).set P.length (.dict (sE (ins b s))) = P ++ .dict (sE (ins b s)) :: Y := fun s b => ap2
      have pu : ∀ (s : List UInt8) (b : UInt8), SOk s -> dput (.byt [b]) (.bool true) (sE s) = some (sE (ins b s)) := fun s b h => sE_put h.len
      have lz : ∀ (s : List UInt8), SOk s -> (sE s).length < 100000 := fun s h => by unfold sE; rw [List.length_map]; have := h.len; omega
      have ap : ∀ s : List UInt8, (P ++ .dict (sE s) :: Y)[P.length]? = some (.dict (sE s)) := fun s => ap1
      have i2 : ∀ b, ∃ tl, L [("self", .ref 34), ("found", .ref P.length), ("thing", dth x), ("octets", b)] = L [("self", .ref 34), ("found", .ref P.length)] ++ tl ∧ Tl2 "thing" "octets" tl := fun b => ⟨_, rfl, .inr (.inr ⟨dth x, b, rfl⟩)⟩
      cases a <;> cases b
      · refine ⟨_, ⟨_, rfl, Tl1.up (a := "thing") (x := dth x) q3⟩, ?_⟩
        walk_at "v"; refine blk_loc q1 ?_; walk_at "w"; refine s_res c1 ?_; walk_at "w"; refine s_res c2 ?_; walk_at "w"; refine s_walk ?_; walk_at "w"; rfl
      · refine ⟨_, i2 (.byt [98]), ?_⟩
        walk_at "v"; refine blk_loc q1 ?_; walk_at "w"; refine s_res c1 ?_; walk_at "w"; refine s_res c2 ?_; walk_at "w"; refine s_walk ?_; walk_at "v"; refine blk_loc (q2 _) ?_; walk_at "v"; refine inner_seen (ap s) (lz s hs) (pu s _ hs) (st s _) ?_; walk_at "w"; refine s_walk ?_; walk_at "w"; rfl
      · refine ⟨_, i2 (.byt [97]), ?_⟩
        walk_at "v"; refine blk_loc q1 ?_; walk_at "w"; refine s_res c1 ?_; walk_at "w"; refine s_res c2 ?_; walk_at "w"; refine s_walk ?_; walk_at "v"; refine blk_loc (q2 _) ?_; walk_at "v"; refine inner_seen (ap s) (lz s hs) (pu s _ hs) (st s _) ?_; walk_at "w"; refine s_walk ?_; walk_at "w"; rfl
      · refine ⟨_, i2 (.byt [98]), ?_⟩
        have hs' := hs.ins (b := 97) (.inl rfl)
        walk_at "v"; refine blk_loc q1 ?_; walk_at "w"; refine s_res c1 ?_; walk_at "w"; refine s_res c2 ?_; walk_at "w"; refine s_walk ?_; walk_at "v"; refine blk_loc (q2 _) ?_; walk_at "v"; refine inner_seen (ap s) (lz s hs) (pu s _ hs) (st s _) ?_; walk_at "w"; refine s_walk ?_; walk_at "v"; refine inner_seen (b := 98) (ap _) (lz _ hs') (pu _ _ hs') (st _ _) ?_; walk_at "w"; refine s_walk ?_; walk_at "w"; rfl
    · rw [if_neg ha] at c1 ⊢
      refine ⟨l, hl, ?_⟩
      walk_at "v"; refine blk_loc q1 ?_; walk_at "w"; refine s_exc c1 ?_; walk_at "w"; rfl
  · rw [List.take_length]
    have c3 := c3 _ (seen_ok t t.row) (garb t t.row)
    obtain ⟨tl, rfl, _⟩ := hl
    walk_at "w"; refine s_res c3 ?_; walk_at "w"; rfl
section
variable {α β : Type} [BEq α] [LawfulBEq α] {K : α -> AV} {V : β -> AV}
noncomputable def gput (k : α) (v : β) : List (α × β) -> List (α × β)
  | [] => [(k, v)]
  | (a, x) :: r => if a == k then (a, v) :: r else (a, x) :: gput k v r
noncomputable def gget (k : α) (l : List (α × β)) : Option β := (l.find? (·.1 == k)).map (·.2)
noncomputable def gE (K : α -> AV) (V : β -> AV) (l : List (α × β)) : List (AV × AV) := l.map fun p => (K p.1, V p.2)
theorem gget_ok (hk : ∀ a b, kkeq (K a) (K b) = some (a == b)) (ok : ∀ a, keyOk (K a) = true) (k : α) (l : List (α × β)) : dget (K k) (gE K V l) = some ((gget k l).map V) := by
  have key : ∀ l : List (α × β), dget0 (K k) (gE K V l) = some ((gget k l).map V) := fun l => by
    induction l with
    | nil => rfl
    | cons p l ih =>
      show (match kkeq (K p.1) (K k) with | some true => some (some (V p.2)) | some false => dget0 (K k) (gE K V l) | .none => .none) = _
      unfold gget at ih ⊢
      rw [hk, List.find?_cons]
      cases p.1 == k with
      | true => rfl
      | false => exact ih
  unfold dget
  rw [ok, if_pos rfl]
  exact key l
theorem gput_ok (hk : ∀ a b, kkeq (K a) (K b) = some (a == b)) (ok : ∀ a, keyOk (K a) = true) (k : α) (v : β) (l : List (α × β)) (hl : l.length < 100000) : dput (K k) (V v) (gE K V l) = some (gE K V (gput k v l)) := by
  have key : ∀ l : List (α × β), dput0 (K k) (V v) (gE K V l) = some (gE K V (gput k v l)) := fun l => by
    induction l with
    | nil => rfl
    | cons p l ih =>
      show (match kkeq (K p.1) (K k) with | some true => some ((K p.1, V v) :: gE K V l) | some false => (dput0 (K k) (V v) (gE K V l)).map ((K p.1, V p.2) :: ·) | .none => .none) = _
      unfold gput
      rw [hk]
      cases h : p.1 == k with
      | true => rfl
      | false =>
        show (dput0 _ _ (gE K V l)).map _ = _
        rw [ih]; rfl
  unfold dput
  rw [ok, show decide ((gE K V l).length < 100000) = true by unfold gE; rw [List.length_map]; exact decide_eq_true hl]
  exact key l
theorem gput_len (k : α) (v : β) : ∀ l : List (α × β), (gput k v l).length ≤ l.length + 1
  | [] => Nat.le_refl _
  | (a, x) :: r => by unfold gput; split <;> simp; exact gput_len k v r
theorem gget_gput (k k' : α) (v : β) : ∀ l : List (α × β), gget k' (gput k v l) = if k == k' then some v else gget k' l
  | [] => by
    unfold gget gput
    cases h : k == k' <;> simp [h]
  | (a, x) :: r => by
    have ih := gget_gput k k' v r
    unfold gget at ih ⊢
    unfold gput
    by_cases ha : a == k
    · have : a = k := eq_of_beq ha
      subst this
      rw [if_pos (by simp)]
      by_cases hk : a == k'
      · simp [List.find?_cons, hk]
      · simp [List.find?_cons, hk]
    · rw [if_neg ha, List.find?_cons, List.find?_cons]
      by_cases hk : a == k'
      · have : a = k' := eq_of_beq hk
        subst this
        have hne : (k == a) = false := by
          cases h : k == a with
          | false => rfl
          | true => exact absurd (by rw [eq_of_beq h]; simp) ha
        simp [hne]
      · simp only [hk]; exact ih
end
noncomputable def nK (d : Nat) : AV := .int (d + 1 : Nat)
noncomputable def bK (b : UInt8) : AV := .byt [b]
theorem bK_eq (a b : UInt8) : kkeq (bK a) (bK b) = some (a == b) := byt_eq a b
theorem nK_eq (a b : Nat) : kkeq (nK a) (nK b) = some (a == b) := by
  show some (decide (K0.i ((a + 1 : Nat) : Int) = K0.i ((b + 1 : Nat) : Int))) = _
  congr 1
  by_cases h : a = b
  · subst h; simp
  · rw [show (a == b) = false by simpa using h, decide_eq_false]
    intro z; injection z with z; omega
noncomputable def fi359 : FI := (finfo 359).getD noFI
noncomputable def inner359 : List Stmt := match (fi359.body[1]? : Option Stmt) with
  | some (Stmt.For _ _ [_, Stmt.If _ [_, Stmt.For _ _ b _ _] _ _] _ _) => b
  | _ => []
theorem s_dg {o : Option (Option AV)} {v : AV} {f : AV -> Out} {f2 f3 : Unit -> Out} {e : Out} (h : o = some (some v)) (k : f v = e) : methB.match_4 (fun z_ => Out) o f f2 f3 = e := by subst h; exact k
theorem s_dn {o : Option (Option AV)} {f : AV -> Out} {f2 f3 : Unit -> Out} {e : Out} (h : o = some .none) (k : f2 () = e) : methB.match_4 (fun z_ => Out) o f f2 f3 = e := by subst h; exact k
theorem m_dget {P : Hp} {j : Nat} {es : List (AV × AV)} (h : P[j]? = some (.dict es)) : methOf P (.ref j) (Str.ofString "get") = some .dg := by
  show (match P[j]? with
    | some (.inst C fs) => (match slook (Str.ofString "get") (classOf C) with
      | some (.meth f) => if (slook (Str.ofString "get") fs).isNone then some (MT.fn f) else .none
      | _ => .none)
    | some (.list _) => (if Str.ofString "get" = Str.ofString "append" then some .la else if Str.ofString "get" = Str.ofString "pop" then some .lp else .none)
    | some (.dict _) => (if Str.ofString "get" = Str.ofString "get" then some .dg else if Str.ofString "get" = Str.ofString "values" then some .dv else .none)
    | .none => .none) = _
  rw [h]
  exact if_pos rfl
noncomputable def fixV (b : UInt8) (cl : List (UInt8 × Int)) : Int := (gget b cl).getD 0
noncomputable def bump (b : UInt8) (cl : List (UInt8 × Int)) : List (UInt8 × Int) := gput b (fixV b cl + 1) cl
theorem inner_hid {r : CallR} {P P' : Hp} {j jb : Nat} {cl : List (UInt8 × Int)} {kr : AV -> Hp -> Out} {f : Loc -> Hp -> Out} {s x : AV} {b : UInt8} {e : Out} (h : P[j]? = some (.dict (gE bK .int cl))) (hz : cl.length < 1000) (hq : P.set j (.dict (gE bK .int (bump b cl))) = P')
    (k : f (L [("self", s), ("counted", .ref j), ("bodies", .ref jb), ("thing", x), ("octets", .byt [b])]) P' = e) :
    blk (ex r ⟨cellNames fi359.scope.names, false⟩ fi359.scope.names kr 9) inner359 (L [("self", s), ("counted", .ref j), ("bodies", .ref jb), ("thing", x), ("octets", .byt [b])]) P f = e := by
  subst hq
  have m1 := m_dget h
  have lz : (gE bK .int cl).length < 100000 := by unfold gE; rw [List.length_map]; omega
  have pu : dput (bK b) (.int (fixV b cl + 1)) (gE bK .int cl) = some (gE bK .int (bump b cl)) := gput_ok bK_eq (fun z_ => rfl) b _ cl (by omega)
  cases hg : gget b cl with
  | none =>
    have d1 : dget (bK b) (gE bK .int cl) = some .none := by rw [gget_ok bK_eq (fun z_ => rfl), hg]; rfl
    have hv : fixV b cl = 0 := by unfold fixV; rw [hg]; rfl
    rw [hv] at pu
    walk_at "w"; refine s_mt m1 ?_; walk_at "w"; refine s_dict h ?_; walk_at "w"; refine s_dn d1 ?_; walk_at "w"; refine s_dict h ?_; walk_at "w"; refine s_lt lz ?_; walk_at "w"; refine s_put pu ?_; walk_at "w"
    exact k
  | some v =>
    have d1 : dget (bK b) (gE bK .int cl) = some (some (.int v)) := by rw [gget_ok bK_eq (fun z_ => rfl), hg]; rfl
    have hv : fixV b cl = v := by unfold fixV; rw [hg]; rfl
    rw [hv] at pu
    walk_at "w"; refine s_mt m1 ?_; walk_at "w"; refine s_dict h ?_; walk_at "w"; refine s_dg d1 ?_; walk_at "w"; refine s_dict h ?_; walk_at "w"; refine s_lt lz ?_; walk_at "w"; refine s_put pu ?_; walk_at "w"
    exact k
noncomputable def bumpAll (a b : Bool) (cl : List (UInt8 × Int)) : List (UInt8 × Int) := if b then bump 98 (if a then bump 97 cl else cl) else (if a then bump 97 cl else cl)
noncomputable def hstep (t : ST) (s : List (Nat × Bool) × List (UInt8 × Int)) (d : Nat) : List (Nat × Bool) × List (UInt8 × Int) := if (gget d s.1).isSome then s else (gput d true s.1, bumpAll (has 0 (t.en d)) (has 1 (t.en d)) s.2)
noncomputable def hst (t : ST) (r : List Nat) : List (Nat × Bool) × List (UInt8 × Int) := r.foldl (hstep t) ([], [])
theorem hst_snoc (t : ST) (r : List Nat) (d : Nat) : hst t (r ++ [d]) = hstep t (hst t r) d := by unfold hst; rw [List.foldl_append]; rfl
noncomputable def hgarb (t : ST) : List Nat -> List (Nat × Bool) -> Hp
  | [], _ => []
  | d :: r, s => if (gget d s).isSome then hgarb t r s else .list (nms (t.en d)) :: hgarb t r (gput d true s)
theorem hgarb_snoc (t : ST) (d : Nat) : ∀ (r : List Nat) (s : List (Nat × Bool) × List (UInt8 × Int)), hgarb t (r ++ [d]) s.1 = hgarb t r s.1 ++ (if (gget d (r.foldl (hstep t) s).1).isSome then [] else [.list (nms (t.en d))])
  | [], s => by
    show (if (gget d s.1).isSome then [] else [AO.list (nms (t.en d))]) = _
    rfl
  | x :: r, s => by
    show (if (gget x s.1).isSome then hgarb t (r ++ [d]) s.1 else .list (nms (t.en x)) :: hgarb t (r ++ [d]) (gput x true s.1)) = (if (gget x s.1).isSome then hgarb t r s.1 else .list (nms (t.en x)) :: hgarb t r (gput x true s.1)) ++ _
    rw [List.foldl_cons]
    by_cases h : (gget x s.1).isSome
    · rw [if_pos h, if_pos h, hgarb_snoc t d r s, show hstep t s x = s from if_pos h]
    · rw [if_neg h, if_neg h, show hstep t s x = _ from if_neg h]
      have := hgarb_snoc t d r (gput x true s.1, bumpAll (has 0 (t.en x)) (has 1 (t.en x)) s.2)
      rw [this]; rfl
noncomputable def COk (cl : List (UInt8 × Int)) : Prop := SOk (cl.map (·.1))
theorem bump_keys (b : UInt8) (v : Int) : ∀ cl : List (UInt8 × Int), (gput b v cl).map (·.1) = ins b (cl.map (·.1))
  | [] => rfl
  | (a, x) :: cl => by
    have ih := bump_keys b v cl
    unfold gput
    unfold ins at ih ⊢
    by_cases h : a == b
    · rw [if_pos h, if_pos (by have := eq_of_beq h; subst this; simp)]; rfl
    · rw [if_neg h, List.map_cons, ih, List.map_cons]
      have hne : ¬ b = a := fun z => h (by rw [z]; simp)
      by_cases hs : (cl.map (·.1)).contains b = true
      · rw [if_pos hs, if_pos (by simp at hs ⊢; exact .inr hs)]
      · rw [if_neg hs, if_neg (by simp at hs ⊢; exact ⟨hne, hs⟩)]; rfl
theorem COk.bump {cl : List (UInt8 × Int)} (h : COk cl) {b : UInt8} (hb : b = 97 ∨ b = 98) : COk (bump b cl) := by
  unfold COk DK.PL.bump; rw [bump_keys]; exact SOk.ins h hb
theorem COk.all {cl : List (UInt8 × Int)} (h : COk cl) (a b : Bool) : COk (bumpAll a b cl) := by
  cases a <;> cases b
  · exact h
  · exact h.bump (.inr rfl)
  · exact h.bump (.inl rfl)
  · exact (h.bump (.inl rfl)).bump (.inr rfl)
theorem hst_ok (t : ST) (r : List Nat) : COk (hst t r).2 ∧ (hst t r).1.length ≤ r.length := by
  have : ∀ (r : List Nat) (s : List (Nat × Bool) × List (UInt8 × Int)), COk s.2 -> COk (r.foldl (hstep t) s).2 ∧ (r.foldl (hstep t) s).1.length ≤ s.1.length + r.length := fun r => by
    induction r with
    | nil => exact fun s h => ⟨h, Nat.le_refl _⟩
    | cons d r ih =>
      intro s h
      rw [List.foldl_cons, List.length_cons]
      by_cases hd : (gget d s.1).isSome
      · rw [show hstep t s d = s from if_pos hd]
        obtain ⟨q1, q2⟩ := ih s h
        exact ⟨q1, by omega⟩
      · rw [show hstep t s d = _ from if_neg hd]
        obtain ⟨q1, q2⟩ := ih (gput d true s.1, bumpAll (has 0 (t.en d)) (has 1 (t.en d)) s.2) (h.all _ _)
        have h2 : (gput d true s.1).length ≤ s.1.length + 1 := gput_len d true s.1
        dsimp only at q2
        exact ⟨q1, by omega⟩
  have h := this r ([], []) (.inl rfl)
  exact ⟨h.1, by have := h.2; simpa [hst] using this⟩
theorem COk.len {cl : List (UInt8 × Int)} (h : COk cl) : cl.length ≤ 2 := by have := SOk.len h; rwa [List.length_map] at this
theorem aq1 {P Y : Hp} {a b : AO} : (P ++ a :: b :: Y)[P.length + 1]? = some b := by simp
theorem aq2 {P Y : Hp} {a b c : AO} : (P ++ a :: b :: Y).set (P.length + 1) c = P ++ a :: c :: Y := by simp
theorem aq3 {P Y : Hp} {a b z : AO} : (P ++ a :: b :: Y) ++ [z] = P ++ a :: b :: (Y ++ [z]) := by simp
noncomputable def cO (cl : List (UInt8 × Int)) : AO := .dict (gE bK .int cl)
noncomputable def nO (bl : List (Nat × Bool)) : AO := .dict (gE nK .bool bl)
noncomputable def hHp (t : ST) (P : Hp) (r : List Nat) : Hp := P ++ cO (hst t r).2 :: nO (hst t r).1 :: hgarb t r []
noncomputable def hOut (t : ST) (P : Hp) (i : Nat) : Option Out := (t.row[i]?).bind fun d => if 2 ≤ t.acc d then .none else some (some (.exc bInv (hHp t P (t.row.take i))))
theorem not_in_nums {P : Hp} {j : Nat} {bl : List (Nat × Bool)} (h : P[j]? = some (nO bl)) (d : Nat) : cmp1 P .NotIn (nK d) (.ref j) = some !(gget d bl).isSome := by
  show (match P[j]? with
      | some (.dict es) => (dget (nK d) es).map fun (x : Option AV) => !x.isSome
      | _ => .none) = _
  rw [h]
  show (dget (nK d) (gE nK .bool bl)).map _ = _
  rw [gget_ok nK_eq (fun z_ => rfl), Option.map_some, Option.isSome_map]
theorem at_cnt {P : Hp} {j : Nat} {cl : List (UInt8 × Int)} (h : P[j]? = some (cO cl)) {b : UInt8} (hb : (gget b cl).isSome) : item P (.ref j) (.byt [b]) = some (.int (fixV b cl)) := by
  have : item P (.ref j) (.byt [b]) = (match P[j]? with
    | some (.list l) => .none
    | some (.dict es) => (dget (.byt [b]) es).bind id
    | _ => .none) := rfl
  rw [this, h]
  show (dget (bK b) (gE bK .int cl)).bind id = _
  rw [gget_ok bK_eq (fun z_ => rfl)]
  unfold fixV
  cases hg : gget b cl with
  | none => rw [hg] at hb; cases hb
  | some v => rfl
theorem keys_has (b : UInt8) (cl : List (UInt8 × Int)) : (cl.map (·.1)).contains b = (gget b cl).isSome := by
  unfold gget
  rw [Option.isSome_map]
  induction cl with
  | nil => rfl
  | cons p cl ih =>
    rw [List.map_cons, List.contains_cons, List.find?_cons, ih]
    by_cases h : p.1 = b
    · subst h; simp
    · have h1 : (p.1 == b) = false := by simpa using h
      have h2 : (b == p.1) = false := by simpa using fun z => h z.symm
      rw [h1, h2]; simp
noncomputable def if359 : List Stmt := match (fi359.body[1]? : Option Stmt) with
  | some (Stmt.For _ _ [_, Stmt.If _ b _ _] _ _) => b
  | _ => []
theorem if_hid {r : CallR} {P Y Y' : Hp} {kr : AV -> Hp -> Out} {x : Nat} {acx : Int} {cl : List (UInt8 × Int)} {bl bl' : List (Nat × Bool)} {a b : Bool} (hc : COk cl)
    (hbx : (P ++ cO cl :: nO bl :: Y)[10 + 4 * x]? = some (bodyO acx x)) (lz : (gE nK AV.bool bl).length < 100000) (pu : dput (nK x) (.bool true) (gE nK .bool bl) = some (gE nK .bool bl'))
    (c2 : r (P ++ cO cl :: nO bl' :: Y) (rf 243) [.ref (10 + 4 * x)] = some (.ok (.lst (srt a b)) (P ++ cO cl :: nO bl' :: Y'))) {tl : Loc} (ht : Tl1 "octets" tl) :
    ∃ l', (∃ tl, l' = L [("self", .ref 34), ("counted", .ref P.length), ("bodies", .ref (P.length + 1)), ("thing", dth x)] ++ tl ∧ Tl1 "octets" tl) ∧
      ∀ f, blk (ex r ⟨cellNames fi359.scope.names, false⟩ fi359.scope.names kr 10) if359 (L [("self", .ref 34), ("counted", .ref P.length), ("bodies", .ref (P.length + 1)), ("thing", dth x)] ++ tl) (P ++ cO cl :: nO bl :: Y) f = f l' (P ++ cO (bumpAll a b cl) :: nO bl' :: Y') := by
  have hj : (P ++ cO cl :: nO bl :: Y)[P.length + 1]? = some (.dict (gE nK .bool bl)) := aq1
  have st : (P ++ cO cl :: nO bl :: Y).set (P.length + 1) (.dict (gE nK .bool bl')) = P ++ cO cl :: nO bl' :: Y := aq2
  have sc : ∀ cl cl' : List (UInt8 × Int), (P ++ cO cl :: nO bl' :: Y').set P.length (cO cl') = P ++ cO cl' :: nO bl' :: Y' := fun cl cl' => ap2
  have ap : ∀ cl : List (UInt8 × Int), (P ++ cO cl :: nO bl' :: Y')[P.length]? = some (cO cl) := fun cl => ap1
  have lc : cl.length < 1000 := by have := hc.len; omega
  have q2 : ∀ b, sput "octets" (.av b) (L [("self", .ref 34), ("counted", .ref P.length), ("bodies", .ref (P.length + 1)), ("thing", dth x)] ++ tl) = L [("self", .ref 34), ("counted", .ref P.length), ("bodies", .ref (P.length + 1)), ("thing", dth x), ("octets", b)] := fun b => by rcases ht with rfl | ⟨y, rfl⟩ <;> rfl
  cases a <;> cases b
  · refine ⟨_, ⟨tl, rfl, ht⟩, fun f => ?_⟩
    walk_at "w"; refine s_inst hbx ?_; walk_at "w"; refine s_dict hj ?_; walk_at "w"; refine s_lt lz ?_; walk_at "w"; refine s_put pu ?_; walk_at "v"; refine blk_heap st ?_; walk_at "w"; refine s_res c2 ?_; walk_at "w"; refine s_walk ?_; walk_at "w"; rfl
  · refine ⟨_, ⟨L [("octets", .byt [98])], rfl, .inr ⟨_, rfl⟩⟩, fun f => ?_⟩
    walk_at "w"; refine s_inst hbx ?_; walk_at "w"; refine s_dict hj ?_; walk_at "w"; refine s_lt lz ?_; walk_at "w"; refine s_put pu ?_; walk_at "v"; refine blk_heap st ?_; walk_at "w"; refine s_res c2 ?_; walk_at "w"; refine s_walk ?_; walk_at "v"; refine blk_loc (q2 _) ?_; walk_at "v"; refine inner_hid (ap cl) lc (sc cl _) ?_; walk_at "w"; refine s_walk ?_; walk_at "w"; rfl
  · refine ⟨_, ⟨L [("octets", .byt [97])], rfl, .inr ⟨_, rfl⟩⟩, fun f => ?_⟩
    walk_at "w"; refine s_inst hbx ?_; walk_at "w"; refine s_dict hj ?_; walk_at "w"; refine s_lt lz ?_; walk_at "w"; refine s_put pu ?_; walk_at "v"; refine blk_heap st ?_; walk_at "w"; refine s_res c2 ?_; walk_at "w"; refine s_walk ?_; walk_at "v"; refine blk_loc (q2 _) ?_; walk_at "v"; refine inner_hid (ap cl) lc (sc cl _) ?_; walk_at "w"; refine s_walk ?_; walk_at "w"; rfl
  · refine ⟨_, ⟨L [("octets", .byt [98])], rfl, .inr ⟨_, rfl⟩⟩, fun f => ?_⟩
    have lc' : (bump 97 cl).length < 1000 := by have := (hc.bump (b := 97) (.inl rfl)).len; omega
    walk_at "w"; refine s_inst hbx ?_; walk_at "w"; refine s_dict hj ?_; walk_at "w"; refine s_lt lz ?_; walk_at "w"; refine s_put pu ?_; walk_at "v"; refine blk_heap st ?_; walk_at "w"; refine s_res c2 ?_; walk_at "w"; refine s_walk ?_; walk_at "v"; refine blk_loc (q2 _) ?_; walk_at "v"; refine inner_hid (ap cl) lc (sc cl _) ?_; walk_at "w"; refine s_walk ?_; walk_at "v"; refine inner_hid (b := 98) (ap _) lc' (sc _ _) ?_; walk_at "w"; refine s_walk ?_; walk_at "w"; rfl
theorem hidden_ok {n : Nat} (hn : 5 ≤ n) {t : ST} (hG : Good t) (X : Hp) : R n (lay t ++ X) (rf 359) [.ref 34] = ((List.range' 0 t.row.length).findSome? (hOut t (lay t ++ X))).getD
    (some (.ok (.lst (srt (decide (1 < fixV 97 (hst t t.row).2)) (decide (1 < fixV 98 (hst t t.row).2)))) (hHp t (lay t ++ X) t.row))) := by
  obtain ⟨n, rfl⟩ := down n (show 1 ≤ n by walk_at "o")
  have hB : ∀ d, d < 6 -> ∀ Z : Hp, ((lay t ++ X) ++ Z)[10 + 4 * d]? = some (bodyO (t.acc d) d) := fun d h6 Z => apl (apl (lay_body t h6))
  have hE : ∀ d, d < 6 -> ∀ Z : Hp, ((lay t ++ X) ++ Z)[11 + 4 * d]? = some (entO (t.en d)) := fun d h6 Z => apl (apl (lay_ent t h6))
  have hT : ∀ Z : Hp, ((lay t ++ X) ++ Z)[35]? = some (.list (t.row.map dth)) := fun Z => apl (apl rfl)
  have hS : ∀ Z : Hp, ((lay t ++ X) ++ Z)[34]? = some (.inst 362 [("most", .int 6), ("things", .ref 35)]) := fun Z => apl (apl rfl)
  generalize lay t ++ X = P at hB hE hT hS ⊢
  have c1 : ∀ d, d < 6 -> ∀ Z : Hp, R n (P ++ Z) (rf 229) [dth d] = some (if 2 ≤ t.acc d then .ok .none (P ++ Z) else .exc bInv (P ++ Z)) := fun d h6 Z => chkrP (by walk_at "o") (hB d h6 Z)
  have c2 : ∀ d, d < 6 -> ∀ (o o' : AO) (Y : Hp), R n (P ++ o :: o' :: Y) (rf 243) [.ref (10 + 4 * d)] = some (.ok (.lst (srt (has 0 (t.en d)) (has 1 (t.en d)))) (P ++ o :: o' :: (Y ++ [.list (nms (t.en d))]))) := fun d h6 o o' Y => by
    rw [← aq3]; exact dnames_ok (by walk_at "o") (hB d h6 _) (hE d h6 _) (hG.ks d)
  have c3 : ∀ (cl : List (UInt8 × Int)), COk cl -> ∀ Y : Hp, R n (P ++ cO cl :: Y) (.top (.builtin "sorted")) [.ref P.length] = some (.ok (.lst (srt (gget 97 cl).isSome (gget 98 cl).isSome)) (P ++ cO cl :: Y)) := fun cl hc Y => by
    have := dsorted_ok (n := n) (by walk_at "o") (P := P ++ cO cl :: Y) (j := P.length) ap1 (v := .lst (srt (gget 97 cl).isSome (gget 98 cl).isSome)) (by
      rw [← keys_has, ← keys_has]
      have := SOk.sort hc (P := P ++ cO cl :: Y)
      unfold gE; rw [List.map_map]; rw [List.map_map] at this; exact this)
    exact this
  refine r_up ?_
  generalize R n = r at c1 c2 c3
  have e5 : (((P ++ [AO.dict []]).set P.length (.dict [])) ++ [AO.dict []]).set ((P ++ [AO.dict []]).set P.length (.dict [])).length (.dict []) = P ++ .dict [] :: .dict [] :: [] := by rw [aps]; simp
  have e6 : L [("self", .ref 34), ("counted", .ref P.length), ("bodies", .ref ((P ++ [AO.dict []]).set P.length (.dict [])).length)] = L [("self", .ref 34), ("counted", .ref P.length), ("bodies", .ref (P.length + 1))] := by rw [aps]; simp
  have hs0 : startL (P ++ .dict [] :: .dict [] :: []) (.av (.ref 35)) = some (.av (.ref 35), t.row.length) := by
    show (match (P ++ .dict [] :: .dict [] :: [])[35]? with
      | some (.list l) => some (LV.av (.ref 35), l.length)
      | some (.dict es) => some (.keys 35, es.length)
      | _ => .none) = _
    rw [hT]; show some (LV.av (.ref 35), (t.row.map dth).length) = _
    rw [List.length_map]
  walk_at "w"; refine s_disp rfl apn ?_; walk_at "w"; refine s_disp rfl apn ?_; walk_at "v"; refine blk_loc e6 ?_; walk_at "v"; refine blk_heap e5 ?_; walk_at "w"; refine s_inst (hS _) ?_; walk_at "w"; refine s_start hs0 ?_; walk_at "w"
  refine walk_runI (g := fun i => .av ((t.row.map dth).getD i .none)) (fun l => ∃ tl, l = L [("self", .ref 34), ("counted", .ref P.length), ("bodies", .ref (P.length + 1))] ++ tl ∧ Tl2 "thing" "octets" tl)
    (fun i => hHp t P (t.row.take i)) (hOut t P) (fun i hi => ?_) (fun i l f hi hl => ?_) (fun l hl => ?_) t.row.length 0 _ (Nat.zero_add _) ⟨[], rfl, .inl rfl⟩
  · have := list_nth (i := i) (hT (cO (hst t (t.row.take i)).2 :: nO (hst t (t.row.take i)).1 :: hgarb t (t.row.take i) []))
    rwa [List.length_map] at this
  · have hx : t.row[i]? = some t.row[i] := List.getElem?_eq_getElem hi
    generalize t.row[i] = x at hx
    have e1 : t.row.take (i + 1) = t.row.take i ++ [x] := by rw [List.take_add_one, hx]; rfl
    have h6 := hG.row x (List.mem_of_getElem? hx)
    have hlen : (t.row.take i).length < 1000 := Nat.lt_of_le_of_lt (List.length_take_le' ..) hG.rl
    unfold hOut
    rw [row_at hx, hx, Option.bind_some, e1]
    generalize t.row.take i = rr at hlen
    unfold hHp
    rw [hst_snoc, show hgarb t (rr ++ [x]) [] = _ from hgarb_snoc t x rr ([], [])]
    obtain ⟨hc, hb⟩ := hst_ok t rr
    rw [show rr.foldl (hstep t) ([], []) = hst t rr from rfl]
    generalize hgarb t rr [] = Y
    generalize hst t rr = S at hc hb ⊢
    obtain ⟨bl, cl⟩ := S
    dsimp only at hc hb ⊢
    have c1 := c1 x h6 (cO cl :: nO bl :: Y)
    obtain ⟨tl, q1, q3⟩ : ∃ tl, sput "thing" (.av (dth x)) l = L [("self", .ref 34), ("counted", .ref P.length), ("bodies", .ref (P.length + 1)), ("thing", dth x)] ++ tl ∧ Tl1 "octets" tl := by
      rcases hl with ⟨tl, rfl, rfl | ⟨x', rfl⟩ | ⟨x', y', rfl⟩⟩
      · exact ⟨[], rfl, .inl rfl⟩
      · exact ⟨[], rfl, .inl rfl⟩
      · exact ⟨L [("octets", y')], rfl, .inr ⟨y', rfl⟩⟩
    have i2 : ∀ tl, Tl1 "octets" tl -> ∃ tl', L [("self", .ref 34), ("counted", .ref P.length), ("bodies", .ref (P.length + 1)), ("thing", dth x)] ++ tl = L [("self", .ref 34), ("counted", .ref P.length), ("bodies", .ref (P.length + 1))] ++ tl' ∧ Tl2 "thing" "octets" tl' := fun tl h => ⟨_, rfl, Tl1.up (a := "thing") (x := dth x) h⟩
    by_cases ha : 2 ≤ t.acc x
    · rw [if_pos ha] at c1 ⊢
      have hbx := hB x h6 (cO cl :: nO bl :: Y)
      have hni := not_in_nums (P := P ++ cO cl :: nO bl :: Y) (j := P.length + 1) aq1 x
      unfold hstep
      dsimp only
      cases hin : (gget x bl).isSome with
      | true =>
        rw [hin] at hni
        rw [if_pos rfl, if_pos rfl, List.append_nil]
        refine ⟨_, i2 tl q3, ?_⟩
        walk_at "v"; refine blk_loc q1 ?_; walk_at "w"; refine s_res c1 ?_; walk_at "w"; refine s_inst hbx ?_; walk_at "w"; refine s_b hni ?_; walk_at "w"; rfl
      | false =>
        rw [hin] at hni
        rw [if_neg Bool.false_ne_true, if_neg Bool.false_ne_true]
        dsimp only
        have lb : bl.length < 1000 := by omega
        have lz : (gE nK AV.bool bl).length < 100000 := by unfold gE; rw [List.length_map]; omega
        have pu : dput (nK x) (.bool true) (gE nK .bool bl) = some (gE nK .bool (gput x true bl)) := gput_ok nK_eq (fun z_ => rfl) x true bl (by omega)
        have c2 := c2 x h6 (cO cl) (nO (gput x true bl)) Y
        obtain ⟨l', ⟨tl', h0, h1⟩, h2⟩ := if_hid (kr := fun v P => some (.ok v P)) hc hbx lz pu c2 q3
        refine ⟨l', h0 ▸ i2 tl' h1, ?_⟩
        walk_at "v"; refine blk_loc q1 ?_; walk_at "w"; refine s_res c1 ?_; walk_at "w"; refine s_inst hbx ?_; walk_at "w"; refine s_b hni ?_; walk_at "v"
        refine (h2 _).trans ?_
        walk_at "w"; rfl
    · rw [if_neg ha] at c1 ⊢
      refine ⟨l, hl, ?_⟩
      walk_at "v"; refine blk_loc q1 ?_; walk_at "w"; refine s_exc c1 ?_; walk_at "w"; rfl
  · rw [List.take_length]
    obtain ⟨tl, rfl, _⟩ := hl
    obtain ⟨hc, hb⟩ := hst_ok t t.row
    unfold hHp
    have c3 := c3 _ hc (nO (hst t t.row).1 :: hgarb t t.row [])
    have ap : (P ++ cO (hst t t.row).2 :: nO (hst t t.row).1 :: hgarb t t.row [])[P.length]? = some (cO (hst t t.row).2) := ap1
    have h97 := at_cnt (b := 97) ap
    have h98 := at_cnt (b := 98) ap
    have z : ∀ b : UInt8, (gget b (hst t t.row).2).isSome = false -> ¬ 1 < fixV b (hst t t.row).2 := fun b h => by
      unfold fixV; rw [Option.isSome_eq_false_iff, Option.isNone_iff_eq_none] at h; rw [h]; decide
    generalize P ++ cO (hst t t.row).2 :: nO (hst t t.row).1 :: hgarb t t.row [] = P' at c3 h97 h98 ⊢
    generalize (hst t t.row).2 = cl at c3 h97 h98 z ⊢
    cases h1 : (gget 97 cl).isSome <;> cases h2 : (gget 98 cl).isSome
    · rw [h1, h2] at c3
      rw [decide_eq_false (z 97 h1), decide_eq_false (z 98 h2)]
      walk_at "w"; refine s_res c3 ?_; walk_at "w"; refine s_walk ?_; walk_at "w"; rfl
    · rw [h1, h2] at c3
      rw [decide_eq_false (z 97 h1)]
      by_cases q : 1 < fixV 98 cl
      · rw [decide_eq_true q]
        walk_at "w"; refine s_res c3 ?_; walk_at "w"; refine s_walk ?_; walk_at "w"; refine s_av (h98 h2) ?_; walk_at "w"; refine s_t (congrArg some (decide_eq_true q)) ?_; walk_at "w"; refine s_walk ?_; walk_at "w"; rfl
      · rw [decide_eq_false q]
        walk_at "w"; refine s_res c3 ?_; walk_at "w"; refine s_walk ?_; walk_at "w"; refine s_av (h98 h2) ?_; walk_at "w"; refine s_f (congrArg some (decide_eq_false q)) ?_; walk_at "w"; refine s_walk ?_; walk_at "w"; rfl
    · rw [h1, h2] at c3
      rw [decide_eq_false (z 98 h2)]
      by_cases q : 1 < fixV 97 cl
      · rw [decide_eq_true q]
        walk_at "w"; refine s_res c3 ?_; walk_at "w"; refine s_walk ?_; walk_at "w"; refine s_av (h97 h1) ?_; walk_at "w"; refine s_t (congrArg some (decide_eq_true q)) ?_; walk_at "w"; refine s_walk ?_; walk_at "w"; rfl
      · rw [decide_eq_false q]
        walk_at "w"; refine s_res c3 ?_; walk_at "w"; refine s_walk ?_; walk_at "w"; refine s_av (h97 h1) ?_; walk_at "w"; refine s_f (congrArg some (decide_eq_false q)) ?_; walk_at "w"; refine s_walk ?_; walk_at "w"; rfl
    · rw [h1, h2] at c3
      by_cases q : 1 < fixV 97 cl <;> by_cases q' : 1 < fixV 98 cl
      · rw [decide_eq_true q, decide_eq_true q']
        walk_at "w"; refine s_res c3 ?_; walk_at "w"; refine s_walk ?_; walk_at "w"; refine s_av (h97 h1) ?_; walk_at "w"; refine s_t (congrArg some (decide_eq_true q)) ?_; walk_at "w"; refine s_walk ?_; walk_at "w"; refine s_av (h98 h2) ?_; walk_at "w"; refine s_t (congrArg some (decide_eq_true q')) ?_; walk_at "w"; refine s_walk ?_; walk_at "w"; rfl
      · rw [decide_eq_true q, decide_eq_false q']
        walk_at "w"; refine s_res c3 ?_; walk_at "w"; refine s_walk ?_; walk_at "w"; refine s_av (h97 h1) ?_; walk_at "w"; refine s_t (congrArg some (decide_eq_true q)) ?_; walk_at "w"; refine s_walk ?_; walk_at "w"; refine s_av (h98 h2) ?_; walk_at "w"; refine s_f (congrArg some (decide_eq_false q')) ?_; walk_at "w"; refine s_walk ?_; walk_at "w"; rfl
      · rw [decide_eq_false q, decide_eq_true q']
        walk_at "w"; refine s_res c3 ?_; walk_at "w"; refine s_walk ?_; walk_at "w"; refine s_av (h97 h1) ?_; walk_at "w"; refine s_f (congrArg some (decide_eq_false q)) ?_; walk_at "w"; refine s_walk ?_; walk_at "w"; refine s_av (h98 h2) ?_; walk_at "w"; refine s_t (congrArg some (decide_eq_true q')) ?_; walk_at "w"; refine s_walk ?_; walk_at "w"; rfl
      · rw [decide_eq_false q, decide_eq_false q']
        walk_at "w"; refine s_res c3 ?_; walk_at "w"; refine s_walk ?_; walk_at "w"; refine s_av (h97 h1) ?_; walk_at "w"; refine s_f (congrArg some (decide_eq_false q)) ?_; walk_at "w"; refine s_walk ?_; walk_at "w"; refine s_av (h98 h2) ?_; walk_at "w"; refine s_f (congrArg some (decide_eq_false q')) ?_; walk_at "w"; refine s_walk ?_; walk_at "w"; rfl
noncomputable def nums (r : List Nat) : List (Nat × Nat) := r.foldl (fun acc d => gput d d acc) []
noncomputable def wE (r : List Nat) : List (AV × AV) := gE nK one (nums r)
set_option tactic.hygienic true in
theorem gput_mem {α β : Type} [BEq α] [LawfulBEq α] {k : α} {v : β} : ∀ {l : List (α × β)} {p : α × β}, p ∈ gput k v l -> p = (k, v) ∨ p ∈ l
  | [], p, h => .inl (List.mem_singleton.mp h)
  | (a, x) :: r, p, h => by
    unfold gput at h
    split at h
    · rename_i e
      rcases List.mem_cons.mp h with rfl | h
      · exact .inl (by rw [eq_of_beq e])
      · exact .inr (.tail _ h)
    · rcases List.mem_cons.mp h with rfl | h
      · exact .inr (.head _)
      · exact (gput_mem h).imp id (.tail _)
theorem nums_mem (r : List Nat) : ∀ p ∈ nums r, p.1 = p.2 ∧ p.2 ∈ r := by
  have : ∀ (r : List Nat) (acc : List (Nat × Nat)) (Q : Nat -> Prop), (∀ d ∈ r, Q d) -> (∀ p ∈ acc, p.1 = p.2 ∧ Q p.2) -> ∀ p ∈ r.foldl (fun acc d => gput d d acc) acc, p.1 = p.2 ∧ Q p.2 := fun r => by
    induction r with
    | nil => exact fun acc Q z_ h => h
    | cons d r ih =>
      intro acc Q hq h
      refine ih _ Q (fun d' h' => hq d' (.tail _ h')) fun p hp => ?_
      rcases gput_mem hp with rfl | hp
      · exact ⟨rfl, hq d (.head _)⟩
      · exact h p hp
  exact this r [] (· ∈ r) (fun d h => h) (fun p h => by cases h)
theorem nums_len (r : List Nat) : (nums r).length ≤ r.length := by
  have : ∀ (r : List Nat) (acc : List (Nat × Nat)), (r.foldl (fun acc d => gput d d acc) acc).length ≤ acc.length + r.length := fun r => by
    induction r with
    | nil => exact fun acc => Nat.le_refl _
    | cons d r ih =>
      intro acc
      have h1 := ih (gput d d acc)
      have h2 : (gput d d acc).length ≤ acc.length + 1 := gput_len d d acc
      rw [List.foldl_cons, List.length_cons]; omega
  unfold nums; simpa using this r []
theorem pairs_nums : ∀ (r : List Nat) (acc : List (Nat × Nat)), acc.length + r.length < 100000 -> pairsOf (r.map fun d => .tup [nK d, one d]) (gE nK one acc) = some (gE nK one (r.foldl (fun acc d => gput d d acc) acc))
  | [], acc, _ => rfl
  | d :: r, acc, h => by
    show (dput (nK d) (one d) (gE nK one acc)).bind (fun acc => pairsOf (r.map fun d => .tup [nK d, one d]) acc) = _
    have h2 : (gput d d acc).length ≤ acc.length + 1 := gput_len d d acc
    rw [List.length_cons] at h
    rw [gput_ok nK_eq (fun z_ => rfl) d d acc (by omega), Option.bind_some]
    exact pairs_nums r _ (by omega)
theorem dict_ok {n : Nat} (hn : 1 ≤ n) {P : Hp} {l : List AV} {es : List (AV × AV)} (hz : l.length < 1000) (h : pairsOf l [] = some es) : R n P (.top (.type "dict")) [.lst l] = some (.ok (.ref P.length) (P ++ [.dict es])) := by
  obtain ⟨n, rfl⟩ := down n hn
  show (if l.length < 1000 then (pairsOf l []).bind fun es => okV (.ref P.length) (P ++ [.dict es]) else .none) = _
  rw [if_pos hz, h]; rfl
theorem llen_ok {n : Nat} (hn : 1 ≤ n) {P : Hp} {l : List AV} (hz : l.length < 100000) : R n P (.top (.builtin "len")) [.lst l] = some (.ok (.int l.length) P) := by
  obtain ⟨n, rfl⟩ := down n hn
  show (if l.length < 100000 then okV (.int l.length) P else .none) = _
  rw [if_pos hz]; rfl
theorem m_dval {P : Hp} {j : Nat} {es : List (AV × AV)} (h : P[j]? = some (.dict es)) : methOf P (.ref j) (Str.ofString "values") = some .dv := by
  show (match P[j]? with
    | some (.inst C fs) => (match slook (Str.ofString "values") (classOf C) with
      | some (.meth f) => if (slook (Str.ofString "values") fs).isNone then some (MT.fn f) else .none
      | _ => .none)
    | some (.list _) => (if Str.ofString "values" = Str.ofString "append" then some .la else if Str.ofString "values" = Str.ofString "pop" then some .lp else .none)
    | some (.dict _) => (if Str.ofString "values" = Str.ofString "get" then some .dg else if Str.ofString "values" = Str.ofString "values" then some .dv else .none)
    | .none => .none) = _
  rw [h]
  exact (if_neg (by decide)).trans (if_pos rfl)
noncomputable def wcnt (t : ST) (k : Nat) (r : List Nat) : Nat := ((nums r).filter fun p => has k (t.len p.2)).length
noncomputable def fi731 : FI := (finfo 731).getD noFI
noncomputable def body731 : List Stmt := match (fi731.body[2]? : Option Stmt) with
  | some (Stmt.For _ _ b _ _) => b
  | _ => []
theorem item_ent {Q : Hp} {d : Nat} {a : Int} (h : Q[12 + 4 * d]? = some (oneO a d)) : item Q (one d) (.str "entries") = some (.ref (13 + 4 * d)) := by
  have : item Q (one d) (.str "entries") = (match Q[12 + 4 * d]? with
    | some (.list l) => .none
    | some (.dict es) => (dget (.str "entries") es).bind id
    | _ => .none) := rfl
  rw [this, h]; rfl
theorem item_num {Q : Hp} {d : Nat} {a : Int} (h : Q[12 + 4 * d]? = some (oneO a d)) : item Q (one d) (.str "number") = some (nK d) := by
  have : item Q (one d) (.str "number") = (match Q[12 + 4 * d]? with
    | some (.list l) => .none
    | some (.dict es) => (dget (.str "number") es).bind id
    | _ => .none) := rfl
  rw [this, h]; rfl
theorem has_in {Q : Hp} {d k : Nat} {l : List (Nat × Int)} (h : Q[13 + 4 * d]? = some (lenO l)) (hk : Ks l) (h3 : k < 3) : cmp1 Q .In (lkey k) (.ref (13 + 4 * d)) = some (has k l) := by
  show (match Q[13 + 4 * d]? with
      | some (.dict es) => (dget (lkey k) es).map (fun (x : Option AV) => x.isSome)
      | _ => .none) = _
  rw [h]
  show (dget (lkey k) _).map _ = _
  rw [lget hk h3, Option.map_some, Option.isSome_map]; rfl
noncomputable def ones1 (ln : Nat -> List (Nat × Int)) (k : Nat) (ds : List (Nat × Nat)) : List AV := List.replicate (ds.filter fun p => has k (ln p.2)).length (.int 1)
theorem ones1_snoc (ln : Nat -> List (Nat × Int)) (k : Nat) (ds : List (Nat × Nat)) (p : Nat × Nat) : ones1 ln k (ds ++ [p]) = if has k (ln p.2) then ones1 ln k ds ++ [.int 1] else ones1 ln k ds := by
  unfold ones1
  rw [List.filter_append, List.length_append]
  cases h : has k (ln p.2)
  · simp [h]
  · simp [h, List.replicate_succ']
theorem word_blk {r : CallR} {Q : Hp} {kr : AV -> Hp -> Out} {f : Loc -> Hp -> Out} {k : Nat} {m : Int} {j jn : Nat} {l : List AV} {ds : List (Nat × Nat)} {ac : Nat -> Int} {ln : Nat -> List (Nat × Int)}
    (hk : k < 2) (hj : Q[j]? = some (.list l)) (hl : l.length < 1000) (hd : ds.length < 1000) (hn : Q[jn]? = some (.dict (gE nK one ds))) (ho : ∀ p ∈ ds, Q[12 + 4 * p.2]? = some (oneO (ac p.2) p.2)) (hz : ∀ p ∈ ds, Q[13 + 4 * p.2]? = some (lenO (ln p.2))) (hks : ∀ d, Ks (ln d))
    (c1 : ∀ l : List AV, l.length < 100000 -> r Q (.top (.builtin "len")) [.lst l] = some (.ok (.int l.length) Q)) (c2 : ∀ k, k < 2 -> r Q (.top (.builtin "ord")) [lkey k] = some (.ok (.int (97 + k : Nat)) Q))
    (c3 : ∀ k : Nat, k < 2 -> r Q (.top (.type "bytes")) [.lst [.int (97 + k : Nat)]] = some (.ok (.byt [97 + k.toUInt8]) Q)) :
    blk (ex r ⟨cellNames fi731.scope.names, false⟩ fi731.scope.names kr 11) body731 (L [("row", .ref 37), ("least", .int m), ("found", .ref j), ("numbers", .ref jn), ("word", lkey k)]) Q f =
    f (L [("row", .ref 37), ("least", .int m), ("found", .ref j), ("numbers", .ref jn), ("word", lkey k)]) (if m ≤ (ds.filter fun p => has k (ln p.2)).length then Q.set j (.list (l ++ [.byt [97 + k.toUInt8]])) else Q) := by
  have m1 := m_dval hn
  have m2 := m_list hj
  have hs0 : startL Q (.av (.dvl jn)) = some (.av (.dvl jn), ds.length) := by
    show (match Q[jn]? with
      | some (.dict es) => some (LV.av (.dvl jn), es.length)
      | _ => .none) = _
    rw [hn]; show some (LV.av (.dvl jn), (gE nK one ds).length) = _
    unfold gE; rw [List.length_map]
  have hv : ∀ i, nthL Q (.av (.dvl jn)) ds.length i = some (if i < ds.length then some (.av (one (ds.getD i (0, 0)).2)) else .none) := fun i => by
    show (match Q[jn]? with
      | some (.dict es) => if es.length = ds.length then some (es[i]?.map fun (p : AV × AV) => p.2) else .none
      | _ => .none).map (fun (x : Option AV) => x.map LV.av) = _
    rw [hn]
    show (if (gE nK one ds).length = ds.length then some ((gE nK one ds)[i]?.map _) else none).map _ = _
    unfold gE
    rw [List.length_map, if_pos rfl]
    by_cases hi : i < ds.length
    · rw [if_pos hi]; simp [hi]
    · rw [if_neg hi]; simp [Nat.not_lt.mp hi]
  have hc1 := c1 (ones1 ln k ds) (by unfold ones1; rw [List.length_replicate]; exact Nat.lt_of_le_of_lt (List.length_filter_le ..) (by omega))
  rw [show (ones1 ln k ds).length = (ds.filter fun p => has k (ln p.2)).length by unfold ones1; rw [List.length_replicate]] at hc1
  have h3 : k < 3 := Nat.lt_succ_of_lt hk
  walk_at "w"; refine s_mt m1 ?_; walk_at "w"; refine s_dict hn ?_; walk_at "w"; refine s_start hs0 ?_; walk_at "w"; refine s_dt (show ds.length < 100000 by omega) ?_; walk_at "w"
  refine (walk_fold (g := fun i => .av (one (ds.getD i (0, 0)).2)) (fun i => (ones1 ln k (ds.take i), Q)) (fun i z_ => hv i) (fun i f hi => ?_) ds.length 0 (Nat.zero_add _)).trans ?_
  · have hx : ds[i]? = some ds[i] := List.getElem?_eq_getElem hi
    generalize ds[i] = p at hx
    have e0 : ds.getD i (0, 0) = p := by rw [List.getD_eq_getElem?_getD, hx]; rfl
    have e1 : ds.take (i + 1) = ds.take i ++ [p] := by rw [List.take_add_one, hx]; rfl
    rw [e0, e1, ones1_snoc]
    have i1 := item_ent (ho p (List.mem_of_getElem? hx))
    have i2 := has_in (k := k) (hz p (List.mem_of_getElem? hx)) (hks _) h3
    cases hh : has k (ln p.2) with
    | true =>
      rw [hh] at i2
      walk_at "w"; refine s_av i1 ?_; walk_at "w"; refine s_b i2 ?_; walk_at "w"; rfl
    | false =>
      rw [hh] at i2
      walk_at "w"; refine s_av i1 ?_; walk_at "w"; refine s_b i2 ?_; walk_at "w"; rfl
  · rw [List.take_length]
    by_cases hm : m ≤ ((ds.filter fun p => has k (ln p.2)).length : Int)
    · rw [if_pos hm]
      walk_at "w"; refine s_res hc1 ?_; walk_at "w"; refine s_t (show truth (.bool (decide (m ≤ ((ds.filter fun p => has k (ln p.2)).length : Int)))) = some true from congrArg some (decide_eq_true hm)) ?_; walk_at "w"; refine s_mt m2 ?_; walk_at "w"; refine s_res (c2 k hk) ?_; walk_at "w"; refine s_res (c3 k hk) ?_; walk_at "w"; refine s_list hj ?_; walk_at "w"; refine s_lt (show l.length < 100000 by omega) ?_; walk_at "w"; rfl
    · rw [if_neg hm]
      walk_at "w"; refine s_res hc1 ?_; walk_at "w"; refine s_f (show truth (.bool (decide (m ≤ ((ds.filter fun p => has k (ln p.2)).length : Int)))) = some false from congrArg some (decide_eq_false hm)) ?_; walk_at "w"; rfl
noncomputable def wl1 (t : ST) (m : Int) : List AV := if m ≤ wcnt t 0 t.lrow then [.byt [97]] else []
noncomputable def wl2 (t : ST) (m : Int) : List AV := if m ≤ wcnt t 1 t.lrow then wl1 t m ++ [.byt [98]] else wl1 t m
theorem words_ok {n : Nat} (hn : 5 ≤ n) {t : ST} (hG : GoodL t) (X : Hp) (m : Int) : R n (lay t ++ X) (rf 731) [.ref 37, .int m] =
    some (.ok (.ref (lay t ++ X).length) ((lay t ++ X) ++ .list (wl2 t m) :: .dict (wE t.lrow) :: [])) := by
  obtain ⟨n, rfl⟩ := down n (show 1 ≤ n by walk_at "o")
  have hT : ∀ Z : Hp, ((lay t ++ X) ++ Z)[37]? = some (.list (t.lrow.map one)) := fun Z => apl (apl rfl)
  have hO : ∀ d, d < 6 -> ∀ Z : Hp, ((lay t ++ X) ++ Z)[12 + 4 * d]? = some (oneO (t.lacc d) d) := fun d h6 Z => apl (apl (lay_one t h6))
  have hL : ∀ d, d < 6 -> ∀ Z : Hp, ((lay t ++ X) ++ Z)[13 + 4 * d]? = some (lenO (t.len d)) := fun d h6 Z => apl (apl (lay_len t h6))
  generalize lay t ++ X = P at hT hO hL ⊢
  have rl := hG.rl
  have c1 : R n (P ++ [.list []]) (.top (.type "dict")) [.lst (t.lrow.map fun d => .tup [nK d, one d])] = some (.ok (.ref (P.length + 1)) (P ++ .list [] :: .dict (wE t.lrow) :: [])) := by
    have := dict_ok (n := n) (by walk_at "o") (P := P ++ [.list []]) (l := t.lrow.map fun d => .tup [nK d, one d]) (by rw [List.length_map]; exact rl) (pairs_nums t.lrow [] (by simp; omega))
    rw [this]; simp [wE, nums, gE]
  have c2 : ∀ (Q : Hp) (l : List AV), l.length < 100000 -> R n Q (.top (.builtin "len")) [.lst l] = some (.ok (.int l.length) Q) := fun Q l h => llen_ok (by walk_at "o") h
  have c3 : ∀ (Q : Hp) (k : Nat), k < 2 -> R n Q (.top (.builtin "ord")) [lkey k] = some (.ok (.int (97 + k : Nat)) Q) := fun Q k h => by
    obtain ⟨n, rfl⟩ := down n (show 1 ≤ n by walk_at "o")
    match k, h with
    | 0, _ => rfl
    | 1, _ => rfl
  have c4 : ∀ (Q : Hp) (k : Nat), k < 2 -> R n Q (.top (.type "bytes")) [.lst [.int (97 + k : Nat)]] = some (.ok (.byt [97 + k.toUInt8]) Q) := fun Q k h => by
    obtain ⟨n, rfl⟩ := down n (show 1 ≤ n by walk_at "o")
    match k, h with
    | 0, _ => rfl
    | 1, _ => rfl
  have hd : (nums t.lrow).length < 1000 := Nat.lt_of_le_of_lt (nums_len _) rl
  have hm : ∀ p ∈ nums t.lrow, p.2 < 6 := fun p hp => hG.row _ (nums_mem _ p hp).2
  have key := fun (kr : AV -> Hp -> Out) (f : Loc -> Hp -> Out) (l : List AV) (k : Nat) (hk : k < 2) (hl : l.length < 1000) => word_blk (r := R n) (Q := P ++ .list l :: .dict (wE t.lrow) :: []) (kr := kr) (f := f) (m := m) (j := P.length) (jn := P.length + 1) (ds := nums t.lrow) hk
    ap1 hl hd aq1 (fun p hp => hO _ (hm p hp) _) (fun p hp => hL _ (hm p hp) _) hG.ks (c2 _) (c3 _) (c4 _)
  have st : ∀ l l' : List AV, (P ++ AO.list l :: AO.dict (wE t.lrow) :: []).set P.length (.list l') = P ++ .list l' :: .dict (wE t.lrow) :: [] := fun l l' => ap2
  have hs0 : startL (P ++ [.list []]) (.av (.ref 37)) = some (.av (.ref 37), t.lrow.length) := by
    show (match (P ++ [.list []])[37]? with
      | some (.list l) => some (LV.av (.ref 37), l.length)
      | some (.dict es) => some (.keys 37, es.length)
      | _ => .none) = _
    rw [hT]; show some (LV.av (.ref 37), (t.lrow.map one).length) = _
    rw [List.length_map]
  refine r_up ?_
  generalize hr : R n = r at c1 key
  walk_at "w"; refine s_start hs0 ?_; walk_at "w"; refine s_dt (show t.lrow.length < 100000 by omega) ?_; walk_at "w"
  refine (walk_fold (g := fun i => .av ((t.lrow.map one).getD i .none)) (fun i => ((t.lrow.take i).map fun d => AV.tup [nK d, one d], P ++ [.list []])) (fun i z_ => ?_) (fun i f hi => ?_) t.lrow.length 0 (Nat.zero_add _)).trans ?_
  · have := list_nth (i := i) (hT [.list []])
    rwa [List.length_map] at this
  · have hx : t.lrow[i]? = some t.lrow[i] := List.getElem?_eq_getElem hi
    generalize t.lrow[i] = x at hx
    have e1 : t.lrow.take (i + 1) = t.lrow.take i ++ [x] := by rw [List.take_add_one, hx]; rfl
    have e2 : (t.lrow.map one).getD i .none = one x := by rw [List.getD_eq_getElem?_getD, List.getElem?_map, hx]; rfl
    have i1 := item_num (hO x (hG.row x (List.mem_of_getElem? hx)) [.list []])
    rw [e1, e2, List.map_append]
    walk_at "w"; refine s_av i1 ?_; walk_at "w"; rfl
  · rw [List.take_length]
    walk_at "w"; refine s_res c1 ?_; walk_at "w"; refine s_walk ?_; walk_at "v"
    refine (key _ _ [] 0 (by decide) (by decide)).trans ?_
    rw [st, List.nil_append]
    have e0 : (if m ≤ (((nums t.lrow).filter fun p => has 0 (t.len p.2)).length : Int) then P ++ AO.list [.byt [97 + (0 : Nat).toUInt8]] :: AO.dict (wE t.lrow) :: [] else P ++ AO.list [] :: AO.dict (wE t.lrow) :: []) = P ++ AO.list (wl1 t m) :: AO.dict (wE t.lrow) :: [] := by
      unfold wl1 wcnt; split <;> rfl
    have e1 : (if m ≤ (((nums t.lrow).filter fun p => has 1 (t.len p.2)).length : Int) then P ++ AO.list (wl1 t m ++ [.byt [97 + (1 : Nat).toUInt8]]) :: AO.dict (wE t.lrow) :: [] else P ++ AO.list (wl1 t m) :: AO.dict (wE t.lrow) :: []) = P ++ AO.list (wl2 t m) :: AO.dict (wE t.lrow) :: [] := by
      unfold wl2 wcnt; split <;> rfl
    have e2 : (wl1 t m).length < 1000 := by unfold wl1; split <;> decide
    rw [e0]
    walk_at "w"; refine s_walk ?_; walk_at "v"
    refine (key _ _ (wl1 t m) 1 (by decide) e2).trans ?_
    rw [st, e1]
    walk_at "w"; refine s_walk ?_; walk_at "w"; rfl
theorem name_ok {n : Nat} (hn : 2 ≤ n) {P : Hp} {b : AV} : R n P (rf 124) [b] = some (.ok (mkT (.str "name") b) P) := by
  obtain ⟨n, rfl⟩ : ∃ k, n = k + 2 := ⟨n - 2, by omega⟩
  kernel_rfl
theorem int_ok {n : Nat} (hn : 2 ≤ n) {P : Hp} {c : Int} : R n P (rf 116) [.int c] = some (.ok (ith c) P) := by
  obtain ⟨n, rfl⟩ : ∃ k, n = k + 2 := ⟨n - 2, by omega⟩
  kernel_rfl
theorem ofd_ok {n : Nat} (hn : 2 ≤ n) {P : Hp} {d : Nat} : R n P (rf 138) [.ref (10 + 4 * d)] = some (.ok (dth d) P) := by
  obtain ⟨n, rfl⟩ : ∃ k, n = k + 2 := ⟨n - 2, by omega⟩
  kernel_rfl
theorem min_ok {n : Nat} (hn : 1 ≤ n) {P : Hp} {a b : Int} : R n P (.top (.builtin "min")) [.int a, .int b] = some (.ok (.int (if b < a then b else a)) P) := by
  obtain ⟨n, rfl⟩ := down n hn
  kernel_rfl
noncomputable def fi726 : FI := (finfo 726).getD noFI
noncomputable def rest726 : List Stmt := fi726.body.drop 2
noncomputable def okr : AV -> Hp -> Out := fun v P => some (.ok v P)
noncomputable def dloc (v : Int) (k : Nat) : Loc := L [("deck", .ref 2), ("memory", .ref 4), ("stack", .ref 34), ("w", .ref 36), ("way", .int v), ("row", .ref 37), ("thing", kth k), ("key", lkey k)]
theorem blk_congr {one one' : Stmt -> Loc -> Hp -> (Loc -> Hp -> Out) -> Out} {rest rest' : List Stmt} {l l' : Loc} {P : Hp} {kn kn' : Loc -> Hp -> Out} (h1 : one = one') (h2 : rest = rest') (h3 : l = l') (h4 : kn = kn') : blk one rest l P kn = blk one' rest' l' P kn' := by subst h1 h2 h3 h4; rfl
noncomputable def kr726 (r : CallR) (rest : List Stmt) (l : Loc) (P : Hp) : Out := blk (ex r ⟨cellNames fi726.scope.names, fi726.lam⟩ fi726.scope.names okr 12) rest l P (fun z_ P => some (.ok .none P))
theorem deed_pre {r : CallR} {t t1 t2 : ST} {v kv : Int} {k : Nat} (d1 : r (lay t) (rf 693) [.ref 2, .int 7] = some (.ok (.int v) (lay t1))) (d2 : r (lay t1) (rf 693) [.ref 2, .int 3] = some (.ok (.int kv) (lay t2))) (hk : kv = k) (h3 : k < 3)
    (c1 : ∀ P b, r P (rf 124) [b] = some (.ok (mkT (.str "name") b) P)) (c2 : ∀ P c, r P (rf 116) [.int c] = some (.ok (ith c) P)) :
    callB r (lay t) (rf 726) [.ref 2, .ref 4, .ref 34, .ref 36] = kr726 r rest726 (dloc v k) (lay t2) := by
  walk_at "w"; walk_at "w"; refine s_res d1 ?_; walk_at "w"
  have it : item (lay t2) (.lst [.tup [mkT (.str "name") (.byt [97]), .str "a"], .tup [mkT (.str "name") (.byt [98]), .str "b"], .tup [ith 7, .int 7]]) (.int kv) = some (.tup [kth k, lkey k]) := by
    subst hk
    match k, h3 with
    | 0, _ => rfl
    | 1, _ => rfl
    | 2, _ => rfl
  walk_at "w"; refine s_res (c1 _ _) ?_; walk_at "w"; refine s_res (c1 _ _) ?_; walk_at "w"; refine s_res (c2 _ _) ?_; walk_at "w"; refine s_res d2 ?_; walk_at "w"; refine s_av it ?_; walk_at "v"
  unfold kr726
  refine blk_congr ?_ ?_ ?_ ?_
  · rfl
  · rfl
  · rfl
  · rfl
structure Inv (t : ST) : Prop where
  good : Good t
  sync : Sync t
  lo : 3 ≤ t.row.length
  hi : t.row.length ≤ 6
  top : t.row.take 3 = [0, 1, 2]
  acc : ∀ d, t.acc d ≤ 3
  lf : 0 ≤ t.lf ∧ t.lf ≤ 1
  left : t.left.length < 100000
theorem more_at {t : ST} {j : Nat} (h : j < 3) {jv : Int} (hj : jv = j) : item (lay t) (.ref 38) (.int jv) = some (one (3 + j)) := by
  subst hj
  match j, h with
  | 0, _ => rfl
  | 1, _ => rfl
  | 2, _ => rfl
theorem tr_t {p : Prop} [Decidable p] (h : p) : truth (.bool (decide p)) = some true := congrArg some (decide_eq_true h)
theorem tr_f {p : Prop} [Decidable p] (h : ¬ p) : truth (.bool (decide p)) = some false := congrArg some (decide_eq_false h)
noncomputable def begT (t : ST) (d : Nat) : ST := if 2 ≤ t.acc d then (if 6 ≤ t.row.length then t else { t with row := t.row ++ [d], lrow := t.lrow ++ [d] }) else t
structure Con (r : CallR) : Prop where
  draw : ∀ (t : ST) (m : Int), 0 < m -> t.left.length < 100000 -> ∃ v l x, r (lay t) (rf 693) [.ref 2, .int m] = some (.ok (.int v) (lay { t with left := l, mx := x })) ∧ 0 ≤ v ∧ v < m ∧ l.length < 100000
  name : ∀ P b, r P (rf 124) [b] = some (.ok (mkT (.str "name") b) P)
  int : ∀ P c, r P (rf 116) [.int c] = some (.ok (ith c) P)
  ofd : ∀ P d, r P (rf 138) [.ref (10 + 4 * d)] = some (.ok (dth d) P)
  min : ∀ P a b, r P (.top (.builtin "min")) [.int a, .int b] = some (.ok (.int (if b < a then b else a)) P)
  len : ∀ t : ST, t.lrow.length < 100000 -> r (lay t) (.top (.builtin "len")) [.ref 37] = some (.ok (.int t.lrow.length) (lay t))
  begin_ : ∀ (t : ST) (d : Nat), Good t -> d < 6 -> r (lay t) (rf 298) [.ref 34, dth d] = some (if 2 ≤ t.acc d then (if 6 ≤ t.row.length then .exc bOver (lay t) else .ok .none (lay { t with row := t.row ++ [d] })) else .exc bInv (lay t))
  end_ : ∀ (t : ST) (d : Nat), Good t -> t.row.getLast? = some d -> r (lay t) (rf 305) [.ref 34] = some (if t.row.length ≤ 3 then .exc bUnder (lay t) else .ok (dth d) (lay { t with row := t.row.dropLast }))
  define : ∀ (t : ST) (d k : Nat) (c : Int), Good t -> k < 3 -> t.row.getLast? = some d -> r (lay t) (rf 340) [.ref 34, .ref 4, kth k, ith c] = some (putR t d k c)
  store : ∀ (t : ST) (d k : Nat) (c : Int), Good t -> k < 3 -> t.row.getLast? = some d -> r (lay t) (rf 347) [.ref 34, .ref 4, kth k, ith c] = some (match look t k with
    | .none => putR t d k c
    | some .none => .exc bInv (lay t)
    | some (some (d', _)) => putR t d' k c)
  lfound : ∀ (t : ST) (k : Nat), GoodL t -> k < 3 -> r (lay t) (rf 707) [.ref 37, lkey k] = some (.ok (lFound t k) (lay t))
  isput : ∀ (t : ST) (d k : Nat) (c : Int), GoodL t -> d < 6 -> k < 3 -> r (lay t) (rf 714) [one d, lkey k, .int c] = some (if t.lacc d < 3 then .ok (.tup [.none, bInv]) (lay t) else .ok (.tup [.none, .none]) (lay { t with len := upd t.len d (putl k c (t.len d)) }))
  search : ∀ (t : ST) (k : Nat), Good t -> Sync t -> k < 3 -> r (lay t) (rf 719) [.ref 34, .ref 37, kth k, lkey k] = some (.ok (.bool true) (lay t))
  access : ∀ (t : ST) (d : Nat) (a : Int), d < 6 -> a ≤ t.acc d -> r (lay t) (rf 564) [.ref 4, .ref (10 + 4 * d), .int a] = some (.ok .none (lay { t with acc := upd t.acc d a }))
theorem con_ok {n : Nat} (hn : 10 ≤ n) : Con (R n) where
  draw t m := draw_ok n (by omega) t m
  name P b := name_ok (by walk_at "o")
  int P c := int_ok (by walk_at "o")
  ofd P d := ofd_ok (by walk_at "o")
  min P a b := min_ok (by walk_at "o")
  len t h := by have := len_ok (n := n) (by walk_at "o") (P := lay t) (j := 37) (l := t.lrow.map one) rfl (by rwa [List.length_map]); rwa [List.length_map] at this
  begin_ t d h h6 := begin_ok (by walk_at "o") h h6
  end_ t d h h6 := end_ok (by walk_at "o") h h6
  define t d k c h h3 hd := define_ok (by walk_at "o") h h3 hd
  store t d k c h h3 hd := store_ok (by walk_at "o") h h3 hd
  lfound t k h h3 := lfound_ok (by walk_at "o") h h3
  isput t d k c h h6 h3 := isput_ok (by walk_at "o") h h6 h3
  search t k h hs h3 := search_ok hn h hs h3
  access t d a h6 ha := access_ok (by walk_at "o") h6 ha
theorem deed_0 {r : CallR} (C : Con r) {t t' : ST} {k j : Nat} {jv : Int} (hI : Inv t') (d3 : r (lay t) (rf 693) [.ref 2, .int 3] = some (.ok (.int jv) (lay t'))) (hj : jv = j) (h3 : j < 3) :
    kr726 r rest726 (dloc 0 k) (lay t) = some (.ok (.bool true) (lay (begT t' (3 + j)))) := by
  have it := more_at (t := t') h3 hj
  have hd : 3 + j < 6 := by omega
  have i1 := one_body (t := t') hd
  have i2 : ∀ x, item (lay { t' with row := x }) (one (3 + j)) (.str "access") = some (.int (t'.acc (3 + j))) := fun x => by rw [← hI.sync.acc]; exact one_acc hd
  have i2' : item (lay t') (one (3 + j)) (.str "access") = some (.int (t'.acc (3 + j))) := i2 t'.row
  have hi := hI.hi
  have hlr : t'.lrow.length = t'.row.length := by rw [hI.sync.row]
  have c1 := C.ofd
  have c2 := C.begin_ t' (3 + j) hI.good hd
  have c3' := C.len t' (by omega)
  have c3a : ∀ x, r (lay { t' with row := x }) (.top (.builtin "len")) [.ref 37] = some (.ok (.int t'.lrow.length) (lay { t' with row := x })) := fun x => C.len { t' with row := x } (show t'.lrow.length < 100000 by omega)
  clear C
  generalize 3 + j = d at *
  unfold kr726 begT
  walk_at "w"; refine s_res d3 ?_; walk_at "w"; refine s_av it ?_; walk_at "w"
  by_cases ha : 2 ≤ t'.acc d
  · rw [if_pos ha] at c2 ⊢
    by_cases hl : 6 ≤ t'.row.length
    · rw [if_pos hl] at c2 ⊢
      walk_at "w"; refine s_av i1 ?_; walk_at "w"; refine s_res (c1 _ _) ?_; walk_at "w"; refine s_exc c2 ?_; walk_at "w"; refine s_av i2' ?_; walk_at "w"; refine s_f (tr_f (by omega)) ?_; walk_at "w"; refine s_res c3' ?_; walk_at "w"; refine s_t (tr_t (by omega)) ?_; walk_at "w"; rfl
    · rw [if_neg hl] at c2 ⊢
      walk_at "w"; refine s_av i1 ?_; walk_at "w"; refine s_res (c1 _ _) ?_; walk_at "w"; refine s_res c2 ?_; walk_at "w"; refine s_av (i2 _) ?_; walk_at "w"; refine s_f (tr_f (by omega)) ?_; walk_at "w"; refine s_res (c3a _) ?_; walk_at "w"; refine s_f (tr_f (by omega)) ?_; walk_at "w"; refine s_dt (by simp; omega) ?_; walk_at "w"
      have st : (lay { t' with row := t'.row ++ [d] }).set 37 (.list (t'.lrow.map one ++ [one d])) = lay { t' with row := t'.row ++ [d], lrow := t'.lrow ++ [d] } := by
        rw [show t'.lrow.map one ++ [one d] = (t'.lrow ++ [d]).map one by simp]; rfl
      exact congrArg (fun P => some (Res.ok (.bool true) P)) st
  · rw [if_neg ha] at c2 ⊢
    walk_at "w"; refine s_av i1 ?_; walk_at "w"; refine s_res (c1 _ _) ?_; walk_at "w"; refine s_exc c2 ?_; walk_at "w"; refine s_av i2' ?_; walk_at "w"; refine s_t (tr_t (by omega)) ?_; walk_at "w"; rfl
theorem congrArg2 {α β γ : Type} (f : α -> β -> γ) {a a' : α} {b b' : β} (h : a = a') (h' : b = b') : f a b = f a' b' := by subst h h'; rfl
noncomputable def endT (t : ST) : ST := if t.row.length ≤ 3 then t else { t with row := t.row.dropLast, lrow := t.lrow.dropLast }
theorem deed_1 {r : CallR} (C : Con r) {t : ST} {k : Nat} (hI : Inv t) : kr726 r rest726 (dloc 1 k) (lay t) = some (.ok (.bool true) (lay (endT t))) := by
  have hi := hI.hi
  have lo := hI.lo
  obtain ⟨d, hd⟩ : ∃ d, t.row.getLast? = some d := by
    cases h : t.row.getLast? with
    | none => rw [List.getLast?_eq_none_iff.mp h] at lo; simp at lo
    | some d => exact ⟨d, rfl⟩
  have h6 : d < 6 := hI.good.row d (List.mem_of_getLast? hd)
  have hlr : t.lrow.length = t.row.length := by rw [hI.sync.row]
  have hld : t.lrow.getLast? = some d := by rw [hI.sync.row, hd]
  have c1 := C.end_ t d hI.good hd
  have c2 := C.len t (by omega)
  have c2' := C.len { t with row := t.row.dropLast } (show t.lrow.length < 100000 by omega)
  clear C
  unfold kr726 endT
  by_cases hl : t.row.length ≤ 3
  · rw [if_pos hl] at c1 ⊢
    walk_at "w"; refine s_exc c1 ?_; walk_at "w"; refine s_res c2 ?_; walk_at "w"; refine s_t (tr_t (by omega)) ?_; walk_at "w"; rfl
  · rw [if_neg hl] at c1 ⊢
    have hb := lay_body { t with row := t.row.dropLast } h6
    walk_at "w"; refine s_res c1 ?_; walk_at "w"; refine s_inst hb ?_; walk_at "w"
    have st : (lay { t with row := t.row.dropLast }).set 37 (.list (t.lrow.map one).dropLast) = lay { t with row := t.row.dropLast, lrow := t.lrow.dropLast } := by
      rw [show (t.lrow.map one).dropLast = t.lrow.dropLast.map one by rw [List.map_dropLast]]; rfl
    have hg : (t.lrow.map one).getLast? = some (one d) := by rw [List.getLast?_map, hld]; rfl
    have hn : item ((lay { t with row := t.row.dropLast }).set 37 (.list (t.lrow.map one).dropLast)) (one d) (.str "number") = some (.int (d + 1 : Nat)) := by rw [st]; exact one_num h6
    walk_at "w"; refine s_res c2' ?_; walk_at "w"; refine s_f (tr_f (show ¬ ((t.lrow.length : Int) = 3) by omega)) ?_; walk_at "w"; refine s_dt (show (t.lrow.map one).length < 100000 by rw [List.length_map]; omega) ?_; walk_at "w"; refine s_av hg ?_; walk_at "w"; refine s_av hn ?_; walk_at "w"
    have ht : (decide (((d + 1 : Nat) : Int) = ((d + 1 : Nat) : Int)) && (true && true)) = true := by simp
    exact congrArg2 (fun b P => some (Res.ok (.bool b) P)) ht st
theorem lrow_last {t : ST} {d : Nat} (h : t.lrow.getLast? = some d) (hz : t.lrow.length < 1000) : item (lay t) (.ref 37) (.int (-1)) = some (one d) := item_last (f := one) h hz
noncomputable def putT (t : ST) (d k : Nat) (c : Int) : ST := if t.acc d = 3 then { t with en := upd t.en d (putl k c (t.en d)), len := upd t.len d (putl k c (t.len d)) } else t
theorem deed_2 {r : CallR} (C : Con r) {t : ST} {k d : Nat} (h3 : k < 3) (hI : Inv t) (hd : t.row.getLast? = some d) (hI' : Good (putT { t with cnt := t.cnt + 1 } d k (t.cnt + 1)) ∧ Sync (putT { t with cnt := t.cnt + 1 } d k (t.cnt + 1))) :
    kr726 r rest726 (dloc 2 k) (lay t) = some (.ok (.bool true) (lay (putT { t with cnt := t.cnt + 1 } d k (t.cnt + 1)))) := by
  have hi := hI.hi
  have lo := hI.lo
  have h6 : d < 6 := hI.good.row d (List.mem_of_getLast? hd)
  have hld : t.lrow.getLast? = some d := by rw [hI.sync.row, hd]
  have ha := hI.acc d
  unfold putT at hI' ⊢
  have G1 : Good { t with cnt := t.cnt + 1 } := ⟨hI.good.row, hI.good.rl, hI.good.ks⟩
  have S1 : Sync { t with cnt := t.cnt + 1 } := ⟨hI.sync.row, hI.sync.acc, hI.sync.en⟩
  have c0 := C.int (lay { t with cnt := t.cnt + 1 }) (t.cnt + 1)
  have c1 := C.define { t with cnt := t.cnt + 1 } d k (t.cnt + 1) G1 h3 hd
  unfold putR at c1
  unfold kr726
  have lt : ∀ s : ST, s.lrow = t.lrow -> item (lay s) (.ref 37) (.int (-1)) = some (one d) := fun s hs => lrow_last (by rw [hs]; exact hld) (by rw [hs, hI.sync.row]; exact hI.good.rl)
  have GL : ∀ s : ST, s.lrow = t.lrow -> s.len = t.len -> GoodL s := fun s h1 h2 => ⟨by rw [h1, hI.sync.row]; exact hI.good.row, by rw [h1, hI.sync.row]; exact hI.good.rl, by rw [h2, hI.sync.en]; exact hI.good.ks⟩
  by_cases hc : t.acc d = 3
  · rw [if_pos hc] at c1
    rw [if_pos hc] at hI' ⊢
    have c2 := C.isput { t with cnt := t.cnt + 1, en := upd t.en d (putl k (t.cnt + 1) (t.en d)) } d k (t.cnt + 1) (GL _ rfl rfl) h6 h3
    rw [if_neg (show ¬ t.lacc d < 3 by rw [hI.sync.acc]; omega)] at c2
    have c3 := C.search _ k hI'.1 hI'.2 h3
    have l1 := lt { t with cnt := t.cnt + 1, en := upd t.en d (putl k (t.cnt + 1) (t.en d)) } rfl
    clear C
    walk_at "w"; refine s_res c0 ?_; walk_at "w"; refine s_res c1 ?_; walk_at "w"; refine s_av l1 ?_; walk_at "w"; refine s_res c2 ?_; walk_at "w"; refine s_res c3 ?_; walk_at "w"; rfl
  · rw [if_neg hc] at c1
    rw [if_neg hc] at hI' ⊢
    have c2 := C.isput { t with cnt := t.cnt + 1 } d k (t.cnt + 1) (GL _ rfl rfl) h6 h3
    rw [if_pos (show t.lacc d < 3 by rw [hI.sync.acc]; omega)] at c2
    have c3 := C.search _ k hI'.1 hI'.2 h3
    have l1 := lt { t with cnt := t.cnt + 1 } rfl
    clear C
    walk_at "w"; refine s_res c0 ?_; walk_at "w"; refine s_exc c1 ?_; walk_at "w"; refine s_av l1 ?_; walk_at "w"; refine s_res c2 ?_; walk_at "w"; refine s_res c3 ?_; walk_at "w"; rfl
theorem deed_3a {r : CallR} (C : Con r) {t : ST} {k d : Nat} {sv iv : AV} (h3 : k < 3) (hI : Inv t) (h6 : d < 6) (hI' : Good (putT { t with cnt := t.cnt + 1 } d k (t.cnt + 1)) ∧ Sync (putT { t with cnt := t.cnt + 1 } d k (t.cnt + 1)))
    (c1 : r (lay { t with cnt := t.cnt + 1 }) (rf 347) [.ref 34, .ref 4, kth k, ith (t.cnt + 1)] = some (putR { t with cnt := t.cnt + 1 } d k (t.cnt + 1)))
    (hf : lFound t k = sv) (hs : (sv = .none ∧ iv = .int (-1)) ∨ ∃ z, sv = .int z ∧ iv = .int z) (lt : ∀ s : ST, s.lrow = t.lrow -> item (lay s) (.ref 37) iv = some (one d)) :
    kr726 r rest726 (dloc 3 k) (lay t) = some (.ok (.bool true) (lay (putT { t with cnt := t.cnt + 1 } d k (t.cnt + 1)))) := by
  have ha := hI.acc d
  unfold putT at hI' ⊢
  have c0 := C.int (lay { t with cnt := t.cnt + 1 }) (t.cnt + 1)
  have GL : ∀ s : ST, s.lrow = t.lrow -> s.len = t.len -> GoodL s := fun s h1 h2 => ⟨by rw [h1, hI.sync.row]; exact hI.good.row, by rw [h1, hI.sync.row]; exact hI.good.rl, by rw [h2, hI.sync.en]; exact hI.good.ks⟩
  unfold putR at c1
  unfold kr726
  by_cases hc : t.acc d = 3
  · rw [if_pos hc] at c1
    rw [if_pos hc] at hI' ⊢
    have c2 := C.isput { t with cnt := t.cnt + 1, en := upd t.en d (putl k (t.cnt + 1) (t.en d)) } d k (t.cnt + 1) (GL _ rfl rfl) h6 h3
    rw [if_neg (show ¬ t.lacc d < 3 by rw [hI.sync.acc]; omega)] at c2
    have c3 := C.search _ k hI'.1 hI'.2 h3
    have c4 := C.lfound { t with cnt := t.cnt + 1, en := upd t.en d (putl k (t.cnt + 1) (t.en d)) } k (GL _ rfl rfl) h3
    rw [show lFound { t with cnt := t.cnt + 1, en := upd t.en d (putl k (t.cnt + 1) (t.en d)) } k = sv from hf] at c4
    have l1 := lt { t with cnt := t.cnt + 1, en := upd t.en d (putl k (t.cnt + 1) (t.en d)) } rfl
    clear C
    rcases hs with ⟨rfl, rfl⟩ | ⟨z, rfl, rfl⟩
    all_goals
      walk_at "w"; refine s_res c0 ?_; walk_at "w"; refine s_res c1 ?_; walk_at "w"; refine s_res c4 ?_; walk_at "w"; refine s_av l1 ?_; walk_at "w"; refine s_res c2 ?_; walk_at "w"; walk_at "w"; refine s_res c3 ?_; walk_at "w"; rfl
  · rw [if_neg hc] at c1
    rw [if_neg hc] at hI' ⊢
    have c2 := C.isput { t with cnt := t.cnt + 1 } d k (t.cnt + 1) (GL _ rfl rfl) h6 h3
    rw [if_pos (show t.lacc d < 3 by rw [hI.sync.acc]; omega)] at c2
    have c3 := C.search _ k hI'.1 hI'.2 h3
    have c4 := C.lfound { t with cnt := t.cnt + 1 } k (GL _ rfl rfl) h3
    rw [show lFound { t with cnt := t.cnt + 1 } k = sv from hf] at c4
    have l1 := lt { t with cnt := t.cnt + 1 } rfl
    clear C
    rcases hs with ⟨rfl, rfl⟩ | ⟨z, rfl, rfl⟩
    all_goals
      walk_at "w"; refine s_res c0 ?_; walk_at "w"; refine s_exc c1 ?_; walk_at "w"; refine s_res c4 ?_; walk_at "w"; refine s_av l1 ?_; walk_at "w"; refine s_res c2 ?_; walk_at "w"; walk_at "w"; refine s_res c3 ?_; walk_at "w"; rfl
theorem deed_3b {r : CallR} (C : Con r) {t : ST} {k : Nat} (h3 : k < 3) (hI : Inv t)
    (c1 : r (lay { t with cnt := t.cnt + 1 }) (rf 347) [.ref 34, .ref 4, kth k, ith (t.cnt + 1)] = some (.exc bInv (lay { t with cnt := t.cnt + 1 }))) (hf : lFound t k = .str "closed") :
    kr726 r rest726 (dloc 3 k) (lay t) = some (.ok (.bool true) (lay { t with cnt := t.cnt + 1 })) := by
  have G1 : Good { t with cnt := t.cnt + 1 } := ⟨hI.good.row, hI.good.rl, hI.good.ks⟩
  have S1 : Sync { t with cnt := t.cnt + 1 } := ⟨hI.sync.row, hI.sync.acc, hI.sync.en⟩
  have c0 := C.int (lay { t with cnt := t.cnt + 1 }) (t.cnt + 1)
  have c3 := C.search _ k G1 S1 h3
  have c4 := C.lfound { t with cnt := t.cnt + 1 } k (G1.law S1) h3
  rw [show lFound { t with cnt := t.cnt + 1 } k = .str "closed" from hf] at c4
  clear C
  unfold kr726
  walk_at "w"; refine s_res c0 ?_; walk_at "w"; refine s_exc c1 ?_; walk_at "w"; refine s_res c4 ?_; walk_at "w"; walk_at "w"; refine s_res c3 ?_; walk_at "w"; rfl
theorem deed_45 {r : CallR} (C : Con r) {t : ST} {k : Nat} {v : Int} (hv : v = 4 ∨ v = 5) (h3 : k < 3) (hI : Inv t) : kr726 r rest726 (dloc v k) (lay t) = some (.ok (.bool true) (lay { t with cnt := t.cnt + 1 })) := by
  have G1 : Good { t with cnt := t.cnt + 1 } := ⟨hI.good.row, hI.good.rl, hI.good.ks⟩
  have S1 : Sync { t with cnt := t.cnt + 1 } := ⟨hI.sync.row, hI.sync.acc, hI.sync.en⟩
  have c3 := C.search _ k G1 S1 h3
  clear C
  unfold kr726
  rcases hv with rfl | rfl
  all_goals
    walk_at "w"; refine s_res c3 ?_; walk_at "w"; rfl
theorem upd_at {α : Type} (f : Nat -> α) (d : Nat) (v : α) : upd f d v d = v := if_pos rfl
theorem deed_6 {r : CallR} (C : Con r) {t : ST} {k j : Nat} {jv av : Int} {l l' : List Int} {x x' : Int} (hI : Inv t) (hp : 0 < t.lf)
    (d3 : r (lay { t with cnt := t.cnt + 1 }) (rf 693) [.ref 2, .int 3] = some (.ok (.int jv) (lay { t with cnt := t.cnt + 1, left := l, mx := x }))) (hj : jv = j) (h3 : j < 3)
    (d4 : r (lay { t with cnt := t.cnt + 1, left := l, mx := x, lf := t.lf - 1 }) (rf 693) [.ref 2, .int 3] = some (.ok (.int av) (lay { t with cnt := t.cnt + 1, left := l', mx := x', lf := t.lf - 1 }))) (ha : 0 ≤ av ∧ av < 3)
    {m : Int} (hm : m = if av < t.acc (3 + j) then av else t.acc (3 + j)) :
    kr726 r rest726 (dloc 6 k) (lay t) = some (.ok (.bool true) (lay { t with cnt := t.cnt + 1, left := l', mx := x', lf := t.lf - 1, acc := upd t.acc (3 + j) m, lacc := upd t.lacc (3 + j) m })) := by
  have it := more_at (t := { t with cnt := t.cnt + 1, left := l, mx := x }) h3 hj
  have hd : 3 + j < 6 := by omega
  generalize 3 + j = d at *
  have hma : m ≤ t.acc d := by rw [hm]; split <;> omega
  have i2 : item (lay { t with cnt := t.cnt + 1, left := l, mx := x, lf := t.lf - 1 }) (one d) (.str "access") = some (.int (t.acc d)) := by rw [← hI.sync.acc]; exact one_acc hd
  have i3 : item (lay { t with cnt := t.cnt + 1, left := l', mx := x', lf := t.lf - 1 }) (.lst [.int 0, .int 1, .int 2]) (.int av) = some (.int av) := by
    have : av = 0 ∨ av = 1 ∨ av = 2 := by omega
    rcases this with rfl | rfl | rfl <;> rfl
  have c1 := C.min (lay { t with cnt := t.cnt + 1, left := l', mx := x', lf := t.lf - 1 }) (t.acc d) av
  rw [← hm] at c1
  have ho := lay_one { t with cnt := t.cnt + 1, left := l', mx := x', lf := t.lf - 1 } hd
  have st := set_one { t with cnt := t.cnt + 1, left := l', mx := x', lf := t.lf - 1 } hd m
  have i4 : item (lay { t with cnt := t.cnt + 1, left := l', mx := x', lf := t.lf - 1, lacc := upd t.lacc d m }) (one d) (.str "body") = some (.ref (10 + 4 * d)) := one_body hd
  have i5 : item (lay { t with cnt := t.cnt + 1, left := l', mx := x', lf := t.lf - 1, lacc := upd t.lacc d m }) (one d) (.str "access") = some (.int m) := by
    rw [one_acc hd]; exact congrArg (fun z => some (AV.int z)) (upd_at _ _ _)
  have c2 := C.access { t with cnt := t.cnt + 1, left := l', mx := x', lf := t.lf - 1, lacc := upd t.lacc d m } d m hd hma
  clear C
  unfold kr726
  walk_at "w"; refine s_t (tr_t hp) ?_; walk_at "w"; refine s_res d3 ?_; walk_at "w"; refine s_av it ?_; walk_at "w"; refine s_av i2 ?_; walk_at "w"; refine s_res d4 ?_; walk_at "w"; refine s_av i3 ?_; walk_at "w"; refine s_res c1 ?_; walk_at "w"; refine s_dict ho ?_; walk_at "v"; refine blk_heap st ?_; walk_at "w"; refine s_av i4 ?_; walk_at "w"; refine s_av i5 ?_; walk_at "w"; refine s_res c2 ?_; walk_at "w"; rfl
theorem deed_6n {r : CallR} (C : Con r) {t : ST} {k : Nat} (h3 : k < 3) (hI : Inv t) (hp : ¬ 0 < t.lf) : kr726 r rest726 (dloc 6 k) (lay t) = some (.ok (.bool true) (lay { t with cnt := t.cnt + 1 })) := by
  have G1 : Good { t with cnt := t.cnt + 1 } := ⟨hI.good.row, hI.good.rl, hI.good.ks⟩
  have S1 : Sync { t with cnt := t.cnt + 1 } := ⟨hI.sync.row, hI.sync.acc, hI.sync.en⟩
  have c3 := C.search _ k G1 S1 h3
  clear C
  unfold kr726
  walk_at "w"; refine s_f (tr_f hp) ?_; walk_at "w"; refine s_res c3 ?_; walk_at "w"; rfl
theorem Inv.same {t : ST} (h : Inv t) {l : List Int} (hl : l.length < 100000) (x c : Int) : Inv { t with left := l, mx := x, cnt := c } :=
  ⟨⟨h.good.row, h.good.rl, h.good.ks⟩, ⟨h.sync.row, h.sync.acc, h.sync.en⟩, h.lo, h.hi, h.top, h.acc, h.lf, hl⟩
theorem Inv.beg {t : ST} (h : Inv t) {d : Nat} (hd : d < 6) : Inv (begT t d) := by
  have hi := h.hi
  have lo := h.lo
  unfold begT
  split
  · split
    · exact h
    · refine ⟨⟨fun e he => ?_, ?_, h.good.ks⟩, ⟨?_, h.sync.acc, h.sync.en⟩, ?_, ?_, ?_, h.acc, h.lf, h.left⟩
      · rcases List.mem_append.mp he with he | he
        · exact h.good.row e he
        · rw [List.mem_singleton.mp he]; exact hd
      · show (t.row ++ [d]).length < 1000
        rw [List.length_append, List.length_singleton]; omega
      · show t.lrow ++ [d] = t.row ++ [d]
        rw [h.sync.row]
      · show 3 ≤ (t.row ++ [d]).length
        rw [List.length_append, List.length_singleton]; omega
      · show (t.row ++ [d]).length ≤ 6
        rw [List.length_append, List.length_singleton]; omega
      · show (t.row ++ [d]).take 3 = _
        rw [List.take_append_of_le_length lo, h.top]
  · exact h
theorem Inv.end {t : ST} (h : Inv t) : Inv (endT t) := by
  have hi := h.hi
  have lo := h.lo
  unfold endT
  split
  · exact h
  · refine ⟨⟨fun e he => h.good.row e (List.dropLast_subset _ he), ?_, h.good.ks⟩, ⟨?_, h.sync.acc, h.sync.en⟩, ?_, ?_, ?_, h.acc, h.lf, h.left⟩
    · show t.row.dropLast.length < 1000
      rw [List.length_dropLast]; omega
    · show t.lrow.dropLast = t.row.dropLast
      rw [h.sync.row]
    · show 3 ≤ t.row.dropLast.length
      rw [List.length_dropLast]; omega
    · show t.row.dropLast.length ≤ 6
      rw [List.length_dropLast]; omega
    · show t.row.dropLast.take 3 = _
      rw [List.dropLast_eq_take, List.take_take, Nat.min_eq_left (by omega), h.top]
theorem Inv.put {t : ST} (h : Inv t) {d k : Nat} (h3 : k < 3) (c : Int) : Inv (putT t d k c) := by
  unfold putT
  split
  · refine ⟨⟨h.good.row, h.good.rl, fun e => ?_⟩, ⟨h.sync.row, h.sync.acc, ?_⟩, h.lo, h.hi, h.top, h.acc, h.lf, h.left⟩
    · show Ks (upd t.en d (putl k c (t.en d)) e)
      unfold upd
      split
      · exact putl_ks h3 (h.good.ks d)
      · exact h.good.ks e
    · show upd t.len d (putl k c (t.len d)) = upd t.en d (putl k c (t.en d))
      rw [h.sync.en]
  · exact h
theorem Inv.down {t : ST} (h : Inv t) {d : Nat} {m : Int} (hm : m ≤ 3) (hp : 0 < t.lf) : Inv { t with lf := t.lf - 1, acc := upd t.acc d m, lacc := upd t.lacc d m } := by
  have hl := h.lf
  refine ⟨⟨h.good.row, h.good.rl, h.good.ks⟩, ⟨h.sync.row, ?_, h.sync.en⟩, h.lo, h.hi, h.top, fun e => ?_, ⟨?_, ?_⟩, h.left⟩
  · show upd t.lacc d m = upd t.acc d m
    rw [h.sync.acc]
  · show upd t.acc d m e ≤ 3
    unfold upd
    split
    · exact hm
    · exact h.acc e
  · show 0 ≤ t.lf - 1; omega
  · show t.lf - 1 ≤ 1; omega
theorem lrow_down {s : ST} {i d : Nat} (h : s.lrow.reverse[i]? = some d) (hz : s.lrow.length < 1000) : item (lay s) (.ref 37) (.int ((s.lrow.length : Int) - 1 - i)) = some (one d) := down_item (f := one) h hz
theorem seven : ∀ w : Nat, w < 7 -> ((w : Int) = 0 ∨ (w : Int) = 1 ∨ (w : Int) = 2 ∨ (w : Int) = 3 ∨ ((w : Int) = 4 ∨ (w : Int) = 5) ∨ (w : Int) = 6) := by decide
theorem deed_ok {r : CallR} (C : Con r) {t : ST} (hI : Inv t) : ∃ t', callB r (lay t) (rf 726) [.ref 2, .ref 4, .ref 34, .ref 36] = some (.ok (.bool true) (lay t')) ∧ Inv t' := by
  obtain ⟨v, l1, x1, d1, v0, v7, hl1⟩ := C.draw t 7 (by decide) hI.left
  obtain ⟨kv, l2, x2, d2, k0, k3, hl2⟩ := C.draw { t with left := l1, mx := x1 } 3 (by decide) hl1
  have I2 : Inv { t with left := l2, mx := x2 } := hI.same hl2 x2 t.cnt
  obtain ⟨k, rfl⟩ : ∃ k : Nat, kv = k := ⟨kv.toNat, by omega⟩
  have h3 : k < 3 := by omega
  have I3 : Inv { t with left := l2, mx := x2, cnt := t.cnt + 1 } := hI.same hl2 x2 (t.cnt + 1)
  rw [deed_pre d1 d2 rfl h3 C.name C.int]
  obtain ⟨e, he⟩ : ∃ e, t.row.getLast? = some e := by
    have lo := hI.lo
    cases h : t.row.getLast? with
    | none => rw [List.getLast?_eq_none_iff.mp h] at lo; simp at lo
    | some d => exact ⟨d, rfl⟩
  have hv : v = 0 ∨ v = 1 ∨ v = 2 ∨ v = 3 ∨ (v = 4 ∨ v = 5) ∨ v = 6 := Int.toNat_of_nonneg v0 ▸ seven _ (Int.ofNat_lt.mp (Int.toNat_of_nonneg v0 ▸ v7))
  rcases hv with rfl | rfl | rfl | rfl | hv | rfl
  · obtain ⟨jv, l3, x3, d3, j0, j3, hl3⟩ := C.draw { t with left := l2, mx := x2 } 3 (by decide) hl2
    obtain ⟨j, rfl⟩ : ∃ j : Nat, jv = j := ⟨jv.toNat, by omega⟩
    have I4 : Inv { t with left := l3, mx := x3 } := hI.same hl3 x3 t.cnt
    exact ⟨_, deed_0 C I4 d3 rfl (by omega), I4.beg (by omega)⟩
  · exact ⟨_, deed_1 C I2, I2.end⟩
  · have I5 := I3.put (d := e) h3 (t.cnt + 1)
    exact ⟨_, deed_2 C h3 I2 he ⟨I5.good, I5.sync⟩, I5⟩
  · have G3 := I3.good
    have c1 := C.store { t with left := l2, mx := x2, cnt := t.cnt + 1 } e k (t.cnt + 1) G3 h3 he
    have hf := lfound_look I2.sync (k := k)
    cases hl : look { t with left := l2, mx := x2 } k with
    | none =>
      rw [hl] at hf
      rw [show look { t with left := l2, mx := x2, cnt := t.cnt + 1 } k = .none from hl] at c1
      have I5 := I3.put (d := e) h3 (t.cnt + 1)
      exact ⟨_, deed_3a C h3 I2 (hI.good.row e (List.mem_of_getLast? he)) ⟨I5.good, I5.sync⟩ c1 hf (.inl ⟨rfl, rfl⟩) (fun s hs => lrow_last (by rw [hs]; show t.lrow.getLast? = _; rw [hI.sync.row, he]) (by rw [hs]; show t.lrow.length < 1000; rw [hI.sync.row]; exact hI.good.rl)), I5⟩
    | some y =>
      rw [hl] at hf
      rw [show look { t with left := l2, mx := x2, cnt := t.cnt + 1 } k = some y from hl] at c1
      cases y with
      | none => exact ⟨_, deed_3b C h3 I2 c1 hf, I3⟩
      | some p =>
        obtain ⟨d, c⟩ := p
        obtain ⟨i, h1, h2⟩ := hf
        have I5 := I3.put (d := d) h3 (t.cnt + 1)
        exact ⟨_, deed_3a C h3 I2 (hI.good.row d (look_mem hl).1) ⟨I5.good, I5.sync⟩ c1 h2 (.inr ⟨_, rfl, rfl⟩) (fun s hs => by
          have : s.lrow.reverse[i]? = some d := by rw [hs]; exact h1
          have := lrow_down this (by rw [hs]; show t.lrow.length < 1000; rw [hI.sync.row]; exact hI.good.rl)
          rw [hs] at this
          exact this), I5⟩
  · exact ⟨_, deed_45 C hv h3 I2, I3⟩
  · by_cases hp : 0 < t.lf
    · obtain ⟨jv, l3, x3, d3, j0, j3, hl3⟩ := C.draw { t with left := l2, mx := x2, cnt := t.cnt + 1 } 3 (by decide) hl2
      obtain ⟨av, l4, x4, d4, a0, a3, hl4⟩ := C.draw { t with left := l3, mx := x3, cnt := t.cnt + 1, lf := t.lf - 1 } 3 (by decide) hl3
      obtain ⟨j, rfl⟩ : ∃ j : Nat, jv = j := ⟨jv.toNat, by omega⟩
      have I6 : Inv { t with left := l4, mx := x4, cnt := t.cnt + 1 } := hI.same hl4 x4 (t.cnt + 1)
      refine ⟨_, deed_6 C I2 hp d3 rfl (by omega) d4 ⟨a0, a3⟩ rfl, I6.down ?_ hp⟩
      have := hI.acc (3 + j)
      show (if av < t.acc (3 + j) then av else t.acc (3 + j)) ≤ 3
      split <;> omega
    · exact ⟨_, deed_6n C h3 I2 hp, I3⟩
theorem eqs2_nK (l : List Nat) : eqs2 (l.map nK) (l.map nK) = some true := by
  induction l with
  | nil => rfl
  | cons d l ih =>
    show (some (decide (((d + 1 : Nat) : Int) = ((d + 1 : Nat) : Int)))).bind (fun t => (eqs2 (l.map nK) (l.map nK)).map (t && ·)) = _
    rw [decide_eq_true rfl, ih]; rfl
theorem ne_nK {P : Hp} (l : List Nat) : cmp1 P .NotEq (.lst (l.map nK)) (.lst (l.map nK)) = some false := by
  show (if (l.map nK).length = (l.map nK).length then eqs2 (l.map nK) (l.map nK) else some false).map (fun b => !b) = _
  rw [if_pos rfl, eqs2_nK]; rfl
theorem eq_nK {P : Hp} (l : List Nat) : cmp1 P .Eq (.lst (l.map nK)) (.lst (l.map nK)) = some true := by
  show (if (l.map nK).length = (l.map nK).length then eqs2 (l.map nK) (l.map nK) else some false) = _
  rw [if_pos rfl, eqs2_nK]
theorem ints_nK (l : List Nat) : intsOf (l.map nK) = some (l.map fun d => ((d + 1 : Nat) : Int)) := by
  induction l with
  | nil => rfl
  | cons d l ih =>
    show (intsOf (l.map nK)).map _ = _
    rw [ih]; rfl
theorem in_nK {P : Hp} (l : List Nat) (d : Nat) : cmp1 P .In (nK d) (.lst (l.map nK)) = some (decide (d ∈ l)) := by
  show (match AV.int ((d + 1 : Nat) : Int), intsOf (l.map nK) with | .int i, some l => some (l.contains i) | _, _ => .none) = _
  rw [ints_nK]
  show some _ = _
  congr 1
  rw [Bool.eq_iff_iff, List.contains_iff_mem, decide_eq_true_iff, List.mem_map]
  exact ⟨fun ⟨a, h, e⟩ => by have : a = d := by omega
                             exact this ▸ h, fun h => ⟨d, h, rfl⟩⟩
theorem lrow_back {t : ST} {i d : Nat} (h : t.lrow.reverse[i]? = some d) (hz : t.lrow.length < 1000) : item (lay t) (.ref 37) (.int (-1 - (i : Int))) = some (one d) := back_at (f := one) h hz
theorem ones_at {t : ST} {j : Nat} (h : j < 6) {jv : Int} (hj : jv = j) : item (lay t) (.ref 9) (.int jv) = some (one j) := by
  subst hj
  match j, h with
  | 0, _ => rfl
  | 1, _ => rfl
  | 2, _ => rfl
  | 3, _ => rfl
  | 4, _ => rfl
  | 5, _ => rfl
theorem lst_nth {P : Hp} {i : Nat} {l : List AV} : nthL P (.av (.lst l)) l.length i = some (if i < l.length then some (.av (l.getD i .none)) else .none) := by
  show (some l[i]?).map (fun (x : Option AV) => x.map LV.av) = _
  by_cases hi : i < l.length
  · rw [if_pos hi]; simp [List.getElem?_eq_getElem hi]
  · rw [if_neg hi]; simp [List.getElem?_eq_none (Nat.not_lt.mp hi)]
theorem step_at {α : Type} {F : α -> AV} {l : List α} {i : Nat} (hi : i < l.length) : ∃ x, (l.map F).getD i .none = F x ∧ l.take (i + 1) = l.take i ++ [x] ∧ x ∈ l := by
  have hx : l[i]? = some l[i] := List.getElem?_eq_getElem hi
  exact ⟨l[i], by rw [List.getD_eq_getElem?_getD, List.getElem?_map, hx]; rfl, by rw [List.take_add_one, hx]; rfl, List.mem_of_getElem? hx⟩
noncomputable def strB (b : Bool) : AV := .str (if b then Str.ofString "True" else Str.ofString "False")
structure Con2 (r : CallR) : Prop extends Con r where
  deed : ∀ t : ST, Inv t -> ∃ t', r (lay t) (rf 726) [.ref 2, .ref 4, .ref 34, .ref 36] = some (.ok (.bool true) (lay t')) ∧ Inv t'
  tolist : ∀ t : ST, Good t -> r (lay t) (rf 286) [.ref 34] = some (.ok (.lst (t.row.map dth)) (lay t))
  many : ∀ t : ST, Good t -> r (lay t) (rf 264) [.ref 34] = some (.ok (.int t.row.length) (lay t))
  cur : ∀ (t : ST) (d : Nat), Good t -> t.row.getLast? = some d -> r (lay t) (rf 272) [.ref 34] = some (.ok (dth d) (lay t))
  at_ : ∀ (t : ST) (i : Nat), Good t -> r (lay t) (rf 279) [.ref 34, .int i] = some (match t.row.reverse[i]? with
    | some d => .ok (dth d) (lay t)
    | .none => .exc bRange (lay t))
  holds : ∀ (t : ST) (d : Nat), Good t -> d < 6 -> r (lay t) (rf 291) [.ref 34, .ref (10 + 4 * d)] = some (.ok (.bool (decide (d ∈ t.row))) (lay t))
  repr : ∀ P b, r P (.top (.builtin "repr")) [.bool b] = some (.ok (strB b) P)
theorem con2_ok {n : Nat} (hn : 11 ≤ n) : Con2 (R n) where
  toCon := con_ok (by walk_at "o")
  deed t h := by
    obtain ⟨n, rfl⟩ := down n (show 1 ≤ n by walk_at "o")
    exact deed_ok (con_ok (by walk_at "o")) h
  tolist t h := tolist_ok (by walk_at "o") h
  many t h := many_ok (by walk_at "o") h
  cur t d h hd := cur_ok (by walk_at "o") h hd
  at_ t i h := at_ok (by walk_at "o") h
  holds t d h h6 := holds_row (by omega) h h6
  repr P b := by
    obtain ⟨n, rfl⟩ := down n (show 1 ≤ n by walk_at "o")
    rfl
noncomputable def fi736 : FI := (finfo 736).getD noFI
noncomputable def body736 : List Stmt := match (fi736.body[5]? : Option Stmt) with
  | some (Stmt.For _ _ b _ _) => b
  | _ => []
noncomputable def lbase (s : AV) (tl : List (String × AV)) : Loc := L ([("script", s), ("deck", .ref 2), ("memory", .ref 4), ("ones", .ref 9), ("k", .int 5), ("body", .ref 30), ("stack", .ref 34), ("w", .ref 36)] ++ tl)
theorem go_body {r : CallR} (C : Con2 r) {t0 : ST} (hI : Inv t0) {s g : AV} {f : Loc -> Hp -> Out} {l : Loc} (hl : l = lbase s [("go", g)] ∨ ∃ x y z, l = lbase s [("go", g), ("spot", x), ("one", y), ("told", z)]) : ∃ l' t', Inv t' ∧ (∃ x y z, l' = lbase s [("go", g), ("spot", x), ("one", y), ("told", z)]) ∧
    blk (ex r ⟨cellNames fi736.scope.names, fi736.lam⟩ fi736.scope.names okr 11) body736 l (lay t0) f = f l' (lay t') := by
  obtain ⟨t, c1, hI⟩ := C.deed t0 hI
  have lo := hI.lo
  have hi := hI.hi
  obtain ⟨e, he⟩ : ∃ e, t.row.getLast? = some e := by
    cases h : t.row.getLast? with
    | none => rw [List.getLast?_eq_none_iff.mp h] at lo; simp at lo
    | some d => exact ⟨d, rfl⟩
  have c2 := C.tolist t hI.good
  have c3 := C.many t hI.good
  have c4 := C.cur t e hI.good he
  obtain ⟨iv, l2, x2, d2, i0, i8, hl2⟩ := C.draw t 8 (by decide) hI.left
  obtain ⟨jv, l3, x3, d3, j0, j6, hl3⟩ := C.draw { t with left := l2, mx := x2 } 6 (by decide) hl2
  have I3 : Inv { t with left := l3, mx := x3 } := hI.same hl3 x3 t.cnt
  obtain ⟨i, hiv⟩ : ∃ i : Nat, iv = i := ⟨iv.toNat, by omega⟩
  obtain ⟨j, hj⟩ : ∃ j : Nat, jv = j := ⟨jv.toNat, by omega⟩
  have h6 : j < 6 := by omega
  have he6 : e < 6 := hI.good.row e (List.mem_of_getLast? he)
  have hlr : t.lrow.length = t.row.length := by rw [hI.sync.row]
  have it := ones_at (t := { t with left := l3, mx := x3 }) (j := j) (by omega) hj
  have c5 : r (lay { t with left := l3, mx := x3 }) (rf 279) [.ref 34, .int iv] = some (match t.row.reverse[i]? with
    | some d => .ok (dth d) (lay { t with left := l3, mx := x3 })
    | .none => .exc bRange (lay { t with left := l3, mx := x3 })) := by
    rw [hiv]; exact C.at_ { t with left := l3, mx := x3 } i I3.good
  have c6 := C.holds { t with left := l3, mx := x3 } j I3.good h6
  have c7 := C.repr
  have c8 := C.len t (by omega)
  have c9 := C.len { t with left := l3, mx := x3 } (show t.lrow.length < 100000 by omega)
  have hb := lay_body t he6
  have i1 := lrow_last (t := t) (d := e) (by rw [hI.sync.row, he]) (by omega)
  have i2 := one_num (t := t) he6
  have hz : (t.row.map dth).length < 100000 := by rw [List.length_map]; omega
  have hzl : (t.lrow.map one).length < 100000 := by rw [List.length_map]; omega
  have f1 : ∀ (P : Hp), cmp1 P .NotEq (.lst (t.row.map nK)) (.lst (t.lrow.map nK)) = some false := fun P => by rw [hI.sync.row]; exact ne_nK _
  have f2 : ∀ x : Int, truth (.bool (!decide (x = x))) = some false := fun x => congrArg (fun b => some (!b)) (decide_eq_true rfl)
  have f3 : truth (.bool (!decide ((t.row.length : Int) = t.lrow.length))) = some false := by rw [hlr]; exact f2 _
  have f4 : ∀ x : Int, truth (.bool (!(decide (x = x) && (true && true)))) = some false := fun x => by rw [decide_eq_true rfl]; rfl
  have f5 : ∀ P : Hp, cmp1 P .In (nK j) (.lst (t.lrow.map nK)) = some (decide (j ∈ t.row)) := fun P => by rw [hI.sync.row]; exact in_nK _ _
  have i5 := one_body (t := { t with left := l3, mx := x3 }) h6
  have i6 := one_num (t := { t with left := l3, mx := x3 }) h6
  have f6 : ∀ x : Str, truth (.bool (!decide (x = x))) = some false := fun x => congrArg (fun b => some (!b)) (decide_eq_true rfl)
  clear C
  obtain ⟨tl, tl2, rfl, q1, q2⟩ : ∃ tl tl2, l = lbase s [("go", g)] ++ tl ∧ (∀ a b, sput "one" (.av b) (sput "spot" (.av a) (lbase s [("go", g)] ++ tl)) = lbase s [("go", g), ("spot", a), ("one", b)] ++ tl2) ∧
      ∀ a b c, sput "told" (.av c) (lbase s [("go", g), ("spot", a), ("one", b)] ++ tl2) = lbase s [("go", g), ("spot", a), ("one", b), ("told", c)] := by
    rcases hl with rfl | ⟨x, y, z, rfl⟩
    · exact ⟨[], [], rfl, fun z_ z_ => rfl, fun z_ z_ z_ => rfl⟩
    · exact ⟨L [("spot", x), ("one", y), ("told", z)], L [("told", z)], rfl, fun z_ z_ => rfl, fun z_ z_ z_ => rfl⟩
  have key : ∃ z, blk (ex r ⟨cellNames fi736.scope.names, fi736.lam⟩ fi736.scope.names okr 11) (body736.drop 6) (lbase s [("go", g), ("spot", .int iv), ("one", one j), ("told", z)]) (lay { t with left := l3, mx := x3 }) f = blk (ex r ⟨cellNames fi736.scope.names, fi736.lam⟩ fi736.scope.names okr 11) (body736.drop 4) (lbase s [("go", g), ("spot", .int iv), ("one", one j)] ++ tl2) (lay { t with left := l3, mx := x3 }) f := by
    cases hd : t.row.reverse[i]? with
    | some d =>
      rw [hd] at c5
      dsimp only at c5
      have hil : i < t.row.length := by have := (List.getElem?_eq_some_iff.mp hd).1; rwa [List.length_reverse] at this
      have hlt : iv < (t.lrow.length : Int) := by omega
      have hd6 : d < 6 := hI.good.row d (by have := List.mem_of_getElem? hd; simpa using this)
      have hbd := lay_body { t with left := l3, mx := x3 } hd6
      have i3 : item (lay { t with left := l3, mx := x3 }) (.ref 37) (.int (-1 - iv)) = some (one d) := by rw [hiv]; exact lrow_back (by rw [hI.sync.row]; exact hd) (show t.lrow.length < 1000 by omega)
      have i4 := one_num (t := { t with left := l3, mx := x3 }) hd6
      refine ⟨.tup [nK d, .none], Eq.symm ?_⟩
      walk_at "w"; refine s_res c5 ?_; walk_at "w"; refine s_inst hbd ?_; walk_at "v"; refine blk_loc (q2 _ _ _) ?_; walk_at "w"; refine s_res c9 ?_; walk_at "w"; refine s_t (tr_t hlt) ?_; walk_at "w"; refine s_av i3 ?_; walk_at "w"; refine s_av i4 ?_; walk_at "w"; refine s_f (f4 _) ?_; walk_at "v"; refine s_nil ?_; walk_at "v"; rfl
    | none =>
      rw [hd] at c5
      dsimp only at c5
      have hil : t.row.length ≤ i := by have := List.getElem?_eq_none_iff.mp hd; rwa [List.length_reverse] at this
      have hlt : ¬ iv < (t.lrow.length : Int) := by omega
      refine ⟨.tup [.none, bRange], Eq.symm ?_⟩
      walk_at "w"; refine s_exc c5 ?_; walk_at "v"; refine blk_loc (q2 _ _ _) ?_; walk_at "w"; refine s_res c9 ?_; walk_at "w"; refine s_f (tr_f hlt) ?_; walk_at "v"; refine s_nil ?_; walk_at "v"; rfl
  obtain ⟨z, key⟩ := key
  refine ⟨_, _, I3, ⟨.int iv, one j, z, rfl⟩, ?_⟩
  walk_at "w"; refine s_res c1 ?_; walk_at "w"; refine s_res c2 ?_; walk_at "w"; refine s_dt hz ?_; walk_at "w"
  refine (walk_fold (g := fun i => .av ((t.row.map dth).getD i .none)) (fun i => ((t.row.take i).map nK, lay t)) (fun i z_ => lst_nth) (fun i f hi => ?_) (t.row.map dth).length 0 (Nat.zero_add _)).trans ?_
  · rw [List.length_map] at hi
    obtain ⟨x, e0, e1, hx⟩ := step_at (F := dth) hi
    have hbx := lay_body t (hI.good.row x hx)
    rw [e0, e1, List.map_append]
    walk_at "w"; refine s_inst hbx ?_; walk_at "w"; rfl
  rw [List.length_map, List.take_length]
  walk_at "w"; refine s_dt hzl ?_; walk_at "w"
  refine (walk_fold (g := fun i => .av ((t.lrow.map one).getD i .none)) (fun i => ((t.lrow.take i).map nK, lay t)) (fun i z_ => list_nth rfl) (fun i f hi => ?_) (t.lrow.map one).length 0 (Nat.zero_add _)).trans ?_
  · rw [List.length_map] at hi
    obtain ⟨x, e0, e1, hx⟩ := step_at (F := one) hi
    have hx1 := one_num (t := t) (hI.good.row x (by rw [← hI.sync.row]; exact hx))
    rw [e0, e1, List.map_append]
    walk_at "w"; refine s_av hx1 ?_; walk_at "w"; rfl
  rw [List.length_map, List.take_length]
  walk_at "w"; refine s_b (f1 _) ?_; walk_at "w"; refine s_prop c3 ?_; walk_at "w"; refine s_res c8 ?_; walk_at "w"; refine s_df (by rw [hlr]; simp [stops]) ?_; walk_at "w"; refine s_res c4 ?_; walk_at "w"; refine s_inst hb ?_; walk_at "w"; refine s_av i1 ?_; walk_at "w"; refine s_av i2 ?_; walk_at "w"; refine s_f (f2 _) ?_; walk_at "w"; refine s_res d2 ?_; walk_at "w"; refine s_res d3 ?_; walk_at "w"; refine s_av it ?_; walk_at "v"; refine blk_loc (q1 _ _) ?_; walk_at "v"
  refine key.symm.trans ?_
  walk_at "w"; refine s_av i5 ?_; walk_at "w"; refine s_res c6 ?_; walk_at "w"; refine s_res (c7 _ _) ?_; walk_at "w"; refine s_av i6 ?_; walk_at "w"; refine s_dt hzl ?_; walk_at "w"
  refine (walk_fold (g := fun i => .av ((t.lrow.map one).getD i .none)) (fun i => ((t.lrow.take i).map nK, lay { t with left := l3, mx := x3 })) (fun i z_ => list_nth rfl) (fun i f hi => ?_) (t.lrow.map one).length 0 (Nat.zero_add _)).trans ?_
  · rw [List.length_map] at hi
    obtain ⟨x, e0, e1, hx⟩ := step_at (F := one) hi
    have hx1 := one_num (t := { t with left := l3, mx := x3 }) (hI.good.row x (by rw [← hI.sync.row]; exact hx))
    rw [e0, e1, List.map_append]
    walk_at "w"; refine s_av hx1 ?_; walk_at "w"; rfl
  rw [List.length_map, List.take_length]
  walk_at "w"; refine s_b (f5 _) ?_; walk_at "w"; refine s_res (c7 _ _) ?_; walk_at "w"; refine s_f (f6 _) ?_; walk_at "w"; rfl
theorem gput_new {β : Type} {k : Nat} {v : β} : ∀ {l : List (Nat × β)}, (gget k l).isSome = false -> gput k v l = l ++ [(k, v)]
  | [], _ => rfl
  | (a, x) :: l, h => by
    unfold gget at h
    rw [List.find?_cons] at h
    unfold gput
    cases hk : a == k with
    | true => rw [show (((a, x) : Nat × β).1 == k) = true from hk] at h; cases h
    | false =>
      rw [show (((a, x) : Nat × β).1 == k) = false from hk] at h
      rw [if_neg Bool.false_ne_true]
      exact congrArg (_ :: ·) (gput_new h)
theorem gput_old {k : Nat} : ∀ {l : List (Nat × Nat)}, (gget k l).isSome = true -> (∀ p ∈ l, p.1 = p.2) -> gput k k l = l
  | [], h, _ => by cases h
  | (a, x) :: l, h, hp => by
    unfold gget at h
    rw [List.find?_cons] at h
    unfold gput
    cases hk : a == k with
    | true =>
      have h1 := hp (a, x) (.head _)
      dsimp only at h1
      rw [if_pos rfl, ← h1, eq_of_beq hk]
    | false =>
      rw [show (((a, x) : Nat × Nat).1 == k) = false from hk] at h
      rw [if_neg Bool.false_ne_true]
      exact congrArg (_ :: ·) (gput_old h fun p hp' => hp p (.tail _ hp'))
theorem nums_snoc (r : List Nat) (d : Nat) : nums (r ++ [d]) = gput d d (nums r) := by unfold nums; rw [List.foldl_append]; rfl
noncomputable def cnt (ln : Nat -> List (Nat × Int)) (k : Nat) (l : List (Nat × Nat)) : Nat := (l.filter fun p => has k (ln p.2)).length
theorem cnt_snoc (ln : Nat -> List (Nat × Int)) (k d : Nat) (l : List (Nat × Nat)) : cnt ln k (l ++ [(d, d)]) = cnt ln k l + (if has k (ln d) then 1 else 0) := by
  unfold cnt
  rw [List.filter_append, List.length_append]
  cases h : has k (ln d) <;> simp [h]
theorem fix_bump (b b' : UInt8) (cl : List (UInt8 × Int)) : fixV b' (bump b cl) = fixV b' cl + (if b = b' then 1 else 0) := by
  unfold bump
  have h := gget_gput b b' (fixV b cl + 1) cl
  by_cases e : b = b'
  · subst e
    rw [if_pos (by simp)] at h
    rw [if_pos rfl]
    show (gget b (gput b (fixV b cl + 1) cl)).getD 0 = _
    rw [h]; rfl
  · rw [if_neg (by simpa using e)] at h
    rw [if_neg e, Int.add_zero]
    show (gget b' (gput b (fixV b cl + 1) cl)).getD 0 = _
    rw [h]; rfl
theorem fix_all (a b : Bool) (cl : List (UInt8 × Int)) : fixV 97 (bumpAll a b cl) = fixV 97 cl + (if a then 1 else 0) ∧ fixV 98 (bumpAll a b cl) = fixV 98 cl + (if b then 1 else 0) := by
  cases a <;> cases b
  · exact ⟨(Int.add_zero _).symm, (Int.add_zero _).symm⟩
  · exact ⟨by show fixV 97 (bump 98 cl) = _; rw [fix_bump]; rfl, by show fixV 98 (bump 98 cl) = _; rw [fix_bump]; rfl⟩
  · exact ⟨by show fixV 97 (bump 97 cl) = _; rw [fix_bump]; rfl, by show fixV 98 (bump 97 cl) = _; rw [fix_bump]; rfl⟩
  · exact ⟨by show fixV 97 (bump 98 (bump 97 cl)) = _; rw [fix_bump, fix_bump]; simp, by show fixV 98 (bump 98 (bump 97 cl)) = _; rw [fix_bump, fix_bump]; simp⟩
theorem hst_cnt (t : ST) (r : List Nat) : (∀ d, (gget d (hst t r).1).isSome = (gget d (nums r)).isSome) ∧ fixV 97 (hst t r).2 = cnt t.en 0 (nums r) ∧ fixV 98 (hst t r).2 = cnt t.en 1 (nums r) := by
  have key : ∀ r : List Nat, (∀ d, (gget d (hst t r.reverse).1).isSome = (gget d (nums r.reverse)).isSome) ∧ fixV 97 (hst t r.reverse).2 = cnt t.en 0 (nums r.reverse) ∧ fixV 98 (hst t r.reverse).2 = cnt t.en 1 (nums r.reverse) := fun r => by
    induction r with
    | nil => exact ⟨fun d => rfl, rfl, rfl⟩
    | cons d r ih =>
      obtain ⟨h1, h2, h3⟩ := ih
      rw [List.reverse_cons, hst_snoc, nums_snoc]
      unfold hstep
      cases hd : (gget d (hst t r.reverse).1).isSome with
      | true =>
        rw [if_pos rfl, gput_old (by rw [← h1, hd]) (fun p hp => (nums_mem _ p hp).1)]
        exact ⟨h1, h2, h3⟩
      | false =>
        have hn : (gget d (nums r.reverse)).isSome = false := by rw [← h1, hd]
        rw [if_neg Bool.false_ne_true, gput_new hn, cnt_snoc, cnt_snoc]
        dsimp only
        obtain ⟨f1, f2⟩ := fix_all (has 0 (t.en d)) (has 1 (t.en d)) (hst t r.reverse).2
        refine ⟨fun e => ?_, ?_, ?_⟩
        · rw [gget_gput, ← gput_new hn, gget_gput]
          split
          · rfl
          · exact h1 e
        · rw [f1, h2]; cases has 0 (t.en d) <;> simp
        · rw [f2, h3]; cases has 1 (t.en d) <;> simp
  have := key r.reverse
  rwa [List.reverse_reverse] at this
theorem nums_any (t : ST) (k : Nat) (r : List Nat) : decide ((1 : Int) ≤ cnt t.en k (nums r)) = r.any fun d => has k (t.en d) := by
  have hin : ∀ r : List Nat, ∀ d ∈ r, (d, d) ∈ nums r := fun r d hd => by
    have key : ∀ r : List Nat, ∀ d ∈ r, (d, d) ∈ nums r.reverse := fun r => by
      induction r with
      | nil => exact fun d h => by cases h
      | cons x r ih =>
        intro d hd
        rw [List.reverse_cons, nums_snoc]
        cases hx : (gget x (nums r.reverse)).isSome with
        | true =>
          rw [gput_old hx (fun p hp => (nums_mem _ p hp).1)]
          rcases List.mem_cons.mp hd with rfl | hd
          · unfold gget at hx
            rw [Option.isSome_map, List.find?_isSome] at hx
            obtain ⟨p, hp, e⟩ := hx
            have e1 := (nums_mem _ p hp).1
            have e2 : p.1 = d := eq_of_beq e
            have : p = (d, d) := by
              obtain ⟨a, b⟩ := p
              dsimp only at e1 e2
              rw [← e1, e2]
            exact this ▸ hp
          · exact ih d hd
        | false =>
          rw [gput_new hx]
          rcases List.mem_cons.mp hd with rfl | hd
          · exact List.mem_append_right _ (List.mem_singleton.mpr rfl)
          · exact List.mem_append_left _ (ih d hd)
    have := key r.reverse d (List.mem_reverse.mpr hd)
    rwa [List.reverse_reverse] at this
  rw [Bool.eq_iff_iff, decide_eq_true_iff, List.any_eq_true]
  unfold cnt
  constructor
  · intro h
    have h0 : 0 < ((nums r).filter fun p => has k (t.en p.2)).length := by omega
    obtain ⟨p, hp⟩ := List.exists_mem_of_length_pos h0
    obtain ⟨h1, h2⟩ := List.mem_filter.mp hp
    exact ⟨p.2, (nums_mem _ p h1).2, h2⟩
  · rintro ⟨d, hd, hh⟩
    have : (d, d) ∈ (nums r).filter fun p => has k (t.en p.2) := List.mem_filter.mpr ⟨hin r d hd, hh⟩
    have := List.length_pos_of_mem this
    omega
theorem wl_srt (t : ST) (m : Int) : wl2 t m = srt (decide (m ≤ wcnt t 0 t.lrow)) (decide (m ≤ wcnt t 1 t.lrow)) := by
  unfold wl2 wl1 srt
  by_cases h0 : m ≤ (wcnt t 0 t.lrow : Int) <;> by_cases h1 : m ≤ (wcnt t 1 t.lrow : Int) <;> simp [h0, h1]
theorem words_seen {t : ST} (hS : Sync t) : wl2 t 1 = srt ((seen t t.row).contains 97) ((seen t t.row).contains 98) := by
  rw [wl_srt, (seen_has t t.row).1, (seen_has t t.row).2, ← nums_any, ← nums_any]
  unfold wcnt cnt
  rw [hS.row, hS.en]
theorem words_hid {t : ST} (hS : Sync t) : wl2 t 2 = srt (decide (1 < fixV 97 (hst t t.row).2)) (decide (1 < fixV 98 (hst t t.row).2)) := by
  obtain ⟨_, h2, h3⟩ := hst_cnt t t.row
  rw [wl_srt, h2, h3]
  unfold wcnt cnt
  rw [hS.row, hS.en]
  rfl
theorem fs_none {α : Type} {F : Nat -> Option α} {n : Nat} (h : ∀ i, i < n -> F i = .none) : (List.range' 0 n).findSome? F = .none := by
  rw [List.findSome?_eq_none_iff]
  intro i hi
  rw [List.mem_range'] at hi
  obtain ⟨j, hj, rfl⟩ := hi
  exact h _ (by omega)
theorem fs_some {α : Type} {F : Nat -> Option α} {Q : α -> Prop} (h : ∀ i x, F i = some x -> Q x) {n : Nat} (hx : ∃ i, i < n ∧ (F i).isSome) : ∃ x, (List.range' 0 n).findSome? F = some x ∧ Q x := by
  cases hf : (List.range' 0 n).findSome? F with
  | none =>
    obtain ⟨i, hi, hs⟩ := hx
    rw [List.findSome?_eq_none_iff] at hf
    rw [hf i (List.mem_range'.mpr ⟨i, hi, by omega⟩)] at hs
    cases hs
  | some x =>
    obtain ⟨i, _, e⟩ := List.exists_of_findSome?_eq_some hf
    exact ⟨x, rfl, h i x e⟩
theorem nseen_open {n : Nat} (hn : 5 ≤ n) {t : ST} (hG : Good t) (ho : ∀ d ∈ t.row, 2 ≤ t.acc d) (X : Hp) : ∃ Y, R n (lay t ++ X) (rf 354) [.ref 34] = some (.ok (.lst (srt ((seen t t.row).contains 97) ((seen t t.row).contains 98))) (lay t ++ Y)) := by
  refine ⟨X ++ .dict (sE (seen t t.row)) :: garb t t.row, ?_⟩
  rw [nseen_ok hn hG X, fs_none fun i hi => ?_, Option.getD_none, List.append_assoc]
  unfold nsOut
  rw [List.getElem?_eq_getElem hi, Option.bind_some, if_pos (ho _ (List.getElem_mem hi))]
theorem nseen_closed {n : Nat} (hn : 5 ≤ n) {t : ST} (hG : Good t) (ho : ∃ d ∈ t.row, t.acc d < 2) (X : Hp) : ∃ Y, R n (lay t ++ X) (rf 354) [.ref 34] = some (.exc bInv (lay t ++ Y)) := by
  obtain ⟨x, h1, Y, h2⟩ := fs_some (F := nsOut t (lay t ++ X)) (Q := fun x => ∃ Y, x = some (.exc bInv (lay t ++ Y))) (fun i x h => by
    unfold nsOut at h
    obtain ⟨d, _, h⟩ := Option.bind_eq_some_iff.mp h
    split at h
    · cases h
    · cases h; exact ⟨_, by rw [List.append_assoc]⟩) (n := t.row.length) (by
    obtain ⟨d, hd, ha⟩ := ho
    obtain ⟨i, hi, e⟩ := List.mem_iff_getElem.mp hd
    refine ⟨i, hi, ?_⟩
    unfold nsOut
    rw [List.getElem?_eq_getElem hi, Option.bind_some, e, if_neg (by omega)]; rfl)
  exact ⟨Y, by rw [nseen_ok hn hG X, h1, h2]; rfl⟩
theorem hid_open {n : Nat} (hn : 5 ≤ n) {t : ST} (hG : Good t) (ho : ∀ d ∈ t.row, 2 ≤ t.acc d) (X : Hp) : ∃ Y, R n (lay t ++ X) (rf 359) [.ref 34] = some (.ok (.lst (srt (decide (1 < fixV 97 (hst t t.row).2)) (decide (1 < fixV 98 (hst t t.row).2)))) (lay t ++ Y)) := by
  refine ⟨X ++ cO (hst t t.row).2 :: nO (hst t t.row).1 :: hgarb t t.row [], ?_⟩
  rw [hidden_ok hn hG X, fs_none fun i hi => ?_, Option.getD_none]
  · unfold hHp; rw [List.append_assoc]
  · unfold hOut
    rw [List.getElem?_eq_getElem hi, Option.bind_some, if_pos (ho _ (List.getElem_mem hi))]
theorem hid_closed {n : Nat} (hn : 5 ≤ n) {t : ST} (hG : Good t) (ho : ∃ d ∈ t.row, t.acc d < 2) (X : Hp) : ∃ Y, R n (lay t ++ X) (rf 359) [.ref 34] = some (.exc bInv (lay t ++ Y)) := by
  obtain ⟨x, h1, Y, h2⟩ := fs_some (F := hOut t (lay t ++ X)) (Q := fun x => ∃ Y, x = some (.exc bInv (lay t ++ Y))) (fun i x h => by
    unfold hOut at h
    obtain ⟨d, _, h⟩ := Option.bind_eq_some_iff.mp h
    split at h
    · cases h
    · cases h; exact ⟨_, by unfold hHp; rw [List.append_assoc]⟩) (n := t.row.length) (by
    obtain ⟨d, hd, ha⟩ := ho
    obtain ⟨i, hi, e⟩ := List.mem_iff_getElem.mp hd
    refine ⟨i, hi, ?_⟩
    unfold hOut
    rw [List.getElem?_eq_getElem hi, Option.bind_some, e, if_neg (by omega)]; rfl)
  exact ⟨Y, by rw [hidden_ok hn hG X, h1, h2]; rfl⟩
theorem s_sl {o : Option (List AV)} {l : List AV} {h : Int} {f : List AV -> Int -> Out} {g : Option (List AV) -> AV -> Out} {e : Out} (h1 : o = some l) (k : f l h = e) : toK2.match_1 (fun z_ z_ => Out) o (.int h) f g = e := by subst h1; exact k
noncomputable abbrev bType : AV := .byt [116, 121, 112, 101, 99, 104, 101, 99, 107]
noncomputable def nullT : AV := mkT (.str "null") .none
theorem null_ok {n : Nat} (hn : 2 ≤ n) {P : Hp} : R n P (rf 131) [] = some (.ok nullT P) := by
  obtain ⟨n, rfl⟩ : ∃ k, n = k + 2 := ⟨n - 2, by omega⟩
  kernel_rfl
theorem nkey_ok {n : Nat} (hn : 2 ≤ n) {P : Hp} : R n P (rf 215) [nullT] = some (.exc bType P) := by
  obtain ⟨n, rfl⟩ : ∃ k, n = k + 2 := ⟨n - 2, by omega⟩
  kernel_rfl
theorem loadn_ok {n : Nat} (hn : 4 ≤ n) {t : ST} : R n (lay t) (rf 326) [.ref 34, nullT] = some (.exc bType (lay t)) := by
  obtain ⟨n, rfl⟩ := down n (show 1 ≤ n by walk_at "o")
  have c1 := nkey_ok (n := n) (by walk_at "o") (P := lay t)
  refine r_up ?_
  generalize R n = r at c1
  walk_at "w"; refine s_exc c1 ?_; walk_at "w"; rfl
theorem cut_ok {n : Nat} (hn : 1 ≤ n) {t : ST} (hG : Good t) (X : Hp) : R n (lay t ++ X) (rf 312) [.ref 34] = some (.ok .none (((lay t ++ X) ++ [AO.list ((t.row.map dth).take 3)]).set 34 (.inst 362 [("most", .int 6), ("things", .ref (lay t ++ X).length)]))) := by
  obtain ⟨n, rfl⟩ := down n hn
  have hS : (lay t ++ X)[34]? = some (.inst 362 [("most", .int 6), ("things", .ref 35)]) := apl rfl
  have hS' : ((lay t ++ X) ++ [AO.list ((t.row.map dth).take 3)])[34]? = some (.inst 362 [("most", .int 6), ("things", .ref 35)]) := apl hS
  have hT : (lay t ++ X)[35]? = some (.list (t.row.map dth)) := apl rfl
  have hz : (t.row.map dth).length < 100000 := by rw [List.length_map]; exact Nat.lt_trans hG.rl (by decide)
  generalize lay t ++ X = P at *
  refine r_up ?_
  generalize R n = r
  have hl : lstOf P (.ref 35) = some (t.row.map dth) := by
    show (match P[35]? with
      | some (.list l) => some l
      | _ => none) = _
    rw [hT]
  walk_at "w"; refine s_inst hS ?_; walk_at "w"; refine s_sl hl ?_; walk_at "w"; refine s_lt ⟨by decide, hz⟩ ?_; walk_at "w"; refine s_inst hS' ?_; walk_at "w"; rfl
noncomputable def rest736 : List Stmt := fi736.body.drop 6
noncomputable def kr736 (r : CallR) (rest : List Stmt) (l : Loc) (P : Hp) : Out := blk (ex r ⟨cellNames fi736.scope.names, fi736.lam⟩ fi736.scope.names okr 12) rest l P (fun z_ P => some (.ok .none P))
theorem met_ok {n : Nat} {P : Hp} {g : Nat} {s : AV} : R (n + 1) P (.met g s) [] = R n P (rf g) [s] := rfl
theorem set_ok {n : Nat} (hn : 1 ≤ n) {P : Hp} {l : List AV} {is : List Int} (h : intsOf l = some is) (hz : is.length < 1000) : R n P (.top (.type "set")) [.lst l] = some (.ok (.iset is) P) := by
  obtain ⟨n, rfl⟩ := down n hn
  show ((intsOf l).bind fun is => if is.length < 1000 then okV (.iset is) P else .none) = _
  rw [h, Option.bind_some, if_pos hz]; rfl
theorem slen_ok {n : Nat} (hn : 1 ≤ n) {P : Hp} {is : List Int} (hz : is.length < 1000) : R n P (.top (.builtin "len")) [.iset is] = some (.ok (.int (distinct is)) P) := by
  obtain ⟨n, rfl⟩ := down n hn
  show (if is.length < 1000 then okV (.int (distinct is)) P else .none) = _
  rw [if_pos hz]; rfl
theorem ne_srt {P : Hp} {j : Nat} (a b : Bool) (h : P[j]? = some (.list (srt a b))) : cmp1 P .NotEq (.lst (srt a b)) (.ref j) = some false := by
  have : lstOf P (.ref j) = some (srt a b) := by
    show (match P[j]? with
      | some (.list l) => some l
      | _ => none) = _
    rw [h]
  show (match some (srt a b), lstOf P (.ref j) with
    | some x, some y => if x.length = y.length then eqs2 x y else some false
    | .none, .none => eq2 (.lst (srt a b)) (.ref j)
    | _, _ => .none).map (fun b => !b) = _
  rw [this]
  cases a <;> cases b <;> rfl
theorem cutl_ok {n : Nat} (hn : 2 ≤ n) {P : Hp} {j : Nat} {l : List AV} (h : P[34]? = some (.inst 362 [("most", .int 6), ("things", .ref j)])) (hj : P[j]? = some (.list l)) (hz : l.length < 100000) : R n P (rf 286) [.ref 34] = some (.ok (.lst l) P) := by
  obtain ⟨n, rfl⟩ := down n (show 1 ≤ n by walk_at "o")
  have hl : lstOf P (.ref j) = some l := by
    show (match P[j]? with
      | some (.list l) => some l
      | _ => none) = _
    rw [hj]
  have c2 := list_ok (n := n) (by walk_at "o") hl hz
  refine r_up ?_
  generalize R n = r at c2
  walk_at "w"; refine s_inst h ?_; walk_at "w"; refine s_res c2 ?_; walk_at "w"; rfl
theorem cut_all {n : Nat} (hn : 3 ≤ n) {t : ST} (hI : Inv t) (Y : Hp) : ∃ H : Hp, R n (lay t ++ Y) (rf 312) [.ref 34] = some (.ok .none H) ∧ R n H (rf 286) [.ref 34] = some (.ok (.lst [dth 0, dth 1, dth 2]) H) ∧
    methOf (lay t ++ Y) (.ref 34) (Str.ofString "cut_to_three") = some (.fn 312) ∧ methOf H (.ref 34) (Str.ofString "to_list") = some (.fn 286) ∧ (∀ d, d < 6 -> H[10 + 4 * d]? = some (bodyO (t.acc d) d)) ∧ H[9]? = some (.list [one 0, one 1, one 2, one 3, one 4, one 5]) ∧ (∀ d, d < 6 -> H[12 + 4 * d]? = some (oneO (t.lacc d) d)) := by
  have h3 : (t.row.map dth).take 3 = [dth 0, dth 1, dth 2] := by rw [← List.map_take, hI.top]; rfl
  have c5 := cut_ok (n := n) (by walk_at "o") hI.good Y
  rw [h3] at c5
  have hS : (lay t ++ Y)[34]? = some (.inst 362 [("most", .int 6), ("things", .ref 35)]) := apl rfl
  have hlen : 34 < (lay t ++ Y).length := (List.getElem?_eq_some_iff.mp hS).1
  have ge : ∀ {j : Nat} {o : AO}, j ≠ 34 -> (lay t)[j]? = some o -> (((lay t ++ Y) ++ [AO.list [dth 0, dth 1, dth 2]]).set 34 (.inst 362 [("most", .int 6), ("things", .ref (lay t ++ Y).length)]))[j]? = some o := fun hj h =>
    (List.getElem?_set_ne (fun z => hj z.symm)).trans (apl (apl h))
  have hH : (((lay t ++ Y) ++ [AO.list [dth 0, dth 1, dth 2]]).set 34 (.inst 362 [("most", .int 6), ("things", .ref (lay t ++ Y).length)]))[34]? = some (.inst 362 [("most", .int 6), ("things", .ref (lay t ++ Y).length)]) := by
    rw [List.getElem?_set_self (by rw [List.length_append]; omega)]
  have c6 := cutl_ok (n := n) (by walk_at "o") hH ((List.getElem?_set_ne (by omega)).trans apn) (by simp)
  exact ⟨_, c5, c6, m_inst hS rfl rfl, m_inst hH rfl rfl, fun d h6 => ge (by omega) (lay_body t h6), ge (by omega) rfl, fun d h6 => ge (by omega) (lay_one t h6)⟩
noncomputable def tb736 : List Stmt := match (fi736.body[7]? : Option Stmt) with
  | some (Stmt.If _ (Stmt.For _ _ b _ _ :: _) _ _) => b
  | _ => []
theorem told_blk {r : CallR} {P P' : Hp} {g : Nat} {l : Loc} {s x1 x2 x3 x4 : AV} {f : Loc -> Hp -> Out} {ev : AV} (c : r P (.met g (.ref 34)) [] = some (.exc ev P')) (he : cmp1 P' .NotEq (.tup [.none, ev]) (.tup [.none, bInv]) = some false) (hl : l = lbase s [("go", x1), ("spot", x2), ("one", x3), ("told", x4), ("call", .met g (.ref 34))]) (hg : g = 354 ∨ g = 359) :
    blk (ex r ⟨cellNames fi736.scope.names, fi736.lam⟩ fi736.scope.names okr 10) tb736 l P f = f l P' := by
  subst hl
  rcases hg with rfl | rfl
  all_goals
    walk_at "w"; refine s_exc c ?_; walk_at "w"; refine s_b he ?_; walk_at "w"; rfl
theorem last_ok {n : Nat} (hn : 3 ≤ n) {t : ST} (hI : Inv t) (Y : Hp) : ∃ P, ∀ (s : AV) (tl : Loc), kr736 (R n) (rest736.drop 2) (lbase s [] ++ tl) (lay t ++ Y) = some (.ok (.bool true) P) := by
  obtain ⟨H, c5, c6, m1, m2, hb, h9, hoo⟩ := cut_all (n := n) (by walk_at "o") hI Y
  generalize lay t ++ Y = P2 at c5 m1
  generalize R n = r at c5 c6 ⊢
  refine ⟨(H ++ [AO.list [one 0, one 1, one 2]]) ++ [.list [nK 0, nK 1, nK 2]], fun s tl => ?_⟩
  unfold kr736
  have h9' : lstOf H (.ref 9) = some [one 0, one 1, one 2, one 3, one 4, one 5] := by
    show (match H[9]? with
      | some (.list l) => some l
      | _ => none) = _
    rw [h9]
  have hs : startL (H ++ [AO.list [one 0, one 1, one 2]]) (.av (.ref H.length)) = some (.av (.ref H.length), 3) := by
    show (match (H ++ [AO.list [one 0, one 1, one 2]])[H.length]? with
      | some (.list l) => some (LV.av (.ref H.length), l.length)
      | some (.dict es) => some (.keys H.length, es.length)
      | _ => .none) = _
    rw [apn]; rfl
  have ho : ∀ d, d < 6 -> item (H ++ [AO.list [one 0, one 1, one 2]]) (one d) (.str "number") = some (nK d) := fun d h6 => item_num (apl (hoo d h6))
  have heq : ∀ H' : Hp, cmp1 (H' ++ [AO.list [nK 0, nK 1, nK 2]]) .Eq (.lst [nK 0, nK 1, nK 2]) (.ref H'.length) = some true := fun H' => by
    have : lstOf (H' ++ [AO.list [nK 0, nK 1, nK 2]]) (.ref H'.length) = some [nK 0, nK 1, nK 2] := by
      show (match (H' ++ [AO.list [nK 0, nK 1, nK 2]])[H'.length]? with
        | some (.list l) => some l
        | _ => none) = _
      rw [apn]
    show (match some [nK 0, nK 1, nK 2], lstOf (H' ++ [AO.list [nK 0, nK 1, nK 2]]) (.ref H'.length) with
      | some x, some y => if x.length = y.length then eqs2 x y else some false
      | .none, .none => eq2 (.lst [nK 0, nK 1, nK 2]) (.ref H'.length)
      | _, _ => .none) = _
    rw [this]
    rfl
  walk_at "w"; refine s_mt m1 ?_; walk_at "w"; refine s_res c5 ?_; walk_at "w"; refine s_mt m2 ?_; walk_at "w"; refine s_res c6 ?_; walk_at "w"; refine s_walk ?_; walk_at "w"; refine s_inst (hb 0 (by decide)) ?_; walk_at "w"; refine s_walk ?_; walk_at "w"; refine s_inst (hb 1 (by decide)) ?_; walk_at "w"; refine s_walk ?_; walk_at "w"; refine s_inst (hb 2 (by decide)) ?_; walk_at "w"; refine s_walk ?_; walk_at "w"; refine s_sl h9' ?_; walk_at "w"; refine s_start hs ?_; walk_at "w"
  refine (walk_fold (n := 3) (g := fun i => .av ([one 0, one 1, one 2].getD i .none)) (fun i => ([nK 0, nK 1, nK 2].take i, H ++ [AO.list [one 0, one 1, one 2]])) (fun i z_ => list_nth apn) (fun i f hi => ?_) 3 0 (Nat.zero_add _)).trans ?_
  · match i, hi with
    | 0, _ =>
      walk_at "w"; refine s_av (ho 0 (by decide)) ?_; walk_at "w"; rfl
    | 1, _ =>
      walk_at "w"; refine s_av (ho 1 (by decide)) ?_; walk_at "w"; rfl
    | 2, _ =>
      walk_at "w"; refine s_av (ho 2 (by decide)) ?_; walk_at "w"; rfl
  walk_at "w"; refine s_b (heq (H ++ [AO.list [one 0, one 1, one 2]])) ?_; walk_at "w"; rfl
theorem end_closed {n : Nat} (hn : 12 ≤ n) {t : ST} (hI : Inv t) {s g x y z : AV} (ho : ¬ ∀ d ∈ t.row, 2 ≤ t.acc d) : ∃ P, kr736 (R n) rest736 (lbase s [("go", g), ("spot", x), ("one", y), ("told", z)]) (lay t) = some (.ok (.bool true) P) := by
  have c1 : ∀ P, R n P (rf 131) [] = some (.ok nullT P) := fun P => null_ok (by walk_at "o")
  have c2 := loadn_ok (n := n) (by walk_at "o") (t := t)
  have ho' : ∃ d ∈ t.row, t.acc d < 2 := by
    refine Classical.byContradiction fun h => ho fun d hd => ?_
    exact Int.not_lt.mp fun ha => h ⟨d, hd, ha⟩
  obtain ⟨Y1, c3⟩ := nseen_closed (n := n - 1) (by omega) hI.good ho' []
  obtain ⟨Y2, c4⟩ := hid_closed (n := n - 1) (by omega) hI.good ho' Y1
  rw [List.append_nil] at c3
  have c3 : R n (lay t) (.met 354 (.ref 34)) [] = some (.exc bInv (lay t ++ Y1)) := by
    obtain ⟨n, rfl⟩ := down n (show 1 ≤ n by walk_at "o")
    exact c3
  have c4 : R n (lay t ++ Y1) (.met 359 (.ref 34)) [] = some (.exc bInv (lay t ++ Y2)) := by
    obtain ⟨n, rfl⟩ := down n (show 1 ≤ n by walk_at "o")
    exact c4
  obtain ⟨PA, lA⟩ := last_ok (n := n) (by walk_at "o") hI Y2
  generalize lay t ++ Y2 = P2 at c4 lA
  generalize lay t ++ Y1 = P1 at c3 c4
  generalize R n = r at c1 c2 c3 c4 lA ⊢
  refine ⟨PA, ?_⟩
  unfold kr736
  have hzl : (t.lrow.map one).length < 100000 := by rw [List.length_map, hI.sync.row]; exact Nat.lt_of_le_of_lt hI.hi (by decide)
  walk_at "w"; refine s_res (c1 _) ?_; walk_at "w"; refine s_exc c2 ?_; walk_at "w"; refine s_dt hzl ?_; walk_at "w"
  refine (walk_fold (g := fun i => .av ((t.lrow.map one).getD i .none)) (fun i => (((t.lrow.take i).filter fun d => decide (t.lacc d < 2)).map one, lay t)) (fun i z_ => list_nth rfl) (fun i f hi => ?_) (t.lrow.map one).length 0 (Nat.zero_add _)).trans ?_
  · rw [List.length_map] at hi
    obtain ⟨x, e0, e1, hx⟩ := step_at (F := one) hi
    have hx1 := one_acc (t := t) (hI.good.row x (by rw [← hI.sync.row]; exact hx))
    rw [e0, e1, List.filter_append, List.map_append]
    by_cases ha : t.lacc x < 2
    · rw [show [x].filter (fun d => decide (t.lacc d < 2)) = [x] by simp [ha]]
      walk_at "w"; refine s_av hx1 ?_; walk_at "w"; refine s_t (tr_t ha) ?_; walk_at "w"; rfl
    · rw [show [x].filter (fun d => decide (t.lacc d < 2)) = [] by simp [ha]]
      rw [List.map_nil, List.append_nil]
      walk_at "w"; refine s_av hx1 ?_; walk_at "w"; refine s_f (tr_f ha) ?_; walk_at "w"; rfl
  rw [List.length_map, List.take_length]
  obtain ⟨y0, ys, he⟩ : ∃ y0 ys, (t.lrow.filter (fun d => decide (t.lacc d < 2))).map one = y0 :: ys := by
    cases h : (t.lrow.filter (fun d => decide (t.lacc d < 2))).map one with
    | nil =>
      rw [List.map_eq_nil_iff, hI.sync.row, hI.sync.acc, List.filter_eq_nil_iff] at h
      exact absurd (fun d hd => by have := h d hd; simp at this; omega) ho
    | cons y ys => exact ⟨y, ys, rfl⟩
  rw [he]
  walk_at "w"; refine s_walk ?_; walk_at "v"
  refine (told_blk (s := s) (x1 := g) (x2 := x) (x3 := y) (x4 := z) c3 rfl rfl (.inl rfl)).trans ?_
  walk_at "w"; refine s_walk ?_; walk_at "v"
  refine (told_blk (s := s) (x1 := g) (x2 := x) (x3 := y) (x4 := z) c4 rfl rfl (.inr rfl)).trans ?_
  walk_at "w"; refine s_walk ?_; walk_at "v"; refine s_nil ?_; walk_at "v"
  exact lA s (L [("go", g), ("spot", x), ("one", y), ("told", z), ("call", .met 359 (.ref 34))])
theorem end_open {n : Nat} (hn : 12 ≤ n) {t : ST} (hI : Inv t) {s g x y z : AV} (hop : ∀ d ∈ t.row, 2 ≤ t.acc d) : ∃ P, kr736 (R n) rest736 (lbase s [("go", g), ("spot", x), ("one", y), ("told", z)]) (lay t) = some (.ok (.bool true) P) := by
  have c1 : ∀ P, R n P (rf 131) [] = some (.ok nullT P) := fun P => null_ok (by walk_at "o")
  have c2 := loadn_ok (n := n) (by walk_at "o") (t := t)
  obtain ⟨Y1, c3⟩ := nseen_open (n := n) (by walk_at "o") hI.good hop []
  rw [List.append_nil, ← words_seen hI.sync] at c3
  have hGL := hI.good.law hI.sync
  have c4 := words_ok (n := n) (by walk_at "o") hGL Y1 1
  have srtz : ∀ m, (wl2 t m).length < 100000 := fun m => by rw [wl_srt]; unfold srt; split <;> split <;> simp
  have c5 : ∀ (P : Hp) (m : Int), R n P (.top (.type "list")) [.lst (wl2 t m)] = some (.ok (.lst (wl2 t m)) P) := fun P m => list_ok (by walk_at "o") rfl (srtz m)
  have hne : ∀ (m : Int) (Z : Hp) (o : AO), cmp1 (Z ++ .list (wl2 t m) :: o :: []) .NotEq (.lst (wl2 t m)) (.ref Z.length) = some false := fun m Z o => by rw [wl_srt]; exact ne_srt _ _ ap1
  rw [List.append_assoc] at c4
  generalize hY2 : Y1 ++ [AO.list (wl2 t 1), AO.dict (wE t.lrow)] = Y2 at c4
  have hne1 : cmp1 (lay t ++ Y2) .NotEq (.lst (wl2 t 1)) (.ref (lay t ++ Y1).length) = some false := by
    rw [← hY2, ← List.append_assoc]; exact hne 1 _ _
  have hrow : (lay t ++ Y2)[37]? = some (.list (t.lrow.map one)) := apl rfl
  have hnum : ∀ d, d < 6 -> item (lay t ++ Y2) (one d) (.str "number") = some (nK d) := fun d h6 => item_num (apl (lay_one t h6))
  have lz : t.lrow.length < 1000 := by rw [hI.sync.row]; exact hI.good.rl
  have c6 : ∀ P, R n P (.top (.type "set")) [.lst (t.lrow.map nK)] = some (.ok (.iset (t.lrow.map fun d => ((d + 1 : Nat) : Int))) P) := fun P => set_ok (by walk_at "o") (ints_nK _) (by rw [List.length_map]; exact lz)
  have c7 : ∀ P, R n P (.top (.builtin "len")) [.iset (t.lrow.map fun d => ((d + 1 : Nat) : Int))] = some (.ok (.int (distinct (t.lrow.map fun d => ((d + 1 : Nat) : Int)))) P) := fun P => slen_ok (by walk_at "o") (by rw [List.length_map]; exact lz)
  have c8 : ∀ P, R n P (.top (.builtin "len")) [.lst (t.lrow.map nK)] = some (.ok (.int t.lrow.length) P) := fun P => by
    have := llen_ok (n := n) (by walk_at "o") (P := P) (l := t.lrow.map nK) (by rw [List.length_map]; omega)
    rwa [List.length_map] at this
  obtain ⟨Y3, c9⟩ := hid_open (n := n) (by walk_at "o") hI.good hop Y2
  rw [← words_hid hI.sync] at c9
  have c10 := words_ok (n := n) (by walk_at "o") hGL Y3 2
  rw [List.append_assoc] at c10
  generalize hY4 : Y3 ++ [AO.list (wl2 t 2), AO.dict (wE t.lrow)] = Y4 at c10
  have hne2 : cmp1 (lay t ++ Y4) .NotEq (.lst (wl2 t 2)) (.ref (lay t ++ Y3).length) = some false := by
    rw [← hY4, ← List.append_assoc]; exact hne 2 _ _
  have m3 : methOf (lay t ++ Y2) (.ref 34) (Str.ofString "hidden") = some (.fn 359) := m_inst (apl rfl) rfl rfl
  have w1 : item (lay t ++ Y1) (.ref 36) (.str "row") = some (.ref 37) := rfl
  have w2 : item (lay t ++ Y2) (.ref 36) (.str "row") = some (.ref 37) := rfl
  have w3 : item (lay t ++ Y3) (.ref 36) (.str "row") = some (.ref 37) := rfl
  obtain ⟨PA, lA⟩ := last_ok (n := n) (by walk_at "o") hI Y4
  obtain ⟨PB, lB⟩ := last_ok (n := n) (by walk_at "o") hI Y2
  generalize R n = r at c1 c2 c3 c4 c5 c6 c7 c8 c9 c10 lA lB ⊢
  clear hY2 hY4 srtz hne
  refine ⟨if (distinct (t.lrow.map fun d => ((d + 1 : Nat) : Int)) : Int) = t.lrow.length then PA else PB, ?_⟩
  unfold kr736
  have hzl : (t.lrow.map one).length < 100000 := by rw [List.length_map, hI.sync.row]; exact Nat.lt_of_le_of_lt hI.hi (by decide)
  walk_at "w"; refine s_res (c1 _) ?_; walk_at "w"; refine s_exc c2 ?_; walk_at "w"; refine s_dt hzl ?_; walk_at "w"
  refine (walk_fold (g := fun i => .av ((t.lrow.map one).getD i .none)) (fun i => (((t.lrow.take i).filter fun d => decide (t.lacc d < 2)).map one, lay t)) (fun i z_ => list_nth rfl) (fun i f hi => ?_) (t.lrow.map one).length 0 (Nat.zero_add _)).trans ?_
  · rw [List.length_map] at hi
    obtain ⟨x, e0, e1, hx⟩ := step_at (F := one) hi
    have hx1 := one_acc (t := t) (hI.good.row x (by rw [← hI.sync.row]; exact hx))
    rw [e0, e1, List.filter_append, List.map_append]
    by_cases ha : t.lacc x < 2
    · rw [show [x].filter (fun d => decide (t.lacc d < 2)) = [x] by simp [ha]]
      walk_at "w"; refine s_av hx1 ?_; walk_at "w"; refine s_t (tr_t ha) ?_; walk_at "w"; rfl
    · rw [show [x].filter (fun d => decide (t.lacc d < 2)) = [] by simp [ha]]
      rw [List.map_nil, List.append_nil]
      walk_at "w"; refine s_av hx1 ?_; walk_at "w"; refine s_f (tr_f ha) ?_; walk_at "w"; rfl
  rw [List.length_map, List.take_length]
  rw [show t.lrow.filter (fun d => decide (t.lacc d < 2)) = [] by
    rw [hI.sync.row, hI.sync.acc, List.filter_eq_nil_iff]
    intro a ha
    have := hop a ha
    simp; omega]
  walk_at "w"; refine s_res c3 ?_; walk_at "w"; refine s_res (c5 _ _) ?_; walk_at "w"; refine s_res c4 ?_; walk_at "w"; refine s_b hne1 ?_; walk_at "w"; refine s_dt hzl ?_; walk_at "w"
  refine (walk_fold (g := fun i => .av ((t.lrow.map one).getD i .none)) (fun i => ((t.lrow.take i).map nK, lay t ++ Y2)) (fun i z_ => list_nth hrow) (fun i f hi => ?_) (t.lrow.map one).length 0 (Nat.zero_add _)).trans ?_
  · rw [List.length_map] at hi
    obtain ⟨x, e0, e1, hx⟩ := step_at (F := one) hi
    have hx1 := hnum x (hI.good.row x (by rw [← hI.sync.row]; exact hx))
    rw [e0, e1, List.map_append]
    walk_at "w"; refine s_av hx1 ?_; walk_at "w"; rfl
  rw [List.length_map, List.take_length]
  walk_at "w"; refine s_res (c6 _) ?_; walk_at "w"; refine s_res (c7 _) ?_; walk_at "w"; refine s_res (c8 _) ?_; walk_at "w"
  by_cases hdi : (distinct (t.lrow.map fun d => ((d + 1 : Nat) : Int)) : Int) = t.lrow.length
  · rw [if_pos hdi]
    walk_at "w"; refine s_df (by rw [decide_eq_true hdi]; simp [stops]) ?_; walk_at "w"; refine s_res c9 ?_; walk_at "w"; refine s_res (c5 _ _) ?_; walk_at "w"; refine s_res c10 ?_; walk_at "w"; refine s_b hne2 ?_; walk_at "v"; refine s_nil ?_; walk_at "v"; refine s_nil ?_; walk_at "v"
    exact lA s (L [("go", g), ("spot", x), ("one", y), ("told", z), ("numbers", .lst (t.lrow.map nK))])
  · rw [if_neg hdi]
    walk_at "w"; refine s_dt (by rw [decide_eq_false hdi]; simp [stops]) ?_; walk_at "w"; refine s_f (tr_f hdi) ?_; walk_at "v"; refine s_nil ?_; walk_at "v"; refine s_nil ?_; walk_at "v"
    exact lB s (L [("go", g), ("spot", x), ("one", y), ("told", z), ("numbers", .lst (t.lrow.map nK))])
theorem walk_inv {α : Type} {turn : LV -> α -> Hp -> (α -> Hp -> Out) -> Out} {fin : α -> Hp -> Out} {v : LV} {n : Nat} {g : Nat -> LV} (I : Nat -> α -> Hp -> Prop)
    (hv : ∀ i P, i ≤ n -> nthL P v n i = some (if i < n then some (g i) else .none)) (ht : ∀ i l P f, i < n -> I i l P -> ∃ l' P', I (i + 1) l' P' ∧ turn (g i) l P f = f l' P') :
    ∀ j i l P, i + j = n -> I i l P -> ∃ l' P', I n l' P' ∧ walk v n turn fin (j + 1) i l P = fin l' P'
  | 0, i, l, P, hi, h => by
    refine ⟨l, P, by rwa [show n = i by omega], ?_⟩
    rw [walk_eq, hv i P (by omega), if_neg (by omega)]
  | j + 1, i, l, P, hi, h => by
    obtain ⟨l', P', h1, h2⟩ := ht i l P (fun l P => walk v n turn fin (j + 1) (i + 1) l P) (by omega) h
    obtain ⟨l2, P2, h3, h4⟩ := walk_inv I hv ht j (i + 1) l' P' (by omega) h1
    refine ⟨l2, P2, h3, ?_⟩
    rw [walk_eq, hv i P (by omega), if_pos (by omega)]
    show turn (g i) l P _ = _
    rw [h2]; exact h4
noncomputable def GI (s : AV) (i : Nat) (l : Loc) (P : Hp) : Prop := ∃ t, Inv t ∧ P = lay t ∧ ((l = lbase s [] ∧ i = 0) ∨ ∃ g x y z, l = lbase s [("go", g), ("spot", x), ("one", y), ("told", z)])
theorem range_ok {n : Nat} (hn : 1 ≤ n) {P : Hp} {k : Int} (h : k.natAbs < 1000000) : R n P (.top (.type "range")) [.int k] = some (.ok (.rng 0 k.toNat 1) P) := by
  obtain ⟨n, rfl⟩ := down n hn
  show (if k.natAbs < 1000000 then okV (.rng 0 k.toNat 1) P else .none) = _
  rw [if_pos h]; rfl
theorem rng_nth {P : Hp} {n i : Nat} : nthL P (.av (.rng 0 n 1)) n i = some (if i < n then some (.av (.int (0 + (i : Int) * 1))) else .none) := by
  show (some (if i < n then some (AV.int (0 + (i : Int) * 1)) else .none)).map (fun (x : Option AV) => x.map LV.av) = _
  by_cases h : i < n
  · rw [if_pos h, if_pos h]; rfl
  · rw [if_neg h, if_neg h]; rfl
noncomputable def loop736 : List Stmt := fi736.body.drop 5
theorem go_turn {r : CallR} (C : Con2 r) {s : AV} {i : Nat} {l : Loc} {P : Hp} {f : Loc -> Hp -> Out} {v : AV} (h : GI s i l P) : ∃ l' P', GI s (i + 1) l' P' ∧
    blk (ex r ⟨cellNames fi736.scope.names, fi736.lam⟩ fi736.scope.names okr 11) body736 (sput (Str.ofString "go") (.av v) l) P f = f l' P' := by
  obtain ⟨t, hI, rfl, h⟩ := h
  obtain ⟨l', t', h1, ⟨x, y, z, h2⟩, h3⟩ := go_body C hI (s := s) (g := v) (f := f) (l := sput (Str.ofString "go") (.av v) l) (by
    rcases h with ⟨rfl, _⟩ | ⟨g, x, y, z, rfl⟩
    · exact .inl rfl
    · exact .inr ⟨x, y, z, rfl⟩)
  exact ⟨l', _, ⟨t', h1, rfl, .inr ⟨v, x, y, z, h2⟩⟩, h3⟩
theorem loop_ok {n : Nat} (hn : 12 ≤ n) {t : ST} (hI : Inv t) {s : AV} : ∃ P, kr736 (R n) loop736 (lbase s []) (lay t) = some (.ok (.bool true) P) := by
  have C := con2_ok (n := n) (by walk_at "o")
  obtain ⟨v, l1, x1, d1, v0, v9, hl1⟩ := C.draw t 10 (by decide) hI.left
  have I1 : Inv { t with left := l1, mx := x1 } := hI.same hl1 x1 t.cnt
  have c1 : ∀ P, R n P (.top (.type "range")) [.int (1 + v)] = some (.ok (.rng 0 (1 + v).toNat 1) P) := fun P => range_ok (by walk_at "o") (by omega)
  have key : ∃ l' P', GI s (1 + v).toNat l' P' ∧ kr736 (R n) loop736 (lbase s []) (lay t) = kr736 (R n) rest736 l' P' := by
    generalize R n = r at C c1 d1
    generalize (1 + v).toNat = m at c1
    obtain ⟨l', P', h1, h2⟩ := walk_inv (turn := fun x l P f => match x with
      | .av x => storeT r ⟨cellNames fi736.scope.names, fi736.lam⟩ fi736.scope.names (Expr.Name (Str.ofString "go") { line := 0, col := 0, endLine := 0, endCol := 0 }) x l P fun l P => blk (ex r ⟨cellNames fi736.scope.names, fi736.lam⟩ fi736.scope.names okr 11) body736 l P f
      | _ => .none) (fin := fun l P => kr736 r rest736 l P) (v := .av (.rng 0 m 1)) (n := m) (g := fun i => .av (.int (0 + (i : Int) * 1))) (GI s) (fun i P z_ => rng_nth) (fun i l P f z_ h => go_turn C h) m 0 (lbase s []) (lay { t with left := l1, mx := x1 }) (Nat.zero_add _) ⟨_, I1, rfl, .inl ⟨rfl, rfl⟩⟩
    refine ⟨l', P', h1, ?_⟩
    refine Eq.trans ?_ h2
    clear h1 h2 C
    unfold kr736
    walk_at "w"; refine s_res d1 ?_; walk_at "w"; refine s_res (c1 _) ?_; walk_at "w"; rfl
  obtain ⟨l', P', ⟨t', I', rfl, h⟩, e⟩ := key
  rw [e]
  rcases h with ⟨_, h⟩ | ⟨g, x, y, z, rfl⟩
  · omega
  · by_cases ho : ∀ d ∈ t'.row, 2 ≤ t'.acc d
    · exact end_open hn I' ho
    · exact end_closed hn I' ho
theorem toint_ok {n : Nat} (hn : 1 ≤ n) {P : Hp} {i : Int} : R n P (.top (.type "int")) [.int i] = some (.ok (.int i) P) := by
  obtain ⟨n, rfl⟩ := down n hn
  rfl
noncomputable def lf0 (script : List Int) : List Int := (script.take 40).map fun i => Int.fmod i 1000003
theorem s_sl2 {o : Option (List AV)} {l : List AV} {h : Int} {f : List AV -> Int -> Out} {g : Option (List AV) -> AV -> Out} {e : Out} (h1 : o = some l) (k : f l h = e) : toK2.match_1 (fun z_ z_ => Out) o (.int h) f g = e := by subst h1; exact k
noncomputable def mixF (l : List Int) : Int := l.foldl (fun m c => Int.fmod (m * 31 + c + 1) 1000003) 3838
noncomputable def fi686 : FI := (finfo 686).getD noFI
noncomputable def st686 : Stmt := (fi686.body[0]?).getD default
theorem deck_1 {r : CallR} (c1 : ∀ P i, r P (.top (.type "int")) [.int i] = some (.ok (.int i) P)) (P : Hp) (script : List Int) (hz : script.length < 100000) (k : Loc -> Hp -> Out) :
    ex r ⟨cellNames fi686.scope.names, false⟩ fi686.scope.names okr 12 st686 (L [("script", .lst (script.map .int))]) P k =
    k (L [("script", .lst (script.map .int)), ("left", .ref (P ++ [AO.list ((script.take 40).map .int)]).length), ("mixed", .int 3838)]) ((P ++ [AO.list ((script.take 40).map .int)]) ++ [.list ((lf0 script).map .int)]) := by
  have hz' : (script.map AV.int).length < 100000 := by rwa [List.length_map]
  have h4 : (script.map AV.int).take 40 = (script.take 40).map .int := by rw [List.map_take]
  have hs0 : startL (P ++ [AO.list ((script.map AV.int).take 40)]) (.av (.ref P.length)) = some (.av (.ref P.length), (script.take 40).length) := by
    show (match (P ++ [AO.list ((script.map AV.int).take 40)])[P.length]? with
      | some (.list l) => some (LV.av (.ref P.length), l.length)
      | some (.dict es) => some (.keys P.length, es.length)
      | _ => .none) = _
    rw [apn, h4]; show some (LV.av (.ref P.length), ((script.take 40).map AV.int).length) = _
    rw [List.length_map]
  walk_at "w"; walk_at "w"; refine s_lt ⟨by decide, hz'⟩ ?_; walk_at "w"; walk_at "w"; refine s_start hs0 ?_; walk_at "w"; refine s_dt (Nat.lt_of_le_of_lt (List.length_take_le ..) (by decide)) ?_; walk_at "w"
  refine (walk_fold (g := fun i => .av (((script.take 40).map AV.int).getD i .none)) (fun i => ((((script.take 40).take i).map fun i => Int.fmod i 1000003).map .int, P ++ [AO.list ((script.map AV.int).take 40)])) (fun i z_ => ?_) (fun i f hi => ?_) (script.take 40).length 0 (Nat.zero_add _)).trans ?_
  · have := list_nth (P := P ++ [AO.list ((script.map AV.int).take 40)]) (i := i) apn
    rw [h4, List.length_map] at this
    rw [h4]; exact this
  · obtain ⟨x, e0, e1, hx⟩ := step_at (F := AV.int) hi
    rw [e0, e1, List.map_append, List.map_append]
    walk_at "w"; refine s_res (c1 _ _) ?_; walk_at "w"; rfl
  rw [List.take_length, h4]
  rfl
noncomputable def ct25 (l : List Int) : Nat -> Loc
  | 0 => []
  | i + 1 => L [("cell", .int (l.getD i 0))]
noncomputable def mst (s : AV) (l : List Int) (i : Nat) : Loc := L [("script", s), ("left", .ref 1), ("mixed", .int (mixF (l.take i)))] ++ ct25 l i
theorem mixF_snoc (l : List Int) (c : Int) : mixF (l ++ [c]) = Int.fmod (mixF l * 31 + c + 1) 1000003 := by unfold mixF; rw [List.foldl_append]; rfl
theorem deck_2 {r : CallR} {s : AV} (l0 : List AV) (l : List Int) (hz : l.length < 1000) :
    blk (ex r ⟨cellNames fi686.scope.names, false⟩ fi686.scope.names okr 12) (fi686.body.drop 1) (L [("script", s), ("left", .ref 1), ("mixed", .int 3838)]) [.list l0, .list (l.map .int)] (fun z_ P => some (.ok .none P)) =
    some (.ok (.ref 2) [.list l0, .list (l.map .int), .dict [(.str "left", .ref 1), (.str "mixed", .int (mixF l))]]) := by
  walk_at "w"
  refine (walk_fold (n := (l.map AV.int).length) (g := fun i => .av ((l.map AV.int).getD i .none)) (fun i => (mst s l i, [.list l0, .list (l.map .int)])) (fun i z_ => list_nth rfl) (fun i f hi => ?_) (l.map AV.int).length 0 (Nat.zero_add _)).trans ?_
  · rw [List.length_map] at hi
    obtain ⟨x, e0, e1, hx⟩ := step_at (F := AV.int) hi
    have e2 : l.getD i 0 = x := by
      have : l[i]? = some l[i] := List.getElem?_eq_getElem hi
      have h2 : l.take (i + 1) = l.take i ++ [l[i]] := by rw [List.take_add_one, this]; rfl
      rw [h2] at e1
      have := List.append_cancel_left e1
      rw [List.getD_eq_getElem?_getD, List.getElem?_eq_getElem hi]
      exact (List.cons.inj this).1
    have q1 : sput "cell" (.av (.int x)) (mst s l i) = L [("script", s), ("left", .ref 1), ("mixed", .int (mixF (l.take i))), ("cell", .int x)] := by cases i <;> rfl
    have e3 : mst s l (i + 1) = L [("script", s), ("left", .ref 1), ("mixed", .int (Int.fmod (mixF (l.take i) * 31 + x + 1) 1000003)), ("cell", .int x)] := by
      show L [("script", s), ("left", .ref 1), ("mixed", .int (mixF (l.take (i + 1)))), ("cell", .int (l.getD i 0))] = _
      rw [e1, mixF_snoc, e2]
    rw [e0, e3]
    walk_at "v"; refine blk_loc q1 ?_; walk_at "w"; rfl
  rw [List.length_map]
  refine Eq.trans ?_ (show some (Res.ok (.ref 2) [.list l0, .list (l.map .int), .dict [(.str "left", .ref 1), (.str "mixed", .int (mixF (l.take l.length)))]]) = _ by rw [List.take_length])
  walk_at "w"; rfl
theorem deck_ok {n : Nat} (hn : 2 ≤ n) (script : List Int) (hz : script.length < 100000) : R n [] (rf 686) [.lst (script.map .int)] = some (.ok (.ref 2) [.list ((script.take 40).map .int), .list ((lf0 script).map .int), .dict [(.str "left", .ref 1), (.str "mixed", .int (mixF (lf0 script)))]]) := by
  obtain ⟨n, rfl⟩ := down n (show 1 ≤ n by walk_at "o")
  have c1 : ∀ P i, R n P (.top (.type "int")) [.int i] = some (.ok (.int i) P) := fun P i => toint_ok (by walk_at "o")
  have h2 := deck_2 (r := R n) (s := .lst (script.map .int)) ((script.take 40).map .int) (lf0 script) (by unfold lf0; rw [List.length_map]; exact Nat.lt_of_le_of_lt (List.length_take_le ..) (by decide))
  have h1 := fun k => deck_1 c1 [] script hz k
  refine r_up ?_
  generalize R n = r at c1 h1 h2
  walk_at "w"
  refine (h1 _).trans ?_
  exact h2
noncomputable def memD (d : Nat) : AO := .inst 665 [("limits", .ref 3), ("is_global", .bool false), ("saves", .ref 5), ("journal", .ref 6), ("made", .ref 7), ("freed", .ref 8), ("used", .int (48 * d : Nat)), ("used_global", .int 0), ("last_body", .int d), ("last_save", .int 0)]
noncomputable def madD (d : Nat) : AO := .dict ((List.range d).map fun i => mad ((i + 1 : Nat) : Int))
noncomputable def objD : Nat -> Hp
  | 0 => []
  | d + 1 => objD d ++ [bodyO 3 d, entO [], oneO 3 d, lenO []]
noncomputable def suD (s0 l : List AV) (m : Int) (d : Nat) (k : Nat) : Hp := [.list s0, .list l, .dict [(.str "left", .ref 1), (.str "mixed", .int m)], limO, memD d, .list [], .list [], madD d, .list [], .list ((List.range k).map one)] ++ objD k
theorem make_ok {n : Nat} {s0 l : List AV} {m : Int} : ∀ d, d < 6 -> R (n + 6) (suD s0 l m d d) (rf 480) [.ref 4, .int 3] = some (.ok (.ref (10 + 4 * d)) (suD s0 l m (d + 1) d ++ [bodyO 3 d, entO []]))
  | 0, _ => by kernel_rfl
  | 1, _ => by kernel_rfl
  | 2, _ => by kernel_rfl
  | 3, _ => by kernel_rfl
  | 4, _ => by kernel_rfl
  | 5, _ => by kernel_rfl
theorem lim_ok {n : Nat} {s0 l : List AV} {m : Int} : R (n + 6) [.list s0, .list l, .dict [(.str "left", .ref 1), (.str "mixed", .int m)]] (rf 384) [] = some (.ok (.ref 3) [.list s0, .list l, .dict [(.str "left", .ref 1), (.str "mixed", .int m)], limO]) := by kernel_rfl
noncomputable def su0 (s0 l : List AV) (m : Int) : Hp := [.list s0, .list l, .dict [(.str "left", .ref 1), (.str "mixed", .int m)], limO, memD 0, .list [], .list [], .dict [], .list []]
theorem mem_ok {n : Nat} {s0 l : List AV} {m : Int} : R (n + 6) [.list s0, .list l, .dict [(.str "left", .ref 1), (.str "mixed", .int m)], limO] (rf 665) [.ref 3] = some (.ok (.ref 4) (su0 s0 l m)) := by kernel_rfl
theorem suD_lay {s0 : List AV} {l : List Int} {m : Int} : suD s0 (l.map .int) m 6 6 ++ [.inst 362 [("most", .int 6), ("things", .ref 35)], .list [dth 0, dth 1, dth 2], .dict [(.str "row", .ref 37), (.str "more", .ref 38), (.str "count", .int 0), (.str "left", .int 1)], .list [one 0, one 1, one 2], .list [one 3, one 4, one 5]] =
    lay ⟨s0, l, m, [0, 1, 2], [0, 1, 2], fun z_ => 3, fun z_ => 3, fun z_ => [], fun z_ => [], 0, 1⟩ := rfl
theorem init_inv {s0 : List AV} {l : List Int} {m : Int} (hl : l.length < 100000) : Inv ⟨s0, l, m, [0, 1, 2], [0, 1, 2], fun z_ => 3, fun z_ => 3, fun z_ => [], fun z_ => [], 0, 1⟩ where
  good := ⟨fun d h => (show ∀ d ∈ [0, 1, 2], d < 6 by decide) d h, (show 3 < 1000 by decide), fun z_ => ⟨fun z_ h => (by cases h), List.nodup_nil⟩⟩
  sync := ⟨rfl, rfl, rfl⟩
  lo := (show 3 ≤ 3 by decide)
  hi := (show 3 ≤ 6 by decide)
  top := rfl
  acc _ := Int.le_refl 3
  lf := (show (0 : Int) ≤ 1 ∧ (1 : Int) ≤ 1 by decide)
  left := hl
noncomputable def lst (s : AV) (tl : List (String × AV)) : Loc := L ([("script", s), ("deck", .ref 2), ("memory", .ref 4)] ++ tl)
theorem blk_app {one : Stmt -> Loc -> Hp -> (Loc -> Hp -> Out) -> Out} : ∀ (a b : List Stmt) (l : Loc) (P : Hp) (kn : Loc -> Hp -> Out), blk one (a ++ b) l P kn = blk one a l P (fun l P => blk one b l P kn)
  | [], b, l, P, kn => (blk_nil (kn := fun l P => blk one b l P kn)).symm
  | s :: a, b, l, P, kn => (blk_cons (rest := a ++ b)).trans ((congrArg (one s l P) (funext fun l => funext fun P => blk_app a b l P kn)).trans blk_cons.symm)
theorem set_mid {n : Nat} {s : AV} {s0 : List AV} {l : List Int} {m : Int} {f : Loc -> Hp -> Out} : blk (ex (R (n + 7)) ⟨cellNames fi736.scope.names, fi736.lam⟩ fi736.scope.names okr 12) ((fi736.body.take 5).drop 1) (lst s []) (su0 s0 (l.map .int) m) f =
    f (lbase s []) (lay ⟨s0, l, m, [0, 1, 2], [0, 1, 2], fun z_ => 3, fun z_ => 3, fun z_ => [], fun z_ => [], 0, 1⟩) := by kernel_rfl
noncomputable def st736 : Stmt := (fi736.body[0]?).getD default
theorem set_0 {r : CallR} {ss : List AV} {s0 l : List AV} {m : Int} {f : Loc -> Hp -> Out} (c1 : r [] (rf 686) [.lst ss] = some (.ok (.ref 2) [.list s0, .list l, .dict [(.str "left", .ref 1), (.str "mixed", .int m)]]))
    (c2 : r [.list s0, .list l, .dict [(.str "left", .ref 1), (.str "mixed", .int m)]] (rf 384) [] = some (.ok (.ref 3) [.list s0, .list l, .dict [(.str "left", .ref 1), (.str "mixed", .int m)], limO]))
    (c3 : r [.list s0, .list l, .dict [(.str "left", .ref 1), (.str "mixed", .int m)], limO] (rf 665) [.ref 3] = some (.ok (.ref 4) (su0 s0 l m))) :
    ex r ⟨cellNames fi736.scope.names, fi736.lam⟩ fi736.scope.names okr 12 st736 (L [("script", .lst ss)]) [] f = f (lst (.lst ss) []) (su0 s0 l m) := by
  walk_at "w"; refine s_res c1 ?_; walk_at "w"; refine s_res c2 ?_; walk_at "w"; refine s_res c3 ?_; walk_at "w"; rfl
theorem law_ok (script : List Int) (hz : script.length ≤ 63) : ∃ P, runLaw script = some (.ok (.bool true) P) := by
  have c1 := deck_ok (n := 29) (by decide) script (by omega)
  have c2 := lim_ok (n := 23) (s0 := (script.take 40).map AV.int) (l := (lf0 script).map AV.int) (m := mixF (lf0 script))
  have c3 := mem_ok (n := 23) (s0 := (script.take 40).map AV.int) (l := (lf0 script).map AV.int) (m := mixF (lf0 script))
  have hl : (lf0 script).length < 100000 := by unfold lf0; rw [List.length_map]; exact Nat.lt_of_le_of_lt (List.length_take_le ..) (by decide)
  obtain ⟨P, h⟩ := loop_ok (n := 29) (by decide) (init_inv (s0 := (script.take 40).map AV.int) (m := mixF (lf0 script)) hl) (s := .lst (script.map .int))
  refine ⟨P, ?_⟩
  have e : runLaw script = blk (ex (R 29) ⟨cellNames fi736.scope.names, fi736.lam⟩ fi736.scope.names okr 12) (st736 :: ((fi736.body.take 5).drop 1 ++ loop736)) (L [("script", .lst (script.map .int))]) [] (fun z_ P => some (.ok .none P)) := rfl
  rw [e]
  refine (s_blk ?_ : _ = _)
  refine (set_0 c1 c2 c3).trans ?_
  rw [blk_app]
  exact (set_mid (n := 22)).trans h
end DK.PL
namespace DK
open PySem PySem.W PySem.Calls PyProof.Rows
noncomputable def ghAt (h : Heap) : Gh := ⟨fun a => match (ghostOf h tabs2).get? a with
  | some o => .fro o
  | none => if a ∈ tabs2.map (·.2) then .tab else .any, []⟩
section
variable {prog : Program} {w : World} {h : Heap}
theorem gh_fro {a : Addr} {o : Obj} (e : (ghostOf h tabs2).get? a = some o) : (ghAt h).ρ a = .fro o := by unfold ghAt; dsimp only; rw [e]
theorem gh_tab {a : Addr} (e : a ∈ tabs2.map (·.2)) : (ghAt h).ρ a = .tab := by unfold ghAt; dsimp only; rw [hideAll_none _ e]; exact if_pos e
theorem gh_by {a : Addr} {r : Role} {M : Prop} (e : (ghAt h).ρ a = r) (h1 : ∀ o, (ghostOf h tabs2).get? a = some o -> r = .fro o -> M) (h2 : a ∈ tabs2.map (·.2) -> r = .tab -> M) (h3 : r = .any -> M) : M := by
  induction hg : (ghostOf h tabs2).get? a using Option.casesOn with
  | some o => exact h1 o hg (e.symm.trans (gh_fro hg))
  | none =>
    unfold ghAt at e
    dsimp only at e
    rw [hg] at e
    exact (Classical.em (a ∈ tabs2.map (·.2))).elim (fun z => h2 z (e.symm.trans (if_pos z))) fun z => h3 (e.symm.trans (if_neg z))
theorem rep_start (hT : TabsAt tabs2 h) : Rep prog w (ghostOf h tabs2) tabs3 (ghAt h) [] h where
  fro a o e := gh_by e (fun o' e' z => (Role.fro.inj z) ▸ of_hideAll _ e') (fun z_ z => rx z) fun z => rx z.symm
  base a o := gh_fro
  len := rfl
  own k o e := nm ((List.getElem?_nil).symm.trans e)
  frm a e := gh_by e (fun z_ z_ z => rx z) (fun z_ z => rx z) fun z => rx z.symm
  cel a e := gh_by e (fun z_ z_ z => rx z) (fun z_ z => rx z) fun z => rx z.symm
  tab c T q m := ⟨gh_tab (List.mem_map_of_mem (tabs_in m)), #[], (hT _ (tabs_in m)).2, trivial, fun pos cv z => nm z⟩
  low a e := gh_by rfl (fun o e' z_ => Heap.lt_size (of_hideAll _ e')) (fun m z_ => by
    obtain ⟨q, hq, rfl⟩ := List.mem_map.mp m
    exact Heap.lt_size (hT q hq).2) fun z => absurd z e
theorem ints_vr {g : Gh} {vs : List Value} {xs : List Int} (h : IntsAre vs xs) : VRs prog w g (xs.map AV.int) vs := by
  induction h with
  | nil => exact .nil
  | cons n t _ ih => exact .cons (.int n t) ih
theorem list_obj {P : Params} {L : Addr} {vs : List Value} {xs : List Int} (hL : h.IsList L vs.toArray) (hw : Well P h (.ref L) (ofPy (.list (xs.map .int)))) : h.get? L = some (listObj vs.toArray) := by
  unfold ofPy at hw
  obtain ⟨o, e, hc, n, hd⟩ := hL
  cases hw with
  | list e' r =>
    have := si (e.symm.trans e')
    subst this
    injection hd with hd
    exact hd ▸ e
theorem law_walk {s₁ : Shared} {mg mb : Str -> Option Value} {K : Frag} {p : Program} {loose : List Str} {mean : ExcName -> Option Value} (KX : K.In s₁.heap) (hT : TabsAt tabs2 s₁.heap) (T : Top p loose mean mg mb s₁.heap) (hin : importsNone p = true) (hK : noTabs K = true)
    (told : nsIn K mainGlobals "_law_told" = some (some (.ref 700))) (hps : nsIn K mainGlobals "PsError" = some (some (.ref 52))) (h7 : keepIn K (.ref 700) = true) (hg : (globs.all fun p => globB K p.1 p.2 && keepB K p.2) = true) (hc : (dTab.all fun p => p.2.all (clsB K p.1)) = true) (hm : (cTab.all fun p => p.2.all (methB1 K p.1)) = true)
    (hi : iTab.all (madeB K) = true) (hf : fnsB K tabs3 = true) (e : Texts K) (XF : ExcFacts2 K)
    {nm q : Str} {N : Addr} {bs : List Value} {hdct : Bool} {sn : List Str} {sub : List Value} {ab : Bool} {col : Option Bool} {dd : Option Addr} {k0 k1 k2 k3 k5 : Option Value} (hC : K.lookup 52 = some (excClassObj nm q 52 N bs bmE hdct sn sub ab col dd k0 k1 k2 k3 k5 "Exception.__new__"))
    {L : Addr} {vs : List Value} {xs : List Int} {B : Result -> Shared -> Prop} (hL : s₁.heap.IsList L vs.toArray) (hw : Well w.params s₁.heap (.ref L) (ofPy (.list (xs.map .int)))) (hI : IntsAre vs xs) (hz : ¬ ((63 : Nat) : Int) < xs.length)
    (hB : ∀ s', (∀ b o, (ghostOf s₁.heap tabs2).get? b = some o -> s'.heap.get? b = some o) -> GrownAll tabs2 s'.heap -> s'.gens = s₁.gens -> s'.os = s₁.os -> B (.ok (.ret (.bool true))) s') :
    codeAny (model prog w) callerA (.call (.ref 736) ⟨[.ref L], []⟩) B s₁ := by
  have X := ghost_K hT KX hK
  have FX : Facts prog w K (ghostOf s₁.heap tabs2) mg mb tabs3 := facts_of K X (T.nolimit.imp fun mc z => z.imp_left (ghost_ns hT)) ((T.seer hin).mods.elim fun mm z => (ghost_ns hT z.1).elim fun o z => z.elim fun z_ z => z.elim fun z_ z => ⟨o, z.1⟩) (ghost_ns hT T.g) (ghost_ns hT T.b) T.builtins told hg hc hm hi hf e
  have TF : TabFacts (ghostOf s₁.heap tabs2) mg tabs3 := by
    refine ⟨fun c T' q hq => ⟨?_, ?_, ?_⟩, tabs_uniq⟩
    · obtain ⟨o, vs, file, tf, flags, tg, inF, text, tt, e1, r1, r2⟩ := (hT _ (tabs_in hq)).1
      exact ⟨o, vs, file, tf, flags, tg, inF, text, tt, ghost_get hT e1 (fun q => by rw [q] at r1; cases r1), r1, r2⟩
    · exact of_decide_eq_true (List.all_eq_true.mp (show (tabs3.all fun a => decide (mainGlobals ≠ a.2.1)) = true by decide) _ hq)
    · obtain ⟨bm, ob, a1, a2, a3, a4, a5, a6⟩ := T.bmain
      refine ⟨bm, ob, a1, a2, fun z => ?_, fun z => ?_, ghost_get hT a3 (fun q => by rw [q] at a4; cases a4), a4, a5, a6⟩
      · obtain ⟨o, es, ep, b1, b2, _⟩ := T.g
        rw [← z, a3] at b1
        obtain rfl := si b1
        rw [a6] at b2; cases b2
      · have := (hT _ (tabs_in hq)).2
        rw [← z, a3] at this
        obtain rfl := si this
        cases a4
  have R := rep_start (prog := prog) (w := w) hT
  have CO := calls_ok FX TF h7 (told_rule FX XF.toExcFacts (X _ _ hC) (by decide) rfl (told_form rfl) (mg_of KX T.g hps)) (raise_rule FX XF (X _ _ hC) rfl (put_form rfl) (mg_of KX T.g hps)) (built_rule FX.sys) (fun n hr => rest_rule FX rfl (thing_form rfl) hr) 30
  obtain ⟨P, hP⟩ := PL.law_ok xs (Int.ofNat_le.mp (Int.not_lt.mp hz))
  have ro : (ghAt s₁.heap).ρ L = .fro (listObj vs.toArray) := gh_fro (ghost_get hT (list_obj hL hw) fun z => by cases z)
  refine CO.code (f := rf 736) rfl R ⟨rfl, [], rfl, fun e he => absurd he List.not_mem_nil⟩ ⟨by decide, by decide⟩ (.top _) (.cons (.lst ro (ints_vr hI)) .nil) hP (fun x P' g' s' u q W r => ?_) fun b P' g' s' e q => by cases q
  injection q with q1 q2
  subst q1
  have r := r.inv
  have r : u = .bool true := r
  subst r
  refine hB s' (fun b o z => W.1.fro _ _ (W.1.base _ _ z)) ?_ W.2.same.1 W.2.same.2.2
  have G' : ∀ {c T' q}, (c, T', q) ∈ tabs3 -> GrownAt T' s'.heap := fun z => (W.1.tab _ _ _ z).2.imp fun ps y => y.1
  exact ⟨G' (.head _), G' (.tail _ (.head _)), G' (.tail _ (.tail _ (.head _))), trivial⟩
end
end DK
namespace DK.holds
theorem tw10838770311858258217 : True := ⟨⟩
theorem tw6516037791598866285 : True := ⟨⟩
theorem tw13049087149132936976 : True := ⟨⟩
theorem tw17879757837814779078 : True := ⟨⟩
theorem tw8548361711049124875 : True := ⟨⟩
theorem tw11805287192542370941 : True := ⟨⟩
theorem tw2971145773839045172 : True := ⟨⟩
theorem tw2100257276396235785 : True := ⟨⟩
theorem tw8006814900864021840 : True := ⟨⟩
theorem tw5106854453695902766 : True := ⟨⟩
theorem tw8078027762850832901 : True := ⟨⟩
theorem tw13027174803953801627 : True := ⟨⟩
theorem tw2538174395905963307 : True := ⟨⟩
theorem tw5062966241644083906 : True := ⟨⟩
theorem tw5633098533753626950 : True := ⟨⟩
theorem tw2244102136328954085 : True := ⟨⟩
theorem tw9764126871942406231 : True := ⟨⟩
theorem tw1103286877479219595 : True := ⟨⟩
theorem tw11963924824683741991 : True := ⟨⟩
theorem tw15404555521942576005 : True := ⟨⟩
theorem tw708119273720433713 : True := ⟨⟩
theorem tw834771330191921325 : True := ⟨⟩
theorem tw13313306357981769863 : True := ⟨⟩
theorem tw7727248808203729595 : True := ⟨⟩
theorem tw563228983506437709 : True := ⟨⟩
theorem tw3611411956222029581 : True := ⟨⟩
theorem tw10601770421990691906 : True := ⟨⟩
theorem tw11900925423134549606 : True := ⟨⟩
theorem tw12193943249053517122 : True := ⟨⟩
theorem tw6875576601751591795 : True := ⟨⟩
theorem tw10203196862256448363 : True := ⟨⟩
theorem tw1737957109549721842 : True := ⟨⟩
theorem tw18289506236980074257 : True := ⟨⟩
theorem tw13089224055120329420 : True := ⟨⟩
theorem tw3205049130298017222 : True := ⟨⟩
theorem tw13256253177955105771 : True := ⟨⟩
theorem tw11682080269017036708 : True := ⟨⟩
theorem tw13177078784946512179 : True := ⟨⟩
theorem tw6195799721563911921 : True := ⟨⟩
theorem tw15509311580712930790 : True := ⟨⟩
theorem tw5240775056000835140 : True := ⟨⟩
theorem tw1961016856717941430 : True := ⟨⟩
theorem tw17812320675422881963 : True := ⟨⟩
theorem tw11088839927001436476 : True := ⟨⟩
theorem tw16984862502505606562 : True := ⟨⟩
theorem tw1623944490511945925 : True := ⟨⟩
theorem tw10184254425707498585 : True := ⟨⟩
theorem tw18051035199634242652 : True := ⟨⟩
theorem tw17952279681289100283 : True := ⟨⟩
theorem tw9790738666256954717 : True := ⟨⟩
theorem tw11801702586478866861 : True := ⟨⟩
theorem tw8346785320891031505 : True := ⟨⟩
theorem tw9250877543742751879 : True := ⟨⟩
theorem tw13261035980584385854 : True := ⟨⟩
theorem tw9321113781130012980 : True := ⟨⟩
theorem tw326988230544555895 : True := ⟨⟩
theorem tw1003389661021965908 : True := ⟨⟩
theorem tw16864282364603171668 : True := ⟨⟩
theorem tw16152477055360198724 : True := ⟨⟩
theorem tw13210037308360333600 : True := ⟨⟩
theorem tw12553389244756720740 : True := ⟨⟩
theorem tw10488945986603635547 : True := ⟨⟩
theorem tw14226873646673493631 : True := ⟨⟩
theorem tw17039714715238701998 : True := ⟨⟩
theorem tw17647015131543183684 : True := ⟨⟩
theorem tw10437478457803012841 : True := ⟨⟩
theorem tw15920769428262536791 : True := ⟨⟩
theorem tw14000320703882499510 : True := ⟨⟩
theorem tw5030978348883785425 : True := ⟨⟩
theorem tw3412659479598633689 : True := ⟨⟩
theorem tw11993583967412079942 : True := ⟨⟩
theorem tw115604426894802472 : True := ⟨⟩
theorem tw5206266878630209608 : True := ⟨⟩
theorem tw6763998877522883573 : True := ⟨⟩
theorem tw15463939968075947457 : True := ⟨⟩
theorem tw9584731275411607931 : True := ⟨⟩
theorem tw15941716378431239713 : True := ⟨⟩
theorem tw6883141224221417991 : True := ⟨⟩
theorem tw11257674636881893598 : True := ⟨⟩
theorem tw7899750291773234397 : True := ⟨⟩
theorem tw1518542565491060645 : True := ⟨⟩
theorem tw16644512730462330929 : True := ⟨⟩
theorem tw5639387630664962040 : True := ⟨⟩
theorem tw4761499313897921069 : True := ⟨⟩
theorem tw6100930271223533629 : True := ⟨⟩
theorem tw15095481331523207599 : True := ⟨⟩
theorem tw5219441734370218255 : True := ⟨⟩
theorem tw1591119353754344643 : True := ⟨⟩
theorem tw4030104416600147521 : True := ⟨⟩
theorem tw17598313516789135220 : True := ⟨⟩
theorem tw12228086700615672661 : True := ⟨⟩
theorem tw11465545530320778647 : True := ⟨⟩
theorem tw13653310804114968587 : True := ⟨⟩
theorem tw13707243780653054911 : True := ⟨⟩
theorem tw3439980931230354294 : True := ⟨⟩
theorem tw1896923884801502231 : True := ⟨⟩
theorem tw12154153106414158336 : True := ⟨⟩
theorem tw5390684666269516214 : True := ⟨⟩
theorem tw1496261292938988727 : True := ⟨⟩
theorem tw1074450712906246463 : True := ⟨⟩
theorem tw13415211748644104712 : True := ⟨⟩
theorem tw15194985450679976214 : True := ⟨⟩
theorem tw9189907023123890681 : True := ⟨⟩
theorem tw549853107658890638 : True := ⟨⟩
theorem tw7613809785972780951 : True := ⟨⟩
theorem tw5776584341158867566 : True := ⟨⟩
theorem tw12441316543036636616 : True := ⟨⟩
theorem tw9833287206868275856 : True := ⟨⟩
theorem tw7693647558158766681 : True := ⟨⟩
theorem tw17151606671532402991 : True := ⟨⟩
theorem tw9594466244526050785 : True := ⟨⟩
theorem tw15290723498326662593 : True := ⟨⟩
theorem tw15816296028204027452 : True := ⟨⟩
theorem tw17176317064682732800 : True := ⟨⟩
theorem tw4890222100894720239 : True := ⟨⟩
theorem tw12630586179278374180 : True := ⟨⟩
theorem tw16693559431024281822 : True := ⟨⟩
theorem tw6789762721824368199 : True := ⟨⟩
theorem tw14668392580938288525 : True := ⟨⟩
theorem tw14670606227591059063 : True := ⟨⟩
theorem tw17141983609974515404 : True := ⟨⟩
theorem tw12466651354858876967 : True := ⟨⟩
theorem tw10937270814034217362 : True := ⟨⟩
theorem tw4831946107472393002 : True := ⟨⟩
theorem tw18351012142226426406 : True := ⟨⟩
theorem tw11911317894754514130 : True := ⟨⟩
theorem tw8825078661322778632 : True := ⟨⟩
theorem tw3944458745019955567 : True := ⟨⟩
theorem tw15830134914770291287 : True := ⟨⟩
theorem tw8163304547273830054 : True := ⟨⟩
theorem tw8576071276505763362 : True := ⟨⟩
theorem tw1139774096279570601 : True := ⟨⟩
theorem tw12392343901990298339 : True := ⟨⟩
theorem tw17030932304058017188 : True := ⟨⟩
theorem tw8873991473189385412 : True := ⟨⟩
theorem tw13617195582093397885 : True := ⟨⟩
theorem tw6454033011002190933 : True := ⟨⟩
theorem tw15459973324371268445 : True := ⟨⟩
theorem tw2424129914384508315 : True := ⟨⟩
theorem tw18245690799929805595 : True := ⟨⟩
theorem tw3322012235788736357 : True := ⟨⟩
theorem tw3864439790577597896 : True := ⟨⟩
theorem tw6792917888601154548 : True := ⟨⟩
theorem tw13368462435911594017 : True := ⟨⟩
theorem tw3595921134534772760 : True := ⟨⟩
theorem tw1926357004607121056 : True := ⟨⟩
theorem tw3813044160676602024 : True := ⟨⟩
theorem tw10033327232309660188 : True := ⟨⟩
theorem tw9287827951503527798 : True := ⟨⟩
theorem tw10913460303162468636 : True := ⟨⟩
theorem tw9700231552232249170 : True := ⟨⟩
theorem tw2887432424398092485 : True := ⟨⟩
theorem tw2819140066196442386 : True := ⟨⟩
theorem tw13860232228931919173 : True := ⟨⟩
theorem tw6370216505629640158 : True := ⟨⟩
theorem tw14527863817522521079 : True := ⟨⟩
theorem tw10105667863392799067 : True := ⟨⟩
theorem tw13250443019273329496 : True := ⟨⟩
theorem tw7955426922305289590 : True := ⟨⟩
theorem tw3538469969806149356 : True := ⟨⟩
theorem tw4970522299789590303 : True := ⟨⟩
theorem tw10576640426474070162 : True := ⟨⟩
theorem tw5284664773926481733 : True := ⟨⟩
theorem tw9416651669455644832 : True := ⟨⟩
theorem tw9407769008321559245 : True := ⟨⟩
theorem tw15447094358227812699 : True := ⟨⟩
theorem tw174665020847804830 : True := ⟨⟩
theorem tw3001813694705145995 : True := ⟨⟩
theorem tw9310088645524315805 : True := ⟨⟩
theorem tw2705575374313393419 : True := ⟨⟩
theorem tw16221116068543641110 : True := ⟨⟩
theorem tw11982096614846594594 : True := ⟨⟩
theorem tw16983703583175757950 : True := ⟨⟩
theorem tw5493469603570403100 : True := ⟨⟩
theorem tw10099595201668732344 : True := ⟨⟩
theorem tw4756452092670815960 : True := ⟨⟩
theorem tw17852515913800195369 : True := ⟨⟩
theorem tw10794252717047549605 : True := ⟨⟩
theorem tw8357534701338327876 : True := ⟨⟩
theorem tw8345301492314073006 : True := ⟨⟩
theorem tw7820551209142090404 : True := ⟨⟩
theorem tw710649086671055856 : True := ⟨⟩
theorem tw11075269389961709392 : True := ⟨⟩
theorem tw10900071465796374135 : True := ⟨⟩
theorem tw8155662953066723637 : True := ⟨⟩
theorem tw5251649583032923860 : True := ⟨⟩
theorem tw5022674986414125572 : True := ⟨⟩
theorem tw16643108684713765779 : True := ⟨⟩
theorem tw2093342637281846023 : True := ⟨⟩
theorem tw12631555347282985065 : True := ⟨⟩
theorem tw10312844159212045554 : True := ⟨⟩
theorem tw6218885218568628989 : True := ⟨⟩
theorem tw14548665839875214882 : True := ⟨⟩
theorem tw3017248986855541222 : True := ⟨⟩
theorem tw12770129239941429764 : True := ⟨⟩
theorem tw17160793381183823078 : True := ⟨⟩
theorem tw4330238353586586133 : True := ⟨⟩
theorem tw7783008330883156073 : True := ⟨⟩
theorem tw1420181995348176161 : True := ⟨⟩
theorem tw13113473621282348423 : True := ⟨⟩
theorem tw6125118839048231775 : True := ⟨⟩
theorem tw5993049405316925228 : True := ⟨⟩
theorem tw2890534439783485814 : True := ⟨⟩
theorem tw3722644521196472071 : True := ⟨⟩
theorem tw15798605966895040133 : True := ⟨⟩
theorem tw6191014669385876719 : True := ⟨⟩
theorem tw12841185799452378666 : True := ⟨⟩
theorem tw12302246437879696825 : True := ⟨⟩
theorem tw3360869644641865549 : True := ⟨⟩
theorem tw9626296395173905515 : True := ⟨⟩
theorem tw10998264793912094354 : True := ⟨⟩
theorem tw7774332650307751201 : True := ⟨⟩
theorem tw13263160079252801055 : True := ⟨⟩
theorem tw5042849596335099018 : True := ⟨⟩
theorem tw7349812428807524927 : True := ⟨⟩
theorem tw8478684891983412215 : True := ⟨⟩
theorem tw16289143618044460207 : True := ⟨⟩
theorem tw2374141051037902177 : True := ⟨⟩
theorem tw1525772935454588621 : True := ⟨⟩
theorem tw1232807936529965960 : True := ⟨⟩
theorem tw7539696037189607685 : True := ⟨⟩
theorem tw2555485570151297923 : True := ⟨⟩
theorem tw13715093549196759496 : True := ⟨⟩
theorem tw6962374590710595691 : True := ⟨⟩
theorem tw7887340578050654099 : True := ⟨⟩
theorem tw13185959787610835301 : True := ⟨⟩
theorem tw9837493977860668356 : True := ⟨⟩
theorem tw12967673610494861243 : True := ⟨⟩
theorem tw10303369319358160737 : True := ⟨⟩
theorem tw56987955655614787 : True := ⟨⟩
theorem tw4026651079041148816 : True := ⟨⟩
theorem tw10851894698611140929 : True := ⟨⟩
theorem tw13359425822223514309 : True := ⟨⟩
theorem tw2659945596822917407 : True := ⟨⟩
theorem tw11507623660598171638 : True := ⟨⟩
theorem tw10407259918611754237 : True := ⟨⟩
theorem tw5798300445349969118 : True := ⟨⟩
theorem tw10213378967222968292 : True := ⟨⟩
theorem tw4556370802486347583 : True := ⟨⟩
theorem tw10294559544487806796 : True := ⟨⟩
theorem tw8844422152382492452 : True := ⟨⟩
theorem tw16877732972272266729 : True := ⟨⟩
theorem tw1621713725184252970 : True := ⟨⟩
theorem tw9105015656316897960 : True := ⟨⟩
theorem tw15842783463255213731 : True := ⟨⟩
theorem tw6013177355735234914 : True := ⟨⟩
theorem tw18240246260213864972 : True := ⟨⟩
theorem tw10342774576580327264 : True := ⟨⟩
theorem tw2271662010324627436 : True := ⟨⟩
theorem tw18168298232628601356 : True := ⟨⟩
theorem tw15717510260906914137 : True := ⟨⟩
theorem tw9955839771892046371 : True := ⟨⟩
theorem tw7260969541373854689 : True := ⟨⟩
theorem tw15594187841155041470 : True := ⟨⟩
theorem tw148032309155826555 : True := ⟨⟩
theorem tw2697405831200029115 : True := ⟨⟩
theorem tw16542193707694763028 : True := ⟨⟩
theorem tw14058849171978156904 : True := ⟨⟩
theorem tw9445851735888017704 : True := ⟨⟩
theorem tw13752870020173074279 : True := ⟨⟩
theorem tw873218361981382678 : True := ⟨⟩
theorem tw17029352974615315110 : True := ⟨⟩
theorem tw14863304640757140249 : True := ⟨⟩
theorem tw13884009582221381267 : True := ⟨⟩
theorem tw37538300256908091 : True := ⟨⟩
theorem tw3222696700614716082 : True := ⟨⟩
theorem tw3157895222166012868 : True := ⟨⟩
theorem tw15953384977970021052 : True := ⟨⟩
theorem tw6084300392227058063 : True := ⟨⟩
theorem tw12748875789420661352 : True := ⟨⟩
theorem tw9511066353217003589 : True := ⟨⟩
theorem tw15509320954344313626 : True := ⟨⟩
theorem tw8327918525184250612 : True := ⟨⟩
theorem tw4756527952557449597 : True := ⟨⟩
theorem tw10831560971362394105 : True := ⟨⟩
theorem tw18072694692573651037 : True := ⟨⟩
theorem tw17954571518238023680 : True := ⟨⟩
theorem tw4546660604572000171 : True := ⟨⟩
theorem tw5252589918656096429 : True := ⟨⟩
theorem tw15924665529359895147 : True := ⟨⟩
theorem tw13290822453086404628 : True := ⟨⟩
theorem tw10446542733445799995 : True := ⟨⟩
theorem tw12506433955579928739 : True := ⟨⟩
theorem tw15769533594854554352 : True := ⟨⟩
theorem tw13514582786213627437 : True := ⟨⟩
theorem tw4541037964198393187 : True := ⟨⟩
theorem tw14684268394521957006 : True := ⟨⟩
theorem tw9249951705085015329 : True := ⟨⟩
theorem tw8787030830786088597 : True := ⟨⟩
theorem tw7288998119332967038 : True := ⟨⟩
theorem tw16196913718050589821 : True := ⟨⟩
theorem tw8064169567922346983 : True := ⟨⟩
theorem tw14098744098179827835 : True := ⟨⟩
theorem tw3015197463730841857 : True := ⟨⟩
theorem tw17663509076902285894 : True := ⟨⟩
theorem tw5743973323618971468 : True := ⟨⟩
theorem tw15769811694101345053 : True := ⟨⟩
theorem tw831885645382698687 : True := ⟨⟩
theorem tw11198192371000377341 : True := ⟨⟩
theorem tw7378083552221661518 : True := ⟨⟩
theorem tw16475575065247971262 : True := ⟨⟩
theorem tw13433547436377760485 : True := ⟨⟩
theorem tw14289655219481546576 : True := ⟨⟩
theorem tw6621094524456641914 : True := ⟨⟩
theorem tw5147952006858269267 : True := ⟨⟩
theorem tw2922409451069718936 : True := ⟨⟩
theorem tw15531127102711886548 : True := ⟨⟩
theorem tw5160265745933408875 : True := ⟨⟩
theorem tw16951878601651994424 : True := ⟨⟩
theorem tw10726871988119750516 : True := ⟨⟩
theorem tw7612966654880461019 : True := ⟨⟩
theorem tw9458907373248480569 : True := ⟨⟩
theorem tw11428135176169129829 : True := ⟨⟩
theorem tw6091017678949064737 : True := ⟨⟩
theorem tw10960360436538996710 : True := ⟨⟩
theorem tw2479636094139826826 : True := ⟨⟩
theorem tw15394292606803795004 : True := ⟨⟩
theorem tw14790526972093443802 : True := ⟨⟩
theorem tw5604271147240470738 : True := ⟨⟩
theorem tw11990779677851958915 : True := ⟨⟩
theorem tw7558332510031160560 : True := ⟨⟩
theorem tw529213875616479955 : True := ⟨⟩
theorem tw16253106107993210019 : True := ⟨⟩
theorem tw4286638036743410801 : True := ⟨⟩
theorem tw7791919215440206888 : True := ⟨⟩
theorem tw4785358893013740387 : True := ⟨⟩
theorem tw10459265964157590755 : True := ⟨⟩
theorem tw4332758389773968616 : True := ⟨⟩
theorem tw7496078948756754819 : True := ⟨⟩
theorem tw9333125116989078731 : True := ⟨⟩
theorem tw9690124783561243963 : True := ⟨⟩
theorem tw5580021914592653734 : True := ⟨⟩
theorem tw8991985331405248438 : True := ⟨⟩
theorem tw4923409214148777493 : True := ⟨⟩
theorem tw1502126513735223970 : True := ⟨⟩
theorem tw12092289502634074890 : True := ⟨⟩
theorem tw11193314835995636464 : True := ⟨⟩
theorem tw9859851522941435322 : True := ⟨⟩
theorem tw1005125741021775322 : True := ⟨⟩
theorem tw2565508028242258347 : True := ⟨⟩
theorem tw11306905285921756296 : True := ⟨⟩
theorem tw5424157894678014347 : True := ⟨⟩
theorem tw4273376364516214138 : True := ⟨⟩
theorem tw3520590697844863603 : True := ⟨⟩
theorem tw2002193427688727269 : True := ⟨⟩
theorem tw11909188083114500594 : True := ⟨⟩
theorem tw2913890163314248424 : True := ⟨⟩
theorem tw11066549873170166755 : True := ⟨⟩
theorem tw11033454302873200760 : True := ⟨⟩
theorem tw10951852856367586497 : True := ⟨⟩
theorem tw3907821633810813950 : True := ⟨⟩
theorem tw12281782356601005290 : True := ⟨⟩
theorem tw7576856407472132390 : True := ⟨⟩
theorem tw578230410181129401 : True := ⟨⟩
theorem tw5666111552433977245 : True := ⟨⟩
theorem tw1971818703193310241 : True := ⟨⟩
theorem tw15026995917505379836 : True := ⟨⟩
theorem tw14238160709967935419 : True := ⟨⟩
theorem tw1347958355617533643 : True := ⟨⟩
theorem tw12620134182564384489 : True := ⟨⟩
theorem tw11647181217217839951 : True := ⟨⟩
theorem tw11366159005145942208 : True := ⟨⟩
theorem tw4176553828566840565 : True := ⟨⟩
theorem tw15050470710255138989 : True := ⟨⟩
theorem tw2231969547511311182 : True := ⟨⟩
theorem tw16313582706917601948 : True := ⟨⟩
theorem tw133156996258598349 : True := ⟨⟩
theorem tw4512789217300737833 : True := ⟨⟩
theorem tw15460567788587572848 : True := ⟨⟩
theorem tw15348957788126410434 : True := ⟨⟩
theorem tw14560097606195906945 : True := ⟨⟩
theorem tw12349113620238241854 : True := ⟨⟩
theorem tw9799855554376005128 : True := ⟨⟩
theorem tw597919624597150616 : True := ⟨⟩
theorem tw16830009369504796047 : True := ⟨⟩
theorem tw14388851467603279603 : True := ⟨⟩
theorem tw7381567692336050798 : True := ⟨⟩
theorem tw606174671800500588 : True := ⟨⟩
theorem tw1800062536655009554 : True := ⟨⟩
theorem tw17525555537751008438 : True := ⟨⟩
theorem tw14693905319646892969 : True := ⟨⟩
theorem tw14692263967316696219 : True := ⟨⟩
theorem tw7118123151106774866 : True := ⟨⟩
theorem tw6710805232675347852 : True := ⟨⟩
theorem tw6520890126711838529 : True := ⟨⟩
theorem tw3338184964203467486 : True := ⟨⟩
theorem tw14415805363167304560 : True := ⟨⟩
theorem tw14091465106848978318 : True := ⟨⟩
theorem tw13495915550363491579 : True := ⟨⟩
theorem tw3227339147891713523 : True := ⟨⟩
theorem tw8314946015645180902 : True := ⟨⟩
theorem tw8189977932971136885 : True := ⟨⟩
theorem tw5018413778811671863 : True := ⟨⟩
theorem tw4091456103708657193 : True := ⟨⟩
theorem tw3707939302661299678 : True := ⟨⟩
theorem tw3455955603739163748 : True := ⟨⟩
theorem tw17532870947100899710 : True := ⟨⟩
theorem tw955091636451001365 : True := ⟨⟩
theorem tw4666276787056225792 : True := ⟨⟩
theorem tw2393171904302549592 : True := ⟨⟩
theorem tw15892816873618800442 : True := ⟨⟩
theorem tw7912549415223221831 : True := ⟨⟩
theorem tw4197529005561673752 : True := ⟨⟩
theorem tw18400801604237066721 : True := ⟨⟩
theorem tw14143693465819906716 : True := ⟨⟩
theorem tw13632357639742025818 : True := ⟨⟩
theorem tw17779922505501800866 : True := ⟨⟩
theorem tw13369087675422417449 : True := ⟨⟩
theorem tw12542468513931881410 : True := ⟨⟩
theorem tw7006780513865577472 : True := ⟨⟩
theorem tw1827919210155977763 : True := ⟨⟩
theorem tw13865871602977590995 : True := ⟨⟩
theorem tw13162421896171816486 : True := ⟨⟩
theorem tw1388317282850470256 : True := ⟨⟩
theorem tw12737101298108723365 : True := ⟨⟩
theorem tw12396921771982970674 : True := ⟨⟩
theorem tw7793195789002323099 : True := ⟨⟩
theorem tw9496262414660928070 : True := ⟨⟩
theorem tw14258852452637970177 : True := ⟨⟩
theorem tw6406688981284808936 : True := ⟨⟩
theorem tw12039712231339831098 : True := ⟨⟩
theorem tw2744639908584347933 : True := ⟨⟩
theorem tw282538998522146033 : True := ⟨⟩
theorem tw9686197439836940233 : True := ⟨⟩
theorem tw18373265812256108233 : True := ⟨⟩
theorem tw9282917646977178082 : True := ⟨⟩
theorem tw3840021927020583683 : True := ⟨⟩
theorem tw12723717619084795914 : True := ⟨⟩
theorem tw3624687870803460224 : True := ⟨⟩
theorem tw7949199582785559476 : True := ⟨⟩
theorem tw10259702241421918403 : True := ⟨⟩
theorem tw13834752964335649268 : True := ⟨⟩
theorem tw13516122933809252549 : True := ⟨⟩
theorem tw10806831106956706182 : True := ⟨⟩
theorem tw9942433280190013231 : True := ⟨⟩
theorem tw17733557728967949375 : True := ⟨⟩
theorem tw15982218948310668580 : True := ⟨⟩
theorem tw8311299856624616157 : True := ⟨⟩
theorem tw7016581573067218510 : True := ⟨⟩
theorem tw8961553985015514327 : True := ⟨⟩
theorem tw18304590418336374990 : True := ⟨⟩
theorem tw18141905520842769226 : True := ⟨⟩
theorem tw11313276459131080883 : True := ⟨⟩
theorem tw16850712774735690829 : True := ⟨⟩
theorem tw3858790546336736265 : True := ⟨⟩
theorem tw3275914734302095416 : True := ⟨⟩
theorem tw7134972546691788141 : True := ⟨⟩
theorem tw2116845616835496421 : True := ⟨⟩
theorem tw14870181469433949384 : True := ⟨⟩
theorem tw13800069215770657636 : True := ⟨⟩
theorem tw7113313317201847507 : True := ⟨⟩
theorem tw10278647862997341028 : True := ⟨⟩
theorem tw13700953748138115548 : True := ⟨⟩
theorem tw4687220259541810206 : True := ⟨⟩
theorem tw1821061665115224962 : True := ⟨⟩
theorem tw12036310354993231729 : True := ⟨⟩
theorem tw5490832681368439642 : True := ⟨⟩
theorem tw330291289270760281 : True := ⟨⟩
theorem tw16626450561857166952 : True := ⟨⟩
theorem tw4579765419635700841 : True := ⟨⟩
theorem tw10400827183062814746 : True := ⟨⟩
theorem tw9066097595160729903 : True := ⟨⟩
theorem tw7258515126471504012 : True := ⟨⟩
theorem tw6213993738235865638 : True := ⟨⟩
theorem tw3221407351692643003 : True := ⟨⟩
theorem tw15408076368287733770 : True := ⟨⟩
theorem tw801198730548330327 : True := ⟨⟩
theorem tw3302616576521313261 : True := ⟨⟩
theorem tw10625270063224666800 : True := ⟨⟩
theorem tw18107522543423762689 : True := ⟨⟩
theorem tw14953065222822141849 : True := ⟨⟩
theorem tw16223330905354667203 : True := ⟨⟩
theorem tw16127057144111329998 : True := ⟨⟩
theorem tw14129272297773102240 : True := ⟨⟩
theorem tw2943390408705909439 : True := ⟨⟩
theorem tw4889333669639263043 : True := ⟨⟩
theorem tw7615889284686451618 : True := ⟨⟩
theorem tw2858999552626264686 : True := ⟨⟩
theorem tw2056026221820626965 : True := ⟨⟩
theorem tw10531709725970449868 : True := ⟨⟩
theorem tw3364777993574749416 : True := ⟨⟩
theorem tw7979353059832043467 : True := ⟨⟩
theorem tw13092675869977686093 : True := ⟨⟩
theorem tw6326878938726101458 : True := ⟨⟩
theorem tw13037866091229955902 : True := ⟨⟩
theorem tw4984876858065081279 : True := ⟨⟩
theorem tw15521487252005135610 : True := ⟨⟩
theorem tw1006037928413362156 : True := ⟨⟩
theorem tw2803258295866904671 : True := ⟨⟩
theorem tw1093043417230314632 : True := ⟨⟩
theorem tw10563333639429641193 : True := ⟨⟩
theorem tw13969972600869989155 : True := ⟨⟩
theorem tw12834593342811883224 : True := ⟨⟩
theorem tw12581830501252064172 : True := ⟨⟩
theorem tw323005755179951849 : True := ⟨⟩
theorem tw18414782974599534792 : True := ⟨⟩
theorem tw1024806861502700956 : True := ⟨⟩
theorem tw18024905053184276285 : True := ⟨⟩
theorem tw17169424262762787766 : True := ⟨⟩
theorem tw7882621822479396348 : True := ⟨⟩
theorem tw4789229413131205933 : True := ⟨⟩
theorem tw15214243208715590045 : True := ⟨⟩
theorem tw14645295258826488450 : True := ⟨⟩
theorem tw1150427912642690365 : True := ⟨⟩
theorem tw9905723381842528339 : True := ⟨⟩
theorem tw9472896189593456947 : True := ⟨⟩
theorem tw14613708065599269267 : True := ⟨⟩
theorem tw10006731957363499423 : True := ⟨⟩
theorem tw4798408445994353429 : True := ⟨⟩
theorem tw6985540892948351234 : True := ⟨⟩
theorem tw7864616125985007707 : True := ⟨⟩
theorem tw10580739242687342240 : True := ⟨⟩
theorem tw8772923854627115271 : True := ⟨⟩
theorem tw821061792904116602 : True := ⟨⟩
theorem tw6816068182511380234 : True := ⟨⟩
theorem tw8967681414201649049 : True := ⟨⟩
theorem tw6966700297698363823 : True := ⟨⟩
theorem tw5019676763468025498 : True := ⟨⟩
theorem tw4668030568998926690 : True := ⟨⟩
theorem tw18251424402060339876 : True := ⟨⟩
theorem tw16342098777022061392 : True := ⟨⟩
theorem tw1482826007969582783 : True := ⟨⟩
theorem tw4568551145576317990 : True := ⟨⟩
theorem tw9310903378926806912 : True := ⟨⟩
theorem tw8052038868080467741 : True := ⟨⟩
theorem tw4058823869301363881 : True := ⟨⟩
theorem tw9235756486896423166 : True := ⟨⟩
theorem tw12326631258890717129 : True := ⟨⟩
theorem tw10847738167909469747 : True := ⟨⟩
theorem tw17554918789966416638 : True := ⟨⟩
theorem tw16086838771505547405 : True := ⟨⟩
theorem tw14627795168307847994 : True := ⟨⟩
theorem tw12501432655693400656 : True := ⟨⟩
theorem tw6324409610271778343 : True := ⟨⟩
theorem tw6160134821485493516 : True := ⟨⟩
theorem tw4996316453016297011 : True := ⟨⟩
theorem tw16462890812857331785 : True := ⟨⟩
theorem tw1446381074522586153 : True := ⟨⟩
theorem tw979748318250502129 : True := ⟨⟩
theorem tw9733936759056667611 : True := ⟨⟩
theorem tw2689273887807605060 : True := ⟨⟩
theorem tw1154841185425150576 : True := ⟨⟩
theorem tw11050758256999031818 : True := ⟨⟩
theorem tw9226552944270885047 : True := ⟨⟩
theorem tw5099450428589678935 : True := ⟨⟩
theorem tw5051573216471275492 : True := ⟨⟩
theorem tw4761713609858515599 : True := ⟨⟩
theorem tw3191883585261919000 : True := ⟨⟩
theorem tw1896162551782141472 : True := ⟨⟩
theorem tw183462242285475989 : True := ⟨⟩
theorem tw4155100209052985589 : True := ⟨⟩
theorem tw8247796893717080074 : True := ⟨⟩
theorem tw4968123922786247386 : True := ⟨⟩
theorem tw18356068590071188718 : True := ⟨⟩
theorem tw17289036278395690002 : True := ⟨⟩
theorem tw16900953136972124133 : True := ⟨⟩
theorem tw14786716073116432776 : True := ⟨⟩
theorem tw13575561014387569227 : True := ⟨⟩
theorem tw12099482546111690580 : True := ⟨⟩
theorem tw15526323165381311797 : True := ⟨⟩
end DK.holds
open PySem PySem.W PyProof.Rows
set_option tactic.hygienic true
set_option Elab.async true in
set_option maxHeartbeats 8000000 in
theorem DK.holds : PySem.Challenge.rw_nt0504_01.Holds := by
  w_on; o_law; k_head; (case hw => w_witness2)
  k_fill
  intro w s₀ s₁ mg mb G Y fa o pm cd doc dV kV ho hd hcd hD hmg hg args vals as hpre hlay hrd hwl hlo
  have KX := km_in_of Y
  km_tabs Y
  refine Ground.open G ?_
  intro T B D TE TW
  km_lay T hmg ho hd cd
  have hfa : fa = 736 := by
    have := mg_of (v := .ref 736) KX T.g (n := "law") (by kernel_rfl)
    exact Value.ref.inj (Option.some.inj (hmg.symm.trans this))
  subst hfa
  clear hcd hD hd hmg ho D TE TW B
  wrow_args hpre hlay hrd hwl hlo
  refine enter_call ?_
  kn_posts
  rename_i xs _ _ _ _ _ _ L _ _ hL _ hw _ hI _ hz _
  refine' DK.law_walk KX hT9 T (by kernel_rfl) (by kernel_rfl) (by kernel_rfl) (by kernel_rfl) (by kernel_rfl) (by kernel_rfl) (by kernel_rfl) (by kernel_rfl) (by kernel_rfl) (by kernel_rfl) (by unfold DK.Texts; kernel_rfl) (DK.exc_of (by kernel_rfl)) ?hC hL hw hI hz ?hB
  case hC => exact rfl
  case hB => exact fun s' h1 h2 h3 h4 => ⟨⟨.inl ⟨_, _, [], rfl, fun _ => rfl, .bool true, (by kernel_rfl), fun _ => ⟨.nil, fun _ h => nomatch h⟩⟩, h1, h4, h3.trans hg⟩, h2⟩
theorem PySem.Challenge.cw_nt0504_01_holds : PySem.Challenge.rw_nt0504_01.Holds :=
  DK.holds
