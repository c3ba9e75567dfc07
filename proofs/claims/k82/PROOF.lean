import PyProof.Rows.All
import Wide.All
import OpenK.AllK
import Wide.FinOn
import KE.KStateDown
import HandS.Words
import HandS.ExcInit
import HandS.Head0
import HandS.Head1
import HandS.Head2
import HandS.HeadEnd
import HandS.HeadHook2
import HandS.HeadHook3
import HandS.HeadHook4
import HandS.ForMost
import HandS.Exc
import HandS.IsInst
import KE.SortData
import PyProof.ReprRoads
import HandS.Evl
import HandS.TupAny
import HandS.Conv
import HandS.More
import HandS.Strs
import HandS.SetFor
import HandS.Star
import HandS.Codes
import HandS.Flow
import KE.GoesNew
import HandS.Zip
import HandS.Style
import HandS.ExcOwn
import HandS.Small
import HandS.WordsExc
import HandS.ExcIs
import HandS.Ends
import HandS.Defaults
import HandS.ExcBuiltin
import HandS.HeadHook1
import HandS.OwnEq
import KE.OsSortAny
import PySem.Challenge.RW_timedways_k82_whole_taken_back
set_option Elab.async false
set_option linter.all false
set_option maxRecDepth 100000
set_option maxHeartbeats 4000000
/-! Cor0: what the head looks at. -/
namespace Cor
open PySem PySem.Spec PyProof.Rows L2
def hD (x : Str) (st : Stmt) (df : List He.Dv := []) : He.DefD := ⟨(x, none), x, x, defArgs st, defBody st, defScope st, df, []⟩
def hM (C m : Str) (q : Str) (st : Stmt) : He.DefD := ⟨(C, some m), m, q, defArgs st, defBody st, defScope st, [], []⟩
/-- an own error's class, its field f -/
def oexB (K : PySem.W.Frag) (C : Addr) : Bool := match K.lookup C with
  | some ⟨.type t, _, .cls ⟨_, _, .ref C' :: bm, _, _, hd, _, _, _, _, hdel⟩, ⟨[_, _, _, _, some (.builtin n), _]⟩⟩ => decide (t = "type") && (decide (C' = C) && (hd && (!hdel && (decide (n = "ValueError.__new__") && PySem.HandSPX.refsVE bm))))
  | _ => false
def errB (K : PySem.W.Frag) (x f : Str) : Bool := oexB K (He.ga K x) && (He.eqO (PySem.W.findIn K (.ref (He.ga K x)) "__setattr__") (some (some (.builtin "object.__setattr__"))) && (decide (PySem.W.subIn K (.ref (He.ga K x)) (.type "BaseException") = some true) && (decide (PySem.W.typeIn K (.ref (He.ga K x)) = some (.type "type")) &&
  (PySem.W.keepIn K (.ref (He.ga K x)) && (He.eqO (PySem.W.findIn K (.ref (He.ga K x)) f) (some none) && (He.eqO (PySem.W.findIn K (.ref (He.ga K x)) "__init__") (some (some (.ref (He.ma K (He.ga K x) "__init__")))) && (decide (PySem.W.typeIn K (.ref (He.ma K (He.ga K x) "__init__")) = some (.type "function")) && He.eqO (PySem.W.nsIn K mainGlobals x) (some (some (.ref (He.ga K x))))))))))) 
/-- its reading in an except clause -/
def errRB (K : PySem.W.Frag) (x f : Str) : Bool := He.eqO (PySem.W.findIn K (.ref (He.ga K x)) "__getattribute__") (some (some (.builtin "BaseException.__getattribute__"))) && (He.eqO (PySem.W.findIn K (.ref (He.ga K x)) "__getattr__") (some none) && (decide (PySem.W.subIn K (.ref (He.ga K x)) (.type "BaseException") = some true) && (PySem.W.hasDictIn K (He.ga K x) && He.eqO (PySem.W.findIn K (.ref (He.ga K x)) f) (some none))))
/-- isinstance of it -/
def excCB (K : PySem.W.Frag) (x : Str) : Bool := He.eqO (PySem.W.findIn K (.ref (He.ga K x)) "__getattribute__") (some (some (.builtin "BaseException.__getattribute__"))) && (He.eqO (PySem.W.findIn K (.ref (He.ga K x)) "__getattr__") (some none) && (decide (PySem.W.subIn K (.ref (He.ga K x)) (.type "BaseException") = some true) && (PySem.W.hasDictIn K (He.ga K x) &&
  (He.eqO (PySem.W.findIn K (.ref (He.ga K x)) "__class__") (some (some (.builtin "object.__class__"))) && (He.eqO (PySem.W.specialIn K (.builtin "object.__class__") "__get__") (some (some (.builtin "getset_descriptor.__get__"))) && (decide (PySem.W.takesIn K (.builtin "object.__class__") = some true) && decide (PySem.W.mroIn K (He.ga K x) (.type "object") = some true)))))))
def kitCB (K : PySem.W.Frag) (x y : Str) (b : Bool) : Bool := decide (PySem.W.kitOne K (.ref (He.ga K x)) (.ref (He.ga K y)) = some b)
/-- == of instances -/
def insB (K : PySem.W.Frag) (x : Str) : Bool := He.eqO (PySem.W.findIn K (.ref (He.ga K x)) "__class__") (some (some (.builtin "object.__class__"))) && (He.eqO (PySem.W.specialIn K (.builtin "object.__class__") "__get__") (some (some (.builtin "getset_descriptor.__get__"))) && (decide (PySem.W.takesIn K (.builtin "object.__class__") = some true) && (decide (PySem.W.mroIn K (He.ga K x) (.type "object") = some true) && decide (PySem.W.kitOne K (.ref (He.ga K x)) (.ref (He.ga K x)) = some true))))
def nfB (K : PySem.W.Frag) (x : Str) (t : String) : Bool := PySem.W.notFirst K (He.ga K x) (.type t)
def ktB (K : PySem.W.Frag) (t : String) (x : Str) : Bool := decide (PySem.W.kitOne K (.type t) (.ref (He.ga K x)) = some false)
/-- a written dict of ints by texts -/
def entB : List DictEntry → List (Str × Int) → Bool
  | [], [] => true
  | e :: es, q :: qs => (match e.key, e.val with
    | .str x _, .int i _ => decide (x = q.1) && decide (i = q.2)
    | _, _ => false) && entB es qs
  | _, _ => false
def wrtB (K : PySem.W.Frag) (x : Str) (kvs : List (Str × Int)) : Bool := match K.lookup (He.ga K x) with
  | some ⟨.type t, none, .dict es _, ⟨[]⟩⟩ => decide (t = "dict") && (entB es.toList kvs && (!(He.ga K x == sysModules) && He.eqO (PySem.W.nsIn K mainGlobals x) (some (some (.ref (He.ga K x))))))
  | _ => false
end Cor
set_option Elab.async false
set_option linter.all false
set_option maxRecDepth 100000
set_option maxHeartbeats 0
/-! The head of the law: what the top makes. -/
namespace Cor
open PySem PySem.Spec PyProof.Rows L2
def top (i : Nat) : Stmt := PySem.Challenge.pw_timedways_k82_whole_taken_back.main.body.getD i (.Pass ⟨0, 0, 0, 0⟩)
def fn0 : List He.DefD := [hD "is_whole" (top 8), hD "is_number" (top 9) [.int 0, .non], hD "is_between" (top 10), hD "is_string" (top 11), hD "is_places" (top 20), hD "is_kind" (top 21), hD "is_place" (top 23), hD "is_time" (top 24), hD "is_meeting" (top 25), hD "ends_of" (top 26), hD "made_web" (top 27), hD "without_by" (top 28), hD "led_at" (top 29), hD "arrivals_by" (top 30), hD "come_by" (top 31), hD "table_by" (top 32), hD "deaf_by" (top 33), hD "is_whole_by" (top 34), hD "has_form" (top 41), hM "InvalidKind" "__init__" "InvalidKind.__init__" (inClass (top 3) 0), hD "check_kind" (top 22), hM "InvalidDeed" "__init__" "InvalidDeed.__init__" (inClass (top 4) 0), hD "check_meet" (top 42), hD "check_deed" (top 43), hD "meeting_of" (top 44), hD "reason_to_move" (top 46), hD "reason_against" (top 45), hD "web_behind" (top 47), hM "InvalidNumber" "__init__" "InvalidNumber.__init__" (inClass (top 2) 0), hM "Book" "__init__" "Book.__init__" (inClass (top 48) 0)]
def fn1 : List He.DefD := [hM "Barred" "__init__" "Barred.__init__" (inClass (top 5) 0), hM "Book" "do" "Book.do" (inClass (top 48) 1), hM "Book" "undo" "Book.undo" (inClass (top 48) 2), hM "Book" "table" "Book.table" (inClass (top 48) 3), hM "Book" "is_whole" "Book.is_whole" (inClass (top 48) 4), hD "led_by" (top 49), hM "Book" "__eq__" "Book.__eq__" (inClass (top 48) 5), hD "_law_pool" (top 51), hD "_law_draw" (top 52), hD "_law_pick" (top 53), hD "_law_kind" (top 54), hD "_law_two" (top 55), hD "_law_begun" (top 57), hD "_law_deed" (top 58), hD "_law_triple" (top 59), hD "_law_after" (top 60), hD "_law_barred" (top 56), hD "_law_told" (top 61), hD "_law_undone" (top 62), hD "_law_right" (top 63), hD "law" (top 64)]
def fn : List He.DefD := fn0 ++ fn1
def fa0 : List He.Fa := [.free "len", .free "sorted", .free "tuple", .free "list", .free "min", .free "max", .free "abs", .free "int", .free "divmod", .free "str", .free "repr", .free "all", .free "any", .free "sum", .free "isinstance", .free "range", .free "enumerate", .free "zip", .free "set", .free "bool", .free "dict", .glo "is_whole", .glo "is_number", .glo "is_between", .glo "is_string", .int "MOST_PLACES" 6, .int "FEWEST_PLACES" 2, .glo "is_places", .glo "KINDS", .glo "is_kind"]
def fa1 : List He.Fa := [.glo "is_place", .int "MOST_TIME" 20, .glo "is_time", .glo "is_meeting", .glo "ends_of", .glo "made_web", .glo "without_by", .str "STRICT" "strict", .glo "led_at", .glo "arrivals_by", .glo "come_by", .glo "table_by", .glo "deaf_by", .glo "is_whole_by", .glo "has_form", .glo "check_kind", .glo "check_meet", .glo "check_deed", .glo "meeting_of", .str "SAME" "same", .str "HAD" "had", .glo "reason_to_move", .int "MOST_MEETINGS" 12, .str "FULL" "full", .str "NONE" "none", .glo "reason_against", .glo "web_behind", .glo "Book", .cls "Book", .noat "Book" "places"]
def fa2 : List He.Fa := [.noat "Book" "kind", .noat "Book" "web", .noat "Book" "deeds", .noat "Book" "past", .mkr "Book", .meth "Book" "__init__", .meth "Book" "do", .glo "NothingToUndo", .exc "NothingToUndo", .meth "Book" "undo", .meth "Book" "table", .meth "Book" "is_whole", .glo "led_by", .meth "Book" "__eq__", .glo "_law_pool", .glo "_law_draw", .glo "_law_pick", .glo "_law_kind", .glo "_law_two", .glo "_law_begun", .glo "_law_deed", .glo "_law_triple", .glo "_law_after", .glo "_law_barred", .glo "Barred", .exm "Barred" "Barred" true, .glo "_law_told", .glo "_law_undone", .glo "WayError", .exm "NothingToUndo" "NothingToUndo" true]
def fa3 : List He.Fa := [.glo "_law_right", .glo "law"]
def fa : List He.Fa := fa0 ++ fa1 ++ fa2 ++ fa3
def ts : List He.Tab := [(fun K => He.ga K "SIZES", ["meet", "strike", "move"])]
def exl0 : List (PySem.W.Frag → Bool) := [(fun K => He.tupB K "KINDS" [.str "strict", .str "loose"]), (fun K => wrtB K "SIZES" [("meet", 4), ("strike", 2), ("move", 3)]), (fun K => errB K "InvalidKind" "given"), (fun K => errB K "InvalidDeed" "index"), (fun K => errB K "InvalidNumber" "given"), (fun K => errB K "Barred" "reason"), (fun K => insB K "Book"), (fun K => nfB K "Book" "NoneType"), (fun K => nfB K "Book" "bool"), (fun K => nfB K "Book" "int"), (fun K => nfB K "Book" "str"), (fun K => ktB K "NoneType" "Book"), (fun K => ktB K "bool" "Book"), (fun K => ktB K "int" "Book"), (fun K => ktB K "str" "Book"), (fun K => errRB K "Barred" "reason"), (fun K => excCB K "NothingToUndo"), (fun K => kitCB K "NothingToUndo" "WayError" true)]
def exl : List (PySem.W.Frag → Bool) := exl0
def hEx (K : PySem.W.Frag) : Bool := exl.all fun t => t K
def loose0 : List PySem.Str := ["FEWEST_PLACES", "MOST_PLACES", "MOST_MEETINGS", "MOST_TIME", "STRICT", "LOOSE", "KINDS", "SIZES", "HAD", "FULL", "NONE", "SAME", "WayError", "InvalidNumber", "InvalidKind", "InvalidDeed", "Barred", "NothingToUndo", "is_whole", "is_number", "is_between", "is_string", "is_places", "is_kind", "check_kind", "is_place", "is_time", "is_meeting", "ends_of", "made_web"]
def loose1 : List PySem.Str := ["without_by", "led_at", "arrivals_by", "come_by", "table_by", "deaf_by", "is_whole_by", "has_form", "check_meet", "check_deed", "meeting_of", "reason_against", "reason_to_move", "web_behind", "Book", "led_by", "_law_pool", "_law_draw", "_law_pick", "_law_kind", "_law_two", "_law_barred", "_law_begun", "_law_deed", "_law_triple", "_law_after", "_law_told", "_law_undone", "_law_right"]
def loose : List PySem.Str := loose0 ++ loose1
abbrev R : PySem.W.OpenRow := PySem.W.OpenLaw.row PySem.Challenge.rw_timedways_k82_whole_taken_back
abbrev hk : PySem.W.Hook := He.hookX 5 fa fn ts [] hEx
def ob (s : PySem.W.SharedT) : He.AlX := He.obsX 5 fa fn ts [] hEx (HandSHeadRun.getT s)
theorem ob_eq (s : PySem.W.SharedT) : ob s = hk.obs s.abs := He.obsX_eq (HandSHeadRun.getT_eq s)
def Ok (w : World) : Prop := HandSHeadRun.RunEq R (PySem.W.view R.prog [64]) hk ob 4000 loose w
theorem run_f (w : World) : Ok (w.withFollow "special-get-raises" false) := by
  unfold Ok; intro os; kernel_rfl
theorem run_t (w : World) : Ok (w.withFollow "special-get-raises" true) := by
  unfold Ok; intro os; kernel_rfl
theorem run (w : World) : Ok w := PySem.W.byRow2 "special-get-raises" run_f run_t w
end Cor
set_option Elab.async false
set_option linter.all false
set_option maxRecDepth 100000
/-! Core 1: a small language with value semantics over PyData, its evaluator. -/
namespace Cor
open PySem PySem.Spec PyProof.Rows L2

/-- what a slot holds: nothing known, a value that never changes from now on, a list or dict of its own that may be changed in place -/
inductive Sl where
  | emp
  | val (d : PyData)
  | lst (ds : List PyData)
  | dct (kvs : List (Key × PyData))
  | bk (fs : List PyData) (past : List PyData)
abbrev Rho := List Sl
/-- what an expression gives: a value; the object of an owned slot; a new object -/
inductive Arg where
  | val (d : PyData)
  | own (i : Nat)
  | fr (s : Sl)
/-- an own error: its class, its field, what that holds -/
structure Exn where
  cls : Str
  fld : Str
  val : PyData
/-- a def of the table: gives a value; makes a new object; changes its first argument; gives a value or raises; reads and changes two -/
inductive Fn where
  | pur (f : List PyData → Option PyData)
  | mak (f : List PyData → Option Sl)
  | mut (f : Sl → List PyData → Option (PyData × Sl))
  | rmu (f : Sl → List PyData → Option (Except Exn PyData × Sl))
  | rai (f : List PyData → Option (Except Exn PyData))
  | two (f : Sl → Sl → Option (PyData × Sl × Sl))

inductive Ty where | int | bool | str | tup | lst
inductive Bi where
  | len | srt | tup | lst | srtSet | mn | mx | abs | int1 | divm | str1 | rep | all | any | sum | isi (t : Ty) | get1 | dct1

inductive Tg where
  | nm (i : Nat)
  | tp (ts : List Nat)
mutual
inductive CE where
  | var (i : Nat)
  | cst (d : PyData)
  | tup (es : CA)
  | lst (es : CA)
  | bin (op : Operator) (a b : CE)
  | neg (a : CE)
  | cmp (op : CmpOp) (a b : CE)
  | chn (o1 o2 : CmpOp) (a b c : CE)
  | andd (a b : CE)
  | orr (a b : CE)
  | nott (a : CE)
  | ife (c : CT) (a b : CE)
  | idx (a i : CE)
  | sli (a : CE) (lo hi : CO)
  | cal (k : Nat) (es : CA)
  | bi (b : Bi) (es : CA)
  | dsp (k v : CE)
  | pop (i : Nat)
  | fld (i : Nat) (j : Nat)
  | mth (k i : Nat) (es : CA)
  | pemp (i : Nat)
  | ppop (i : Nat)
  | isb (i : Nat)
  | oeq (k : Nat) (neg : Bool) (i : Nat) (e : CE)
  | rep1 (es : CA)
  | inW (kvs : List (Str × Int)) (e : CE)
  | atW (kvs : List (Str × Int)) (e : CE)
  | comp (it : CI) (tg : Tg) (c : CT) (elt : CE) (vs : List Nat)
  | comp2 (it : CI) (tg : Tg) (c : CT) (it2 : CI) (tg2 : Tg) (c2 : CT) (elt : CE) (vs vs2 : List Nat)
inductive CT where
  | yes
  | tand (a b : CT)
  | tor (a b : CT)
  | tnot (a : CT)
  | tval (e : CE)
inductive CA where
  | nil
  | cons (star : Bool) (e : CE) (r : CA)
inductive CO where
  | non
  | som (e : CE)
inductive CI where
  | seq (e : CE)
  | rng1 (e : CE)
  | rng2 (a b : CE)
  | enu (e : CE)
  | zip (a b : CE)
  | str (e : CE)
end

/-! ### values -/
def sm {α : Type} (l : List α) : Bool := decide (l.length ≤ 100000)
def smS (x : Str) : Bool := decide (x.length ≤ 100000)
def truD : PyData → Bool
  | .none => false
  | .bool b => b
  | .int i => i != 0
  | .str x => x.length != 0
  | .list xs => !xs.isEmpty
  | .tuple xs => !xs.isEmpty
  | .dict _ => false
def truS : Sl → Option Bool
  | .emp => none
  | .val (.str x) => if smS x then some (x.length != 0) else none
  | .val (.dict _) => none
  | .val d => some (truD d)
  | .lst ds => some (!ds.isEmpty)
  | .dct kvs => some (!kvs.isEmpty)
  | .bk _ _ => none
def datS : Sl → Option PyData
  | .val d => some d
  | .lst ds => some (.list ds)
  | _ => none
/-- the items of a list or a tuple -/
def seqS : Sl → Option (List PyData)
  | .val (.list ds) => some ds
  | .val (.tuple ds) => some ds
  | .lst ds => some ds
  | _ => none
def keyD : PyData → Option Key
  | .int i => some (.inl i)
  | .str x => some (.inr x)
  | _ => none
def dKey : Key → PyData
  | .inl i => .int i
  | .inr x => .str x
def atD (ds : List PyData) (i : Int) : Option PyData := atI ds i
def cutD (ds : List PyData) (lo hi : Option Int) : List PyData := (ds.drop (HT.sIx ds.length 0 lo)).take (HT.sIx ds.length ds.length hi - HT.sIx ds.length 0 lo)
def shp (d : PyData) : Bool := SeqAt.shaped d
def valD (kvs : List (Key × PyData)) (k : Key) : Option PyData := (kvs.find? fun kv => decide (kv.1 = k)).map (·.2)
def putD (kvs : List (Key × PyData)) (k : Key) (v : PyData) : List (Key × PyData) :=
  if kvs.any (fun kv => decide (kv.1 = k)) then kvs.map fun kv => if kv.1 = k then (kv.1, v) else kv else kvs ++ [(k, v)]
def sortOk (ds : List PyData) : Bool := sm ds && ds.all (fun d => ds.all fun e => PySem.W.alike d e) && ds.all (fun d => decide (d.depth ≤ 64)) &&
  ((ds.all fun d => match d with | .tuple (_ :: _) => true | _ => false) || ds.all fun d => match d with | .none => false | .tuple _ => false | _ => true)
def srtD (ds : List PyData) : List PyData := ds.mergeSort (PySem.W.dataLe false id)
def intsD : List PyData → Option (List Int)
  | [] => some []
  | .int i :: r => (intsD r).map (i :: ·)
  | _ :: _ => none
def bolsD : List PyData → Option (List Bool)
  | [] => some []
  | .bool b :: r => (bolsD r).map (b :: ·)
  | _ :: _ => none
def strsD : List PyData → Option (List Str)
  | [] => some []
  | .str b :: r => (strsD r).map (b :: ·)
  | _ :: _ => none
/-- an int put into an ascending list that has each once -/
def insU (i : Int) : List Int → List Int
  | [] => [i]
  | j :: r => if i < j then i :: j :: r else if i = j then j :: r else j :: insU i r
/-- each int once, ascending -/
def uniqI (l : List Int) : List Int := l.foldr insU []
def isiD : Ty → PyData → Bool
  | .int, .int _ => true
  | .int, .bool _ => true
  | .bool, .bool _ => true
  | .str, .str _ => true
  | .tup, .tuple _ => true
  | .lst, .list _ => true
  | _, _ => false
def small64 (i : Int) : Bool := decide (-(2 ^ 64) < i) && decide (i < 2 ^ 64)

/-! ### operators -/
def binS (op : Operator) (x y : Sl) : Option Arg :=
  match op, x, y with
  | .Add, .val (.int i), .val (.int j) => some (.val (.int (i + j)))
  | .Sub, .val (.int i), .val (.int j) => some (.val (.int (i - j)))
  | .Mult, .val (.int i), .val (.int j) => if small64 i || small64 j then some (.val (.int (i * j))) else none
  | .Mod, .val (.int i), .val (.int j) => if 0 < j then some (.val (.int (i % j))) else none
  | .FloorDiv, .val (.int i), .val (.int j) => if 0 < j ∧ j < 1073741824 then some (.val (.int (i / j))) else none
  | .Pow, .val (.int i), .val (.int j) => if 0 ≤ j ∧ j ≤ 1000 ∧ i.natAbs < 2 ^ 64 then some (.val (.int (i ^ j.toNat))) else none
  | .Add, .val (.str a), .val (.str b) => if smS a && smS b then some (.val (.str (a ++ b))) else none
  | .Add, .val (.tuple xs), .val (.tuple ys) => if sm xs && sm ys then some (.val (.tuple (xs ++ ys))) else none
  | .Add, x, y =>
    match datS x, datS y with
    | some (.list xs), some (.list ys) => if sm xs && sm ys then some (.fr (.lst (xs ++ ys))) else none
    | _, _ => none
  | _, _, _ => none
def negS : Sl → Option Arg
  | .val (.int i) => some (.val (.int (-i)))
  | _ => none
def eqS (x y : Sl) : Option Bool :=
  match datS x, datS y with
  | some d, some e => if shp d && shp e then some (PyData.eqv d e) else none
  | _, _ => none
def inS (x y : Sl) : Option Bool :=
  match x, y with
  | .val d, .dct kvs => (keyD d).map fun k => (valD kvs k).isSome
  | .val d, .val (.tuple ds) => if shp d && shp (.tuple ds) then some (ds.any fun e => PyData.eqv e d) else none
  | .val (.str _), .val (.str _) => none
  | x, y =>
    match datS x, datS y with
    | some d, some (.list ds) => if shp d && shp (.list ds) then some (ds.any fun e => PyData.eqv e d) else none
    | _, _ => none
def ltS : Sl → Sl → Option Bool
  | .val (.int i), .val (.int j) => some (decide (i < j))
  | .val (.tuple xs), .val (.tuple ys) => match intsD xs, intsD ys with
    | some a, some b => some (HT.lexLt a b)
    | _, _ => none
  | _, _ => none
def leS : Sl → Sl → Option Bool
  | .val (.int i), .val (.int j) => some (decide (i ≤ j))
  | _, _ => none
def gtS : Sl → Sl → Option Bool
  | .val (.int i), .val (.int j) => some (decide (j < i))
  | _, _ => none
def geS : Sl → Sl → Option Bool
  | .val (.int i), .val (.int j) => some (decide (j ≤ i))
  | _, _ => none
def isN : PyData → Bool
  | .none => true
  | _ => false
def isS : Sl → Sl → Option Bool
  | .val d, .val .none => some (isN d)
  | _, _ => none
def cmpS (op : CmpOp) (x y : Sl) : Option Bool :=
  match op with
  | .Eq => eqS x y
  | .NotEq => (eqS x y).map (!·)
  | .Lt => ltS x y
  | .LtE => leS x y
  | .Gt => gtS x y
  | .GtE => geS x y
  | .Is => isS x y
  | .IsNot => (isS x y).map (!·)
  | .In => inS x y
  | .NotIn => (inS x y).map (!·)
def idxS (x i : Sl) : Option Arg :=
  match x, i with
  | .dct kvs, .val d => (keyD d).bind fun k => (valD kvs k).map Arg.val
  | .val (.str z), .val (.int i) => if smS z then (atI z.cps.toList i).map fun c => Arg.val (.str ⟨#[c]⟩) else none
  | x, .val (.int i) => (seqS x).bind fun ds => (atD ds i).map Arg.val
  | _, _ => none
def sliS (x : Sl) (lo hi : Option Int) : Option Arg :=
  match x with
  | .val (.str z) => if smS z then some (.val (.str (cutS z lo hi))) else none
  | .val (.tuple ds) => some (.val (.tuple (cutD ds lo hi)))
  | x => match datS x with
    | some (.list ds) => some (.fr (.lst (cutD ds lo hi)))
    | _ => none

/-! ### built-ins -/
def lenB : List Sl → Option Arg
  | [.val (.str z)] => if smS z then some (.val (.int z.length)) else none
  | [.dct kvs] => some (.val (.int kvs.length))
  | [x] => (seqS x).map fun ds => .val (.int ds.length)
  | _ => none
def keysD (kvs : List (Key × PyData)) : List PyData := kvs.map fun kv => dKey kv.1
def srtB : List Sl → Option Arg
  | [.dct kvs] => (intsD (keysD kvs)).bind fun ns => if decide (ns.length < 64) then some (.fr (.lst (srtD (ns.map .int)))) else none
  | [x] => (datS x).bind fun d => match d with
    | .list ds => if sortOk ds then some (.fr (.lst (srtD ds))) else none
    | _ => none
  | _ => none
def srtSetB : List Sl → Option Arg
  | [x] => (datS x).bind fun d => match d with
    | .list ds => (intsD ds).bind fun ns => if decide (ns.length < 64) then some (.fr (.lst ((uniqI ns).map .int))) else none
    | _ => none
  | _ => none
def tupB : List Sl → Option Arg
  | [x] => (seqS x).map fun ds => .val (.tuple ds)
  | _ => none
def lstB : List Sl → Option Arg
  | [.dct kvs] => some (.fr (.lst (keysD kvs)))
  | [x] => (seqS x).map fun ds => .fr (.lst ds)
  | _ => none
def leastI (i : Int) : List Int → Int
  | [] => i
  | j :: r => leastI (if j < i then j else i) r
def mostI (i : Int) : List Int → Int
  | [] => i
  | j :: r => mostI (if j > i then j else i) r
def minB : List Sl → Option Arg
  | [.val (.int i), .val (.int j)] => some (.val (.int (if j < i then j else i)))
  | [x] => (seqS x).bind fun ds => (intsD ds).bind fun ns => match ns with
      | [] => none
      | i :: r => some (.val (.int (leastI i r)))
  | _ => none
def maxB : List Sl → Option Arg
  | [.val (.int i), .val (.int j)] => some (.val (.int (if j > i then j else i)))
  | [x] => (seqS x).bind fun ds => (intsD ds).bind fun ns => match ns with
      | [] => none
      | i :: r => some (.val (.int (mostI i r)))
  | _ => none
def absB : List Sl → Option Arg
  | [.val (.int i)] => some (.val (.int (if i < 0 then -i else i)))
  | _ => none
def intB : List Sl → Option Arg
  | [.val (.int i)] => some (.val (.int i))
  | [.val (.bool b)] => some (.val (.int (if b then 1 else 0)))
  | _ => none
def divB : List Sl → Option Arg
  | [.val (.int i), .val (.int j)] => if 0 < j ∧ j < 1073741824 then some (.val (.tuple [.int (i / j), .int (i % j)])) else none
  | _ => none
def strB : List Sl → Option Arg
  | [.val (.int i)] => if i.natAbs < 1000000 then some (.val (.str (toString i))) else none
  | _ => none
def allB : List Sl → Option Arg
  | [x] => (datS x).bind fun d => match d with
    | .list ds => (bolsD ds).map fun bs => .val (.bool (bs.all id))
    | _ => none
  | _ => none
def anyB : List Sl → Option Arg
  | [x] => (datS x).bind fun d => match d with
    | .list ds => (bolsD ds).map fun bs => .val (.bool (bs.any id))
    | _ => none
  | _ => none
def sumB : List Sl → Option Arg
  | [x] => (datS x).bind fun d => match d with
    | .list ds => (intsD ds).map fun ns => .val (.int ns.sum)
    | _ => none
  | _ => none
def isiB (t : Ty) : List Sl → Option Arg
  | [x] => (datS x).map fun d => .val (.bool (isiD t d))
  | _ => none
def getB : List Sl → Option Arg
  | [.dct kvs, .val d] => (keyD d).map fun k => .val ((valD kvs k).getD .none)
  | _ => none
/-- pairs of a key and a value -/
def prD : List PyData → Option (List (Key × PyData))
  | [] => some []
  | .tuple [k, v] :: r => (keyD k).bind fun kk => (prD r).map fun t => (kk, v) :: t
  | _ :: _ => none
def mrgD (l : List (Key × PyData)) : List (Key × PyData) := l.foldl (fun acc q => putD acc q.1 q.2) []
def dictB : List Sl → Option Arg
  | [x] => (datS x).bind fun d => match d with
    | .list ds => (prD ds).map fun l => .fr (.dct (mrgD l))
    | _ => none
  | _ => none
def repB : List Sl → Option Arg
  | [x] => (datS x).bind fun d => match d with
    | .list ds => if PyData.showable (.list ds) && smS (PyData.shown (.list ds)) && decide (PyData.depth (.list ds) ≤ 64) && !PyData.hasDict (.list ds) then some (.val (.str (PyData.shown (.list ds)))) else none
    | .tuple ds => if PyData.showable (.tuple ds) && smS (PyData.shown (.tuple ds)) && decide (PyData.depth (.tuple ds) ≤ 64) && !PyData.hasDict (.tuple ds) then some (.val (.str (PyData.shown (.tuple ds)))) else none
    | .none => some (.val (.str (PyData.shown .none)))
    | .bool b => some (.val (.str (PyData.shown (.bool b))))
    | .int i => if i.natAbs.log2 < 1920 then some (.val (.str (PyData.shown (.int i)))) else none
    | .str x => if smS (PyData.shown (.str x)) then some (.val (.str (PyData.shown (.str x)))) else none
    | .dict _ => none
  | _ => none
def biS : Bi → List Sl → Option Arg
  | .len => lenB
  | .srt => srtB
  | .srtSet => srtSetB
  | .tup => tupB
  | .lst => lstB
  | .mn => minB
  | .mx => maxB
  | .abs => absB
  | .int1 => intB
  | .divm => divB
  | .str1 => strB
  | .rep => repB
  | .all => allB
  | .any => anyB
  | .sum => sumB
  | .isi t => isiB t
  | .get1 => getB
  | .dct1 => dictB

/-! ### the state -/
def cont (ρ : Rho) : Arg → Option Sl
  | .val d => some (.val d)
  | .own i => ρ[i]?
  | .fr s => some s
/-- a value for good -/
def frz (ρ : Rho) : Arg → Option (PyData × Rho)
  | .val d => some (d, ρ)
  | .fr (.lst ds) => some (.list ds, ρ)
  | .fr (.val d) => some (d, ρ)
  | .own i => match ρ[i]? with
    | some (.lst ds) => some (.list ds, ρ.set i (.val (.list ds)))
    | some (.val d) => some (d, ρ)
    | _ => none
  | _ => none
def look (ρ : Rho) (i : Nat) : Option Arg :=
  match ρ[i]? with
  | some (.val d) => some (.val d)
  | some (.lst _) => some (.own i)
  | some (.dct _) => some (.own i)
  | some (.bk _ _) => some (.own i)
  | _ => none
/-- the slots vs forgotten -/
def wipeR (ρ : Rho) : List Nat → Rho
  | [] => ρ
  | v :: vs => (wipeR ρ vs).set v .emp
/-- the slots vs as they were -/
def backR (ρ0 ρ : Rho) : List Nat → Rho
  | [] => ρ
  | v :: vs => (backR ρ0 ρ vs).set v (ρ0.getD v .emp)
def plainSl : Sl → Bool
  | .emp => true
  | .val _ => true
  | _ => false
def noEmp : Sl → Bool
  | .emp => false
  | _ => true
def freeR (ρ : Rho) (vs : List Nat) : Bool := vs.all fun v => plainSl (ρ.getD v .emp)
def setNames : List Nat → List PyData → Rho → Option Rho
  | [], [], ρ => some ρ
  | i :: is, d :: ds, ρ => if i < ρ.length then setNames is ds (ρ.set i (.val d)) else none
  | _, _, _ => none
def storeS (sl : Sl) (k d : PyData) : Option Sl :=
  match sl, k with
  | .lst ds, .int i => (ixN ds.length i).map fun j => .lst (ds.set j d)
  | .dct kvs, k => (keyD k).bind fun k => if sm kvs then some (.dct (putD kvs k d)) else none
  | _, _ => none
/-- a comprehension's turns -/
def compGo (ρ0 : Rho) (vs : List Nat) (asg : PyData → Rho → Option Rho) (fc : Rho → Option (Bool × Rho)) (fe : List PyData → Rho → Option (List PyData × Rho)) : List PyData → List PyData → Rho → Option (List PyData × Rho)
  | [], acc, ρ => some (acc, ρ)
  | d :: r, acc, ρ => do
    let ρ1 ← asg d (wipeR ρ vs)
    let (b, ρ2) ← fc ρ1
    if b then
      let (acc', ρ3) ← fe acc ρ2
      compGo ρ0 vs asg fc fe r acc' (backR ρ0 ρ3 vs)
    else compGo ρ0 vs asg fc fe r acc (backR ρ0 ρ2 vs)

def rngD (a b : Int) : List PyData := (List.range (b - a).toNat).map fun i => .int (a + (i : Nat))
def enuD (ds : List PyData) : List PyData := ds.zipIdx.map fun p => .tuple [.int (p.2 : Nat), p.1]
def zipD (a b : List PyData) : List PyData := (a.zip b).map fun p => .tuple [p.1, p.2]

/-- a loop's or a comprehension's target: names alone -/
def asgT : Tg → PyData → Rho → Option Rho
  | .nm i, d, ρ => if i < ρ.length then some (ρ.set i (.val d)) else none
  | .tp is, .tuple ds, ρ => setNames is ds ρ
  | _, _, _ => none

/-- none, a truth, a number, a text -/
def flatD : PyData → Bool
  | .none => true
  | .bool _ => true
  | .int _ => true
  | .str _ => true
  | _ => false
/-- == by an own function of two -/
def eqTwo (f : Sl → Sl → Option (PyData × Sl × Sl)) (neg : Bool) (i : Nat) (y : Arg) (ρ : Rho) : Option (Arg × Rho) :=
  match ρ[i]? with
  | some (.bk fs past) => match y with
    | .own j => if i = j then none else match ρ[j]? with
      | some (.bk fs2 past2) => match f (.bk fs past) (.bk fs2 past2) with
        | some (.bool t, a, b) => if noEmp a && noEmp b then some (.val (.bool (t != neg)), (ρ.set i a).set j b) else none
        | _ => none
      | _ => none
    | .val d => if flatD d then match f (.bk fs past) (.val d) with
        | some (.bool t, a, .val _) => if noEmp a then some (.val (.bool (t != neg)), ρ.set i a) else none
        | _ => none
      else none
    | _ => none
  | _ => none
mutual
def ev (G : List Fn) : CE → Rho → Option (Arg × Rho)
  | .var i, ρ => (look ρ i).map fun a => (a, ρ)
  | .cst d, ρ => some (.val d, ρ)
  | .tup es, ρ => do
    let (ds, ρ') ← evF G es ρ
    if sm ds then some (.val (.tuple ds), ρ') else none
  | .lst es, ρ => do
    let (ds, ρ') ← evF G es ρ
    if sm ds then some (.fr (.lst ds), ρ') else none
  | .bin op a b, ρ => do
    let (x, ρ1) ← ev G a ρ
    let (y, ρ2) ← ev G b ρ1
    let sx ← cont ρ2 x
    let sy ← cont ρ2 y
    let z ← binS op sx sy
    some (z, ρ2)
  | .neg a, ρ => do
    let (x, ρ1) ← ev G a ρ
    let sx ← cont ρ1 x
    let z ← negS sx
    some (z, ρ1)
  | .cmp op a b, ρ => do
    let (x, ρ1) ← ev G a ρ
    let (y, ρ2) ← ev G b ρ1
    let sx ← cont ρ2 x
    let sy ← cont ρ2 y
    let z ← cmpS op sx sy
    some (.val (.bool z), ρ2)
  | .chn o1 o2 a b c, ρ => do
    let (x, ρ1) ← ev G a ρ
    let (y, ρ2) ← ev G b ρ1
    let sx ← cont ρ2 x
    let sy ← cont ρ2 y
    let z ← cmpS o1 sx sy
    if z then
      let (w, ρ3) ← ev G c ρ2
      let sy' ← cont ρ3 y
      let sw ← cont ρ3 w
      let z' ← cmpS o2 sy' sw
      some (.val (.bool z'), ρ3)
    else some (.val (.bool false), ρ2)
  | .andd a b, ρ => do
    let (x, ρ1) ← ev G a ρ
    let s ← cont ρ1 x
    let t ← truS s
    if t then ev G b ρ1 else some (x, ρ1)
  | .orr a b, ρ => do
    let (x, ρ1) ← ev G a ρ
    let s ← cont ρ1 x
    let t ← truS s
    if t then some (x, ρ1) else ev G b ρ1
  | .nott a, ρ => do
    let (x, ρ1) ← ev G a ρ
    let s ← cont ρ1 x
    let t ← truS s
    some (.val (.bool (!t)), ρ1)
  | .ife c a b, ρ => do
    let (t, ρ1) ← evT G c ρ
    if t then ev G a ρ1 else ev G b ρ1
  | .idx a i, ρ => do
    let (x, ρ1) ← ev G a ρ
    let (y, ρ2) ← ev G i ρ1
    let sx ← cont ρ2 x
    let sy ← cont ρ2 y
    let z ← idxS sx sy
    some (z, ρ2)
  | .sli a lo hi, ρ => do
    let (x, ρ1) ← ev G a ρ
    let (l, ρ2) ← evO G lo ρ1
    let (h, ρ3) ← evO G hi ρ2
    let sx ← cont ρ3 x
    let z ← sliS sx l h
    some (z, ρ3)
  | .cal k es, ρ =>
    match G[k]? with
    | some (.pur f) => do
      let (ds, ρ') ← evF G es ρ
      let d ← f ds
      some (.val d, ρ')
    | some (.mak f) => do
      let (ds, ρ') ← evF G es ρ
      let s ← f ds
      if noEmp s then some (.fr s, ρ') else none
    | some (.mut f) =>
      match es with
      | .cons false e r => do
        let (x, ρ0) ← ev G e ρ
        let (ds, ρ1) ← evF G r ρ0
        match x with
        | .own i => do
          let sl ← ρ1[i]?
          let (d, sl') ← f sl ds
          if noEmp sl && noEmp sl' then some (.val d, ρ1.set i sl') else none
        | .fr sl => do
          let (d, sl') ← f sl ds
          if noEmp sl' then some (.val d, ρ1) else none
        | .val _ => none
      | _ => none
    | some (.rai _) => none
    | some (.rmu _) => none
    | some (.two _) => none
    | none => none
  | .bi b es, ρ => do
    let (as, ρ') ← evR G es ρ
    let ss ← as.mapM (cont ρ')
    let z ← biS b ss
    some (z, ρ')
  | .dsp k v, ρ => do
    let (x, ρ1) ← ev G k ρ
    let (dk, ρ2) ← frz ρ1 x
    let (y, ρ3) ← ev G v ρ2
    let (dv, ρ4) ← frz ρ3 y
    let key ← keyD dk
    some (.fr (.dct [(key, dv)]), ρ4)
  | .pop i, ρ =>
    match ρ[i]? with
    | some (.lst ds) => do
      let d ← ds[ds.length - 1]?
      some (.val d, ρ.set i (.lst ds.dropLast))
    | _ => none
  | .fld i j, ρ =>
    match ρ[i]? with
    | some (.bk fs _) => (fs[j]?).map fun d => (.val d, ρ)
    | _ => none
  | .mth k i es, ρ =>
    match ρ[i]? with
    | some (.bk _ _) =>
      match G[k]? with
      | some (.mut f) => do
        let (ds, ρ1) ← evF G es ρ
        let sl ← ρ1[i]?
        let (d, sl') ← f sl ds
        if noEmp sl && noEmp sl' then some (.val d, ρ1.set i sl') else none
      | _ => none
    | _ => none
  | .pemp i, ρ =>
    match ρ[i]? with
    | some (.bk _ past) => if shp (.list past) then some (.val (.bool past.isEmpty), ρ) else none
    | _ => none
  | .ppop i, ρ =>
    match ρ[i]? with
    | some (.bk fs past) => (past[past.length - 1]?).map fun d => (.val d, ρ.set i (.bk fs past.dropLast))
    | _ => none
  | .isb i, ρ =>
    match ρ[i]? with
    | some (.bk _ _) => some (.val (.bool true), ρ)
    | some (.val d) => if flatD d then some (.val (.bool false), ρ) else none
    | _ => none
  | .oeq k neg i e, ρ =>
    match ρ[i]? with
    | some (.bk _ _) =>
      match G[k]? with
      | some (.two f) => do
        let (y, ρ1) ← ev G e ρ
        eqTwo f neg i y ρ1
      | _ => none
    | _ => none
  | .rep1 es, ρ => do
    let (as, ρ1) ← evR G es ρ
    let ss ← as.mapM (cont ρ1)
    let ds ← ss.mapM datS
    if sm ds then
      let z ← repB [.lst ds]
      some (z, ρ1)
    else none
  | .inW kvs e, ρ => do
    let (x, ρ1) ← ev G e ρ
    match x with
    | .val (.str z) => some (.val (.bool (kvs.lookup z).isSome), ρ1)
    | _ => none
  | .atW kvs e, ρ => do
    let (x, ρ1) ← ev G e ρ
    match x with
    | .val (.str z) => (kvs.lookup z).map fun i => (.val (.int i), ρ1)
    | _ => none
  | .comp it tg c elt vs, ρ => do
    let (ds, ρ1) ← evI G it ρ
    if freeR ρ1 vs && sm ds then
      let (acc, ρ2) ← compGo ρ1 vs (asgT tg) (evT G c) (fun acc ρ => do let (x, ρ') ← ev G elt ρ; let (d, ρ'') ← frz ρ' x; some (acc ++ [d], ρ'')) ds [] ρ1
      some (.fr (.lst acc), ρ2)
    else none
  | .comp2 it tg c it2 tg2 c2 elt vs vs2, ρ => do
    let (ds, ρ1) ← evI G it ρ
    if freeR ρ1 vs && ds.length ≤ 300 then
      let (acc, ρ2) ← compGo ρ1 vs (asgT tg) (evT G c) (fun acc ρ => do
        let (es, ρ') ← evI G it2 ρ
        if freeR ρ' vs2 && es.length ≤ 300 then compGo ρ' vs2 (asgT tg2) (evT G c2) (fun acc ρ => do let (x, ρ') ← ev G elt ρ; let (d, ρ'') ← frz ρ' x; some (acc ++ [d], ρ'')) es acc ρ' else none) ds [] ρ1
      some (.fr (.lst acc), ρ2)
    else none
/-- a test -/
def evT (G : List Fn) : CT → Rho → Option (Bool × Rho)
  | .yes, ρ => some (true, ρ)
  | .tand a b, ρ => do
    let (x, ρ1) ← evT G a ρ
    if x then evT G b ρ1 else some (false, ρ1)
  | .tor a b, ρ => do
    let (x, ρ1) ← evT G a ρ
    if x then some (true, ρ1) else evT G b ρ1
  | .tnot a, ρ => do
    let (x, ρ1) ← evT G a ρ
    some (!x, ρ1)
  | .tval e, ρ => do
    let (x, ρ1) ← ev G e ρ
    let s ← cont ρ1 x
    let t ← truS s
    some (t, ρ1)
/-- values for good, from the left -/
def evF (G : List Fn) : CA → Rho → Option (List PyData × Rho)
  | .nil, ρ => some ([], ρ)
  | .cons false e r, ρ => do
    let (x, ρ1) ← ev G e ρ
    let (d, ρ2) ← frz ρ1 x
    let (ds, ρ3) ← evF G r ρ2
    some (d :: ds, ρ3)
  | .cons true e r, ρ => do
    let (x, ρ1) ← ev G e ρ
    let s ← cont ρ1 x
    let xs ← seqS s
    let (ds, ρ3) ← evF G r ρ1
    some (xs ++ ds, ρ3)
/-- operands, from the left -/
def evR (G : List Fn) : CA → Rho → Option (List Arg × Rho)
  | .nil, ρ => some ([], ρ)
  | .cons false e r, ρ => do
    let (x, ρ1) ← ev G e ρ
    let (xs, ρ2) ← evR G r ρ1
    some (x :: xs, ρ2)
  | .cons true _ _, _ => none
def evO (G : List Fn) : CO → Rho → Option (Option Int × Rho)
  | .non, ρ => some (none, ρ)
  | .som e, ρ => do
    let (x, ρ1) ← ev G e ρ
    match x with
    | .val (.int i) => some (some i, ρ1)
    | _ => none
/-- what a loop walks: its items -/
def evI (G : List Fn) : CI → Rho → Option (List PyData × Rho)
  | .seq e, ρ => do
    let (x, ρ1) ← ev G e ρ
    let (d, ρ2) ← frz ρ1 x
    match d with
    | .list ds => some (ds, ρ2)
    | .tuple ds => some (ds, ρ2)
    | _ => none
  | .rng1 e, ρ => do
    let (x, ρ1) ← ev G e ρ
    match x with
    | .val (.int j) => if -100000 < j ∧ j < 100000 then some (rngD 0 j, ρ1) else none
    | _ => none
  | .rng2 a b, ρ => do
    let (x, ρ1) ← ev G a ρ
    let (y, ρ2) ← ev G b ρ1
    match x, y with
    | .val (.int i), .val (.int j) => if -100000 < i ∧ i < 100000 ∧ -100000 < j ∧ j < 100000 then some (rngD i j, ρ2) else none
    | _, _ => none
  | .enu e, ρ => do
    let (x, ρ1) ← ev G e ρ
    let (d, ρ2) ← frz ρ1 x
    match d with
    | .list ds => some (enuD ds, ρ2)
    | .tuple ds => some (enuD ds, ρ2)
    | _ => none
  | .zip a b, ρ => do
    let (x, ρ1) ← ev G a ρ
    let (d, ρ2) ← frz ρ1 x
    let (y, ρ3) ← ev G b ρ2
    let (e, ρ4) ← frz ρ3 y
    match d, e with
    | .list ds, .list es => some (zipD ds es, ρ4)
    | .tuple ds, .tuple es => some (zipD ds es, ρ4)
    | _, _ => none
  | .str e, ρ => do
    let (x, ρ1) ← ev G e ρ
    match x with
    | .val (.str z) => some (z.cps.toList.map fun c => .str ⟨#[c]⟩, ρ1)
    | _ => none
end
end Cor
set_option Elab.async false
set_option linter.all false
set_option maxRecDepth 100000
set_option maxHeartbeats 4000000
/-! Core 2: how the state of the evaluator lies in the abstract heap. -/
namespace Cor
open PySem PySem.Spec PyProof.Rows L2
open Evl (Ex ex_l ex_t)

abbrev Fps := Nat → List Addr
variable {K : PySem.W.Frag}

end Cor
namespace L2
open PySem PySem.Spec PyProof.Rows
open Evl (Ex ex_l ex_t)
variable {K : PySem.W.Frag}
mutual
/-- data at an address: lists are tracked (or locked), tuples may stand in the written part too -/
inductive Dq (K : PySem.W.Frag) (H : Hp) : V → PyData → Prop
  | non : Dq K H .non .none
  | bl (b : Bool) : Dq K H (.bl b) (.bool b)
  | int (i : Int) : Dq K H (.int i) (.int i)
  | str (x : Str) : Dq K H (.str x) (.str x)
  | lst {a : Addr} {xs : List V} {ds : List PyData} : SqL K H a xs → DqAll K H xs ds → Dq K H (.ref a) (.list ds)
  | tup {a : Addr} {xs : List V} {ds : List PyData} : SqT K H a xs → DqAll K H xs ds → Dq K H (.ref a) (.tuple ds)
inductive DqAll (K : PySem.W.Frag) (H : Hp) : List V → List PyData → Prop
  | nil : DqAll K H [] []
  | cons {v : V} {vs : List V} {d : PyData} {ds : List PyData} : Dq K H v d → DqAll K H vs ds → DqAll K H (v :: vs) (d :: ds)
end
mutual
theorem Dq.dp {H : Hp} : ∀ (d : PyData) (v : V), Dq K H v d → Dp K H v d
  | .none, _, h => by cases h; exact .non
  | .bool b, _, h => by cases h; exact .bl b
  | .int i, _, h => by cases h; exact .int i
  | .str x, _, h => by cases h; exact .str x
  | .list ds, _, h => by
    cases h with
    | lst hs ha => exact .lst hs (DqAll.dp ds _ ha)
  | .tuple ds, _, h => by
    cases h with
    | tup hs ha => exact .tup hs (DqAll.dp ds _ ha)
  | .dict _, _, h => by cases h
theorem DqAll.dp {H : Hp} : ∀ (ds : List PyData) (vs : List V), DqAll K H vs ds → DpAll K H vs ds
  | [], _, h => by cases h; exact .nil
  | d :: ds, _, h => by
    cases h with
    | cons h1 h2 => exact .cons (Dq.dp d _ h1) (DqAll.dp ds _ h2)
end
mutual
theorem Dq.mono {H H' : Hp} (e : Ex H H') : ∀ (d : PyData) (v : V), Dq K H v d → Dq K H' v d
  | .none, _, h => by cases h; exact .non
  | .bool b, _, h => by cases h; exact .bl b
  | .int i, _, h => by cases h; exact .int i
  | .str x, _, h => by cases h; exact .str x
  | .list ds, _, h => by
    cases h with
    | lst hs ha => exact .lst (ex_l e hs) (DqAll.mono e ds _ ha)
  | .tuple ds, _, h => by
    cases h with
    | tup hs ha => exact .tup (ex_t e hs) (DqAll.mono e ds _ ha)
  | .dict _, _, h => by cases h
theorem DqAll.mono {H H' : Hp} (e : Ex H H') : ∀ (ds : List PyData) (vs : List V), DqAll K H vs ds → DqAll K H' vs ds
  | [], _, h => by cases h; exact .nil
  | d :: ds, _, h => by
    cases h with
    | cons h1 h2 => exact .cons (Dq.mono e d _ h1) (DqAll.mono e ds _ h2)
end
theorem DqAll.length {H : Hp} : ∀ {ds : List PyData} {vs : List V}, DqAll K H vs ds → vs.length = ds.length
  | [], _, h => by cases h; rfl
  | d :: ds, _, h => by
    cases h with
    | cons _ h2 => rw [List.length_cons, List.length_cons, DqAll.length h2]
theorem DqAll.get {H : Hp} : ∀ {ds : List PyData} {vs : List V} {i : Nat} {d : PyData}, DqAll K H vs ds → ds[i]? = some d → ∃ v, vs[i]? = some v ∧ Dq K H v d
  | [], _, _, _, _, e => by simp at e
  | c :: ds, _, 0, d, h, e => by
    cases h with
    | cons h1 h2 => simp at e; subst e; exact ⟨_, rfl, h1⟩
  | c :: ds, _, i + 1, d, h, e => by
    cases h with
    | cons h1 h2 =>
      obtain ⟨v, e1, e2⟩ := DqAll.get (i := i) h2 (by simpa using e)
      exact ⟨v, by simpa using e1, e2⟩
theorem DqAll.getV {H : Hp} : ∀ {ds : List PyData} {vs : List V} {i : Nat} {v : V}, DqAll K H vs ds → vs[i]? = some v → ∃ d, ds[i]? = some d ∧ Dq K H v d
  | [], _, _, _, h, e => by cases h; simp at e
  | c :: ds, _, 0, d, h, e => by
    cases h with
    | cons h1 h2 => simp at e; subst e; exact ⟨_, rfl, h1⟩
  | c :: ds, _, i + 1, d, h, e => by
    cases h with
    | cons h1 h2 =>
      obtain ⟨v, e1, e2⟩ := DqAll.getV (i := i) h2 (by simpa using e)
      exact ⟨v, by simpa using e1, e2⟩
theorem DqAll.append {H : Hp} : ∀ {ds es : List PyData} {vs ws : List V}, DqAll K H vs ds → DqAll K H ws es → DqAll K H (vs ++ ws) (ds ++ es)
  | [], _, _, _, h, g => by cases h; exact g
  | d :: ds, _, _, _, h, g => by
    cases h with
    | cons h1 h2 => exact .cons h1 (DqAll.append h2 g)
theorem DqAll.drop {H : Hp} : ∀ {ds : List PyData} {vs : List V} (n : Nat), DqAll K H vs ds → DqAll K H (vs.drop n) (ds.drop n)
  | _, _, 0, h => h
  | [], _, n + 1, h => by cases h; exact .nil
  | d :: ds, _, n + 1, h => by
    cases h with
    | cons h1 h2 => exact DqAll.drop n h2
theorem DqAll.take {H : Hp} : ∀ {ds : List PyData} {vs : List V} (n : Nat), DqAll K H vs ds → DqAll K H (vs.take n) (ds.take n)
  | _, _, 0, h => .nil
  | [], _, n + 1, h => by cases h; exact .nil
  | d :: ds, _, n + 1, h => by
    cases h with
    | cons h1 h2 => exact .cons h1 (DqAll.take n h2)
theorem DqAll.set {H : Hp} {v : V} {d : PyData} (r : Dq K H v d) : ∀ {ds : List PyData} {vs : List V} (i : Nat), DqAll K H vs ds → DqAll K H (vs.set i v) (ds.set i d)
  | [], _, _, h => by cases h; exact .nil
  | c :: ds, _, 0, h => by
    cases h with
    | cons h1 h2 => exact .cons r h2
  | c :: ds, _, i + 1, h => by
    cases h with
    | cons h1 h2 => exact .cons h1 (DqAll.set r i h2)
theorem DqAll.dropLast {H : Hp} {ds : List PyData} {vs : List V} (h : DqAll K H vs ds) : DqAll K H vs.dropLast ds.dropLast := by
  rw [List.dropLast_eq_take, List.dropLast_eq_take, h.length]
  exact h.take _
theorem Dq.inj {H : Hp} {d : PyData} {i : Int} {v : V} (h : Dq K H v (.int i)) : v = .int i := by cases h; rfl
theorem Dq.injS {H : Hp} {z : Str} {v : V} (h : Dq K H v (.str z)) : v = .str z := by cases h; rfl
theorem Dq.injB {H : Hp} {b : Bool} {v : V} (h : Dq K H v (.bool b)) : v = .bl b := by cases h; rfl
theorem Dq.injN {H : Hp} {v : V} (h : Dq K H v .none) : v = .non := by cases h; rfl

end L2
namespace Cor
open PySem PySem.Spec PyProof.Rows L2
open Evl (Ex ex_l ex_t)
variable {K : PySem.W.Frag}
abbrev KvD (K : PySem.W.Frag) (Hf : Hp) : List (Key × V) → List (Key × PyData) → Prop := Paired fun p q => p.1 = q.1 ∧ Dq K Hf p.2 q.2
theorem KvD.mono {Hf Hf' : Hp} (e : Ex Hf Hf') {ys : List (Key × V)} {kvs : List (Key × PyData)} (h : KvD K Hf ys kvs) : KvD K Hf' ys kvs :=
  Paired.mapP h fun _ _ ⟨a, b⟩ => ⟨a, Dq.mono e _ _ b⟩

/-- the class of books; what an instance holds -/
def BkC (K : PySem.W.Frag) (C : Addr) : Prop := PySem.W.nsIn K mainGlobals "Book" = some (some (.ref C))
def bkN : List Str := ["places", "kind", "web", "deeds"]
def bkF (vs : List V) (q : Addr) : List (Str × V) := bkN.zip vs ++ [(("past" : Str), V.ref q)]
/-- an owned thing (or a value), its address within fp -/
def OwnAt (K : PySem.W.Frag) (Hf H : Hp) (sl : Sl) (v : V) (fp : List Addr) : Prop := match sl with
  | .emp => fp = []
  | .val d => fp = [] ∧ Dq K Hf v d
  | .lst ds => ∃ p xs, v = .ref p ∧ fp = [p] ∧ H p = some (.lst xs) ∧ DqAll K Hf xs ds
  | .dct kvs => ∃ p ys, v = .ref p ∧ fp = [p] ∧ H p = some (.dK ys) ∧ KvD K Hf ys kvs
  | .bk fs past => ∃ C p q dx vs xs, v = .ref p ∧ fp = [p, q, dx] ∧ BkC K C ∧ H p = some (.ins C dx (bkF vs q)) ∧ H q = some (.lst xs) ∧ H dx = some (.own p) ∧ vs.length = 4 ∧ DqAll K Hf vs fs ∧ DqAll K Hf xs past
theorem OwnAt.there {Hf H : Hp} {sl : Sl} {v : V} {fp : List Addr} (h : OwnAt K Hf H sl v fp) {a : Addr} (ha : a ∈ fp) : ∃ o, H a = some o := by
  cases sl with
  | emp => cases (show fp = [] from h); simp at ha
  | val d => rw [h.1] at ha; simp at ha
  | lst ds => obtain ⟨p, xs, _, e, hp, _⟩ := h; rw [e] at ha; simp at ha; subst ha; exact ⟨_, hp⟩
  | dct kvs => obtain ⟨p, xs, _, e, hp, _⟩ := h; rw [e] at ha; simp at ha; subst ha; exact ⟨_, hp⟩
  | bk fs past =>
    obtain ⟨C, p, q, dx, vs, xs, _, e, _, hp, hq, hx, _⟩ := h
    rw [e] at ha
    simp at ha
    rcases ha with rfl | rfl | rfl
    · exact ⟨_, hp⟩
    · exact ⟨_, hq⟩
    · exact ⟨_, hx⟩
theorem OwnAt.keep {Hf H Hf' H' : Hp} {sl : Sl} {v : V} {fp : List Addr} (h : OwnAt K Hf H sl v fp) (e : Ex Hf Hf') (k : ∀ a ∈ fp, ∀ o, H a = some o → H' a = some o) : OwnAt K Hf' H' sl v fp := by
  cases sl with
  | emp => exact h
  | val d => exact ⟨h.1, Dq.mono e _ _ h.2⟩
  | lst ds =>
    obtain ⟨p, xs, ev, ef, hp, hd⟩ := h
    exact ⟨p, xs, ev, ef, k p (by rw [ef]; simp) _ hp, DqAll.mono e _ _ hd⟩
  | dct kvs =>
    obtain ⟨p, ys, ev, ef, hp, hd⟩ := h
    exact ⟨p, ys, ev, ef, k p (by rw [ef]; simp) _ hp, KvD.mono e hd⟩
  | bk fs past =>
    obtain ⟨C, p, q, dx, vs, xs, ev, ef, hc, hp, hq, hx, hl, hd, hd2⟩ := h
    exact ⟨C, p, q, dx, vs, xs, ev, ef, hc, k p (by rw [ef]; simp) _ hp, k q (by rw [ef]; simp) _ hq, k dx (by rw [ef]; simp) _ hx, hl, DqAll.mono e _ _ hd, DqAll.mono e _ _ hd2⟩

structure SR (K : PySem.W.Frag) (Hf : Hp) (fps : Fps) (σ : L2.St) (H : Hp) (ρ : Rho) : Prop where
  ex : Ex Hf H
  len : σ.length = ρ.length
  here : ∀ i sl, ρ[i]? = some sl → sl ≠ .emp → ∃ v, σ[i]? = some (some v) ∧ OwnAt K Hf H sl v (fps i)
  gone : ∀ i, (∀ sl, ρ[i]? = some sl → sl = .emp) → fps i = []
  nof : ∀ i a, a ∈ fps i → Hf a = none
  dis : ∀ i j a, a ∈ fps i → a ∈ fps j → i = j
structure Go (Hf : Hp) (fps : Fps) (H : Hp) (Hf' : Hp) (fps' : Fps) (H' : Hp) : Prop where
  fz : Ex Hf Hf'
  fo : ∀ a o, H a = some o → Hf a = none → (∀ i, a ∉ fps i) → H' a = some o ∧ Hf' a = none ∧ ∀ i, a ∉ fps' i
  th : ∀ a o, H a = some o → ∃ o', H' a = some o'
theorem Go.refl {Hf : Hp} {fps : Fps} {H : Hp} : Go Hf fps H Hf fps H := ⟨.refl _, fun _ _ a b c => ⟨a, b, c⟩, fun _ o h => ⟨o, h⟩⟩
theorem Go.trans {Hf Hf1 Hf2 : Hp} {fps fps1 fps2 : Fps} {H H1 H2 : Hp} (a : Go Hf fps H Hf1 fps1 H1) (b : Go Hf1 fps1 H1 Hf2 fps2 H2) : Go Hf fps H Hf2 fps2 H2 :=
  ⟨a.fz.trans b.fz, fun x o h1 h2 h3 => by
    obtain ⟨q1, q2, q3⟩ := a.fo x o h1 h2 h3
    exact b.fo x o q1 q2 q3, fun x o h => by
    obtain ⟨o', h'⟩ := a.th x o h
    exact b.th x o' h'⟩

/-- an argument's value, whose new objects are younger than H0 -/
def AR (K : PySem.W.Frag) (H0 Hf : Hp) (fps : Fps) (H : Hp) (σ : L2.St) (a : Arg) (v : V) : Prop := match a with
  | .val d => Dq K Hf v d
  | .own i => σ[i]? = some (some v)
  | .fr sl => sl ≠ .emp ∧ ∃ fp, OwnAt K Hf H sl v fp ∧ ∀ a ∈ fp, H0 a = none ∧ Hf a = none ∧ ∀ i, a ∉ fps i
theorem AR.go {H0 Hf Hf' H H' : Hp} {fps fps' : Fps} {σ : L2.St} {a : Arg} {v : V} (g : Go Hf fps H Hf' fps' H') (h : AR K H0 Hf fps H σ a v) : AR K H0 Hf' fps' H' σ a v := by
  cases a with
  | val d => exact Dq.mono g.fz _ _ h
  | own i => exact h
  | fr sl =>
    obtain ⟨ne, fp, o, q⟩ := h
    refine ⟨ne, fp, o.keep g.fz fun a ha ob e => (g.fo a ob e (q a ha).2.1 (q a ha).2.2).1, fun a ha => ?_⟩
    obtain ⟨ob, e⟩ := o.there ha
    exact ⟨(q a ha).1, (g.fo a ob e (q a ha).2.1 (q a ha).2.2).2⟩
theorem AR.frI {H0 Hf H : Hp} {fps : Fps} {σ : L2.St} {sl : Sl} {v : V} {fp : List Addr} (ne : sl ≠ .emp) (o : OwnAt K Hf H sl v fp) (q : ∀ a ∈ fp, H0 a = none ∧ Hf a = none ∧ ∀ i, a ∉ fps i) : AR K H0 Hf fps H σ (.fr sl) v := ⟨ne, fp, o, q⟩
/-- younger than an elder heap -/
theorem AR.elder {H0 H1 Hf H : Hp} {fps : Fps} {σ : L2.St} {a : Arg} {v : V} (t : ∀ a o, H0 a = some o → ∃ o', H1 a = some o') (h : AR K H1 Hf fps H σ a v) : AR K H0 Hf fps H σ a v := by
  cases a with
  | val d => exact h
  | own i => exact h
  | fr sl =>
    obtain ⟨ne, fp, o, q⟩ := h
    refine ⟨ne, fp, o, fun a ha => ⟨?_, (q a ha).2⟩⟩
    cases e : H0 a with
    | none => rfl
    | some ob =>
      obtain ⟨o', e'⟩ := t a ob e
      rw [(q a ha).1] at e'
      cases e'

section
variable {Hf : Hp} {fps : Fps} {σ : L2.St} {H : Hp} {ρ : Rho}
theorem SR.free (S : SR K Hf fps σ H ρ) {p : Addr} (h : H p = none) : Hf p = none ∧ ∀ i, p ∉ fps i := by
  refine ⟨Evl.fresh_back S.ex h, fun i hi => ?_⟩
  cases e : ρ[i]? with
  | none => rw [S.gone i (fun sl q => by rw [e] at q; cases q)] at hi; simp at hi
  | some sl =>
    by_cases hs : sl = .emp
    · rw [S.gone i (fun sl' q => by rw [e] at q; cases q; exact hs)] at hi; simp at hi
    · obtain ⟨v, _, o⟩ := S.here i sl e hs
      obtain ⟨ob, q⟩ := o.there hi
      rw [h] at q; cases q
/-- what an argument stands for -/
theorem SR.cont (S : SR K Hf fps σ H ρ) {H0 : Hp} {a : Arg} {v : V} {sl : Sl} (h : AR K H0 Hf fps H σ a v) (e : cont ρ a = some sl) (ne : sl ≠ .emp) : ∃ fp, OwnAt K Hf H sl v fp := by
  cases a with
  | val d => cases e; exact ⟨[], rfl, h⟩
  | own i =>
    obtain ⟨v', e1, o⟩ := S.here i sl e ne
    have h' : σ[i]? = some (some v) := h
    rw [h'] at e1
    cases e1
    exact ⟨_, o⟩
  | fr s => cases e; exact ⟨h.2.choose, h.2.choose_spec.1⟩
end

/-- what an operation hands back -/
inductive Raw (K : PySem.W.Frag) (Hf H : Hp) : Arg → V → Hp → Prop
  | val {d : PyData} {v : V} : Dq K Hf v d → Raw K Hf H (.val d) v H
  | tup {p : Addr} {xs : List V} {ds : List PyData} : H p = none → DqAll K Hf xs ds → Raw K Hf H (.val (.tuple ds)) (.ref p) (upd H p (.tup xs))
  | lst {p : Addr} {xs : List V} {ds : List PyData} : H p = none → DqAll K Hf xs ds → Raw K Hf H (.fr (.lst ds)) (.ref p) (upd H p (.lst xs))
  | dct {p : Addr} {ys : List (Key × V)} {kvs : List (Key × PyData)} : H p = none → KvD K Hf ys kvs → Raw K Hf H (.fr (.dct kvs)) (.ref p) (upd H p (.dK ys))

theorem Ex.upd2 {Hf H : Hp} {p : Addr} {o : HO} (e : Ex Hf H) (h : H p = none) : Ex (upd Hf p o) (upd H p o) := fun a u q => by
  by_cases ha : a = p
  · subst ha; rw [upd_same] at q; rw [upd_same]; exact q
  · rw [upd_ne ha] at q; rw [upd_ne ha]; exact e a u q
theorem Ex.into {Hf H : Hp} {p : Addr} {o : HO} (e : Ex Hf H) (h : H p = some o) : Ex (upd Hf p o) H := fun a u q => by
  by_cases ha : a = p
  · subst ha; rw [upd_same] at q; cases q; exact h
  · rw [upd_ne ha] at q; exact e a u q

section
variable {Hf Hf0 : Hp} {fps fps0 : Fps} {σ : L2.St} {H H0 : Hp} {ρ : Rho}
/-- the heap grows by an object that nobody has -/
theorem SR.grow (S : SR K Hf fps σ H ρ) {p : Addr} {o : HO} (h : H p = none) : SR K Hf fps σ (upd H p o) ρ :=
  ⟨fun a u q => by rw [upd_ne (ne_of_none (S.ex a u q) h)]; exact S.ex a u q, S.len, fun i sl e ne => by
    obtain ⟨v, e1, ow⟩ := S.here i sl e ne
    exact ⟨v, e1, ow.keep (.refl _) fun a _ ob q => by rw [upd_ne (ne_of_none q h)]; exact q⟩, S.gone, S.nof, S.dis⟩
theorem Go.grow (g : Go Hf0 fps0 H0 Hf fps H) {p : Addr} {o : HO} (h : H p = none) : Go Hf0 fps0 H0 Hf fps (upd H p o) :=
  ⟨g.fz, fun a u h1 h2 h3 => by
    obtain ⟨q1, q2⟩ := g.fo a u h1 h2 h3
    exact ⟨by rw [upd_ne (ne_of_none q1 h)]; exact q1, q2⟩, fun a u q => by
    obtain ⟨o', e⟩ := g.th a u q
    exact ⟨o', by rw [upd_ne (ne_of_none e h)]; exact e⟩⟩
/-- an object that nobody owns, younger than H0, is frozen -/
theorem SR.ice (S : SR K Hf fps σ H ρ) {p : Addr} {o : HO} (h : H p = some o) (h1 : Hf p = none) (h2 : ∀ i, p ∉ fps i) : SR K (upd Hf p o) fps σ H ρ :=
  ⟨Ex.into S.ex h, S.len, fun i sl e ne => by
    obtain ⟨v, e1, ow⟩ := S.here i sl e ne
    exact ⟨v, e1, ow.keep (Evl.Ex.new h1) fun a _ ob q => q⟩, S.gone, fun i a ha => by
    have : a ≠ p := fun z => h2 i (z ▸ ha)
    rw [upd_ne this]; exact S.nof i a ha, S.dis⟩
theorem Go.ice (g : Go Hf0 fps0 H0 Hf fps H) {p : Addr} {o : HO} (h0 : H0 p = none) (h1 : Hf p = none) : Go Hf0 fps0 H0 (upd Hf p o) fps H :=
  ⟨g.fz.trans (Evl.Ex.new h1), fun a u q1 q2 q3 => by
    obtain ⟨w1, w2, w3⟩ := g.fo a u q1 q2 q3
    have : a ≠ p := fun z => by subst z; rw [h0] at q1; cases q1
    exact ⟨w1, by rw [upd_ne this]; exact w2, w3⟩, g.th⟩
theorem back_none (g : Go Hf0 fps0 H0 Hf fps H) {p : Addr} (h : H p = none) : H0 p = none := by
  cases e : H0 p with
  | none => rfl
  | some o =>
    obtain ⟨o', q⟩ := g.th p o e
    rw [h] at q; cases q
theorem Raw.fin {a : Arg} {v : V} {H' : Hp} (S : SR K Hf fps σ H ρ) (g : Go Hf0 fps0 H0 Hf fps H) (r : Raw K Hf H a v H') : ∃ Hf', Go Hf0 fps0 H0 Hf' fps H' ∧ SR K Hf' fps σ H' ρ ∧ AR K H0 Hf' fps H' σ a v := by
  cases r with
  | val d => exact ⟨Hf, g, S, d⟩
  | @tup p xs ds hp hd =>
    obtain ⟨f1, f2⟩ := S.free hp
    have S1 : SR K Hf fps σ (upd H p (.tup xs)) ρ := S.grow hp
    refine ⟨upd Hf p (.tup xs), (g.grow hp).ice (back_none g hp) f1, S1.ice upd_same f1 f2, ?_⟩
    exact .tup (.inl (.inl upd_same)) (DqAll.mono (Evl.Ex.new f1) _ _ hd)
  | @lst p xs ds hp hd =>
    obtain ⟨f1, f2⟩ := S.free hp
    refine ⟨Hf, g.grow hp, S.grow hp, AR.frI (fun q => nomatch q) (show OwnAt K Hf _ _ _ [p] from ⟨p, xs, rfl, rfl, upd_same, hd⟩) fun a ha => ?_⟩
    simp at ha; subst ha
    exact ⟨back_none g hp, f1, f2⟩
  | @dct p xs ds hp hd =>
    obtain ⟨f1, f2⟩ := S.free hp
    refine ⟨Hf, g.grow hp, S.grow hp, AR.frI (fun q => nomatch q) (show OwnAt K Hf _ _ _ [p] from ⟨p, xs, rfl, rfl, upd_same, hd⟩) fun a ha => ?_⟩
    simp at ha; subst ha
    exact ⟨back_none g hp, f1, f2⟩

theorem get_set_ne {α : Type} {l : List α} {i j : Nat} {x : α} (h : i ≠ j) : (l.set i x)[j]? = l[j]? := List.getElem?_set_ne h
theorem get_set_eq {α : Type} {l : List α} {i : Nat} {x : α} (h : i < l.length) : (l.set i x)[i]? = some x := List.getElem?_set_self h
def setF (fps : Fps) (i : Nat) (fp : List Addr) : Fps := fun j => if j = i then fp else fps j
theorem setF_eq {fps : Fps} {i : Nat} {fp : List Addr} : setF fps i fp i = fp := by unfold setF; rw [if_pos rfl]
theorem setF_ne {fps : Fps} {i j : Nat} {fp : List Addr} (h : j ≠ i) : setF fps i fp j = fps j := by unfold setF; rw [if_neg h]
theorem lt_of_get {α : Type} {l : List α} {i : Nat} {x : α} (h : l[i]? = some x) : i < l.length := (List.getElem?_eq_some_iff.mp h).1

/-- slot i gets something else: a thing at fp that nobody has -/
theorem SR.put (S : SR K Hf fps σ H ρ) {i : Nat} {sl : Sl} {v : V} {fp : List Addr} (hi : i < ρ.length) (ne : sl ≠ .emp) (ow : OwnAt K Hf H sl v fp) (h : ∀ a ∈ fp, Hf a = none ∧ ∀ j, j ≠ i → a ∉ fps j) :
    SR K Hf (setF fps i fp) (σ.set i (some v)) H (ρ.set i sl) := by
  have hσ : i < σ.length := by rw [S.len]; exact hi
  refine ⟨S.ex, by rw [List.length_set, List.length_set, S.len], fun j sl' e ne' => ?_, fun j hj => ?_, fun j a ha => ?_, fun j k a ha hb => ?_⟩
  · by_cases hji : j = i
    · subst hji
      rw [get_set_eq hi] at e
      cases e
      exact ⟨v, get_set_eq hσ, by rw [setF_eq]; exact ow⟩
    · rw [get_set_ne (Ne.symm hji)] at e
      obtain ⟨w, e1, o⟩ := S.here j sl' e ne'
      exact ⟨w, by rw [get_set_ne (Ne.symm hji)]; exact e1, by rw [setF_ne hji]; exact o⟩
  · by_cases hji : j = i
    · subst hji
      exact absurd (hj sl (get_set_eq hi)) ne
    · rw [setF_ne hji]
      exact S.gone j fun sl' e => hj sl' (by rw [get_set_ne (Ne.symm hji)]; exact e)
  · by_cases hji : j = i
    · subst hji; rw [setF_eq] at ha; exact (h a ha).1
    · rw [setF_ne hji] at ha; exact S.nof j a ha
  · by_cases hji : j = i
    · by_cases hki : k = i
      · rw [hji, hki]
      · rw [hji, setF_eq] at ha
        rw [setF_ne hki] at hb
        exact absurd hb ((h a ha).2 k hki)
    · by_cases hki : k = i
      · rw [hki, setF_eq] at hb
        rw [setF_ne hji] at ha
        exact absurd ha ((h a hb).2 j hji)
      · rw [setF_ne hji] at ha
        rw [setF_ne hki] at hb
        exact S.dis j k a ha hb
theorem Go.put (g : Go Hf0 fps0 H0 Hf fps H) {i : Nat} {fp : List Addr} (h : ∀ a ∈ fp, a ∈ fps i ∨ H0 a = none) : Go Hf0 fps0 H0 Hf (setF fps i fp) H :=
  ⟨g.fz, fun a o h1 h2 h3 => by
    obtain ⟨q1, q2, q3⟩ := g.fo a o h1 h2 h3
    refine ⟨q1, q2, fun j hj => ?_⟩
    by_cases hji : j = i
    · subst hji
      rw [setF_eq] at hj
      rcases h a hj with z | z
      · exact q3 _ z
      · rw [h1] at z; cases z
    · rw [setF_ne hji] at hj
      exact q3 j hj, g.th⟩
/-- an owned slot's list is frozen -/
theorem SR.iceOwn (S : SR K Hf fps σ H ρ) {i : Nat} {ds : List PyData} (e : ρ[i]? = some (.lst ds)) : ∃ (p : Addr) (xs : List V), σ[i]? = some (some (.ref p)) ∧ H p = some (.lst xs) ∧ Hf p = none ∧ DqAll K Hf xs ds ∧
    SR K (upd Hf p (.lst xs)) (setF fps i []) σ H (ρ.set i (.val (.list ds))) ∧ (Go Hf fps H (upd Hf p (.lst xs)) (setF fps i []) H) := by
  have hi := lt_of_get e
  obtain ⟨v, e1, p, xs, rfl, ef, hp, hd⟩ := S.here i _ e (fun q => nomatch q)
  have hpi : p ∈ fps i := by rw [ef]; simp
  have f1 := S.nof i p hpi
  have ex1 : Ex Hf (upd Hf p (.lst xs)) := Evl.Ex.new f1
  refine ⟨p, xs, e1, hp, f1, hd, ?_, ⟨ex1, fun a o h1 h2 h3 => ?_, fun a o h => ⟨o, h⟩⟩⟩
  · refine ⟨Ex.into S.ex hp, by rw [List.length_set, S.len], fun j sl' e' ne' => ?_, fun j hj => ?_, fun j a ha => ?_, fun j k a ha hb => ?_⟩
    · by_cases hji : j = i
      · subst hji
        rw [get_set_eq hi] at e'
        cases e'
        exact ⟨_, e1, by rw [setF_eq]; exact ⟨rfl, .lst (.inl (.inl upd_same)) (DqAll.mono ex1 _ _ hd)⟩⟩
      · rw [get_set_ne (Ne.symm hji)] at e'
        obtain ⟨w, q1, o⟩ := S.here j sl' e' ne'
        exact ⟨w, q1, by rw [setF_ne hji]; exact o.keep ex1 fun _ _ _ q => q⟩
    · by_cases hji : j = i
      · subst hji; rw [setF_eq]
      · rw [setF_ne hji]
        exact S.gone j fun sl' e => hj sl' (by rw [get_set_ne (Ne.symm hji)]; exact e)
    · by_cases hji : j = i
      · subst hji; rw [setF_eq] at ha; simp at ha
      · rw [setF_ne hji] at ha
        have : a ≠ p := fun z => hji (S.dis j i a ha (z ▸ hpi))
        rw [upd_ne this]
        exact S.nof j a ha
    · by_cases hji : j = i
      · subst hji; rw [setF_eq] at ha; simp at ha
      · by_cases hki : k = i
        · subst hki; rw [setF_eq] at hb; simp at hb
        · rw [setF_ne hji] at ha
          rw [setF_ne hki] at hb
          exact S.dis j k a ha hb
  · have : a ≠ p := fun z => h3 i (z ▸ hpi)
    refine ⟨h1, by rw [upd_ne this]; exact h2, fun j hj => ?_⟩
    by_cases hji : j = i
    · subst hji; rw [setF_eq] at hj; simp at hj
    · rw [setF_ne hji] at hj; exact h3 j hj
/-- a value for good -/
theorem SR.frz {a : Arg} {v : V} {d : PyData} {ρ' : Rho} (S : SR K Hf fps σ H ρ) (g : Go Hf0 fps0 H0 Hf fps H) (h : AR K H0 Hf fps H σ a v) (e : frz ρ a = some (d, ρ')) :
    ∃ Hf' fps', Go Hf0 fps0 H0 Hf' fps' H ∧ SR K Hf' fps' σ H ρ' ∧ Dq K Hf' v d := by
  cases a with
  | val d' => cases e; exact ⟨Hf, fps, g, S, h⟩
  | own i =>
    have e' : (match ρ[i]? with | some (.lst ds) => some (PyData.list ds, ρ.set i (.val (.list ds))) | some (.val d) => some (d, ρ) | _ => none) = some (d, ρ') := e
    have hv : σ[i]? = some (some v) := h
    cases hr : ρ[i]? with
    | none => rw [hr] at e'; cases e'
    | some sl =>
      rw [hr] at e'
      cases sl with
      | emp => cases e'
      | dct _ => cases e'
      | bk _ _ => cases e'
      | val d' =>
        cases e'
        obtain ⟨w, q1, _, q2⟩ := S.here i _ hr (fun q => nomatch q)
        rw [hv] at q1; cases q1
        exact ⟨Hf, fps, g, S, q2⟩
      | lst ds =>
        cases e'
        obtain ⟨p, xs, q1, hp, f1, hd, S', g'⟩ := S.iceOwn hr
        rw [hv] at q1; cases q1
        exact ⟨_, _, g.trans g', S', .lst (.inl (.inl upd_same)) (DqAll.mono (Evl.Ex.new f1) _ _ hd)⟩
  | fr sl =>
    obtain ⟨ne, fp, ow, q⟩ := h
    cases sl with
    | emp => cases e
    | dct _ => cases e
    | bk _ _ => cases e
    | val d' => cases e; exact ⟨Hf, fps, g, S, ow.2⟩
    | lst ds =>
      cases e
      obtain ⟨p, xs, rfl, ef, hp, hd⟩ := ow
      have hp' : p ∈ fp := by rw [ef]; simp
      obtain ⟨q0, q1, q2⟩ := q p hp'
      exact ⟨_, fps, g.ice q0 q1, S.ice hp q1 q2, .lst (.inl (.inl upd_same)) (DqAll.mono (Evl.Ex.new q1) _ _ hd)⟩
end
end Cor
set_option Elab.async false
set_option linter.all false
set_option maxRecDepth 100000
set_option maxHeartbeats 4000000
/-! Core 3: the operations, by values. -/
namespace Cor
open PySem PySem.Spec PyProof.Rows L2
open Evl (Ex ex_l ex_t)
variable {K : PySem.W.Frag}

theorem own_int {Hf H : Hp} {v : V} {fp : List Addr} {i : Int} (h : OwnAt K Hf H (.val (.int i)) v fp) : v = .int i := by cases h.2; rfl
theorem own_str {Hf H : Hp} {v : V} {fp : List Addr} {i : Str} (h : OwnAt K Hf H (.val (.str i)) v fp) : v = .str i := by cases h.2; rfl
theorem own_bool {Hf H : Hp} {v : V} {fp : List Addr} {i : Bool} (h : OwnAt K Hf H (.val (.bool i)) v fp) : v = .bl i := by cases h.2; rfl
theorem own_none {Hf H : Hp} {v : V} {fp : List Addr} (h : OwnAt K Hf H (.val .none) v fp) : v = .non := by cases h.2; rfl
theorem own_tup {Hf H : Hp} {v : V} {fp : List Addr} {ds : List PyData} (h : OwnAt K Hf H (.val (.tuple ds)) v fp) : ∃ p xs, v = .ref p ∧ SqT K Hf p xs ∧ DqAll K Hf xs ds := by
  cases h.2 with
  | tup a b => exact ⟨_, _, rfl, a, b⟩
theorem own_list {Hf H : Hp} {v : V} {fp : List Addr} {sl : Sl} {ds : List PyData} (ex : Ex Hf H) (h : OwnAt K Hf H sl v fp) (e : datS sl = some (.list ds)) : ∃ p xs, v = .ref p ∧ SqL K H p xs ∧ DqAll K Hf xs ds := by
  cases sl with
  | emp => cases e
  | dct _ => cases e
  | bk _ _ => cases e
  | val d =>
    cases e
    cases h.2 with
    | lst a b => exact ⟨_, _, rfl, ex_l ex a, b⟩
  | lst ds' =>
    cases e
    obtain ⟨p, xs, e1, _, hp, hd⟩ := h
    exact ⟨p, xs, e1, .inl (.inl hp), hd⟩
/-- what may be read off as data -/
theorem own_dp {Hf H : Hp} {v : V} {fp : List Addr} {sl : Sl} {d : PyData} (ex : Ex Hf H) (h : OwnAt K Hf H sl v fp) (e : datS sl = some d) : Dq K H v d := by
  cases sl with
  | emp => cases e
  | dct _ => cases e
  | bk _ _ => cases e
  | val d' => cases e; exact Dq.mono ex _ _ h.2
  | lst ds =>
    cases e
    obtain ⟨p, xs, rfl, _, hp, hd⟩ := h
    exact .lst (.inl (.inl hp)) (DqAll.mono ex _ _ hd)
/-- the items of a list or tuple -/
theorem own_seq {Hf H : Hp} {v : V} {fp : List Addr} {sl : Sl} {ds : List PyData} (ex : Ex Hf H) (h : OwnAt K Hf H sl v fp) (e : seqS sl = some ds) : ∃ p xs, v = .ref p ∧ ((SqL K H p xs ∧ datS sl = some (.list ds)) ∨ (SqT K H p xs ∧ SqT K Hf p xs ∧ sl = .val (.tuple ds))) ∧ DqAll K Hf xs ds := by
  cases sl with
  | emp => cases e
  | dct _ => cases e
  | bk _ _ => cases e
  | lst ds' =>
    cases e
    obtain ⟨p, xs, e1, _, hp, hd⟩ := h
    exact ⟨p, xs, e1, .inl ⟨.inl (.inl hp), rfl⟩, hd⟩
  | val d =>
    cases d with
    | list ds' =>
      cases e
      cases h.2 with
      | lst a b => exact ⟨_, _, rfl, .inl ⟨ex_l ex a, rfl⟩, b⟩
    | tuple ds' =>
      cases e
      cases h.2 with
      | tup a b => exact ⟨_, _, rfl, .inr ⟨ex_t ex a, a, rfl⟩, b⟩
    | none => cases e
    | bool _ => cases e
    | int _ => cases e
    | str _ => cases e
    | dict _ => cases e
theorem sm_le {α : Type} {l : List α} (h : sm l = true) : l.length ≤ 100000 := of_decide_eq_true h
theorem smS_le {x : Str} (h : smS x = true) : x.length ≤ 100000 := of_decide_eq_true h
theorem line_ge : 1000000 ≤ sizeLine := by rw [sizeLine_eq]; decide

def rOp2 (K : PySem.W.Frag) (f : Sl → Sl → Option Arg) : R2 := fun x y H Q => ∃ Hf sx sy fx fy z, Ex Hf H ∧ OwnAt K Hf H sx x fx ∧ OwnAt K Hf H sy y fy ∧ f sx sy = some z ∧ ∀ v H', Raw K Hf H z v H' → Q v H'

section
variable {X : Cx}
theorem op_catR : OpR X (binaryOp .Add) (fun x y H Q => ∃ l b xs zs, x = .ref l ∧ y = .ref b ∧ SqL X.K H l xs ∧ SqL X.K H b zs ∧ xs.length + zs.length ≤ sizeLine ∧ ∀ p, H p = none → Q (.ref p) (upd H p (.lst (xs ++ zs)))) := by
  intro pins s σ H x y v u Q I rx ry h
  obtain ⟨l, b, xs, zs, rfl, rfl, hH, hB, hz, q⟩ := h
  cases rx
  cases ry
  obtain ⟨its, r, pl, _⟩ := I.list hH
  obtain ⟨its2, r2, pl2, _⟩ := I.list hB
  have l1 := r.length
  have l2 := r2.length
  obtain ⟨⟨cls, dd, data, sl⟩, ho, hc, n, hd⟩ := pl.isList
  obtain ⟨⟨cls2, dd2, data2, sl2⟩, ho2, hc2, n2, hd2⟩ := pl2.isList
  simp only at hc hd hc2 hd2
  subst hc
  subst hd
  subst hc2
  subst hd2
  have ea : its.toArray ++ its2.toArray = (its ++ its2).toArray := by simp
  refine concat_meets ⟨_, ho, rfl⟩ ⟨_, ho2, rfl⟩ noFill_list_add seq_list_add PySem.F.slot_list_add PySem.F.entry_list_add (PySem.F.args_list_add_2 _ _) (PyProof.Rows.list_addW l b its.toArray its2.toArray n n2 dd dd2 sl sl2 (by rw [List.size_toArray, List.size_toArray]; omega)) ⟨ho, ho2, ?_⟩
  rw [ea]
  exact ⟨.ref _, _, I.lnew (t' := s.toks) (r.append r2) (by rw [List.length_append]; omega), rfl, q _ I.fresh⟩

theorem op_bin (op : Operator) : OpR X (binaryOp op) (rOp2 X.K (binS op)) := by
  intro pins s σ H x y v u Q I rx ry h
  obtain ⟨Hf, sx, sy, fx, fy, z, ex, ox, oy, hf, q⟩ := h
  unfold binS at hf
  split at hf
  · cases own_int ox; cases own_int oy; cases hf
    exact op_add pins s σ H _ _ v u Q I rx ry ⟨_, _, rfl, rfl, q _ _ (.val (.int _))⟩
  · cases own_int ox; cases own_int oy; cases hf
    exact op_sub pins s σ H _ _ v u Q I rx ry ⟨_, _, rfl, rfl, q _ _ (.val (.int _))⟩
  · cases own_int ox; cases own_int oy
    rename_i i j
    split at hf
    · rename_i hs
      cases hf
      refine op_mul pins s σ H _ _ v u Q I rx ry ⟨_, _, rfl, rfl, ?_, q _ _ (.val (.int _))⟩
      rcases Bool.or_eq_true _ _ ▸ hs with hs | hs
      · exact .inl (by unfold small64 at hs; simpa using hs)
      · exact .inr (by unfold small64 at hs; simpa using hs)
    · cases hf
  · cases own_int ox; cases own_int oy
    split at hf
    · rename_i hs
      cases hf
      exact op_mod pins s σ H _ _ v u Q I rx ry ⟨_, _, rfl, rfl, hs, q _ _ (.val (.int _))⟩
    · cases hf
  · cases own_int ox; cases own_int oy
    split at hf
    · rename_i hs
      cases hf
      exact op_fdiv pins s σ H _ _ v u Q I rx ry ⟨_, _, rfl, rfl, hs, q _ _ (.val (.int _))⟩
    · cases hf
  · cases own_int ox; cases own_int oy
    split at hf
    · rename_i hs
      cases hf
      exact op_pow pins s σ H _ _ v u Q I rx ry ⟨_, _, rfl, rfl, ⟨hs.1, by omega, hs.2.2⟩, q _ _ (.val (.int _))⟩
    · cases hf
  · cases own_str ox; cases own_str oy
    split at hf
    · rename_i hs
      cases hf
      have h1 := smS_le (Bool.and_eq_true_iff.mp hs).1
      have h2 := smS_le (Bool.and_eq_true_iff.mp hs).2
      have h3 := line_ge
      exact op_add_str pins s σ H _ _ v u Q I rx ry ⟨_, _, rfl, rfl, by omega, q _ _ (.val (.str _))⟩
    · cases hf
  · obtain ⟨p, xs, rfl, hx, dx⟩ := own_tup ox
    obtain ⟨p2, ys, rfl, hy, dy⟩ := own_tup oy
    split at hf
    · rename_i hs
      cases hf
      have h1 := sm_le (Bool.and_eq_true_iff.mp hs).1
      have h2 := sm_le (Bool.and_eq_true_iff.mp hs).2
      have h3 := line_ge
      have e1 := dx.length
      have e2 := dy.length
      refine op_catA pins s σ H _ _ v u Q I rx ry ⟨_, _, xs, ys, rfl, rfl, ex_t ex hx, ex_t ex hy, by omega, fun e => ?_, fun _ e => ?_, fun _ _ p hp => ?_⟩
      · subst e
        cases dx
        exact q _ _ (.val (.tup hy dy))
      · subst e
        cases dy
        rw [List.append_nil] at q
        exact q _ _ (.val (.tup hx dx))
      · exact q _ _ (.tup hp (dx.append dy))
    · cases hf
  · split at hf
    · rename_i xs ys e1 e2
      obtain ⟨p, vs, rfl, hx, dx⟩ := own_list ex ox e1
      obtain ⟨p2, ws, rfl, hy, dy⟩ := own_list ex oy e2
      split at hf
      · rename_i hs
        cases hf
        have h1 := sm_le (Bool.and_eq_true_iff.mp hs).1
        have h2 := sm_le (Bool.and_eq_true_iff.mp hs).2
        have h3 := line_ge
        have e1 := dx.length
        have e2 := dy.length
        exact op_catR pins s σ H _ _ v u Q I rx ry ⟨_, _, vs, ws, rfl, rfl, hx, hy, by omega, fun p hp => q _ _ (.lst hp (dx.append dy))⟩
      · cases hf
    · cases hf
  · cases hf

def rOp1 (K : PySem.W.Frag) (f : Sl → Option Arg) : V → Hp → VK → Prop := fun x H Q => ∃ Hf sx fx z, Ex Hf H ∧ OwnAt K Hf H sx x fx ∧ f sx = some z ∧ ∀ v H', Raw K Hf H z v H' → Q v H'
theorem un_negS : UnR X (unaryOp .USub) (rOp1 X.K negS) := by
  intro pins s σ H x v Q I rx h
  obtain ⟨Hf, sx, fx, z, ex, ox, hf, q⟩ := h
  unfold negS at hf
  split at hf
  · cases own_int ox; cases hf
    exact un_neg pins s σ H _ v Q I rx ⟨_, rfl, q _ _ (.val (.int _))⟩
  · cases hf

/-! ### comparisons -/
theorem reads_of {pins : List (Addr × Obj)} {s : Shared} {σ : L2.St} {H : Hp} {v : V} {u : Value} {d : PyData} (I : Inv X pins σ H s) (h : Dq X.K H v d) (r : RelV v u) : ∃ as, Reads s.heap u d as := Dp.reads I d v u (Dq.dp _ _ h) r
theorem op_eqS (hu : X.A.units + 65 < cLine) : OpR X (compareOp .Eq) (rOp2 X.K fun x y => (eqS x y).map fun b => .val (.bool b)) := by
  intro pins s σ H x y v u Q I rx ry h
  obtain ⟨Hf, sx, sy, fx, fy, z, ex, ox, oy, hf, q⟩ := h
  dsimp only at hf
  cases e : eqS sx sy with
  | none => rw [e] at hf; cases hf
  | some b =>
    rw [e] at hf
    cases hf
    unfold eqS at e
    split at e
    · rename_i d1 d2 e1 e2
      split at e
      · rename_i hs
        cases e
        obtain ⟨s1, s2⟩ := Bool.and_eq_true_iff.mp hs
        exact op_eqD (by omega) pins s σ H x y v u Q I rx ry ⟨d1, d2, Dq.dp _ _ (own_dp ex ox e1), Dq.dp _ _ (own_dp ex oy e2), s1, s2, q _ _ (.val (.bl _))⟩
      · cases e
    · cases e
theorem op_neS (hu : X.A.units + 65 < cLine) : OpR X (compareOp .NotEq) (rOp2 X.K fun x y => ((eqS x y).map (!·)).map fun b => .val (.bool b)) := by
  intro pins s σ H x y v u Q I rx ry h
  obtain ⟨Hf, sx, sy, fx, fy, z, ex, ox, oy, hf, q⟩ := h
  dsimp only at hf
  cases e : eqS sx sy with
  | none => rw [e] at hf; cases hf
  | some b =>
    rw [e] at hf
    cases hf
    unfold eqS at e
    split at e
    · rename_i d1 d2 e1 e2
      split at e
      · rename_i hs
        cases e
        obtain ⟨s1, s2⟩ := Bool.and_eq_true_iff.mp hs
        exact op_neD (by omega) pins s σ H x y v u Q I rx ry ⟨d1, d2, Dq.dp _ _ (own_dp ex ox e1), Dq.dp _ _ (own_dp ex oy e2), s1, s2, q _ _ (.val (.bl _))⟩
      · cases e
    · cases e
end
end Cor
set_option Elab.async false
set_option linter.all false
set_option maxRecDepth 100000
set_option maxHeartbeats 4000000
/-! Core 3b: comparisons, subscripts, slices by values. -/
namespace Cor
open PySem PySem.Spec PyProof.Rows L2
open Evl (Ex ex_l ex_t)
variable {K : PySem.W.Frag} {X : Cx}

theorem kvd_find {Hf : Hp} (k : Key) : ∀ {ys : List (Key × V)} {kvs : List (Key × PyData)}, KvD K Hf ys kvs → match valD kvs k with
    | some d => ∃ v, valV ys k = some v ∧ Dq K Hf v d
    | none => valV ys k = none
  | _, _, .nil => rfl
  | _, _, .cons (a := p) (b := q) r t => by
    obtain ⟨e1, e2⟩ := r
    have ih := kvd_find k t
    by_cases h : q.1 = k
    · have h' : p.1 = k := e1.trans h
      have q1 : ∀ l, valD (q :: l) k = some q.2 := fun l => by unfold valD; rw [List.find?_cons, decide_eq_true h]; rfl
      rw [q1]
      exact ⟨p.2, valV_pos h', e2⟩
    · have h' : ¬ p.1 = k := fun z => h (e1.symm.trans z)
      rw [valV_neg h']
      have q1 : ∀ l, valD (q :: l) k = valD l k := fun l => by unfold valD; rw [List.find?_cons, decide_eq_false h]
      rw [q1]
      exact ih
theorem key_v {Hf : Hp} {d : PyData} {v : V} {k : Key} (h : Dq K Hf v d) (e : keyD d = some k) : v = kV k := by
  cases d with
  | int i => cases e; cases h; rfl
  | str z => cases e; cases h; rfl
  | none => cases e
  | bool _ => cases e
  | list _ => cases e
  | tuple _ => cases e
  | dict _ => cases e

def cmpA (op : CmpOp) (x y : Sl) : Option Arg := (cmpS op x y).map fun b => .val (.bool b)
theorem shp_list {ds : List PyData} (h : shp (.list ds) = true) : PyData.canLayAll0 ds = true ∧ PyData.depthAll ds ≤ 64 := by
  have h1 := SeqAt.canLay_of_shaped h
  have h2 := SeqAt.depth_of_shaped h
  have h3 : (PyData.list ds).depth = PyData.depthAll ds + 1 := rfl
  exact ⟨h1, by omega⟩
theorem shp_tup {ds : List PyData} (h : shp (.tuple ds) = true) : PyData.canLayAll0 ds = true ∧ PyData.depthAll ds ≤ 64 := by
  have h1 := SeqAt.canLay_of_shaped h
  have h2 := SeqAt.depth_of_shaped h
  have h3 : (PyData.tuple ds).depth = PyData.depthAll ds + 1 := rfl
  exact ⟨h1, by omega⟩
/-- in and not in, by values: c is what the comparison tells of the truth -/
theorem in_go {neg : Bool} (hu : X.A.units + 100 < cLine) {pins : List (Addr × Obj)} {s : Shared} {σ : L2.St} {H : Hp} {x y : V} {v u : Value} {Q : VK} (I : L2.Inv X pins σ H s) (rx : RelV x v) (ry : RelV y u)
    {Hf : Hp} {sx sy : Sl} {fx fy : List Addr} {b : Bool} (ex : Ex Hf H) (ox : OwnAt X.K Hf H sx x fx) (oy : OwnAt X.K Hf H sy y fy) (e : inS sx sy = some b) (q : Q (.bl (if neg then !b else b)) H) :
    wpAny (model X.prog X.w) X.A (compareOp (if neg then .NotIn else .In) v u) (EP X pins σ Q) X.xe s := by
  have seqL : ∀ d ds, datS sx = some d → datS sy = some (.list ds) → shp d = true → shp (.list ds) = true → b = (ds.any fun e => PyData.eqv e d) →
      wpAny (model X.prog X.w) X.A (compareOp (if neg then .NotIn else .In) v u) (EP X pins σ Q) X.xe s := fun d ds e1 e2 h1 h2 hb => by
    obtain ⟨as, r1⟩ := reads_of I (own_dp ex ox e1) rx
    obtain ⟨bs, r2⟩ := reads_of I (own_dp ex oy e2) ry
    obtain ⟨c1, c2⟩ := shp_list h2
    have c3 := SeqAt.canLay_of_shaped h1
    subst hb
    cases neg with
    | false => exact SeqAt.in_list_reads r2 r1 c1 c3 (by have := Nat.min_le_left (PyData.depthAll ds) d.depth; omega) ⟨.bl _, H, I, rfl, q⟩
    | true => exact SeqAt.notIn_list_reads r2 r1 c1 c3 (by have := Nat.min_le_left (PyData.depthAll ds) d.depth; omega) ⟨.bl _, H, I, rfl, q⟩
  unfold inS at e
  split at e
  · rename_i d kvs
    obtain ⟨p, ys, rfl, _, hp, hd⟩ := oy
    obtain ⟨k, hk, hb⟩ := Option.map_eq_some_iff.mp e
    have ek := key_v ox.2 hk
    subst ek
    cases ry
    have hf := kvd_find k hd
    have hv : (valV ys k).isSome = b := by
      rw [← hb]
      cases hq : valD kvs k with
      | none => rw [hq] at hf; rw [hf] <;> rfl
      | some d => rw [hq] at hf; obtain ⟨w, e1, _⟩ := hf; rw [e1]; rfl
    cases neg with
    | false => exact d_in (by omega) I (DGet.k hp) rx fun s' I' => ⟨.bl _, H, I', by rw [hv]; rfl, q⟩
    | true => exact d_notIn (by omega) I (DGet.k hp) rx fun s' I' => ⟨.bl _, H, I', by rw [hv]; rfl, q⟩
  · rename_i d ds
    split at e
    · rename_i hs
      obtain ⟨h1, h2⟩ := Bool.and_eq_true_iff.mp hs
      cases e
      obtain ⟨as, r1⟩ := reads_of I (own_dp ex ox rfl) rx
      obtain ⟨bs, r2⟩ := reads_of I (own_dp ex oy rfl) ry
      obtain ⟨c1, c2⟩ := shp_tup h2
      have c3 := SeqAt.canLay_of_shaped h1
      cases neg with
      | false => exact SeqAt.in_tuple_reads r2 r1 c1 c3 (by have := Nat.min_le_left (PyData.depthAll ds) d.depth; omega) ⟨.bl _, H, I, rfl, q⟩
      | true => exact SeqAt.notIn_tuple_reads r2 r1 c1 c3 (by have := Nat.min_le_left (PyData.depthAll ds) d.depth; omega) ⟨.bl _, H, I, rfl, q⟩
    · cases e
  · cases e
  · split at e
    · rename_i d ds e1 e2
      split at e
      · rename_i hs
        obtain ⟨h1, h2⟩ := Bool.and_eq_true_iff.mp hs
        cases e
        exact seqL d ds e1 e2 h1 h2 rfl
      · cases e
    · cases e
theorem ints_v {Hf : Hp} : ∀ {ds : List PyData} {xs : List V} {ns : List Int}, DqAll K Hf xs ds → intsD ds = some ns → xs = ns.map V.int ∧ ds = ns.map PyData.int
  | [], _, ns, h, e => by cases h; cases e; exact ⟨rfl, rfl⟩
  | .int i :: r, _, ns, h, e => by
    cases h with
    | cons h1 h2 =>
      obtain ⟨ms, e1, e2⟩ := Option.map_eq_some_iff.mp (show (intsD r).map (i :: ·) = some ns from e)
      obtain ⟨a, b⟩ := ints_v h2 e1
      cases h1
      subst e2
      exact ⟨by rw [a]; rfl, by rw [b]; rfl⟩
  | .none :: _, _, _, _, e => by cases e
  | .bool _ :: _, _, _, _, e => by cases e
  | .str _ :: _, _, _, _, e => by cases e
  | .list _ :: _, _, _, _, e => by cases e
  | .tuple _ :: _, _, _, _, e => by cases e
  | .dict _ :: _, _, _, _, e => by cases e
theorem bols_v {Hf : Hp} : ∀ {ds : List PyData} {xs : List V} {ns : List Bool}, DqAll K Hf xs ds → bolsD ds = some ns → xs = ns.map V.bl
  | [], _, ns, h, e => by cases h; cases e; rfl
  | .bool i :: r, _, ns, h, e => by
    cases h with
    | cons h1 h2 =>
      obtain ⟨ms, e1, e2⟩ := Option.map_eq_some_iff.mp (show (bolsD r).map (i :: ·) = some ns from e)
      have a := bols_v h2 e1
      cases h1
      subst e2
      rw [a]; rfl
  | .none :: _, _, _, _, e => by cases e
  | .int _ :: _, _, _, _, e => by cases e
  | .str _ :: _, _, _, _, e => by cases e
  | .list _ :: _, _, _, _, e => by cases e
  | .tuple _ :: _, _, _, _, e => by cases e
  | .dict _ :: _, _, _, _, e => by cases e
theorem op_cmpS (hu : X.A.units + 100 < cLine) (op : CmpOp) : OpR X (compareOp op) (rOp2 X.K (cmpA op)) := by
  cases op with
  | Eq => exact op_eqS (by omega)
  | NotEq => exact op_neS (by omega)
  | Lt =>
    intro pins s σ H x y v u Q I rx ry h
    obtain ⟨Hf, sx, sy, fx, fy, z, ex, ox, oy, hf, q⟩ := h
    obtain ⟨b, e, rfl⟩ := Option.map_eq_some_iff.mp hf
    have e : ltS sx sy = some b := e
    unfold ltS at e
    split at e
    · cases own_int ox; cases own_int oy; cases e
      exact op_lt pins s σ H _ _ v u Q I rx ry ⟨_, _, rfl, rfl, q _ _ (.val (.bl _))⟩
    · obtain ⟨p, xs, rfl, hx, dx⟩ := own_tup ox
      obtain ⟨p2, ys, rfl, hy, dy⟩ := own_tup oy
      split at e
      · rename_i a b' e1 e2
        cases e
        obtain ⟨g1, _⟩ := ints_v dx e1
        obtain ⟨g2, _⟩ := ints_v dy e2
        subst g1; subst g2
        exact op_ltT (by omega) pins s σ H _ _ v u Q I rx ry ⟨_, _, _, _, rfl, rfl, ex_t ex hx, ex_t ex hy, q _ _ (.val (.bl _))⟩
      · cases e
    · cases e
  | LtE =>
    intro pins s σ H x y v u Q I rx ry h
    obtain ⟨Hf, sx, sy, fx, fy, z, ex, ox, oy, hf, q⟩ := h
    obtain ⟨b, e, rfl⟩ := Option.map_eq_some_iff.mp hf
    have e : leS sx sy = some b := e
    unfold leS at e
    split at e
    · cases own_int ox; cases own_int oy; cases e
      exact op_le pins s σ H _ _ v u Q I rx ry ⟨_, _, rfl, rfl, q _ _ (.val (.bl _))⟩
    · cases e
  | Gt =>
    intro pins s σ H x y v u Q I rx ry h
    obtain ⟨Hf, sx, sy, fx, fy, z, ex, ox, oy, hf, q⟩ := h
    obtain ⟨b, e, rfl⟩ := Option.map_eq_some_iff.mp hf
    have e : gtS sx sy = some b := e
    unfold gtS at e
    split at e
    · cases own_int ox; cases own_int oy; cases e
      exact op_gt pins s σ H _ _ v u Q I rx ry ⟨_, _, rfl, rfl, q _ _ (.val (.bl _))⟩
    · cases e
  | GtE =>
    intro pins s σ H x y v u Q I rx ry h
    obtain ⟨Hf, sx, sy, fx, fy, z, ex, ox, oy, hf, q⟩ := h
    obtain ⟨b, e, rfl⟩ := Option.map_eq_some_iff.mp hf
    have e : geS sx sy = some b := e
    unfold geS at e
    split at e
    · cases own_int ox; cases own_int oy; cases e
      exact op_ge pins s σ H _ _ v u Q I rx ry ⟨_, _, rfl, rfl, q _ _ (.val (.bl _))⟩
    · cases e
  | Is =>
    intro pins s σ H x y v u Q I rx ry h
    obtain ⟨Hf, sx, sy, fx, fy, z, ex, ox, oy, hf, q⟩ := h
    obtain ⟨b, e, rfl⟩ := Option.map_eq_some_iff.mp hf
    have e : isS sx sy = some b := e
    unfold isS at e
    split at e
    · rename_i d
      cases own_none oy; cases e
      refine op_isN pins s σ H _ _ v u Q I rx ry ⟨rfl, ?_⟩
      have q' := q _ _ (.val (.bl _))
      cases hd : ox.2 <;> exact q'
    · cases e
  | IsNot =>
    intro pins s σ H x y v u Q I rx ry h
    obtain ⟨Hf, sx, sy, fx, fy, z, ex, ox, oy, hf, q⟩ := h
    obtain ⟨b, e, rfl⟩ := Option.map_eq_some_iff.mp hf
    obtain ⟨c, e2, rfl⟩ := Option.map_eq_some_iff.mp (show (isS sx sy).map (!·) = some b from e)
    unfold isS at e2
    split at e2
    · rename_i d
      cases own_none oy; cases e2
      refine op_notN pins s σ H _ _ v u Q I rx ry ⟨rfl, ?_⟩
      have q' := q _ _ (.val (.bl _))
      cases hd : ox.2 <;> exact q'
    · cases e2
  | In =>
    intro pins s σ H x y v u Q I rx ry h
    obtain ⟨Hf, sx, sy, fx, fy, z, ex, ox, oy, hf, q⟩ := h
    obtain ⟨b, e, rfl⟩ := Option.map_eq_some_iff.mp hf
    exact in_go (neg := false) hu I rx ry ex ox oy (show inS sx sy = some b from e) (q _ _ (.val (.bl _)))
  | NotIn =>
    intro pins s σ H x y v u Q I rx ry h
    obtain ⟨Hf, sx, sy, fx, fy, z, ex, ox, oy, hf, q⟩ := h
    obtain ⟨b, e, rfl⟩ := Option.map_eq_some_iff.mp hf
    obtain ⟨c, e2, rfl⟩ := Option.map_eq_some_iff.mp (show (inS sx sy).map (!·) = some b from e)
    exact in_go (neg := true) hu I rx ry ex ox oy e2 (q _ _ (.val (.bl _)))

/-! ### subscripts -/
theorem atI_map {Hf : Hp} {xs : List V} {ds : List PyData} {i : Int} {d : PyData} (h : DqAll K Hf xs ds) (e : atI ds i = some d) : ∃ v, atI xs i = some v ∧ Dq K Hf v d := by
  unfold atI at e ⊢
  rw [h.length]
  obtain ⟨j, e1, e2⟩ := Option.bind_eq_some_iff.mp e
  obtain ⟨v, e3, e4⟩ := h.get e2
  exact ⟨v, Option.bind_eq_some_iff.mpr ⟨j, e1, e3⟩, e4⟩
theorem ix_S (hu : X.A.units + 100 < cLine) : IxR X (rOp2 X.K idxS) := by
  intro value slice pins s σ H x y v u Q I rx ry h hs
  obtain ⟨Hf, sx, sy, fx, fy, z, ex, ox, oy, hf, q⟩ := h
  unfold idxS at hf
  split at hf
  · rename_i kvs d
    obtain ⟨p, ys, rfl, _, hp, hd⟩ := ox
    obtain ⟨k, hk, hf⟩ := Option.bind_eq_some_iff.mp hf
    obtain ⟨dv, hv, rfl⟩ := Option.map_eq_some_iff.mp hf
    have ek := key_v oy.2 hk
    subst ek
    have hq := kvd_find k hd
    rw [hv] at hq
    obtain ⟨w, e1, e2⟩ := hq
    cases rx
    have g : DGet H p (kV k) (some w) := by rw [← e1]; exact DGet.k hp
    exact tail_any (dict_typeIs I g) PySem.F.slot_dict_getitem.lookup (d_getItem (by omega) I g ry fun w' s3 I3 rw' => ⟨w, H, I3, rw', q _ _ (.val e2)⟩) hs
  · cases own_str ox; cases own_int oy
    split at hf
    · rename_i hz
      obtain ⟨c, hc, rfl⟩ := Option.map_eq_some_iff.mp hf
      exact ix_str value slice pins s σ H _ _ v u Q I rx ry ⟨_, _, c, rfl, rfl, Nat.le_trans (smS_le hz) (Nat.le_trans (by decide) line_ge), hc, q _ _ (.val (.str _))⟩ hs
    · cases hf
  · rename_i sx' i _ _
    cases own_int oy
    obtain ⟨ds, hds, hf⟩ := Option.bind_eq_some_iff.mp hf
    obtain ⟨d, hd, rfl⟩ := Option.map_eq_some_iff.mp hf
    obtain ⟨p, xs, rfl, hx, dx⟩ := own_seq ex ox hds
    obtain ⟨w, e1, e2⟩ := atI_map dx hd
    rcases hx with ⟨hx, _⟩ | ⟨hx, _⟩
    · exact ix_list value slice pins s σ H _ _ v u Q I rx ry ⟨p, xs, _, w, rfl, rfl, hx, e1, q _ _ (.val e2)⟩ hs
    · exact ix_tup value slice pins s σ H _ _ v u Q I rx ry ⟨p, xs, _, w, rfl, rfl, hx, e1, q _ _ (.val e2)⟩ hs
  · cases hf
def rSl (K : PySem.W.Frag) : V → Option Int → Option Int → Hp → VK → Prop := fun x lo hi H Q => ∃ Hf sx fx z, Ex Hf H ∧ OwnAt K Hf H sx x fx ∧ sliS sx lo hi = some z ∧ ∀ v H', Raw K Hf H z v H' → Q v H'
theorem cut_dq {Hf : Hp} {xs : List V} {ds : List PyData} (h : DqAll K Hf xs ds) (lo hi : Option Int) : DqAll K Hf (cutV xs lo hi) (cutD ds lo hi) := by
  unfold cutV cutD
  rw [h.length]
  exact (h.drop _).take _
theorem cutD_whole {ds : List PyData} {lo hi : Option Int} (h : HT.sIx ds.length 0 lo = 0 ∧ HT.sIx ds.length ds.length hi = ds.length) : cutD ds lo hi = ds := by
  unfold cutD
  rw [h.1, h.2]
  simp
theorem sl_S : SlR X (rSl X.K) := by
  intro pins s σ H x v vl vu lo hi sl Q I rx hs pl pu h
  obtain ⟨Hf, sx, fx, z, ex, ox, hf, q⟩ := h
  unfold sliS at hf
  split at hf
  · cases own_str ox
    split at hf
    · rename_i hz
      cases hf
      exact sl_str pins s σ H _ v vl vu lo hi sl Q I rx hs pl pu ⟨_, rfl, Nat.le_trans (smS_le hz) (Nat.le_trans (by decide) line_ge), q _ _ (.val (.str _))⟩
    · cases hf
  · obtain ⟨p, xs, rfl, hx, dx⟩ := own_tup ox
    cases hf
    refine sl_tupA pins s σ H _ v vl vu lo hi sl Q I rx hs pl pu ⟨p, xs, rfl, ex_t ex hx, fun hw => ?_, fun _ p' hp => q _ _ (.tup hp (cut_dq dx lo hi))⟩
    rw [dx.length] at hw
    rw [cutD_whole hw] at q
    exact q _ _ (.val (.tup hx dx))
  · split at hf
    · rename_i ds e
      cases hf
      obtain ⟨p, xs, rfl, hx, dx⟩ := own_list ex ox e
      exact sl_list pins s σ H _ v vl vu lo hi sl Q I rx hs pl pu ⟨p, xs, rfl, hx, fun p' hp => q _ _ (.lst hp (cut_dq dx lo hi))⟩
    · cases hf
end Cor
set_option Elab.async false
set_option linter.all false
set_option maxRecDepth 100000
set_option maxHeartbeats 4000000
/-! Core 3c: the built-ins, by values. -/
namespace Cor
open PySem PySem.Spec PyProof.Rows L2
open Evl (Ex ex_l ex_t)
variable {K : PySem.W.Frag} {X : Cx}

abbrev OwnAll (K : PySem.W.Frag) (Hf H : Hp) : List V → List Sl → Prop := Paired fun v s => ∃ fp, OwnAt K Hf H s v fp
def rCall (K : PySem.W.Frag) (f : List Sl → Option Arg) : List V → Hp → VK → Prop := fun vs H Q => ∃ Hf ss z, Ex Hf H ∧ OwnAll K Hf H vs ss ∧ f ss = some z ∧ ∀ v H', Raw K Hf H z v H' → Q v H'
theorem all1 {Hf H : Hp} {vs : List V} {x : Sl} (h : OwnAll K Hf H vs [x]) : ∃ v fp, vs = [v] ∧ OwnAt K Hf H x v fp := by
  cases h with
  | cons a t => cases t; exact ⟨_, a.choose, rfl, a.choose_spec⟩
theorem all2 {Hf H : Hp} {vs : List V} {x y : Sl} (h : OwnAll K Hf H vs [x, y]) : ∃ v w fp fq, vs = [v, w] ∧ OwnAt K Hf H x v fp ∧ OwnAt K Hf H y w fq := by
  cases h with
  | cons a t => cases t with
    | cons b t => cases t; exact ⟨_, _, a.choose, b.choose, rfl, a.choose_spec, b.choose_spec⟩
theorem le_line {n : Nat} (h : n ≤ 100000) : n ≤ sizeLine := Nat.le_trans h (Nat.le_trans (by decide) line_ge)

theorem kvd_len {Hf : Hp} {ys : List (Key × V)} {kvs : List (Key × PyData)} (h : KvD K Hf ys kvs) : ys.length = kvs.length := Paired.length h
theorem kvd_keys {Hf : Hp} {ys : List (Key × V)} {kvs : List (Key × PyData)} (h : KvD K Hf ys kvs) : ys.map (·.1) = kvs.map (·.1) := by
  induction h with
  | nil => rfl
  | cons r _ ih => rw [List.map_cons, List.map_cons, r.1, ih]
theorem dkey_dq {Hf : Hp} (k : Key) : Dq K Hf (kV k) (dKey k) := by
  cases k with
  | inl i => exact .int i
  | inr z => exact .str z
theorem keys_dq {Hf : Hp} {ys : List (Key × V)} {kvs : List (Key × PyData)} (h : KvD K Hf ys kvs) : DqAll K Hf (ys.map fun kv => kV kv.1) (keysD kvs) := by
  unfold keysD
  induction h with
  | nil => exact .nil
  | cons r _ ih =>
    rw [List.map_cons, List.map_cons]
    refine .cons ?_ ih
    rw [r.1]
    exact dkey_dq _

theorem cr_len : CallR X (.builtin "len") (rCall X.K lenB) := by
  intro pins s σ H vs us Q I r h
  obtain ⟨Hf, ss, z, ex, oa, hf, q⟩ := h
  unfold lenB at hf
  split at hf
  · obtain ⟨v, fp, rfl, o⟩ := all1 oa
    cases own_str o
    split at hf
    · rename_i hz
      cases hf
      exact call_len_str pins s σ H _ us Q I r ⟨_, rfl, le_line (smS_le hz), q _ _ (.val (.int _))⟩
    · cases hf
  · obtain ⟨v, fp, rfl, o⟩ := all1 oa
    obtain ⟨p, ys, rfl, _, hp, hd⟩ := o
    cases hf
    refine call_lenD pins s σ H _ us Q I r ⟨p, ys, rfl, hp, ?_⟩
    rw [kvd_len hd]
    exact q _ _ (.val (.int _))
  · obtain ⟨v, fp, rfl, o⟩ := all1 oa
    obtain ⟨ds, e, rfl⟩ := Option.map_eq_some_iff.mp hf
    obtain ⟨p, xs, rfl, hx, dx⟩ := own_seq ex o e
    refine call_len_seq pins s σ H _ us Q I r ⟨p, xs, rfl, ?_, ?_⟩
    · rcases hx with ⟨hx, _⟩ | ⟨hx, _⟩
      · exact .inl hx
      · exact .inr hx
    · rw [dx.length]
      exact q _ _ (.val (.int _))
  · cases hf
theorem cr_tup (hc : X.calm = true) : CallR X (.type "tuple") (rCall X.K tupB) := by
  intro pins s σ H vs us Q I r h
  obtain ⟨Hf, ss, z, ex, oa, hf, q⟩ := h
  unfold tupB at hf
  split at hf
  · obtain ⟨v, fp, rfl, o⟩ := all1 oa
    obtain ⟨ds, e, rfl⟩ := Option.map_eq_some_iff.mp hf
    obtain ⟨p, xs, rfl, hx, dx⟩ := own_seq ex o e
    refine call_tuple_of pins s σ H _ us Q I r ⟨p, xs, rfl, ?_⟩
    rcases hx with ⟨hx, _⟩ | ⟨hx, hx2, e2⟩
    · exact .inl ⟨hx, fun l hl => q _ _ (.tup hl dx)⟩
    · exact .inr ⟨hx, q _ _ (.val (.tup hx2 dx))⟩
  · cases hf
theorem cr_lst (hc : X.calm = true) : CallR X (.type "list") (rCall X.K lstB) := by
  intro pins s σ H vs us Q I r h
  obtain ⟨Hf, ss, z, ex, oa, hf, q⟩ := h
  unfold lstB at hf
  split at hf
  · obtain ⟨v, fp, rfl, o⟩ := all1 oa
    obtain ⟨p, ys, rfl, _, hp, hd⟩ := o
    cases hf
    exact call_list_dK hc pins s σ H _ us Q I r ⟨p, ys, rfl, hp, fun l hl => q _ _ (.lst hl (keys_dq hd))⟩
  · obtain ⟨v, fp, rfl, o⟩ := all1 oa
    obtain ⟨ds, e, rfl⟩ := Option.map_eq_some_iff.mp hf
    obtain ⟨p, xs, rfl, hx, dx⟩ := own_seq ex o e
    refine call_list_of pins s σ H _ us Q I r ⟨p, xs, rfl, ?_, fun l hl => q _ _ (.lst hl dx)⟩
    rcases hx with ⟨hx, _⟩ | ⟨hx, _⟩
    · exact .inl hx
    · exact .inr hx
  · cases hf
theorem cr_abs : CallR X (.builtin "abs") (rCall X.K absB) := by
  intro pins s σ H vs us Q I r h
  obtain ⟨Hf, ss, z, ex, oa, hf, q⟩ := h
  unfold absB at hf
  split at hf
  · obtain ⟨v, fp, rfl, o⟩ := all1 oa
    cases own_int o
    cases hf
    exact call_abs pins s σ H _ us Q I r ⟨_, rfl, q _ _ (.val (.int _))⟩
  · cases hf
theorem cr_int : CallR X (.type "int") (rCall X.K intB) := by
  intro pins s σ H vs us Q I r h
  obtain ⟨Hf, ss, z, ex, oa, hf, q⟩ := h
  unfold intB at hf
  split at hf
  · obtain ⟨v, fp, rfl, o⟩ := all1 oa
    cases own_int o
    cases hf
    exact call_int1 pins s σ H _ us Q I r (.inl ⟨_, rfl, q _ _ (.val (.int _))⟩)
  · obtain ⟨v, fp, rfl, o⟩ := all1 oa
    cases own_bool o
    cases hf
    exact call_int1 pins s σ H _ us Q I r (.inr ⟨_, rfl, q _ _ (.val (.int _))⟩)
  · cases hf
theorem cr_div : CallR X (.builtin "divmod") (rCall X.K divB) := by
  intro pins s σ H vs us Q I r h
  obtain ⟨Hf, ss, z, ex, oa, hf, q⟩ := h
  unfold divB at hf
  split at hf
  · obtain ⟨v, w, fp, fq, rfl, o, o2⟩ := all2 oa
    cases own_int o; cases own_int o2
    split at hf
    · rename_i hj
      cases hf
      exact call_divmod pins s σ H _ us Q I r ⟨_, _, rfl, hj, fun p hp => q _ _ (.tup hp (.cons (.int _) (.cons (.int _) .nil)))⟩
    · cases hf
  · cases hf
theorem natAbs_log2 {i : Int} (h : i.natAbs < 1000000) : i.natAbs.log2 < 1920 := by
  by_cases h0 : i.natAbs = 0
  · rw [h0]; decide
  · have : i.natAbs.log2 < 20 := (Nat.log2_lt h0).mpr (by omega)
    omega
theorem cr_str : CallR X (.type "str") (rCall X.K strB) := by
  intro pins s σ H vs us Q I r h
  obtain ⟨Hf, ss, z, ex, oa, hf, q⟩ := h
  unfold strB at hf
  split at hf
  · obtain ⟨v, fp, rfl, o⟩ := all1 oa
    cases own_int o
    split at hf
    · rename_i hi
      cases hf
      exact call_str_int pins s σ H _ us Q I r ⟨_, rfl, natAbs_log2 hi, q _ _ (.val (.str _))⟩
    · cases hf
  · cases hf
theorem cr_allB (hc : X.calm = true) : CallR X (.builtin "all") (rCall X.K allB) := by
  intro pins s σ H vs us Q I r h
  obtain ⟨Hf, ss, z, ex, oa, hf, q⟩ := h
  unfold allB at hf
  split at hf
  · obtain ⟨v, fp, rfl, o⟩ := all1 oa
    obtain ⟨d, e, hf⟩ := Option.bind_eq_some_iff.mp hf
    split at hf
    · obtain ⟨bs, e2, rfl⟩ := Option.map_eq_some_iff.mp hf
      obtain ⟨p, xs, rfl, hx, dx⟩ := own_list ex o e
      have e3 := bols_v dx e2
      subst e3
      exact cr_all hc pins s σ H _ us Q I r ⟨p, bs, rfl, hx, q _ _ (.val (.bl _))⟩
    · cases hf
  · cases hf
theorem cr_anyB (hc : X.calm = true) : CallR X (.builtin "any") (rCall X.K anyB) := by
  intro pins s σ H vs us Q I r h
  obtain ⟨Hf, ss, z, ex, oa, hf, q⟩ := h
  unfold anyB at hf
  split at hf
  · obtain ⟨v, fp, rfl, o⟩ := all1 oa
    obtain ⟨d, e, hf⟩ := Option.bind_eq_some_iff.mp hf
    split at hf
    · obtain ⟨bs, e2, rfl⟩ := Option.map_eq_some_iff.mp hf
      obtain ⟨p, xs, rfl, hx, dx⟩ := own_list ex o e
      have e3 := bols_v dx e2
      subst e3
      exact cr_any hc pins s σ H _ us Q I r ⟨p, bs, rfl, hx, q _ _ (.val (.bl _))⟩
    · cases hf
  · cases hf
theorem cr_sumB (hc : X.calm = true) : CallR X (.builtin "sum") (rCall X.K sumB) := by
  intro pins s σ H vs us Q I r h
  obtain ⟨Hf, ss, z, ex, oa, hf, q⟩ := h
  unfold sumB at hf
  split at hf
  · obtain ⟨v, fp, rfl, o⟩ := all1 oa
    obtain ⟨d, e, hf⟩ := Option.bind_eq_some_iff.mp hf
    split at hf
    · obtain ⟨bs, e2, rfl⟩ := Option.map_eq_some_iff.mp hf
      obtain ⟨p, xs, rfl, hx, dx⟩ := own_list ex o e
      obtain ⟨e3, _⟩ := ints_v dx e2
      subst e3
      exact cr_sum hc pins s σ H _ us Q I r ⟨p, bs, rfl, hx, q _ _ (.val (.int _))⟩
    · cases hf
  · cases hf
end Cor
set_option Elab.async false
set_option linter.all false
set_option maxRecDepth 100000
set_option maxHeartbeats 4000000
/-! Core 3d: min, max, sorted, repr, isinstance, dict.get. -/
namespace Cor
open PySem PySem.Spec PyProof.Rows L2
open Evl (Ex ex_l ex_t)
section
variable {prog : Program} {w : World} {A : Around} {E : Value → Shared → Prop} {s : Shared} {l : Addr} {xs : Array (Int × Tok)}
theorem tup_old {h' : Heap} (hk : ∀ b o, b ∉ [s.heap.objs.size] → (s.heap.push { cls := .type "tuple_iterator", data := .fields #[.ref l, .int 0 0] }).get? b = some o → h'.get? b = some o) :
    ∀ b o, s.heap.get? b = some o → h'.get? b = some o := fun b o e => by
  have hb : b ≠ s.heap.objs.size := Nat.ne_of_lt (Heap.lt_size e)
  exact hk b o (by simp [hb]) (Heap.get?_push_of_some _ e)
theorem tup_fp (hl : l < s.heap.objs.size) {o : Obj} : ∀ b ∈ [s.heap.objs.size, l], b < (s.heap.push o).objs.size := fun b hb => by
  rw [Heap.size_push]
  simp only [List.mem_cons, List.not_mem_nil, or_false] at hb
  rcases hb with rfl | rfl
  · exact Nat.lt_succ_self _
  · exact Nat.lt_succ_of_lt hl
theorem min_intTup {Q : Value → Shared → Prop} (hh : A.handled = none) (hl : s.heap.IsTuple l (intItems xs)) (hne : 0 < xs.size)
    (h : ∀ v h' tk, (intItems xs)[argBest (fun i j => decide (numAt xs i < numAt xs j)) (xs.size - 1)]? = some v → (∀ b o, s.heap.get? b = some o → h'.get? b = some o) → Q v { s with heap := h', toks := tk }) :
    wpAny (model prog w) A (call (.builtin "min") [.ref l]) Q E s := by
  have hlt : l < s.heap.objs.size := by obtain ⟨_, e, _⟩ := hl; exact Heap.lt_size e
  refine call_min_walk (wpAny_pyIter_tuple hl ?_)
  refine ⟨_, [_, l], [_], _, _, _, _, rfl, Walks.tuple (A := A.in1) hh _ l (Nat.ne_of_lt hlt) (intItems xs), ⟨⟨_, Heap.get?_push_size _ rfl, rfl, rfl⟩, hl.push _⟩, tup_fp hlt, by simpa [intItems] using hne,
    CmpOf.ints_lt (numAt xs) (fun _ _ => intItems_at), fun v h' tk hP hk => ?_⟩
  exact h v h' tk (by simpa [intItems] using hP) (tup_old hk)
theorem max_intTup {Q : Value → Shared → Prop} (hh : A.handled = none) (hl : s.heap.IsTuple l (intItems xs)) (hne : 0 < xs.size)
    (h : ∀ v h' tk, (intItems xs)[argBest (fun i j => decide (numAt xs i > numAt xs j)) (xs.size - 1)]? = some v → (∀ b o, s.heap.get? b = some o → h'.get? b = some o) → Q v { s with heap := h', toks := tk }) :
    wpAny (model prog w) A (call (.builtin "max") [.ref l]) Q E s := by
  have hlt : l < s.heap.objs.size := by obtain ⟨_, e, _⟩ := hl; exact Heap.lt_size e
  refine call_max_walk (wpAny_pyIter_tuple hl ?_)
  refine ⟨_, [_, l], [_], _, _, _, _, rfl, Walks.tuple (A := A.in1) hh _ l (Nat.ne_of_lt hlt) (intItems xs), ⟨⟨_, Heap.get?_push_size _ rfl, rfl, rfl⟩, hl.push _⟩, tup_fp hlt, by simpa [intItems] using hne,
    CmpOf.ints_gt (numAt xs) (fun _ _ => intItems_at), fun v h' tk hP hk => ?_⟩
  exact h v h' tk (by simpa [intItems] using hP) (tup_old hk)
end
section
variable {prog : Program} {w : World} {A : Around} {E : Value → Shared → Prop} {s : Shared} {l : Addr} {its : List Value} {ns : List Int} {Q : Value → Shared → Prop}
theorem min_rawT (hh : A.handled = none) (hl : s.heap.IsTuple l its.toArray) (hi : IntsAre its ns) (hne : 0 < ns.length)
    (h : ∀ h' tk M t', (∀ b o, s.heap.get? b = some o → h'.get? b = some o) → M ∈ ns → (∀ a, a ∈ ns → M ≤ a) → Q (.int M t') { s with heap := h', toks := tk }) : wpAny (model prog w) A (call (.builtin "min") [.ref l]) Q E s := by
  obtain ⟨ys, e⟩ := hi.allInts.items
  have hn : numsOf (intItems ys).toList = ns := by rw [← e]; exact hi.numsOf
  rw [nums_intItems] at hn
  subst hn
  rw [e] at hl
  refine min_intTup hh hl (by simpa using hne) fun v h' tk hv hk => ?_
  obtain ⟨t, rfl⟩ := intItems_at hv
  obtain ⟨h1, h2⟩ := argBest_lt (numAt ys) (ys.size - 1)
  refine h h' tk _ t hk ?_ fun a ha => ?_
  · rw [numAt_eq]
    have h0 : 0 < ys.size := by simpa using hne
    exact PySem.getD_mem (by rw [List.length_map, Array.length_toList]; omega)
  · obtain ⟨j, hj, rfl⟩ := mem_getD ha
    rw [List.length_map, Array.length_toList] at hj
    rw [← numAt_eq]
    exact h2 j (by omega)
theorem max_rawT (hh : A.handled = none) (hl : s.heap.IsTuple l its.toArray) (hi : IntsAre its ns) (hne : 0 < ns.length)
    (h : ∀ h' tk M t', (∀ b o, s.heap.get? b = some o → h'.get? b = some o) → M ∈ ns → (∀ a, a ∈ ns → a ≤ M) → Q (.int M t') { s with heap := h', toks := tk }) : wpAny (model prog w) A (call (.builtin "max") [.ref l]) Q E s := by
  obtain ⟨ys, e⟩ := hi.allInts.items
  have hn : numsOf (intItems ys).toList = ns := by rw [← e]; exact hi.numsOf
  rw [nums_intItems] at hn
  subst hn
  rw [e] at hl
  refine max_intTup hh hl (by simpa using hne) fun v h' tk hv hk => ?_
  obtain ⟨t, rfl⟩ := intItems_at hv
  obtain ⟨h1, h2⟩ := argBest_gt (numAt ys) (ys.size - 1)
  refine h h' tk _ t hk ?_ fun a ha => ?_
  · rw [numAt_eq]
    have h0 : 0 < ys.size := by simpa using hne
    exact PySem.getD_mem (by rw [List.length_map, Array.length_toList]; omega)
  · obtain ⟨j, hj, rfl⟩ := mem_getD ha
    rw [List.length_map, Array.length_toList] at hj
    rw [← numAt_eq]
    exact h2 j (by omega)
end
theorem least_is : ∀ (r : List Int) (i m : Int), m ∈ i :: r → (∀ y ∈ i :: r, m ≤ y) → m = leastI i r
  | [], i, m, h, _ => List.mem_singleton.mp h
  | j :: r, i, m, h, g => by
    have gi := g i (by simp)
    have gj := g j (by simp)
    refine least_is r (if j < i then j else i) m ?_ fun y hy => ?_
    · simp only [List.mem_cons] at h ⊢
      rcases h with h | h | h
      · subst h; left; rw [if_neg (by omega)]
      · subst h; left
        by_cases c : m < i
        · rw [if_pos c]
        · rw [if_neg c]; omega
      · exact .inr h
    · rcases List.mem_cons.mp hy with hy | hy
      · rw [hy]; split <;> assumption
      · exact g y (by simp [hy])
theorem most_is : ∀ (r : List Int) (i m : Int), m ∈ i :: r → (∀ y ∈ i :: r, y ≤ m) → m = mostI i r
  | [], i, m, h, _ => List.mem_singleton.mp h
  | j :: r, i, m, h, g => by
    have gi := g i (by simp)
    have gj := g j (by simp)
    refine most_is r (if j > i then j else i) m ?_ fun y hy => ?_
    · simp only [List.mem_cons] at h ⊢
      rcases h with h | h | h
      · subst h; left; rw [if_neg (by omega)]
      · subst h; left
        by_cases c : m > i
        · rw [if_pos c]
        · rw [if_neg c]; omega
      · exact .inr h
    · rcases List.mem_cons.mp hy with hy | hy
      · rw [hy]; split <;> assumption
      · exact g y (by simp [hy])
variable {K : PySem.W.Frag} {X : Cx}
theorem cr_minB (hc : X.calm = true) : CallR X (.builtin "min") (rCall X.K minB) := by
  intro pins s σ H vs us Q I r h
  obtain ⟨Hf, ss, z, ex, oa, hf, q⟩ := h
  unfold minB at hf
  split at hf
  · obtain ⟨v, w, fp, fq, rfl, o, o2⟩ := all2 oa
    cases own_int o; cases own_int o2
    cases hf
    exact call_min2 hc pins s σ H _ us Q I r ⟨_, _, rfl, q _ _ (.val (.int _))⟩
  · obtain ⟨v, fp, rfl, o⟩ := all1 oa
    obtain ⟨ds, e, hf⟩ := Option.bind_eq_some_iff.mp hf
    obtain ⟨ns, e2, hf⟩ := Option.bind_eq_some_iff.mp hf
    obtain ⟨p, xs, rfl, hx, dx⟩ := own_seq ex o e
    obtain ⟨e3, _⟩ := ints_v dx e2
    subst e3
    cases ns with
    | nil => cases hf
    | cons i t =>
      cases hf
      rcases hx with ⟨hx, _⟩ | ⟨hx, _⟩
      · exact cr_min hc pins s σ H _ us Q I r ⟨p, _, rfl, hx, by simp, fun m h1 h2 => by rw [least_is t i m h1 h2]; exact q _ _ (.val (.int _))⟩
      · obtain ⟨its, rv, hl, _⟩ := I.tuple hx
        rw [Vals.ref1 r]
        refine min_rawT (I.ok.hd hc) (show s.heap.IsTuple p its.toArray from hl) rv.ints (by simp) fun h' tk m t' hk h1 h2 => ⟨.int _, H, I.kept hk, ⟨_, rfl⟩, ?_⟩
        rw [least_is t i m h1 h2]
        exact q _ _ (.val (.int _))
  · cases hf
theorem cr_maxB (hc : X.calm = true) : CallR X (.builtin "max") (rCall X.K maxB) := by
  intro pins s σ H vs us Q I r h
  obtain ⟨Hf, ss, z, ex, oa, hf, q⟩ := h
  unfold maxB at hf
  split at hf
  · obtain ⟨v, w, fp, fq, rfl, o, o2⟩ := all2 oa
    cases own_int o; cases own_int o2
    cases hf
    exact call_max2 hc pins s σ H _ us Q I r ⟨_, _, rfl, q _ _ (.val (.int _))⟩
  · obtain ⟨v, fp, rfl, o⟩ := all1 oa
    obtain ⟨ds, e, hf⟩ := Option.bind_eq_some_iff.mp hf
    obtain ⟨ns, e2, hf⟩ := Option.bind_eq_some_iff.mp hf
    obtain ⟨p, xs, rfl, hx, dx⟩ := own_seq ex o e
    obtain ⟨e3, _⟩ := ints_v dx e2
    subst e3
    cases ns with
    | nil => cases hf
    | cons i t =>
      cases hf
      rcases hx with ⟨hx, _⟩ | ⟨hx, _⟩
      · exact cr_max hc pins s σ H _ us Q I r ⟨p, _, rfl, hx, by simp, fun m h1 h2 => by rw [most_is t i m h1 h2]; exact q _ _ (.val (.int _))⟩
      · obtain ⟨its, rv, hl, _⟩ := I.tuple hx
        rw [Vals.ref1 r]
        refine max_rawT (I.ok.hd hc) (show s.heap.IsTuple p its.toArray from hl) rv.ints (by simp) fun h' tk m t' hk h1 h2 => ⟨.int _, H, I.kept hk, ⟨_, rfl⟩, ?_⟩
        rw [most_is t i m h1 h2]
        exact q _ _ (.val (.int _))
  · cases hf

/-! ### sorted -/
open PySem.W (EachIs AllAlike Sortable dataLe alike)
theorem each_reads {H : Hp} {pins : List (Addr × Obj)} {s : Shared} {σ : L2.St} (I : L2.Inv X pins σ H s) : ∀ {ds : List PyData} {xs : List V} {us : List Value}, DqAll X.K H xs ds → Vals xs us → EachIs (fun v b => ∃ as, Reads s.heap v b as) us ds
  | [], _, _, h, r => by cases h; cases r; exact .nil
  | d :: ds, _, _, h, r => by
    cases h with
    | cons h1 h2 =>
      cases r with
      | cons r1 r2 => exact .cons (Dp.reads I d _ _ (Dq.dp _ _ h1) r1) (each_reads I h2 r2)
/-- each value of the machine stands for some tracked value that is the datum -/
theorem each_dq {Hf : Hp} : ∀ {ds : List PyData} {xs : List V} {us : List Value}, DqAll K Hf xs ds → Vals xs us → EachIs (fun v b => ∃ x, RelV x v ∧ Dq K Hf x b) us ds
  | [], _, _, h, r => by cases h; cases r; exact .nil
  | d :: ds, _, _, h, r => by
    cases h with
    | cons h1 h2 =>
      cases r with
      | cons r1 r2 => exact .cons ⟨_, r1, h1⟩ (each_dq h2 r2)
theorem each_back {Hf : Hp} : ∀ {ds : List PyData} {us : List Value}, EachIs (fun v b => ∃ x, RelV x v ∧ Dq K Hf x b) us ds → ∃ xs, Vals xs us ∧ DqAll K Hf xs ds
  | _, _, .nil => ⟨[], .nil, .nil⟩
  | _, _, .cons ⟨x, r, h⟩ t => by
    obtain ⟨xs, r2, h2⟩ := each_back t
    exact ⟨x :: xs, .cons r r2, .cons h h2⟩
theorem sortOk_alike {ds : List PyData} (h : sortOk ds = true) : sm ds = true ∧ AllAlike ds ∧ (∀ d ∈ ds, d.depth ≤ 64) ∧ Sortable ds := by
  unfold sortOk at h
  obtain ⟨h, h4⟩ := Bool.and_eq_true_iff.mp h
  obtain ⟨h, h3⟩ := Bool.and_eq_true_iff.mp h
  obtain ⟨h1, h2⟩ := Bool.and_eq_true_iff.mp h
  refine ⟨h1, fun d hd e he => List.all_eq_true.mp (List.all_eq_true.mp h2 d hd) e he, fun d hd => of_decide_eq_true (List.all_eq_true.mp h3 d hd), ?_⟩
  rcases Bool.or_eq_true _ _ ▸ h4 with h4 | h4
  · left
    intro d hd
    have q := List.all_eq_true.mp h4 d hd
    split at q
    · exact ⟨_, _, rfl⟩
    · cases q
  · right
    intro d hd
    have q := List.all_eq_true.mp h4 d hd
    split at q
    · cases q
    · cases q
    · rename_i n1 n2
      exact ⟨n1, n2⟩
theorem cr_sortedB (hc : X.calm = true) (hu : X.A.units + 100 < cLine) : CallR X (.builtin "sorted") (rCall X.K srtB) := by
  intro pins s σ H vs us Q I r h
  obtain ⟨Hf, ss, z, ex, oa, hf, q⟩ := h
  unfold srtB at hf
  split at hf
  · rename_i kvs
    obtain ⟨v, fp, rfl, o⟩ := all1 oa
    obtain ⟨p, ys, rfl, _, hp, hd⟩ := o
    obtain ⟨ns, e, hf⟩ := Option.bind_eq_some_iff.mp hf
    split at hf
    · rename_i h64
      cases hf
      have h64 : ns.length < 64 := of_decide_eq_true h64
      have hk := keys_dq hd
      obtain ⟨e1, e2⟩ := ints_v hk e
      have ek : ys.map (·.1) = ns.map Sum.inl := by
        have : ∀ (l : List (Key × V)) (m : List Int), (l.map fun kv => kV kv.1) = m.map V.int → l.map (·.1) = m.map Sum.inl := fun l => by
          induction l with
          | nil => intro m h; cases m with
            | nil => rfl
            | cons _ _ => cases h
          | cons a l ih => intro m h; cases m with
            | nil => cases h
            | cons i m =>
              rw [List.map_cons, List.map_cons] at h
              injection h with h1 h2
              rw [List.map_cons, List.map_cons, ih m h2]
              cases hk : a.1 with
              | inl j => rw [hk] at h1; cases h1; rfl
              | inr z => rw [hk] at h1; cases h1
        exact this ys ns e1
      refine call_sortedDI hc pins s σ H _ us Q I r ⟨p, ys, ns, rfl, .inl hp, ek, h64, fun zs p' pm sd hp' => ?_⟩
      have es : srtD (ns.map .int) = zs.map PyData.int := by
        have le : dataLe false (fun i : Int => PyData.int i) = fun a b => decide (a ≤ b) := PySem.W.dataLe_int (fun i => i)
        have h1 : srtD (ns.map PyData.int) = (ns.mergeSort (fun a b => decide (a ≤ b))).map PyData.int := by
          rw [← le]
          exact (List.map_mergeSort (f := PyData.int) (r := dataLe false fun i : Int => PyData.int i) (s := dataLe false id) (l := ns) (fun a _ b _ => rfl)).symm
        rw [h1]
        congr 1
        have hs : (ns.mergeSort (fun a b => decide (a ≤ b))).Pairwise (· ≤ ·) := by
          have := List.pairwise_mergeSort (le := fun a b : Int => decide (a ≤ b)) (fun a b c h1 h2 => by simp at *; omega) (fun a b => by simp; omega) ns
          exact this.imp fun h => by simpa using h
        have hp2 : (ns.mergeSort (fun a b => decide (a ≤ b))).Perm zs := (List.mergeSort_perm ns _).trans pm.symm
        exact hp2.eq_of_pairwise (fun a b _ _ h1 h2 => by omega) hs sd
      have dz : DqAll X.K Hf (zs.map V.int) (zs.map PyData.int) := by
        clear es sd pm
        induction zs with
        | nil => exact .nil
        | cons a t ih => exact .cons (.int a) ih
      rw [es] at q
      exact q _ _ (.lst hp' dz)
    · cases hf
  · obtain ⟨v, fp, rfl, o⟩ := all1 oa
    obtain ⟨d, e, hf⟩ := Option.bind_eq_some_iff.mp hf
    split at hf
    · split at hf
      · rename_i hs
        cases hf
        obtain ⟨hz, hal, hdp, hk⟩ := sortOk_alike hs
        obtain ⟨p, xs, rfl, hx, dx⟩ := own_list ex o e
        rw [Vals.ref1 r]
        obtain ⟨its, rv, hl, _⟩ := I.list hx
        have dxH := DqAll.mono ex _ _ dx
        refine PySem.W.sorted_data (R := fun v b => ∃ x, RelV x v ∧ Dq X.K Hf x b) (enc := id) hl.isList (each_dq dx rv) (each_reads I dxH rv) (by rw [List.map_id]; exact hal) (by rw [List.map_id]; exact hk) (le_line (sm_le hz))
          (fun b hb => by have := hdp b hb; show X.A.units + 2 + b.depth < cLine; omega) fun out ho eo => ?_
        obtain ⟨ys, ry, dy⟩ := each_back eo
        obtain ⟨ep, he'⟩ := PyProof.Rows.sortedAll_at s.heap its out.toArray
        have hlen : ys.length ≤ sizeLine := by rw [ry.length, ho]; exact le_line (sm_le hz)
        exact ⟨.ref _, upd H (s.heap.objs.size + 1) (.lst ys), I.laid (t' := s.toks) (fun _ _ => PyProof.Rows.sortedAll_old) (Nat.le_succ _) ⟨hlen, out, ep, ry, he'⟩, rfl, q _ _ (.lst (I.hok.fresh (Nat.le_succ _)) dy)⟩
      · cases hf
    · cases hf
  · cases hf
end Cor
set_option Elab.async false
set_option linter.all false
set_option maxRecDepth 100000
set_option maxHeartbeats 4000000
/-! Core 3e: repr, isinstance. -/
namespace Cor
open PySem PySem.Spec PyProof.Rows L2
open Evl (Ex ex_l ex_t)
variable {K : PySem.W.Frag} {X : Cx}
theorem repr_go {pins : List (Addr × Obj)} {s : Shared} {σ : L2.St} {H : Hp} {a : Addr} {u : Value} {d : PyData} {Q : VK} (hg : X.A.guards = some []) (hu : X.A.units + 100 < cLine) (I : L2.Inv X pins σ H s) (h : Dq X.K H (.ref a) d) (r : RelV (.ref a) u)
    (h1 : PyData.showable d = true) (h2 : smS (PyData.shown d) = true) (h3 : d.depth ≤ 64) (h4 : PyData.hasDict d = false) (q : Q (.str (PyData.shown d)) H) : wpAny (model X.prog X.w) X.A (call (.builtin "repr") [u]) (EP X pins σ Q) X.xe s := by
  obtain ⟨as, rd⟩ := reads_of I h r
  cases r
  exact PySem.repr_of_reads' rd h1 (PySem.PyData.noDict_hsm h4) hg (by omega) (fun _ _ z => z) (fun h' t tk k => ⟨.str _, H, I.kept k, ⟨_, rfl⟩, q⟩) (le_line (smS_le h2))
theorem cr_rep (hg : X.A.guards = some []) (hu : X.A.units + 100 < cLine) : CallR X (.builtin "repr") (rCall X.K repB) := by
  intro pins s σ H vs us Q I r h
  obtain ⟨Hf, ss, z, ex, oa, hf, q⟩ := h
  unfold repB at hf
  split at hf
  · obtain ⟨v, fp, rfl, o⟩ := all1 oa
    obtain ⟨d, e, hf⟩ := Option.bind_eq_some_iff.mp hf
    have hd := own_dp ex o e
    obtain ⟨u, rfl, ru⟩ := vals1 r
    split at hf
    · split at hf
      · rename_i hs
        cases hf
        simp only [Bool.and_eq_true, decide_eq_true_eq, Bool.not_eq_true'] at hs
        obtain ⟨p, xs, rfl, _⟩ := own_list ex o e
        exact repr_go hg hu I hd ru hs.1.1.1 hs.1.1.2 hs.1.2 hs.2 (q _ _ (.val (.str _)))
      · cases hf
    · split at hf
      · rename_i hs
        cases hf
        simp only [Bool.and_eq_true, decide_eq_true_eq, Bool.not_eq_true'] at hs
        cases hd with
        | tup a b => exact repr_go hg hu I (.tup a b) ru hs.1.1.1 hs.1.1.2 hs.1.2 hs.2 (q _ _ (.val (.str _)))
      · cases hf
    · cases hf
      cases hd
      cases ru
      exact PySem.P.repr_of_none ⟨.str _, H, I.tok _, ⟨_, rfl⟩, q _ _ (.val (.str _))⟩
    · cases hf
      cases hd
      cases ru
      exact PySem.P.repr_of_bool ⟨.str _, H, I.tok _, ⟨_, rfl⟩, q _ _ (.val (.str _))⟩
    · split at hf
      · rename_i hi
        cases hf
        cases hd
        obtain ⟨t, rfl⟩ := ru
        exact PySem.P.repr_of_int hi ⟨.str _, H, I.tok _, ⟨_, rfl⟩, q _ _ (.val (.str _))⟩
      · cases hf
    · split at hf
      · rename_i hz
        cases hf
        cases hd
        obtain ⟨t, rfl⟩ := ru
        exact PySem.P.repr_of_str ⟨.str _, H, I.tok _, ⟨_, rfl⟩, q _ _ (.val (.str _))⟩ (le_line (smS_le hz))
      · cases hf
    · cases hf
  · cases hf

/-! ### isinstance(x, a built-in type) -/
def tyN : Ty → String
  | .int => "int"
  | .bool => "bool"
  | .str => "str"
  | .tup => "tuple"
  | .lst => "list"
def kindN : PyData → String
  | .none => "NoneType"
  | .bool _ => "bool"
  | .int _ => "int"
  | .str _ => "str"
  | .list _ => "list"
  | .tuple _ => "tuple"
  | .dict _ => "dict"
theorem kit_all (t : Ty) (d : PyData) (h : ∀ kvs, d ≠ .dict kvs) : PySem.W.kitOne K (.type (kindN d)) (.type (tyN t)) = some (isiD t d) := by
  cases d with
  | dict kvs => exact absurd rfl (h kvs)
  | none =>
    cases t with
    | int => exact kit_ty (show kitB "NoneType" "int" = some false by decide +kernel)
    | bool => exact kit_ty (show kitB "NoneType" "bool" = some false by decide +kernel)
    | str => exact kit_ty (show kitB "NoneType" "str" = some false by decide +kernel)
    | tup => exact kit_ty (show kitB "NoneType" "tuple" = some false by decide +kernel)
    | lst => exact kit_ty (show kitB "NoneType" "list" = some false by decide +kernel)
  | bool _ =>
    cases t with
    | int => exact kit_ty (show kitB "bool" "int" = some true by decide +kernel)
    | bool => exact kit_ty (show kitB "bool" "bool" = some true by decide +kernel)
    | str => exact kit_ty (show kitB "bool" "str" = some false by decide +kernel)
    | tup => exact kit_ty (show kitB "bool" "tuple" = some false by decide +kernel)
    | lst => exact kit_ty (show kitB "bool" "list" = some false by decide +kernel)
  | int _ =>
    cases t with
    | int => exact kit_ty (show kitB "int" "int" = some true by decide +kernel)
    | bool => exact kit_ty (show kitB "int" "bool" = some false by decide +kernel)
    | str => exact kit_ty (show kitB "int" "str" = some false by decide +kernel)
    | tup => exact kit_ty (show kitB "int" "tuple" = some false by decide +kernel)
    | lst => exact kit_ty (show kitB "int" "list" = some false by decide +kernel)
  | str _ =>
    cases t with
    | int => exact kit_ty (show kitB "str" "int" = some false by decide +kernel)
    | bool => exact kit_ty (show kitB "str" "bool" = some false by decide +kernel)
    | str => exact kit_ty (show kitB "str" "str" = some true by decide +kernel)
    | tup => exact kit_ty (show kitB "str" "tuple" = some false by decide +kernel)
    | lst => exact kit_ty (show kitB "str" "list" = some false by decide +kernel)
  | list _ =>
    cases t with
    | int => exact kit_ty (show kitB "list" "int" = some false by decide +kernel)
    | bool => exact kit_ty (show kitB "list" "bool" = some false by decide +kernel)
    | str => exact kit_ty (show kitB "list" "str" = some false by decide +kernel)
    | tup => exact kit_ty (show kitB "list" "tuple" = some false by decide +kernel)
    | lst => exact kit_ty (show kitB "list" "list" = some true by decide +kernel)
  | tuple _ =>
    cases t with
    | int => exact kit_ty (show kitB "tuple" "int" = some false by decide +kernel)
    | bool => exact kit_ty (show kitB "tuple" "bool" = some false by decide +kernel)
    | str => exact kit_ty (show kitB "tuple" "str" = some false by decide +kernel)
    | tup => exact kit_ty (show kitB "tuple" "tuple" = some true by decide +kernel)
    | lst => exact kit_ty (show kitB "tuple" "list" = some false by decide +kernel)
theorem tyx_of {H : Hp} {v : V} {d : PyData} (h : Dq K H v d) : TyX K H v (.type (kindN d)) := by
  cases h with
  | non => exact .base .non
  | bl b => exact .base (.bl b)
  | int i => exact .base (.int i)
  | str z => exact .base (.str z)
  | lst a b =>
    rcases a with (a | ⟨o, a⟩) | ⟨o, its, n, hk, hc, _⟩
    · exact .base (.lst a)
    · exact .base (.frz a)
    · exact .kList hk hc
  | tup a b =>
    rcases a with (a | ⟨o, a⟩) | ⟨o, its, n, hk, hc, _⟩
    · exact .base (.tup a)
    · exact .fTuple a
    · exact .kTuple hk hc
theorem dq_nodict {H : Hp} {v : V} {d : PyData} (h : Dq K H v d) : ∀ kvs, d ≠ .dict kvs := by
  intro kvs e
  subst e
  cases h
/-- isinstance, the type at hand as a value -/
theorem cr_isi (t : Ty) : CallR X (.builtin "isinstance") (fun vs H Q => ∃ v, vs = [v, .ty (tyN t)] ∧ rCall X.K (isiB t) [v] H Q) := by
  intro pins s σ H vs us Q I r h
  obtain ⟨v, rfl, Hf, ss, z, ex, oa, hf, q⟩ := h
  unfold isiB at hf
  split at hf
  · obtain ⟨v', fp, ev, o⟩ := all1 oa
    cases ev
    obtain ⟨d, e, rfl⟩ := Option.map_eq_some_iff.mp hf
    have hd := own_dp ex o e
    exact call_isi pins s σ H _ us Q I r ⟨v, .ty (tyN t), _, _, _, rfl, .ty _, tyx_of hd, kit_all t d (dq_nodict hd), q _ _ (.val (.bl _))⟩
  · cases hf
end Cor
set_option Elab.async false
set_option linter.all false
set_option maxRecDepth 100000
set_option maxHeartbeats 4000000
/-! Core 4: what the evaluator says of an expression is what the expression does. -/
namespace Cor
open PySem PySem.Spec PyProof.Rows L2
open Evl (Ex ex_l ex_t)

/-! ### promises that know of no repr running -/
structure FnC (P : Program) (w : World) (K : PySem.W.Frag) (mg : Str → Option Value) (base : Heap) (CX : CXT) (k : Nat) (f : Addr) (fd : FuncData) (ps : List Str) (sp : Sp) : Prop where
  len : ∀ vs H Q E, sp vs H Q E → vs.length = ps.length
  run : ∀ (A : Around) (outer : List Env) (s : Shared) (H : Hp) (args : Args) (us : List Value) (vs : List V) (Q : VK) (E : XK), Room k A → A.guards = some [] → Env0 P w K mg base A outer s H →
    BindsTo s fd args (ps.zip us) → Vals vs us → sp vs H Q E → codeAny (model P w) A (.call (.ref f) args) (CR CX outer P w H s Q E) s
section
variable {P : Program} {w : World} {K : PySem.W.Frag} {mg : Str → Option Value} {base : Heap} {CX : CXT} {j k : Nat} {f : Addr} {fd : FuncData} {ps : List Str} {sp sp' : Sp}
theorem FnC.of (F : FnOk P w K mg base CX k f fd ps sp) : FnC P w K mg base CX k f fd ps sp := ⟨F.len, fun A outer s H args us vs Q E hr _ e b r h => F.run A outer s H args us vs Q E hr e b r h⟩
theorem FnC.mono (F : FnC P w K mg base CX j f fd ps sp) (h : j ≤ k) : FnC P w K mg base CX k f fd ps sp := ⟨F.len, fun A outer s H args us vs Q E hr => F.run A outer s H args us vs Q E (hr.mono h)⟩
theorem FnC.imp (F : FnC P w K mg base CX k f fd ps sp) (h : ∀ vs H Q E, sp' vs H Q E → sp vs H Q E) : FnC P w K mg base CX k f fd ps sp' :=
  ⟨fun vs H Q E q => F.len vs H Q E (h _ _ _ _ q), fun A outer s H args us vs Q E hr g he hb hv hs => F.run A outer s H args us vs Q E hr g he hb hv (h _ _ _ _ hs)⟩
end
section
variable {X : Cx} {CX : CXT} {k : Nat} {f : Addr} {fd : FuncData} {ps : List Str} {sp : Sp} {dvs : List V} {ds : List Value} {E : XK} {x : Str} {p pos : Pos} {e : Expr} {es : List Expr} {t : TA}
theorem run_fnC {pins : List (Addr × Obj)} {σ : L2.St} {H : Hp} {s : Shared} {Q : VK} {us : List Value} {vs : List V} (F : FnC X.prog X.w X.K X.mg X.base CX k f fd ps sp) (hr : Room k X.A) (hgd : X.A.guards = some []) (hb : Binds X.K fd ps ds) (hd : Vals dvs ds)
    (hx : Passes CX X E) (I : L2.Inv X pins σ H s) (r : Vals vs us) (h : sp (vs ++ dvs) H Q E) : wpAny (model X.prog X.w) X.A (call (.ref f) us) (EP X pins σ Q) X.xe s := by
  have r2 : Vals (vs ++ dvs) (us ++ ds) := r.append hd
  have hl : (us ++ ds).length = ps.length := by rw [← r2.length]; exact F.len _ _ _ _ h
  refine wpAny_call (codeAny_mono (F.run X.A X.stack s H ⟨us, []⟩ (us ++ ds) (vs ++ dvs) Q E hr hgd I.env0 (hb s us I.kIn hl) r2 h) fun rr s' hq => ?_)
  cases rr with
  | error er => exact hx pins σ H s er s' I hq
  | ok fl =>
    cases fl with
    | ret u => exact I.after hq
    | next => exact False.elim hq
    | brk => exact False.elim hq
    | cont => exact False.elim hq
/-- f called with these values does what sp says -/
def Runs (X : Cx) (f : Addr) (sp : Sp) : Prop := ∀ (pins : List (Addr × Obj)) (σ : L2.St) (H : Hp) (s : Shared) (us : List Value) (vs : List V) (Q : VK), L2.Inv X pins σ H s → Vals vs us → sp vs H Q E0 → wpAny (model X.prog X.w) X.A (call (.ref f) us) (EP X pins σ Q) X.xe s
theorem FnC.runs (F : FnC X.prog X.w X.K X.mg X.base CX0 k f fd ps sp) (hr : Room k X.A) (hgd : X.A.guards = some []) (hb : L2.Binds X.K fd ps []) : Runs X f sp := fun pins σ H s us vs Q I r h =>
  run_fnC (ds := []) (dvs := []) F hr hgd hb .nil pass0 I r (by rw [List.append_nil]; exact h)
theorem pe_callC (R : Runs X f sp) (hg : Gl X x) (hm : X.mg x = some (.ref f)) (hk : PySem.W.keepIn X.K (.ref f) = true)
    (ha : PA X (e :: es) t) (hdb : (x == ("__debug__" : Str)) = false) (he : starEach (e :: es) X.env = (false, eval e X.env) :: starEach es X.env) (hpl : (backTo pos (starEach es X.env)).any (·.1) = false) :
    PE X (.Call (.Name x p) (e :: es) [] pos) (tCall sp [] E0 t) := by
  refine ⟨fun pins s σ H Q I h => ?_⟩
  refine wpAny_Call_Name_kw (ld_glob I hg hm ?_ hdb)
  refine PySem.W.callWith_K (h₀ := X.base) I.ok.mod.kin hk (thn (ha.run pos pins s σ H _ I h) fun us s1 ⟨vs, H1, I1, r, q⟩ => ⟨I1.kIn, ?_⟩) he hpl
  have q' : sp (vs ++ []) H1 Q E0 := q
  rw [List.append_nil] at q'
  exact R pins σ H1 s1 us vs Q I1 r q'
theorem pe_callC0 (R : Runs X f sp) (hg : Gl X x) (hm : X.mg x = some (.ref f)) (hk : PySem.W.keepIn X.K (.ref f) = true)
    (hdb : (x == ("__debug__" : Str)) = false) : PE X (.Call (.Name x p) [] [] pos) (tCall sp [] E0 tNil) := by
  refine ⟨fun pins s σ H Q I h => ?_⟩
  refine wpAny_Call_Name_kw (ld_glob I hg hm ?_ hdb)
  have h' : sp ([] ++ []) H Q E0 := h
  exact PySem.W.callWith_K0 I.kIn hk (R pins σ H s [] [] Q I .nil h')
end

/-! ### the promises of the table's defs -/
/-- what is not owned and not frozen stands -/
def Fo (Hf H Hf' H' : Hp) (fp fp' : List Addr) : Prop := Ex Hf Hf' ∧ (∀ a o, H a = some o → Hf a = none → a ∉ fp → H' a = some o ∧ Hf' a = none ∧ a ∉ fp') ∧ ∀ a o, H a = some o → ∃ o', H' a = some o'
def spP (K : PySem.W.Frag) (f : List PyData → Option PyData) : Sp := fun vs H Q _ => ∃ Hf ds d, Ex Hf H ∧ DqAll K Hf vs ds ∧ f ds = some d ∧
  ∀ v Hf' H', Ex Hf' H' → Fo Hf H Hf' H' [] [] → Dq K Hf' v d → Q v H'
def spK (K : PySem.W.Frag) (f : List PyData → Option Sl) : Sp := fun vs H Q _ => ∃ Hf ds sl, Ex Hf H ∧ DqAll K Hf vs ds ∧ f ds = some sl ∧ sl ≠ .emp ∧
  ∀ v Hf' H' fp, Ex Hf' H' → Fo Hf H Hf' H' [] fp → OwnAt K Hf' H' sl v fp → (∀ a ∈ fp, H a = none ∧ Hf' a = none) → Q v H'
def spM (K : PySem.W.Frag) (f : Sl → List PyData → Option (PyData × Sl)) : Sp := fun vs H Q _ => ∃ Hf fp v0 vr sl ds d sl', Ex Hf H ∧ vs = v0 :: vr ∧ OwnAt K Hf H sl v0 fp ∧ (∀ a ∈ fp, Hf a = none) ∧ sl ≠ .emp ∧ sl' ≠ .emp ∧ DqAll K Hf vr ds ∧ f sl ds = some (d, sl') ∧
  ∀ v Hf' H' fp', Ex Hf' H' → Fo Hf H Hf' H' fp fp' → OwnAt K Hf' H' sl' v0 fp' → (∀ a ∈ fp', Hf' a = none ∧ (a ∈ fp ∨ H a = none)) → Dq K Hf' v d → Q v H'
/-- the error that is in the air -/
def ExAt (K : PySem.W.Frag) (Hf H : Hp) (c : Exn) (cls : Value) (d : Option Addr) : Prop := ∃ C, cls = .ref C ∧ PySem.W.nsIn K mainGlobals c.cls = some (some (.ref C)) ∧ ((c.fld = "" ∧ d = none) ∨ (¬ c.fld = "" ∧ ∃ dd v, d = some dd ∧ H dd = some (.xd [(c.fld, v)]) ∧ Dq K Hf v c.val))
theorem ex_fld {A B : Prop} {f : Str} (h : (f = "" ∧ A) ∨ (¬ f = "" ∧ B)) (hn : ¬ f = "") : B := by
  rcases h with ⟨h, _⟩ | ⟨_, h⟩
  · exact absurd h hn
  · exact h
/-- a function of two, each its own object (the second perhaps a value) -/
def fps2 (fp fq : List Addr) : Fps := fun i => if i = 0 then fp else if i = 1 then fq else []
def spT2 (K : PySem.W.Frag) (f : Sl → Sl → Option (PyData × Sl × Sl)) : Sp := fun vs H Q _ => ∃ Hf fp fq v0 v1 sl0 sl1 d sl0' sl1', Ex Hf H ∧ vs = [v0, v1] ∧ OwnAt K Hf H sl0 v0 fp ∧ OwnAt K Hf H sl1 v1 fq ∧ (∀ a ∈ fp, Hf a = none) ∧ (∀ a ∈ fq, Hf a = none) ∧ (∀ a ∈ fp, a ∉ fq) ∧
  sl0 ≠ .emp ∧ sl1 ≠ .emp ∧ sl0' ≠ .emp ∧ sl1' ≠ .emp ∧ f sl0 sl1 = some (d, sl0', sl1') ∧
  ∀ v Hf' H' fps', Go Hf (fps2 fp fq) H Hf' fps' H' → Ex Hf' H' → OwnAt K Hf' H' sl0' v0 (fps' 0) → OwnAt K Hf' H' sl1' v1 (fps' 1) → (∀ i a, a ∈ fps' i → Hf' a = none) → (∀ i j a, a ∈ fps' i → a ∈ fps' j → i = j) → Dq K Hf' v d → Q v H'
def spX (K : PySem.W.Frag) (f : List PyData → Option (Except Exn PyData)) : Sp := fun vs H Q E => ∃ Hf ds r, Ex Hf H ∧ DqAll K Hf vs ds ∧ f ds = some r ∧
  (∀ d v Hf' H', r = .ok d → Ex Hf' H' → Fo Hf H Hf' H' [] [] → Dq K Hf' v d → Q v H') ∧ ∀ c cls d Hf' H', r = .error c → Ex Hf' H' → Fo Hf H Hf' H' [] [] → ExAt K Hf' H' c cls d → E cls d H'
def spR (K : PySem.W.Frag) (f : Sl → List PyData → Option (Except Exn PyData × Sl)) : Sp := fun vs H Q E => ∃ Hf fp v0 vr sl ds r sl', Ex Hf H ∧ vs = v0 :: vr ∧ OwnAt K Hf H sl v0 fp ∧ (∀ a ∈ fp, Hf a = none) ∧ sl ≠ .emp ∧ sl' ≠ .emp ∧ DqAll K Hf vr ds ∧ f sl ds = some (r, sl') ∧
  (∀ d v Hf' H' fp', r = .ok d → Ex Hf' H' → Fo Hf H Hf' H' fp fp' → OwnAt K Hf' H' sl' v0 fp' → (∀ a ∈ fp', Hf' a = none ∧ (a ∈ fp ∨ H a = none)) → Dq K Hf' v d → Q v H') ∧
  ∀ c cls d Hf' H' fp', r = .error c → Ex Hf' H' → Fo Hf H Hf' H' fp fp' → OwnAt K Hf' H' sl' v0 fp' → (∀ a ∈ fp', Hf' a = none ∧ (a ∈ fp ∨ H a = none)) → ExAt K Hf' H' c cls d → E cls d H'
def spF (K : PySem.W.Frag) : Fn → Sp
  | .pur f => spP K f
  | .mak f => spK K f
  | .mut f => spM K f
  | .rai f => spX K f
  | .rmu f => spR K f
  | .two f => spT2 K f

/-! ### readings -/
def tR (K : PySem.W.Frag) (G : List Fn) (c : CE) : TE := fun σ H Q => ∃ Hf fps ρ a ρ', SR K Hf fps σ H ρ ∧ ev G c ρ = some (a, ρ') ∧
  ∀ Hf' fps' H' v, Go Hf fps H Hf' fps' H' → SR K Hf' fps' σ H' ρ' → AR K H Hf' fps' H' σ a v → Q v H'
def tT (K : PySem.W.Frag) (G : List Fn) (c : CT) : TT := fun σ H Q => ∃ Hf fps ρ b ρ', SR K Hf fps σ H ρ ∧ evT G c ρ = some (b, ρ') ∧
  ∀ Hf' fps' H', Go Hf fps H Hf' fps' H' → SR K Hf' fps' σ H' ρ' → Q b H'
def tF (K : PySem.W.Frag) (G : List Fn) (c : CA) : TA := fun σ H Q => ∃ Hf fps ρ ds ρ', SR K Hf fps σ H ρ ∧ evF G c ρ = some (ds, ρ') ∧
  ∀ Hf' fps' H' vs, Go Hf fps H Hf' fps' H' → SR K Hf' fps' σ H' ρ' → DqAll K Hf' vs ds → Q vs H'
abbrev ARs (K : PySem.W.Frag) (H0 Hf : Hp) (fps : Fps) (H : Hp) (σ : L2.St) : List V → List Arg → Prop := Paired fun v a => AR K H0 Hf fps H σ a v
def tQ (K : PySem.W.Frag) (G : List Fn) (c : CA) : TA := fun σ H Q => ∃ Hf fps ρ as ρ', SR K Hf fps σ H ρ ∧ evR G c ρ = some (as, ρ') ∧
  ∀ Hf' fps' H' vs, Go Hf fps H Hf' fps' H' → SR K Hf' fps' σ H' ρ' → ARs K H Hf' fps' H' σ vs as → Q vs H'
def tO (K : PySem.W.Frag) (G : List Fn) (c : CO) : TO := fun σ H Q => ∃ Hf fps ρ o ρ', SR K Hf fps σ H ρ ∧ evO G c ρ = some (o, ρ') ∧
  ∀ Hf' fps' H', Go Hf fps H Hf' fps' H' → SR K Hf' fps' σ H' ρ' → Q o H'
section
variable {X : Cx} {e : Expr} {es : List Expr}
theorem PE.weak {t t' : TE} (h : PE X e t) (i : ∀ σ H Q, t' σ H Q → t σ H Q) : PE X e t' := ⟨fun pins s σ H Q I q => h.run pins s σ H Q I (i _ _ _ q)⟩
theorem PT.weak {t t' : TT} (h : PT X e t) (i : ∀ σ H Q, t' σ H Q → t σ H Q) : PT X e t' := ⟨fun pins s σ H Q I q => h.run pins s σ H Q I (i _ _ _ q)⟩
theorem PW.weak {t t' : TT} (h : PW X e t) (i : ∀ σ H Q, t' σ H Q → t σ H Q) : PW X e t' := ⟨fun wh pins s σ H Q I q => h.run wh pins s σ H Q I (i _ _ _ q)⟩
theorem PA.weak {t t' : TA} (h : PA X es t) (i : ∀ σ H Q, t' σ H Q → t σ H Q) : PA X es t' := ⟨fun pos pins s σ H Q I q => h.run pos pins s σ H Q I (i _ _ _ q)⟩
theorem PO.weak {o : Option Expr} {t t' : TO} (h : PO X o t) (i : ∀ σ H Q, t' σ H Q → t σ H Q) : PO X o t' := by
  obtain ⟨r⟩ := h
  exact ⟨fun pins s σ H Q I q => r pins s σ H Q I (i _ _ _ q)⟩
end

section
variable {X : Cx} {G : List Fn}
theorem g_var {i : Nat} {x : Str} {pos : Pos} (hN : X.N[i]? = some x) (hv : Vis X.env.scope x) (hd : (x == ("__debug__" : Str)) = false) (hcd : (x == ("__classdict__" : Str)) = false) : PE X (.Name x pos) (tR X.K G (.var i)) := by
  refine PE.weak (pe_var hN hv hd hcd) fun σ H Q ⟨Hf, fps, ρ, a, ρ', S, e, q⟩ => ?_
  obtain ⟨a', e1, e2⟩ := Option.map_eq_some_iff.mp (show (look ρ i).map (fun a => (a, ρ)) = some (a, ρ') from e)
  cases e2
  unfold look at e1
  split at e1
  · rename_i d hr
    cases e1
    obtain ⟨v, h1, _, h2⟩ := S.here i _ hr (fun z => nomatch z)
    exact ⟨v, h1, q Hf fps H v .refl S h2⟩
  · rename_i d hr
    cases e1
    obtain ⟨v, h1, _⟩ := S.here i _ hr (fun z => nomatch z)
    exact ⟨v, h1, q Hf fps H v .refl S h1⟩
  · rename_i d hr
    cases e1
    obtain ⟨v, h1, _⟩ := S.here i _ hr (fun z => nomatch z)
    exact ⟨v, h1, q Hf fps H v .refl S h1⟩
  · rename_i d hr
    cases e1
    obtain ⟨v, h1, _⟩ := S.here i _ hr (fun z => nomatch z)
    exact ⟨v, h1, q Hf fps H v .refl S h1⟩
  · cases e1
theorem g_con {e : Expr} {v : V} {d : PyData} (h : PE X e (tC v)) (hd : Dq X.K (fun _ => none) v d) : PE X e (tR X.K G (.cst d)) :=
  PE.weak h fun σ H Q ⟨Hf, fps, ρ, a, ρ', S, e, q⟩ => by
    cases (show some (Arg.val d, ρ) = some (a, ρ') from e)
    exact q Hf fps H v .refl S (Dq.mono (fun a o z => by cases z) _ _ hd)
theorem star_no {e : Expr} {es : List Expr} {env : Env} (h : ∀ x p, e ≠ .Starred x p) : starEach (e :: es) env = (false, eval e env) :: starEach es env := by
  cases e <;> first | rfl | exact absurd rfl (h _ _)
theorem ga_nil : PA X [] (tF X.K G .nil) := PA.weak pa_nil fun σ H Q ⟨Hf, fps, ρ, ds, ρ', S, e, q⟩ => by
  cases (show some (([] : List PyData), ρ) = some (ds, ρ') from e)
  exact q Hf fps H [] .refl S .nil
theorem ga_cons {e : Expr} {es : List Expr} {c : CE} {r : CA} (h : PE X e (tR X.K G c)) (hr : PA X es (tF X.K G r)) (hs : ∀ x p, e ≠ .Starred x p) : PA X (e :: es) (tF X.K G (.cons false c r)) :=
  PA.weak (pa_cons h hr (star_no hs)) fun σ H Q ⟨Hf, fps, ρ, ds, ρ', S, ee, q⟩ => by
    obtain ⟨⟨x, ρ1⟩, e1, ee⟩ := Option.bind_eq_some_iff.mp (show ((ev G c ρ).bind fun p => (frz p.2 p.1).bind fun p2 => (evF G r p2.2).bind fun p3 => some (p2.1 :: p3.1, p3.2)) = some (ds, ρ') from ee)
    obtain ⟨⟨d, ρ2⟩, e2, ee⟩ := Option.bind_eq_some_iff.mp ee
    obtain ⟨⟨ds', ρ3⟩, e3, ee⟩ := Option.bind_eq_some_iff.mp ee
    cases ee
    refine ⟨Hf, fps, ρ, x, ρ1, S, e1, fun Hf1 fps1 H1 v g1 S1 a1 => ?_⟩
    obtain ⟨Hf2, fps2, g2, S2, d2⟩ := S1.frz g1 a1 e2
    refine ⟨Hf2, fps2, ρ2, ds', ρ3, S2, e3, fun Hf3 fps3 H3 vs g3 S3 d3 => ?_⟩
    exact q Hf3 fps3 H3 (v :: vs) (g2.trans g3) S3 (.cons (Dq.mono g3.fz _ _ d2) d3)
theorem ga_star {e : Expr} {p : Pos} {es : List Expr} {c : CE} {r : CA} (h : PE X e (tR X.K G c)) (hr : PA X es (tF X.K G r)) : PA X (.Starred e p :: es) (tF X.K G (.cons true c r)) :=
  PA.weak (StX.pa_star h hr rfl) fun σ H Q ⟨Hf, fps, ρ, ds, ρ', S, ee, q⟩ => by
    obtain ⟨⟨x, ρ1⟩, e1, ee⟩ := Option.bind_eq_some_iff.mp (show ((ev G c ρ).bind fun p => (cont p.2 p.1).bind fun s => (seqS s).bind fun xs => (evF G r p.2).bind fun p3 => some (xs ++ p3.1, p3.2)) = some (ds, ρ') from ee)
    obtain ⟨sl, e2, ee⟩ := Option.bind_eq_some_iff.mp ee
    obtain ⟨xs, e3, ee⟩ := Option.bind_eq_some_iff.mp ee
    obtain ⟨⟨ds', ρ3⟩, e4, ee⟩ := Option.bind_eq_some_iff.mp ee
    cases ee
    refine ⟨Hf, fps, ρ, x, ρ1, S, e1, fun Hf1 fps1 H1 v g1 S1 a1 => ?_⟩
    obtain ⟨fp, ow⟩ := S1.cont a1 e2 (by intro z; subst z; cases e3)
    obtain ⟨p, ys, rfl, hx, dx⟩ := own_seq S1.ex ow e3
    refine ⟨p, ys, rfl, ?_, Hf1, fps1, ρ1, ds', ρ3, S1, e4, fun Hf3 fps3 H3 vs g3 S3 d3 => ?_⟩
    · rcases hx with ⟨hx, _⟩ | ⟨hx, _⟩
      · exact .inr hx
      · exact .inl hx
    · exact q Hf3 fps3 H3 (ys ++ vs) (g1.trans g3) S3 ((DqAll.mono g3.fz _ _ dx).append d3)
/-- operands -/
theorem gq_nil : PA X [] (tQ X.K G .nil) := PA.weak pa_nil fun σ H Q ⟨Hf, fps, ρ, ds, ρ', S, e, q⟩ => by
  cases (show some (([] : List Arg), ρ) = some (ds, ρ') from e)
  exact q Hf fps H [] .refl S .nil
theorem ARs.go {K : PySem.W.Frag} {H0 H1 Hf Hf' H H' : Hp} {fps fps' : Fps} {σ : L2.St} {as : List Arg} {vs : List V} (t : ∀ a o, H0 a = some o → ∃ o', H1 a = some o') (g : Go Hf fps H Hf' fps' H') (h : ARs K H1 Hf fps H σ vs as) : ARs K H0 Hf' fps' H' σ vs as :=
  Paired.mapP h fun _ _ q => (q.elder t).go g
theorem gq_cons {e : Expr} {es : List Expr} {c : CE} {r : CA} (h : PE X e (tR X.K G c)) (hr : PA X es (tQ X.K G r)) (hs : ∀ x p, e ≠ .Starred x p) : PA X (e :: es) (tQ X.K G (.cons false c r)) :=
  PA.weak (pa_cons h hr (star_no hs)) fun σ H Q ⟨Hf, fps, ρ, ds, ρ', S, ee, q⟩ => by
    obtain ⟨⟨x, ρ1⟩, e1, ee⟩ := Option.bind_eq_some_iff.mp (show ((ev G c ρ).bind fun p => (evR G r p.2).bind fun p3 => some (p.1 :: p3.1, p3.2)) = some (ds, ρ') from ee)
    obtain ⟨⟨xs, ρ3⟩, e3, ee⟩ := Option.bind_eq_some_iff.mp ee
    cases ee
    refine ⟨Hf, fps, ρ, x, ρ1, S, e1, fun Hf1 fps1 H1 v g1 S1 a1 => ?_⟩
    refine ⟨Hf1, fps1, ρ1, xs, ρ3, S1, e3, fun Hf3 fps3 H3 vs g3 S3 d3 => ?_⟩
    exact q Hf3 fps3 H3 (v :: vs) (g1.trans g3) S3 (.cons (a1.go g3) (ARs.go g1.th .refl d3))
theorem ARs.cont {K : PySem.W.Frag} {Hf H H0 : Hp} {fps : Fps} {σ : L2.St} {ρ : Rho} (S : SR K Hf fps σ H ρ) : ∀ {as : List Arg} {vs : List V} {ss : List Sl}, ARs K H0 Hf fps H σ vs as → as.mapM (cont ρ) = some ss → (∀ s ∈ ss, s ≠ .emp) → OwnAll K Hf H vs ss
  | [], _, ss, h, e, _ => by
    cases h
    cases (show some [] = some ss from by simpa using e)
    exact .nil
  | a :: as, _, ss, h, e, ne => by
    cases h with
    | cons h1 h2 =>
      rw [List.mapM_cons] at e
      obtain ⟨s, e1, e⟩ := Option.bind_eq_some_iff.mp e
      obtain ⟨ss', e2, e⟩ := Option.bind_eq_some_iff.mp e
      cases e
      exact .cons (S.cont h1 e1 (ne s (by simp))) (ARs.cont S h2 e2 fun t ht => ne t (by simp [ht]))

/-! ### displays -/
theorem g_tup {es : List Expr} {k : Nat} {pos : Pos} {c : CA} (h : PA X es (tF X.K G c)) : PE X (.Tuple es k pos) (tR X.K G (.tup c)) :=
  PE.weak (pe_tup h) fun σ H Q ⟨Hf, fps, ρ, a, ρ', S, ee, q⟩ => by
    obtain ⟨⟨ds, ρ1⟩, e1, ee⟩ := Option.bind_eq_some_iff.mp (show ((evF G c ρ).bind fun p => if sm p.1 then some (Arg.val (.tuple p.1), p.2) else none) = some (a, ρ') from ee)
    dsimp only at ee
    split at ee
    · rename_i hs
      cases ee
      refine ⟨Hf, fps, ρ, ds, ρ', S, e1, fun Hf1 fps1 H1 vs g1 S1 d1 => ⟨by rw [d1.length]; exact le_line (sm_le hs), fun p hp => ?_⟩⟩
      obtain ⟨Hf2, g2, S2, a2⟩ := Raw.fin S1 g1 (.tup hp d1)
      exact q Hf2 fps1 _ _ g2 S2 a2
    · cases ee
theorem g_lst {es : List Expr} {pos : Pos} {c : CA} (h : PA X es (tF X.K G c)) : PE X (.List es pos) (tR X.K G (.lst c)) :=
  PE.weak (pe_lst h) fun σ H Q ⟨Hf, fps, ρ, a, ρ', S, ee, q⟩ => by
    obtain ⟨⟨ds, ρ1⟩, e1, ee⟩ := Option.bind_eq_some_iff.mp (show ((evF G c ρ).bind fun p => if sm p.1 then some (Arg.fr (.lst p.1), p.2) else none) = some (a, ρ') from ee)
    dsimp only at ee
    split at ee
    · rename_i hs
      cases ee
      refine ⟨Hf, fps, ρ, ds, ρ', S, e1, fun Hf1 fps1 H1 vs g1 S1 d1 => ⟨by rw [d1.length]; exact le_line (sm_le hs), fun p hp => ?_⟩⟩
      obtain ⟨Hf2, g2, S2, a2⟩ := Raw.fin S1 g1 (.lst hp d1)
      exact q Hf2 fps1 _ _ g2 S2 a2
    · cases ee

/-! ### operators -/
theorem bin_ne {op : Operator} {x y : Sl} {z : Arg} (e : binS op x y = some z) : x ≠ .emp ∧ y ≠ .emp := by
  constructor
  · intro h; subst h; cases op <;> first | cases e | (unfold binS at e; split at e <;> simp_all [datS])
  · intro h; subst h; cases op <;> first | cases e | (unfold binS at e; split at e <;> simp_all [datS])
theorem tOp_of {f : Sl → Sl → Option Arg} {ca cb : CE} {σ : L2.St} {H : Hp} {Q : VK} {Hf : Hp} {fps : Fps} {ρ : Rho} {a : Arg} {ρ' : Rho} (S : SR X.K Hf fps σ H ρ) (ne : ∀ x y z, f x y = some z → x ≠ .emp ∧ y ≠ .emp)
    (ee : ((ev G ca ρ).bind fun p => (ev G cb p.2).bind fun p2 => (cont p2.2 p.1).bind fun sx => (cont p2.2 p2.1).bind fun sy => (f sx sy).bind fun z => some (z, p2.2)) = some (a, ρ'))
    (q : ∀ Hf' fps' H' v, Go Hf fps H Hf' fps' H' → SR X.K Hf' fps' σ H' ρ' → AR X.K H Hf' fps' H' σ a v → Q v H') : tOp (rOp2 X.K f) (tR X.K G ca) (tR X.K G cb) σ H Q := by
  obtain ⟨⟨x, ρ1⟩, e1, ee⟩ := Option.bind_eq_some_iff.mp ee
  obtain ⟨⟨y, ρ2⟩, e2, ee⟩ := Option.bind_eq_some_iff.mp ee
  obtain ⟨sx, e3, ee⟩ := Option.bind_eq_some_iff.mp ee
  obtain ⟨sy, e4, ee⟩ := Option.bind_eq_some_iff.mp ee
  obtain ⟨z, e5, ee⟩ := Option.bind_eq_some_iff.mp ee
  cases ee
  obtain ⟨n1, n2⟩ := ne _ _ _ e5
  refine ⟨Hf, fps, ρ, x, ρ1, S, e1, fun Hf1 fps1 H1 vx g1 S1 a1 => ⟨Hf1, fps1, ρ1, y, ρ2, S1, e2, fun Hf2 fps2 H2 vy g2 S2 a2 => ?_⟩⟩
  obtain ⟨fx, ox⟩ := S2.cont (a1.go g2) e3 n1
  obtain ⟨fy, oy⟩ := S2.cont a2 e4 n2
  refine ⟨Hf2, sx, sy, fx, fy, _, S2.ex, ox, oy, e5, fun v H' r => ?_⟩
  obtain ⟨Hf3, g3, S3, a3⟩ := Raw.fin S2 (g1.trans g2) r
  exact q Hf3 fps2 H' v g3 S3 a3
theorem g_bin {op : Operator} {ea eb : Expr} {ca cb : CE} {pos : Pos} (ha : PE X ea (tR X.K G ca)) (hb : PE X eb (tR X.K G cb)) : PE X (.BinOp ea op eb pos) (tR X.K G (.bin op ca cb)) :=
  PE.weak (pe_op (op_bin op) ha hb) fun σ H Q ⟨Hf, fps, ρ, a, ρ', S, ee, q⟩ => tOp_of S (fun _ _ _ h => bin_ne h) ee q
end
end Cor
set_option Elab.async false
set_option linter.all false
set_option maxRecDepth 100000
set_option maxHeartbeats 4000000
/-! Core 4b: more expressions; tests. -/
namespace Cor
open PySem PySem.Spec PyProof.Rows L2
open Evl (Ex ex_l ex_t)
variable {X : Cx} {G : List Fn} {ea eb ec : Expr} {ca cb cc : CE} {pos : Pos}

theorem tru_of {K : PySem.W.Frag} {Hf H : Hp} {sl : Sl} {v : V} {fp : List Addr} {b : Bool} (ex : Ex Hf H) (o : OwnAt K Hf H sl v fp) (e : truS sl = some b) : TruV K v H b := by
  cases sl with
  | emp => cases e
  | lst ds =>
    cases e
    obtain ⟨p, xs, rfl, _, hp, hd⟩ := o
    refine .inl ⟨xs, SqL.of hp, ?_⟩
    have := hd.length
    cases ds <;> cases xs <;> simp_all
  | dct kvs =>
    cases e
    obtain ⟨p, ys, rfl, _, hp, hd⟩ := o
    refine .inr (.inr ⟨ys, hp, ?_⟩)
    have := kvd_len hd
    cases kvs <;> cases ys <;> simp_all
  | val d =>
    cases d with
    | none => cases e; cases o.2; rfl
    | bool c => cases e; cases o.2; rfl
    | int i => cases e; cases o.2; rfl
    | str z =>
      cases o.2
      have e' : (if smS z then some (z.length != 0) else none) = some b := e
      split at e'
      · rename_i hz
        cases e'
        refine ⟨le_line (smS_le hz), ?_⟩
        cases hn : z.length with
        | zero => rfl
        | succ n => simp; omega
      · cases e'
    | list ds =>
      cases e
      cases o.2 with
      | lst hr hd =>
        rename_i a xs
        refine .inl ⟨xs, ex_l ex hr, ?_⟩
        have := hd.length
        show (!ds.isEmpty) = _
        cases ds <;> cases xs <;> simp_all
    | tuple ds =>
      cases e
      cases o.2 with
      | tup hr hd =>
        rename_i a xs
        refine .inr (.inl ⟨xs, ex_t ex hr, ?_⟩)
        have := hd.length
        show (!ds.isEmpty) = _
        cases ds <;> cases xs <;> simp_all
    | dict _ => cases e
  | bk _ _ => cases e
theorem tru_ne {sl : Sl} {b : Bool} (e : truS sl = some b) : sl ≠ .emp := by intro h; subst h; cases e

theorem g_neg (ha : PE X ea (tR X.K G ca)) : PE X (.UnaryOp .USub ea pos) (tR X.K G (.neg ca)) :=
  PE.weak (pe_un un_negS ha) fun σ H Q ⟨Hf, fps, ρ, a, ρ', S, ee, q⟩ => by
    obtain ⟨⟨x, ρ1⟩, e1, ee⟩ := Option.bind_eq_some_iff.mp (show ((ev G ca ρ).bind fun p => (cont p.2 p.1).bind fun sx => (negS sx).bind fun z => some (z, p.2)) = some (a, ρ') from ee)
    obtain ⟨sx, e3, ee⟩ := Option.bind_eq_some_iff.mp ee
    obtain ⟨z, e5, ee⟩ := Option.bind_eq_some_iff.mp ee
    cases ee
    refine ⟨Hf, fps, ρ, x, ρ1, S, e1, fun Hf1 fps1 H1 vx g1 S1 a1 => ?_⟩
    obtain ⟨fx, ox⟩ := S1.cont a1 e3 (by intro h; subst h; cases e5)
    refine ⟨Hf1, sx, fx, _, S1.ex, ox, e5, fun v H' r => ?_⟩
    obtain ⟨Hf3, g3, S3, a3⟩ := Raw.fin S1 g1 r
    exact q Hf3 fps1 H' v g3 S3 a3

/-! ### comparisons -/
theorem cmpA_ne {op : CmpOp} {x y : Sl} {z : Arg} (e : cmpA op x y = some z) : x ≠ .emp ∧ y ≠ .emp := by
  obtain ⟨b, e, _⟩ := Option.map_eq_some_iff.mp e
  have eq : ∀ b, eqS x y = some b → x ≠ .emp ∧ y ≠ .emp := fun b e => by
    constructor
    · intro h; subst h; cases e
    · intro h; subst h; unfold eqS at e; split at e <;> simp_all [datS]
  have ine : ∀ b, inS x y = some b → x ≠ .emp ∧ y ≠ .emp := fun b e => by
    constructor
    · intro h; subst h; unfold inS at e; split at e <;> simp_all [datS]
    · intro h; subst h; unfold inS at e; split at e <;> simp_all [datS]
  have ise : ∀ b, isS x y = some b → x ≠ .emp ∧ y ≠ .emp := fun b e => by
    constructor
    · intro h; subst h; cases e
    · intro h; subst h; unfold isS at e; split at e <;> simp_all
  cases op with
  | Eq => exact eq b e
  | NotEq => obtain ⟨c, e, _⟩ := Option.map_eq_some_iff.mp (show (eqS x y).map (!·) = some b from e); exact eq c e
  | In => exact ine b e
  | NotIn => obtain ⟨c, e, _⟩ := Option.map_eq_some_iff.mp (show (inS x y).map (!·) = some b from e); exact ine c e
  | Is => exact ise b e
  | IsNot => obtain ⟨c, e, _⟩ := Option.map_eq_some_iff.mp (show (isS x y).map (!·) = some b from e); exact ise c e
  | Lt =>
    have e : ltS x y = some b := e
    constructor
    · intro h; subst h; cases e
    · intro h; subst h; unfold ltS at e; split at e <;> simp_all
  | LtE =>
    have e : leS x y = some b := e
    constructor
    · intro h; subst h; cases e
    · intro h; subst h; unfold leS at e; split at e <;> simp_all
  | Gt =>
    have e : gtS x y = some b := e
    constructor
    · intro h; subst h; cases e
    · intro h; subst h; unfold gtS at e; split at e <;> simp_all
  | GtE =>
    have e : geS x y = some b := e
    constructor
    · intro h; subst h; cases e
    · intro h; subst h; unfold geS at e; split at e <;> simp_all
theorem no_marks {e : Expr} {op : CmpOp} (h : ∀ es k p, e ≠ .Set es k p) : behindInMarks op e = false := by
  cases e <;> first | rfl | exact absurd rfl (h _ _ _)
theorem cmp_shape {op : CmpOp} {ρ : Rho} {r : Option (Arg × Rho)} (ee : ((ev G ca ρ).bind fun p => (ev G cb p.2).bind fun p2 => (cont p2.2 p.1).bind fun sx => (cont p2.2 p2.1).bind fun sy => (cmpS op sx sy).bind fun z => some (Arg.val (.bool z), p2.2)) = r) :
    ((ev G ca ρ).bind fun p => (ev G cb p.2).bind fun p2 => (cont p2.2 p.1).bind fun sx => (cont p2.2 p2.1).bind fun sy => (cmpA op sx sy).bind fun z => some (z, p2.2)) = r := by
  rw [← ee]
  congr 1; funext p; congr 1; funext p2; congr 1; funext sx; congr 1; funext sy
  unfold cmpA
  cases cmpS op sx sy <;> rfl
theorem g_cmp (hu : X.A.units + 100 < cLine) {op : CmpOp} (ha : PE X ea (tR X.K G ca)) (hb : PE X eb (tR X.K G cb)) (h : ∀ es k p, eb ≠ .Set es k p) : PE X (.Compare ea [op] [eb] pos) (tR X.K G (.cmp op ca cb)) :=
  PE.weak (pe_cmpR (op_cmpS hu op) ha hb (no_marks h)) fun σ H Q ⟨Hf, fps, ρ, a, ρ', S, ee, q⟩ => tOp_of S (fun _ _ _ h => cmpA_ne h) (cmp_shape ee) q
theorem cmp_bool {op : CmpOp} {ρ : Rho} {a : Arg} {ρ' : Rho} (ee : ev G (.cmp op ca cb) ρ = some (a, ρ')) : ∃ z, a = .val (.bool z) := by
  obtain ⟨p, e1, ee⟩ := Option.bind_eq_some_iff.mp (show ((ev G ca ρ).bind fun p => (ev G cb p.2).bind fun p2 => (cont p2.2 p.1).bind fun sx => (cont p2.2 p2.1).bind fun sy => (cmpS op sx sy).bind fun z => some (Arg.val (.bool z), p2.2)) = some (a, ρ') from ee)
  obtain ⟨p2, e2, ee⟩ := Option.bind_eq_some_iff.mp ee
  obtain ⟨sx, e3, ee⟩ := Option.bind_eq_some_iff.mp ee
  obtain ⟨sy, e4, ee⟩ := Option.bind_eq_some_iff.mp ee
  obtain ⟨z, e5, ee⟩ := Option.bind_eq_some_iff.mp ee
  cases ee
  exact ⟨z, rfl⟩
/-- a test whose value is a bool at hand -/
theorem test_of {te : TE} {c : CE} {σ : L2.St} {H : Hp} {Q : Bool → Hp → Prop} (w : ∀ σ H Q, tR X.K G c σ H Q → te σ H Q) (bo : ∀ ρ a ρ', ev G c ρ = some (a, ρ') → ∃ z, a = .val (.bool z)) (h : tT X.K G (.tval c) σ H Q) : tTest te σ H Q := by
  obtain ⟨Hf, fps, ρ, b, ρ', S, ee, q⟩ := h
  obtain ⟨⟨x, ρ1⟩, e1, ee⟩ := Option.bind_eq_some_iff.mp (show ((ev G c ρ).bind fun p => (cont p.2 p.1).bind fun s => (truS s).bind fun t => some (t, p.2)) = some (b, ρ') from ee)
  obtain ⟨s, e2, ee⟩ := Option.bind_eq_some_iff.mp ee
  obtain ⟨t, e3, ee⟩ := Option.bind_eq_some_iff.mp ee
  cases ee
  obtain ⟨z, rfl⟩ := bo ρ x _ e1
  cases e2
  cases e3
  refine w σ H _ ⟨Hf, fps, ρ, _, _, S, e1, fun Hf1 fps1 H1 v g1 S1 a1 => ?_⟩
  have a1' : Dq X.K Hf1 v (.bool z) := a1
  cases a1'
  exact ⟨z, rfl, q Hf1 fps1 H1 g1 S1⟩
theorem gt_cmp (hu : X.A.units + 100 < cLine) {op : CmpOp} (ha : PE X ea (tR X.K G ca)) (hb : PE X eb (tR X.K G cb)) (h : ∀ es k p, eb ≠ .Set es k p) : PT X (.Compare ea [op] [eb] pos) (tT X.K G (.tval (.cmp op ca cb))) :=
  PT.weak (pt_cmpR (op_cmpS hu op) ha hb (no_marks h)) fun σ H Q q => test_of (fun σ H Q ⟨Hf, fps, ρ, a, ρ', S, ee, q⟩ => tOp_of S (fun _ _ _ h => cmpA_ne h) (cmp_shape ee) q) (fun ρ a ρ' e => cmp_bool e) q

/-! ### chains -/
theorem tChain_of {o1 o2 : CmpOp} {σ : L2.St} {H : Hp} {Q : VK} (h : tR X.K G (.chn o1 o2 ca cb cc) σ H Q) : tChain (rOp2 X.K (cmpA o1)) (rOp2 X.K (cmpA o2)) (tR X.K G ca) (tR X.K G cb) (tR X.K G cc) σ H Q := by
  obtain ⟨Hf, fps, ρ, a, ρ', S, ee, q⟩ := h
  obtain ⟨⟨x, ρ1⟩, e1, ee⟩ := Option.bind_eq_some_iff.mp (show ((ev G ca ρ).bind fun p => (ev G cb p.2).bind fun p2 => (cont p2.2 p.1).bind fun sx => (cont p2.2 p2.1).bind fun sy => (cmpS o1 sx sy).bind fun z =>
    if z = true then (ev G cc p2.2).bind fun p3 => (cont p3.2 p2.1).bind fun sy' => (cont p3.2 p3.1).bind fun sw => (cmpS o2 sy' sw).bind fun z' => some (Arg.val (.bool z'), p3.2) else some (Arg.val (.bool false), p2.2)) = some (a, ρ') from ee)
  obtain ⟨⟨y, ρ2⟩, e2, ee⟩ := Option.bind_eq_some_iff.mp ee
  obtain ⟨sx, e3, ee⟩ := Option.bind_eq_some_iff.mp ee
  obtain ⟨sy, e4, ee⟩ := Option.bind_eq_some_iff.mp ee
  obtain ⟨z, e5, ee⟩ := Option.bind_eq_some_iff.mp ee
  have c5 : cmpA o1 sx sy = some (.val (.bool z)) := by unfold cmpA; rw [e5]; rfl
  obtain ⟨n1, n2⟩ := cmpA_ne c5
  refine ⟨Hf, fps, ρ, x, ρ1, S, e1, fun Hf1 fps1 H1 vx g1 S1 a1 => ⟨Hf1, fps1, ρ1, y, ρ2, S1, e2, fun Hf2 fps2 H2 vy g2 S2 a2 => ?_⟩⟩
  obtain ⟨fx, ox⟩ := S2.cont (a1.go g2) e3 n1
  obtain ⟨fy, oy⟩ := S2.cont a2 e4 n2
  refine ⟨Hf2, sx, sy, fx, fy, _, S2.ex, ox, oy, c5, fun v H' r => ?_⟩
  cases r with
  | val hv =>
    cases hv
    refine ⟨z, rfl, ?_⟩
    cases z with
    | false =>
      rw [if_neg Bool.false_ne_true] at ee ⊢
      cases ee
      exact q Hf2 fps2 H2 _ (g1.trans g2) S2 (.bl _)
    | true =>
      rw [if_pos rfl] at ee ⊢
      obtain ⟨⟨w, ρ3⟩, e6, ee⟩ := Option.bind_eq_some_iff.mp ee
      obtain ⟨sy', e7, ee⟩ := Option.bind_eq_some_iff.mp ee
      obtain ⟨sw, e8, ee⟩ := Option.bind_eq_some_iff.mp ee
      obtain ⟨z', e9, ee⟩ := Option.bind_eq_some_iff.mp ee
      cases ee
      have c9 : cmpA o2 sy' sw = some (.val (.bool z')) := by unfold cmpA; rw [e9]; rfl
      obtain ⟨n3, n4⟩ := cmpA_ne c9
      refine ⟨Hf2, fps2, ρ2, w, _, S2, e6, fun Hf3 fps3 H3 vw g3 S3 a3 => ?_⟩
      obtain ⟨fy', oy'⟩ := S3.cont (a2.go g3) e7 n3
      obtain ⟨fw, ow⟩ := S3.cont a3 e8 n4
      refine ⟨Hf3, sy', sw, fy', fw, _, S3.ex, oy', ow, c9, fun v H' r => ?_⟩
      obtain ⟨Hf4, g4, S4, a4⟩ := Raw.fin S3 ((g1.trans g2).trans g3) r
      exact q Hf4 fps3 H' v g4 S4 a4
theorem no_marks2 {o1 o2 : CmpOp} {b c : Expr} (h : ∀ es k p, c ≠ .Set es k p) : lastMarks [o1, o2] [b, c] = false := by
  show behindInMarks o2 c = false
  exact no_marks h
theorem g_chn (hu : X.A.units + 100 < cLine) {o1 o2 : CmpOp} (ha : PE X ea (tR X.K G ca)) (hb : PE X eb (tR X.K G cb)) (hc : PE X ec (tR X.K G cc)) (h : ∀ es k p, ec ≠ .Set es k p) : PE X (.Compare ea [o1, o2] [eb, ec] pos) (tR X.K G (.chn o1 o2 ca cb cc)) :=
  PE.weak (pe_chain (op_cmpS hu o1) (op_cmpS hu o2) ha hb hc (no_marks2 h)) fun σ H Q q => tChain_of q
theorem chn_bool {o1 o2 : CmpOp} {ρ : Rho} {a : Arg} {ρ' : Rho} (ee : ev G (.chn o1 o2 ca cb cc) ρ = some (a, ρ')) : ∃ z, a = .val (.bool z) := by
  obtain ⟨p, e1, ee⟩ := Option.bind_eq_some_iff.mp (show ((ev G ca ρ).bind fun p => (ev G cb p.2).bind fun p2 => (cont p2.2 p.1).bind fun sx => (cont p2.2 p2.1).bind fun sy => (cmpS o1 sx sy).bind fun z =>
    if z = true then (ev G cc p2.2).bind fun p3 => (cont p3.2 p2.1).bind fun sy' => (cont p3.2 p3.1).bind fun sw => (cmpS o2 sy' sw).bind fun z' => some (Arg.val (.bool z'), p3.2) else some (Arg.val (.bool false), p2.2)) = some (a, ρ') from ee)
  obtain ⟨p2, e2, ee⟩ := Option.bind_eq_some_iff.mp ee
  obtain ⟨sx, e3, ee⟩ := Option.bind_eq_some_iff.mp ee
  obtain ⟨sy, e4, ee⟩ := Option.bind_eq_some_iff.mp ee
  obtain ⟨z, e5, ee⟩ := Option.bind_eq_some_iff.mp ee
  split at ee
  · obtain ⟨p3, e6, ee⟩ := Option.bind_eq_some_iff.mp ee
    obtain ⟨sy', e7, ee⟩ := Option.bind_eq_some_iff.mp ee
    obtain ⟨sw, e8, ee⟩ := Option.bind_eq_some_iff.mp ee
    obtain ⟨z', e9, ee⟩ := Option.bind_eq_some_iff.mp ee
    cases ee
    exact ⟨_, rfl⟩
  · cases ee
    exact ⟨_, rfl⟩
theorem gt_chn (hu : X.A.units + 100 < cLine) {o1 o2 : CmpOp} (ha : PE X ea (tR X.K G ca)) (hb : PE X eb (tR X.K G cb)) (hc : PE X ec (tR X.K G cc)) (h : ∀ es k p, ec ≠ .Set es k p) : PT X (.Compare ea [o1, o2] [eb, ec] pos) (tT X.K G (.tval (.chn o1 o2 ca cb cc))) :=
  PT.weak (pt_chain (op_cmpS hu o1) (op_cmpS hu o2) ha hb hc (no_marks2 h)) fun σ H Q q => test_of (fun σ H Q q => tChain_of q) (fun ρ a ρ' e => chn_bool e) q

/-! ### and, or, not, conditional expressions -/
theorem bt_split {c : CE} {ρ : Rho} {β : Type} {f : Arg → Rho → Bool → Option β} {r : β} (ee : ((ev G c ρ).bind fun p => (cont p.2 p.1).bind fun s => (truS s).bind fun t => f p.1 p.2 t) = some r) : ∃ x ρ1 s t, ev G c ρ = some (x, ρ1) ∧ cont ρ1 x = some s ∧ truS s = some t ∧ f x ρ1 t = some r := by
  obtain ⟨⟨x, ρ1⟩, e1, ee⟩ := Option.bind_eq_some_iff.mp ee
  obtain ⟨s, e2, ee⟩ := Option.bind_eq_some_iff.mp ee
  obtain ⟨t, e3, ee⟩ := Option.bind_eq_some_iff.mp ee
  exact ⟨x, ρ1, s, t, e1, e2, e3, ee⟩
theorem g_and {rest : List Expr} (ha : PE X ea (tR X.K G ca)) (hb : PE X (.BoolOp .And (eb :: rest) pos) (tR X.K G cb)) : PE X (.BoolOp .And (ea :: eb :: rest) pos) (tR X.K G (.andd ca cb)) :=
  PE.weak (pe_andT ha hb) fun σ H Q ⟨Hf, fps, ρ, a, ρ', S, ee, q⟩ => by
    obtain ⟨x, ρ1, s, t, e1, e2, e3, ee⟩ := bt_split (f := fun x ρ1 t => if t = true then ev G cb ρ1 else some (x, ρ1)) ee
    refine ⟨Hf, fps, ρ, x, ρ1, S, e1, fun Hf1 fps1 H1 v g1 S1 a1 => ?_⟩
    obtain ⟨fp, o⟩ := S1.cont a1 e2 (tru_ne e3)
    refine ⟨t, tru_of S1.ex o e3, ?_⟩
    cases t with
    | true =>
      rw [if_pos rfl] at ee ⊢
      exact ⟨Hf1, fps1, ρ1, a, ρ', S1, ee, fun Hf2 fps2 H2 w g2 S2 a2 => q Hf2 fps2 H2 w (g1.trans g2) S2 (a2.elder g1.th)⟩
    | false =>
      rw [if_neg Bool.false_ne_true] at ee ⊢
      cases ee
      exact q Hf1 fps1 H1 v g1 S1 a1
theorem g_or {rest : List Expr} (ha : PE X ea (tR X.K G ca)) (hb : PE X (.BoolOp .Or (eb :: rest) pos) (tR X.K G cb)) : PE X (.BoolOp .Or (ea :: eb :: rest) pos) (tR X.K G (.orr ca cb)) :=
  PE.weak (pe_orT ha hb) fun σ H Q ⟨Hf, fps, ρ, a, ρ', S, ee, q⟩ => by
    obtain ⟨x, ρ1, s, t, e1, e2, e3, ee⟩ := bt_split (f := fun x ρ1 t => if t = true then some (x, ρ1) else ev G cb ρ1) ee
    refine ⟨Hf, fps, ρ, x, ρ1, S, e1, fun Hf1 fps1 H1 v g1 S1 a1 => ?_⟩
    obtain ⟨fp, o⟩ := S1.cont a1 e2 (tru_ne e3)
    refine ⟨t, tru_of S1.ex o e3, ?_⟩
    cases t with
    | false =>
      rw [if_neg Bool.false_ne_true] at ee ⊢
      exact ⟨Hf1, fps1, ρ1, a, ρ', S1, ee, fun Hf2 fps2 H2 w g2 S2 a2 => q Hf2 fps2 H2 w (g1.trans g2) S2 (a2.elder g1.th)⟩
    | true =>
      rw [if_pos rfl] at ee ⊢
      cases ee
      exact q Hf1 fps1 H1 v g1 S1 a1
theorem g_not (ha : PE X ea (tR X.K G ca)) : PE X (.UnaryOp .Not ea pos) (tR X.K G (.nott ca)) :=
  PE.weak (pe_notT ha) fun σ H Q ⟨Hf, fps, ρ, a, ρ', S, ee, q⟩ => by
    obtain ⟨x, ρ1, s, t, e1, e2, e3, ee⟩ := bt_split (f := fun x ρ1 t => some (Arg.val (.bool (!t)), ρ1)) ee
    cases ee
    refine ⟨Hf, fps, ρ, x, _, S, e1, fun Hf1 fps1 H1 v g1 S1 a1 => ?_⟩
    obtain ⟨fp, o⟩ := S1.cont a1 e2 (tru_ne e3)
    exact ⟨t, tru_of S1.ex o e3, q Hf1 fps1 H1 _ g1 S1 (.bl _)⟩
theorem g_ife {ct : CT} (hc : PT X ec (tT X.K G ct)) (ha : PE X ea (tR X.K G ca)) (hb : PE X eb (tR X.K G cb)) : PE X (.IfExp ec ea eb pos) (tR X.K G (.ife ct ca cb)) :=
  PE.weak (pe_ifExp hc ha hb) fun σ H Q ⟨Hf, fps, ρ, a, ρ', S, ee, q⟩ => by
    obtain ⟨⟨t, ρ1⟩, e1, ee⟩ := Option.bind_eq_some_iff.mp (show ((evT G ct ρ).bind fun p => if p.1 = true then ev G ca p.2 else ev G cb p.2) = some (a, ρ') from ee)
    refine ⟨Hf, fps, ρ, t, ρ1, S, e1, fun Hf1 fps1 H1 g1 S1 => ?_⟩
    cases t with
    | true => exact ⟨Hf1, fps1, ρ1, a, ρ', S1, ee, fun Hf2 fps2 H2 w g2 S2 a2 => q Hf2 fps2 H2 w (g1.trans g2) S2 (a2.elder g1.th)⟩
    | false => exact ⟨Hf1, fps1, ρ1, a, ρ', S1, ee, fun Hf2 fps2 H2 w g2 S2 a2 => q Hf2 fps2 H2 w (g1.trans g2) S2 (a2.elder g1.th)⟩
/-! ### tests -/
theorem gt_val (he : ∀ whole, isTrue ea X.env whole = (do let v ← whole; standAt ea.pos; holding [v] (truthy v))) (ha : PE X ea (tR X.K G ca)) : PT X ea (tT X.K G (.tval ca)) :=
  PT.weak (pt_truth ha he) fun σ H Q ⟨Hf, fps, ρ, b, ρ', S, ee, q⟩ => by
    obtain ⟨x, ρ1, s, t, e1, e2, e3, ee⟩ := bt_split (f := fun x ρ1 t => some (t, ρ1)) ee
    cases ee
    refine ⟨Hf, fps, ρ, x, _, S, e1, fun Hf1 fps1 H1 v g1 S1 a1 => ?_⟩
    obtain ⟨fp, o⟩ := S1.cont a1 e2 (tru_ne e3)
    exact ⟨_, tru_of S1.ex o e3, q Hf1 fps1 H1 g1 S1⟩
theorem gt_not {ct : CT} (hc : PT X ec (tT X.K G ct)) : PT X (.UnaryOp .Not ec pos) (tT X.K G (.tnot ct)) :=
  PT.weak (pt_not hc) fun σ H Q ⟨Hf, fps, ρ, b, ρ', S, ee, q⟩ => by
    obtain ⟨⟨t, ρ1⟩, e1, ee⟩ := Option.bind_eq_some_iff.mp (show ((evT G ct ρ).bind fun p => some (!p.1, p.2)) = some (b, ρ') from ee)
    cases ee
    exact ⟨Hf, fps, ρ, t, _, S, e1, fun Hf1 fps1 H1 g1 S1 => q Hf1 fps1 H1 g1 S1⟩
theorem gw_and {rest : List Expr} {ct cu : CT} (ha : PT X ea (tT X.K G ct)) (hb : PW X (.BoolOp .And (eb :: rest) pos) (tT X.K G cu)) : PW X (.BoolOp .And (ea :: eb :: rest) pos) (tT X.K G (.tand ct cu)) :=
  PW.weak (pw_and ha hb) fun σ H Q ⟨Hf, fps, ρ, b, ρ', S, ee, q⟩ => by
    obtain ⟨⟨t, ρ1⟩, e1, ee⟩ := Option.bind_eq_some_iff.mp (show ((evT G ct ρ).bind fun p => if p.1 = true then evT G cu p.2 else some (false, p.2)) = some (b, ρ') from ee)
    refine ⟨Hf, fps, ρ, t, ρ1, S, e1, fun Hf1 fps1 H1 g1 S1 => ?_⟩
    cases t with
    | true => exact ⟨Hf1, fps1, ρ1, b, ρ', S1, ee, fun Hf2 fps2 H2 g2 S2 => q Hf2 fps2 H2 (g1.trans g2) S2⟩
    | false => cases ee; exact q Hf1 fps1 H1 g1 S1
theorem gw_or {rest : List Expr} {ct cu : CT} (ha : PT X ea (tT X.K G ct)) (hb : PW X (.BoolOp .Or (eb :: rest) pos) (tT X.K G cu)) : PW X (.BoolOp .Or (ea :: eb :: rest) pos) (tT X.K G (.tor ct cu)) :=
  PW.weak (pw_or ha hb) fun σ H Q ⟨Hf, fps, ρ, b, ρ', S, ee, q⟩ => by
    obtain ⟨⟨t, ρ1⟩, e1, ee⟩ := Option.bind_eq_some_iff.mp (show ((evT G ct ρ).bind fun p => if p.1 = true then some (true, p.2) else evT G cu p.2) = some (b, ρ') from ee)
    refine ⟨Hf, fps, ρ, t, ρ1, S, e1, fun Hf1 fps1 H1 g1 S1 => ?_⟩
    cases t with
    | false => exact ⟨Hf1, fps1, ρ1, b, ρ', S1, ee, fun Hf2 fps2 H2 g2 S2 => q Hf2 fps2 H2 (g1.trans g2) S2⟩
    | true => cases ee; exact q Hf1 fps1 H1 g1 S1

/-! ### subscripts, slices -/
theorem idx_ne {x y : Sl} {z : Arg} (e : idxS x y = some z) : x ≠ .emp ∧ y ≠ .emp := by
  constructor
  · intro h; subst h; unfold idxS at e; split at e <;> simp_all [seqS]
  · intro h; subst h; unfold idxS at e; split at e <;> simp_all
theorem g_idx (hu : X.A.units + 100 < cLine) (ha : PE X ea (tR X.K G ca)) (hb : PE X eb (tR X.K G cb)) (hs : PlainIx eb) : PE X (.Subscript ea eb pos) (tR X.K G (.idx ca cb)) :=
  PE.weak (pe_ix (ix_S hu) ha hb hs) fun σ H Q ⟨Hf, fps, ρ, a, ρ', S, ee, q⟩ => tOp_of S (fun _ _ _ h => idx_ne h) ee q
theorem go_none : PO X none (tO X.K G .non) := PO.weak po_none fun σ H Q ⟨Hf, fps, ρ, o, ρ', S, ee, q⟩ => by
  cases (show some (none, ρ) = some (o, ρ') from ee)
  exact q Hf fps H .refl S
theorem go_some (ha : PE X ea (tR X.K G ca)) : PO X (some ea) (tO X.K G (.som ca)) := PO.weak (po_some ha) fun σ H Q ⟨Hf, fps, ρ, o, ρ', S, ee, q⟩ => by
  obtain ⟨⟨x, ρ1⟩, e1, ee⟩ := Option.bind_eq_some_iff.mp (show ((ev G ca ρ).bind fun p => match p.1 with | .val (.int i) => some (some i, p.2) | _ => none) = some (o, ρ') from ee)
  refine ⟨Hf, fps, ρ, x, ρ1, S, e1, fun Hf1 fps1 H1 v g1 S1 a1 => ?_⟩
  dsimp only at ee
  split at ee
  · cases ee
    have a1' : Dq X.K Hf1 v (.int _) := a1
    cases a1'
    exact ⟨_, rfl, q Hf1 fps1 H1 g1 S1⟩
  · cases ee
theorem g_sli {lo hi : Option Expr} {cl ch : CO} {p2 : Pos} (ha : PE X ea (tR X.K G ca)) (hl : PO X lo (tO X.K G cl)) (hh : PO X hi (tO X.K G ch)) : PE X (.Subscript ea (.Slice lo hi none p2) pos) (tR X.K G (.sli ca cl ch)) :=
  PE.weak (pe_slice sl_S ha hl hh) fun σ H Q ⟨Hf, fps, ρ, a, ρ', S, ee, q⟩ => by
    obtain ⟨⟨x, ρ1⟩, e1, ee⟩ := Option.bind_eq_some_iff.mp (show ((ev G ca ρ).bind fun p => (evO G cl p.2).bind fun p2 => (evO G ch p2.2).bind fun p3 => (cont p3.2 p.1).bind fun sx => (sliS sx p2.1 p3.1).bind fun z => some (z, p3.2)) = some (a, ρ') from ee)
    obtain ⟨⟨l, ρ2⟩, e2, ee⟩ := Option.bind_eq_some_iff.mp ee
    obtain ⟨⟨h, ρ3⟩, e3, ee⟩ := Option.bind_eq_some_iff.mp ee
    obtain ⟨sx, e4, ee⟩ := Option.bind_eq_some_iff.mp ee
    obtain ⟨z, e5, ee⟩ := Option.bind_eq_some_iff.mp ee
    cases ee
    refine ⟨Hf, fps, ρ, x, ρ1, S, e1, fun Hf1 fps1 H1 v g1 S1 a1 => ⟨Hf1, fps1, ρ1, l, ρ2, S1, e2, fun Hf2 fps2 H2 g2 S2 => ⟨Hf2, fps2, ρ2, h, _, S2, e3, fun Hf3 fps3 H3 g3 S3 => ?_⟩⟩⟩
    obtain ⟨fx, ox⟩ := S3.cont ((a1.go g2).go g3) e4 (by intro h; subst h; unfold sliS at e5; split at e5 <;> simp_all [datS])
    refine ⟨Hf3, sx, fx, _, S3.ex, ox, e5, fun v H' r => ?_⟩
    obtain ⟨Hf4, g4, S4, a4⟩ := Raw.fin S3 ((g1.trans g2).trans g3) r
    exact q Hf4 fps3 H' v g4 S4 a4
end Cor
set_option Elab.async false
set_option linter.all false
set_option maxRecDepth 100000
set_option maxHeartbeats 4000000
/-! Core 4c: what is walked. -/
namespace PySem
open AutoSeq1 (wpAny_loadPart')
/-- enumerate(v), v told by how its iterator begins -/
theorem meets_enum1B {v : Value} {o : Obj} {H : Heap → Prop} (B : Begins v o H) :
    Meets (Builtin.«enumerate.__new__» ⟨[.type "enumerate", v], []⟩) (fun _ R s => H s.heap ∧
      R (.ok (.ret (.ref (s.heap.push o).objs.size))) { s with heap := (s.heap.push o).push { cls := .type "enumerate", data := .fields #[.none, .bool false, .ref s.heap.objs.size, rawInt 0, .none, .none] } }) :=
  .of_wp fun prog w A R s h => by
    obtain ⟨hp, g, d, tk, os⟩ := s
    obtain ⟨h1, h⟩ := h
    have hsub := sub_enumerate
    have q1 : ∀ {A' : Around} {E : Value → Shared → Prop} {Q : Value → Shared → Prop}, Q (.ref hp.objs.size) ⟨hp.push o, g, d, tk, os⟩ → wpAny (model prog w) A' (pyIter v) Q E ⟨hp, g, d, tk, os⟩ :=
      fun q => B.iter prog w _ _ ⟨hp, g, d, tk, os⟩ _ h1 q
    wp_walk using q1
    refine wpAny_stack_any fun st => wpAny_pure ?_
    split
    · rename_i c _ _ _ _ _
      cases (c == Value.type "enumerate") <;> (wp_walk using q1; exact ⟨_, rfl, h⟩)
    · wp_walk using q1
      exact ⟨_, rfl, h⟩
section
variable {prog : Program} {w : World} {A : Around} {E : Value → Shared → Prop} {s : Shared}
theorem call_enum1B {v : Value} {o : Obj} {H : Heap → Prop} {Q : Value → Shared → Prop} (B : Begins v o H) (h1 : H s.heap)
    (h : ∀ h', IsEnum h' (s.heap.objs.size + 1) s.heap.objs.size 0 .none → h'.get? s.heap.objs.size = some o → (∀ b o, s.heap.get? b = some o → h'.get? b = some o) → Q (.ref (s.heap.objs.size + 1)) { s with heap := h' }) :
    wpAny (model prog w) A (call (.type "enumerate") [v]) Q E s := by
  refine callType_new F.called_enumerate (by decide) (F.typeCall_enumerate_1 _) (F.newCall_enumerate_1 _) (fun obj => F.args_object_init_2 obj _) F.entry_enumerate_new (meets_enum1B B) ⟨h1, ?_⟩
  have hz : (s.heap.push o).objs.size = s.heap.objs.size + 1 := Heap.size_push ..
  show _ ∧ _
  rw [hz]
  have he := Heap.get?_push_size (s.heap.push o) (o := { cls := .type "enumerate", data := .fields #[.none, .bool false, .ref s.heap.objs.size, rawInt 0, .none, .none] }) rfl
  rw [hz] at he
  exact ⟨⟨_, he, rfl⟩, h _ he (Heap.get?_push_of_some _ (Heap.get?_push_size _ B.free)) fun b o x => Heap.get?_push_of_some _ (Heap.get?_push_of_some _ x)⟩
end
end PySem
namespace Cor
open PySem PySem.Spec PyProof.Rows L2
open Evl (Ex ex_l ex_t)

/-- the tuple at a as it stands at each turn, each item in a new pair -/
def Iteu (K : PySem.W.Frag) (a : Addr) : It :=
  ⟨fun i H => ∃ (xs : List V) (x : V), SqT K H a xs ∧ xs[i]? = some x, fun i H v H' => ∃ T x, v = .ref T ∧ H T = none ∧ H' = upd H T (.tup [.int (i : Nat), x]) ∧ ∀ xs, SqT K H a xs → xs[i]? = some x, fun i H => ∃ xs : List V, SqT K H a xs ∧ xs.length = i⟩
theorem turn_enumU {P : Program} {w : World} {K : PySem.W.Frag} {elts : List Expr} {kk : Nat} {tpos : Pos} (a e it : Addr) (items : Array Value) :
    Turn P w K (.Tuple elts kk tpos) (Iteu K a) [e, it] e (fun i h => (∃ old, IsEnum h e it ((i : Nat) : Int) old) ∧ h.IsTupleIter it a i ∧ e ≠ it ∧ a ≠ it ∧ a ≠ e) where
  mem := by simp
  obj := fun i h st b hb => by
    obtain ⟨⟨old, he⟩, ⟨o, ho, hc, hd⟩, _⟩ := st
    simp only [List.mem_cons, List.not_mem_nil, or_false] at hb
    rcases hb with rfl | rfl
    · exact ⟨_, he, fun v q => nomatch q⟩
    · exact ⟨o, ho, fun v q => by rw [hd] at q; cases q⟩
  keep := fun i h h' ⟨⟨old, he⟩, hi, hne⟩ k => ⟨⟨old, k e (by simp) _ he⟩, hi.at fun o q => k it (by simp) o q, hne⟩
  item := by
    intro X hP hw hK hc i pins s σ H E I hf st hg
    subst hP hw hK
    obtain ⟨⟨old, he⟩, hit, hne, nai, nae⟩ := st
    obtain ⟨xs, x, hq, hx⟩ := hg
    obtain ⟨its, rv, p, hz⟩ := I.tuple hq
    obtain ⟨u, hu, ru⟩ := rv.get hx
    have hel : e < s.heap.objs.size := Heap.lt_size he
    have hil : it < s.heap.objs.size := by obtain ⟨_, q, _⟩ := hit; exact Heap.lt_size q
    have D := Draws.tuple (prog := X.prog) (w := X.w) (A := X.A.in1) (I.ok.hd hc) it a nai its.toArray
    refine wpAny_pyNext_enum_itemC D he ⟨hit, show s.heap.IsTuple a its.toArray from p⟩ (by rw [List.size_toArray]; exact (List.getElem?_eq_some_iff.mp hu).1) hne (by simp [hne, Ne.symm nae]) fun x' h' tk hP ho hst' hT hsz hk => ?_
    have ex : x' = u := by
      have q : its.toArray[i]? = some u := by simpa using hu
      rw [hP] at q
      exact Option.some.inj q
    subst ex
    refine ⟨_, rfl, wpAny_letOwnedTupleGo_enum (s := { s with heap := h', toks := tk + 1 }) ho fun h'' he' sb => ?_⟩
    have hT2 : h''.get? s.heap.objs.size = some { cls := .type "tuple", data := .seq #[.int i tk, x'] } := (sb.2 _ (Nat.ne_of_gt hel)).trans hT
    have new : ObjOk X.prog X.w (upd H s.heap.objs.size (.tup [.int (i : Nat), x])) h'' s.heap.objs.size (.tup [.int (i : Nat), x]) :=
      ⟨by show 2 ≤ sizeLine; decide, [.int i tk, x'], .cons ⟨_, rfl⟩ (.cons ru .nil), ⟨_, hT2, rfl, _, rfl⟩⟩
    have I1 : L2.Inv X pins σ (upd H s.heap.objs.size (.tup [.int (i : Nat), x])) { s with heap := h'', toks := tk + 1 } :=
      I.turnedNew (ch := [e, it]) (fun b ob hb q => (sb.2 b (fun z => hb (by simp [z]))).trans (hk b ob (fun z => hb (by simp [z])) (fun z => hb (by simp [z])) q)) hf (Nat.le_refl _) new
    refine ⟨.ref s.heap.objs.size, _, I1, rfl, ⟨_, x, rfl, I.hok.fresh (Nat.le_refl _), rfl, fun ys hy => by rw [I.tuple_inj hy hq]; exact hx⟩, ⟨⟨x', ?_⟩, hst'.1.at fun o q => (sb.2 it (Ne.symm hne)).trans q, hne, nai, nae⟩, fun b hb => ?_⟩
    · have e1 : ((i + 1 : Nat) : Int) = (i : Int) + 1 := by omega
      rw [e1]; exact he'
    · have hb' : b < s.heap.objs.size := by
        simp only [List.mem_cons, List.not_mem_nil, or_false] at hb
        rcases hb with rfl | rfl
        · exact hel
        · exact hil
      rw [upd_ne (Nat.ne_of_lt hb')]
      exact (hf b hb).1
  done := by
    intro X hP hw hK hc i pins s σ H E I hf st hg
    subst hP hw hK
    obtain ⟨⟨old, he⟩, hit, hne, nai, nae⟩ := st
    obtain ⟨xs, hq, hx⟩ := hg
    obtain ⟨its, rv, p, hz⟩ := I.tuple hq
    obtain ⟨f0, f1, f2, f3, f4, f5⟩ := hf it (by simp)
    have hl := rv.length
    have D := Draws.tuple (prog := X.prog) (w := X.w) (A := X.A.in1) (I.ok.hd hc) it a nai its.toArray
    have ei : i = its.toArray.size := by rw [List.size_toArray]; omega
    subst ei
    exact wpAny_pyNext_enum_endD D he ⟨hit, show s.heap.IsTuple a its.toArray from p⟩ fun h' eb => ⟨rfl, I.turned (t' := s.toks) (fun b o hb q => eb b o hb q) f0 f1 f3 f4 f5⟩
  self := fun A i s Q E ⟨⟨_, he⟩, _⟩ h => wpAny_pyIter_enum he h
end Cor
set_option Elab.async false
set_option linter.all false
set_option maxRecDepth 100000
set_option maxHeartbeats 4000000
/-! Core 4d: comprehensions. -/
namespace Cor
open PySem PySem.Spec PyProof.Rows L2
open Evl (Ex ex_l ex_t)
variable {K : PySem.W.Frag}

/-- an iterator that hands out the frozen items ds -/
structure ItOk (K : PySem.W.Frag) (Hf : Hp) (ds : List PyData) (J : It) : Prop where
  go : ∀ i H, Ex Hf H → i < ds.length → J.go i H
  stop : ∀ i H, Ex Hf H → i = ds.length → J.stop i H
  yld : ∀ i H x H', Ex Hf H → i < ds.length → J.yld i H x H' → ∃ d, ds[i]? = some d ∧ Raw K Hf H (.val d) x H'
def tI (K : PySem.W.Frag) (G : List Fn) (c : CI) : TI := fun σ H R => ∃ Hf fps ρ ds ρ', SR K Hf fps σ H ρ ∧ evI G c ρ = some (ds, ρ') ∧
  ∀ Hf' fps' H' J, Go Hf fps H Hf' fps' H' → SR K Hf' fps' σ H' ρ' → ItOk K Hf' ds J → R J H'

/-! ### slots put aside -/
theorem wipe_get {σ : L2.St} (j : Nat) : ∀ vs : List Nat, (wipe σ vs)[j]? = if j ∈ vs then (σ[j]?).map (fun _ => none) else σ[j]?
  | [] => by simp [wipe]
  | v :: vs => by
    unfold wipe
    by_cases h : v = j
    · subst h
      rw [if_pos (by simp)]
      by_cases hl : v < σ.length
      · rw [List.getElem?_set_self (by rw [wipe_length]; exact hl), List.getElem?_eq_getElem hl]; rfl
      · have h1 : σ.length ≤ v := by omega
        rw [List.getElem?_eq_none h1, List.getElem?_eq_none (by rw [List.length_set, wipe_length]; exact h1)]; rfl
    · rw [List.getElem?_set_ne h, wipe_get j vs]
      have : (j ∈ v :: vs) ↔ j ∈ vs := by simp [Ne.symm h]
      simp only [this]
theorem wipeR_length (ρ : Rho) : ∀ vs : List Nat, (wipeR ρ vs).length = ρ.length
  | [] => rfl
  | v :: vs => by unfold wipeR; rw [List.length_set, wipeR_length ρ vs]
theorem wipeR_get {ρ : Rho} (j : Nat) : ∀ vs : List Nat, (wipeR ρ vs)[j]? = if j ∈ vs then (ρ[j]?).map (fun _ => Sl.emp) else ρ[j]?
  | [] => by simp [wipeR]
  | v :: vs => by
    unfold wipeR
    by_cases h : v = j
    · subst h
      rw [if_pos (by simp)]
      by_cases hl : v < ρ.length
      · rw [List.getElem?_set_self (by rw [wipeR_length]; exact hl), List.getElem?_eq_getElem hl]; rfl
      · have h1 : ρ.length ≤ v := by omega
        rw [List.getElem?_eq_none h1, List.getElem?_eq_none (by rw [List.length_set, wipeR_length]; exact h1)]; rfl
    · rw [List.getElem?_set_ne h, wipeR_get j vs]
      have : (j ∈ v :: vs) ↔ j ∈ vs := by simp [Ne.symm h]
      simp only [this]
theorem backR_length (ρ0 ρ : Rho) : ∀ vs : List Nat, (backR ρ0 ρ vs).length = ρ.length
  | [] => rfl
  | v :: vs => by unfold backR; rw [List.length_set, backR_length ρ0 ρ vs]
theorem backR_get {ρ0 ρ : Rho} (hl0 : ρ0.length = ρ.length) (j : Nat) : ∀ vs : List Nat, (backR ρ0 ρ vs)[j]? = if j ∈ vs then ρ0[j]? else ρ[j]?
  | [] => by simp [backR]
  | v :: vs => by
    unfold backR
    by_cases h : v = j
    · subst h
      rw [if_pos (by simp)]
      by_cases hl : v < ρ.length
      · rw [List.getElem?_set_self (by rw [backR_length]; exact hl)]
        have h0 : v < ρ0.length := by omega
        rw [List.getD_eq_getElem?_getD, List.getElem?_eq_getElem h0]; rfl
      · have h1 : ρ.length ≤ v := by omega
        rw [List.getElem?_eq_none (show ρ0.length ≤ v by omega), List.getElem?_eq_none (by rw [List.length_set, backR_length]; exact h1)]
    · rw [List.getElem?_set_ne h, backR_get hl0 j vs]
      have : (j ∈ v :: vs) ↔ j ∈ vs := by simp [Ne.symm h]
      simp only [this]
theorem freeR_at {ρ : Rho} {vs : List Nat} (h : freeR ρ vs = true) {j : Nat} (hj : j ∈ vs) {sl : Sl} (e : ρ[j]? = some sl) : sl = .emp ∨ ∃ d, sl = .val d := by
  have q := List.all_eq_true.mp h j hj
  have e' : ρ.getD j .emp = sl := by rw [List.getD_eq_getElem?_getD, e]; rfl
  rw [e'] at q
  cases sl with
  | emp => exact .inl rfl
  | val d => exact .inr ⟨d, rfl⟩
  | lst _ => cases q
  | dct _ => cases q
  | bk _ _ => cases q
section
variable {Hf Hf0 : Hp} {fps fps0 : Fps} {σ : L2.St} {H H0 : Hp} {ρ : Rho}
theorem SR.plainFp (S : SR K Hf fps σ H ρ) {vs : List Nat} (h : freeR ρ vs = true) {j : Nat} (hj : j ∈ vs) : fps j = [] := by
  cases e : ρ[j]? with
  | none => exact S.gone j fun sl q => by rw [e] at q; cases q
  | some sl =>
    rcases freeR_at h hj e with rfl | ⟨d, rfl⟩
    · exact S.gone j fun sl q => by rw [e] at q; cases q; rfl
    · obtain ⟨v, _, o⟩ := S.here j _ e (fun z => nomatch z)
      exact o.1
theorem SR.wipe (S : SR K Hf fps σ H ρ) {vs : List Nat} (h : freeR ρ vs = true) : SR K Hf fps (wipe σ vs) H (wipeR ρ vs) where
  ex := S.ex
  len := by rw [wipe_length, wipeR_length, S.len]
  here := fun i sl e ne => by
    rw [wipeR_get] at e
    rw [wipe_get]
    by_cases hi : i ∈ vs
    · rw [if_pos hi] at e
      obtain ⟨x, _, e2⟩ := Option.map_eq_some_iff.mp e
      exact absurd e2.symm ne
    · rw [if_neg hi] at e ⊢
      exact S.here i sl e ne
  gone := fun i hi => by
    by_cases hv : i ∈ vs
    · exact S.plainFp h hv
    · refine S.gone i fun sl e => hi sl ?_
      rw [wipeR_get, if_neg hv]; exact e
  nof := S.nof
  dis := S.dis
/-- behind a turn: the slots vs as they were ahead -/
theorem SR.back {Hf1 H1 : Hp} {fps1 : Fps} {ρ1 : Rho} {σ2 : L2.St} {vs : List Nat} (S1 : SR K Hf1 fps1 σ H1 ρ1) (e1 : Ex Hf1 Hf) (hf : freeR ρ1 vs = true) (S : SR K Hf fps σ2 H ρ) (w : L2.wipe σ2 vs = L2.wipe σ vs) :
    SR K Hf (fun j => if j ∈ vs then [] else fps j) σ H (backR ρ1 ρ vs) := by
  have hl2 : σ2.length = σ.length := by have := congrArg List.length w; rw [wipe_length, wipe_length] at this; exact this
  have hl : ρ1.length = ρ.length := by rw [← S1.len, ← S.len, hl2]
  have hσ : ∀ j, j ∉ vs → σ2[j]? = σ[j]? := fun j hj => by
    have := congrArg (·[j]?) w
    simp only [wipe_get, if_neg hj] at this
    exact this
  refine ⟨S.ex, by rw [backR_length, ← hl, S1.len], fun i sl e ne => ?_, fun i hi => ?_, fun i a ha => ?_, fun i j a ha hb => ?_⟩
  · rw [backR_get hl] at e
    by_cases hi : i ∈ vs
    · rw [if_pos hi] at e
      rcases freeR_at hf hi e with rfl | ⟨d, rfl⟩
      · exact absurd rfl ne
      · obtain ⟨v, h1, _, h2⟩ := S1.here i _ e ne
        refine ⟨v, h1, ?_, Dq.mono e1 _ _ h2⟩
        show (if i ∈ vs then [] else fps i) = []
        rw [if_pos hi]
    · rw [if_neg hi] at e
      obtain ⟨v, h1, o⟩ := S.here i sl e ne
      refine ⟨v, (hσ i hi) ▸ h1, ?_⟩
      show OwnAt K Hf H sl v (if i ∈ vs then [] else fps i)
      rw [if_neg hi]; exact o
  · show (if i ∈ vs then [] else fps i) = []
    by_cases hv : i ∈ vs
    · rw [if_pos hv]
    · rw [if_neg hv]
      refine S.gone i fun sl e => hi sl ?_
      rw [backR_get hl, if_neg hv]; exact e
  · by_cases hv : i ∈ vs
    · rw [if_pos hv] at ha; simp at ha
    · rw [if_neg hv] at ha; exact S.nof i a ha
  · by_cases hv : i ∈ vs
    · rw [if_pos hv] at ha; simp at ha
    · by_cases hw : j ∈ vs
      · rw [if_pos hw] at hb; simp at hb
      · rw [if_neg hv] at ha
        rw [if_neg hw] at hb
        exact S.dis i j a ha hb
theorem Go.less (g : Go Hf0 fps0 H0 Hf fps H) {fps' : Fps} (h : ∀ i a, a ∈ fps' i → a ∈ fps i) : Go Hf0 fps0 H0 Hf fps' H :=
  ⟨g.fz, fun a o h1 h2 h3 => by
    obtain ⟨q1, q2, q3⟩ := g.fo a o h1 h2 h3
    exact ⟨q1, q2, fun i hi => q3 i (h i a hi)⟩, g.th⟩
/-- an object that nobody has changes -/
theorem SR.other (S : SR K Hf fps σ H ρ) {p : Addr} {o : HO} (h1 : Hf p = none) (h2 : ∀ i, p ∉ fps i) : SR K Hf fps σ (upd H p o) ρ :=
  ⟨S.ex.mut h1, S.len, fun i sl e ne => by
    obtain ⟨v, e1, ow⟩ := S.here i sl e ne
    refine ⟨v, e1, ow.keep (.refl _) fun a ha ob q => ?_⟩
    have : a ≠ p := fun z => h2 i (z ▸ ha)
    rw [upd_ne this]; exact q, S.gone, S.nof, S.dis⟩
theorem Go.other (g : Go Hf0 fps0 H0 Hf fps H) {p : Addr} {o : HO} (h0 : H0 p = none) : Go Hf0 fps0 H0 Hf fps (upd H p o) :=
  ⟨g.fz, fun a u h1 h2 h3 => by
    obtain ⟨q1, q2⟩ := g.fo a u h1 h2 h3
    have : a ≠ p := fun z => by subst z; rw [h0] at h1; cases h1
    exact ⟨by rw [upd_ne this]; exact q1, q2⟩, fun a u q => by
    have : a ≠ p := fun z => by subst z; rw [h0] at q; cases q
    obtain ⟨o', e⟩ := g.th a u q
    exact ⟨o', by rw [upd_ne this]; exact e⟩⟩

/-! ### targets -/
def gNames : List Nat → TGs
  | [] => gNil
  | i :: is => gCons (gName i) (gNames is)
def gTg (K : PySem.W.Frag) : Tg → TG
  | .nm i => gName i
  | .tp is => gTup K is.length (gNames is)
theorem asg_names : ∀ (is : List Nat) (ds : List PyData) {fps : Fps} {σ : L2.St} {ρ ρ' : Rho} {xs : List V} {P : L2.St → Hp → Prop}, SR K Hf fps σ H ρ → DqAll K Hf xs ds → setNames is ds ρ = some ρ' →
    (∀ fps' σ', Go Hf fps H Hf fps' H → SR K Hf fps' σ' H ρ' → (∀ vs, (∀ i ∈ is, i ∈ vs) → L2.wipe σ' vs = L2.wipe σ vs) → P σ' H) → gNames is xs σ H P
  | [], [], fps, σ, ρ, ρ', xs, P, S, hd, e, q => by
    cases hd
    cases e
    exact ⟨rfl, q fps σ .refl S fun _ _ => rfl⟩
  | i :: is, d :: ds, fps, σ, ρ, ρ', xs, P, S, hd, e, q => by
    cases hd with
    | cons h1 h2 =>
      rename_i v vs
      have e' : (if i < ρ.length then setNames is ds (ρ.set i (.val d)) else none) = some ρ' := e
      split at e'
      · rename_i hi
        refine ⟨v, vs, rfl, ?_⟩
        have S' : SR K Hf (setF fps i []) (σ.set i (some v)) H (ρ.set i (.val d)) := S.put hi (fun z => nomatch z) ⟨rfl, h1⟩ (fun a ha => by simp at ha)
        refine asg_names is ds S' h2 e' fun fps' σ' g' S'' w => q fps' σ' ((Go.refl.put (i := i) (fp := []) (fun a ha => by simp at ha)).trans g') S'' fun us hu => ?_
        rw [w us fun j hj => hu j (by simp [hj])]
        apply List.ext_getElem?
        intro j
        rw [wipe_get, wipe_get]
        by_cases hj : j ∈ us
        · rw [if_pos hj, if_pos hj]
          by_cases hji : i = j
          · subst hji
            have hl : i < σ.length := by rw [S.len]; exact hi
            rw [List.getElem?_set_self hl, List.getElem?_eq_getElem hl]; rfl
          · rw [List.getElem?_set_ne hji]
        · rw [if_neg hj, if_neg hj]
          have hji : i ≠ j := fun z => hj (z ▸ hu i (by simp))
          rw [List.getElem?_set_ne hji]
      · cases e'
  | [], _ :: _, _, _, _, _, _, _, _, _, e, _ => by cases e
  | _ :: _, [], _, _, _, _, _, _, _, _, e, _ => by cases e
def tgIn (vs : List Nat) : Tg → Bool
  | .nm i => decide (i ∈ vs)
  | .tp is => is.all fun i => decide (i ∈ vs)
theorem asg_tg {tg : Tg} {d : PyData} {ρ' : Rho} {x : V} {P : L2.St → Hp → Prop} (S : SR K Hf fps σ H ρ) (hd : Dq K Hf x d) (e : asgT tg d ρ = some ρ')
    (q : ∀ fps' σ', Go Hf fps H Hf fps' H → SR K Hf fps' σ' H ρ' → (∀ vs, tgIn vs tg = true → L2.wipe σ' vs = L2.wipe σ vs) → P σ' H) : gTg K tg x σ H P := by
  cases tg with
  | nm i =>
    have e' : (if i < ρ.length then some (ρ.set i (.val d)) else none) = some ρ' := e
    split at e'
    · rename_i hi
      cases e'
      refine q (setF fps i []) _ (Go.refl.put (fun a ha => by simp at ha)) (S.put hi (fun z => nomatch z) ⟨rfl, hd⟩ (fun a ha => by simp at ha)) fun vs hv => ?_
      have hv : i ∈ vs := of_decide_eq_true hv
      apply List.ext_getElem?
      intro j
      rw [wipe_get, wipe_get]
      by_cases hji : i = j
      · subst hji
        have hl : i < σ.length := by rw [S.len]; exact hi
        rw [if_pos hv, if_pos hv, List.getElem?_set_self hl, List.getElem?_eq_getElem hl]; rfl
      · rw [List.getElem?_set_ne hji]
    · cases e'
  | tp is =>
    cases d with
    | tuple ds =>
      have e' : setNames is ds ρ = some ρ' := e
      cases hd with
      | tup ht hds =>
        rename_i a xs
        have hlen : ∀ (is : List Nat) (ds : List PyData) (ρ : Rho), setNames is ds ρ = some ρ' → is.length = ds.length := fun is => by
          induction is with
          | nil => intro ds ρ e; cases ds with
            | nil => rfl
            | cons _ _ => cases e
          | cons i is ih => intro ds ρ e; cases ds with
            | nil => cases e
            | cons d ds =>
              have e' : (if i < ρ.length then setNames is ds (ρ.set i (.val d)) else none) = some ρ' := e
              split at e'
              · rw [List.length_cons, List.length_cons, ih ds _ e']
              · cases e'
        refine ⟨a, xs, rfl, ex_t S.ex ht, by rw [hds.length]; exact (hlen is ds ρ e').symm, ?_⟩
        exact asg_names is ds S hds e' fun fps' σ' g' S' w => q fps' σ' g' S' fun vs hv => w vs fun i hi => of_decide_eq_true (List.all_eq_true.mp hv i hi)
    | none => cases e
    | bool _ => cases e
    | int _ => cases e
    | str _ => cases e
    | list _ => cases e
    | dict _ => cases e
end

/-- the list at D, that nobody has, holds acc -/
def AccAt (K : PySem.W.Frag) (Hf : Hp) (fps : Fps) (H : Hp) (D : Addr) (acc : List PyData) : Prop := ∃ xs, H D = some (.lst xs) ∧ DqAll K Hf xs acc ∧ Hf D = none ∧ ∀ i, D ∉ fps i
theorem AccAt.go {Hf Hf' H H' : Hp} {fps fps' : Fps} {D : Addr} {acc : List PyData} (h : AccAt K Hf fps H D acc) (g : Go Hf fps H Hf' fps' H') : AccAt K Hf' fps' H' D acc := by
  obtain ⟨xs, h1, h2, h3, h4⟩ := h
  obtain ⟨q1, q2, q3⟩ := g.fo D _ h1 h3 h4
  exact ⟨xs, q1, DqAll.mono g.fz _ _ h2, q2, q3⟩

/-- THE TURNS of a comprehension's clause: a body that grows the list at D as fe tells -/
theorem comp_turns {G : List Fn} {tg : Tg} {c : CT} {vs : List Nat} {fe : List PyData → Rho → Option (List PyData × Rho)} {body : L2.St → Hp → (Hp → Prop) → Prop} {D : Addr} {Hf0 H0 : Hp} {fps0 : Fps} (hD : H0 D = none)
    {mx base : Nat} (hgr : ∀ acc ρ acc' ρ', fe acc ρ = some (acc', ρ') → acc'.length ≤ acc.length + mx)
    {J : It} {ds : List PyData}
    (hbody : ∀ Hf fps σ H ρ acc acc' ρ' (Nx : Hp → Prop), acc.length + mx ≤ base + mx * ds.length → Go Hf0 fps0 H0 Hf fps H → SR K Hf fps σ H ρ → AccAt K Hf fps H D acc → fe acc ρ = some (acc', ρ') → (∀ Hf' fps' H', Go Hf0 fps0 H0 Hf' fps' H' → Ex Hf Hf' → SR K Hf' fps' σ H' ρ' → AccAt K Hf' fps' H' D acc' → Nx H') → body σ H Nx)
    {Hf1 : Hp} {fps1 : Fps} {σ : L2.St} {H1 : Hp} {ρ1 : Rho} {acc1 acc2 : List PyData} {ρ2 : Rho} {fin : Hp → Prop} (hJ : ItOk K Hf1 ds J) (htg : tgIn vs tg = true) (g1 : Go Hf0 fps0 H0 Hf1 fps1 H1) (S1 : SR K Hf1 fps1 σ H1 ρ1) (a1 : AccAt K Hf1 fps1 H1 D acc1)
    (hacc : acc1.length ≤ base) (hfree : freeR ρ1 vs = true) (e : compGo ρ1 vs (asgT tg) (evT G c) fe ds acc1 ρ1 = some (acc2, ρ2))
    (hfin : ∀ Hf' fps' H', Go Hf0 fps0 H0 Hf' fps' H' → Ex Hf1 Hf' → SR K Hf' fps' σ H' ρ2 → AccAt K Hf' fps' H' D acc2 → fin H') :
    ∃ W : Nat → Nat → Hp → Prop, (∃ m, W 0 m H1) ∧ ∀ i m H, W i m H → (J.stop i H ∧ fin H) ∨ (J.go i H ∧ ∃ Nx : Hp → Prop, (∀ H', Nx H' → ∃ m', m' < m ∧ W (i + 1) m' H') ∧
      ∀ x H', J.yld i H x H' → gTg K tg x (L2.wipe σ vs) H' fun σ2 H2 => L2.wipe σ2 vs = L2.wipe σ vs ∧ tT K G c σ2 H2 fun b H3 => if b = true then body σ2 H3 Nx else Nx H3) := by
  -- between two turns
  let M : Nat → Hp → Prop := fun i H => ∃ Hf fps ρ acc, Go Hf0 fps0 H0 Hf fps H ∧ Ex Hf1 Hf ∧ SR K Hf fps σ H ρ ∧ AccAt K Hf fps H D acc ∧ acc.length ≤ base + mx * i ∧ (∀ j ∈ vs, ρ[j]? = ρ1[j]?) ∧ compGo ρ1 vs (asgT tg) (evT G c) fe (ds.drop i) acc ρ = some (acc2, ρ2)
  refine ⟨fun i m H => m = ds.length - i ∧ i ≤ ds.length ∧ M i H, ⟨_, rfl, Nat.zero_le _, Hf1, fps1, ρ1, acc1, g1, .refl _, S1, a1, by omega, fun _ _ => rfl, e⟩, ?_⟩
  rintro i m H ⟨rfl, hi, Hf, fps, ρ, acc, g, ex, S, ac, hle, hs, ee⟩
  have exH : Ex Hf1 H := ex.trans S.ex
  by_cases hlt : i < ds.length
  · refine .inr ⟨hJ.go i H exH hlt, M (i + 1), fun H' h => ⟨_, by omega, rfl, hlt, h⟩, fun x H' hy => ?_⟩
    obtain ⟨d, hd, raw⟩ := hJ.yld i H x H' exH hlt hy
    have hdr : ds.drop i = d :: ds.drop (i + 1) := by
      rw [List.drop_eq_getElem_cons hlt]
      congr 1
      rw [List.getElem?_eq_getElem hlt] at hd
      exact Option.some.inj hd
    rw [hdr] at ee
    obtain ⟨ρa, e1, ee⟩ := Option.bind_eq_some_iff.mp (show ((asgT tg d (wipeR ρ vs)).bind fun ρa => (evT G c ρa).bind fun p => if p.1 = true then (fe acc p.2).bind fun p3 => compGo ρ1 vs (asgT tg) (evT G c) fe (ds.drop (i + 1)) p3.1 (backR ρ1 p3.2 vs) else compGo ρ1 vs (asgT tg) (evT G c) fe (ds.drop (i + 1)) acc (backR ρ1 p.2 vs)) = some (acc2, ρ2) from ee)
    obtain ⟨⟨b, ρb⟩, e2, ee⟩ := Option.bind_eq_some_iff.mp ee
    have raw' : Raw K Hf H (.val d) x H' := by
      cases raw with
      | val h => exact .val (Dq.mono ex _ _ h)
      | tup hp h => exact .tup hp (DqAll.mono ex _ _ h)
    obtain ⟨Hf', g', S', a'⟩ := Raw.fin S g raw'
    obtain ⟨Hf'', gs, S'', a''⟩ := Raw.fin S Go.refl raw'
    -- the same state, told from this turn's beginning
    have hfr : freeR ρ vs = true := by
      refine List.all_eq_true.mpr fun j hj => ?_
      have q := List.all_eq_true.mp hfree j hj
      rw [List.getD_eq_getElem?_getD] at q ⊢
      rw [hs j hj]; exact q
    have ac' := ac.go gs
    have gg : Go Hf0 fps0 H0 Hf'' fps H' := g.trans gs
    have Sw := S''.wipe (vs := vs) hfr
    have dx : Dq K Hf'' x d := a''
    refine asg_tg Sw dx e1 fun fpsa σa ga Sa wa => ?_
    have w1 : L2.wipe σa vs = L2.wipe σ vs := by
      rw [wa vs htg]
      apply List.ext_getElem?
      intro j
      rw [wipe_get, wipe_get]
      by_cases hj : j ∈ vs
      · rw [if_pos hj, if_pos hj, Option.map_map]; rfl
      · rw [if_neg hj, if_neg hj]
    refine ⟨w1, Hf'', fpsa, ρa, b, ρb, Sa, e2, fun Hfb fpsb Hb gb Sb => ?_⟩
    have gB : Go Hf0 fps0 H0 Hfb fpsb Hb := (gg.trans ga).trans gb
    have exB : Ex Hf1 Hfb := ((ex.trans gs.fz).trans ga.fz).trans gb.fz
    have acB := (ac'.go ga).go gb
    -- a turn's end
    have last : ∀ {Hfc Hc : Hp} {fpsc : Fps} {ρc : Rho} {accc : List PyData}, Go Hf0 fps0 H0 Hfc fpsc Hc → Ex Hf1 Hfc → SR K Hfc fpsc σa Hc ρc → AccAt K Hfc fpsc Hc D accc → accc.length ≤ acc.length + mx →
        compGo ρ1 vs (asgT tg) (evT G c) fe (ds.drop (i + 1)) accc (backR ρ1 ρc vs) = some (acc2, ρ2) → M (i + 1) Hc := fun {Hfc Hc fpsc ρc accc} gc xc Sc cc cl er => by
      have Sk := SR.back S1 xc hfree Sc w1
      have hl : ρ1.length = ρc.length := by
        have q1 := congrArg List.length w1
        rw [wipe_length, wipe_length] at q1
        rw [← S1.len, ← Sc.len, q1]
      refine ⟨Hfc, _, backR ρ1 ρc vs, accc, gc.less fun j a ha => ?_, xc, Sk, ?_, by rw [Nat.mul_add]; omega, fun j hj => ?_, er⟩
      · have ha : a ∈ (if j ∈ vs then [] else fpsc j) := ha
        by_cases hj : j ∈ vs
        · rw [if_pos hj] at ha; simp at ha
        · rw [if_neg hj] at ha; exact ha
      · obtain ⟨xs, q1, q2, q3, q4⟩ := cc
        refine ⟨xs, q1, q2, q3, fun j ha => ?_⟩
        have ha : D ∈ (if j ∈ vs then [] else fpsc j) := ha
        by_cases hj : j ∈ vs
        · rw [if_pos hj] at ha; simp at ha
        · rw [if_neg hj] at ha; exact q4 j ha
      · rw [backR_get hl, if_pos hj]
    have hroom : acc.length + mx ≤ base + mx * ds.length := by
      have h1 : mx * (i + 1) ≤ mx * ds.length := Nat.mul_le_mul_left _ hlt
      rw [Nat.mul_add] at h1
      omega
    cases b with
    | true =>
      have ee : ((fe acc ρb).bind fun p3 => compGo ρ1 vs (asgT tg) (evT G c) fe (ds.drop (i + 1)) p3.1 (backR ρ1 p3.2 vs)) = some (acc2, ρ2) := ee
      show (if true = true then body σa Hb (M (i + 1)) else M (i + 1) Hb)
      rw [if_pos rfl]
      obtain ⟨⟨acc', ρc⟩, e3, ee⟩ := Option.bind_eq_some_iff.mp ee
      exact hbody Hfb fpsb σa Hb ρb acc acc' ρc _ hroom gB Sb acB e3 fun Hfc fpsc Hc gc xc Sc cc => last gc (exB.trans xc) Sc cc (hgr _ _ _ _ e3) ee
    | false =>
      have ee : compGo ρ1 vs (asgT tg) (evT G c) fe (ds.drop (i + 1)) acc (backR ρ1 ρb vs) = some (acc2, ρ2) := ee
      show (if false = true then body σa Hb (M (i + 1)) else M (i + 1) Hb)
      rw [if_neg Bool.false_ne_true]
      exact last gB exB Sb acB (by omega) ee
  · have hi' : i = ds.length := by omega
    refine .inl ⟨hJ.stop i H exH hi', ?_⟩
    rw [hi', List.drop_length] at ee
    cases (show some (acc, ρ) = some (acc2, ρ2) from ee)
    exact hfin Hf fps H g ex S ac
end Cor
set_option Elab.async false
set_option linter.all false
set_option maxRecDepth 100000
set_option maxHeartbeats 4000000
/-! Core 4e: what is walked, comprehensions, built-in calls, displays, calls of defs. -/
namespace Cor
open PySem PySem.Spec PyProof.Rows L2
open Evl (Ex ex_l ex_t)

/-! ### what is walked -/
theorem TI_weak {X : Cx} {tg e : Expr} {t t' : TI} (h : PI X tg e t) (i : ∀ σ H R, t' σ H R → t σ H R) : PI X tg e t' := ⟨fun pins s σ H R I q => h.run pins s σ H R I (i _ _ _ q)⟩
section
variable {K : PySem.W.Frag} {Hf : Hp} {ds : List PyData} {a : Addr} {xs : List V}
theorem lt_get {α : Type} {l : List α} {i : Nat} (h : i < l.length) : ∃ x, l[i]? = some x := ⟨l[i], List.getElem?_eq_getElem h⟩
theorem it_list (hr : SqL K Hf a xs) (hd : DqAll K Hf xs ds) : ItOk K Hf ds (Itl K a) where
  go := fun i H ex hi => by
    obtain ⟨x, hx⟩ := lt_get (l := xs) (i := i) (by rw [hd.length]; exact hi)
    exact ⟨xs, x, ex_l ex hr, hx⟩
  stop := fun i H ex hi => ⟨xs, ex_l ex hr, by rw [hd.length]; omega⟩
  yld := fun i H x H' ex hi ⟨e, q⟩ => by
    subst e
    obtain ⟨d, h1, h2⟩ := hd.getV (q xs (ex_l ex hr))
    exact ⟨d, h1, .val h2⟩
theorem it_tup (hr : SqT K Hf a xs) (hd : DqAll K Hf xs ds) : ItOk K Hf ds (Itt K a) where
  go := fun i H ex hi => by
    obtain ⟨x, hx⟩ := lt_get (l := xs) (i := i) (by rw [hd.length]; exact hi)
    exact ⟨xs, x, ex_t ex hr, hx⟩
  stop := fun i H ex hi => ⟨xs, ex_t ex hr, by rw [hd.length]; omega⟩
  yld := fun i H x H' ex hi ⟨e, q⟩ => by
    subst e
    obtain ⟨d, h1, h2⟩ := hd.getV (q xs (ex_t ex hr))
    exact ⟨d, h1, .val h2⟩
theorem rngD_len (a b : Int) : (rngD a b).length = (b - a).toNat := by simp [rngD]
theorem it_rng (lo hi : Int) : ItOk K Hf (rngD lo hi) (Itr lo (hi - lo).toNat) where
  go := fun i H ex h => by rw [rngD_len] at h; exact h
  stop := fun i H ex h => by rw [rngD_len] at h; exact Nat.le_of_eq h.symm
  yld := fun i H x H' ex h ⟨e, q⟩ => by
    subst e
    subst q
    rw [rngD_len] at h
    refine ⟨.int (lo + (i : Nat)), ?_, .val (.int _)⟩
    unfold rngD
    rw [List.getElem?_map, List.getElem?_range h]; rfl
theorem enuD_get {ds : List PyData} {i : Nat} {d : PyData} (h : ds[i]? = some d) : (enuD ds)[i]? = some (.tuple [.int (i : Nat), d]) := by
  unfold enuD
  rw [List.getElem?_map, List.getElem?_zipIdx, h]
  simp
theorem enuD_len (ds : List PyData) : (enuD ds).length = ds.length := by simp [enuD]
theorem it_enu (hr : SqL K Hf a xs) (hd : DqAll K Hf xs ds) : ItOk K Hf (enuD ds) (Ite K a) where
  go := fun i H ex hi => by
    rw [enuD_len] at hi
    obtain ⟨x, hx⟩ := lt_get (l := xs) (i := i) (by rw [hd.length]; exact hi)
    exact ⟨xs, x, ex_l ex hr, hx⟩
  stop := fun i H ex hi => ⟨xs, ex_l ex hr, by rw [enuD_len] at hi; rw [hd.length]; omega⟩
  yld := fun i H v H' ex hi ⟨T, x, e, hn, e', q⟩ => by
    subst e
    subst e'
    obtain ⟨d, h1, h2⟩ := hd.getV (q xs (ex_l ex hr))
    exact ⟨_, enuD_get h1, .tup hn (.cons (.int _) (.cons h2 .nil))⟩
theorem it_enuT (hr : SqT K Hf a xs) (hd : DqAll K Hf xs ds) : ItOk K Hf (enuD ds) (Iteu K a) where
  go := fun i H ex hi => by
    rw [enuD_len] at hi
    obtain ⟨x, hx⟩ := lt_get (l := xs) (i := i) (by rw [hd.length]; exact hi)
    exact ⟨xs, x, ex_t ex hr, hx⟩
  stop := fun i H ex hi => ⟨xs, ex_t ex hr, by rw [enuD_len] at hi; rw [hd.length]; omega⟩
  yld := fun i H v H' ex hi ⟨T, x, e, hn, e', q⟩ => by
    subst e
    subst e'
    obtain ⟨d, h1, h2⟩ := hd.getV (q xs (ex_t ex hr))
    exact ⟨_, enuD_get h1, .tup hn (.cons (.int _) (.cons h2 .nil))⟩
theorem zipD_get {ds es : List PyData} {i : Nat} {d e : PyData} (h : ds[i]? = some d) (g : es[i]? = some e) : (zipD ds es)[i]? = some (.tuple [d, e]) := by
  unfold zipD
  rw [List.getElem?_map, (List.getElem?_zip_eq_some (z := (d, e))).mpr ⟨h, g⟩]; rfl
theorem zipD_len (ds es : List PyData) : (zipD ds es).length = min ds.length es.length := by simp [zipD]
theorem it_zip {b : Addr} {ys : List V} {es : List PyData} (hr : SqL K Hf a xs) (hd : DqAll K Hf xs ds) (hr2 : SqL K Hf b ys) (hd2 : DqAll K Hf ys es) : ItOk K Hf (zipD ds es) (Itz K a b) where
  go := fun i H ex hi => by
    rw [zipD_len] at hi
    obtain ⟨x, hx⟩ := lt_get (l := xs) (i := i) (by rw [hd.length]; omega)
    obtain ⟨y, hy⟩ := lt_get (l := ys) (i := i) (by rw [hd2.length]; omega)
    exact ⟨xs, ys, x, y, ex_l ex hr, ex_l ex hr2, hx, hy⟩
  stop := fun i H ex hi => ⟨xs, ys, ex_l ex hr, ex_l ex hr2, by rw [zipD_len] at hi; rw [hd.length, hd2.length]; omega⟩
  yld := fun i H v H' ex hi ⟨T, x, y, e, hn, e', q, q2⟩ => by
    subst e
    subst e'
    obtain ⟨d, h1, h2⟩ := hd.getV (q xs (ex_l ex hr))
    obtain ⟨d2, h3, h4⟩ := hd2.getV (q2 ys (ex_l ex hr2))
    exact ⟨_, zipD_get h1 h3, .tup hn (.cons h2 (.cons h4 .nil))⟩
theorem it_zipT {b : Addr} {ys : List V} {es : List PyData} (hr : SqT K Hf a xs) (hd : DqAll K Hf xs ds) (hr2 : SqT K Hf b ys) (hd2 : DqAll K Hf ys es) : ItOk K Hf (zipD ds es) (RZ.ItzT K a b) where
  go := fun i H ex hi => by
    rw [zipD_len] at hi
    obtain ⟨x, hx⟩ := lt_get (l := xs) (i := i) (by rw [hd.length]; omega)
    obtain ⟨y, hy⟩ := lt_get (l := ys) (i := i) (by rw [hd2.length]; omega)
    exact ⟨xs, ys, x, y, ex_t ex hr, ex_t ex hr2, hx, hy⟩
  stop := fun i H ex hi => ⟨xs, ys, ex_t ex hr, ex_t ex hr2, by rw [zipD_len] at hi; rw [hd.length, hd2.length]; omega⟩
  yld := fun i H v H' ex hi ⟨T, x, y, e, hn, e', q, q2⟩ => by
    subst e
    subst e'
    obtain ⟨d, h1, h2⟩ := hd.getV (q xs (ex_t ex hr))
    obtain ⟨d2, h3, h4⟩ := hd2.getV (q2 ys (ex_t ex hr2))
    exact ⟨_, zipD_get h1 h3, .tup hn (.cons h2 (.cons h4 .nil))⟩
theorem it_str (z : Str) : ItOk K Hf (z.cps.toList.map fun c => PyData.str ⟨#[c]⟩) (Its z) where
  go := fun i H ex hi => by
    have hi' : i < z.cps.size := by simpa using hi
    exact hi'
  stop := fun i H ex hi => by
    rw [List.length_map, Array.length_toList] at hi
    show z.cps.size ≤ i
    omega
  yld := fun i H x H' ex hi ⟨e, c, hc, q⟩ => by
    subst e
    subst q
    refine ⟨.str ⟨#[c]⟩, ?_, .val (.str _)⟩
    rw [List.getElem?_map, Array.getElem?_toList, hc]; rfl
theorem ItOk.mono {Hf' : Hp} {J : It} (h : ItOk K Hf ds J) (e : Ex Hf Hf') : ItOk K Hf' ds J where
  go := fun i H ex hi => h.go i H (e.trans ex) hi
  stop := fun i H ex hi => h.stop i H (e.trans ex) hi
  yld := fun i H x H' ex hi hy => by
    obtain ⟨d, h1, h2⟩ := h.yld i H x H' (e.trans ex) hi hy
    refine ⟨d, h1, ?_⟩
    cases h2 with
    | val h => exact .val (Dq.mono e _ _ h)
    | tup hp h => exact .tup hp (DqAll.mono e _ _ h)
end

section
variable {X : Cx} {G : List Fn} {ea eb tg : Expr} {ca cb : CE}
/-- a list or a tuple, walked -/
def iSeq (K : PySem.W.Frag) (tl : TE) : TI := fun σ H R => tl σ H fun x H1 => ∃ a xs, x = .ref a ∧ ((SqL K H1 a xs ∧ R (Itl K a) H1) ∨ (SqT K H1 a xs ∧ R (Itt K a) H1))
theorem pi_seq {l : Expr} {tl : TE} (hl : PE X l tl) : PI X tg l (iSeq X.K tl) := by
  refine ⟨fun pins s σ H R I h => ?_⟩
  refine thn (hl.run pins s σ H _ I h) fun v s1 ⟨x, H1, I1, r1, q1⟩ => ?_
  obtain ⟨a, xs, rfl, q⟩ := q1
  cases r1
  have fr : ∀ b ∈ [s1.heap.objs.size], FpOk X pins H1 b := fun b hb => by
    cases List.mem_singleton.mp hb
    exact I1.fpOk (Nat.le_refl _) (I1.hok.fresh (Nat.le_refl _))
  rcases q with ⟨hq, q⟩ | ⟨hq, q⟩
  · obtain ⟨its, rv, p, hz⟩ := I1.list hq
    exact wpAny_pyIter_list p.isList ⟨_, [s1.heap.objs.size], _, _, H1, rfl, I1.kept (t' := s1.toks) fun b o e => Heap.get?_push_of_some _ e, turn_list a _, ⟨_, Heap.get?_push_size _ rfl, rfl, rfl⟩, fr, q⟩
  · obtain ⟨its, rv, p, hz⟩ := I1.tuple hq
    exact wpAny_pyIter_tuple (show s1.heap.IsTuple a its.toArray from p) ⟨_, [s1.heap.objs.size], _, _, H1, rfl, I1.kept (t' := s1.toks) fun b o e => Heap.get?_push_of_some _ e, turn_tuple a _, ⟨_, Heap.get?_push_size _ rfl, rfl, rfl⟩, fr, q⟩
def iEnuA (K : PySem.W.Frag) (ta : TA) : TI := fun σ H R => ta σ H fun vs H1 => ∃ a xs, vs = [.ref a] ∧ ((SqL K H1 a xs ∧ R (Ite K a) H1) ∨ (SqT K H1 a xs ∧ R (Iteu K a) H1))
theorem pi_enuA {e : Expr} {ta : TA} {p pos tpos : Pos} {elts : List Expr} {kk : Nat} (hg : Gl X "enumerate") (hm : X.mg "enumerate" = none) (ha : PA X [e] ta) (hs : starEach [e] X.env = [(false, eval e X.env)]) :
    PI X (.Tuple elts kk tpos) (.Call (.Name "enumerate" p) [e] [] pos) (iEnuA X.K ta) := by
  refine ⟨fun pins s σ H R I h => ?_⟩
  refine Call_ (ld_blt I hg hm boot_enumerate (PyProof.Rows.callWith_type1 (thn (ha.run pos pins s σ H _ I h) fun us s1 ⟨vs, H1, I1, r1, q1⟩ => ?_) hs rfl))
  obtain ⟨a, xs, rfl, q⟩ := q1
  cases r1 with
  | cons r rr =>
    cases rr
    cases r
    have fr : ∀ b ∈ [s1.heap.objs.size + 1, s1.heap.objs.size], FpOk X pins H1 b := fun b hb => by
      have hle : s1.heap.objs.size ≤ b := by
        simp only [List.mem_cons, List.not_mem_nil, or_false] at hb
        rcases hb with rfl | rfl <;> omega
      exact I1.fpOk hle (I1.hok.fresh hle)
    rcases q with ⟨hq, q⟩ | ⟨hq, q⟩
    · obtain ⟨its, rv, p', hz⟩ := I1.list hq
      refine call_enumerate_list p'.isList fun h' he hit hsz hk => wpAny_pyIter_enum he ?_
      have I2 : L2.Inv X pins σ H1 { s1 with heap := h' } := I1.kept (t' := s1.toks) hk
      exact ⟨_, _, _, _, H1, rfl, I2, turn_enum a (s1.heap.objs.size + 1) s1.heap.objs.size, ⟨⟨.none, he⟩, hit, Nat.succ_ne_self _⟩, fr, q⟩
    · obtain ⟨its, rv, p', hz⟩ := I1.tuple hq
      obtain ⟨ob, hob, _⟩ := id p'
      have la : a < s1.heap.objs.size := Heap.lt_size hob
      refine call_enum1B (begins_tuple a its.toArray) (show s1.heap.IsTuple a its.toArray from p') fun h' he hit hk => wpAny_pyIter_enum he ?_
      have I2 : L2.Inv X pins σ H1 { s1 with heap := h' } := I1.kept (t' := s1.toks) hk
      exact ⟨_, _, _, _, H1, rfl, I2, turn_enumU a (s1.heap.objs.size + 1) s1.heap.objs.size its.toArray, ⟨⟨.none, he⟩, ⟨_, hit, rfl, rfl⟩, Nat.succ_ne_self _, Nat.ne_of_lt la, Nat.ne_of_lt (Nat.lt_succ_of_lt la)⟩, fr, q⟩

/-! ### what the evaluator says of what is walked -/
theorem gi_seq (ha : PE X ea (tR X.K G ca)) : PI X tg ea (tI X.K G (.seq ca)) :=
  TI_weak (pi_seq ha) fun σ H R ⟨Hf, fps, ρ, ds, ρ', S, ee, q⟩ => by
    obtain ⟨⟨x, ρ1⟩, e1, ee⟩ := Option.bind_eq_some_iff.mp (show ((ev G ca ρ).bind fun p => (frz p.2 p.1).bind fun p2 => match p2.1 with | .list ds => some (ds, p2.2) | .tuple ds => some (ds, p2.2) | _ => none) = some (ds, ρ') from ee)
    obtain ⟨⟨d, ρ2⟩, e2, ee⟩ := Option.bind_eq_some_iff.mp ee
    refine ⟨Hf, fps, ρ, x, ρ1, S, e1, fun Hf1 fps1 H1 v g1 S1 a1 => ?_⟩
    obtain ⟨Hf2, fps2, g2, S2, d2⟩ := S1.frz g1 a1 e2
    dsimp only at ee
    split at ee
    · cases ee
      cases d2 with
      | lst hr hd => exact ⟨_, _, rfl, .inl ⟨ex_l S2.ex hr, q Hf2 fps2 H1 _ g2 S2 (it_list hr hd)⟩⟩
    · cases ee
      cases d2 with
      | tup hr hd => exact ⟨_, _, rfl, .inr ⟨ex_t S2.ex hr, q Hf2 fps2 H1 _ g2 S2 (it_tup hr hd)⟩⟩
    · cases ee
theorem gi_str (ha : PE X ea (tR X.K G ca)) : PI X tg ea (tI X.K G (.str ca)) :=
  TI_weak (pi_str ha) fun σ H R ⟨Hf, fps, ρ, ds, ρ', S, ee, q⟩ => by
    obtain ⟨⟨x, ρ1⟩, e1, ee⟩ := Option.bind_eq_some_iff.mp (show ((ev G ca ρ).bind fun p => match p.1 with | .val (.str z) => some (z.cps.toList.map fun c => PyData.str ⟨#[c]⟩, p.2) | _ => none) = some (ds, ρ') from ee)
    refine ⟨Hf, fps, ρ, x, ρ1, S, e1, fun Hf1 fps1 H1 v g1 S1 a1 => ?_⟩
    dsimp only at ee
    split at ee
    · cases ee
      have a1' : Dq X.K Hf1 v (.str _) := a1
      cases a1'
      exact ⟨_, rfl, q Hf1 fps1 H1 _ g1 S1 (it_str _)⟩
    · cases ee
theorem a1_int {K : PySem.W.Frag} {H0 Hf H : Hp} {fps : Fps} {σ : L2.St} {v : V} {i : Int} (h : AR K H0 Hf fps H σ (.val (.int i)) v) : v = .int i := by
  have h' : Dq K Hf v (.int i) := h
  cases h'; rfl
theorem ga_one (ha : PE X ea (tR X.K G ca)) (hs : ∀ x p, ea ≠ .Starred x p) : PA X [ea] (tQ X.K G (.cons false ca .nil)) := gq_cons ha gq_nil hs
theorem gi_rng1 {p pos : Pos} (hg : Gl X "range") (hm : X.mg "range" = none) (ha : PE X ea (tR X.K G ca)) (hs : ∀ x p, ea ≠ .Starred x p) : PI X tg (.Call (.Name "range" p) [ea] [] pos) (tI X.K G (.rng1 ca)) :=
  TI_weak (pi_range1 hg hm (pa_cons ha pa_nil (star_no hs)) (star_no hs)) fun σ H R ⟨Hf, fps, ρ, ds, ρ', S, ee, q⟩ => by
    obtain ⟨⟨x, ρ1⟩, e1, ee⟩ := Option.bind_eq_some_iff.mp (show ((ev G ca ρ).bind fun p => match p.1 with | .val (.int j) => if -100000 < j ∧ j < 100000 then some (rngD 0 j, p.2) else none | _ => none) = some (ds, ρ') from ee)
    refine ⟨Hf, fps, ρ, x, ρ1, S, e1, fun Hf1 fps1 H1 v g1 S1 a1 => ?_⟩
    dsimp only at ee
    split at ee
    · split at ee
      · rename_i j hj
        cases ee
        cases a1_int a1
        refine ⟨j, rfl, by omega, by omega, ?_⟩
        exact q Hf1 fps1 H1 (Itr 0 j.toNat) g1 S1 (by have := it_rng (K := X.K) (Hf := Hf1) 0 j; simpa using this)
      · cases ee
    · cases ee
theorem gi_rng2 {p pos : Pos} (hg : Gl X "range") (hm : X.mg "range" = none) (ha : PE X ea (tR X.K G ca)) (hb : PE X eb (tR X.K G cb)) (hs : ∀ x p, ea ≠ .Starred x p) (hs2 : ∀ x p, eb ≠ .Starred x p) :
    PI X tg (.Call (.Name "range" p) [ea, eb] [] pos) (tI X.K G (.rng2 ca cb)) :=
  TI_weak (pi_range2 hg hm (pa_cons ha (pa_cons hb pa_nil (star_no hs2)) (star_no hs)) (by rw [star_no hs, star_no hs2]; rfl) (star_no hs2)) fun σ H R ⟨Hf, fps, ρ, ds, ρ', S, ee, q⟩ => by
    obtain ⟨⟨x, ρ1⟩, e1, ee⟩ := Option.bind_eq_some_iff.mp (show ((ev G ca ρ).bind fun p => (ev G cb p.2).bind fun p2 => match p.1, p2.1 with | .val (.int i), .val (.int j) => if -100000 < i ∧ i < 100000 ∧ -100000 < j ∧ j < 100000 then some (rngD i j, p2.2) else none | _, _ => none) = some (ds, ρ') from ee)
    obtain ⟨⟨y, ρ2⟩, e2, ee⟩ := Option.bind_eq_some_iff.mp ee
    refine ⟨Hf, fps, ρ, x, ρ1, S, e1, fun Hf1 fps1 H1 v g1 S1 a1 => ⟨Hf1, fps1, ρ1, y, ρ2, S1, e2, fun Hf2 fps2 H2 w g2 S2 a2 => ?_⟩⟩
    dsimp only at ee
    split at ee
    · split at ee
      · cases ee
        cases a1_int a1
        cases a1_int a2
        exact ⟨_, _, rfl, ⟨by omega, by omega, by omega, by omega⟩, q Hf2 fps2 H2 _ (g1.trans g2) S2 (it_rng _ _)⟩
      · cases ee
    · cases ee
theorem gi_enu {p pos tpos : Pos} {elts : List Expr} {kk : Nat} (hg : Gl X "enumerate") (hm : X.mg "enumerate" = none) (ha : PE X ea (tR X.K G ca)) (hs : ∀ x p, ea ≠ .Starred x p) :
    PI X (.Tuple elts kk tpos) (.Call (.Name "enumerate" p) [ea] [] pos) (tI X.K G (.enu ca)) :=
  TI_weak (pi_enuA hg hm (pa_cons ha pa_nil (star_no hs)) (star_no hs)) fun σ H R ⟨Hf, fps, ρ, ds, ρ', S, ee, q⟩ => by
    obtain ⟨⟨x, ρ1⟩, e1, ee⟩ := Option.bind_eq_some_iff.mp (show ((ev G ca ρ).bind fun p => (frz p.2 p.1).bind fun p2 => match p2.1 with | .list ds => some (enuD ds, p2.2) | .tuple ds => some (enuD ds, p2.2) | _ => none) = some (ds, ρ') from ee)
    obtain ⟨⟨d, ρ2⟩, e2, ee⟩ := Option.bind_eq_some_iff.mp ee
    refine ⟨Hf, fps, ρ, x, ρ1, S, e1, fun Hf1 fps1 H1 v g1 S1 a1 => ?_⟩
    obtain ⟨Hf2, fps2, g2, S2, d2⟩ := S1.frz g1 a1 e2
    dsimp only at ee
    split at ee
    · cases ee
      cases d2 with
      | lst hr hd => exact ⟨_, _, rfl, .inl ⟨ex_l S2.ex hr, q Hf2 fps2 H1 _ g2 S2 (it_enu hr hd)⟩⟩
    · cases ee
      cases d2 with
      | tup hr hd => exact ⟨_, _, rfl, .inr ⟨ex_t S2.ex hr, q Hf2 fps2 H1 _ g2 S2 (it_enuT hr hd)⟩⟩
    · cases ee
theorem gi_zip {p pos tpos : Pos} {elts : List Expr} {kk : Nat} (hg : Gl X "zip") (hm : X.mg "zip" = none) (ha : PE X ea (tR X.K G ca)) (hb : PE X eb (tR X.K G cb)) (hs : ∀ x p, ea ≠ .Starred x p) (hs2 : ∀ x p, eb ≠ .Starred x p) :
    PI X (.Tuple elts kk tpos) (.Call (.Name "zip" p) [ea, eb] [] pos) (tI X.K G (.zip ca cb)) :=
  TI_weak (RZ.pi_zipA hg hm (pa_cons ha (pa_cons hb pa_nil (star_no hs2)) (star_no hs)) (star_no hs) (by rw [star_no hs2]; rfl)) fun σ H R ⟨Hf, fps, ρ, ds, ρ', S, ee, q⟩ => by
    obtain ⟨⟨x, ρ1⟩, e1, ee⟩ := Option.bind_eq_some_iff.mp (show ((ev G ca ρ).bind fun p => (frz p.2 p.1).bind fun p2 => (ev G cb p2.2).bind fun p3 => (frz p3.2 p3.1).bind fun p4 => match p2.1, p4.1 with | .list ds, .list es => some (zipD ds es, p4.2) | .tuple ds, .tuple es => some (zipD ds es, p4.2) | _, _ => none) = some (ds, ρ') from ee)
    obtain ⟨⟨d, ρ2⟩, e2, ee⟩ := Option.bind_eq_some_iff.mp ee
    obtain ⟨⟨y, ρ3⟩, e3, ee⟩ := Option.bind_eq_some_iff.mp ee
    obtain ⟨⟨d', ρ4⟩, e4, ee⟩ := Option.bind_eq_some_iff.mp ee
    refine ⟨Hf, fps, ρ, x, ρ1, S, e1, fun Hf1 fps1 H1 v g1 S1 a1 => ?_⟩
    obtain ⟨Hf2, fps2, g2, S2, d2⟩ := S1.frz g1 a1 e2
    refine ⟨Hf2, fps2, ρ2, y, ρ3, S2, e3, fun Hf3 fps3 H3 w g3 S3 a3 => ?_⟩
    obtain ⟨Hf4, fps4, g4, S4, d4⟩ := S3.frz g3 a3 e4
    dsimp only at ee
    split at ee
    · cases ee
      have d2' := Dq.mono g4.fz _ _ d2
      cases d2' with
      | lst hr hd =>
        cases d4 with
        | lst hr' hd' => exact ⟨_, _, _, _, rfl, .inl ⟨ex_l S4.ex hr, ex_l S4.ex hr', q Hf4 fps4 H3 _ (g2.trans g4) S4 (it_zip hr hd hr' hd')⟩⟩
    · cases ee
      have d2' := Dq.mono g4.fz _ _ d2
      cases d2' with
      | tup hr hd =>
        cases d4 with
        | tup hr' hd' => exact ⟨_, _, _, _, rfl, .inr ⟨ex_t S4.ex hr, ex_t S4.ex hr', q Hf4 fps4 H3 _ (g2.trans g4) S4 (it_zipT hr hd hr' hd')⟩⟩
    · cases ee
end
end Cor
set_option Elab.async false
set_option linter.all false
set_option maxRecDepth 100000
set_option maxHeartbeats 4000000
/-! Core 4f: comprehensions. -/
namespace Cor
open PySem PySem.Spec PyProof.Rows L2
open Evl (Ex ex_l ex_t)

/-- an element more -/
def eltF (G : List Fn) (elt : CE) (acc : List PyData) (ρ : Rho) : Option (List PyData × Rho) := (ev G elt ρ).bind fun p => (frz p.2 p.1).bind fun p2 => some (acc ++ [p2.1], p2.2)
theorem eltF_len {G : List Fn} {elt : CE} {acc acc' : List PyData} {ρ ρ' : Rho} (h : eltF G elt acc ρ = some (acc', ρ')) : acc'.length ≤ acc.length + 1 := by
  obtain ⟨p, _, h⟩ := Option.bind_eq_some_iff.mp h
  obtain ⟨p2, _, h⟩ := Option.bind_eq_some_iff.mp h
  cases h
  simp
def bodE (K : PySem.W.Frag) (G : List Fn) (elt : CE) (D : Addr) : L2.St → Hp → (Hp → Prop) → Prop := fun σ H Nx => tR K G elt σ H fun y H4 => ∃ acc, H4 D = some (.lst acc) ∧ acc.length < sizeLine ∧ Nx (upd H4 D (.lst (acc ++ [y])))
theorem bod_elt {K : PySem.W.Frag} {G : List Fn} {elt : CE} {D : Addr} {Hf0 H0 : Hp} {fps0 : Fps} (hD : H0 D = none) {Hf : Hp} {fps : Fps} {σ : L2.St} {H : Hp} {ρ : Rho} {acc acc' : List PyData} {ρ' : Rho} {Nx : Hp → Prop} (hl : acc.length + 1 ≤ 100000)
    (g : Go Hf0 fps0 H0 Hf fps H) (S : SR K Hf fps σ H ρ) (a : AccAt K Hf fps H D acc) (e : eltF G elt acc ρ = some (acc', ρ')) (q : ∀ Hf' fps' H', Go Hf0 fps0 H0 Hf' fps' H' → Ex Hf Hf' → SR K Hf' fps' σ H' ρ' → AccAt K Hf' fps' H' D acc' → Nx H') : bodE K G elt D σ H Nx := by
  obtain ⟨⟨x, ρ1⟩, e1, e⟩ := Option.bind_eq_some_iff.mp e
  obtain ⟨⟨d, ρ2⟩, e2, e⟩ := Option.bind_eq_some_iff.mp e
  cases e
  refine ⟨Hf, fps, ρ, x, ρ1, S, e1, fun Hf1 fps1 H1 v g1 S1 a1 => ?_⟩
  obtain ⟨Hf2, fps2, g2, S2, d2⟩ := S1.frz g1 a1 e2
  obtain ⟨xs, h1, h2, h3, h4⟩ := a.go g2
  refine ⟨xs, h1, by rw [h2.length]; exact Nat.lt_of_lt_of_le (Nat.lt_of_lt_of_le (Nat.lt_succ_self _) hl) (le_line (Nat.le_refl _)), ?_⟩
  exact q Hf2 fps2 _ ((g.trans g2).other hD) g2.fz (S2.other h3 h4) ⟨xs ++ [v], upd_same, h2.append (.cons d2 .nil), h3, h4⟩
theorem go_len {ρ0 : Rho} {vs : List Nat} {asg : PyData → Rho → Option Rho} {fc : Rho → Option (Bool × Rho)} {fe : List PyData → Rho → Option (List PyData × Rho)} {mx : Nat} (hgr : ∀ acc ρ acc' ρ', fe acc ρ = some (acc', ρ') → acc'.length ≤ acc.length + mx) :
    ∀ (ds acc : List PyData) (ρ : Rho) (acc' : List PyData) (ρ' : Rho), compGo ρ0 vs asg fc fe ds acc ρ = some (acc', ρ') → acc'.length ≤ acc.length + mx * ds.length
  | [], acc, ρ, acc', ρ', h => by
    cases (show some (acc, ρ) = some (acc', ρ') from h)
    simp
  | d :: r, acc, ρ, acc', ρ', h => by
    obtain ⟨ρa, _, h⟩ := Option.bind_eq_some_iff.mp (show ((asg d (wipeR ρ vs)).bind fun ρa => (fc ρa).bind fun p => if p.1 = true then (fe acc p.2).bind fun p3 => compGo ρ0 vs asg fc fe r p3.1 (backR ρ0 p3.2 vs) else compGo ρ0 vs asg fc fe r acc (backR ρ0 p.2 vs)) = some (acc', ρ') from h)
    obtain ⟨⟨b, ρb⟩, _, h⟩ := Option.bind_eq_some_iff.mp h
    rw [List.length_cons, Nat.mul_add]
    dsimp only at h
    split at h
    · obtain ⟨⟨acc1, ρc⟩, e, h⟩ := Option.bind_eq_some_iff.mp h
      have h1 := go_len hgr r _ _ _ _ h
      have h2 := hgr _ _ _ _ e
      dsimp only at h1
      omega
    · have h1 := go_len hgr r _ _ _ _ h
      omega
section
variable {X : Cx} {G : List Fn} {it it2 : CI} {tg tg2 : Tg} {c c2 : CT} {elt : CE} {vs vs2 : List Nat} {σ : L2.St} {H : Hp} {Q : VK}
theorem tLc_of (htg : tgIn vs tg = true) (h : tR X.K G (.comp it tg c elt vs) σ H Q) : tLc (tI X.K G it) (gTg X.K tg) (tT X.K G c) (tR X.K G elt) vs σ H Q := by
  obtain ⟨Hf, fps, ρ, a, ρ', S, ee, q⟩ := h
  obtain ⟨⟨ds, ρ1⟩, e1, ee⟩ := Option.bind_eq_some_iff.mp (show ((evI G it ρ).bind fun p => if (freeR p.2 vs && sm p.1) = true then (compGo p.2 vs (asgT tg) (evT G c) (eltF G elt) p.1 [] p.2).bind fun p2 => some (Arg.fr (.lst p2.1), p2.2) else none) = some (a, ρ') from ee)
  dsimp only at ee
  split at ee
  · rename_i hh
    rw [Bool.and_eq_true] at hh
    obtain ⟨⟨acc, ρ2⟩, e2, ee⟩ := Option.bind_eq_some_iff.mp ee
    cases ee
    refine ⟨Hf, fps, ρ, ds, ρ1, S, e1, fun Hf1 fps1 H1 J g1 S1 hJ D hD => ?_⟩
    obtain ⟨f1, f2⟩ := S1.free hD
    have hsm : ds.length ≤ 100000 := sm_le hh.2
    exact comp_turns (Hf0 := Hf1) (fps0 := fps1) (H0 := H1) (mx := 1) (base := 0) (body := bodE X.K G elt D) hD (fun _ _ _ _ e => eltF_len e)
      (fun Hf fps σ H ρ acc acc' ρ' Nx hl g S a e q => bod_elt hD (by omega) g S a e q) hJ htg (Go.refl.grow hD) (S1.grow hD) ⟨[], upd_same, .nil, f1, f2⟩ (Nat.le_refl _) hh.1 e2
      (fun Hf' fps' H' g' ex' S' a' => by
        obtain ⟨xs, h1, h2, h3, h4⟩ := a'
        refine q Hf' fps' H' (.ref D) (g1.trans g') S' (AR.frI (fun z => nomatch z) ⟨D, xs, rfl, rfl, h1, h2⟩ fun a ha => ?_)
        cases List.mem_singleton.mp ha
        exact ⟨back_none g1 hD, h3, h4⟩)
  · cases ee
/-- the second clause -/
def innF (G : List Fn) (it2 : CI) (tg2 : Tg) (c2 : CT) (elt : CE) (vs2 : List Nat) (acc : List PyData) (ρ : Rho) : Option (List PyData × Rho) :=
  (evI G it2 ρ).bind fun p => if (freeR p.2 vs2 && decide (p.1.length ≤ 300)) = true then compGo p.2 vs2 (asgT tg2) (evT G c2) (eltF G elt) p.1 acc p.2 else none
theorem innF_len {acc acc' : List PyData} {ρ ρ' : Rho} (h : innF G it2 tg2 c2 elt vs2 acc ρ = some (acc', ρ')) : acc'.length ≤ acc.length + 300 := by
  obtain ⟨⟨es, ρ1⟩, _, h⟩ := Option.bind_eq_some_iff.mp h
  dsimp only at h
  split at h
  · rename_i hh
    rw [Bool.and_eq_true, decide_eq_true_eq] at hh
    have := go_len (mx := 1) (fun _ _ _ _ e => eltF_len e) _ _ _ _ _ h
    omega
  · cases h
def bodI (K : PySem.W.Frag) (G : List Fn) (it2 : CI) (tg2 : Tg) (c2 : CT) (elt : CE) (vs2 : List Nat) (D : Addr) : L2.St → Hp → (Hp → Prop) → Prop := fun σ2 H3 Nx => tI K G it2 σ2 H3 fun J1 H4 => ∃ W1 : Nat → Nat → Hp → Prop, (∃ m, W1 0 m H4) ∧ ∀ j k H, W1 j k H →
      (J1.stop j H ∧ Nx H) ∨ (J1.go j H ∧ ∃ Nx1 : Hp → Prop, (∀ H', Nx1 H' → ∃ k', k' < k ∧ W1 (j + 1) k' H') ∧ ∀ x H', J1.yld j H x H' → gTg K tg2 x (L2.wipe σ2 vs2) H' fun σ3 H5 => L2.wipe σ3 vs2 = L2.wipe σ2 vs2 ∧ tT K G c2 σ3 H5 fun b H6 =>
        if b = true then tR K G elt σ3 H6 fun y H7 => ∃ acc, H7 D = some (.lst acc) ∧ acc.length < sizeLine ∧ Nx1 (upd H7 D (.lst (acc ++ [y]))) else Nx1 H6)
theorem bod_inn {D : Addr} (htg2 : tgIn vs2 tg2 = true) {Hf0 H0 : Hp} {fps0 : Fps} (hD : H0 D = none) {Hf : Hp} {fps : Fps} {σ : L2.St} {H : Hp} {ρ : Rho} {acc acc' : List PyData} {ρ' : Rho} {Nx : Hp → Prop} (hl : acc.length + 300 ≤ 100000)
    (g : Go Hf0 fps0 H0 Hf fps H) (S : SR X.K Hf fps σ H ρ) (a : AccAt X.K Hf fps H D acc) (e : innF G it2 tg2 c2 elt vs2 acc ρ = some (acc', ρ')) (q : ∀ Hf' fps' H', Go Hf0 fps0 H0 Hf' fps' H' → Ex Hf Hf' → SR X.K Hf' fps' σ H' ρ' → AccAt X.K Hf' fps' H' D acc' → Nx H') : bodI X.K G it2 tg2 c2 elt vs2 D σ H Nx := by
  obtain ⟨⟨es, ρ1⟩, e1, e⟩ := Option.bind_eq_some_iff.mp e
  dsimp only at e
  split at e
  · rename_i hh
    rw [Bool.and_eq_true, decide_eq_true_eq] at hh
    refine ⟨Hf, fps, ρ, es, ρ1, S, e1, fun Hf1 fps1 H1 J g1 S1 hJ => ?_⟩
    exact comp_turns (Hf0 := Hf0) (fps0 := fps0) (H0 := H0) (mx := 1) (base := acc.length) (body := bodE X.K G elt D) hD (fun _ _ _ _ e => eltF_len e)
      (fun Hf fps σ H ρ acc acc' ρ' Nx hl g S a e q => bod_elt hD (by omega) g S a e q) hJ htg2 (g.trans g1) S1 (a.go g1) (Nat.le_refl _) hh.1 e
      (fun Hf' fps' H' g' ex' S' a' => q Hf' fps' H' g' (g1.fz.trans ex') S' a')
  · cases e
theorem tLc2_of (htg : tgIn vs tg = true) (htg2 : tgIn vs2 tg2 = true) (h : tR X.K G (.comp2 it tg c it2 tg2 c2 elt vs vs2) σ H Q) : tLc2 (tI X.K G it) (gTg X.K tg) (tT X.K G c) (tI X.K G it2) (gTg X.K tg2) (tT X.K G c2) (tR X.K G elt) vs vs2 σ H Q := by
  obtain ⟨Hf, fps, ρ, a, ρ', S, ee, q⟩ := h
  obtain ⟨⟨ds, ρ1⟩, e1, ee⟩ := Option.bind_eq_some_iff.mp (show ((evI G it ρ).bind fun p => if (freeR p.2 vs && decide (p.1.length ≤ 300)) = true then (compGo p.2 vs (asgT tg) (evT G c) (innF G it2 tg2 c2 elt vs2) p.1 [] p.2).bind fun p2 => some (Arg.fr (.lst p2.1), p2.2) else none) = some (a, ρ') from ee)
  dsimp only at ee
  split at ee
  · rename_i hh
    rw [Bool.and_eq_true, decide_eq_true_eq] at hh
    obtain ⟨⟨acc, ρ2⟩, e2, ee⟩ := Option.bind_eq_some_iff.mp ee
    cases ee
    refine ⟨Hf, fps, ρ, ds, ρ1, S, e1, fun Hf1 fps1 H1 J g1 S1 hJ D hD => ?_⟩
    obtain ⟨f1, f2⟩ := S1.free hD
    have hsm := hh.2
    exact comp_turns (Hf0 := Hf1) (fps0 := fps1) (H0 := H1) (mx := 300) (base := 0) (body := bodI X.K G it2 tg2 c2 elt vs2 D) hD (fun _ _ _ _ e => innF_len e)
      (fun Hf fps σ H ρ acc acc' ρ' Nx hl g S a e q => bod_inn htg2 hD (by omega) g S a e q) hJ htg (Go.refl.grow hD) (S1.grow hD) ⟨[], upd_same, .nil, f1, f2⟩ (Nat.le_refl _) hh.1 e2
      (fun Hf' fps' H' g' ex' S' a' => by
        obtain ⟨xs, h1, h2, h3, h4⟩ := a'
        refine q Hf' fps' H' (.ref D) (g1.trans g') S' (AR.frI (fun z => nomatch z) ⟨D, xs, rfl, rfl, h1, h2⟩ fun a ha => ?_)
        cases List.mem_singleton.mp ha
        exact ⟨back_none g1 hD, h3, h4⟩)
  · cases ee
end
theorem pts_yes {X : Cx} {G : List Fn} : PTs X [] (tT X.K G .yes) := by
  obtain ⟨r⟩ := pts_nil (X := X)
  refine ⟨fun pins s σ H Q I h => r pins s σ H Q I ?_⟩
  obtain ⟨Hf, fps, ρ, b, ρ', S, ee, q⟩ := h
  cases (show some (true, ρ) = some (b, ρ') from ee)
  exact q Hf fps H .refl S
end Cor
set_option Elab.async false
set_option linter.all false
set_option maxRecDepth 100000
set_option maxHeartbeats 4000000
/-! Core 4g: sorted(set(list of ints)). -/
namespace Cor
open PySem PySem.Spec PyProof.Rows L2
open Evl (Ex ex_l ex_t)

theorem mem_insU (i k : Int) : ∀ l : List Int, k ∈ insU i l ↔ k = i ∨ k ∈ l
  | [] => by simp [insU]
  | j :: r => by
    unfold insU
    split
    · simp
    · split
      · rename_i h; subst h; simp
      · simp only [List.mem_cons, mem_insU i k r]
        constructor
        · rintro (h | h | h)
          · exact .inr (.inl h)
          · exact .inl h
          · exact .inr (.inr h)
        · rintro (h | h | h)
          · exact .inr (.inl h)
          · exact .inl h
          · exact .inr (.inr h)
theorem insU_lt (i : Int) : ∀ l : List Int, l.Pairwise (· < ·) → (insU i l).Pairwise (· < ·)
  | [], _ => by simp [insU]
  | j :: r, h => by
    obtain ⟨h1, h2⟩ := List.pairwise_cons.mp h
    unfold insU
    split
    · rename_i hij
      refine List.pairwise_cons.mpr ⟨fun k hk => ?_, h⟩
      rcases List.mem_cons.mp hk with rfl | hk
      · exact hij
      · exact Int.lt_trans hij (h1 k hk)
    · split
      · exact h
      · refine List.pairwise_cons.mpr ⟨fun k hk => ?_, insU_lt i r h2⟩
        rcases (mem_insU i k r).mp hk with rfl | hk
        · omega
        · exact h1 k hk
theorem mem_uniq (k : Int) : ∀ l : List Int, k ∈ uniqI l ↔ k ∈ l
  | [] => by simp [uniqI]
  | j :: r => by
    show k ∈ insU j (uniqI r) ↔ _
    rw [mem_insU, mem_uniq k r, List.mem_cons]
theorem uniq_lt : ∀ l : List Int, (uniqI l).Pairwise (· < ·)
  | [] => List.Pairwise.nil
  | j :: r => insU_lt j _ (uniq_lt r)
theorem lt_ext : ∀ {l m : List Int}, l.Pairwise (· < ·) → m.Pairwise (· < ·) → (∀ k, k ∈ l ↔ k ∈ m) → l = m
  | [], [], _, _, _ => rfl
  | [], j :: m, _, _, h => by have := (h j).mpr (by simp); simp at this
  | i :: l, [], _, _, h => by have := (h i).mp (by simp); simp at this
  | i :: l, j :: m, h1, h2, h => by
    obtain ⟨a1, a2⟩ := List.pairwise_cons.mp h1
    obtain ⟨b1, b2⟩ := List.pairwise_cons.mp h2
    have e : i = j := by
      rcases List.mem_cons.mp ((h i).mp (by simp)) with e | hi
      · exact e
      · rcases List.mem_cons.mp ((h j).mpr (by simp)) with e | hj
        · exact e.symm
        · have q1 := b1 i hi
          have q2 := a1 j hj
          omega
    subst e
    congr 1
    refine lt_ext a2 b2 fun k => ⟨fun hk => ?_, fun hk => ?_⟩
    · rcases List.mem_cons.mp ((h k).mp (by simp [hk])) with e | q
      · have := a1 k hk; omega
      · exact q
    · rcases List.mem_cons.mp ((h k).mpr (by simp [hk])) with e | q
      · have := b1 k hk; omega
      · exact q
section
variable {P : Program} {w : World} {A : Around} {E : Value → Shared → Prop} {s : Shared}
/-- the empty set that set() begins with -/
def noneYet (w : World) : Obj := { cls := .type "set", dict := none, data := .set #[] 0 (.fresh 0 0 (!w.params.followText "set-order")) }
/-- set(l), l a list of ints: the rule for tuples, turned -/
theorem set_of_list {l : Addr} {items : Array Value} (ns : List Int) {Q : Value → Shared → Prop} (hh : A.handled = none) (hl : s.heap.IsList l items) (hit : IntsAre items.toList ns) (hb : ns.length + 1 < scanBound)
    (h : ∀ (h' : Heap) (tk c : Nat), SetR w h' s.heap.objs.size (fun j => decide (j ∈ ns)) c → c ≤ ns.length → (∀ b o, s.heap.get? b = some o → h'.get? b = some o) → Q (.ref s.heap.objs.size) { s with heap := h', toks := tk }) :
    wpAny (model P w) A (call (.type "set") [.ref l]) Q E s := by
  have hisz : items.size = ns.length := by rw [← Array.length_toList]; exact IntsAre.length hit
  obtain ⟨c, tl, hmro⟩ := F.called_set.mro
  have hmade := F.called_set.made
  have hsub := F.called_set.sub
  have h1 := F.called_set.notType
  have h2 := F.called_set.canCreate
  have hct := F.typeCall_set_1 (.ref l)
  refine wpAny_call (codeAny_of_tree ?_)
  show wpAny _ _ (callAny (.type "set") _) _ _ _
  refine wpAny_pure ⟨Code.quiet_builtin _ (by decide +kernel), codeAny_builtin F.entry_type_call ?_⟩
  rw [Around.under_plain (weight_type_call_type "set" [.ref l] []) rfl]
  repeat (any_goals (first | assumption | wp_step))
  refine codeAny_mono (code_set_led1 (.ref l) (E := E) (Q₁ := fun obj s₁ => obj = .ref s.heap.objs.size ∧ s₁ = { s with heap := s.heap.push (noneYet w) }) ⟨rfl, rfl⟩) fun r s₁ hr => ?_
  cases r with
  | error e => exact hr
  | ok fl =>
    cases fl with
    | next => exact hr.elim
    | brk => exact hr.elim
    | cont => exact hr.elim
    | ret obj =>
      obtain ⟨rfl, rfl⟩ := hr
      have hS : (s.heap.push (noneYet w)).get? s.heap.objs.size = some (noneYet w) := Heap.get?_push_size _ rfl
      have hT : Shared.TypeIs { s with heap := s.heap.push (noneYet w) } (.ref s.heap.objs.size) "set" := ⟨_, hS, rfl⟩
      have hli := F.called_set.init.lookup
      have hbi := F.called_set.init.bind (.ref s.heap.objs.size)
      repeat (any_goals (first | assumption | wp_step))
      refine codeAny_mono (codeAny_call_builtin (R := wants (fun r s₂ => r = .none ∧ ∃ h' tk c, s₂ = { s with heap := h', toks := tk } ∧ SetR w h' s.heap.objs.size (fun j => decide (j ∈ ns)) c ∧ c ≤ ns.length ∧
          (∀ b o, s.heap.get? b = some o → h'.get? b = some o)) E) F.called_set.init.plain F.entry_set_init (check_set_init_1 hT ?_)) fun r₂ s₂ hr₂ => ?_
      · have hl1 : (s.heap.push (noneYet w)).IsList l items := hl.push _
        obtain ⟨ol, hol, hcl, nl, hdl⟩ := id hl
        obtain ⟨ocls, odict, odata, oslots⟩ := ol
        simp only at hcl hdl
        subst hcl
        subst hdl
        have hol' : (s.heap.push (noneYet w)).get? l = some { cls := .type "list", dict := odict, data := .seq items nl, slots := oslots } := Heap.get?_push_of_some _ hol
        have hsls := F.sub_list_set
        have hslf := F.sub_list_frozenset
        have hne : (Value.type "list" == Value.type "dict") = false := by decide
        unfold Builtin.«set.__init__» noKeywords Builtin.Frozenset.updateFrom
        generalize hPI : pyIter = PI
        wp_walk
        subst hPI
        refine wpAny_pyIter_list hl1 ?_
        refine wpAny_bind (wpAny_runValue ?_)
        have hlS : l < s.heap.objs.size := Heap.lt_size hol
        have hz1 : (s.heap.push (noneYet w)).objs.size = s.heap.objs.size + 1 := Heap.size_push ..
        have hneI : l ≠ (s.heap.push (noneYet w)).objs.size := by rw [hz1]; exact Nat.ne_of_lt (Nat.lt_succ_of_lt hlS)
        have hSf : s.heap.objs.size ∉ [(s.heap.push (noneYet w)).objs.size, l] := by
          rw [hz1]
          intro z
          rcases List.mem_cons.mp z with z | z
          · exact Nat.ne_of_lt (Nat.lt_succ_self _) z
          · exact Nat.ne_of_gt hlS (List.mem_singleton.mp z)
        have hval : ∀ (i : Nat) (v : Value), items[i]? = some v → ∃ k t, ns[i]? = some k ∧ v = .int k t := fun i v hv => by
          have hi : i < ns.length := by rw [← hisz]; exact (Array.getElem?_eq_some_iff.mp hv).1
          obtain ⟨t, e⟩ := PyProof.Rows.IntsAre.int_at hit i v (by rw [Array.getElem?_toList]; exact hv)
          refine ⟨ns[i], t, List.getElem?_eq_getElem hi, ?_⟩
          rw [e, List.getD_eq_getElem?_getD, List.getElem?_eq_getElem hi] <;> rfl
        refine set_update_ints ((Walks.list (by simp [hh]) _ l hneI items).toS) s.heap.objs.size hSf ns hisz hb hval (items.size - 0) 0 _ (by omega) (Nat.zero_le _) ⟨⟨_, Heap.get?_push_size _ rfl, rfl, rfl⟩, hl1.push _⟩ ?hS0 ?hR
        case hS0 => exact ⟨0, Nat.le_refl 0, setR_new_at (Heap.get?_push_of_some _ hS)⟩
        case hR =>
          intro s' c' hm hc' hS'
          obtain ⟨h', g2, d', tk', os'⟩ := s'
          cases (show g2 = s.gens from hm.gens)
          cases (show d' = s.drawn from hm.drawn)
          cases (show os' = s.os from hm.os)
          show wpAny _ _ _ _ _ _
          refine wpAny_pure ?_
          show wpAny _ _ (ret Value.none) _ _ _
          rw [hisz] at hc'
          refine wpAny_pure ⟨rfl, h', tk', c', rfl, hS', hc', fun b o e => ?_⟩
          have hb0 : b < s.heap.objs.size := Heap.lt_size e
          refine hm.heap b o (fun z => ?_) (Heap.get?_push_of_some _ (Heap.get?_push_of_some _ e))
          rw [hz1] at z
          rcases List.mem_cons.mp z with z | z
          · exact Nat.ne_of_lt hb0 z
          · exact Nat.ne_of_lt (Nat.lt_succ_of_lt hb0) (List.mem_singleton.mp z)
      · cases r₂ with
        | error e => exact hr₂
        | ok fl₂ =>
          cases fl₂ with
          | ret r =>
            obtain ⟨rfl, h', tk, c', rfl, hS', hc', hk'⟩ := hr₂
            repeat (any_goals (first | assumption | wp_step))
            exact h _ _ _ hS' hc' hk'
          | next => exact hr₂.elim
          | brk => exact hr₂.elim
          | cont => exact hr₂.elim
end
end Cor
set_option Elab.async false
set_option linter.all false
set_option maxRecDepth 100000
set_option maxHeartbeats 4000000
/-! Core 4h: built-in calls. -/
namespace Cor
open PySem PySem.Spec PyProof.Rows L2
open Evl (Ex ex_l ex_t)
section
variable {X : Cx}
/-- set(l): by values -/
def rSet (K : PySem.W.Frag) (w : World) : List V → Hp → VK → Prop := fun vs H Q => ∃ (a : Addr) (ns : List Int), vs = [.ref a] ∧ SqL K H a (ns.map V.int) ∧ ns.length < 64 ∧ ∀ p c, H p = none → c ≤ ns.length → Q (.ref p) (upd H p (SetO w p (fun j => decide (j ∈ ns)) c))
theorem ints_are : ∀ {ns : List Int} {us : List Value}, Vals (ns.map V.int) us → IntsAre us ns
  | [], _, h => by cases h; exact .nil
  | i :: ns, _, h => by
    cases h with
    | cons h1 h2 =>
      obtain ⟨t, rfl⟩ := h1
      exact .cons i t (ints_are h2)
theorem scan_big : 65 ≤ scanBound := by decide
theorem cr_set (hc : X.calm = true) : CallR X (.type "set") (rSet X.K X.w) := by
  intro pins s σ H vs us Q I r h
  obtain ⟨a, ns, rfl, hq, hl, q⟩ := h
  cases r with
  | cons r rr =>
    cases rr
    cases r
    obtain ⟨its, rv, p, hz⟩ := I.list hq
    refine set_of_list ns (I.ok.hd hc) p.isList (by simpa using ints_are rv) (by have := scan_big; omega) fun h' tk c R hcn hk => ?_
    have hn := I.hok.fresh (Nat.le_refl s.heap.objs.size)
    exact ⟨.ref s.heap.objs.size, _, I.laid hk (Nat.le_refl _) (setO_new R), rfl, q _ c hn hcn⟩
end

section
variable {X : Cx}
theorem kvd_any0 {Hf : Hp} {k : Key} {ys : List (Key × V)} {kvs : List (Key × PyData)} (q : KvD X.K Hf ys kvs) : (ys.any fun kv => decide (kv.1 = k)) = kvs.any fun kv => decide (kv.1 = k) := by
  induction q with
  | nil => rfl
  | cons r t ih => rw [List.any_cons, List.any_cons, ih, r.1]
theorem kvd_app0 {Hf : Hp} {ys zs : List (Key × V)} {kvs mvs : List (Key × PyData)} (h : KvD X.K Hf ys kvs) (g : KvD X.K Hf zs mvs) : KvD X.K Hf (ys ++ zs) (kvs ++ mvs) := by
  induction h with
  | nil => exact g
  | cons r t ih => exact .cons r ih
theorem kvd_map0 {Hf : Hp} {k : Key} {v : V} {d : PyData} (h : Dq X.K Hf v d) {ys : List (Key × V)} {kvs : List (Key × PyData)} (q : KvD X.K Hf ys kvs) : KvD X.K Hf (ys.map fun kv => if kv.1 = k then (kv.1, v) else kv) (kvs.map fun kv => if kv.1 = k then (kv.1, d) else kv) := by
  induction q with
  | nil => exact .nil
  | @cons p q ps qs r t ih =>
    obtain ⟨e1, e2⟩ := r
    refine .cons ?_ ih
    show (if p.1 = k then (p.1, v) else p).1 = (if q.1 = k then (q.1, d) else q).1 ∧ Dq X.K Hf (if p.1 = k then (p.1, v) else p).2 (if q.1 = k then (q.1, d) else q).2
    by_cases hk : q.1 = k
    · rw [if_pos hk, if_pos (e1.trans hk)]; exact ⟨e1, h⟩
    · rw [if_neg hk, if_neg (fun z => hk (e1.symm.trans z))]; exact ⟨e1, e2⟩
theorem kvd_put0 {Hf : Hp} {k : Key} {v : V} {d : PyData} (h : Dq X.K Hf v d) {ys : List (Key × V)} {kvs : List (Key × PyData)} (q : KvD X.K Hf ys kvs) : KvD X.K Hf (putK ys k v) (putD kvs k d) := by
  unfold putK putD
  rw [kvd_any0 q]
  split
  · exact kvd_map0 h q
  · exact kvd_app0 q (.cons ⟨rfl, h⟩ .nil)
theorem kvd_mrg {Hf : Hp} : ∀ {ms : List (Key × V)} {l : List (Key × PyData)} {ys : List (Key × V)} {kvs : List (Key × PyData)}, KvD X.K Hf ms l → KvD X.K Hf ys kvs → KvD X.K Hf (mergeK ys ms) (l.foldl (fun acc q => putD acc q.1 q.2) kvs) := by
  intro ms l ys kvs h
  induction h generalizing ys kvs with
  | nil => intro g; exact g
  | @cons p q ps qs r t ih =>
    intro g
    obtain ⟨e1, e2⟩ := r
    have := ih (kvd_put0 (k := q.1) e2 g)
    rw [← e1] at this
    show KvD X.K Hf (mergeK (putK ys p.1 p.2) ps) (qs.foldl (fun acc q => putD acc q.1 q.2) (putD kvs q.1 q.2))
    rw [← e1]
    exact this
theorem key_v0 {Hf : Hp} {k : PyData} {kk : Key} {v : V} (h : Dq X.K Hf v k) (e : keyD k = some kk) : v = kV kk := by
  cases h with
  | int i => cases e; rfl
  | str z => cases e; rfl
  | non => cases e
  | bl b => cases e
  | lst _ _ => cases e
  | tup _ _ => cases e
theorem prs_of {Hf H : Hp} (ex : Ex Hf H) : ∀ {ds : List PyData} {xs : List V} {l : List (Key × PyData)}, DqAll X.K Hf xs ds → prD ds = some l → ∃ ps ms, xs = ps.map V.ref ∧ Paired (fun p kv => SqT X.K H p [kV kv.1, kv.2]) ps ms ∧ KvD X.K Hf ms l
  | [], _, l, h, e => by
    cases h
    cases e
    exact ⟨[], [], rfl, .nil, .nil⟩
  | d :: ds, _, l, h, e => by
    cases h with
    | cons h1 h2 =>
      unfold prD at e
      split at e
      · cases ‹_ :: _ = []›
      · rename_i k v r q
        cases q
        obtain ⟨kk, e1, e2⟩ := Option.bind_eq_some_iff.mp e
        obtain ⟨t, e3, rfl⟩ := Option.map_eq_some_iff.mp e2
        obtain ⟨ps, ms, rfl, P, M⟩ := prs_of ex h2 e3
        cases h1 with
        | tup hs ha =>
          cases ha with
          | cons a1 a2 =>
            cases a2 with
            | cons a2 a3 =>
              cases a3
              rename_i a v1 v2
              have := key_v0 a1 e1
              subst this
              exact ⟨a :: ps, (kk, v2) :: ms, rfl, .cons (ex_t ex hs) P, .cons ⟨rfl, a2⟩ M⟩
      · cases e
theorem own_list0 {Hf H : Hp} (ex : Ex Hf H) {sl : Sl} {v : V} {fp : List Addr} {ds : List PyData} (o : OwnAt X.K Hf H sl v fp) (e : datS sl = some (.list ds)) : ∃ p xs, v = .ref p ∧ SqL X.K H p xs ∧ DqAll X.K Hf xs ds := by
  cases sl with
  | val d' =>
    cases e
    have o2 : Dq X.K Hf v (.list ds) := o.2
    cases o2 with
    | lst hs ha => exact ⟨_, _, rfl, ex_l ex hs, ha⟩
  | lst ds' =>
    cases e
    obtain ⟨p, xs, rfl, _, hp, hd⟩ := o
    exact ⟨p, xs, rfl, .inl (.inl hp), hd⟩
  | emp => cases e
  | dct _ => cases e
  | bk _ _ => cases e
theorem cr_dict (hc : X.calm = true) : CallR X (.type "dict") (rCall X.K dictB) := by
  intro pins s σ H vs us Q I r h
  obtain ⟨Hf, ss, z, ex, oa, hf, q⟩ := h
  unfold dictB at hf
  split at hf
  · obtain ⟨v, fp, rfl, o⟩ := all1 oa
    obtain ⟨d, e, hf⟩ := Option.bind_eq_some_iff.mp hf
    split at hf
    · rename_i ds
      obtain ⟨l, e2, rfl⟩ := Option.map_eq_some_iff.mp hf
      obtain ⟨p, xs, rfl, hs, hd⟩ := own_list0 ex o e
      obtain ⟨ps, ms, rfl, P, M⟩ := prs_of ex hd e2
      refine call_dictP hc pins s σ H _ us Q I r ⟨p, ps, ms, rfl, hs, P, fun p' hp' => ?_⟩
      exact q _ _ (.dct hp' (kvd_mrg M .nil))
    · cases hf
  · cases hf
end

/-! ### the table of the built-ins -/
def biV : Bi → Value
  | .len => .builtin "len"
  | .srt => .builtin "sorted"
  | .tup => .type "tuple"
  | .lst => .type "list"
  | .mn => .builtin "min"
  | .mx => .builtin "max"
  | .abs => .builtin "abs"
  | .int1 => .type "int"
  | .divm => .builtin "divmod"
  | .str1 => .type "str"
  | .rep => .builtin "repr"
  | .all => .builtin "all"
  | .any => .builtin "any"
  | .sum => .builtin "sum"
  | .dct1 => .type "dict"
  | _ => .none
def biN : Bi → String
  | .len => "len"
  | .srt => "sorted"
  | .tup => "tuple"
  | .lst => "list"
  | .mn => "min"
  | .mx => "max"
  | .abs => "abs"
  | .int1 => "int"
  | .divm => "divmod"
  | .str1 => "str"
  | .rep => "repr"
  | .all => "all"
  | .any => "any"
  | .sum => "sum"
  | .dct1 => "dict"
  | _ => ""
def biPlain : Bi → Bool
  | .srtSet => false
  | .isi _ => false
  | .get1 => false
  | _ => true
theorem cr_bi {X : Cx} (hc : X.calm = true) (hu : X.A.units + 100 < cLine) (hgd : X.A.guards = some []) (b : Bi) (h : biPlain b = true) : CallR X (biV b) (rCall X.K (biS b)) := by
  cases b with
  | len => exact cr_len
  | srt => exact cr_sortedB hc hu
  | srtSet => cases h
  | tup => exact cr_tup hc
  | lst => exact cr_lst hc
  | mn => exact cr_minB hc
  | mx => exact cr_maxB hc
  | abs => exact cr_abs
  | int1 => exact cr_int
  | divm => exact cr_div
  | str1 => exact cr_str
  | rep => exact cr_rep hgd hu
  | all => exact cr_allB hc
  | any => exact cr_anyB hc
  | sum => exact cr_sumB hc
  | dct1 => exact cr_dict hc
  | isi t => cases h
  | get1 => cases h
theorem ne_lenB {ss : List Sl} {z : Arg} (e : lenB ss = some z) : ∀ s ∈ ss, s ≠ .emp := by
  intro s hs he
  subst he
  unfold lenB at e
  split at e <;> (try simp_all [seqS, datS]) <;> (subst hs; simp at e)
theorem ne_srtB {ss : List Sl} {z : Arg} (e : srtB ss = some z) : ∀ s ∈ ss, s ≠ .emp := by
  intro s hs he
  subst he
  unfold srtB at e
  split at e <;> (try simp_all [seqS, datS]) <;> (subst hs; simp at e)
theorem ne_srtSetB {ss : List Sl} {z : Arg} (e : srtSetB ss = some z) : ∀ s ∈ ss, s ≠ .emp := by
  intro s hs he
  subst he
  unfold srtSetB at e
  split at e <;> (try simp_all [seqS, datS]) <;> (subst hs; simp at e)
theorem ne_tupB {ss : List Sl} {z : Arg} (e : tupB ss = some z) : ∀ s ∈ ss, s ≠ .emp := by
  intro s hs he
  subst he
  unfold tupB at e
  split at e <;> (try simp_all [seqS, datS]) <;> (subst hs; simp at e)
theorem ne_lstB {ss : List Sl} {z : Arg} (e : lstB ss = some z) : ∀ s ∈ ss, s ≠ .emp := by
  intro s hs he
  subst he
  unfold lstB at e
  split at e <;> (try simp_all [seqS, datS]) <;> (subst hs; simp at e)
theorem ne_minB {ss : List Sl} {z : Arg} (e : minB ss = some z) : ∀ s ∈ ss, s ≠ .emp := by
  intro s hs he
  subst he
  unfold minB at e
  split at e <;> (try simp_all [seqS, datS]) <;> (subst hs; simp at e)
theorem ne_maxB {ss : List Sl} {z : Arg} (e : maxB ss = some z) : ∀ s ∈ ss, s ≠ .emp := by
  intro s hs he
  subst he
  unfold maxB at e
  split at e <;> (try simp_all [seqS, datS]) <;> (subst hs; simp at e)
theorem ne_absB {ss : List Sl} {z : Arg} (e : absB ss = some z) : ∀ s ∈ ss, s ≠ .emp := by
  intro s hs he
  subst he
  unfold absB at e
  split at e <;> (try simp_all [seqS, datS]) <;> (subst hs; simp at e)
theorem ne_intB {ss : List Sl} {z : Arg} (e : intB ss = some z) : ∀ s ∈ ss, s ≠ .emp := by
  intro s hs he
  subst he
  unfold intB at e
  split at e <;> (try simp_all [seqS, datS]) <;> (subst hs; simp at e)
theorem ne_divB {ss : List Sl} {z : Arg} (e : divB ss = some z) : ∀ s ∈ ss, s ≠ .emp := by
  intro s hs he
  subst he
  unfold divB at e
  split at e <;> (try simp_all [seqS, datS]) <;> (subst hs; simp at e)
theorem ne_strB {ss : List Sl} {z : Arg} (e : strB ss = some z) : ∀ s ∈ ss, s ≠ .emp := by
  intro s hs he
  subst he
  unfold strB at e
  split at e <;> (try simp_all [seqS, datS]) <;> (subst hs; simp at e)
theorem ne_repB {ss : List Sl} {z : Arg} (e : repB ss = some z) : ∀ s ∈ ss, s ≠ .emp := by
  intro s hs he
  subst he
  unfold repB at e
  split at e <;> (try simp_all [seqS, datS]) <;> (subst hs; simp at e)
theorem ne_allB {ss : List Sl} {z : Arg} (e : allB ss = some z) : ∀ s ∈ ss, s ≠ .emp := by
  intro s hs he
  subst he
  unfold allB at e
  split at e <;> (try simp_all [seqS, datS]) <;> (subst hs; simp at e)
theorem ne_anyB {ss : List Sl} {z : Arg} (e : anyB ss = some z) : ∀ s ∈ ss, s ≠ .emp := by
  intro s hs he
  subst he
  unfold anyB at e
  split at e <;> (try simp_all [seqS, datS]) <;> (subst hs; simp at e)
theorem ne_sumB {ss : List Sl} {z : Arg} (e : sumB ss = some z) : ∀ s ∈ ss, s ≠ .emp := by
  intro s hs he
  subst he
  unfold sumB at e
  split at e <;> (try simp_all [seqS, datS]) <;> (subst hs; simp at e)
theorem ne_isiB {ss : List Sl} {z : Arg} {t : Ty} (e : isiB t ss = some z) : ∀ s ∈ ss, s ≠ .emp := by
  intro s hs he
  subst he
  unfold isiB at e
  split at e <;> (try simp_all [seqS, datS]) <;> (subst hs; simp at e)
theorem ne_getB {ss : List Sl} {z : Arg} (e : getB ss = some z) : ∀ s ∈ ss, s ≠ .emp := by
  intro s hs he
  subst he
  unfold getB at e
  split at e <;> (try simp_all [seqS, datS]) <;> (subst hs; simp at e)
theorem ne_dictB {ss : List Sl} {z : Arg} (e : dictB ss = some z) : ∀ s ∈ ss, s ≠ .emp := by
  intro s hs he
  subst he
  unfold dictB at e
  split at e <;> (try simp_all [seqS, datS]) <;> (subst hs; simp at e)
theorem bi_ne {b : Bi} {ss : List Sl} {z : Arg} (e : biS b ss = some z) : ∀ s ∈ ss, s ≠ .emp := by
  cases b with
  | len => exact ne_lenB e
  | srt => exact ne_srtB e
  | srtSet => exact ne_srtSetB e
  | tup => exact ne_tupB e
  | lst => exact ne_lstB e
  | mn => exact ne_minB e
  | mx => exact ne_maxB e
  | abs => exact ne_absB e
  | int1 => exact ne_intB e
  | divm => exact ne_divB e
  | str1 => exact ne_strB e
  | rep => exact ne_repB e
  | all => exact ne_allB e
  | any => exact ne_anyB e
  | sum => exact ne_sumB e
  | isi t => exact ne_isiB e
  | get1 => exact ne_getB e
  | dct1 => exact ne_dictB e
section
variable {X : Cx} {G : List Fn} {ea : Expr} {ca : CE} {x : Str} {p pos : Pos}
theorem tCB_of {b : Bi} {c : CA} {σ : L2.St} {H : Hp} {Q : VK} (h : tR X.K G (.bi b c) σ H Q) : tCB (rCall X.K (biS b)) (tQ X.K G c) σ H Q := by
  obtain ⟨Hf, fps, ρ, a, ρ', S, ee, q⟩ := h
  obtain ⟨⟨as, ρ1⟩, e1, ee⟩ := Option.bind_eq_some_iff.mp (show ((evR G c ρ).bind fun p => (p.1.mapM (cont p.2)).bind fun ss => (biS b ss).bind fun z => some (z, p.2)) = some (a, ρ') from ee)
  obtain ⟨ss, e2, ee⟩ := Option.bind_eq_some_iff.mp ee
  obtain ⟨z, e3, ee⟩ := Option.bind_eq_some_iff.mp ee
  cases ee
  refine ⟨Hf, fps, ρ, as, _, S, e1, fun Hf1 fps1 H1 vs g1 S1 a1 => ?_⟩
  refine ⟨Hf1, ss, _, S1.ex, ARs.cont S1 a1 e2 (bi_ne e3), e3, fun v H' r => ?_⟩
  obtain ⟨Hf2, g2, S2, a2⟩ := Raw.fin S1 g1 r
  exact q Hf2 fps1 H' v g2 S2 a2
theorem g_bi {es : List Expr} {c : CA} {b : Bi} (hc : X.calm = true) (hu : X.A.units + 100 < cLine) (hgd : X.A.guards = some []) (hb : biPlain b = true) (hg : Gl X (biN b)) (hm : X.mg (biN b) = none)
    (ha : PA X (ea :: es) (tQ X.K G c)) (hs : ∀ x p, ea ≠ .Starred x p) (hpl : (backTo pos (starEach es X.env)).any (·.1) = false) : PE X (.Call (.Name (biN b) p) (ea :: es) [] pos) (tR X.K G (.bi b c)) := by
  have R := cr_bi (X := X) hc hu hgd b hb
  refine PE.weak (t := tCB (rCall X.K (biS b)) (tQ X.K G c)) ?_ fun σ H Q h => tCB_of h
  cases b with
  | len => exact pe_callB R hg hm rfl ha (by decide) (by decide) (star_no hs) hpl
  | srt => exact pe_callB R hg hm rfl ha (by decide) (by decide) (star_no hs) hpl
  | srtSet => cases hb
  | tup => exact pe_callTy R hg hm rfl ha (by decide) (by decide) (star_no hs) hpl
  | lst => exact pe_callTy R hg hm rfl ha (by decide) (by decide) (star_no hs) hpl
  | mn => exact pe_callB R hg hm rfl ha (by decide) (by decide) (star_no hs) hpl
  | mx => exact pe_callB R hg hm rfl ha (by decide) (by decide) (star_no hs) hpl
  | abs => exact pe_callB R hg hm rfl ha (by decide) (by decide) (star_no hs) hpl
  | int1 => exact pe_callTy R hg hm rfl ha (by decide) (by decide) (star_no hs) hpl
  | divm => exact pe_callB R hg hm rfl ha (by decide) (by decide) (star_no hs) hpl
  | str1 => exact pe_callTy R hg hm rfl ha (by decide) (by decide) (star_no hs) hpl
  | rep => exact pe_callB R hg hm rfl ha (by decide) (by decide) (star_no hs) hpl
  | all => exact pe_callB R hg hm rfl ha (by decide) (by decide) (star_no hs) hpl
  | any => exact pe_callB R hg hm rfl ha (by decide) (by decide) (star_no hs) hpl
  | sum => exact pe_callB R hg hm rfl ha (by decide) (by decide) (star_no hs) hpl
  | dct1 => exact pe_callTy R hg hm rfl ha (by decide) (by decide) (star_no hs) hpl
  | isi t => cases hb
  | get1 => cases hb
/-- isinstance(e, a type's name) -/
theorem g_isi {t : Ty} {p2 : Pos} (hg : Gl X "isinstance") (hm : X.mg "isinstance" = none) (hg2 : Gl X (tyN t)) (hm2 : X.mg (tyN t) = none) (ha : PE X ea (tR X.K G ca)) (hs : ∀ x p, ea ≠ .Starred x p) :
    PE X (.Call (.Name "isinstance" p) [ea, .Name (tyN t) p2] [] pos) (tR X.K G (.bi (.isi t) (.cons false ca .nil))) := by
  have hb : PE X (.Name (tyN t) p2) (tC (.ty (tyN t))) := by
    cases t <;> exact pe_bltn hg2 hm2 rfl rfl (by decide) (by decide)
  refine PE.weak (pe_callB (cr_isi t) hg hm rfl (pa_cons ha (pa_cons hb pa_nil (star_no fun x p z => nomatch z)) (star_no hs)) (by decide) (by decide) (star_no hs) rfl) fun σ H Q h => ?_
  obtain ⟨Hf, fps, ρ, a, ρ', S, ee, q⟩ := tCB_of h
  obtain ⟨⟨x, ρ1⟩, e1, ee⟩ := Option.bind_eq_some_iff.mp (show ((ev G ca ρ).bind fun p => (some (([] : List Arg), p.2)).bind fun p3 => some (p.1 :: p3.1, p3.2)) = some (a, ρ') from ee)
  cases ee
  refine ⟨Hf, fps, ρ, x, _, S, e1, fun Hf1 fps1 H1 v g1 S1 a1 => ?_⟩
  exact ⟨v, rfl, q Hf1 fps1 H1 [v] g1 S1 (.cons a1 .nil)⟩
/-- sorted(set(e)) -/
theorem g_srtSet {p2 pos2 : Pos} (hc : X.calm = true) (hg : Gl X "sorted") (hm : X.mg "sorted" = none) (hg2 : Gl X "set") (hm2 : X.mg "set" = none) (ha : PE X ea (tR X.K G ca)) (hs : ∀ x p, ea ≠ .Starred x p) :
    PE X (.Call (.Name "sorted" p) [.Call (.Name "set" p2) [ea] [] pos2] [] pos) (tR X.K G (.bi .srtSet (.cons false ca .nil))) := by
  have h1 := pe_callTy (p := p2) (pos := pos2) (cr_set hc) hg2 hm2 rfl (pa_cons ha pa_nil (star_no hs)) (by decide) (by decide) (star_no hs) rfl
  refine PE.weak (pe_callB (cr_sortedSet hc) hg hm rfl (pa_cons h1 pa_nil (star_no fun x p z => nomatch z)) (by decide) (by decide) (star_no fun x p z => nomatch z) rfl) fun σ H Q h => ?_
  obtain ⟨Hf, fps, ρ, a, ρ', S, ee, q⟩ := h
  obtain ⟨⟨as, ρ2⟩, e1, ee⟩ := Option.bind_eq_some_iff.mp (show ((evR G (.cons false ca .nil) ρ).bind fun p => (p.1.mapM (cont p.2)).bind fun ss => (srtSetB ss).bind fun z => some (z, p.2)) = some (a, ρ') from ee)
  obtain ⟨⟨x, ρ1⟩, e0, e1⟩ := Option.bind_eq_some_iff.mp (show ((ev G ca ρ).bind fun p => (some (([] : List Arg), p.2)).bind fun p3 => some (p.1 :: p3.1, p3.2)) = some (as, ρ2) from e1)
  cases e1
  obtain ⟨ss, e2, ee⟩ := Option.bind_eq_some_iff.mp ee
  obtain ⟨z, e3, ee⟩ := Option.bind_eq_some_iff.mp ee
  cases ee
  refine ⟨Hf, fps, ρ, x, _, S, e0, fun Hf1 fps1 H1 v g1 S1 a1 => ?_⟩
  have oa := ARs.cont S1 (vs := [v]) (.cons a1 .nil) e2 (bi_ne (b := .srtSet) e3)
  unfold srtSetB at e3
  split at e3
  · obtain ⟨v', fp, ev', o⟩ := all1 oa
    cases ev'
    obtain ⟨d, ed, e3⟩ := Option.bind_eq_some_iff.mp e3
    split at e3
    · rename_i ds
      obtain ⟨ns, en, e3⟩ := Option.bind_eq_some_iff.mp e3
      split at e3
      · rename_i h64
        cases e3
        have h64 : ns.length < 64 := of_decide_eq_true h64
        obtain ⟨p, xs, rfl, hx, dx⟩ := own_list S1.ex o ed
        obtain ⟨rfl, _⟩ := ints_v dx en
        refine ⟨p, ns, rfl, hx, h64, fun p1 c hp1 hc1 => ?_⟩
        refine ⟨p1, _, c, rfl, upd_same, by omega, fun ms p2 hs2 hm hl hp2 => ?_⟩
        have em : ms = uniqI ns := lt_ext hs2 (uniq_lt ns) fun k => by rw [hm k, mem_uniq, decide_eq_true_eq]
        subst em
        have dz : DqAll X.K Hf1 ((uniqI ns).map V.int) ((uniqI ns).map PyData.int) := by
          generalize uniqI ns = l
          induction l with
          | nil => exact .nil
          | cons a t ih => exact .cons (.int a) ih
        obtain ⟨Hf2, g2, S2, a2⟩ := Raw.fin (S1.grow hp1) (g1.grow hp1) (.lst hp2 dz)
        exact q Hf2 fps1 _ _ g2 S2 a2
      · cases e3
    · cases e3
  · cases e3
end
end Cor
set_option Elab.async false
set_option linter.all false
set_option maxRecDepth 100000
set_option maxHeartbeats 4000000
/-! Core 4i: calls of defs, displays. -/
namespace Cor
open PySem PySem.Spec PyProof.Rows L2
open Evl (Ex ex_l ex_t)
theorem noEmp_ne {s : Sl} (h : noEmp s = true) : s ≠ .emp := by intro z; subst z; cases h
section
variable {K : PySem.W.Frag} {Hf Hf' Hf0 : Hp} {fps fps0 : Fps} {σ : L2.St} {H H' H0 : Hp} {ρ : Rho}
theorem SR.there (S : SR K Hf fps σ H ρ) {i : Nat} {a : Addr} (ha : a ∈ fps i) : ∃ o, H a = some o := by
  cases e : H a with
  | some o => exact ⟨o, rfl⟩
  | none => exact absurd ha ((S.free e).2 i)
theorem SR.after (S : SR K Hf fps σ H ρ) {fp' : List Addr} (f : Fo Hf H Hf' H' [] fp') (ex : Ex Hf' H') : SR K Hf' fps σ H' ρ ∧ Go Hf fps H Hf' fps H' := by
  obtain ⟨f1, f2, f3⟩ := f
  refine ⟨⟨ex, S.len, fun i sl e ne => ?_, S.gone, fun i a ha => ?_, S.dis⟩, ⟨f1, fun a o h1 h2 h3 => ?_, f3⟩⟩
  · obtain ⟨v, e1, ow⟩ := S.here i sl e ne
    exact ⟨v, e1, ow.keep f1 fun a ha ob q => (f2 a ob q (S.nof i a ha) (by simp)).1⟩
  · obtain ⟨o, q⟩ := S.there ha
    exact (f2 a o q (S.nof i a ha) (by simp)).2.1
  · obtain ⟨q1, q2, _⟩ := f2 a o h1 h2 (by simp)
    exact ⟨q1, q2, h3⟩
theorem SR.afterM (S : SR K Hf fps σ H ρ) {i : Nat} {v : V} {sl' : Sl} {fp' : List Addr} (hi : i < ρ.length) (hv : σ[i]? = some (some v)) (f : Fo Hf H Hf' H' (fps i) fp') (ex : Ex Hf' H') (ow : OwnAt K Hf' H' sl' v fp') (ne : sl' ≠ .emp)
    (hn : ∀ a ∈ fp', Hf' a = none ∧ (a ∈ fps i ∨ H a = none)) : SR K Hf' (setF fps i fp') σ H' (ρ.set i sl') ∧ Go Hf fps H Hf' (setF fps i fp') H' := by
  obtain ⟨f1, f2, f3⟩ := f
  have out : ∀ j a, j ≠ i → a ∈ fps j → (∃ o, H a = some o ∧ H' a = some o) ∧ Hf' a = none ∧ a ∉ fp' := fun j a hj ha => by
    obtain ⟨o, q⟩ := S.there ha
    obtain ⟨q1, q2, q3⟩ := f2 a o q (S.nof j a ha) (fun z => hj (S.dis j i a ha z))
    exact ⟨⟨o, q, q1⟩, q2, q3⟩
  refine ⟨⟨ex, by rw [List.length_set]; exact S.len, fun j sl e nej => ?_, fun j hj => ?_, fun j a ha => ?_, fun j k a ha hb => ?_⟩, ⟨f1, fun a o h1 h2 h3 => ?_, f3⟩⟩
  · by_cases hji : j = i
    · subst hji
      rw [get_set_eq hi] at e
      cases e
      rw [setF_eq]
      exact ⟨v, hv, ow⟩
    · rw [List.getElem?_set_ne (Ne.symm hji)] at e
      obtain ⟨w, e1, o⟩ := S.here j sl e nej
      rw [setF_ne hji]
      refine ⟨w, e1, o.keep f1 fun a ha ob q => ?_⟩
      obtain ⟨⟨o', q1, q2⟩, _⟩ := out j a hji ha
      rw [q] at q1; cases q1; exact q2
  · by_cases hji : j = i
    · subst hji
      exact absurd (hj sl' (get_set_eq hi)) ne
    · rw [setF_ne hji]
      exact S.gone j fun sl e => hj sl (by rw [List.getElem?_set_ne (Ne.symm hji)]; exact e)
  · by_cases hji : j = i
    · subst hji
      rw [setF_eq] at ha
      exact (hn a ha).1
    · rw [setF_ne hji] at ha
      exact (out j a hji ha).2.1
  · by_cases hji : j = i
    · by_cases hki : k = i
      · rw [hji, hki]
      · subst hji
        rw [setF_eq] at ha
        rw [setF_ne hki] at hb
        exact absurd ha (out k a hki hb).2.2
    · by_cases hki : k = i
      · subst hki
        rw [setF_eq] at hb
        rw [setF_ne hji] at ha
        exact absurd hb (out j a hji ha).2.2
      · rw [setF_ne hji] at ha
        rw [setF_ne hki] at hb
        exact S.dis j k a ha hb
  · obtain ⟨q1, q2, q3⟩ := f2 a o h1 h2 (h3 i)
    refine ⟨q1, q2, fun j => ?_⟩
    by_cases hji : j = i
    · subst hji; rw [setF_eq]; exact q3
    · rw [setF_ne hji]; exact h3 j
/-- a new object has been changed -/
theorem SR.afterN (S : SR K Hf fps σ H ρ) (g : Go Hf0 fps0 H0 Hf fps H) {fp fp' : List Addr} (f : Fo Hf H Hf' H' fp fp') (ex : Ex Hf' H') (hn : ∀ a ∈ fp, H0 a = none ∧ ∀ i, a ∉ fps i) : SR K Hf' fps σ H' ρ ∧ Go Hf0 fps0 H0 Hf' fps H' := by
  obtain ⟨f1, f2, f3⟩ := f
  have out : ∀ j a, a ∈ fps j → a ∉ fp := fun j a ha z => (hn a z).2 j ha
  refine ⟨⟨ex, S.len, fun i sl e ne => ?_, S.gone, fun i a ha => ?_, S.dis⟩, ⟨g.fz.trans f1, fun a o h1 h2 h3 => ?_, fun a o h => ?_⟩⟩
  · obtain ⟨v, e1, ow⟩ := S.here i sl e ne
    exact ⟨v, e1, ow.keep f1 fun a ha ob q => (f2 a ob q (S.nof i a ha) (out i a ha)).1⟩
  · obtain ⟨o, q⟩ := S.there ha
    exact (f2 a o q (S.nof i a ha) (out i a ha)).2.1
  · obtain ⟨q1, q2, q3⟩ := g.fo a o h1 h2 h3
    obtain ⟨w1, w2, _⟩ := f2 a o q1 q2 (fun z => by rw [(hn a z).1] at h1; cases h1)
    exact ⟨w1, w2, q3⟩
  · obtain ⟨o', q⟩ := g.th a o h
    exact f3 a o' q
end

section
variable {X : Cx} {CX : CXT} {G : List Fn} {k kf : Nat} {f : Addr} {fd : FuncData} {ps : List Str} {E : XK} {x : Str} {p pos : Pos} {ea : Expr} {es : List Expr} {c : CA} {σ : L2.St} {H : Hp} {Q : VK}
theorem cal_pur {fn : List PyData → Option PyData} (hG : G[kf]? = some (.pur fn)) (h : tR X.K G (.cal kf c) σ H Q) : tCall (spP X.K fn) [] E (tF X.K G c) σ H Q := by
  obtain ⟨Hf, fps, ρ, a, ρ', S, ee, q⟩ := h
  unfold ev at ee
  rw [hG] at ee
  obtain ⟨⟨ds, ρ1⟩, e1, ee⟩ := Option.bind_eq_some_iff.mp (show ((evF G c ρ).bind fun p => (fn p.1).bind fun d => some (Arg.val d, p.2)) = some (a, ρ') from ee)
  obtain ⟨d, e2, ee⟩ := Option.bind_eq_some_iff.mp ee
  cases ee
  refine ⟨Hf, fps, ρ, ds, _, S, e1, fun Hf1 fps1 H1 vs g1 S1 d1 => ?_⟩
  show spP X.K fn (vs ++ []) H1 Q E
  rw [List.append_nil]
  refine ⟨Hf1, ds, d, S1.ex, d1, e2, fun v Hf' H' ex' fo dq => ?_⟩
  obtain ⟨S2, g2⟩ := S1.after fo ex'
  exact q Hf' fps1 H' v (g1.trans g2) S2 dq
theorem cal_mak {fn : List PyData → Option Sl} (hG : G[kf]? = some (.mak fn)) (h : tR X.K G (.cal kf c) σ H Q) : tCall (spK X.K fn) [] E (tF X.K G c) σ H Q := by
  obtain ⟨Hf, fps, ρ, a, ρ', S, ee, q⟩ := h
  unfold ev at ee
  rw [hG] at ee
  obtain ⟨⟨ds, ρ1⟩, e1, ee⟩ := Option.bind_eq_some_iff.mp (show ((evF G c ρ).bind fun p => (fn p.1).bind fun s => if noEmp s = true then some (Arg.fr s, p.2) else none) = some (a, ρ') from ee)
  obtain ⟨s, e2, ee⟩ := Option.bind_eq_some_iff.mp ee
  dsimp only at ee
  split at ee
  · rename_i hne
    cases ee
    refine ⟨Hf, fps, ρ, ds, _, S, e1, fun Hf1 fps1 H1 vs g1 S1 d1 => ?_⟩
    show spK X.K fn (vs ++ []) H1 Q E
    rw [List.append_nil]
    refine ⟨Hf1, ds, s, S1.ex, d1, e2, noEmp_ne hne, fun v Hf' H' fp ex' fo ow hn => ?_⟩
    obtain ⟨S2, g2⟩ := S1.after fo ex'
    refine q Hf' fps1 H' v (g1.trans g2) S2 (AR.frI (noEmp_ne hne) ow fun a ha => ⟨back_none g1 (hn a ha).1, (hn a ha).2, fun i hi => ?_⟩)
    obtain ⟨o, z⟩ := S1.there hi
    rw [(hn a ha).1] at z; cases z
  · cases ee
theorem cal_mut {fn : Sl → List PyData → Option (PyData × Sl)} {e : CE} {r : CA} (hG : G[kf]? = some (.mut fn)) (h : tR X.K G (.cal kf (.cons false e r)) σ H Q) : tCall (spM X.K fn) [] E (tCons (tR X.K G e) (tF X.K G r)) σ H Q := by
  obtain ⟨Hf, fps, ρ, a, ρ', S, ee, q⟩ := h
  unfold ev at ee
  rw [hG] at ee
  obtain ⟨⟨x, ρ0⟩, e0, ee⟩ := Option.bind_eq_some_iff.mp (show ((ev G e ρ).bind fun p0 => (evF G r p0.2).bind fun p => match p0.1 with
        | .own i => (p.2[i]?).bind fun sl => (fn sl p.1).bind fun p2 => if (noEmp sl && noEmp p2.2) = true then some (Arg.val p2.1, p.2.set i p2.2) else none
        | .fr sl => (fn sl p.1).bind fun p2 => if noEmp p2.2 = true then some (Arg.val p2.1, p.2) else none
        | .val _ => none) = some (a, ρ') from ee)
  obtain ⟨⟨ds, ρ1⟩, e1, ee⟩ := Option.bind_eq_some_iff.mp ee
  refine ⟨Hf, fps, ρ, x, ρ0, S, e0, fun Hf1 fps1 H1 v g1 S1 a1 => ⟨Hf1, fps1, ρ0, ds, ρ1, S1, e1, fun Hf2 fps2 H2 vs g2 S2 d2 => ?_⟩⟩
  show spM X.K fn ((v :: vs) ++ []) H2 Q E
  rw [List.append_nil]
  cases x with
  | val d => cases ee
  | own i =>
    obtain ⟨sl, e2, ee⟩ := Option.bind_eq_some_iff.mp ee
    obtain ⟨⟨d, sl'⟩, e3, ee⟩ := Option.bind_eq_some_iff.mp ee
    dsimp only at ee e2
    split at ee
    · rename_i hne
      rw [Bool.and_eq_true] at hne
      cases ee
      obtain ⟨v', hv', ow⟩ := S2.here i sl e2 (noEmp_ne hne.1)
      have hi : i < ρ1.length := lt_of_get e2
      have : σ[i]? = some (some v) := a1
      rw [hv'] at this
      cases this
      refine ⟨Hf2, fps2 i, v, vs, sl, ds, d, sl', S2.ex, rfl, ow, fun a ha => S2.nof i a ha, noEmp_ne hne.1, noEmp_ne hne.2, d2, e3, fun w Hf' H' fp' ex' fo ow' hn dq => ?_⟩
      obtain ⟨S3, g3⟩ := S2.afterM hi hv' fo ex' ow' (noEmp_ne hne.2) hn
      exact q Hf' _ H' w ((g1.trans g2).trans g3) S3 dq
    · cases ee
  | fr sl =>
    obtain ⟨⟨d, sl'⟩, e3, ee⟩ := Option.bind_eq_some_iff.mp ee
    dsimp only at ee
    split at ee
    · rename_i hne
      cases ee
      obtain ⟨nes, fp, ow, hn⟩ := AR.go g2 a1
      refine ⟨Hf2, fp, v, vs, sl, ds, d, sl', S2.ex, rfl, ow, fun a ha => (hn a ha).2.1, nes, noEmp_ne hne, d2, e3, fun w Hf' H' fp' ex' fo ow' hn' dq => ?_⟩
      obtain ⟨S3, g3⟩ := S2.afterN (g1.trans g2) fo ex' fun a ha => ⟨(hn a ha).1, (hn a ha).2.2⟩
      exact q Hf' _ H' w g3 S3 dq
    · cases ee
/-- a def of the table, its arguments from the left -/
theorem g_cal {fn : Fn} (hG : G[kf]? = some fn) (R : Runs X f (spF X.K fn)) (hg : Gl X x) (hm : X.mg x = some (.ref f)) (hk : PySem.W.keepIn X.K (.ref f) = true) (hmu : ∀ g, fn ≠ .mut g) (hmr : ∀ g, fn ≠ .rai g) (hmq : ∀ g, fn ≠ .rmu g) (ha : PA X (ea :: es) (tF X.K G c)) (hdb : (x == ("__debug__" : Str)) = false) (hs : ∀ x p, ea ≠ .Starred x p) (hpl : (backTo pos (starEach es X.env)).any (·.1) = false) :
    PE X (.Call (.Name x p) (ea :: es) [] pos) (tR X.K G (.cal kf c)) := by
  refine PE.weak (pe_callC R hg hm hk ha hdb (star_no hs) hpl) fun σ H Q h => ?_
  cases fn with
  | pur fn => exact cal_pur hG h
  | mak fn => exact cal_mak hG h
  | «mut» fn => exact absurd rfl (hmu fn)
  | rai fn => exact absurd rfl (hmr fn)
  | rmu fn => exact absurd rfl (hmq fn)
  | two fn =>
    obtain ⟨Hf, fps, ρ, a, ρ', S, ee, q⟩ := h
    have z : ev G (.cal kf c) ρ = none := by rw [ev, hG]
    rw [z] at ee; cases ee
theorem g_cal0 {fn : Fn} (hG : G[kf]? = some fn) (R : Runs X f (spF X.K fn)) (hg : Gl X x) (hm : X.mg x = some (.ref f)) (hk : PySem.W.keepIn X.K (.ref f) = true) (hmu : ∀ g, fn ≠ .mut g) (hmr : ∀ g, fn ≠ .rai g) (hmq : ∀ g, fn ≠ .rmu g) (hdb : (x == ("__debug__" : Str)) = false) : PE X (.Call (.Name x p) [] [] pos) (tR X.K G (.cal kf .nil)) := by
  refine PE.weak (pe_callC0 R hg hm hk hdb) fun σ H Q h => ?_
  have h2 : tCall (spF X.K fn) [] E0 (tF X.K G .nil) σ H Q := by
    cases fn with
    | pur fn => exact cal_pur hG h
    | mak fn => exact cal_mak hG h
    | «mut» fn => exact absurd rfl (hmu fn)
    | rai fn => exact absurd rfl (hmr fn)
    | rmu fn => exact absurd rfl (hmq fn)
    | two fn =>
      obtain ⟨Hf, fps, ρ, a, ρ', S, ee, q⟩ := h
      have z : ev G (.cal kf .nil) ρ = none := by rw [ev, hG]
      rw [z] at ee; cases ee
  obtain ⟨Hf, fps, ρ, ds, ρ', S, ee, q⟩ := h2
  cases (show some (([] : List PyData), ρ) = some (ds, ρ') from ee)
  exact q Hf fps H [] .refl S .nil
theorem g_calM {fn : Sl → List PyData → Option (PyData × Sl)} {e : CE} {r : CA} (hG : G[kf]? = some (.mut fn)) (R : Runs X f (spF X.K (.mut fn))) (hg : Gl X x) (hm : X.mg x = some (.ref f))
    (hk : PySem.W.keepIn X.K (.ref f) = true) (ha : PE X ea (tR X.K G e)) (har : PA X es (tF X.K G r)) (hdb : (x == ("__debug__" : Str)) = false) (hs : ∀ x p, ea ≠ .Starred x p) (hpl : (backTo pos (starEach es X.env)).any (·.1) = false) :
    PE X (.Call (.Name x p) (ea :: es) [] pos) (tR X.K G (.cal kf (.cons false e r))) :=
  PE.weak (pe_callC R hg hm hk (pa_cons ha har (star_no hs)) hdb (star_no hs) hpl) fun σ H Q h => cal_mut hG h

/-- {k: v} -/
theorem g_dsp {ek ev' : Expr} {ck cv : CE} (ha : PE X ek (tR X.K G ck)) (hb : PE X ev' (tR X.K G cv)) : PE X (.Dict [some ek] [ev'] pos) (tR X.K G (.dsp ck cv)) :=
  PE.weak (pe_disp (pps_cons ha hb pps_nil) rfl rfl (by simp) (by simp)) fun σ H Q ⟨Hf, fps, ρ, a, ρ', S, ee, q⟩ => by
    obtain ⟨⟨x, ρ1⟩, e1, ee⟩ := Option.bind_eq_some_iff.mp (show ((ev G ck ρ).bind fun p => (frz p.2 p.1).bind fun p2 => (ev G cv p2.2).bind fun p3 => (frz p3.2 p3.1).bind fun p4 => (keyD p2.1).bind fun key => some (Arg.fr (.dct [(key, p4.1)]), p4.2)) = some (a, ρ') from ee)
    obtain ⟨⟨dk, ρ2⟩, e2, ee⟩ := Option.bind_eq_some_iff.mp ee
    obtain ⟨⟨y, ρ3⟩, e3, ee⟩ := Option.bind_eq_some_iff.mp ee
    obtain ⟨⟨dv, ρ4⟩, e4, ee⟩ := Option.bind_eq_some_iff.mp ee
    obtain ⟨key, e5, ee⟩ := Option.bind_eq_some_iff.mp ee
    cases ee
    intro p hp
    have g0 : Go Hf fps H Hf fps (upd H p (.dK [])) := Go.refl.grow hp
    obtain ⟨n1, n2⟩ := S.free hp
    refine ⟨Hf, fps, ρ, x, ρ1, S.grow hp, e1, fun Hf1 fps1 H1 v g1 S1 a1 => ?_⟩
    obtain ⟨Hf2, fps2, g2, S2, d2⟩ := S1.frz g1 a1 e2
    refine ⟨Hf2, fps2, ρ2, y, ρ3, S2, e3, fun Hf3 fps3 H3 w g3 S3 a3 => ?_⟩
    obtain ⟨Hf4, fps4, g4, S4, d4⟩ := S3.frz g3 a3 e4
    have gg := g2.trans g4
    obtain ⟨q1, q2, q3⟩ := gg.fo p _ upd_same n1 n2
    refine ⟨q1, [(key, w)], ?_, by simp, ?_⟩
    · cases key_v d2 e5
      rfl
    · have hp4 : Ex Hf4 (upd H3 p (.dK (mergeK [] [(key, w)]))) := S4.ex.mut q2
      refine q Hf4 fps4 _ (.ref p) ((g0.trans gg).other hp) (S4.other q2 q3) (AR.frI (fun z => nomatch z) ⟨p, [(key, w)], rfl, rfl, upd_same, .cons ⟨rfl, d4⟩ .nil⟩ fun a ha => ?_)
      cases List.mem_singleton.mp ha
      exact ⟨hp, q2, q3⟩
end
end Cor
set_option Elab.async false
set_option linter.all false
set_option maxRecDepth 100000
set_option maxHeartbeats 4000000
/-! Core 4j: fields of a book, written dicts. -/
namespace Cor
open PySem PySem.Spec PyProof.Rows L2
open Evl (Ex ex_l ex_t)
/-- what the frag says of the class of books -/
structure BkTxt (K : PySem.W.Frag) (C : Addr) : Prop where
  is : BkC K C
  cl : L2.Cls K C
  no : ∀ f ∈ (["places", "kind", "web", "deeds", "past"] : List Str), L2.NoAttr K C f
theorem BkC.inj {K : PySem.W.Frag} {C C' : Addr} (h : BkC K C) (h' : BkC K C') : C = C' := by
  unfold BkC at h h'
  rw [h] at h'
  cases h'
  rfl
theorem four {α : Type} {l : List α} (h : l.length = 4) : ∃ a b c d, l = [a, b, c, d] := by
  match l, h with
  | [a, b, c, d], _ => exact ⟨a, b, c, d, rfl⟩
theorem bk_look {vs : List V} {q : Addr} {j : Nat} {f : Str} (hl : vs.length = 4) (h : bkN[j]? = some f) : ∃ v, vs[j]? = some v ∧ (bkF vs q).lookup f = some v := by
  obtain ⟨a, b, c, d, rfl⟩ := four hl
  match j with
  | 0 => cases h; exact ⟨a, rfl, rfl⟩
  | 1 => cases h; exact ⟨b, rfl, by show List.lookup ("kind" : Str) [(("places" : Str), a), (("kind" : Str), b), (("web" : Str), c), (("deeds" : Str), d), (("past" : Str), V.ref q)] = some b; rfl⟩
  | 2 => cases h; exact ⟨c, rfl, rfl⟩
  | 3 => cases h; exact ⟨d, rfl, rfl⟩
  | n + 4 => cases h
theorem bk_mem {j : Nat} {f : Str} (h : bkN[j]? = some f) : f ∈ (["places", "kind", "web", "deeds", "past"] : List Str) := by
  match j with
  | 0 => cases h; exact .head _
  | 1 => cases h; exact .tail _ (.head _)
  | 2 => cases h; exact .tail _ (.tail _ (.head _))
  | 3 => cases h; exact .tail _ (.tail _ (.tail _ (.head _)))
  | n + 4 => cases h
/-- a written dict of ints by texts -/
def WrtAt (K : PySem.W.Frag) (w : World) (a : Addr) (kvs : List (Str × Int)) : Prop := (a == sysModules) = false ∧ ∃ es n, K.lookup a = some ⟨.type "dict", none, .dict es n, #[]⟩ ∧ PySem.W.KeysLit w.params es.toList ∧
  ∀ z : Str, match kvs.lookup z with
    | some i => ∃ t, PySem.W.nsIn K a z = some (some (.int i t))
    | none => PySem.W.nsIn K a z = some none
section
variable {X : Cx} {G : List Fn} {ea eb : Expr} {ca : CE} {pos : Pos}
theorem g_fld {C : Addr} (T : BkTxt X.K C) {i j : Nat} {f : Str} (hj : bkN[j]? = some f) (ho : PE X eb (tR X.K G (.var i))) (hb : attributeBase eb f X.env (eval eb X.env) = eval eb X.env) : PE X (.Attribute eb f pos) (tR X.K G (.fld i j)) :=
  PE.weak (pe_fld ho hb) fun σ H Q ⟨Hf, fps, ρ, a, ρ', S, ee, q⟩ => by
    have ee : (match ρ[i]? with | some (.bk fs _) => (fs[j]?).map fun d => (Arg.val d, ρ) | _ => none) = some (a, ρ') := ee
    cases hr : ρ[i]? with
    | none => rw [hr] at ee; cases ee
    | some sl =>
      rw [hr] at ee
      cases sl with
      | emp => cases ee
      | val _ => cases ee
      | lst _ => cases ee
      | dct _ => cases ee
      | bk fs past =>
        obtain ⟨d, e1, e2⟩ := Option.map_eq_some_iff.mp (show (fs[j]?).map (fun d => (Arg.val d, ρ)) = some (a, ρ') from ee)
        cases e2
        refine ⟨Hf, fps, ρ, .own i, ρ, S, ?_, fun Hf1 fps1 H1 v g1 S1 a1 => ?_⟩
        · show (look ρ i).map (fun a => (a, ρ)) = _
          unfold look
          rw [hr]; rfl
        · obtain ⟨v', h1, C', p, q', dx, vs, xs, rfl, hf, hC, hp, hq, hx, hl, hd, hd2⟩ := S1.here i _ hr (fun z => nomatch z)
          have a1' : σ[i]? = some (some v) := a1
          rw [h1] at a1'
          cases a1'
          cases hC.inj T.is
          obtain ⟨y, hy, hlk⟩ := bk_look (q := q') hl hj
          obtain ⟨d', hd', dy⟩ := hd.getV hy
          rw [e1] at hd'
          cases hd'
          exact ⟨p, _, dx, _, y, rfl, hp, T.cl, T.no f (bk_mem hj), hlk, q Hf1 fps1 H1 y g1 S1 dy⟩
theorem g_atW {a : Addr} {kvs : List (Str × Int)} (W : WrtAt X.K X.w a kvs) (ho : PE X eb (tC (.ref a))) (ha : PE X ea (tR X.K G ca)) (hs : PlainIx ea) : PE X (.Subscript eb ea pos) (tR X.K G (.atW kvs ca)) :=
  PE.weak (pe_ix ix_kdict ho ha hs) fun σ H Q ⟨Hf, fps, ρ, x, ρ', S, ee, q⟩ => by
    obtain ⟨⟨x0, ρ1⟩, e1, ee⟩ := Option.bind_eq_some_iff.mp (show ((ev G ca ρ).bind fun p => match p.1 with | .val (.str z) => (kvs.lookup z).map fun i => (Arg.val (.int i), p.2) | _ => none) = some (x, ρ') from ee)
    dsimp only at ee
    split at ee
    · rename_i z
      obtain ⟨i, e2, e3⟩ := Option.map_eq_some_iff.mp ee
      cases e3
      refine ⟨Hf, fps, ρ, _, _, S, e1, fun Hf1 fps1 H1 v g1 S1 a1 => ?_⟩
      have a1' : Dq X.K Hf1 v (.str z) := a1
      cases a1'
      obtain ⟨_, es, n, h1, h2, h3⟩ := W
      have h3 := h3 z
      rw [e2] at h3
      obtain ⟨t, h3⟩ := h3
      exact ⟨a, z, .int i, rfl, rfl, ⟨es, n, _, h1, h2, h3, ⟨t, rfl⟩⟩, q Hf1 fps1 H1 _ g1 S1 (.int i)⟩
    · cases ee
def rInW (K : PySem.W.Frag) (w : World) : R2 := fun x y H Q => ∃ (a : Addr) (kvs : List (Str × Int)) (z : Str), x = .str z ∧ y = .ref a ∧ WrtAt K w a kvs ∧ Q (.bl (kvs.lookup z).isSome) H
theorem op_inW : OpR X (compareOp .In) (rInW X.K X.w) := by
  intro pins s σ H x y v u Q I rx ry h
  obtain ⟨a, kvs, z, rfl, rfl, ⟨hs, es, n, h1, h2, h3⟩, q⟩ := h
  obtain ⟨t, rfl⟩ := rx
  cases ry
  have hm := PySem.W.mapOf_K (prog := X.prog) (w := X.w) I.kIn h1 h2
  have h3 := h3 z
  have e : findBy Value.isStrOf es z = match kvs.lookup z with | some i => (findBy Value.isStrOf es z) | none => none := by
    cases e : kvs.lookup z with
    | some i => rfl
    | none =>
      rw [e] at h3
      exact PySem.W.find_K h1 h3
  refine wpAny_in_of (strKind_is X.prog X.w z t) hs hm ⟨.bl (kvs.lookup z).isSome, H, I.tok _, ?_, q⟩
  cases e2 : kvs.lookup z with
  | some i =>
    rw [e2] at h3
    obtain ⟨t', h3⟩ := h3
    rw [PySem.W.find_K h1 h3]; rfl
  | none =>
    rw [e2] at h3
    rw [PySem.W.find_K h1 h3]; rfl
theorem g_inW {a : Addr} {kvs : List (Str × Int)} (W : WrtAt X.K X.w a kvs) (ho : PE X eb (tC (.ref a))) (ha : PE X ea (tR X.K G ca)) (h : ∀ es k p, eb ≠ .Set es k p) : PE X (.Compare ea [.In] [eb] pos) (tR X.K G (.inW kvs ca)) :=
  PE.weak (pe_cmpR op_inW ha ho (no_marks h)) fun σ H Q ⟨Hf, fps, ρ, x, ρ', S, ee, q⟩ => by
    obtain ⟨⟨x0, ρ1⟩, e1, ee⟩ := Option.bind_eq_some_iff.mp (show ((ev G ca ρ).bind fun p => match p.1 with | .val (.str z) => some (Arg.val (.bool (kvs.lookup z).isSome), p.2) | _ => none) = some (x, ρ') from ee)
    dsimp only at ee
    split at ee
    · rename_i z
      cases ee
      refine ⟨Hf, fps, ρ, _, _, S, e1, fun Hf1 fps1 H1 v g1 S1 a1 => ?_⟩
      have a1' : Dq X.K Hf1 v (.str z) := a1
      cases a1'
      exact ⟨a, kvs, z, rfl, rfl, W, q Hf1 fps1 H1 _ g1 S1 (.bl _)⟩
    · cases ee
theorem inW_bool {kvs : List (Str × Int)} {ρ : Rho} {a : Arg} {ρ' : Rho} (ee : ev G (.inW kvs ca) ρ = some (a, ρ')) : ∃ z, a = .val (.bool z) := by
  obtain ⟨⟨x0, ρ1⟩, e1, ee⟩ := Option.bind_eq_some_iff.mp (show ((ev G ca ρ).bind fun p => match p.1 with | .val (.str z) => some (Arg.val (.bool (kvs.lookup z).isSome), p.2) | _ => none) = some (a, ρ') from ee)
  dsimp only at ee
  split at ee
  · cases ee; exact ⟨_, rfl⟩
  · cases ee
theorem inW_of {a : Addr} {kvs : List (Str × Int)} (W : WrtAt X.K X.w a kvs) {σ : L2.St} {H : Hp} {Q : VK} (h : tR X.K G (.inW kvs ca) σ H Q) : tOp (rInW X.K X.w) (tR X.K G ca) (tC (.ref a)) σ H Q := by
  obtain ⟨Hf, fps, ρ, x, ρ', S, ee, q⟩ := h
  obtain ⟨⟨x0, ρ1⟩, e1, ee⟩ := Option.bind_eq_some_iff.mp (show ((ev G ca ρ).bind fun p => match p.1 with | .val (.str z) => some (Arg.val (.bool (kvs.lookup z).isSome), p.2) | _ => none) = some (x, ρ') from ee)
  dsimp only at ee
  split at ee
  · rename_i z
    cases ee
    refine ⟨Hf, fps, ρ, _, _, S, e1, fun Hf1 fps1 H1 v g1 S1 a1 => ?_⟩
    have a1' : Dq X.K Hf1 v (.str z) := a1
    cases a1'
    exact ⟨a, kvs, z, rfl, rfl, W, q Hf1 fps1 H1 _ g1 S1 (.bl _)⟩
  · cases ee
theorem gt_inW {a : Addr} {kvs : List (Str × Int)} (W : WrtAt X.K X.w a kvs) (ho : PE X eb (tC (.ref a))) (ha : PE X ea (tR X.K G ca)) (h : ∀ es k p, eb ≠ .Set es k p) : PT X (.Compare ea [.In] [eb] pos) (tT X.K G (.tval (.inW kvs ca))) :=
  PT.weak (pt_cmpR op_inW ha ho (no_marks h)) fun σ H Q q => test_of (fun σ H Q h => inW_of W h) (fun ρ a ρ' h => inW_bool h) q
end
end Cor
set_option Elab.async false
set_option linter.all false
set_option maxRecDepth 100000
set_option maxHeartbeats 4000000
/-! Core 5: statements. -/
namespace Cor
open PySem PySem.Spec PyProof.Rows L2
open Evl (Ex ex_l ex_t)

mutual
inductive CS where
  | pas
  | exp (e : CE)
  | asg (i : Nat) (e : CE)
  | asgT (is : List Nat) (e : CE)
  | par2 (i j : Nat) (a b : CE)
  | par3 (i j l : Nat) (a b c : CE)
  | sub (i : Nat) (k e : CE)
  | divT (i : Nat) (k : CE) (j : Nat) (e : CE)
  | app (i : Nat) (e : CE)
  | ret (e : CE)
  | retN
  | ite (c : CT) (a b : CB)
  | frl (tg : Tg) (it : CI) (b : CB)
  | whl (c : CT) (b : CB)
  | brk
  | cnt
  | rai
  | rse (cls fld : Str) (e : CE)
  | rse0 (cls : Str)
  | calx (k : Nat) (es : CA)
  | fset (i j : Nat) (e : CE)
  | papp (i j : Nat)
inductive CB where
  | nil
  | cons (s : CS) (r : CB)
end
inductive Out where
  | nx (ρ : Rho)
  | rt (a : Arg) (ρ : Rho)
  | bk (ρ : Rho)
  | ct (ρ : Rho)
  | ex (c : Exn) (ρ : Rho)
def preA (ρ : Rho) : Arg → Option (Arg × Rho)
  | .fr s => some (.fr s, ρ)
  | .val d => some (.val d, ρ)
  | .own i => (frz ρ (.own i)).map fun p => (.val p.1, p.2)
def putA (i : Nat) (y : Arg) (ρ : Rho) : Option Rho :=
  if i < ρ.length then match y with
    | .val d => some (ρ.set i (.val d))
    | .fr s => some (ρ.set i s)
    | .own _ => none
  else none
def stoA (i : Nat) (kd d : PyData) (ρ : Rho) : Option Rho := (ρ[i]?).bind fun sl => (storeS sl kd d).map fun sl' => ρ.set i sl'
/-- the slot owns its object -/
def ownR (ρ : Rho) (i : Nat) : Option Unit := match ρ[i]? with
  | some (.lst _) => some ()
  | some (.dct _) => some ()
  | _ => none
def lisR (ρ : Rho) (i : Nat) : Option Unit := match ρ[i]? with
  | some (.lst _) => some ()
  | _ => none
def forGo (asg : PyData → Rho → Option Rho) (fb : Rho → Option Out) : List PyData → Rho → Option Out
  | [], ρ => some (.nx ρ)
  | d :: r, ρ => (asg d ρ).bind fun ρ1 => (fb ρ1).bind fun o => match o with
    | .nx ρ2 => forGo asg fb r ρ2
    | .ct ρ2 => forGo asg fb r ρ2
    | .bk ρ2 => some (.nx ρ2)
    | .rt a ρ2 => some (.rt a ρ2)
    | .ex c ρ2 => some (.ex c ρ2)
def whlGo (fc : Rho → Option (Bool × Rho)) (fb : Rho → Option Out) : Nat → Rho → Option Out
  | 0, _ => none
  | n + 1, ρ => (fc ρ).bind fun p => if p.1 = true then (fb p.2).bind fun o => match o with
      | .nx ρ2 => whlGo fc fb n ρ2
      | .ct ρ2 => whlGo fc fb n ρ2
      | .bk ρ2 => some (.nx ρ2)
      | .rt a ρ2 => some (.rt a ρ2)
      | .ex c ρ2 => some (.ex c ρ2)
    else some (.nx p.2)
mutual
def ex (G : List Fn) (fu : Nat) : CS → Rho → Option Out
  | .pas, ρ => some (.nx ρ)
  | .exp e, ρ => (ev G e ρ).map fun p => .nx p.2
  | .asg i e, ρ => (ev G e ρ).bind fun p => (preA p.2 p.1).bind fun p2 => (putA i p2.1 p2.2).map .nx
  | .asgT is e, ρ => (ev G e ρ).bind fun p => (frz p.2 p.1).bind fun p2 => (asgT (.tp is) p2.1 p2.2).map .nx
  | .par2 i j a b, ρ => (ev G a ρ).bind fun p => (ev G b p.2).bind fun q => (preA q.2 p.1).bind fun p' => (preA p'.2 q.1).bind fun q' => (putA i p'.1 q'.2).bind fun ρ1 => (putA j q'.1 ρ1).map .nx
  | .par3 i j l a b c, ρ => (ev G a ρ).bind fun p => (ev G b p.2).bind fun q => (ev G c q.2).bind fun r => (preA r.2 p.1).bind fun p' => (preA p'.2 q.1).bind fun q' => (preA q'.2 r.1).bind fun r' =>
      (putA i p'.1 r'.2).bind fun ρ1 => (putA j q'.1 ρ1).bind fun ρ2 => (putA l r'.1 ρ2).map .nx
  | .sub i k e, ρ => (ev G e ρ).bind fun p => (frz p.2 p.1).bind fun p2 => (ownR p2.2 i).bind fun _ => (ev G k p2.2).bind fun p4 => (frz p4.2 p4.1).bind fun p5 => (stoA i p5.1 p2.1 p5.2).map .nx
  | .divT i k j e, ρ => (ev G e ρ).bind fun p => match p.1 with
    | .val (.tuple [x, y]) => (ownR p.2 i).bind fun _ => (ev G k p.2).bind fun p4 => (frz p4.2 p4.1).bind fun p5 => (stoA i p5.1 x p5.2).bind fun ρ1 => (putA j (.val y) ρ1).map .nx
    | _ => none
  | .app i e, ρ => (lisR ρ i).bind fun _ => (ev G e ρ).bind fun p => (frz p.2 p.1).bind fun p2 => match p2.2[i]? with
    | some (.lst ds) => if sm ds then some (.nx (p2.2.set i (.lst (ds ++ [p2.1])))) else none
    | _ => none
  | .ret e, ρ => (ev G e ρ).map fun p => .rt p.1 p.2
  | .retN, ρ => some (.rt (.val .none) ρ)
  | .ite c a b, ρ => (evT G c ρ).bind fun p => if p.1 = true then exB G fu a p.2 else exB G fu b p.2
  | .frl tg it b, ρ => (evI G it ρ).bind fun p => forGo (asgT tg) (exB G fu b) p.1 p.2
  | .whl c b, ρ => whlGo (evT G c) (exB G fu b) fu ρ
  | .brk, ρ => some (.bk ρ)
  | .cnt, ρ => some (.ct ρ)
  | .rai, _ => none
  | .rse cls fld e, ρ => (ev G e ρ).bind fun p => (frz p.2 p.1).map fun p2 => .ex ⟨cls, fld, p2.1⟩ p2.2
  | .rse0 cls, ρ => some (.ex ⟨cls, "", .none⟩ ρ)
  | .fset i j e, ρ => (ev G e ρ).bind fun p => (frz p.2 p.1).bind fun p2 => match p2.2[i]? with
    | some (.bk fs past) => if j < fs.length then some (.nx (p2.2.set i (.bk (fs.set j p2.1) past))) else none
    | _ => none
  | .papp i j, ρ => match ρ[i]? with
    | some (.bk fs past) => (fs[j]?).bind fun d => if sm past then some (.nx (ρ.set i (.bk fs (past ++ [d])))) else none
    | _ => none
  | .calx k es, ρ => match G[k]? with
    | some (.rai f) => (evF G es ρ).bind fun p => (f p.1).map fun r => match r with
      | .ok _ => .nx p.2
      | .error c => .ex c p.2
    | _ => none
def exB (G : List Fn) (fu : Nat) : CB → Rho → Option Out
  | .nil, ρ => some (.nx ρ)
  | .cons s r, ρ => (ex G fu s ρ).bind fun o => match o with
    | .nx ρ1 => exB G fu r ρ1
    | .rt a ρ1 => some (.rt a ρ1)
    | .bk ρ1 => some (.bk ρ1)
    | .ct ρ1 => some (.ct ρ1)
    | .ex c ρ1 => some (.ex c ρ1)
end

/-! ### readings -/
/-- the slots that are kept -/
def Kps (kp : Nat → Bool) (σ σ' : L2.St) : Prop := ∀ i, kp i = true → σ'[i]? = σ[i]?
theorem Kps.refl {kp : Nat → Bool} {σ : L2.St} : Kps kp σ σ := fun _ _ => rfl
theorem Kps.trans {kp : Nat → Bool} {σ σ1 σ2 : L2.St} (a : Kps kp σ σ1) (b : Kps kp σ1 σ2) : Kps kp σ σ2 := fun i h => (b i h).trans (a i h)
theorem Kps.set {kp : Nat → Bool} {σ : L2.St} {i : Nat} {v : Option V} (h : kp i = false) : Kps kp σ (σ.set i v) := fun j hj => by
  have : i ≠ j := fun z => by subst z; rw [h] at hj; cases hj
  rw [List.getElem?_set_ne this]
theorem Kps.wipes {kp : Nat → Bool} {σ σ' : L2.St} {vs : List Nat} (h : vs.all (fun i => !kp i) = true) (w : L2.wipe σ' vs = L2.wipe σ vs) : Kps kp σ σ' := fun j hj => by
  have hn : j ∉ vs := fun z => by
    have := List.all_eq_true.mp h j z
    rw [hj] at this; cases this
  have := congrArg (·[j]?) w
  simp only [wipe_get, if_neg hn] at this
  exact this
def post (K : PySem.W.Frag) (W : WX) (kp : Nat → Bool) (Hf : Hp) (fps : Fps) (H : Hp) (σ : L2.St) (D : Ends) : Out → Prop
  | .nx ρ' => ∀ Hf' fps' σ' H', Go Hf fps H Hf' fps' H' → SR K Hf' fps' σ' H' ρ' → Kps kp σ σ' → D.nx σ' H'
  | .rt a ρ' => ∀ Hf' fps' σ' H' v, Go Hf fps H Hf' fps' H' → SR K Hf' fps' σ' H' ρ' → AR K H Hf' fps' H' σ' a v → Kps kp σ σ' → D.rt v H'
  | .bk ρ' => ∀ Hf' fps' σ' H', Go Hf fps H Hf' fps' H' → SR K Hf' fps' σ' H' ρ' → Kps kp σ σ' → D.bk σ' H'
  | .ct ρ' => ∀ Hf' fps' σ' H', Go Hf fps H Hf' fps' H' → SR K Hf' fps' σ' H' ρ' → Kps kp σ σ' → D.ct σ' H'
  | .ex c ρ' => ∀ Hf' fps' σ' H' cls d, Go Hf fps H Hf' fps' H' → SR K Hf' fps' σ' H' ρ' → ExAt K Hf' H' c cls d → Kps kp σ σ' → W cls d σ' H'
theorem post.go {K : PySem.W.Frag} {W : WX} {kp : Nat → Bool} {Hf Hf1 H H1 : Hp} {fps fps1 : Fps} {σ σ1 : L2.St} {D : Ends} {o : Out} (g : Go Hf fps H Hf1 fps1 H1) (k : Kps kp σ σ1) (h : post K W kp Hf fps H σ D o) : post K W kp Hf1 fps1 H1 σ1 D o := by
  cases o with
  | nx ρ => exact fun Hf' fps' σ' H' g' S' k' => h Hf' fps' σ' H' (g.trans g') S' (k.trans k')
  | rt a ρ => exact fun Hf' fps' σ' H' v g' S' a' k' => h Hf' fps' σ' H' v (g.trans g') S' (a'.elder g.th) (k.trans k')
  | bk ρ => exact fun Hf' fps' σ' H' g' S' k' => h Hf' fps' σ' H' (g.trans g') S' (k.trans k')
  | ct ρ => exact fun Hf' fps' σ' H' g' S' k' => h Hf' fps' σ' H' (g.trans g') S' (k.trans k')
  | ex c ρ => exact fun Hf' fps' σ' H' cls d g' S' x' k' => h Hf' fps' σ' H' cls d (g.trans g') S' x' (k.trans k')
def tS (K : PySem.W.Frag) (W : WX) (G : List Fn) (fu : Nat) (kp : Nat → Bool) (c : CS) : TS := fun D σ H => ∃ Hf fps ρ o, SR K Hf fps σ H ρ ∧ ex G fu c ρ = some o ∧ post K W kp Hf fps H σ D o
def tB (K : PySem.W.Frag) (W : WX) (G : List Fn) (fu : Nat) (kp : Nat → Bool) (c : CB) : TS := fun D σ H => ∃ Hf fps ρ o, SR K Hf fps σ H ρ ∧ exB G fu c ρ = some o ∧ post K W kp Hf fps H σ D o
section
variable {X : Cx} {st : Stmt} {sts : List Stmt}
theorem PS.weak {t t' : TS} (h : PS X st t) (i : ∀ D σ H, t' D σ H → t D σ H) : PS X st t' := ⟨fun pins s σ H D I q => h.run pins s σ H D I (i _ _ _ q)⟩
theorem PSs.weak {t t' : TS} (h : PSs X sts t) (i : ∀ D σ H, t' D σ H → t D σ H) : PSs X sts t' := ⟨fun pins s σ H D I q => h.run pins s σ H D I (i _ _ _ q)⟩
theorem PS.or {t t' : TS} (h : PS X st t) (h' : PS X st t') : PS X st (fun D σ H => t D σ H ∨ t' D σ H) := ⟨fun pins s σ H D I q => q.elim (h.run pins s σ H D I) (h'.run pins s σ H D I)⟩
end

section
variable {K : PySem.W.Frag} {Hf Hf' Hf0 : Hp} {fps fps0 : Fps} {σ : L2.St} {H H' H0 H1 : Hp} {ρ ρ' : Rho}
/-- an owned slot's object is written -/
theorem SR.write (S : SR K Hf fps σ H ρ) {i : Nat} {p : Addr} {o : HO} {v : V} {sl' : Sl} (hi : i < ρ.length) (hp : fps i = [p]) (hv : σ[i]? = some (some v)) (ow : OwnAt K Hf (upd H p o) sl' v [p]) (ne : sl' ≠ .emp) : SR K Hf fps σ (upd H p o) (ρ.set i sl') := by
  have hpi : p ∈ fps i := by rw [hp]; simp
  refine ⟨S.ex.mut (S.nof i p hpi), by rw [List.length_set]; exact S.len, fun j sl e nej => ?_, fun j hj => ?_, S.nof, S.dis⟩
  · by_cases hji : j = i
    · subst hji
      rw [get_set_eq hi] at e
      cases e
      rw [hp]
      exact ⟨v, hv, ow⟩
    · rw [List.getElem?_set_ne (Ne.symm hji)] at e
      obtain ⟨w, e1, o1⟩ := S.here j sl e nej
      refine ⟨w, e1, o1.keep (.refl _) fun a ha ob q => ?_⟩
      have : a ≠ p := fun z => hji (S.dis j i a ha (z ▸ hpi))
      rw [upd_ne this]; exact q
  · by_cases hji : j = i
    · subst hji
      exact absurd (hj sl' (get_set_eq hi)) ne
    · exact S.gone j fun sl e => hj sl (by rw [List.getElem?_set_ne (Ne.symm hji)]; exact e)
theorem Go.write (g : Go Hf0 fps0 H0 Hf fps H) {i : Nat} {p : Addr} {o : HO} (hp : p ∈ fps i) : Go Hf0 fps0 H0 Hf fps (upd H p o) :=
  ⟨g.fz, fun a u h1 h2 h3 => by
    obtain ⟨q1, q2, q3⟩ := g.fo a u h1 h2 h3
    have : a ≠ p := fun z => q3 i (z ▸ hp)
    exact ⟨by rw [upd_ne this]; exact q1, q2, q3⟩, fun a u q => by
    obtain ⟨o', e⟩ := g.th a u q
    by_cases ha : a = p
    · subst ha; exact ⟨o, upd_same⟩
    · exact ⟨o', by rw [upd_ne ha]; exact e⟩⟩
/-- ahead of a store: a value, or a new object -/
theorem SR.pre (S : SR K Hf fps σ H ρ) (g : Go Hf0 fps0 H0 Hf fps H) {x y : Arg} {v : V} (h : AR K H1 Hf fps H σ x v) (e : preA ρ x = some (y, ρ')) :
    ∃ Hf' fps', Go Hf0 fps0 H0 Hf' fps' H ∧ Go Hf fps H Hf' fps' H ∧ SR K Hf' fps' σ H ρ' ∧ AR K H1 Hf' fps' H σ y v ∧ ∀ i, y ≠ .own i := by
  cases x with
  | val d =>
    cases e
    exact ⟨Hf, fps, g, .refl, S, h, fun i z => nomatch z⟩
  | fr s =>
    cases e
    exact ⟨Hf, fps, g, .refl, S, h, fun i z => nomatch z⟩
  | own i =>
    obtain ⟨p, e1, e2⟩ := Option.map_eq_some_iff.mp (show (Cor.frz ρ (.own i)).map (fun p => (Arg.val p.1, p.2)) = some (y, ρ') from e)
    cases e2
    obtain ⟨Hf', fps', g', S', d'⟩ := S.frz (Hf0 := Hf) (fps0 := fps) (H0 := H) .refl (a := .own i) h e1
    exact ⟨Hf', fps', g.trans g', g', S', d', fun i z => nomatch z⟩
/-- a store to a name; fp: what is owned from now on -/
theorem SR.putA (S : SR K Hf fps σ H ρ) (g : Go Hf0 fps0 H0 Hf fps H) {i : Nat} {y : Arg} {v : V} (h : AR K H1 Hf fps H σ y v) (ht : ∀ a, H1 a = none → H0 a = none) (e : Cor.putA i y ρ = some ρ') :
    ∃ fps', Go Hf0 fps0 H0 Hf fps' H ∧ SR K Hf fps' (σ.set i (some v)) H ρ' ∧ ∀ j a, a ∈ fps' j → a ∈ fps j ∨ H1 a = none := by
  unfold Cor.putA at e
  split at e
  · rename_i hi
    cases y with
    | val d =>
      cases e
      refine ⟨setF fps i [], g.put (fun a ha => by simp at ha), S.put hi (fun z => nomatch z) ⟨rfl, h⟩ (fun a ha => by simp at ha), fun j a ha => ?_⟩
      by_cases hj : j = i
      · subst hj; rw [setF_eq] at ha; simp at ha
      · rw [setF_ne hj] at ha; exact .inl ha
    | own j => cases e
    | fr s =>
      cases e
      obtain ⟨ne, fp, ow, q⟩ := h
      refine ⟨setF fps i fp, g.put fun a ha => .inr (ht a (q a ha).1), S.put hi ne ow fun a ha => ⟨(q a ha).2.1, fun j _ => (q a ha).2.2 j⟩, fun j a ha => ?_⟩
      by_cases hj : j = i
      · subst hj; rw [setF_eq] at ha; exact .inr (q a ha).1
      · rw [setF_ne hj] at ha; exact .inl ha
  · cases e
end
end Cor
set_option Elab.async false
set_option linter.all false
set_option maxRecDepth 100000
set_option maxHeartbeats 4000000
/-! Core 5b: rules of statements. -/
namespace Cor
open PySem PySem.Spec PyProof.Rows L2
open Evl (Ex ex_l ex_t)
section
variable {X : Cx} {G : List Fn} {fu : Nat} {kp : Nat → Bool} {W : WX} {st : Stmt} {sts sts2 : List Stmt} {pos px py pz pt : Pos} {ea eb ec : Expr} {ca cb cc : CE} {s : CS} {b b2 : CB} {ct : CT}
theorem s_nil : PSs X [] (tB X.K W G fu kp .nil) := PSs.weak pss_nil fun D σ H ⟨Hf, fps, ρ, o, S, e, q⟩ => by
  cases (show some (Out.nx ρ) = some o from e)
  exact q Hf fps σ H .refl S .refl
theorem s_cons (h1 : PS X st (tS X.K W G fu kp s)) (h2 : PSs X sts (tB X.K W G fu kp b)) : PSs X (st :: sts) (tB X.K W G fu kp (.cons s b)) := PSs.weak (pss_cons h1 h2) fun D σ H ⟨Hf, fps, ρ, o, S, e, q⟩ => by
  obtain ⟨o1, e1, e2⟩ := Option.bind_eq_some_iff.mp e
  cases o1 with
  | nx ρ1 => exact ⟨Hf, fps, ρ, .nx ρ1, S, e1, fun Hf' fps' σ' H' g' S' k' => ⟨Hf', fps', ρ1, o, S', e2, q.go g' k'⟩⟩
  | rt a ρ1 => cases e2; exact ⟨Hf, fps, ρ, _, S, e1, q⟩
  | bk ρ1 => cases e2; exact ⟨Hf, fps, ρ, _, S, e1, q⟩
  | ct ρ1 => cases e2; exact ⟨Hf, fps, ρ, _, S, e1, q⟩
  | ex c ρ1 => cases e2; exact ⟨Hf, fps, ρ, _, S, e1, q⟩
theorem s_pas : PS X (.Pass pos) (tS X.K W G fu kp .pas) := PS.weak ps_pass fun D σ H ⟨Hf, fps, ρ, o, S, e, q⟩ => by
  cases (show some (Out.nx ρ) = some o from e)
  exact q Hf fps σ H .refl S .refl
theorem s_doc {x j pos pos'} : PS X (.Expr (.Constant (.str x) j pos) pos') (tS X.K W G fu kp .pas) := PS.weak ps_doc fun D σ H ⟨Hf, fps, ρ, o, S, e, q⟩ => by
  cases (show some (Out.nx ρ) = some o from e)
  exact q Hf fps σ H .refl S .refl
theorem s_brk : PS X (.Break pos) (tS X.K W G fu kp .brk) := PS.weak ps_break fun D σ H ⟨Hf, fps, ρ, o, S, e, q⟩ => by
  cases (show some (Out.bk ρ) = some o from e)
  exact q Hf fps σ H .refl S .refl
theorem s_cnt : PS X (.Continue pos) (tS X.K W G fu kp .cnt) := PS.weak ps_continue fun D σ H ⟨Hf, fps, ρ, o, S, e, q⟩ => by
  cases (show some (Out.ct ρ) = some o from e)
  exact q Hf fps σ H .refl S .refl
theorem s_rai : PS X st (tS X.K W G fu kp .rai) := PS.weak ps_never fun D σ H ⟨Hf, fps, ρ, o, S, e, q⟩ => by
  cases (show none = some o from e)
theorem s_exp (ha : PE X ea (tR X.K G ca)) (hs : swapsWith ea none pos.line X.env = pure false) : PS X (.Expr ea pos) (tS X.K W G fu kp (.exp ca)) := PS.weak (ps_expr ha hs) fun D σ H ⟨Hf, fps, ρ, o, S, e, q⟩ => by
  obtain ⟨⟨x, ρ1⟩, e1, e2⟩ := Option.map_eq_some_iff.mp (show (ev G ca ρ).map (fun p => Out.nx p.2) = some o from e)
  cases e2
  exact ⟨Hf, fps, ρ, x, ρ1, S, e1, fun Hf1 fps1 H1 v g1 S1 a1 => q Hf1 fps1 σ H1 g1 S1 .refl⟩
theorem s_ret (ha : PE X ea (tR X.K G ca)) : PS X (.Return (some ea) pos) (tS X.K W G fu kp (.ret ca)) := PS.weak (ps_ret ha) fun D σ H ⟨Hf, fps, ρ, o, S, e, q⟩ => by
  obtain ⟨⟨x, ρ1⟩, e1, e2⟩ := Option.map_eq_some_iff.mp (show (ev G ca ρ).map (fun p => Out.rt p.1 p.2) = some o from e)
  cases e2
  exact ⟨Hf, fps, ρ, x, ρ1, S, e1, fun Hf1 fps1 H1 v g1 S1 a1 => q Hf1 fps1 σ H1 v g1 S1 a1 .refl⟩
theorem s_retN : PS X (.Return none pos) (tS X.K W G fu kp .retN) := PS.weak ps_retN fun D σ H ⟨Hf, fps, ρ, o, S, e, q⟩ => by
  cases (show some (Out.rt (.val .none) ρ) = some o from e)
  exact q Hf fps σ H .non .refl S .non .refl
theorem s_ite (hc : PT X ec (tT X.K G ct)) (ha : PSs X sts (tB X.K W G fu kp b)) (hb : PSs X sts2 (tB X.K W G fu kp b2)) : PS X (.If ec sts sts2 pos) (tS X.K W G fu kp (.ite ct b b2)) := PS.weak (ps_if hc ha hb) fun D σ H ⟨Hf, fps, ρ, o, S, e, q⟩ => by
  obtain ⟨⟨t, ρ1⟩, e1, e2⟩ := Option.bind_eq_some_iff.mp (show ((evT G ct ρ).bind fun p => if p.1 = true then exB G fu b p.2 else exB G fu b2 p.2) = some o from e)
  refine ⟨Hf, fps, ρ, t, ρ1, S, e1, fun Hf1 fps1 H1 g1 S1 => ?_⟩
  cases t with
  | true => exact ⟨Hf1, fps1, ρ1, o, S1, e2, q.go g1 .refl⟩
  | false => exact ⟨Hf1, fps1, ρ1, o, S1, e2, q.go g1 .refl⟩
/-- name = e -/
theorem asg_of {i : Nat} (hkp : kp i = false) {D : Ends} {σ : L2.St} {H : Hp} (h : tS X.K W G fu kp (.asg i ca) D σ H) : tAsg (tR X.K G ca) (gName i) D σ H := by
  obtain ⟨Hf, fps, ρ, o, S, e, q⟩ := h
  obtain ⟨⟨x, ρ1⟩, e1, e⟩ := Option.bind_eq_some_iff.mp (show ((ev G ca ρ).bind fun p => (preA p.2 p.1).bind fun p2 => (putA i p2.1 p2.2).map .nx) = some o from e)
  obtain ⟨⟨y, ρ2⟩, e2, e⟩ := Option.bind_eq_some_iff.mp e
  obtain ⟨ρ3, e3, e4⟩ := Option.map_eq_some_iff.mp e
  cases e4
  refine ⟨Hf, fps, ρ, x, ρ1, S, e1, fun Hf1 fps1 H1 v g1 S1 a1 => ?_⟩
  obtain ⟨Hf2, fps2, g2, g2', S2, a2, n2⟩ := S1.pre g1 a1 e2
  obtain ⟨fps3, g3, S3, _⟩ := S2.putA g2 a2 (fun a h => h) e3
  exact q Hf2 fps3 _ H1 g3 S3 (.set hkp)
theorem s_asg {i : Nat} {x : Str} (hkp : kp i = false) (hN : X.N.Nodup) (hi : X.N[i]? = some x) (hx : Loc X.env.scope x) (hf : X.fn x = true ∨ X.env.scope.names.lookup x = some .local) (ha : PE X ea (tR X.K G ca)) (hs : swapsWith ea (some (.Name x px)) pos.line X.env = pure false) :
    PS X (.Assign [.Name x px] ea pos) (tS X.K W G fu kp (.asg i ca)) := PS.weak (ps_set hN hi hx ha hs hf) fun D σ H h => asg_of hkp h
/-- names = a tuple -/
theorem s_asgT {is : List Nat} (hkp : is.all (fun i => !kp i) = true) {es : List Expr} {kk : Nat} (ha : PE X ea (tR X.K G ca)) (hg : PG X (.Tuple es kk pt) (gTg X.K (.tp is))) (hw : swappedStores [.Tuple es kk pt] ea X.env = pure none) (hs : swapsWithSole [.Tuple es kk pt] ea pos.line X.env = pure false)
    (h1 : (assignEach [.Tuple es kk pt] X.env).map (·.2) = [assign (.Tuple es kk pt) X.env]) : PS X (.Assign [.Tuple es kk pt] ea pos) (tS X.K W G fu kp (.asgT is ca)) := PS.weak (ps_asg ha hg hs hw h1) fun D σ H ⟨Hf, fps, ρ, o, S, e, q⟩ => by
  obtain ⟨⟨x, ρ1⟩, e1, e⟩ := Option.bind_eq_some_iff.mp (show ((ev G ca ρ).bind fun p => (frz p.2 p.1).bind fun p2 => (asgT (.tp is) p2.1 p2.2).map .nx) = some o from e)
  obtain ⟨⟨d, ρ2⟩, e2, e⟩ := Option.bind_eq_some_iff.mp e
  obtain ⟨ρ3, e3, e4⟩ := Option.map_eq_some_iff.mp e
  cases e4
  refine ⟨Hf, fps, ρ, x, ρ1, S, e1, fun Hf1 fps1 H1 v g1 S1 a1 => ?_⟩
  obtain ⟨Hf2, fps2, g2, S2, d2⟩ := S1.frz g1 a1 e2
  exact asg_tg S2 d2 e3 fun fps3 σ3 g3 S3 w => q Hf2 fps3 σ3 H1 (g2.trans g3) S3 (.wipes hkp (w is (List.all_eq_true.mpr fun i hi => decide_eq_true hi)))
end
/-! ### several targets: new objects told apart -/
def ARP (K : PySem.W.Frag) (P : Addr → Prop) (Hf : Hp) (fps : Fps) (H : Hp) (σ : L2.St) (a : Arg) (v : V) : Prop := match a with
  | .val d => Dq K Hf v d
  | .own i => σ[i]? = some (some v)
  | .fr sl => sl ≠ .emp ∧ ∃ fp, OwnAt K Hf H sl v fp ∧ ∀ a ∈ fp, P a ∧ Hf a = none ∧ ∀ i, a ∉ fps i
theorem AR.toP {K : PySem.W.Frag} {H0 Hf H : Hp} {fps : Fps} {σ : L2.St} {a : Arg} {v : V} (h : AR K H0 Hf fps H σ a v) : ARP K (fun b => H0 b = none ∧ ∃ o, H b = some o) Hf fps H σ a v := by
  cases a with
  | val d => exact h
  | own i => exact h
  | fr sl =>
    obtain ⟨ne, fp, o, q⟩ := h
    exact ⟨ne, fp, o, fun b hb => ⟨⟨(q b hb).1, o.there hb⟩, (q b hb).2⟩⟩
section
variable {K : PySem.W.Frag} {Hf Hf' Hf0 : Hp} {fps fps' fps0 : Fps} {σ σ' : L2.St} {H H' H0 H1 : Hp} {ρ ρ' : Rho} {P Q : Addr → Prop}
theorem ARP.go {a : Arg} {v : V} (g : Go Hf fps H Hf' fps' H') (h : ARP K P Hf fps H σ a v) : ARP K P Hf' fps' H' σ a v := by
  cases a with
  | val d => exact Dq.mono g.fz _ _ h
  | own i => exact h
  | fr sl =>
    obtain ⟨ne, fp, o, q⟩ := h
    refine ⟨ne, fp, o.keep g.fz fun a ha ob e => (g.fo a ob e (q a ha).2.1 (q a ha).2.2).1, fun a ha => ?_⟩
    obtain ⟨ob, e⟩ := o.there ha
    exact ⟨(q a ha).1, (g.fo a ob e (q a ha).2.1 (q a ha).2.2).2⟩
theorem SR.preP (S : SR K Hf fps σ H ρ) (g : Go Hf0 fps0 H0 Hf fps H) {x y : Arg} {v : V} (h : ARP K P Hf fps H σ x v) (e : preA ρ x = some (y, ρ')) :
    ∃ Hf' fps', Go Hf0 fps0 H0 Hf' fps' H ∧ Go Hf fps H Hf' fps' H ∧ SR K Hf' fps' σ H ρ' ∧ ARP K P Hf' fps' H σ y v ∧ ∀ i, y ≠ .own i := by
  cases x with
  | val d =>
    cases e
    exact ⟨Hf, fps, g, .refl, S, h, fun i z => nomatch z⟩
  | fr s =>
    cases e
    exact ⟨Hf, fps, g, .refl, S, h, fun i z => nomatch z⟩
  | own i =>
    obtain ⟨p, e1, e2⟩ := Option.map_eq_some_iff.mp (show (Cor.frz ρ (.own i)).map (fun p => (Arg.val p.1, p.2)) = some (y, ρ') from e)
    cases e2
    obtain ⟨Hf', fps', g', S', d'⟩ := S.frz (Hf0 := Hf) (fps0 := fps) (H0 := H) .refl (a := .own i) h e1
    exact ⟨Hf', fps', g.trans g', g', S', d', fun i z => nomatch z⟩
theorem SR.putP (S : SR K Hf fps σ H ρ) (g : Go Hf0 fps0 H0 Hf fps H) {i : Nat} {y : Arg} {v : V} (h : ARP K P Hf fps H σ y v) (ht : ∀ a, P a → H0 a = none) (e : Cor.putA i y ρ = some ρ') :
    ∃ fps', Go Hf0 fps0 H0 Hf fps' H ∧ SR K Hf fps' (σ.set i (some v)) H ρ' ∧ ∀ j a, a ∈ fps' j → a ∈ fps j ∨ P a := by
  unfold Cor.putA at e
  split at e
  · rename_i hi
    cases y with
    | val d =>
      cases e
      refine ⟨setF fps i [], g.put (fun a ha => by simp at ha), S.put hi (fun z => nomatch z) ⟨rfl, h⟩ (fun a ha => by simp at ha), fun j a ha => ?_⟩
      by_cases hj : j = i
      · subst hj; rw [setF_eq] at ha; simp at ha
      · rw [setF_ne hj] at ha; exact .inl ha
    | own j => cases e
    | fr s =>
      cases e
      obtain ⟨ne, fp, ow, q⟩ := h
      refine ⟨setF fps i fp, g.put fun a ha => .inr (ht a (q a ha).1), S.put hi ne ow fun a ha => ⟨(q a ha).2.1, fun j _ => (q a ha).2.2 j⟩, fun j a ha => ?_⟩
      by_cases hj : j = i
      · subst hj; rw [setF_eq] at ha; exact .inr (q a ha).1
      · rw [setF_ne hj] at ha; exact .inl ha
  · cases e
theorem ARP.put {y : Arg} {v : V} (h : ARP K Q Hf fps H σ y v) (hy : ∀ i, y ≠ .own i) (hd : ∀ a, Q a → ¬ P a) (hf : ∀ j a, a ∈ fps' j → a ∈ fps j ∨ P a) : ARP K Q Hf fps' H σ' y v := by
  cases y with
  | val d => exact h
  | own i => exact absurd rfl (hy i)
  | fr s =>
    obtain ⟨ne, fp, ow, q⟩ := h
    refine ⟨ne, fp, ow, fun a ha => ⟨(q a ha).1, (q a ha).2.1, fun i hi => ?_⟩⟩
    rcases hf i a hi with z | z
    · exact (q a ha).2.2 i z
    · exact hd a (q a ha).1 z
end
section
variable {X : Cx} {G : List Fn} {fu : Nat} {kp : Nat → Bool} {W : WX} {st : Stmt} {sts sts2 : List Stmt} {pos px py pz pt : Pos} {ea eb ec : Expr} {ca cb cc : CE} {s : CS} {b b2 : CB} {ct : CT}
/-- a, b = x, y -/
theorem s_par2 {i j : Nat} (ki : kp i = false) (kj : kp j = false) {x y : Str} {kt k2 : Nat} {pt2 : Pos} (hc : X.calm = true) (hN : X.N.Nodup) (hi : X.N[i]? = some x) (hj : X.N[j]? = some y) (hij : i ≠ j)
    (hx : X.env.scope.names.lookup x = some .local) (hy : X.env.scope.names.lookup y = some .local) (ha : PE X ea (tR X.K G ca)) (hb : PE X eb (tR X.K G cb)) (ns : ∀ x p, ea ≠ .Starred x p) (ns2 : ∀ x p, eb ≠ .Starred x p)
    (hw : swappedStores [.Tuple [.Name x px, .Name y py] kt pt] (.Tuple [ea, eb] k2 pt2) X.env = pure (some [x, y])) :
    PS X (.Assign [.Tuple [.Name x px, .Name y py] kt pt] (.Tuple [ea, eb] k2 pt2) pos) (tS X.K W G fu kp (.par2 i j ca cb)) :=
  PS.weak (ps_par hc hN hi hj hij hx hy (pa_cons ha (pa_cons hb pa_nil (star_no ns2)) (star_no ns)) hw) fun D σ H ⟨Hf, fps, ρ, o, S, e, q⟩ => by
    obtain ⟨⟨x, ρ1⟩, e1, e⟩ := Option.bind_eq_some_iff.mp (show ((ev G ca ρ).bind fun p => (ev G cb p.2).bind fun q => (preA q.2 p.1).bind fun p' => (preA p'.2 q.1).bind fun q' => (putA i p'.1 q'.2).bind fun ρ1 => (putA j q'.1 ρ1).map .nx) = some o from e)
    obtain ⟨⟨y, ρ2⟩, e2, e⟩ := Option.bind_eq_some_iff.mp e
    obtain ⟨⟨x', ρ3⟩, e3, e⟩ := Option.bind_eq_some_iff.mp e
    obtain ⟨⟨y', ρ4⟩, e4, e⟩ := Option.bind_eq_some_iff.mp e
    obtain ⟨ρ5, e5, e⟩ := Option.bind_eq_some_iff.mp e
    obtain ⟨ρ6, e6, e7⟩ := Option.map_eq_some_iff.mp e
    cases e7
    refine ⟨Hf, fps, ρ, x, ρ1, S, e1, fun Hf1 fps1 H1 v g1 S1 a1 => ⟨Hf1, fps1, ρ1, y, ρ2, S1, e2, fun Hf2 fps2 H2 w g2 S2 b2 => ⟨v, w, rfl, ?_⟩⟩⟩
    obtain ⟨Hf3, fps3, g3, g3', S3, a3, n3⟩ := S2.preP (g1.trans g2) (a1.toP.go g2) e3
    obtain ⟨Hf4, fps4, g4, g4', S4, b4, n4⟩ := S3.preP g3 (b2.toP.go g3') e4
    obtain ⟨fps5, g5, S5, f5⟩ := S4.putP g4 (a3.go g4') (fun a h => h.1) e5
    have b5 := b4.put (σ' := σ.set i (some v)) n4 (fun a h z => by obtain ⟨_, o', z⟩ := z; rw [h.1] at z; cases z) f5
    obtain ⟨fps6, g6, S6, _⟩ := S5.putP g5 b5 (fun a h => back_none g1 h.1) e6
    exact q Hf4 fps6 _ H2 g6 S6 (.trans (.set ki) (.set kj))
theorem s_par3 {i j l : Nat} (ki : kp i = false) (kj : kp j = false) (kl : kp l = false) {x y z : Str} {kt k2 : Nat} {pt2 : Pos} (hc : X.calm = true) (hN : X.N.Nodup) (hi : X.N[i]? = some x) (hj : X.N[j]? = some y) (hl : X.N[l]? = some z) (hij : i ≠ j) (hil : i ≠ l) (hjl : j ≠ l)
    (hx : X.env.scope.names.lookup x = some .local) (hy : X.env.scope.names.lookup y = some .local) (hz : X.env.scope.names.lookup z = some .local) (ha : PE X ea (tR X.K G ca)) (hb : PE X eb (tR X.K G cb)) (hcc : PE X ec (tR X.K G cc))
    (ns : ∀ x p, ea ≠ .Starred x p) (ns2 : ∀ x p, eb ≠ .Starred x p) (ns3 : ∀ x p, ec ≠ .Starred x p)
    (hw : swappedStores [.Tuple [.Name x px, .Name y py, .Name z pz] kt pt] (.Tuple [ea, eb, ec] k2 pt2) X.env = pure (some [x, y, z])) :
    PS X (.Assign [.Tuple [.Name x px, .Name y py, .Name z pz] kt pt] (.Tuple [ea, eb, ec] k2 pt2) pos) (tS X.K W G fu kp (.par3 i j l ca cb cc)) :=
  PS.weak (ps_par3 hc hN hi hj hl hij hil hjl hx hy hz (pa_cons ha (pa_cons hb (pa_cons hcc pa_nil (star_no ns3)) (star_no ns2)) (star_no ns)) hw) fun D σ H ⟨Hf, fps, ρ, o, S, e, q⟩ => by
    obtain ⟨⟨x, ρ1⟩, e1, e⟩ := Option.bind_eq_some_iff.mp (show ((ev G ca ρ).bind fun p => (ev G cb p.2).bind fun q => (ev G cc q.2).bind fun r => (preA r.2 p.1).bind fun p' => (preA p'.2 q.1).bind fun q' => (preA q'.2 r.1).bind fun r' =>
      (putA i p'.1 r'.2).bind fun ρ1 => (putA j q'.1 ρ1).bind fun ρ2 => (putA l r'.1 ρ2).map .nx) = some o from e)
    obtain ⟨⟨y, ρ2⟩, e2, e⟩ := Option.bind_eq_some_iff.mp e
    obtain ⟨⟨z, ρ3⟩, e3, e⟩ := Option.bind_eq_some_iff.mp e
    obtain ⟨⟨x', ρ4⟩, e4, e⟩ := Option.bind_eq_some_iff.mp e
    obtain ⟨⟨y', ρ5⟩, e5, e⟩ := Option.bind_eq_some_iff.mp e
    obtain ⟨⟨z', ρ6⟩, e6, e⟩ := Option.bind_eq_some_iff.mp e
    obtain ⟨ρ7, e7, e⟩ := Option.bind_eq_some_iff.mp e
    obtain ⟨ρ8, e8, e⟩ := Option.bind_eq_some_iff.mp e
    obtain ⟨ρ9, e9, ee⟩ := Option.map_eq_some_iff.mp e
    cases ee
    refine ⟨Hf, fps, ρ, x, ρ1, S, e1, fun Hf1 fps1 H1 v g1 S1 a1 => ⟨Hf1, fps1, ρ1, y, ρ2, S1, e2, fun Hf2 fps2 H2 w g2 S2 b2 => ⟨Hf2, fps2, ρ2, z, ρ3, S2, e3, fun Hf3 fps3 H3 u g3 S3 c3 => ⟨v, w, u, rfl, ?_⟩⟩⟩⟩
    obtain ⟨Hf4, fps4, g4, g4', S4, a4, n4⟩ := S3.preP ((g1.trans g2).trans g3) ((a1.toP.go g2).go g3) e4
    obtain ⟨Hf5, fps5, g5, g5', S5, b5, n5⟩ := S4.preP g4 ((b2.toP.go g3).go g4') e5
    obtain ⟨Hf6, fps6, g6, g6', S6, c6, n6⟩ := S5.preP g5 ((c3.toP.go g4').go g5') e6
    obtain ⟨fps7, g7, S7, f7⟩ := S6.putP g6 ((a4.go g5').go g6') (fun a h => h.1) e7
    have b7 := (b5.go g6').put (σ' := σ.set i (some v)) n5 (fun a h z => by obtain ⟨_, o', z⟩ := z; rw [h.1] at z; cases z) f7
    have c7 := c6.put (σ' := σ.set i (some v)) n6 (fun a h z => by
      obtain ⟨_, o', z⟩ := z
      obtain ⟨o2, z2⟩ := g2.th a _ z
      rw [h.1] at z2; cases z2) f7
    obtain ⟨fps8, g8, S8, f8⟩ := S7.putP g7 b7 (fun a h => back_none g1 h.1) e8
    have c8 := c7.put (σ' := (σ.set i (some v)).set j (some w)) n6 (fun a h z => by
      obtain ⟨_, o', z⟩ := z
      rw [h.1] at z; cases z) f8
    obtain ⟨fps9, g9, S9, _⟩ := S8.putP g8 c8 (fun a h => back_none (g1.trans g2) h.1) e9
    exact q Hf6 fps9 _ H3 g9 S9 (.trans (.trans (.set ki) (.set kj)) (.set kl))
end
end Cor
set_option Elab.async false
set_option linter.all false
set_option maxRecDepth 100000
set_option maxHeartbeats 4000000
/-! Core 5c: stores into lists and dicts, append, loops. -/
namespace Cor
open PySem PySem.Spec PyProof.Rows L2
open Evl (Ex ex_l ex_t)
section
variable {K : PySem.W.Frag} {Hf Hf' Hf0 : Hp} {fps fps' fps0 : Fps} {σ σ' : L2.St} {H H' H0 H1 : Hp} {ρ ρ' : Rho}
theorem kvd_any {k : Key} : ∀ {ys : List (Key × V)} {kvs : List (Key × PyData)}, KvD K Hf ys kvs → (ys.any fun kv => decide (kv.1 = k)) = (kvs.any fun kv => decide (kv.1 = k))
  | _, _, .nil => rfl
  | _, _, .cons r t => by rw [List.any_cons, List.any_cons, r.1, kvd_any t]
theorem kvd_map {k : Key} {v : V} {d : PyData} (h : Dq K Hf v d) : ∀ {ys : List (Key × V)} {kvs : List (Key × PyData)}, KvD K Hf ys kvs → KvD K Hf (ys.map fun kv => if kv.1 = k then (kv.1, v) else kv) (kvs.map fun kv => if kv.1 = k then (kv.1, d) else kv)
  | _, _, .nil => .nil
  | _, _, .cons (a := p) (b := q) r t => by
    refine .cons ?_ (kvd_map h t)
    obtain ⟨e1, e2⟩ := r
    show (if p.1 = k then (p.1, v) else p).1 = (if q.1 = k then (q.1, d) else q).1 ∧ Dq K Hf (if p.1 = k then (p.1, v) else p).2 (if q.1 = k then (q.1, d) else q).2
    by_cases hk : q.1 = k
    · rw [if_pos hk, if_pos (e1.trans hk)]; exact ⟨e1, h⟩
    · rw [if_neg hk, if_neg (fun z => hk (e1.symm.trans z))]; exact ⟨e1, e2⟩
theorem kvd_app {ys zs : List (Key × V)} {kvs mvs : List (Key × PyData)} (h : KvD K Hf ys kvs) (g : KvD K Hf zs mvs) : KvD K Hf (ys ++ zs) (kvs ++ mvs) := by
  induction h with
  | nil => exact g
  | cons r t ih => exact .cons r ih
theorem kvd_put {k : Key} {v : V} {d : PyData} (h : Dq K Hf v d) {ys : List (Key × V)} {kvs : List (Key × PyData)} (q : KvD K Hf ys kvs) : KvD K Hf (putK ys k v) (putD kvs k d) := by
  unfold putK putD
  rw [kvd_any q]
  split
  · exact kvd_map h q
  · exact kvd_app q (.cons ⟨rfl, h⟩ .nil)
def rSetS : TSet := fun o i v H Q => rSetL o i v H Q ∨ rSetD o i v H Q
theorem set_S {X : Cx} (hu : X.A.units + 100 < cLine) : PSet X rSetS := fun pins s σ H o i v ov iv u Q I ro ri rv h => by
  rcases h with h | h
  · exact set_list pins s σ H o i v ov iv u Q I ro ri rv h
  · exact set_dict (by omega) pins s σ H o i v ov iv u Q I ro ri rv h
theorem line_sm {α : Type} {l : List α} (h : sm l = true) : l.length < sizeLine := Nat.lt_of_le_of_lt (sm_le h) (Nat.lt_of_lt_of_le (by decide) line_ge)
theorem sto_of (S : SR K Hf fps σ H ρ) (g : Go Hf0 fps0 H0 Hf fps H) {i : Nat} {kd d : PyData} {v0 kv dv : V} (hv : σ[i]? = some (some v0)) (hk : Dq K Hf kv kd) (hd : Dq K Hf dv d) (e : stoA i kd d ρ = some ρ') {Q : Hp → Prop}
    (q : ∀ H', Go Hf0 fps0 H0 Hf fps H' → SR K Hf fps σ H' ρ' → Q H') : rSetS v0 kv dv H Q := by
  obtain ⟨sl, e1, e⟩ := Option.bind_eq_some_iff.mp e
  obtain ⟨sl', e2, e3⟩ := Option.map_eq_some_iff.mp e
  subst e3
  have hi : i < ρ.length := lt_of_get e1
  cases sl with
  | emp => cases e2
  | bk _ _ => cases kd <;> cases e2
  | val _ => cases e2
  | lst ds =>
    cases kd with
    | int k =>
      obtain ⟨j, e4, e5⟩ := Option.map_eq_some_iff.mp (show (ixN ds.length k).map (fun j => Sl.lst (ds.set j d)) = some sl' from e2)
      subst e5
      obtain ⟨v, h1, p, xs, rfl, hf, hp, dx⟩ := S.here i _ e1 (fun z => nomatch z)
      rw [hv] at h1
      cases h1
      cases hk
      have hpi : p ∈ fps i := by rw [hf]; simp
      refine .inl ⟨p, xs, k, j, rfl, rfl, hp, by rw [dx.length]; exact e4, q _ (g.write hpi) (S.write hi hf hv ⟨p, _, rfl, rfl, upd_same, dx.set hd j⟩ fun z => nomatch z)⟩
    | none => cases e2
    | bool _ => cases e2
    | str _ => cases e2
    | list _ => cases e2
    | tuple _ => cases e2
    | dict _ => cases e2
  | dct kvs =>
    obtain ⟨key, e4, e5⟩ := Option.bind_eq_some_iff.mp (show ((keyD kd).bind fun k => if sm kvs = true then some (Sl.dct (putD kvs k d)) else none) = some sl' from by cases kd <;> exact e2)
    split at e5
    · rename_i hs
      cases e5
      obtain ⟨v, h1, p, ys, rfl, hf, hp, dx⟩ := S.here i _ e1 (fun z => nomatch z)
      rw [hv] at h1
      cases h1
      have hpi : p ∈ fps i := by rw [hf]; simp
      have ek := key_v hk e4
      subst ek
      exact .inr ⟨p, _, rfl, .k hp (by rw [kvd_len dx]; exact line_sm hs), q _ (g.write hpi) (S.write hi hf hv ⟨p, _, rfl, rfl, upd_same, kvd_put hd dx⟩ fun z => nomatch z)⟩
    · cases e5
theorem own_var {G : List Fn} {i : Nat} {u : Unit} (e : ownR ρ i = some u) : ev G (.var i) ρ = some (.own i, ρ) := by
  show (look ρ i).map (fun a => (a, ρ)) = _
  unfold ownR at e
  unfold look
  split at e
  · rename_i h; rw [h]; rfl
  · rename_i h; rw [h]; rfl
  · cases e
theorem lst_var {G : List Fn} {i : Nat} {u : Unit} (e : lisR ρ i = some u) : ev G (.var i) ρ = some (.own i, ρ) ∧ ∃ ds, ρ[i]? = some (.lst ds) := by
  unfold lisR at e
  split at e
  · rename_i ds h
    refine ⟨?_, ds, h⟩
    show (look ρ i).map (fun a => (a, ρ)) = _
    unfold look
    rw [h]; rfl
  · cases e
end
section
variable {X : Cx} {G : List Fn} {fu : Nat} {kp : Nat → Bool} {W : WX} {st : Stmt} {sts sts2 : List Stmt} {pos px py pz pt pt2 : Pos} {ea eb ec ek : Expr} {ca cb cc ck : CE} {s : CS} {b b2 : CB} {ct : CT}
theorem swapped_none {t e : Expr} {env : Env} (h : ∀ ts k p, t ≠ .Tuple ts k p) (h2 : ∀ ts p, t ≠ .List ts p) : swappedStores [t] e env = pure none := by
  unfold swappedStores
  cases t <;> first | rfl | exact absurd rfl (h _ _ _) | exact absurd rfl (h2 _ _)
/-- x[k] = e -/
theorem s_sub {i : Nat} (hu : X.A.units + 100 < cLine) (ho : PE X eb (tR X.K G (.var i))) (hk : PE X ek (tR X.K G ck)) (ha : PE X ea (tR X.K G ca))
    (hg : ∀ v, assign (.Subscript eb ek pt) X.env v = (do
      let ov ← holding [v] (eval eb X.env)
      let iv ← holding [v, ov] (eval ek X.env)
      standAt pt
      holding [v, ov, iv] (setItem ov iv v)
      release [v, ov, iv] [])) (hs : swapsWithSole [.Subscript eb ek pt] ea pos.line X.env = pure false) (h1 : (assignEach [.Subscript eb ek pt] X.env).map (·.2) = [assign (.Subscript eb ek pt) X.env]) :
    PS X (.Assign [.Subscript eb ek pt] ea pos) (tS X.K W G fu kp (.sub i ck ca)) :=
  PS.weak (ps_asg ha (pg_sub ho hk (set_S hu) hg) hs (swapped_none (fun _ _ _ z => nomatch z) (fun _ _ z => nomatch z)) h1) fun D σ H ⟨Hf, fps, ρ, o, S, e, q⟩ => by
    obtain ⟨⟨x, ρ1⟩, e1, e⟩ := Option.bind_eq_some_iff.mp (show ((ev G ca ρ).bind fun p => (frz p.2 p.1).bind fun p2 => (ownR p2.2 i).bind fun _ => (ev G ck p2.2).bind fun p4 => (frz p4.2 p4.1).bind fun p5 => (stoA i p5.1 p2.1 p5.2).map .nx) = some o from e)
    obtain ⟨⟨d, ρ2⟩, e2, e⟩ := Option.bind_eq_some_iff.mp e
    obtain ⟨_, e3, e⟩ := Option.bind_eq_some_iff.mp e
    obtain ⟨⟨z, ρ4⟩, e4, e⟩ := Option.bind_eq_some_iff.mp e
    obtain ⟨⟨kd, ρ5⟩, e5, e⟩ := Option.bind_eq_some_iff.mp e
    obtain ⟨ρ6, e6, ee⟩ := Option.map_eq_some_iff.mp e
    cases ee
    refine ⟨Hf, fps, ρ, x, ρ1, S, e1, fun Hf1 fps1 H1 v g1 S1 a1 => ?_⟩
    obtain ⟨Hf2, fps2, g2, S2, d2⟩ := S1.frz g1 a1 e2
    refine ⟨Hf2, fps2, ρ2, .own i, ρ2, S2, own_var e3, fun Hf3 fps3 H3 w g3 S3 a3 => ⟨Hf3, fps3, ρ2, z, ρ4, S3, e4, fun Hf4 fps4 H4 u g4 S4 a4 => ?_⟩⟩
    obtain ⟨Hf5, fps5, g5, S5, d5⟩ := S4.frz g4 a4 e5
    exact sto_of S5 ((g2.trans g3).trans g5) a3 d5 (Dq.mono (g3.fz.trans g5.fz) _ _ d2) e6 fun H' g' S' => q Hf5 fps5 _ H' g' S' .refl
/-- x[k], y = e, e a pair -/
theorem s_divT {i j : Nat} (kj : kp j = false) {y : Str} {kk : Nat} (hu : X.A.units + 100 < cLine) (hc : X.calm = true) (hN : X.N.Nodup) (hj : X.N[j]? = some y) (hy : Loc X.env.scope y) (hf : X.fn y = true ∨ X.env.scope.names.lookup y = some .local)
    (ho : PE X eb (tR X.K G (.var i))) (hk : PE X ek (tR X.K G ck)) (ha : PE X ea (tR X.K G ca))
    (hg : ∀ v, assign (.Subscript eb ek pt) X.env v = (do
      let ov ← holding [v] (eval eb X.env)
      let iv ← holding [v, ov] (eval ek X.env)
      standAt pt
      holding [v, ov, iv] (setItem ov iv v)
      release [v, ov, iv] []))
    (hs : swapsWithSole [.Tuple [.Subscript eb ek pt, .Name y py] kk pt2] ea pos.line X.env = pure false) (hw : swappedStores [.Tuple [.Subscript eb ek pt, .Name y py] kk pt2] ea X.env = pure none)
    (h1 : (assignEach [.Tuple [.Subscript eb ek pt, .Name y py] kk pt2] X.env).map (·.2) = [assign (.Tuple [.Subscript eb ek pt, .Name y py] kk pt2) X.env])
    (h2 : (assignEach [.Subscript eb ek pt, .Name y py] X.env).map (·.2) = assign (.Subscript eb ek pt) X.env :: (assignEach [.Name y py] X.env).map (·.2)) (h3 : (assignEach [.Name y py] X.env).map (·.2) = assign (.Name y py) X.env :: (assignEach [] X.env).map (·.2))
    (h4 : (assignEach [.Subscript eb ek pt, .Name y py] X.env).length = 2) (h5 : (assignEach [.Subscript eb ek pt, .Name y py] X.env).findIdx? (·.1) = none) :
    PS X (.Assign [.Tuple [.Subscript eb ek pt, .Name y py] kk pt2] ea pos) (tS X.K W G fu kp (.divT i ck j ca)) :=
  PS.weak (ps_asg ha (pg_tup hc (pgs_cons (pg_sub ho hk (set_S hu) hg) (pgs_cons (pg_name hN hj hy hf) pgs_nil h3) h2) h4 h5) hs hw h1) fun D σ H ⟨Hf, fps, ρ, o, S, e, q⟩ => by
    obtain ⟨⟨x, ρ1⟩, e1, e⟩ := Option.bind_eq_some_iff.mp (show ((ev G ca ρ).bind fun p => match p.1 with
      | .val (.tuple [x, y]) => (ownR p.2 i).bind fun _ => (ev G ck p.2).bind fun p4 => (frz p4.2 p4.1).bind fun p5 => (stoA i p5.1 x p5.2).bind fun ρ1 => (putA j (.val y) ρ1).map .nx
      | _ => none) = some o from e)
    dsimp only at e
    split at e
    · rename_i dx dy
      obtain ⟨_, e3, e⟩ := Option.bind_eq_some_iff.mp e
      obtain ⟨⟨z, ρ4⟩, e4, e⟩ := Option.bind_eq_some_iff.mp e
      obtain ⟨⟨kd, ρ5⟩, e5, e⟩ := Option.bind_eq_some_iff.mp e
      obtain ⟨ρ6, e6, e⟩ := Option.bind_eq_some_iff.mp e
      obtain ⟨ρ7, e7, ee⟩ := Option.map_eq_some_iff.mp e
      cases ee
      refine ⟨Hf, fps, ρ, _, ρ1, S, e1, fun Hf1 fps1 H1 v g1 S1 a1 => ?_⟩
      have a1' : Dq X.K Hf1 v (.tuple [dx, dy]) := a1
      cases a1' with
      | tup ht hd =>
        cases hd with
        | cons hx hd =>
          cases hd with
          | cons hy hd =>
            cases hd
            refine ⟨_, _, rfl, ex_t S1.ex ht, rfl, _, _, rfl, Hf1, fps1, ρ1, .own i, ρ1, S1, own_var e3, fun Hf3 fps3 H3 w g3 S3 a3 => ⟨Hf3, fps3, ρ1, z, ρ4, S3, e4, fun Hf4 fps4 H4 u g4 S4 a4 => ?_⟩⟩
            obtain ⟨Hf5, fps5, g5, S5, d5⟩ := S4.frz g4 a4 e5
            refine sto_of S5 ((g1.trans g3).trans g5) a3 d5 (Dq.mono (g3.fz.trans g5.fz) _ _ hx) e6 fun H' g' S' => ⟨_, _, rfl, ?_⟩
            obtain ⟨fps6, g6, S6, _⟩ := S'.putA (H1 := H) (y := .val dy) g' (Dq.mono (g3.fz.trans g5.fz) _ _ hy) (fun a h => h) e7
            exact ⟨rfl, q Hf5 fps6 _ H' g6 S6 (.set kj)⟩
    · cases e
/-- x.append(e) -/
theorem s_app {i : Nat} {apos cpos : Pos} (ho : PE X eb (tR X.K G (.var i))) (ha : PE X ea (tR X.K G ca)) (ns : ∀ x p, ea ≠ .Starred x p)
    (hbase : attributeBase eb "append" X.env (eval eb X.env) = eval eb X.env) (hfew : ((backTo cpos (starEach [ea] X.env)).all (fun x => !x.1) && (backToKw cpos (keywordEach [] X.env)).all (fun x => x.1.isSome)
      && decide (([ea] : List Expr).length + ([] : List Keyword).length + (if ([] : List Keyword).isEmpty then 0 else 1) < 30)) = true) (hline : (apos.endLine == cpos.line) = true) :
    PS X (.Expr (.Call (.Attribute eb "append" apos) [ea] [] cpos) pos) (tS X.K W G fu kp (.app i ca)) :=
  PS.weak (ps_expr (pe_bm PySem.F.plainAttrs_list PySem.F.slot_list_append PySem.F.type_list_append mt_append ho (pa_cons ha pa_nil (star_no ns)) hbase hfew hline (star_no ns) rfl) rfl) fun D σ H ⟨Hf, fps, ρ, o, S, e, q⟩ => by
    obtain ⟨_, e0, e⟩ := Option.bind_eq_some_iff.mp (show ((lisR ρ i).bind fun _ => (ev G ca ρ).bind fun p => (frz p.2 p.1).bind fun p2 => match p2.2[i]? with
      | some (.lst ds) => if sm ds = true then some (Out.nx (p2.2.set i (.lst (ds ++ [p2.1])))) else none
      | _ => none) = some o from e)
    obtain ⟨⟨x, ρ1⟩, e1, e⟩ := Option.bind_eq_some_iff.mp e
    obtain ⟨⟨d, ρ2⟩, e2, e⟩ := Option.bind_eq_some_iff.mp e
    obtain ⟨ev0, ds0, hds0⟩ := lst_var (G := G) e0
    refine ⟨Hf, fps, ρ, .own i, ρ, S, ev0, fun Hf0 fps0 H0 w g0 S0 a0 => ⟨?_, Hf0, fps0, ρ, x, ρ1, S0, e1, fun Hf1 fps1 H1 v g1 S1 a1 => ?_⟩⟩
    · obtain ⟨v', h1, p, xs, rfl, hf, hp, dx⟩ := S0.here i _ hds0 (fun z => nomatch z)
      have a0' : σ[i]? = some (some w) := a0
      rw [h1] at a0'
      cases a0'
      exact .inl ⟨rfl, xs, SqL.of hp⟩
    · obtain ⟨Hf2, fps2, g2, S2, d2⟩ := S1.frz g1 a1 e2
      dsimp only at e
      split at e
      · rename_i ds hr
        split at e
        · rename_i hs
          cases e
          have hi : i < ρ2.length := lt_of_get hr
          obtain ⟨v', h1, p, xs, rfl, hf, hp, dx⟩ := S2.here i _ hr (fun z => nomatch z)
          have a0' : σ[i]? = some (some w) := a0
          rw [h1] at a0'
          cases a0'
          have hpi : p ∈ fps2 i := by rw [hf]; simp
          refine ⟨p, xs, v, rfl, rfl, hp, by rw [dx.length]; exact line_sm hs, ?_⟩
          exact q Hf2 fps2 _ _ ((g0.trans g2).write hpi) (S2.write hi hf h1 ⟨p, _, rfl, rfl, upd_same, dx.append (.cons d2 .nil)⟩ fun z => nomatch z) .refl
        · cases e
      · cases e
def tgs : Tg → List Nat
  | .nm i => [i]
  | .tp is => is
theorem tgs_in (t : Tg) : tgIn (tgs t) t = true := by
  cases t with
  | nm i => exact decide_eq_true (by simp [tgs])
  | tp is => exact List.all_eq_true.mpr fun i hi => decide_eq_true hi
/-- for -/
theorem s_frl {tg : Expr} {t : Tg} (hkp : (tgs t).all (fun i => !kp i) = true) {it : CI} {iter : Expr} (hp : PassesOwn (model X.prog X.w) X.A X.env X.xe) (hc : X.calm = true) (hi : PI X tg iter (tI X.K G it)) (hg : PG X tg (gTg X.K t)) (hb : PSs X sts (tB X.K W G fu kp b)) (hs : ∀ x, foldedSetIterable iter X.env x = pure x) :
    PS X (.For tg iter sts [] pos) (tS X.K W G fu kp (.frl t it b)) :=
  PS.weak (ps_for hp hc hi hg hb hs) fun D σ H ⟨Hf, fps, ρ, o, S, e, q⟩ => by
    obtain ⟨⟨ds, ρ1⟩, e1, e⟩ := Option.bind_eq_some_iff.mp (show ((evI G it ρ).bind fun p => forGo (asgT t) (exB G fu b) p.1 p.2) = some o from e)
    refine ⟨Hf, fps, ρ, ds, ρ1, S, e1, fun Hf1 fps1 H1 J g1 S1 hJ => ?_⟩
    refine ⟨fun i m σ' H' => m = ds.length - i ∧ i ≤ ds.length ∧ ∃ Hf' fps' ρ', Go Hf1 fps1 H1 Hf' fps' H' ∧ SR X.K Hf' fps' σ' H' ρ' ∧ Kps kp σ σ' ∧ forGo (asgT t) (exB G fu b) (ds.drop i) ρ' = some o, ⟨_, rfl, Nat.zero_le _, Hf1, fps1, ρ1, .refl, S1, .refl, e⟩, ?_⟩
    rintro i m σ' H' ⟨rfl, hi, Hf', fps', ρ', g', S', k', e'⟩
    have exH : Ex Hf1 H' := g'.fz.trans S'.ex
    by_cases hlt : i < ds.length
    · have hdr : ds.drop i = ds[i] :: ds.drop (i + 1) := List.drop_eq_getElem_cons hlt
      rw [hdr] at e'
      obtain ⟨ρa, e2, e'⟩ := Option.bind_eq_some_iff.mp (show ((asgT t ds[i] ρ').bind fun ρ1 => (exB G fu b ρ1).bind fun o => match o with
        | .nx ρ2 => forGo (asgT t) (exB G fu b) (ds.drop (i + 1)) ρ2
        | .ct ρ2 => forGo (asgT t) (exB G fu b) (ds.drop (i + 1)) ρ2
        | .bk ρ2 => some (.nx ρ2)
        | .rt a ρ2 => some (.rt a ρ2)
        | .ex c ρ2 => some (.ex c ρ2)) = some o from e')
      obtain ⟨o1, e3, e'⟩ := Option.bind_eq_some_iff.mp e'
      refine .inr ⟨hJ.go i H' exH hlt, fun σ2 H2 => i + 1 ≤ ds.length ∧ ∃ Hf' fps' ρ', Go Hf1 fps1 H1 Hf' fps' H2 ∧ SR X.K Hf' fps' σ2 H2 ρ' ∧ Kps kp σ σ2 ∧ forGo (asgT t) (exB G fu b) (ds.drop (i + 1)) ρ' = some o, fun σ2 H2 h => ⟨_, by omega, rfl, h⟩, fun x H2 hy => ?_⟩
      obtain ⟨d, hd, raw⟩ := hJ.yld i H' x H2 exH hlt hy
      rw [List.getElem?_eq_getElem hlt] at hd
      cases hd
      have raw' : Raw X.K Hf' H' (.val ds[i]) x H2 := by
        generalize ds[i] = d0 at raw
        cases raw with
        | val h => exact .val (Dq.mono g'.fz _ _ h)
        | tup hp h => exact .tup hp (DqAll.mono g'.fz _ _ h)
      obtain ⟨Hf2, g2, S2, a2⟩ := Raw.fin S' g' raw'
      refine asg_tg S2 a2 e2 fun fps3 σ3 g3 S3 w => ?_
      have k3 : Kps kp σ σ3 := k'.trans (.wipes hkp (w (tgs t) (tgs_in t)))
      have gg := g2.trans g3
      refine ⟨Hf2, fps3, ρa, o1, S3, e3, ?_⟩
      cases o1 with
      | nx ρ2 => exact fun Hf4 fps4 σ4 H4 g4 S4 k4 => ⟨hlt, Hf4, fps4, ρ2, gg.trans g4, S4, k3.trans k4, e'⟩
      | ct ρ2 => exact fun Hf4 fps4 σ4 H4 g4 S4 k4 => ⟨hlt, Hf4, fps4, ρ2, gg.trans g4, S4, k3.trans k4, e'⟩
      | bk ρ2 =>
        cases e'
        exact fun Hf4 fps4 σ4 H4 g4 S4 k4 => q Hf4 fps4 σ4 H4 (g1.trans (gg.trans g4)) S4 (k3.trans k4)
      | rt a ρ2 =>
        cases e'
        exact fun Hf4 fps4 σ4 H4 v g4 S4 a4 k4 => q Hf4 fps4 σ4 H4 v (g1.trans (gg.trans g4)) S4 (a4.elder (g1.trans gg).th) (k3.trans k4)
      | ex c ρ2 =>
        cases e'
        exact fun Hf4 fps4 σ4 H4 cls dd g4 S4 x4 k4 => q Hf4 fps4 σ4 H4 cls dd (g1.trans (gg.trans g4)) S4 x4 (k3.trans k4)
    · have hi' : i = ds.length := by omega
      refine .inl ⟨hJ.stop i H' exH hi', ?_⟩
      rw [hi', List.drop_length] at e'
      cases (show some (Out.nx ρ') = some o from e')
      exact q Hf' fps' σ' H' (g1.trans g') S' k'
/-- while -/
theorem s_whl (hp : PassesOwn (model X.prog X.w) X.A X.env X.xe) (hc : PT X ec (tT X.K G ct)) (hb : PSs X sts (tB X.K W G fu kp b)) : PS X (.While ec sts [] pos) (tS X.K W G fu kp (.whl ct b)) :=
  PS.weak (ps_while hp hc hb) fun D σ H ⟨Hf, fps, ρ, o, S, e, q⟩ => by
    refine ⟨fun m σ' H' => ∃ Hf' fps' ρ', Go Hf fps H Hf' fps' H' ∧ SR X.K Hf' fps' σ' H' ρ' ∧ Kps kp σ σ' ∧ whlGo (evT G ct) (exB G fu b) m ρ' = some o, ⟨fu, Hf, fps, ρ, .refl, S, .refl, e⟩, ?_⟩
    rintro m σ' H' ⟨Hf', fps', ρ', g', S', k', e'⟩
    cases m with
    | zero => cases (show none = some o from e')
    | succ m =>
      obtain ⟨⟨t, ρ1⟩, e1, e'⟩ := Option.bind_eq_some_iff.mp (show ((evT G ct ρ').bind fun p => if p.1 = true then (exB G fu b p.2).bind fun o => match o with
          | .nx ρ2 => whlGo (evT G ct) (exB G fu b) m ρ2
          | .ct ρ2 => whlGo (evT G ct) (exB G fu b) m ρ2
          | .bk ρ2 => some (.nx ρ2)
          | .rt a ρ2 => some (.rt a ρ2)
          | .ex c ρ2 => some (.ex c ρ2)
        else some (.nx p.2)) = some o from e')
      refine ⟨Hf', fps', ρ', t, ρ1, S', e1, fun Hf1 fps1 H1 g1 S1 => ?_⟩
      have gg := g'.trans g1
      cases t with
      | false =>
        cases e'
        exact q Hf1 fps1 σ' H1 gg S1 k'
      | true =>
        obtain ⟨o1, e3, e'⟩ := Option.bind_eq_some_iff.mp (show ((exB G fu b ρ1).bind fun o => match o with
          | .nx ρ2 => whlGo (evT G ct) (exB G fu b) m ρ2
          | .ct ρ2 => whlGo (evT G ct) (exB G fu b) m ρ2
          | .bk ρ2 => some (.nx ρ2)
          | .rt a ρ2 => some (.rt a ρ2)
          | .ex c ρ2 => some (.ex c ρ2)) = some o from e')
        refine ⟨fun σ2 H2 => ∃ Hf' fps' ρ', Go Hf fps H Hf' fps' H2 ∧ SR X.K Hf' fps' σ2 H2 ρ' ∧ Kps kp σ σ2 ∧ whlGo (evT G ct) (exB G fu b) m ρ' = some o, fun σ2 H2 h => ⟨m, Nat.lt_succ_self _, h⟩, Hf1, fps1, ρ1, o1, S1, e3, ?_⟩
        cases o1 with
        | nx ρ2 => exact fun Hf4 fps4 σ4 H4 g4 S4 k4 => ⟨Hf4, fps4, ρ2, gg.trans g4, S4, k'.trans k4, e'⟩
        | ct ρ2 => exact fun Hf4 fps4 σ4 H4 g4 S4 k4 => ⟨Hf4, fps4, ρ2, gg.trans g4, S4, k'.trans k4, e'⟩
        | bk ρ2 =>
          cases e'
          exact fun Hf4 fps4 σ4 H4 g4 S4 k4 => q Hf4 fps4 σ4 H4 (gg.trans g4) S4 (k'.trans k4)
        | rt a ρ2 =>
          cases e'
          exact fun Hf4 fps4 σ4 H4 v g4 S4 a4 k4 => q Hf4 fps4 σ4 H4 v (gg.trans g4) S4 (a4.elder gg.th) (k'.trans k4)
        | ex c ρ2 =>
          cases e'
          exact fun Hf4 fps4 σ4 H4 cls dd g4 S4 x4 k4 => q Hf4 fps4 σ4 H4 cls dd (gg.trans g4) S4 x4 (k'.trans k4)
end
end Cor
set_option Elab.async false
set_option linter.all false
set_option maxRecDepth 100000
set_option maxHeartbeats 4000000
/-! Core 5d: raise, calls that may raise. -/
namespace Cor
open PySem PySem.Spec PyProof.Rows L2
open Evl (Ex ex_l ex_t)
/-- __init__ of an own error: self.f = the argument -/
def spE (K : PySem.W.Frag) (C : Addr) (f : Str) : Sp := fun vs H Q _ => ∃ (a : Addr) (x : V), vs = [.ref a, x] ∧ H a = some (exo a C none) ∧ ∀ dx, H dx = none → dx ≠ a → Q .non (upd (upd H dx (exd dx [(f, x)])) a (exo a C (some dx)))
structure ErrTxt (K : PySem.W.Frag) (mg : Str → Option Value) (x : Str) (C fI : Addr) (f : Str) : Prop where
  ns : PySem.W.nsIn K mainGlobals x = some (some (.ref C))
  mg : mg x = some (.ref C)
  ox : OexC K C
  no : PySem.W.findIn K (.ref C) f = some none
  ini : PySem.W.findIn K (.ref C) "__init__" = some (some (.ref fI))
  tyI : PySem.W.typeIn K (.ref fI) = some (.type "function")
theorem spE_init {P : Program} {w : World} {K : PySem.W.Frag} {mg : Str → Option Value} {base : Heap} {x qual f g : Str} {C fI : Addr} {fd : FuncData} {st : Stmt} (T : ErrTxt K mg x C fI f) (F : Fun K "__init__" qual st fI fd) (S : FnScope [("self" : Str), g] [("self" : Str), g] (defScope st))
    (hb : ∀ X : Cx, X.K = K → X.N = [("self" : Str), g] → X.env.scope = defScope st → PSs X (defBody st) (tOst K f (tVar 0) (tVar 1))) : FnOk P w K mg base CX0 1 fI fd [("self" : Str), g] (spE K C f) := by
  refine F.ok S (fun vs H Q E h => ?_) (fun cdv A outer s H vs Q E hr h => ⟨_, hb _ rfl rfl rfl, ?_⟩)
  · obtain ⟨a, x, rfl, _⟩ := h
    rfl
  · obtain ⟨a, x, rfl, ha, q⟩ := h
    exact ⟨x, rfl, .ref a, rfl, a, C, rfl, T.ox, T.no, .inl ⟨ha, q⟩⟩
/-- an own error that may be raised by its name -/
def ErrOk (P : Program) (w : World) (K : PySem.W.Frag) (mg : Str → Option Value) (base : Heap) (x f : Str) : Prop :=
  ∃ C fI fd g, ErrTxt K mg x C fI f ∧ FnOk P w K mg base CX0 1 fI fd [("self" : Str), g] (spE K C f) ∧ L2.Binds K fd [("self" : Str), g] []
section
variable {X : Cx} {G : List Fn} {fu : Nat} {kp : Nat → Bool} {W : WX} {pos p pos2 : Pos} {ea : Expr} {es : List Expr} {ca : CE} {x f : Str} {c : CA}
theorem s_rse (hc : X.calm = true) (tk : Takes X W) (T : ErrOk X.prog X.w X.K X.mg X.base x f) (hr : Room 2 X.A) (hg : Gl X x) (ha : PE X ea (tR X.K G ca)) (hs : ∀ x p, ea ≠ .Starred x p) (hd : (x == ("__debug__" : Str)) = false) (hfn : ¬ f = "") :
    PS X (.Raise (some (.Call (.Name x p) [ea] [] pos)) none pos2) (tS X.K W G fu kp (.rse x f ca)) := by
  obtain ⟨C, fI, fd, g, T, F, hb⟩ := T
  refine PS.weak (ps_raise hc tk (pmk_oex T.ox T.ini T.tyI F hr hb .nil pass0 hg T.mg (ga_cons ha ga_nil hs) hd (star_no hs) rfl)) fun D σ H ⟨Hf, fps, ρ, o, S, e, q⟩ => ?_
  obtain ⟨⟨x0, ρ1⟩, e1, e⟩ := Option.bind_eq_some_iff.mp (show ((ev G ca ρ).bind fun p => (frz p.2 p.1).map fun p2 => Out.ex ⟨x, f, p2.1⟩ p2.2) = some o from e)
  obtain ⟨⟨d, ρ2⟩, e2, e3⟩ := Option.map_eq_some_iff.mp e
  cases e3
  refine ⟨Hf, fps, ρ, [d], ρ2, S, ?_, fun Hf1 fps1 H1 vs g1 S1 d1 => ?_⟩
  · show ((ev G ca ρ).bind fun p => (frz p.2 p.1).bind fun p2 => (some (([] : List PyData), p2.2)).bind fun p3 => some (p2.1 :: p3.1, p3.2)) = _
    rw [e1]
    show ((frz ρ1 x0).bind fun p2 => _) = _
    rw [e2]; rfl
  · cases d1 with
    | cons dv dn =>
      rename_i v vn
      cases dn
      refine ⟨by show 1 ≤ 1000; decide, fun a ha => ⟨a, v, rfl, upd_same, fun dx hdx hne => ⟨rfl, dx, [(f, v)], upd_same, by rw [upd_ne hne, upd_same], ?_, ?_⟩⟩⟩
      · rw [upd_ne hne] at hdx; exact hdx
      · rw [upd_ne hne] at hdx
        have eH : upd (del (upd (upd (upd H1 a (exo a C none)) dx (exd dx [(f, v)])) a (exo a C (some dx))) a) dx (.xd [(f, v)]) = upd H1 dx (.xd [(f, v)]) := by
          funext b
          by_cases hb : b = dx
          · subst hb; rw [upd_same, upd_same]
          · rw [upd_ne hb, upd_ne hb]
            by_cases hba : b = a
            · subst hba; rw [del_same]; exact ha.symm
            · rw [del_ne hba, upd_ne hba, upd_ne hb, upd_ne hba]
        rw [eH]
        exact q Hf1 fps1 σ _ (.ref C) (some dx) (g1.grow hdx) (S1.grow hdx) ⟨C, rfl, T.ns, .inr ⟨hfn, dx, v, rfl, upd_same, dv⟩⟩ .refl
/-- what a call that may raise does -/
def RunsX (X : Cx) (f : Addr) (sp : Sp) (W : WX) : Prop := ∀ (pins : List (Addr × Obj)) (σ : L2.St) (H : Hp) (s : Shared) (us : List Value) (vs : List V) (Q : VK), L2.Inv X pins σ H s → Vals vs us → sp vs H Q (WE W σ) → wpAny (model X.prog X.w) X.A (call (.ref f) us) (EP X pins σ Q) X.xe s
theorem FnC.runsX {k : Nat} {f : Addr} {fd : FuncData} {ps : List Str} {sp : Sp} (F : FnC X.prog X.w X.K X.mg X.base (L2.CX X.prog X.w) k f fd ps sp) (hr : Room k X.A) (hgd : X.A.guards = some []) (hb : L2.Binds X.K fd ps []) (tk : Takes X W) : RunsX X f sp W := fun pins σ H s us vs Q I r h => by
  have hl : us.length = ps.length := by rw [← r.length]; exact F.len _ _ _ _ h
  have b := hb s us I.kIn (by rw [List.append_nil]; exact hl)
  rw [List.append_nil] at b
  refine wpAny_call (codeAny_mono (F.run X.A X.stack s H ⟨us, []⟩ us vs Q (WE W σ) hr hgd I.env0 b r h) fun r s' hq => ?_)
  cases r with
  | error e => exact passAt tk σ pins H s e s' I hq
  | ok fl =>
    cases fl with
    | ret u => exact I.after hq
    | next => exact False.elim hq
    | brk => exact False.elim hq
    | cont => exact False.elim hq
theorem pe_callX {sp : Sp} {fa : Addr} {t : TA} (R : RunsX X fa sp W) (hg : Gl X x) (hm : X.mg x = some (.ref fa)) (hk : PySem.W.keepIn X.K (.ref fa) = true) (ha : PA X (ea :: es) t) (hd : (x == ("__debug__" : Str)) = false)
    (he : starEach (ea :: es) X.env = (false, eval ea X.env) :: starEach es X.env) (hpl : (backTo pos (starEach es X.env)).any (·.1) = false) : PE X (.Call (.Name x p) (ea :: es) [] pos) (tCallS sp (WE W) t) := by
  refine ⟨fun pins s σ H Q I h => ?_⟩
  refine wpAny_Call_Name_kw (ld_glob I hg hm ?_ hd)
  refine PySem.W.callWith_K (h₀ := X.base) I.ok.mod.kin hk (thn (ha.run pos pins s σ H _ I h) fun us s1 ⟨vs, H1, I1, r, q⟩ => ⟨I1.kIn, ?_⟩) he hpl
  exact R pins σ H1 s1 us vs Q I1 r q
theorem s_calx {kf : Nat} {fn : List PyData → Option (Except Exn PyData)} {fa : Addr} (hG : G[kf]? = some (.rai fn)) (R : RunsX X fa (spX X.K fn) W) (hg : Gl X x) (hm : X.mg x = some (.ref fa)) (hk : PySem.W.keepIn X.K (.ref fa) = true) (ha : PA X (ea :: es) (tF X.K G c)) (hd : (x == ("__debug__" : Str)) = false)
    (hs : ∀ x p, ea ≠ .Starred x p) (hpl : (backTo pos (starEach es X.env)).any (·.1) = false) : PS X (.Expr (.Call (.Name x p) (ea :: es) [] pos) pos2) (tS X.K W G fu kp (.calx kf c)) :=
  PS.weak (ps_expr (pe_callX R hg hm hk ha hd (star_no hs) hpl) rfl) fun D σ H ⟨Hf, fps, ρ, o, S, e, q⟩ => by
    have e : ((evF G c ρ).bind fun p => (fn p.1).map fun r => match r with
      | .ok _ => Out.nx p.2
      | .error c => Out.ex c p.2) = some o := by
      unfold ex at e
      rw [hG] at e
      exact e
    obtain ⟨⟨ds, ρ1⟩, e1, e⟩ := Option.bind_eq_some_iff.mp e
    obtain ⟨r, e2, e3⟩ := Option.map_eq_some_iff.mp e
    refine ⟨Hf, fps, ρ, ds, ρ1, S, e1, fun Hf1 fps1 H1 vs g1 S1 d1 => ?_⟩
    refine ⟨Hf1, ds, r, S1.ex, d1, e2, fun d v Hf' H' er ex' fo dq => ?_, fun cc cls dd Hf' H' er ex' fo xa => ?_⟩
    · subst er
      cases e3
      obtain ⟨S2, g2⟩ := S1.after fo ex'
      exact q Hf' fps1 σ H' (g1.trans g2) S2 .refl
    · subst er
      cases e3
      obtain ⟨S2, g2⟩ := S1.after fo ex'
      exact q Hf' fps1 σ H' cls dd (g1.trans g2) S2 xa .refl
end
end Cor
set_option Elab.async false
set_option linter.all false
set_option maxRecDepth 100000
set_option maxHeartbeats 4000000
/-! Core 5e: a book's fields are written. -/
namespace Cor
open PySem PySem.Spec PyProof.Rows L2
open Evl (Ex ex_l ex_t)
section
variable {K : PySem.W.Frag} {Hf Hf' Hf0 : Hp} {fps fps' fps0 : Fps} {σ σ' : L2.St} {H H' H0 H1 : Hp} {ρ ρ' : Rho}
theorem SR.write2 (S : SR K Hf fps σ H ρ) {i : Nat} {p : Addr} {o : HO} {v : V} {sl' : Sl} (hi : i < ρ.length) (hpi : p ∈ fps i) (hv : σ[i]? = some (some v)) (ow : OwnAt K Hf (upd H p o) sl' v (fps i)) (ne : sl' ≠ .emp) : SR K Hf fps σ (upd H p o) (ρ.set i sl') := by
  refine ⟨S.ex.mut (S.nof i p hpi), by rw [List.length_set]; exact S.len, fun j sl e nej => ?_, fun j hj => ?_, S.nof, S.dis⟩
  · by_cases hji : j = i
    · subst hji
      rw [get_set_eq hi] at e
      cases e
      exact ⟨v, hv, ow⟩
    · rw [List.getElem?_set_ne (Ne.symm hji)] at e
      obtain ⟨w, e1, o1⟩ := S.here j sl e nej
      refine ⟨w, e1, o1.keep (.refl _) fun a ha ob q => ?_⟩
      have : a ≠ p := fun z => hji (S.dis j i a ha (z ▸ hpi))
      rw [upd_ne this]; exact q
  · by_cases hji : j = i
    · subst hji
      exact absurd (hj sl' (get_set_eq hi)) ne
    · exact S.gone j fun sl e => hj sl (by rw [List.getElem?_set_ne (Ne.symm hji)]; exact e)
theorem bk_put {vs : List V} {q : Addr} {j : Nat} {f : Str} {y : V} (hl : vs.length = 4) (h : bkN[j]? = some f) : putF f y (bkF vs q) = bkF (vs.set j y) q := by
  obtain ⟨a, b, c, d, rfl⟩ := four hl
  match j with
  | 0 => cases h; rfl
  | 1 => cases h; rfl
  | 2 => cases h; rfl
  | 3 => cases h; rfl
  | n + 4 => cases h
theorem bk_len {vs : List V} {q : Addr} (hl : vs.length = 4) : (bkF vs q).length < 1000 := by
  obtain ⟨a, b, c, d, rfl⟩ := four hl
  show 5 < 1000
  decide
theorem bk_past {vs : List V} {q : Addr} (hl : vs.length = 4) : (bkF vs q).lookup ("past" : Str) = some (V.ref q) := by
  obtain ⟨a, b, c, d, rfl⟩ := four hl
  rfl
theorem bk_meth {vs : List V} {q : Addr} (hl : vs.length = 4) {m : Str} (h : (bkN ++ [("past" : Str)]).all (fun f => !(m == f)) = true) : (bkF vs q).lookup m = none := by
  obtain ⟨a, b, c, d, rfl⟩ := four hl
  simp only [bkN, List.cons_append, List.nil_append, List.all_cons, List.all_nil, Bool.and_true, Bool.and_eq_true, Bool.not_eq_true'] at h
  obtain ⟨h1, h2, h3, h4, h5⟩ := h
  show List.lookup m [(("places" : Str), a), (("kind" : Str), b), (("web" : Str), c), (("deeds" : Str), d), (("past" : Str), V.ref q)] = none
  simp only [List.lookup_cons, h1, h2, h3, h4, h5, List.lookup_nil]
end
section
variable {X : Cx} {G : List Fn} {fu : Nat} {kp : Nat → Bool} {W : WX} {pos p pos2 pt : Pos} {ea eb : Expr} {ca : CE}
theorem s_fset {C : Addr} (T : BkTxt X.K C) {i j : Nat} {f : Str} (hj : bkN[j]? = some f) (ho : PE X eb (tR X.K G (.var i))) (ha : PE X ea (tR X.K G ca)) (hs : swapsWith ea (some (.Attribute eb f pt)) pos.line X.env = pure false) :
    PS X (.Assign [.Attribute eb f pt] ea pos) (tS X.K W G fu kp (.fset i j ca)) :=
  PS.weak (ps_fld ho ha hs) fun D σ H ⟨Hf, fps, ρ, o, S, e, q⟩ => by
    obtain ⟨⟨x, ρ1⟩, e1, e⟩ := Option.bind_eq_some_iff.mp (show ((ev G ca ρ).bind fun p => (frz p.2 p.1).bind fun p2 => match p2.2[i]? with
      | some (.bk fs past) => if j < fs.length then some (Out.nx (p2.2.set i (.bk (fs.set j p2.1) past))) else none
      | _ => none) = some o from e)
    obtain ⟨⟨d, ρ2⟩, e2, e⟩ := Option.bind_eq_some_iff.mp e
    dsimp only at e
    split at e
    · rename_i fs past hr
      split at e
      · rename_i hjl
        cases e
        refine ⟨Hf, fps, ρ, x, ρ1, S, e1, fun Hf1 fps1 H1 y g1 S1 a1 => ?_⟩
        obtain ⟨Hf2, fps2, g2, S2, d2⟩ := S1.frz g1 a1 e2
        refine ⟨Hf2, fps2, ρ2, .own i, ρ2, S2, ?_, fun Hf3 fps3 H3 v g3 S3 a3 => ?_⟩
        · show (look ρ2 i).map (fun a => (a, ρ2)) = _
          unfold look
          rw [hr]; rfl
        · obtain ⟨v', h1, C', p, q', dx, vs, xs, rfl, hf, hC, hp, hq, hx, hl, hd, hd2⟩ := S3.here i _ hr (fun z => nomatch z)
          have a3' : σ[i]? = some (some v) := a3
          rw [h1] at a3'
          cases a3'
          cases hC.inj T.is
          have hpi : p ∈ fps3 i := by rw [hf]; simp
          have npq : q' ≠ p := fun z => by rw [z, hp] at hq; cases hq
          have npx : dx ≠ p := fun z => by rw [z, hp] at hx; cases hx
          refine ⟨p, _, dx, _, rfl, hp, T.cl, T.no f (bk_mem hj), bk_len hl, ?_⟩
          rw [bk_put hl hj]
          refine q Hf3 fps3 σ _ ((g2.trans g3).write hpi) (S3.write2 (lt_of_get hr) hpi h1 ⟨_, p, q', dx, vs.set j y, xs, rfl, hf, hC, upd_same, by rw [upd_ne npq]; exact hq, by rw [upd_ne npx]; exact hx, by rw [List.length_set]; exact hl, hd.set (Dq.mono g3.fz _ _ d2) j, hd2⟩ fun z => nomatch z) .refl
      · cases e
    · cases e
theorem s_papp {C : Addr} (T : BkTxt X.K C) {i j : Nat} {f : Str} {apos cpos pf pg : Pos} (hj : bkN[j]? = some f) (ho : PE X eb (tVar i)) (ho2 : PE X ea (tVar i)) (hb : attributeBase eb "past" X.env (eval eb X.env) = eval eb X.env) (hb2 : attributeBase ea f X.env (eval ea X.env) = eval ea X.env)
    (hbase : attributeBase (.Attribute eb "past" pf) "append" X.env (eval (.Attribute eb "past" pf) X.env) = eval (.Attribute eb "past" pf) X.env) (hfew : ((backTo cpos (starEach [.Attribute ea f pg] X.env)).all (fun x => !x.1) && (backToKw cpos (keywordEach [] X.env)).all (fun x => x.1.isSome)
      && decide (([.Attribute ea f pg] : List Expr).length + ([] : List Keyword).length + (if ([] : List Keyword).isEmpty then 0 else 1) < 30)) = true) (hline : (apos.endLine == cpos.line) = true) :
    PS X (.Expr (.Call (.Attribute (.Attribute eb "past" pf) "append" apos) [.Attribute ea f pg] [] cpos) pos) (tS X.K W G fu kp (.papp i j)) :=
  PS.weak (ps_expr (pe_bm PySem.F.plainAttrs_list PySem.F.slot_list_append PySem.F.type_list_append mt_append (pe_fld ho hb) (pa_cons (pe_fld ho2 hb2) pa_nil rfl) hbase hfew hline rfl rfl) rfl) fun D σ H ⟨Hf, fps, ρ, o, S, e, q⟩ => by
    have e : (match ρ[i]? with
      | some (.bk fs past) => (fs[j]?).bind fun d => if sm past = true then some (Out.nx (ρ.set i (.bk fs (past ++ [d])))) else none
      | _ => none) = some o := e
    split at e
    · rename_i fs past hr
      obtain ⟨d, e1, e⟩ := Option.bind_eq_some_iff.mp e
      split at e
      · rename_i hs
        cases e
        obtain ⟨v', h1, C', p, q', dx, vs, xs, rfl, hf, hC, hp, hq, hx, hl, hd, hd2⟩ := S.here i _ hr (fun z => nomatch z)
        cases hC.inj T.is
        obtain ⟨y, hy, hlk⟩ := bk_look (q := q') hl hj
        obtain ⟨d', hd', dy⟩ := hd.getV hy
        rw [e1] at hd'
        cases hd'
        have hqi : q' ∈ fps i := by rw [hf]; simp
        have npq : p ≠ q' := fun z => by rw [← z, hp] at hq; cases hq
        have nxq : dx ≠ q' := fun z => by rw [z, hq] at hx; cases hx
        refine ⟨_, h1, p, _, dx, _, V.ref q', rfl, hp, T.cl, T.no "past" (.tail _ (.tail _ (.tail _ (.tail _ (.head _))))), bk_past hl, .inl ⟨rfl, xs, SqL.of hq⟩, ?_⟩
        refine ⟨_, h1, p, _, dx, _, y, rfl, hp, T.cl, T.no f (bk_mem hj), hlk, q', xs, y, rfl, rfl, hq, by rw [hd2.length]; exact line_sm hs, ?_⟩
        exact q Hf fps σ _ (Go.refl.write hqi) (S.write2 (lt_of_get hr) hqi h1 ⟨_, p, q', dx, vs, xs ++ [y], rfl, hf, hC, by rw [upd_ne npq]; exact hp, upd_same, by rw [upd_ne nxq]; exact hx, hl, hd, hd2.append (.cons dy .nil)⟩ fun z => nomatch z) .refl
      · cases e
    · cases e
end
end Cor
set_option Elab.async false
set_option linter.all false
set_option maxRecDepth 100000
set_option maxHeartbeats 4000000
/-! Core 5f: methods of a book, a book made. -/
namespace Cor
open PySem PySem.Spec PyProof.Rows L2
open Evl (Ex ex_l ex_t)
section
variable {X : Cx} {G : List Fn} {pos apos p : Pos} {ea eb : Expr} {es : List Expr} {m x : Str} {sp : Sp} {t : TA} {ta : TE}
/-- o.m(..) of an instance of the class at C: by what its function does -/
def tMe (C : Addr) (m : Str) (sp : Sp) (ta : TE) (t : TA) : TE := fun σ H Q => ta σ H fun x H1 => ∃ a dx fs, x = .ref a ∧ H1 a = some (.ins C dx fs) ∧ fs.lookup m = none ∧ t σ H1 fun vs H2 => sp (x :: vs) H2 Q E0
theorem pe_methC {C f : Addr} {pl : Sem Bool} (he : PE X eb ta) (c : L2.Cls X.K C) (hm : L2.Meth X.K C m f) (R : Runs X f sp) (ha : PA X (ea :: es) t) (hst : starEach (ea :: es) X.env = (false, eval ea X.env) :: starEach es X.env) (hpl : (backTo pos (starEach es X.env)).any (·.1) = false)
    (ht : eval (.Call (.Attribute eb m apos) (ea :: es) [] pos) X.env = (do
      let ov ← eval eb X.env
      standAt apos.atName
      let (f, first) ← holding [ov] (getMethod ov m pl)
      callWith pos f first (backTo pos (starEach (ea :: es) X.env)) (backToKw pos (keywordEach [] X.env)))) : PE X (.Call (.Attribute eb m apos) (ea :: es) [] pos) (tMe C m sp ta t) := by
  refine ⟨fun pins s σ H Q I h => ?_⟩
  refine PySem.W.methodCall_KW (pl := pl) (thn (he.run pins s σ H _ I h) fun u s1 ⟨x, H1, I1, rx, a, dx, fs, ex, ea', l, q⟩ => ?_) ht
  subst ex
  obtain rfl : u = Value.ref a := rx
  refine getmeth_ok I1 ea' c hm l ?_
  refine PySem.W.callWith_K (first := [.ref a]) (h₀ := X.base) I.ok.mod.kin hm.kp (thn (ha.run pos pins s1 σ H1 _ I1 q) fun us s2 ⟨vs, H2, I2, r, q2⟩ => ⟨I2.kIn, ?_⟩) hst hpl
  exact R pins σ H2 s2 (.ref a :: us) (.ref a :: vs) Q I2 (.cons rfl r) q2
theorem pe_methC0 {C f : Addr} {pl : Sem Bool} (he : PE X eb ta) (c : L2.Cls X.K C) (hm : L2.Meth X.K C m f) (R : Runs X f sp)
    (ht : eval (.Call (.Attribute eb m apos) [] [] pos) X.env = (do
      let ov ← eval eb X.env
      standAt apos.atName
      let (f, first) ← holding [ov] (getMethod ov m pl)
      callWith pos f first (backTo pos (starEach [] X.env)) (backToKw pos (keywordEach [] X.env)))) : PE X (.Call (.Attribute eb m apos) [] [] pos) (tMe C m sp ta tNil) := by
  refine ⟨fun pins s σ H Q I h => ?_⟩
  refine PySem.W.methodCall_KW (pl := pl) (thn (he.run pins s σ H _ I h) fun u s1 ⟨x, H1, I1, rx, a, dx, fs, ex, ea', l, q⟩ => ?_) ht
  subst ex
  obtain rfl : u = Value.ref a := rx
  refine getmeth_ok I1 ea' c hm l ?_
  exact PySem.W.callWith_K0 (first := [.ref a]) I1.kIn hm.kp (R pins σ H1 s1 [.ref a] [.ref a] Q I1 (.cons rfl .nil) q)
theorem mth_of {C : Addr} (T : BkTxt X.K C) {kf i : Nat} {c : CA} {fn : Sl → List PyData → Option (PyData × Sl)} (hG : G[kf]? = some (.mut fn)) (hm : (bkN ++ [("past" : Str)]).all (fun f => !(m == f)) = true) {σ : L2.St} {H : Hp} {Q : VK} (h : tR X.K G (.mth kf i c) σ H Q) :
    tMe C m (spM X.K fn) (tVar i) (tF X.K G c) σ H Q := by
  obtain ⟨Hf, fps, ρ, a, ρ', S, ee, q⟩ := h
  have ee : (match ρ[i]? with
    | some (.bk _ _) => (evF G c ρ).bind fun p => (p.2[i]?).bind fun sl => (fn sl p.1).bind fun p2 => if (noEmp sl && noEmp p2.2) = true then some (Arg.val p2.1, p.2.set i p2.2) else none
    | _ => none) = some (a, ρ') := by
    unfold ev at ee
    rw [hG] at ee
    exact ee
  split at ee
  · rename_i fs0 past0 hr0
    obtain ⟨⟨ds, ρ1⟩, e1, ee⟩ := Option.bind_eq_some_iff.mp ee
    obtain ⟨sl, e2, ee⟩ := Option.bind_eq_some_iff.mp ee
    obtain ⟨⟨d, sl'⟩, e3, ee⟩ := Option.bind_eq_some_iff.mp ee
    dsimp only at ee e2
    split at ee
    · rename_i hne
      rw [Bool.and_eq_true] at hne
      cases ee
      obtain ⟨v', h1, C', p, q', dx, vs, xs, rfl, hf, hC, hp, hq, hx, hl, hd, hd2⟩ := S.here i _ hr0 (fun z => nomatch z)
      cases hC.inj T.is
      refine ⟨_, h1, p, dx, _, rfl, hp, bk_meth hl hm, Hf, fps, ρ, ds, _, S, e1, fun Hf2 fps2 H2 ws g2 S2 d2 => ?_⟩
      obtain ⟨v2, hv2, ow⟩ := S2.here i sl e2 (noEmp_ne hne.1)
      rw [h1] at hv2
      cases hv2
      refine ⟨Hf2, fps2 i, .ref p, ws, sl, ds, d, sl', S2.ex, rfl, ow, fun a ha => S2.nof i a ha, noEmp_ne hne.1, noEmp_ne hne.2, d2, e3, fun w Hf' H' fp' ex' fo ow' hn dq => ?_⟩
      obtain ⟨S3, g3⟩ := S2.afterM (lt_of_get e2) h1 fo ex' ow' (noEmp_ne hne.2) hn
      exact q Hf' _ H' w (g2.trans g3) S3 dq
    · cases ee
  · cases ee
end
/-- C(..), by what __init__ does -/
theorem run_makeC {X : Cx} {CX : CXT} {k : Nat} {f C : Addr} {fd : FuncData} {ps : List Str} {sp : Sp} {E : XK} {pins : List (Addr × Obj)} {σ : L2.St} {H : Hp} {s : Shared} {Q : VK} {us : List Value} {vs : List V} (M : L2.Mk X.K C f) (F : FnC X.prog X.w X.K X.mg X.base CX k f fd ps sp) (hr : Room (k + 1) X.A) (hg : X.A.guards = some []) (hb : L2.Binds X.K fd ps [])
    (hx : ∀ (σ : L2.St) (pins : List (Addr × Obj)) (H : Hp) (s : Shared) (e : Value) (s' : Shared), L2.Inv X pins σ H s → CX X.stack H s E e s' → X.xe e s') (I : L2.Inv X pins σ H s) (r : Vals vs us)
    (h : ∀ x dx, H x = none → H dx = none → dx ≠ x → sp (.ref x :: vs) (upd (upd H dx (.own x)) x (.ins C dx [])) (fun v H2 => v = .non ∧ Q (.ref x) H2) E) :
    wpAny (model X.prog X.w) X.A (call (.ref C) us) (EP X pins σ Q) X.xe s := by
  have hq := h (s.heap.objs.size + 1) s.heap.objs.size (I.hok.fresh (Nat.le_succ _)) (I.hok.fresh (Nat.le_refl _)) (Nat.ne_of_lt (Nat.lt_succ_self _))
  have I2 := Inv.made (C := C) I
  have r2 : Vals (V.ref (s.heap.objs.size + 1) :: vs) (Value.ref (s.heap.objs.size + 1) :: us) := .cons rfl r
  have hl : (Value.ref (s.heap.objs.size + 1) :: us ++ []).length = ps.length := by
    have e := r2.length
    rw [F.len _ _ _ _ hq] at e
    rw [List.append_nil]
    exact e.symm
  have hb' := hb _ (Value.ref (s.heap.objs.size + 1) :: us) I2.kIn hl
  rw [List.append_nil] at hb'
  refine wpAny_call (make_map (f := f) I.kIn M.makes M.init (beq_iff_eq.mp M.fn) (codeAny_mono (F.run _ X.stack _ _ ⟨Value.ref (s.heap.objs.size + 1) :: us, []⟩ (Value.ref (s.heap.objs.size + 1) :: us) _ _ E (hr.make C us []) hg
    (I2.env0.make C us []) hb' r2 hq) fun r s' hq' => ?_))
  cases r with
  | error e => exact hx σ pins _ _ e s' I2 hq'
  | ok fl =>
    cases fl with
    | ret u =>
      obtain ⟨v, H', I3, rv, ev, q3⟩ := I2.after hq'
      subst ev
      exact ⟨rv, ⟨V.ref (s.heap.objs.size + 1), H', I3, rfl, q3⟩⟩
    | next => exact False.elim hq'
    | brk => exact False.elim hq'
    | cont => exact False.elim hq'
end Cor
set_option Elab.async false
set_option linter.all false
set_option maxRecDepth 100000
set_option maxHeartbeats 4000000
/-! Core 5g: try with several clauses, some with a name. -/
namespace Cor
open PySem PySem.Spec PyProof.Rows L2
open Evl (Ex ex_l ex_t)
abbrev Clause := Value × Option Nat × (Addr → Value → Option Addr → TS)
def putBack (i : Nat) (D : Ends) : Ends := { nx := fun σ' H' => D.nx (σ'.set i none) H', rt := D.rt, bk := fun σ' H' => D.bk (σ'.set i none) H', ct := fun σ' H' => D.ct (σ'.set i none) H' }
/-- what the clauses wish of an error of the body, one after the other -/
def wMix (K : PySem.W.Frag) (Wout : WX) (D : Ends) : List Clause → WX
  | [] => Wout
  | (c, none, ts) :: r => fun cls d σ H => ∃ b, PySem.W.exmOne K cls c = some b ∧ (b = true → ∀ a, H a = none → ts a cls d D σ H) ∧ (b = false → wMix K Wout D r cls d σ H)
  | (c, some i, ts) :: r => fun cls d σ H => ∃ b, PySem.W.exmOne K cls c = some b ∧ (b = true → ∀ a, H a = none → ts a cls d (putBack i D) (σ.set i (some (.ref a))) H) ∧ (b = false → wMix K Wout D r cls d σ H)
inductive HdMix (X : Cx) : List ExceptHandler → List Clause → Prop
  | nil : HdMix X [] []
  | plain {x : Str} {c : Value} {ts : Addr → Value → Option Addr → TS} {b₀ : Stmt} {suite : List Stmt} {np pos' : Pos} {hds : List ExceptHandler} {l : List Clause} (hc : Names X x c)
      (hsu : ∀ (a : Addr) (oe : Obj) (cls : Value) (d : Option Addr) (pn : List (Addr × Obj)), Zc cls d oe → (∃ vs, oe.data = .fields vs) → PSs (X.suite a ((a, oe) :: pn)) (b₀ :: suite) (ts a cls d)) (r : HdMix X hds l) :
      HdMix X (.ExceptHandler (some (.Name x np)) none (b₀ :: suite) pos' :: hds) ((c, none, ts) :: l)
  | named {x n : Str} {i : Nat} {c : Value} {ts : Addr → Value → Option Addr → TS} {b₀ : Stmt} {suite : List Stmt} {np pos' : Pos} {hds : List ExceptHandler} {l : List Clause} (hi : X.N[i]? = some n) (hln : X.env.kindOf n = some .local) (hc : Names X x c)
      (hsu : ∀ (a : Addr) (oe : Obj) (cls : Value) (d : Option Addr) (pn : List (Addr × Obj)), Zc cls d oe → (∃ vs, oe.data = .fields vs) → PSs (X.suite a ((a, oe) :: pn)) (b₀ :: suite) (ts a cls d)) (r : HdMix X hds l) :
      HdMix X (.ExceptHandler (some (.Name x np)) (some n) (b₀ :: suite) pos' :: hds) ((c, some i, ts) :: l)
section
variable {X : Cx} {body : List Stmt} {h₀ : ExceptHandler} {hds : List ExceptHandler} {l : List Clause} {pos : Pos} {tb : WX → TS} {Wout : WX}
theorem ps_try_mix (hs : X.stack = X.env :: X.outer) (hf : X.env.frame = some X.env.locals) (hN : X.N.Nodup) (tk : Takes X Wout)
    (hb : ∀ (W : WX) (pn : List (Addr × Obj)) (xe : Value → Shared → Prop), Takes (X.tr pn xe) W → PassesOwn (model X.prog X.w) X.A X.env xe → PSs (X.tr pn xe) body (tb W))
    (hh : HdMix X (h₀ :: hds) l) : PS X (.Try body (h₀ :: hds) [] [] pos) (fun D σ H => tb (wMix X.K Wout D l) D σ H) := by
  refine ⟨fun pins s σ H D I h => ?_⟩
  have ok := I.ok
  have hfr : X.A.frames = some (X.env :: X.outer) := by rw [ok.frames, hs]
  refine wpAny_Try_except ?_
  refine wpAny_mono ((hb (wMix X.K Wout D l) (X.pn ++ pins) (fun e s₁ => wpAny (model X.prog X.w) X.A (noteFrame e X.env) (fun _ s₂ => wpAny (model X.prog X.w) X.A (setFlight e none) (fun _ s₃ =>
    wpAny (model X.prog X.w) X.A (handleBy e X.env (h₀ :: hds)) (SP X pins D) X.xe s₃) X.xe s₂) X.xe s₁) (fun u s' xx => ?_) PassesOwn.looking).run [] s σ H D (I.toTry _) h) (fun f s1 hsp => ?_) (fun e s1 he => he)
  · obtain ⟨a, B, sI, pins', σ', H', cls, d, rfl, J', nb, up, sky, na, os, ag, w⟩ := xx
    have J := J'.ofTry ok
    have sky' : Sky B (X.env :: X.outer) a (Zc cls d) X.env.locals s'.heap := by rw [← hs]; exact sky
    show wpAny (model X.prog X.w) X.A (noteFrame (.ref a) X.env) _ _ _
    refine Sky.land Zc.steady hfr hf sky' fun h3 fl3 up3 => ?_
    have J3 : L2.Inv X pins σ' H' { s' with heap := h3 } := J.landed nb fl3.1 (up.trans up3) os ag
    obtain ⟨oe3, vs3, he3, hz3, hd3⟩ := fl3.there
    have nfr : a ∉ frs (X.env :: X.outer) := fun hm => by
      obtain ⟨_, o', e', hnf⟩ := fl3.2.2.1.mem hm
      rw [he3] at e'
      cases e'
      exact hnf _ hd3
    have nL : a ≠ X.env.locals := fun z => nfr (List.mem_filterMap.mpr ⟨X.env, List.mem_cons_self, by rw [hf, z]⟩)
    have nF : a ∉ X.fs := fun hm => by
      obtain ⟨e, he, q⟩ := List.mem_filterMap.mp hm
      exact nfr (List.mem_filterMap.mpr ⟨e, List.mem_cons_of_mem _ he, q⟩)
    have S3 := J3.suite he3 hd3 na nL nF
    have LT : PySem.W.Looks (model X.prog X.w) h3 (typeOf (.ref a)) cls := fun A Q E s k q => wpAny_typeOf_ref (k _ _ he3) (by rw [hz3.1]; exact q)
    have test : ∀ {x : Str} {c : Value} {np : Pos} {Q : Value → Shared → Prop} {E : Value → Shared → Prop}, Names X x c → Q c { s' with heap := h3 } → wpAny (model X.prog X.w) (X.A.mark (some (.ref a))) (eval (.Name x np) X.env) Q E { s' with heap := h3 } := fun {x c np Q E} hc q => by
      obtain ⟨hg, hdbg, hm | ⟨hm, hv, hnn⟩⟩ := hc
      · exact ld_glob (X := X.suite a ((a, oe3) :: (X.pn ++ pins))) S3 hg hm q hdbg
      · exact ld_blt (X := X.suite a ((a, oe3) :: (X.pn ++ pins))) S3 hg hm hv q hnn hdbg
    have go : ∀ {hds' : List ExceptHandler} {l' : List Clause}, HdMix X hds' l' → wMix X.K Wout D l' cls d σ' H' → wpAny (model X.prog X.w) X.A (handleBy (.ref a) X.env hds') (SP X pins D) X.xe { s' with heap := h3 } := by
      intro hds' l' hk
      induction hk with
      | nil =>
        intro w
        refine wpAny_handleBy_nil ?_
        obtain ⟨k1, k2, k3, oe, vs, T, oT, ts', he, hz, hd, h1, hr⟩ := id fl3
        unfold PySem.passOn
        refine wpAny_bind (wpAny_field he hd h1 ?_)
        rw [if_neg (show ¬ ((Value.ref T == Value.none) = true) from by simp)]
        have fin : wpAny (model X.prog X.w) X.A (setFlight (.ref a) X.env.frame) (fun _ s4 => wpAny (model X.prog X.w) X.A (throw (.ref a) : Sem Flow) (SP X pins D) X.xe s4) X.xe { s' with heap := h3 } := by
          rw [hf]
          refine HandSPX.setFlight_upZ fl3 fun h4 hh4 up4 => wpAny_throw (tk _ _ ?_)
          exact ⟨a, B, sI, pins, σ', H', cls, d, rfl, J, nb, (up.trans up3).trans up4, .inr (.inr (by rw [hs]; exact hh4)), na, os, ag, w⟩
        first
          | exact wpAny_bind (wpAny_pure (wpAny_bind fin))
          | exact wpAny_bind fin
      | @plain x c ts b₀ suite np pos' hds2 l2 hc hsu r ih =>
        intro w
        obtain ⟨b, hb1, hyes, hno⟩ := w
        have LM := PySem.W.exm_one (M := model X.prog X.w) (J3.kIn) LT hb1
        refine wpAny_handleBy_cons (codeAny_handlers_test ?_) (by intro q; cases q)
        refine test hc (LM.here ?_)
        cases b with
        | true =>
          refine codeAny_handlers_suite ?_
          refine HandSPX.lands_againZ fl3 fun h4 fl4 up4 => ?_
          have J4 : L2.Inv X pins σ' H' { s' with heap := h4 } := J.landed nb fl4.1 ((up.trans up3).trans up4) os ag
          obtain ⟨oe4, vs4, he4, hz4, hd4⟩ := fl4.there
          have S4 := J4.suite he4 hd4 na nL nF
          refine wpAny_mono ((hsu a oe4 cls d (X.pn ++ pins) hz4 ⟨_, hd4⟩).run [] _ _ H' _ S4 (hyes rfl a na)) (fun f s6 hsp => ?_) (fun _ _ z => False.elim z)
          cases f with
          | next => obtain ⟨σ6, H6, S6, q6⟩ := hsp; exact ⟨_, _, S6.unsuite ok, q6⟩
          | brk => obtain ⟨σ6, H6, S6, q6⟩ := hsp; exact ⟨_, _, S6.unsuite ok, q6⟩
          | cont => obtain ⟨σ6, H6, S6, q6⟩ := hsp; exact ⟨_, _, S6.unsuite ok, q6⟩
          | ret u => obtain ⟨v6, σ6, H6, S6, r6, q6⟩ := hsp; exact ⟨_, _, _, S6.unsuite ok, r6, q6⟩
        | false =>
          show wpAny _ X.A (handleBy (.ref a) X.env hds2) _ _ _
          exact ih (hno rfl)
      | @named x n i c ts b₀ suite np pos' hds2 l2 hi hln hc hsu r ih =>
        intro w
        obtain ⟨b, hb1, hyes, hno⟩ := w
        have LM := PySem.W.exm_one (M := model X.prog X.w) (J3.kIn) LT hb1
        refine wpAny_handleBy_cons (codeAny_handlers_test ?_) (by intro q; cases q)
        refine test hc (LM.here ?_)
        cases b with
        | true =>
          refine codeAny_handlers_suite_as ?_
          refine HandSPX.lands_againZ fl3 fun h4 fl4 up4 => ?_
          have J4 : L2.Inv X pins σ' H' { s' with heap := h4 } := J.landed nb fl4.1 ((up.trans up3).trans up4) os ag
          obtain ⟨oe4, vs4, he4, hz4, hd4⟩ := fl4.there
          have S4 := J4.suite he4 hd4 na nL nF
          refine store_ok (X := X.suite a ((a, oe4) :: (X.pn ++ pins))) (v := .ref a) S4 hN hi (.inl hln) rfl (fun s5 S5 => ?_) (.inr hln)
          refine wpAny_mono ((hsu a oe4 cls d (X.pn ++ pins) hz4 ⟨_, hd4⟩).run [] s5 _ H' _ S5 (hyes rfl a na)) (fun f s6 hsp => ?_) (fun _ _ z => False.elim z)
          have end_ : ∀ {σ6 : L2.St} {H6 : Hp} {Q : Shared → Prop}, L2.Inv (X.suite a ((a, oe4) :: (X.pn ++ pins))) [] σ6 H6 s6 → (∀ s7, L2.Inv X pins (σ6.set i none) H6 s7 → Q s7) →
              wpAny (model X.prog X.w) X.A (do bindName X.env n .none; unbindBehindTheSuite X.env n pos') (fun _ s7 => Q s7) X.xe s6 := fun {σ6 H6 Q} S6 hq => gone_ok (S6.unsuite ok) hN hi hln hq
          cases f with
          | next => obtain ⟨σ6, H6, S6, q6⟩ := hsp; exact end_ S6 fun s7 J7 => ⟨_, _, J7, q6⟩
          | brk => obtain ⟨σ6, H6, S6, q6⟩ := hsp; exact end_ S6 fun s7 J7 => ⟨_, _, J7, q6⟩
          | cont => obtain ⟨σ6, H6, S6, q6⟩ := hsp; exact end_ S6 fun s7 J7 => ⟨_, _, J7, q6⟩
          | ret u => obtain ⟨v6, σ6, H6, S6, r6, q6⟩ := hsp; exact end_ S6 fun s7 J7 => ⟨_, _, _, J7, r6, q6⟩
        | false =>
          show wpAny _ X.A (handleBy (.ref a) X.env hds2) _ _ _
          exact ih (hno rfl)
    exact go hh w
  · cases f with
    | next => obtain ⟨σ', H', J', q⟩ := hsp; exact wpAny_execs_nil ⟨σ', H', J'.ofTry ok, q⟩
    | brk => obtain ⟨σ', H', J', q⟩ := hsp; exact ⟨σ', H', J'.ofTry ok, q⟩
    | cont => obtain ⟨σ', H', J', q⟩ := hsp; exact ⟨σ', H', J'.ofTry ok, q⟩
    | ret u => obtain ⟨v, σ', H', J', r, q⟩ := hsp; exact ⟨v, σ', H', J'.ofTry ok, r, q⟩
end
/-! ### the error's field -/
structure ErrRd (K : PySem.W.Frag) (C : Addr) (f : Str) : Prop where
  ga : PySem.W.findIn K (.ref C) "__getattribute__" = some (some (.builtin "BaseException.__getattribute__"))
  gg : PySem.W.findIn K (.ref C) "__getattr__" = some none
  exC : PySem.W.subIn K (.ref C) (.type "BaseException") = some true
  hdC : PySem.W.hasDictIn K C = true
  no : PySem.W.findIn K (.ref C) f = some none
/-- e.f, e the error that the suite holds -/
def tExF (C : Addr) (f : Str) (a : Addr) (cls : Value) (d : Option Addr) (te : TE) : TE := fun σ H Q => te σ H fun x H1 => x = .ref a ∧ cls = .ref C ∧ ∃ (dd : Addr) (v : V), d = some dd ∧ H1 dd = some (.xd [(f, v)]) ∧ Q v H1
theorem pe_exF {X : Cx} {C a : Addr} {f : Str} {oe : Obj} {cls : Value} {d : Option Addr} {pn : List (Addr × Obj)} {e : Expr} {te : TE} {pos : Pos} (T : ErrRd X.K C f) (hz : Zc cls d oe) (hf : ∃ vs, oe.data = .fields vs) (he : PE (X.suite a ((a, oe) :: pn)) e te)
    (hb : attributeBase e f X.env (eval e X.env) = eval e X.env) : PE (X.suite a ((a, oe) :: pn)) (.Attribute e f pos) (tExF C f a cls d te) := by
  refine ⟨fun pins s σ H Q I h => ?_⟩
  refine attr_of hb (thn (he.run pins s σ H _ I h) fun u s1 hh => ?_)
  obtain ⟨x, H1, I1, rx, ex, ec, dd, v, ed, ea, q⟩ := hh
  subst ex
  obtain rfl : u = Value.ref a := rx
  subst ec
  subst ed
  obtain ⟨ha, _⟩ := I1.pin (a, oe) (List.mem_append_left _ List.mem_cons_self)
  obtain ⟨vs, hd⟩ := hf
  have hx : ObjOk X.prog X.w H1 s1.heap dd (.xd [(f, v)]) := I1.hok dd _ ea
  obtain ⟨mA, hns, hr⟩ := hx
  obtain ⟨od, ho, hl⟩ := lookIn_ns hns
  have l : List.lookup f [(f, v)] = some v := by simp [List.lookup]
  obtain ⟨u, hu, ru⟩ := RelO.some_of (v := v) (o := mA f) (by rw [← l]; exact hr f)
  have J : PySem.W.InstAt s1.heap a oe C (some od) := ⟨ha, hz.1, by unfold PySem.W.notCls; rw [hd] <;> rfl, by rw [hz.2]; exact ho⟩
  exact HandSPX.exc_get I1.kIn J T.ga T.gg T.exC (PySem.W.findObj_own T.hdC T.no rfl (by rw [hl, hu])) (handed_of ru) ⟨v, H1, I1.tok _, ru, q⟩
end Cor
set_option Elab.async false
set_option linter.all false
set_option maxRecDepth 100000
set_option maxHeartbeats 4000000
/-! Core 5h: isinstance of a caught error that has fields: the rules of HandS.ExcIs, turned to an error with a dict. -/
namespace PySem.W
open PySem PySem.Spec PySem.Calls PyProof.Rows
section
variable {prog : Program} {w : World} {A : Around} {E : Value → Shared → Prop} {s : Shared} {K : Frag} {x D : Addr} {ox : Obj} {od : Option Obj}
theorem cor_findData {C : Addr} {name : Str} {a g : Value} (hc : (clsIn K C).isSome = true) (ha : findIn K (.ref C) name = some (some a)) (hg : specialIn K a "__get__" = some (some g)) (ht : takesIn K a = some true) : findObj K C od name = some (.bind g a) := by
  obtain ⟨cd, hc⟩ := Option.isSome_iff_exists.mp hc
  unfold findObj
  rw [hc, Option.bind_some, ha, Option.bind_some]
  simp [hg, ht]
theorem cor_class (hga : findIn K (.ref D) "__getattribute__" = some (some (.builtin "BaseException.__getattribute__"))) (hgt : findIn K (.ref D) "__getattr__" = some none) (hsub : subIn K (.ref D) (.type "BaseException") = some true)
    (hdct : hasDictIn K D = true) (ha : findIn K (.ref D) "__class__" = some (some (.builtin "object.__class__")))
    (hn : specialIn K (.builtin "object.__class__") "__get__" = some (some (.builtin "getset_descriptor.__get__"))) (htk : takesIn K (.builtin "object.__class__") = some true) (hm : mroIn K D (.type "object") = some true)
    (X : K.In s.heap) (I : InstAt s.heap x ox D od) {Q : Option Value → Shared → Prop} (h : Q (some (.ref D)) { s with toks := s.toks + 1 }) : wpAny (model prog w) A (getAttr? (.ref x) "__class__") Q E s := by
  have hf : findObj K D od "__class__" = some (.bind (.builtin "getset_descriptor.__get__") (.builtin "object.__class__")) := cor_findData (by obtain ⟨cd, hc, _⟩ := any_some hdct; rw [hc]; rfl) ha hn htk
  obtain ⟨hp, g, d, t, os⟩ := s
  have L0 := I.type (M := model prog w)
  have L1 := looks_findIn (M := model prog w) X hga
  have L2 := looks_findIn (M := model prog w) X hgt
  have L3 := looks_find (M := model prog w) X I hf
  have sub : Looks (model prog w) hp (isInstance (.ref x) (.type "BaseException")) true := L0.andThen (looks_subIn X hsub)
  have hx2 : (Value.builtin "BaseException.__getattribute__" == Value.builtin "object.__getattribute__") = false := by decide +kernel
  unfold getAttr? getAttrBy? getAttrBy
  refine wpAny_bind (wpAny_mkText (wpAny_bind (wpAny_attempt (wpAny_holding (wpAny_bind (L0.at (wpAny_bind (L1.at ?_))))))))
  show wpAny _ _ (if (onTheHeap (Value.ref D) && Value.builtin "BaseException.__getattribute__" == Value.builtin "object.__getattribute__") = true then _ else _) _ _ _
  rw [show (onTheHeap (Value.ref D) && Value.builtin "BaseException.__getattribute__" == Value.builtin "object.__getattribute__") = false by rw [hx2]; rfl, if_neg Bool.false_ne_true]
  unfold getAttrByItsOwn hookBefore
  refine wpAny_bind ?_
  rw [if_pos (show onTheHeap (Value.ref D) = true from rfl)]
  refine L2.at ?_
  refine wpAny_bind (wpAny_attempt (wpAny_holding ?_))
  unfold callGetattribute
  rw [show (false && onTheHeap (Value.builtin "BaseException.__getattribute__")) = false from rfl, if_neg Bool.false_ne_true]
  unfold boundAndCalled
  rw [PySem.F.excAttr_ValueError.ga.bind (.ref x)]
  refine wpAny_bind (wpAny_pure ?_)
  show wpAny _ _ (call (.builtin "BaseException.__getattribute__") [.ref x, .str "__class__" t]) _ _ _
  refine wpAny_call (codeAny_call_builtin PySem.F.excAttr_ValueError.ga.plain PySem.F.entry_bexc_ga ?_)
  refine @check_slot (model prog w) _ _ ⟨hp, g, d, t + 1, os⟩ "BaseException.__getattribute__" "BaseException" "__getattribute__" (.ref x) [.str "__class__" t] [] _ (by decide +kernel) (by decide +kernel) sub (PySem.F.args_bexc_ga (.ref x) (.str "__class__" t)) ?_
  unfold Builtin.«object.__getattribute__»
  refine wpAny_bind (wpAny_of_eq (a := ((Value.ref x : Value), [Value.str "__class__" t])) (by first | rfl | (simp only [slotArgs]; rfl)) ?_)
  refine wpAny_bind (wpAny_pure (wpAny_bind (L0.at (wpAny_bind (L3.at ?_)))))
  show wpAny _ _ (holding [Value.builtin "object.__class__"] (call (.builtin "getset_descriptor.__get__") [.builtin "object.__class__", .ref x, .ref D]) >>= ret) _ _ _
  refine wpAny_bind (wpAny_holding (wpAny_call (class_get (s := ⟨hp, g, d, t + 1, os⟩) (ox := ox) (od := od) X I hm ?_)))
  refine wpAny_pure ?_
  show wpAny _ _ (handedOut (.ref D)) _ _ _
  rw [handedOut_of (v := .ref D) rfl]
  first
    | exact wpAny_pure (wpAny_pure h)
    | exact wpAny_pure h
    | exact wpAny_pure (wpAny_bind (wpAny_pure (wpAny_pure h)))
theorem cor_kitx (hga : findIn K (.ref D) "__getattribute__" = some (some (.builtin "BaseException.__getattribute__"))) (hgt : findIn K (.ref D) "__getattr__" = some none) (hsub : subIn K (.ref D) (.type "BaseException") = some true) (hdct : hasDictIn K D = true) (ha : findIn K (.ref D) "__class__" = some (some (.builtin "object.__class__")))
    (hn : specialIn K (.builtin "object.__class__") "__get__" = some (some (.builtin "getset_descriptor.__get__"))) (htk : takesIn K (.builtin "object.__class__") = some true) (hm : mroIn K D (.type "object") = some true) :
    KitX K (.ref x) (.ref D) (fun h => InstAt h x ox D od) where
  ty := fun _ _ _ I => I.type
  it := fun _ _ X _ => by
    obtain ⟨cdD, hcD, _⟩ := any_some hdct
    unfold clsIn at hcD
    split at hcD
    · rename_i c' d' cd' sl' ho
      intro A' Q' E' s' k q
      unfold isType loadHead
      exact wpAny_bind (wpAny_loadPart (k _ _ (X _ _ ho)) (wpAny_pure q))
    · cases hcD
  ne := fun h tp dd its n sl X htp => by
    obtain ⟨cdD, hcD, _⟩ := any_some hdct
    refine Bool.eq_false_iff.mpr fun q => ?_
    have e : D = tp := Value.ref.inj (beq_iff_eq.mp q)
    subst e
    unfold clsIn at hcD
    split at hcD
    · rename_i c' d' cd' sl' ho
      have z := (X _ _ ho).symm.trans htp
      cases z
    · cases hcD
  ca := fun X I k => cor_class hga hgt hsub hdct ha hn htk hm X I k
end
end PySem.W
namespace Cor
open PySem PySem.Spec PyProof.Rows L2
open Evl (Ex ex_l ex_t)
/-- isinstance(e, c), e the error that the suite holds, its dict at dd -/
def rIsF (K : PySem.W.Frag) (D a dd : Addr) (f : Str) : List V → Hp → VK → Prop := fun xs H Q => ∃ (c : Addr) (v : V) (b : Bool), xs = [.ref a, .ref c] ∧ H dd = some (.xd [(f, v)]) ∧ PySem.W.kitOne K (.ref D) (.ref c) = some b ∧ Q (.bl b) H
theorem call_isF {X : Cx} {a D dd : Addr} {f : Str} {oe : Obj} {pn : List (Addr × Obj)} (C : ExcC X.K D) (hz : Zc (.ref D) (some dd) oe) (hf : ∃ vs, oe.data = .fields vs) : CallR (X.suite a ((a, oe) :: pn)) (.builtin "isinstance") (rIsF X.K D a dd f) := by
  intro pins s σ H xs us Q I r h
  obtain ⟨c, v, b, rfl, ea, e, q⟩ := h
  cases r with
  | cons rx rr =>
    cases rr with
    | cons rt rr =>
      cases rr
      cases rx
      cases rt
      obtain ⟨hget, _⟩ := I.pin (a, oe) (List.mem_append.mpr (.inl List.mem_cons_self))
      obtain ⟨vs, hv⟩ := hf
      have hx : ObjOk X.prog X.w H s.heap dd (.xd [(f, v)]) := I.hok dd _ ea
      obtain ⟨mA, hns, hr⟩ := hx
      obtain ⟨od, ho, hl⟩ := lookIn_ns hns
      have J : PySem.W.InstAt s.heap a oe D (some od) := ⟨hget, hz.1, by unfold PySem.W.notCls; rw [hv] <;> rfl, by rw [hz.2]; exact ho⟩
      exact PySem.W.kia_one (PySem.W.cor_kitx C.hg C.hk C.hs C.hd C.ha C.hn C.ht C.hm) I.kIn J e (fun z => nomatch z) fun tk => ⟨.bl b, H, I.kept (t' := tk) fun _ _ z => z, rfl, q⟩
end Cor
set_option Elab.async false
set_option linter.all false
set_option maxRecDepth 100000
set_option maxHeartbeats 4000000
/-! Core 6: defs. -/
namespace Cor
open PySem PySem.Spec PyProof.Rows L2
open Evl (Ex ex_l ex_t)

section
variable {P : Program} {w : World} {K : PySem.W.Frag} {mg : Str → Option Value} {base : Heap} {CX : CXT} {k : Nat}
/-- the rule of a def, in a run in which no repr goes on -/
theorem fnC_of {f : Addr} {name qual : Str} {params : Arguments} {body : List Stmt} {scope : Scope} {dV kV doc pm cdv ct oc : Value} {an od : Option Addr} {osl : Array (Option Value)} {N ps : List Str} {sp : Sp}
    (lk : K.lookup f = some ⟨oc, od, .func (PySem.W.fnOf name qual params body scope dV kV doc pm an cdv ct), osl⟩) (hcd : PySem.W.codeIn K cdv qual = true) (S : FnScope N ps scope) (len : ∀ vs H Q E, sp vs H Q E → vs.length = ps.length)
    (hbody : ∀ (A : Around) (outer : List Env) (s : Shared) (H : Hp) (vs : List V) (Q : VK) (E : XK), Room k (A.deeper (envOfC qual scope s.heap.objs.size f cdv)) → (A.deeper (envOfC qual scope s.heap.objs.size f cdv)).guards = some [] → sp vs H Q E →
      ∃ t, PSs (cxOf CX P w K mg base N qual scope f cdv A outer s H E) body t ∧ t { nx := fun _ H' => Q .non H', rt := Q } (L2.start N vs) H) :
    FnC P w K mg base CX (k + 1) f (PySem.W.fnOf name qual params body scope dV kV doc pm an cdv ct) ps sp := by
  refine ⟨len, fun A outer s H args us vs Q E hr hgd e0 hb r hsp => ?_⟩
  have hl := len _ _ _ _ hsp
  have KX : K.In s.heap := e0.mod.kin.keeps fun b o e => (e0.bs b o e).1
  have lim : s.heap.NoLimit := e0.mod.nolimit.keeps fun b o e => (e0.bs b o e).1
  have hkind : ∀ y ∈ ps.zip us, scope.names.lookup y.1 = some .local ∨ (scope.names.lookup y.1 = some .cell ∧ ((cellsFrom (s.heap.objs.size + 1) scope.names []).lookup y.1).isSome = true) := by
    rintro ⟨n, v⟩ hy
    rcases S.par n (List.of_mem_zip hy).1 with q | q
    · exact .inl q
    · exact .inr ⟨q, PySem.W.cellsFrom_some _ _ _ (.inl q)⟩
  refine codeAny_call_function hr.depth (KX _ _ lk) rfl S.co S.gen rfl (PySem.W.codeRec_of KX hcd) (hb _ _ _ _ ?_)
  refine wpAny_newFunctionEnv_cells S.kind hkind fun env he s1 x => ?_
  subst he
  refine ⟨lim.keeps x.toInCall.keep, codeAny_func ?_⟩
  obtain ⟨t, ht, hq⟩ := hbody A outer s H vs Q E (hr.deeper _) hgd hsp
  have I := inv_start (CX := CX) (E := E) S hr.hd e0 hl r x
  refine wpAny_mono (ht.run [] s1 (L2.start N vs) H _ I hq) (fun fl s' hs => ?_) fun e s' hs => hs
  cases fl with
  | ret u =>
    obtain ⟨v, σ', H', J, rv, q⟩ := hs
    exact ⟨v, H', J.os, J.bare, J.base, J.hok, rv, q⟩
  | next =>
    obtain ⟨σ', H', J, q⟩ := hs
    exact ⟨V.non, H', J.os, J.bare, J.base, J.hok, rfl, q⟩
  | brk =>
    obtain ⟨_, _, _, q⟩ := hs
    exact False.elim q
  | cont =>
    obtain ⟨_, _, _, q⟩ := hs
    exact False.elim q
end

/-! ### a def's entry -/
def entR (n : Nat) (sls : List Sl) : Rho := sls ++ List.replicate (n - sls.length) .emp
theorem sr_start {K : PySem.W.Frag} {Hf H : Hp} {N : List Str} {vs : List V} {sls : List Sl} {fps : Fps} (ex : Ex Hf H) (hl : vs.length = sls.length) (h : ∀ i sl, sls[i]? = some sl → ∃ v, vs[i]? = some v ∧ OwnAt K Hf H sl v (fps i))
    (gone : ∀ i, sls.length ≤ i → fps i = []) (nof : ∀ i a, a ∈ fps i → Hf a = none) (dis : ∀ i j a, a ∈ fps i → a ∈ fps j → i = j) : SR K Hf fps (L2.start N vs) H (entR N.length sls) := by
  refine ⟨ex, ?_, fun i sl e ne => ?_, fun i hi => ?_, nof, dis⟩
  · unfold L2.start entR
    rw [List.length_append, List.length_append, List.length_map, List.length_replicate, List.length_replicate, hl]
  · unfold entR at e
    by_cases hi : i < sls.length
    · rw [List.getElem?_append_left hi] at e
      obtain ⟨v, h1, h2⟩ := h i sl e
      refine ⟨v, ?_, h2⟩
      unfold L2.start
      rw [List.getElem?_append_left (by rw [List.length_map, hl]; exact hi), List.getElem?_map, h1]; rfl
    · rw [List.getElem?_append_right (by omega), List.getElem?_replicate] at e
      split at e
      · cases e; exact absurd rfl ne
      · cases e
  · by_cases hl' : i < sls.length
    · have e : (entR N.length sls)[i]? = some sls[i] := by unfold entR; rw [List.getElem?_append_left hl', List.getElem?_eq_getElem hl']
      obtain ⟨v, _, h2⟩ := h i _ (List.getElem?_eq_getElem hl')
      rw [hi _ e] at h2
      exact h2
    · exact gone i (by omega)
/-! ### what a def does, by the evaluator -/
def runP (G : List Fn) (fu n np : Nat) (b : CB) (ds : List PyData) : Option PyData :=
  if ds.length = np then (exB G fu b (entR n (ds.map .val))).bind fun o => match o with
    | .rt a ρ => (frz ρ a).map (·.1)
    | .nx _ => some .none
    | _ => none
  else none
def runK (G : List Fn) (fu n np : Nat) (b : CB) (ds : List PyData) : Option Sl :=
  if ds.length = np then (exB G fu b (entR n (ds.map .val))).bind fun o => match o with
    | .rt (.fr s) _ => some s
    | .rt (.own i) ρ => (ρ[i]?).bind fun s => if noEmp s then some s else none
    | _ => none
  else none
def runM (G : List Fn) (fu n np : Nat) (b : CB) (sl : Sl) (ds : List PyData) : Option (PyData × Sl) :=
  if ds.length + 1 = np then (exB G fu b (entR n (sl :: ds.map .val))).bind fun o => match o with
    | .rt a ρ => (frz ρ a).bind fun p => (p.2[0]?).bind fun s => if noEmp s then some (p.1, s) else none
    | .nx ρ => (ρ[0]?).bind fun s => if noEmp s then some (.none, s) else none
    | _ => none
  else none
section
variable {P : Program} {w : World} {K : PySem.W.Frag} {mg : Str → Option Value} {base : Heap} {k : Nat} {G : List Fn} {fu : Nat} {kp : Nat → Bool} {b : CB}
variable {f : Addr} {name qual : Str} {params : Arguments} {body : List Stmt} {scope : Scope} {dV kV doc pm cdv ct oc : Value} {an od : Option Addr} {osl : Array (Option Value)} {N ps : List Str}
abbrev BodyOk (P : Program) (w : World) (K : PySem.W.Frag) (mg : Str → Option Value) (base : Heap) (k : Nat) (G : List Fn) (fu : Nat) (kp : Nat → Bool) (N : List Str) (qual : Str) (scope : Scope) (f : Addr) (cdv : Value) (body : List Stmt) (b : CB) : Prop :=
  ∀ (W : WX) (X : Cx), X.prog = P → X.w = w → X.K = K → X.mg = mg → X.base = base → X.N = N → X.env.scope = scope → X.calm = true → Room k X.A → X.A.guards = some [] → (X.fn = fun _ => true) → PassesOwn (model X.prog X.w) X.A X.env X.xe → Takes X W → PSs X body (tB K W G fu kp b)
theorem start_vals {Hf H : Hp} {vs : List V} {ds : List PyData} (ex : Ex Hf H) (hd : DqAll K Hf vs ds) : SR K Hf (fun _ => []) (L2.start N vs) H (entR N.length (ds.map .val)) := by
  refine sr_start ex (by rw [List.length_map, hd.length]) (fun i sl e => ?_) (fun _ _ => rfl) (fun i a ha => by simp at ha) (fun i j a ha => by simp at ha)
  rw [List.getElem?_map] at e
  obtain ⟨d, e1, e2⟩ := Option.map_eq_some_iff.mp e
  subst e2
  obtain ⟨v, h1, h2⟩ := hd.get e1
  exact ⟨v, h1, rfl, h2⟩
theorem fo_of {Hf H Hf' H' : Hp} {fps' : Fps} (g : Go Hf (fun _ => []) H Hf' fps' H') : Fo Hf H Hf' H' [] [] :=
  ⟨g.fz, fun a o h1 h2 _ => by
    obtain ⟨q1, q2, _⟩ := g.fo a o h1 h2 (fun i => by simp)
    exact ⟨q1, q2, by simp⟩, g.th⟩
theorem body_at (hb : BodyOk P w K mg base k G fu kp N qual scope f cdv body b) {A : Around} {outer : List Env} {s : Shared} {H : Hp} {E : XK} (hr : Room k (A.deeper (envOfC qual scope s.heap.objs.size f cdv)))
    (hg : (A.deeper (envOfC qual scope s.heap.objs.size f cdv)).guards = some []) : PSs (cxOf CX0 P w K mg base N qual scope f cdv A outer s H E) body (tB K (fun _ _ _ _ => False) G fu kp b) :=
  PSs.nox (hb _ _ rfl rfl rfl rfl rfl rfl rfl rfl hr hg rfl PassesOwn.never fun u s' ⟨_, _, _, _, _, _, _, _, _, _, _, _, _, _, _, _, z⟩ => z)
theorem funP (lk : K.lookup f = some ⟨oc, od, .func (PySem.W.fnOf name qual params body scope dV kV doc pm an cdv ct), osl⟩) (hcd : PySem.W.codeIn K cdv qual = true) (S : FnScope N ps scope) (hb : BodyOk P w K mg base k G fu kp N qual scope f cdv body b) :
    FnC P w K mg base CX0 (k + 1) f (PySem.W.fnOf name qual params body scope dV kV doc pm an cdv ct) ps (spF K (.pur (runP G fu N.length ps.length b))) := by
  refine fnC_of lk hcd S (fun vs H Q E h => ?_) fun A outer s H vs Q E hr hg h => ⟨_, body_at hb hr hg, ?_⟩
  · obtain ⟨Hf, ds, d, ex, hd, e, _⟩ := h
    unfold runP at e
    split at e
    · rename_i hl; rw [hd.length]; exact hl
    · cases e
  · obtain ⟨Hf, ds, d, ex, hd, e, q⟩ := h
    unfold runP at e
    split at e
    · obtain ⟨o, e1, e2⟩ := Option.bind_eq_some_iff.mp e
      refine ⟨Hf, _, _, o, start_vals ex hd, e1, ?_⟩
      cases o with
      | rt a ρ =>
        obtain ⟨p, e3, e4⟩ := Option.map_eq_some_iff.mp e2
        subst e4
        intro Hf' fps' σ' H' v g S' a' k'
        obtain ⟨Hf2, fps2, g2, S2, d2⟩ := S'.frz g a' e3
        exact q v Hf2 H' S2.ex (fo_of g2) d2
      | nx ρ =>
        cases e2
        exact fun Hf' fps' σ' H' g S' k' => q .non Hf' H' S'.ex (fo_of g) .non
      | bk ρ => cases e2
      | ct ρ => cases e2
      | ex c ρ => cases e2
    · cases e
theorem own_new {Hf H Hf' H' : Hp} {fps' : Fps} {σ' : L2.St} {ρ' : Rho} (g : Go Hf (fun _ => []) H Hf' fps' H') (S : SR K Hf' fps' σ' H' ρ') {i : Nat} {a : Addr} (ha : a ∈ fps' i) (ex : Ex Hf H) : H a = none := by
  cases e : H a with
  | none => rfl
  | some o =>
    cases e2 : Hf a with
    | none => exact absurd ha ((g.fo a o e e2 (fun i => by simp)).2.2 i)
    | some o2 =>
      have := S.nof i a ha
      rw [g.fz a o2 e2] at this
      cases this
theorem funK (lk : K.lookup f = some ⟨oc, od, .func (PySem.W.fnOf name qual params body scope dV kV doc pm an cdv ct), osl⟩) (hcd : PySem.W.codeIn K cdv qual = true) (S : FnScope N ps scope) (hb : BodyOk P w K mg base k G fu kp N qual scope f cdv body b) :
    FnC P w K mg base CX0 (k + 1) f (PySem.W.fnOf name qual params body scope dV kV doc pm an cdv ct) ps (spF K (.mak (runK G fu N.length ps.length b))) := by
  refine fnC_of lk hcd S (fun vs H Q E h => ?_) fun A outer s H vs Q E hr hg h => ⟨_, body_at hb hr hg, ?_⟩
  · obtain ⟨Hf, ds, d, ex, hd, e, _⟩ := h
    unfold runK at e
    split at e
    · rename_i hl; rw [hd.length]; exact hl
    · cases e
  · obtain ⟨Hf, ds, d, ex, hd, e, ne, q⟩ := h
    unfold runK at e
    split at e
    · obtain ⟨o, e1, e2⟩ := Option.bind_eq_some_iff.mp e
      refine ⟨Hf, _, _, o, start_vals ex hd, e1, ?_⟩
      cases o with
      | rt a ρ =>
        cases a with
        | val d' => cases e2
        | fr s' =>
          cases e2
          intro Hf' fps' σ' H' v g S' a' k'
          obtain ⟨_, fp, ow, hn⟩ := a'
          refine q v Hf' H' fp S'.ex ⟨g.fz, fun a o h1 h2 _ => ?_, g.th⟩ ow fun a ha => ⟨(hn a ha).1, (hn a ha).2.1⟩
          obtain ⟨q1, q2, _⟩ := g.fo a o h1 h2 (fun i => by simp)
          exact ⟨q1, q2, fun z => by rw [(hn a z).1] at h1; cases h1⟩
        | own i =>
          obtain ⟨sl, e3, e4⟩ := Option.bind_eq_some_iff.mp e2
          split at e4
          · rename_i hne
            cases e4
            intro Hf' fps' σ' H' v g S' a' k'
            obtain ⟨v', h1, ow⟩ := S'.here i _ e3 ne
            have a'' : σ'[i]? = some (some v) := a'
            rw [h1] at a''
            cases a''
            refine q v Hf' H' (fps' i) S'.ex ⟨g.fz, fun a o h1 h2 _ => ?_, g.th⟩ ow fun a ha => ⟨own_new g S' ha ex, S'.nof i a ha⟩
            obtain ⟨q1, q2, q3⟩ := g.fo a o h1 h2 (fun i => by simp)
            exact ⟨q1, q2, q3 i⟩
          · cases e4
      | nx ρ => cases e2
      | bk ρ => cases e2
      | ct ρ => cases e2
      | ex c ρ => cases e2
    · cases e
theorem fo_ofM {Hf H Hf' H' : Hp} {fp : List Addr} {fps' : Fps} (g : Go Hf (fun i => if i = 0 then fp else []) H Hf' fps' H') : Fo Hf H Hf' H' fp (fps' 0) :=
  ⟨g.fz, fun a o h1 h2 h3 => by
    obtain ⟨q1, q2, q3⟩ := g.fo a o h1 h2 (fun i z => by
      by_cases hi : i = 0
      · have z' : a ∈ (if i = 0 then fp else []) := z
        rw [if_pos hi] at z'; exact h3 z'
      · have z' : a ∈ (if i = 0 then fp else []) := z
        rw [if_neg hi] at z'; simp at z')
    exact ⟨q1, q2, q3 0⟩, g.th⟩
theorem funM (hk : kp 0 = true) (lk : K.lookup f = some ⟨oc, od, .func (PySem.W.fnOf name qual params body scope dV kV doc pm an cdv ct), osl⟩) (hcd : PySem.W.codeIn K cdv qual = true) (S : FnScope N ps scope) (hb : BodyOk P w K mg base k G fu kp N qual scope f cdv body b) :
    FnC P w K mg base CX0 (k + 1) f (PySem.W.fnOf name qual params body scope dV kV doc pm an cdv ct) ps (spF K (.mut (runM G fu N.length ps.length b))) := by
  refine fnC_of lk hcd S (fun vs H Q E h => ?_) fun A outer s H vs Q E hr hg h => ⟨_, body_at hb hr hg, ?_⟩
  · obtain ⟨Hf, fp, v0, vr, sl, ds, d, sl', ex, rfl, ow, hn, ne, ne', hd, e, _⟩ := h
    unfold runM at e
    split at e
    · rename_i hl; rw [List.length_cons, hd.length]; exact hl
    · cases e
  · obtain ⟨Hf, fp, v0, vr, sl, ds, d, sl', ex, rfl, ow, hn, ne, ne', hd, e, q⟩ := h
    unfold runM at e
    split at e
    · rename_i hl
      obtain ⟨o, e1, e2⟩ := Option.bind_eq_some_iff.mp e
      have S0 : SR K Hf (fun i => if i = 0 then fp else []) (L2.start N (v0 :: vr)) H (entR N.length (sl :: ds.map .val)) := by
        refine sr_start ex (by rw [List.length_cons, List.length_cons, List.length_map, hd.length]) (fun i sl e => ?_) (fun i hi => ?_) (fun i a ha => ?_) (fun i j a ha hb => ?_)
        · cases i with
          | zero => cases e; exact ⟨v0, rfl, ow⟩
          | succ i =>
            rw [List.getElem?_cons_succ, List.getElem?_map] at e
            obtain ⟨d, e1, e2⟩ := Option.map_eq_some_iff.mp e
            subst e2
            obtain ⟨v, h1, h2⟩ := hd.get e1
            exact ⟨v, h1, rfl, h2⟩
        · have : i ≠ 0 := by rw [List.length_cons] at hi; omega
          exact if_neg this
        · by_cases hi : i = 0
          · have ha : a ∈ (if i = 0 then fp else []) := ha
            rw [if_pos hi] at ha; exact hn a ha
          · have ha : a ∈ (if i = 0 then fp else []) := ha
            rw [if_neg hi] at ha; simp at ha
        · have ha : a ∈ (if i = 0 then fp else []) := ha
          have hb : a ∈ (if j = 0 then fp else []) := hb
          by_cases hi : i = 0
          · by_cases hj : j = 0
            · rw [hi, hj]
            · rw [if_neg hj] at hb; simp at hb
          · rw [if_neg hi] at ha; simp at ha
      refine ⟨Hf, _, _, o, S0, e1, ?_⟩
      -- the end: the first slot still holds the first argument
      have fin : ∀ {Hf' H' : Hp} {fps' : Fps} {σ' : L2.St} {ρ' : Rho} {v : V}, Go Hf (fun i => if i = 0 then fp else []) H Hf' fps' H' → SR K Hf' fps' σ' H' ρ' → Kps kp (L2.start N (v0 :: vr)) σ' → ρ'[0]? = some sl' → Dq K Hf' v d → Q v H' := fun {Hf' H' fps' σ' ρ' v} g S' k' e3 dq => by
        obtain ⟨v', h1, ow'⟩ := S'.here 0 _ e3 ne'
        rw [k' 0 hk] at h1
        cases (show some (some v0) = some (some v') from h1)
        refine q v Hf' H' (fps' 0) S'.ex (fo_ofM g) ow' (fun a ha => ⟨S'.nof 0 a ha, ?_⟩) dq
        by_cases hf : a ∈ fp
        · exact .inl hf
        · refine .inr ?_
          cases e : H a with
          | none => rfl
          | some o =>
            cases e2 : Hf a with
            | none => exact absurd ha ((fo_ofM g).2.1 a o e e2 hf).2.2
            | some o2 =>
              have := S'.nof 0 a ha
              rw [g.fz a o2 e2] at this
              cases this
      cases o with
      | rt a ρ =>
        obtain ⟨p, e3, e4⟩ := Option.bind_eq_some_iff.mp e2
        obtain ⟨s', e5, e6⟩ := Option.bind_eq_some_iff.mp e4
        split at e6
        · cases e6
          intro Hf' fps' σ' H' v g S' a' k'
          obtain ⟨Hf2, fps2, g2, S2, d2⟩ := S'.frz g a' e3
          exact fin g2 S2 k' e5 d2
        · cases e6
      | nx ρ =>
        obtain ⟨s', e5, e6⟩ := Option.bind_eq_some_iff.mp e2
        split at e6
        · cases e6
          exact fun Hf' fps' σ' H' g S' k' => fin g S' k' e5 .non
        · cases e6
      | bk ρ => cases e2
      | ct ρ => cases e2
      | ex c ρ => cases e2
    · cases e
def runX (G : List Fn) (fu n np : Nat) (b : CB) (ds : List PyData) : Option (Except Exn PyData) :=
  if ds.length = np then (exB G fu b (entR n (ds.map .val))).bind fun o => match o with
    | .rt a ρ => (frz ρ a).map fun p => .ok p.1
    | .nx _ => some (.ok .none)
    | .ex c _ => some (.error c)
    | _ => none
  else none
theorem body_atX (hb : BodyOk P w K mg base k G fu kp N qual scope f cdv body b) {A : Around} {outer : List Env} {s : Shared} {H : Hp} {E : XK} (hr : Room k (A.deeper (envOfC qual scope s.heap.objs.size f cdv)))
    (hg : (A.deeper (envOfC qual scope s.heap.objs.size f cdv)).guards = some []) : PSs (cxOf (L2.CX P w) P w K mg base N qual scope f cdv A outer s H E) body (tB K (fun cls d _ H => E cls d H) G fu kp b) :=
  hb _ _ rfl rfl rfl rfl rfl rfl rfl rfl hr hg rfl (passes_of rfl) (takes_of rfl rfl rfl rfl)
theorem funX (lk : K.lookup f = some ⟨oc, od, .func (PySem.W.fnOf name qual params body scope dV kV doc pm an cdv ct), osl⟩) (hcd : PySem.W.codeIn K cdv qual = true) (S : FnScope N ps scope) (hb : BodyOk P w K mg base k G fu kp N qual scope f cdv body b) :
    FnC P w K mg base (L2.CX P w) (k + 1) f (PySem.W.fnOf name qual params body scope dV kV doc pm an cdv ct) ps (spF K (.rai (runX G fu N.length ps.length b))) := by
  refine fnC_of lk hcd S (fun vs H Q E h => ?_) fun A outer s H vs Q E hr hg h => ⟨_, body_atX hb hr hg, ?_⟩
  · obtain ⟨Hf, ds, d, ex, hd, e, _⟩ := h
    unfold runX at e
    split at e
    · rename_i hl; rw [hd.length]; exact hl
    · cases e
  · obtain ⟨Hf, ds, r, ex, hd, e, q, qx⟩ := h
    unfold runX at e
    split at e
    · obtain ⟨o, e1, e2⟩ := Option.bind_eq_some_iff.mp e
      refine ⟨Hf, _, _, o, start_vals ex hd, e1, ?_⟩
      cases o with
      | rt a ρ =>
        obtain ⟨p, e3, e4⟩ := Option.map_eq_some_iff.mp e2
        subst e4
        intro Hf' fps' σ' H' v g S' a' k'
        obtain ⟨Hf2, fps2, g2, S2, d2⟩ := S'.frz g a' e3
        exact q _ v Hf2 H' rfl S2.ex (fo_of g2) d2
      | nx ρ =>
        cases e2
        exact fun Hf' fps' σ' H' g S' k' => q _ .non Hf' H' rfl S'.ex (fo_of g) .non
      | ex c ρ =>
        cases e2
        exact fun Hf' fps' σ' H' cls dd g S' x' k' => qx c cls dd Hf' H' rfl S'.ex (fo_of g) x'
      | bk ρ => cases e2
      | ct ρ => cases e2
    · cases e
end
end Cor
set_option Elab.async false
set_option linter.all false
set_option maxRecDepth 100000
set_option maxHeartbeats 4000000
/-! Core 6b: a book's __init__, methods that raise. -/
namespace Cor
open PySem PySem.Spec PyProof.Rows L2
open Evl (Ex ex_l ex_t)

/-! ### methods that may raise -/
def runR (G : List Fn) (fu n np : Nat) (b : CB) (sl : Sl) (ds : List PyData) : Option (Except Exn PyData × Sl) :=
  if ds.length + 1 = np then (exB G fu b (entR n (sl :: ds.map .val))).bind fun o => match o with
    | .rt a ρ => (frz ρ a).bind fun p => (p.2[0]?).bind fun s => if noEmp s then some (.ok p.1, s) else none
    | .nx ρ => (ρ[0]?).bind fun s => if noEmp s then some (.ok .none, s) else none
    | .ex c ρ => (ρ[0]?).bind fun s => if noEmp s then some (.error c, s) else none
    | _ => none
  else none
section
variable {P : Program} {w : World} {K : PySem.W.Frag} {mg : Str → Option Value} {base : Heap} {k : Nat} {G : List Fn} {fu : Nat} {kp : Nat → Bool} {b : CB}
variable {f : Addr} {name qual : Str} {params : Arguments} {body : List Stmt} {scope : Scope} {dV kV doc pm cdv ct oc : Value} {an od : Option Addr} {osl : Array (Option Value)} {N ps : List Str}
theorem start_own {Hf H : Hp} {v0 : V} {vr : List V} {sl : Sl} {ds : List PyData} {fp : List Addr} (ex : Ex Hf H) (ow : OwnAt K Hf H sl v0 fp) (hn : ∀ a ∈ fp, Hf a = none) (hd : DqAll K Hf vr ds) :
    SR K Hf (fun i => if i = 0 then fp else []) (L2.start N (v0 :: vr)) H (entR N.length (sl :: ds.map .val)) := by
  refine sr_start ex (by rw [List.length_cons, List.length_cons, List.length_map, hd.length]) (fun i sl e => ?_) (fun i hi => ?_) (fun i a ha => ?_) (fun i j a ha hb => ?_)
  · cases i with
    | zero => cases e; exact ⟨v0, rfl, ow⟩
    | succ i =>
      rw [List.getElem?_cons_succ, List.getElem?_map] at e
      obtain ⟨d, e1, e2⟩ := Option.map_eq_some_iff.mp e
      subst e2
      obtain ⟨v, h1, h2⟩ := hd.get e1
      exact ⟨v, h1, rfl, h2⟩
  · have : i ≠ 0 := by rw [List.length_cons] at hi; omega
    exact if_neg this
  · by_cases hi : i = 0
    · have ha : a ∈ (if i = 0 then fp else []) := ha
      rw [if_pos hi] at ha; exact hn a ha
    · have ha : a ∈ (if i = 0 then fp else []) := ha
      rw [if_neg hi] at ha; simp at ha
  · have ha : a ∈ (if i = 0 then fp else []) := ha
    have hb : a ∈ (if j = 0 then fp else []) := hb
    by_cases hi : i = 0
    · by_cases hj : j = 0
      · rw [hi, hj]
      · rw [if_neg hj] at hb; simp at hb
    · rw [if_neg hi] at ha; simp at ha
theorem end_own {Hf H Hf' H' : Hp} {v0 : V} {vr : List V} {fp : List Addr} {fps' : Fps} {σ' : L2.St} {ρ' : Rho} {sl' : Sl} (hk : kp 0 = true) (ex : Ex Hf H) (hn : ∀ a ∈ fp, Hf a = none) (ne' : sl' ≠ .emp) (g : Go Hf (fun i => if i = 0 then fp else []) H Hf' fps' H') (S' : SR K Hf' fps' σ' H' ρ') (k' : Kps kp (L2.start N (v0 :: vr)) σ') (e3 : ρ'[0]? = some sl') :
    ∃ fp', Fo Hf H Hf' H' fp fp' ∧ OwnAt K Hf' H' sl' v0 fp' ∧ ∀ a ∈ fp', Hf' a = none ∧ (a ∈ fp ∨ H a = none) := by
  obtain ⟨v', h1, ow'⟩ := S'.here 0 _ e3 ne'
  rw [k' 0 hk] at h1
  cases (show some (some v0) = some (some v') from h1)
  refine ⟨fps' 0, fo_ofM g, ow', fun a ha => ⟨S'.nof 0 a ha, ?_⟩⟩
  by_cases hf : a ∈ fp
  · exact .inl hf
  · refine .inr ?_
    cases e : H a with
    | none => rfl
    | some o =>
      cases e2 : Hf a with
      | none => exact absurd ha ((fo_ofM g).2.1 a o e e2 hf).2.2
      | some o2 =>
        have := S'.nof 0 a ha
        rw [g.fz a o2 e2] at this
        cases this
theorem funR (hk : kp 0 = true) (lk : K.lookup f = some ⟨oc, od, .func (PySem.W.fnOf name qual params body scope dV kV doc pm an cdv ct), osl⟩) (hcd : PySem.W.codeIn K cdv qual = true) (S : FnScope N ps scope) (hb : BodyOk P w K mg base k G fu kp N qual scope f cdv body b) :
    FnC P w K mg base (L2.CX P w) (k + 1) f (PySem.W.fnOf name qual params body scope dV kV doc pm an cdv ct) ps (spF K (.rmu (runR G fu N.length ps.length b))) := by
  refine fnC_of lk hcd S (fun vs H Q E h => ?_) fun A outer s H vs Q E hr hg h => ⟨_, body_atX hb hr hg, ?_⟩
  · obtain ⟨Hf, fp, v0, vr, sl, ds, r, sl', ex, rfl, ow, hn, ne, ne', hd, e, _⟩ := h
    unfold runR at e
    split at e
    · rename_i hl; rw [List.length_cons, hd.length]; exact hl
    · cases e
  · obtain ⟨Hf, fp, v0, vr, sl, ds, r, sl', ex, rfl, ow, hn, ne, ne', hd, e, q, qx⟩ := h
    unfold runR at e
    split at e
    · obtain ⟨o, e1, e2⟩ := Option.bind_eq_some_iff.mp e
      refine ⟨Hf, _, _, o, start_own ex ow hn hd, e1, ?_⟩
      cases o with
      | rt a ρ =>
        obtain ⟨p, e3, e4⟩ := Option.bind_eq_some_iff.mp e2
        obtain ⟨s', e5, e6⟩ := Option.bind_eq_some_iff.mp e4
        split at e6
        · cases e6
          intro Hf' fps' σ' H' v g S' a' k'
          obtain ⟨Hf2, fps2, g2, S2, d2⟩ := S'.frz g a' e3
          obtain ⟨fp', f1, f2, f3⟩ := end_own hk ex hn ne' g2 S2 k' e5
          exact q _ v Hf2 H' fp' rfl S2.ex f1 f2 f3 d2
        · cases e6
      | nx ρ =>
        obtain ⟨s', e5, e6⟩ := Option.bind_eq_some_iff.mp e2
        split at e6
        · cases e6
          intro Hf' fps' σ' H' g S' k'
          obtain ⟨fp', f1, f2, f3⟩ := end_own hk ex hn ne' g S' k' e5
          exact q _ .non Hf' H' fp' rfl S'.ex f1 f2 f3 .non
        · cases e6
      | ex c ρ =>
        obtain ⟨s', e5, e6⟩ := Option.bind_eq_some_iff.mp e2
        split at e6
        · cases e6
          intro Hf' fps' σ' H' cls dd g S' x' k'
          obtain ⟨fp', f1, f2, f3⟩ := end_own hk ex hn ne' g S' k' e5
          exact qx c cls dd Hf' H' fp' rfl S'.ex f1 f2 f3 x'
        · cases e6
      | bk ρ => cases e2
      | ct ρ => cases e2
    · cases e
end

/-! ### __init__ of a book -/
def bookI (fP : List PyData → Option PyData) (fK : List PyData → Option (Except Exn PyData)) (pl kd : PyData) : Option (Except Exn Sl) := (fP [pl]).bind fun r => match r with
  | .bool false => some (.error ⟨"InvalidNumber", "given", pl⟩)
  | .bool true => (fK [kd]).map fun r => match r with
    | .error c => .error c
    | .ok _ => .ok (.bk [pl, kd, .tuple [pl, .tuple []], .tuple []] [])
  | _ => none
def spI (K : PySem.W.Frag) (C : Addr) (fP : List PyData → Option PyData) (fK : List PyData → Option (Except Exn PyData)) : Sp := fun vs H Q E => ∃ Hf p dx vpl vkd pl kd r, vs = [.ref p, vpl, vkd] ∧ H p = some (.ins C dx []) ∧ H dx = some (.own p) ∧ Hf p = none ∧ Hf dx = none ∧ Ex Hf H ∧ Dq K Hf vpl pl ∧ Dq K Hf vkd kd ∧
  bookI fP fK pl kd = some r ∧ (∀ c cls d Hf' H', r = .error c → Ex Hf' H' → Fo Hf H Hf' H' [] [] → ExAt K Hf' H' c cls d → E cls d H') ∧
  ∀ sl Hf' H' fp, r = .ok sl → Ex Hf' H' → Fo Hf H Hf' H' [p, dx] fp → OwnAt K Hf' H' sl (.ref p) fp → (∀ a ∈ fp, Hf' a = none ∧ (a ∈ [p, dx] ∨ H a = none)) → Q .non H'
/-- what the body of __init__ does -/
def tIni (K : PySem.W.Frag) (W : WX) (G : List Fn) (fu : Nat) : TS :=
  tSeq (tS K W G fu (fun i => i == 0) (.ite (.tnot (.tval (.cal 0 (.cons false (.var 1) .nil)))) (.cons (.rse "InvalidNumber" "given" (.var 1)) .nil) .nil))
    (tSeq (tS K W G fu (fun i => i == 0) (.calx 1 (.cons false (.var 2) .nil)))
      (tSeq (sFld K (tVar 0) (tR K G (.var 1)) "places") (tSeq (sFld K (tVar 0) (tR K G (.var 2)) "kind") (tSeq (sFld K (tVar 0) (tR K G (.tup (.cons false (.var 1) (.cons false (.tup .nil) .nil)))) "web")
        (tSeq (sFld K (tVar 0) (tR K G (.tup .nil)) "deeds") (sFld K (tVar 0) (tR K G (.lst .nil)) "past"))))))
section
variable {K : PySem.W.Frag} {G : List Fn} {C p dx : Addr} {fP : List PyData → Option PyData} {fK : List PyData → Option (Except Exn PyData)}
/-- the instance that is being made: no slot has it -/
structure Ini (C p dx : Addr) (Hf : Hp) (fps : Fps) (H : Hp) (fs : List (Str × V)) : Prop where
  hp : H p = some (.ins C dx fs)
  np : Hf p = none
  op : ∀ i, p ∉ fps i
  hx : H dx = some (.own p)
  nx : Hf dx = none
  ox : ∀ i, dx ∉ fps i
abbrev fpA (p dx : Addr) : Fps := fun i => if i = 0 then [p, dx] else []
theorem Ini.go {Hf Hf' : Hp} {fps fps' : Fps} {H H' : Hp} {fs : List (Str × V)} (I : Ini C p dx Hf fps H fs) (g : Go Hf fps H Hf' fps' H') : Ini C p dx Hf' fps' H' fs := by
  obtain ⟨q1, q2, q3⟩ := g.fo p _ I.hp I.np I.op
  obtain ⟨w1, w2, w3⟩ := g.fo dx _ I.hx I.nx I.ox
  exact ⟨q1, q2, q3, w1, w2, w3⟩
theorem ini_step (T : BkTxt K C) {f : Str} (hf : f ∈ (["places", "kind", "web", "deeds", "past"] : List Str)) {ce : CE} {D : Ends} {Hf Hf0 : Hp} {fps : Fps} {σ : L2.St} {H H0 : Hp} {ρ ρ' : Rho} {a : Arg} {fs : List (Str × V)} (g0 : Go Hf0 (fpA p dx) H0 Hf fps H) (S : SR K Hf fps σ H ρ) (I : Ini C p dx Hf fps H fs) (e : ev G ce ρ = some (a, ρ'))
    (hs : σ[0]? = some (some (.ref p))) (hl : fs.length < 1000)
    (q : ∀ Hf' fps' H' y, Go Hf0 (fpA p dx) H0 Hf' fps' (upd H' p (.ins C dx (putF f y fs))) → Ex Hf Hf' → SR K Hf' fps' σ (upd H' p (.ins C dx (putF f y fs))) ρ' → Ini C p dx Hf' fps' (upd H' p (.ins C dx (putF f y fs))) (putF f y fs) → AR K H Hf' fps' H' σ a y → (H' p = some (.ins C dx fs)) →
      D.nx σ (upd H' p (.ins C dx (putF f y fs)))) : sFld K (tVar 0) (tR K G ce) f D σ H :=
  ⟨Hf, fps, ρ, a, ρ', S, e, fun Hf1 fps1 H1 y g1 S1 a1 => by
    have I1 := I.go g1
    refine ⟨_, hs, p, C, dx, fs, rfl, I1.hp, T.cl, T.no f hf, hl, ?_⟩
    have nxp : dx ≠ p := fun z => by have := I1.hx; rw [z, I1.hp] at this; cases this
    refine q Hf1 fps1 H1 y ?_ g1.fz (S1.other I1.np I1.op) ⟨upd_same, I1.np, I1.op, by rw [upd_ne nxp]; exact I1.hx, I1.nx, I1.ox⟩ a1 I1.hp
    have gg := g0.trans g1
    refine ⟨gg.fz, fun b o h1 h2 h3 => ?_, fun b o h => ?_⟩
    · obtain ⟨q1, q2, q3⟩ := gg.fo b o h1 h2 h3
      have : b ≠ p := fun z => h3 0 (by subst z; show b ∈ (if (0 : Nat) = 0 then [b, dx] else []); rw [if_pos rfl]; simp)
      exact ⟨by rw [upd_ne this]; exact q1, q2, q3⟩
    · obtain ⟨o', h'⟩ := gg.th b o h
      by_cases hb : b = p
      · subst hb; exact ⟨_, upd_same⟩
      · exact ⟨o', by rw [upd_ne hb]; exact h'⟩⟩
theorem fo_A {Hf H Hf' H' : Hp} {fps' : Fps} {fp : List Addr} (g : Go Hf (fpA p dx) H Hf' fps' H') (hfp : ∀ a ∈ fp, H a = none ∨ a = p ∨ a = dx) : Fo Hf H Hf' H' [p, dx] fp :=
  ⟨g.fz, fun a o h1 h2 h3 => by
    obtain ⟨q1, q2, q3⟩ := g.fo a o h1 h2 (fun i z => by
      have z' : a ∈ (if i = 0 then [p, dx] else []) := z
      by_cases hi : i = 0
      · rw [if_pos hi] at z'; exact h3 z'
      · rw [if_neg hi] at z'; simp at z')
    refine ⟨q1, q2, fun z => ?_⟩
    rcases hfp a z with w | w | w
    · rw [h1] at w; cases w
    · exact h3 (by rw [w]; simp)
    · exact h3 (by rw [w]; simp), g.th⟩
theorem ini_reads (T : BkTxt K C) {W : WX} {fu : Nat} {D : Ends} {Hf H : Hp} {vpl vkd : V} {pl kd : PyData} {r : Except Exn Sl} (hp : H p = some (.ins C dx [])) (hx : H dx = some (.own p)) (np : Hf p = none) (nx : Hf dx = none) (ex0 : Ex Hf H) (d1 : Dq K Hf vpl pl) (d2 : Dq K Hf vkd kd) (e : bookI fP fK pl kd = some r)
    (qe : ∀ c cls d Hf' H' σ', r = .error c → Ex Hf' H' → Fo Hf H Hf' H' [] [] → ExAt K Hf' H' c cls d → W cls d σ' H')
    (q : ∀ sl Hf' H' fp σ', r = .ok sl → Ex Hf' H' → Fo Hf H Hf' H' [p, dx] fp → OwnAt K Hf' H' sl (.ref p) fp → (∀ a ∈ fp, Hf' a = none ∧ (a ∈ [p, dx] ∨ H a = none)) → D.nx σ' H') :
    tIni K W [.pur fP, .rai fK] fu D (L2.start ["self", "places", "kind"] [.ref p, vpl, vkd]) H := by
  have S0 : SR K Hf (fun _ => []) (L2.start (["self", "places", "kind"] : List Str) [.ref p, vpl, vkd]) H (entR 3 [.emp, .val pl, .val kd]) := by
    refine sr_start ex0 rfl (fun i sl e => ?_) (fun _ _ => rfl) (fun i a ha => by simp at ha) (fun i j a ha => by simp at ha)
    match i with
    | 0 => cases e; exact ⟨_, rfl, rfl⟩
    | 1 => cases e; exact ⟨_, rfl, rfl, d1⟩
    | 2 => cases e; exact ⟨_, rfl, rfl, d2⟩
    | n + 3 => cases e
  obtain ⟨t, e1, e⟩ := Option.bind_eq_some_iff.mp e
  have hG0 : (([.pur fP, .rai fK] : List Fn)[0]?) = some (.pur fP) := rfl
  have c1 : evT [.pur fP, .rai fK] (.tval (.cal 0 (.cons false (.var 1) .nil))) (entR 3 [.emp, .val pl, .val kd]) = (truS (.val t)).map fun b => (b, entR 3 [.emp, .val pl, .val kd]) := by
    show ((((fP [pl]).bind fun d => some (Arg.val d, entR 3 [.emp, .val pl, .val kd])).bind fun p => (cont p.2 p.1).bind fun s => (truS s).bind fun t => some (t, p.2))) = _
    rw [e1]
    show ((truS (.val t)).bind fun b => some (b, _)) = _
    cases truS (.val t) <;> rfl
  cases t with
  | bool b =>
    have c2 : evT [.pur fP, .rai fK] (.tnot (.tval (.cal 0 (.cons false (.var 1) .nil)))) (entR 3 [.emp, .val pl, .val kd]) = some (!b, entR 3 [.emp, .val pl, .val kd]) := by
      show ((evT [.pur fP, .rai fK] (.tval (.cal 0 (.cons false (.var 1) .nil))) (entR 3 [.emp, .val pl, .val kd])).bind fun p => some (!p.1, p.2)) = _
      rw [c1]; rfl
    cases b with
    | false =>
      cases e
      refine ⟨Hf, _, _, .ex ⟨"InvalidNumber", "given", pl⟩ (entR 3 [.emp, .val pl, .val kd]), S0, ?_, fun Hf' fps' σ' H' cls d g S' x' k' => qe _ cls d Hf' H' σ' rfl S'.ex (fo_of g) x'⟩
      show ((evT [.pur fP, .rai fK] _ _).bind fun p => if p.1 = true then _ else _) = _
      rw [c2]; rfl
    | true =>
      obtain ⟨rk, e2, e3⟩ := Option.map_eq_some_iff.mp e
      refine ⟨Hf, _, _, .nx (entR 3 [.emp, .val pl, .val kd]), S0, ?_, fun Hf1 fps1 σ1 H1 g1 S1 k1 => ?_⟩
      · show ((evT [.pur fP, .rai fK] _ _).bind fun p => if p.1 = true then _ else _) = _
        rw [c2]; rfl
      · have c3 : ∀ r, fK [kd] = some r → ex [.pur fP, .rai fK] fu (.calx 1 (.cons false (.var 2) .nil)) (entR 3 [.emp, .val pl, .val kd]) = some (match r with | .ok _ => .nx (entR 3 [.emp, .val pl, .val kd]) | .error c => .ex c (entR 3 [.emp, .val pl, .val kd])) := fun r h => by
          show ((fK [kd]).map fun r => match r with | .ok _ => Out.nx (entR 3 [.emp, .val pl, .val kd]) | .error c => Out.ex c (entR 3 [.emp, .val pl, .val kd])) = _
          rw [h]; rfl
        cases rk with
        | error c =>
          subst e3
          exact ⟨Hf1, fps1, _, _, S1, c3 _ e2, fun Hf' fps' σ' H' cls d g S' x' k' => qe c cls d Hf' H' σ' rfl S'.ex (fo_of (g1.trans g)) x'⟩
        | ok d0 =>
          subst e3
          refine ⟨Hf1, fps1, _, _, S1, c3 _ e2, fun Hf2 fps2 σ2 H2 g2 S2 k2 => ?_⟩
          have hs : σ2[0]? = some (some (V.ref p)) := (k2 0 rfl).trans (k1 0 rfl)
          have gg := g1.trans g2
          have gA : Go Hf (fpA p dx) H Hf2 fps2 H2 := ⟨gg.fz, fun a o h1 h2 h3 => gg.fo a o h1 h2 (fun i => by simp), gg.th⟩
          have I0 : Ini C p dx Hf (fun _ => []) H [] := ⟨hp, np, by simp, hx, nx, by simp⟩
          have I2 := I0.go gg
          refine ini_step T (by simp) gA S2 I2 (a := .val pl) rfl hs (by simp) fun Hf3 fps3 H3 y1 g3 x3 S3 I3 a3 _ => ?_
          refine ini_step T (by simp) g3 S3 I3 (a := .val kd) rfl hs (by show 1 < 1000; decide) fun Hf4 fps4 H4 y2 g4 x4 S4 I4 a4 _ => ?_
          refine ini_step T (by simp) g4 S4 I4 (a := .val (.tuple [pl, .tuple []])) rfl hs (by show 2 < 1000; decide) fun Hf5 fps5 H5 y3 g5 x5 S5 I5 a5 _ => ?_
          refine ini_step T (by simp) g5 S5 I5 (a := .val (.tuple [])) rfl hs (by show 3 < 1000; decide) fun Hf6 fps6 H6 y4 g6 x6 S6 I6 a6 _ => ?_
          refine ini_step T (by simp) g6 S6 I6 (a := .fr (.lst [])) rfl hs (by show 4 < 1000; decide) fun Hf7 fps7 H7 y5 g7 x7 S7 I7 a7 hp7 => ?_
          obtain ⟨_, fp, ⟨q', xs, rfl, hfp, hq, hxs⟩, hn⟩ := a7
          cases hxs
          have hqf := hn q' (by rw [hfp]; simp)
          have nqp : q' ≠ p := fun z => by rw [z, hp7] at hq; cases hq
          have hqN : H q' = none := back_none g6 hqf.1
          have b1 : Dq K Hf7 y1 pl := Dq.mono (((x4.trans x5).trans x6).trans x7) _ _ a3
          have b2 : Dq K Hf7 y2 kd := Dq.mono ((x5.trans x6).trans x7) _ _ a4
          have b3 : Dq K Hf7 y3 (.tuple [pl, .tuple []]) := Dq.mono (x6.trans x7) _ _ a5
          have b4 : Dq K Hf7 y4 (.tuple []) := Dq.mono x7 _ _ a6
          have hfp2 : ∀ a ∈ [p, q', dx], Hf7 a = none ∧ (H a = none ∨ a = p ∨ a = dx) := fun a ha => by
            simp only [List.mem_cons, List.not_mem_nil, or_false] at ha
            rcases ha with rfl | rfl | rfl
            · exact ⟨I7.np, .inr (.inl rfl)⟩
            · exact ⟨hqf.2.1, .inl hqN⟩
            · exact ⟨I7.nx, .inr (.inr rfl)⟩
          refine q _ Hf7 _ [p, q', dx] σ2 rfl S7.ex (fo_A g7 fun a ha => (hfp2 a ha).2) ⟨C, p, q', dx, [y1, y2, y3, y4], [], rfl, rfl, T.is, I7.hp, by rw [upd_ne nqp]; exact hq, I7.hx, rfl, .cons b1 (.cons b2 (.cons b3 (.cons b4 .nil))), .nil⟩ fun a ha => ⟨(hfp2 a ha).1, ?_⟩
          rcases (hfp2 a ha).2 with z | z | z
          · exact .inr z
          · exact .inl (by rw [z]; simp)
          · exact .inl (by rw [z]; simp)
  | none => cases e
  | int _ => cases e
  | str _ => cases e
  | list _ => cases e
  | tuple _ => cases e
  | dict _ => cases e
end
end Cor
set_option Elab.async false
set_option linter.all false
set_option maxRecDepth 100000
set_option maxHeartbeats 4000000
/-! Core 7: the head, for promises that know of no repr running. -/
namespace Cor
open PySem PySem.Spec PyProof.Rows L2
open Evl (Ex ex_l ex_t)

theorem hid_ns {h : Heap} {H : Hp} (one : ∀ b o, H b = some o → ∀ es ep q, h.get? b = some q → q.data ≠ .dict es ep) {b : Addr} {m : Str → Option Value} (x : h.Ns b m) : (hidT h H).Ns b m := by
  obtain ⟨o, es, ep, e, d, r⟩ := x
  refine ⟨o, es, ep, hidT_get e ?_, d, r⟩
  cases q : H b with
  | none => rfl
  | some u => exact absurd d (one b u q es ep o e)
/-- the law's promise at the heap behind the top -/
theorem law_callC {P : Program} {w : World} {K : PySem.W.Frag} {mg mb : Str → Option Value} {k : Nat} {fa a : Addr} {fd : FuncData} {x : Str} {fn : List PyData → Option PyData} {s₁ : Shared} {vs : List Value} {ns : List Int}
    (KX : K.In s₁.heap) (hns : s₁.heap.Ns mainGlobals mg) (hb : s₁.heap.Ns builtinsNs mb) (hbb : ∀ x : Str, x ≠ "__name__" → mb x = bootBuiltins x) (hlim : s₁.heap.NoLimit) (hg : s₁.gens = #[])
    (ha : s₁.heap.get? a = some { cls := .type "list", data := .seq vs.toArray }) (hi : IntsAre vs ns) (hl : ns.length ≤ sizeLine) (hr : Room k callerA)
    (F : ∀ base : Heap, K.In base → base.Ns mainGlobals mg → FnC P w K mg base CX0 k fa fd [x] (spF K (.pur fn))) (hbind : ∀ (s : Shared) (u : Value), BindsTo s fd ⟨[u], []⟩ [(x, u)]) (hfn : fn [.list (ns.map .int)] = some (.bool true)) :
    codeAny (model P w) callerA (.call (.ref fa) ⟨[.ref a], []⟩) (fun r s' => r = .ok (.ret (.bool true)) ∧ OldK s₁.heap s'.heap ∧ s'.os = s₁.os ∧ AllBare s'.gens) s₁ := by
  have rv := vals_ints hi
  have lenV := hi.length
  have dv : ∀ (Hf : Hp) (l : List Int), DqAll K Hf (l.map V.int) (l.map PyData.int) := fun Hf l => by
    induction l with
    | nil => exact .nil
    | cons i l ih => exact .cons (.int i) ih
  -- whatever is tracked is the script, and it stays
  have main : ∀ H : Hp, SqL K H a (ns.map V.int) → HOk P w H s₁.heap → (∀ b o, H b = some o → b = a ∧ K.lookup a = none ∧ ∃ ob u, o = .frz ob u) →
      codeAny (model P w) callerA (.call (.ref fa) ⟨[.ref a], []⟩) (fun r s' => r = .ok (.ret (.bool true)) ∧ OldK s₁.heap s'.heap ∧ s'.os = s₁.os ∧ AllBare s'.gens) s₁ := by
    intro H hS hok hA
    have one : ∀ b o, H b = some o → ∀ es ep q, s₁.heap.get? b = some q → q.data ≠ .dict es ep := fun b o e es ep q hq hd => by
      obtain ⟨rfl, _⟩ := hA b o e
      rw [ha] at hq
      cases hq
      cases hd
    have hKb : K.In (hidT s₁.heap H) := fun b o e => hidT_get (KX b o e) (by
      cases q : H b with
      | none => rfl
      | some u =>
        obtain ⟨rfl, h2, _⟩ := hA b u q
        rw [h2] at e; cases e)
    have hM : Mod K mg (hidT s₁.heap H) := ⟨hKb, hid_ns one hns, ⟨mb, hid_ns one hb, hbb⟩, let ⟨mc, h1, h2⟩ := hlim; ⟨mc, hid_ns one h1, h2⟩⟩
    have e0 : Env0 P w K mg (hidT s₁.heap H) callerA [] s₁ H := ⟨rfl, hM, fun b o e => of_hidT e, Nat.le_of_eq (hidT_size _ _), trivial, fun b hb => absurd (show b ∈ ([] : List Addr) from hb) (by simp), hok, .of_eq hg⟩
    refine codeAny_mono ((F _ hKb (hid_ns one hns)).run callerA [] s₁ H ⟨[.ref a], []⟩ [.ref a] [.ref a] (fun v _ => v = .bl true) (fun _ _ _ => False) hr rfl e0 (hbind s₁ (.ref a)) (.cons rfl .nil)
      ⟨H, [.list (ns.map .int)], .bool true, .refl _, .cons (.lst hS (dv H ns)) .nil, hfn, fun v Hf' H' _ _ q => q.injB⟩) fun r s' h => ?_
    cases r with
    | error e => exact False.elim h
    | ok fl =>
      cases fl with
      | next => exact False.elim h
      | brk => exact False.elim h
      | cont => exact False.elim h
      | ret u =>
        obtain ⟨v, H', os, bare, un, hok', r', q⟩ := h
        cases (show v = .bl true from q)
        cases (show u = Value.bool true from r')
        refine ⟨rfl, OldK.of_keep fun b o e => ?_, os, bare⟩
        cases q : H b with
        | none => exact un.keep b o e q (by intro z; exact absurd (show b ∈ ([] : List Addr) from z) (by simp)) (by simp)
        | some u =>
          obtain ⟨_, _, ob, u', rfl⟩ := hA b u q
          have z2 := un.frzs b ob _ q
          obtain ⟨e1, _⟩ := hok b _ q
          obtain ⟨e2, _⟩ := hok' b _ z2
          rw [e] at e1
          cases e1
          exact e2
  have hz : (ns.map V.int).length ≤ sizeLine := by rw [List.length_map]; exact hl
  cases hk : K.lookup a with
  | some o =>
    have e := KX a o hk
    rw [ha] at e
    cases e
    exact main (fun _ => none) (.inr ⟨_, vs.toArray, _, hk, rfl, rfl, rfl, by rw [List.size_toArray, lenV]; exact hl, by simpa using rv⟩) (fun b u z => nomatch z) fun b o z => nomatch z
  | none =>
    refine main (fun b => if b = a then some (.frz { cls := .type "list", data := .seq vs.toArray } (.lst (ns.map V.int))) else none) (.inl (.inr ⟨{ cls := .type "list", data := .seq vs.toArray }, if_pos rfl⟩)) (fun b u z => ?_) fun b u z => ?_
    · by_cases hb : b = a
      · subst hb
        cases (if_pos rfl).symm.trans z
        exact ⟨ha, hz, vs, _, rv, ha⟩
      · cases (if_neg hb).symm.trans z
    · by_cases hb : b = a
      · subst hb
        cases (if_pos rfl).symm.trans z
        exact ⟨rfl, hk, _, _, rfl⟩
      · cases (if_neg hb).symm.trans z
/-- the goal that k_head leaves -/
theorem walk_C {l : PySem.W.OpenLaw} {n k : Nat} {q : Program} {loose : List Str} {XP : (Str → Option Value) → Heap → Prop} {YP : World → Heap → Prop} {d : DefRec} {K : Params → PySem.W.Frag} {x : Str} {fn : List PyData → Option PyData}
    (hn : l.most = some n) (hn2 : n ≤ sizeLine) (hdf : d.params.defaults = []) (hr : Room k callerA) (hY : ∀ (w : World) (h : Heap), YP w h → (K w.params).In h)
    (F : ∀ (w : World) (mg : Str → Option Value) (fa : Addr) (h : Heap), (K w.params).In h → h.Ns mainGlobals mg → mg d.name = some (.ref fa) →
      ∃ fd : FuncData, (∀ (s : Shared) (u : Value), BindsTo s fd ⟨[u], []⟩ [(x, u)]) ∧ ∀ base : Heap, (K w.params).In base → base.Ns mainGlobals mg → FnC l.prog w (K w.params) mg base CX0 k fa fd [x] (spF (K w.params) (.pur fn)))
    (hfn : ∀ ns : List Int, ns.length ≤ n → fn [.list (ns.map .int)] = some (.bool true)) : PySem.W.WalkO q loose XP YP l.row.toRowW d [] (fun f vs => PySem.call f vs) := by
  refine Att.attach_call hn hdf fun w s₀ s₁ mg mb fa o pm cd doc a vs ns G Y ho hd hcd hmg hobj hints hlen hg => ?_
  have KX := hY w _ Y
  obtain ⟨fd, hb, hF⟩ := F w mg fa _ KX G.T.g hmg
  exact law_callC KX G.T.g G.T.b G.T.builtins G.T.nolimit hg hobj hints (Nat.le_trans hlen hn2) hr hF hb (hfn ns hlen)
end Cor
set_option Elab.async false
set_option linter.all false
set_option maxRecDepth 100000
set_option maxHeartbeats 4000000
/-! Core 8: the rules as one writes them. -/
namespace Cor
open PySem PySem.Spec PyProof.Rows L2
open Evl (Ex ex_l ex_t)

structure Ctx (P : Program) (w : World) (K : PySem.W.Frag) (mg : Str → Option Value) (base : Heap) (k : Nat) (top : Bool) (N : List Str) (sc : Scope) (X : Cx) : Prop where
  p : X.prog = P
  w : X.w = w
  kk : X.K = K
  m : X.mg = mg
  b : X.base = base
  n : X.N = N
  nd : N.Nodup
  s : X.env.scope = sc
  c : X.calm = true
  r : Room k X.A
  g : X.A.guards = some []
  fn : top = true → ∀ x, X.fn x = true
  po : PassesOwn (model X.prog X.w) X.A X.env X.xe
  kd : sc.kind = .function
theorem Room.hu {k : Nat} {A : Around} (h : Room k A) : A.units + 100 < cLine := by
  have := h.un
  omega
def CallOk (P : Program) (w : World) (K : PySem.W.Frag) (mg : Str → Option Value) (base : Heap) (k : Nat) (x : Str) (fn : Fn) : Prop :=
  ∃ f, mg x = some (.ref f) ∧ PySem.W.keepIn K (.ref f) = true ∧ ∀ X : Cx, X.prog = P → X.w = w → X.K = K → X.mg = mg → X.base = base → Room k X.A → X.A.guards = some [] → Runs X f (spF K fn)
theorem CallOk.mono {P : Program} {w : World} {K : PySem.W.Frag} {mg : Str → Option Value} {base : Heap} {j k : Nat} {x : Str} {fn : Fn} (h : CallOk P w K mg base j x fn) (e : j ≤ k) : CallOk P w K mg base k x fn := by
  obtain ⟨f, h1, h2, F⟩ := h
  exact ⟨f, h1, h2, fun X a b c d e' hr => F X a b c d e' (hr.mono e)⟩
theorem CallOk.of {P : Program} {w : World} {K : PySem.W.Frag} {mg : Str → Option Value} {base : Heap} {k : Nat} {x : Str} {fn : Fn} {f : Addr} {fd : FuncData} {ps : List Str} (F : FnC P w K mg base CX0 k f fd ps (spF K fn)) (h1 : mg x = some (.ref f)) (h2 : PySem.W.keepIn K (.ref f) = true) (hb : L2.Binds K fd ps []) :
    CallOk P w K mg base k x fn := ⟨f, h1, h2, fun X a b c d e hr hg => by subst a b c d e; exact F.runs hr hg hb⟩
def CstOk (K : PySem.W.Frag) (mg : Str → Option Value) (x : Str) (d : PyData) : Prop := ∃ v u, mg x = some u ∧ RelV v u ∧ Dq K (fun _ => none) v d
def WrtOk (K : PySem.W.Frag) (w : World) (mg : Str → Option Value) (x : Str) (kvs : List (Str × Int)) : Prop := ∃ a, mg x = some (.ref a) ∧ WrtAt K w a kvs
def bltL : List Str := ["len", "sorted", "tuple", "list", "min", "max", "abs", "int", "divmod", "str", "repr", "all", "any", "sum", "isinstance", "range", "enumerate", "zip", "set", "bool", "dict"]
def Blts (mg : Str → Option Value) : Prop := ∀ x ∈ bltL, mg x = none
def visB (sc : Scope) (x : Str) : Bool := match sc.names.lookup x with
  | some .local => true
  | some .cell => true
  | some .free => true
  | _ => false
def glB (sc : Scope) (x : Str) : Bool := decide (sc.names.lookup x = some .globalImplicit)
def locB (sc : Scope) (x : Str) : Bool := decide (sc.names.lookup x = some .local)
def celB (sc : Scope) (x : Str) : Bool := decide (sc.names.lookup x = some .cell)
theorem visB_is {sc : Scope} {x : Str} (h : visB sc x = true) : Vis sc x := by
  unfold visB at h
  split at h <;> first | exact .inl (by assumption) | exact .inr (.inl (by assumption)) | exact .inr (.inr (by assumption)) | cases h
def nosB : Expr → Bool
  | .Starred .. => false
  | _ => true
theorem nosB_is {e : Expr} (h : nosB e = true) : ∀ x p, e ≠ .Starred x p := fun x p z => by subst z; cases h
def nomB : Expr → Bool
  | .Set .. => false
  | _ => true
theorem nomB_is {e : Expr} (h : nomB e = true) : ∀ es k p, e ≠ .Set es k p := fun x p q z => by subst z; cases h

section
variable {P : Program} {w : World} {K : PySem.W.Frag} {mg : Str → Option Value} {base : Heap} {k : Nat} {top : Bool} {N : List Str} {sc : Scope} {X : Cx} {G : List Fn}
theorem Ctx.blk (C : Ctx P w K mg base k top N sc X) {s : Shared} {H : Hp} {scope : Scope} {cl : List (Str × Addr)} {L : Addr} {fp : List Addr} (hk : scope.kind = .function) : Ctx P w K mg base k false N (relS scope sc) (X.blk s H scope (compEnvC scope cl L X.env) fp) :=
  ⟨C.p, C.w, C.kk, C.m, C.b, C.n, C.nd, by rw [← C.s]; rfl, C.c, C.r, C.g, (fun z => nomatch z), PassesOwn.never, hk⟩
theorem body_ok {kp : Nat → Bool} {fu : Nat} {qual : Str} {f : Addr} {cdv : Value} {body : List Stmt} {b : CB} (nd : N.Nodup) (kd : sc.kind = .function) (h : ∀ (W : WX) (X : Cx), Ctx P w K mg base k true N sc X → Takes X W → PSs X body (tB K W G fu kp b)) : BodyOk P w K mg base k G fu kp N qual sc f cdv body b :=
  fun W X h1 h2 h3 h4 h5 h6 h7 h8 h9 h10 h11 h12 h13 => h W X ⟨h1, h2, h3, h4, h5, h6, nd, h7, h8, h9, h10, fun _ x => by rw [h11], h12, kd⟩ h13

variable (C : Ctx P w K mg base k top N sc X)
include C
theorem w_gl {x : Str} (h : glB sc x = true) : Gl X x := by
  have := of_decide_eq_true h
  rw [← C.s] at this
  exact this
/-! ### leaves -/
theorem w_var (i : Nat) {x : Str} {pos : Pos} (hN : N[i]? = some x := by rfl) (hv : visB sc x = true := by decide +kernel) (hd : (x == ("__debug__" : Str)) = false := by decide +kernel) (hcd : (x == ("__classdict__" : Str)) = false := by decide +kernel) : PE X (.Name x pos) (tR K G (.var i)) := by
  obtain ⟨rfl, rfl, rfl, rfl, rfl, rfl, _, rfl, _⟩ := C
  exact g_var hN (visB_is hv) hd hcd
theorem w_int {i : Int} {j pos} : PE X (.Constant (.int i) j pos) (tR K G (.cst (.int i))) := by
  obtain ⟨rfl, rfl, rfl, rfl, rfl, rfl, _, rfl, _⟩ := C
  exact g_con pe_int (.int _)
theorem w_bl {i : Bool} {j pos} : PE X (.Constant (.bool i) j pos) (tR K G (.cst (.bool i))) := by
  obtain ⟨rfl, rfl, rfl, rfl, rfl, rfl, _, rfl, _⟩ := C
  exact g_con pe_bl (.bl _)
theorem w_non {j pos} : PE X (.Constant .none j pos) (tR K G (.cst .none)) := by
  obtain ⟨rfl, rfl, rfl, rfl, rfl, rfl, _, rfl, _⟩ := C
  exact g_con pe_non .non
theorem w_str {x : Str} {j pos} : PE X (.Constant (.str x) j pos) (tR K G (.cst (.str x))) := by
  obtain ⟨rfl, rfl, rfl, rfl, rfl, rfl, _, rfl, _⟩ := C
  exact g_con pe_str (.str _)
theorem w_glob {x : Str} {d : PyData} {pos} (h : CstOk K mg x d) (hg : glB sc x = true := by decide +kernel) (hd : (x == ("__debug__" : Str)) = false := by decide +kernel) : PE X (.Name x pos) (tR K G (.cst d)) := by
  have hg' := w_gl C hg
  obtain ⟨rfl, rfl, rfl, rfl, rfl, rfl, _, rfl, _⟩ := C
  obtain ⟨v, u, h1, h2, h3⟩ := h
  exact g_con (pe_glob hg' h1 h2 hd) h3
/-! ### argument lists -/
theorem w_nil : PA X [] (tF K G .nil) := by
  obtain ⟨rfl, rfl, rfl, rfl, rfl, rfl, _, rfl, _⟩ := C
  exact ga_nil
theorem w_cons {e : Expr} {es : List Expr} {c : CE} {r : CA} (h : PE X e (tR K G c)) (hr : PA X es (tF K G r)) (hs : nosB e = true := by rfl) : PA X (e :: es) (tF K G (.cons false c r)) := by
  obtain ⟨rfl, rfl, rfl, rfl, rfl, rfl, _, rfl, _⟩ := C
  exact ga_cons h hr (nosB_is hs)
theorem w_star {e : Expr} {p : Pos} {es : List Expr} {c : CE} {r : CA} (h : PE X e (tR K G c)) (hr : PA X es (tF K G r)) : PA X (.Starred e p :: es) (tF K G (.cons true c r)) := by
  obtain ⟨rfl, rfl, rfl, rfl, rfl, rfl, _, rfl, _⟩ := C
  exact ga_star h hr
theorem q_nil : PA X [] (tQ K G .nil) := by
  obtain ⟨rfl, rfl, rfl, rfl, rfl, rfl, _, rfl, _⟩ := C
  exact gq_nil
theorem q_cons {e : Expr} {es : List Expr} {c : CE} {r : CA} (h : PE X e (tR K G c)) (hr : PA X es (tQ K G r)) (hs : nosB e = true := by rfl) : PA X (e :: es) (tQ K G (.cons false c r)) := by
  obtain ⟨rfl, rfl, rfl, rfl, rfl, rfl, _, rfl, _⟩ := C
  exact gq_cons h hr (nosB_is hs)
/-! ### expressions -/
variable {ea eb ec : Expr} {ca cb cc : CE} {pos p : Pos} {es : List Expr} {c : CA} {ct cu : CT}
theorem w_tup {kk : Nat} (h : PA X es (tF K G c)) : PE X (.Tuple es kk pos) (tR K G (.tup c)) := by
  obtain ⟨rfl, rfl, rfl, rfl, rfl, rfl, _, rfl, _⟩ := C
  exact g_tup h
theorem w_lst (h : PA X es (tF K G c)) : PE X (.List es pos) (tR K G (.lst c)) := by
  obtain ⟨rfl, rfl, rfl, rfl, rfl, rfl, _, rfl, _⟩ := C
  exact g_lst h
theorem w_bin {op : Operator} (ha : PE X ea (tR K G ca)) (hb : PE X eb (tR K G cb)) : PE X (.BinOp ea op eb pos) (tR K G (.bin op ca cb)) := by
  obtain ⟨rfl, rfl, rfl, rfl, rfl, rfl, _, rfl, _⟩ := C
  exact g_bin ha hb
theorem w_neg (ha : PE X ea (tR K G ca)) : PE X (.UnaryOp .USub ea pos) (tR K G (.neg ca)) := by
  obtain ⟨rfl, rfl, rfl, rfl, rfl, rfl, _, rfl, _⟩ := C
  exact g_neg ha
theorem w_cmp {op : CmpOp} (ha : PE X ea (tR K G ca)) (hb : PE X eb (tR K G cb)) (h : nomB eb = true := by rfl) : PE X (.Compare ea [op] [eb] pos) (tR K G (.cmp op ca cb)) := by
  obtain ⟨rfl, rfl, rfl, rfl, rfl, rfl, _, rfl, _, hr, _⟩ := C
  exact g_cmp (Room.hu hr) ha hb (nomB_is h)
theorem w_chn {o1 o2 : CmpOp} (ha : PE X ea (tR K G ca)) (hb : PE X eb (tR K G cb)) (hc : PE X ec (tR K G cc)) (h : nomB ec = true := by rfl) : PE X (.Compare ea [o1, o2] [eb, ec] pos) (tR K G (.chn o1 o2 ca cb cc)) := by
  obtain ⟨rfl, rfl, rfl, rfl, rfl, rfl, _, rfl, _, hr, _⟩ := C
  exact g_chn (Room.hu hr) ha hb hc (nomB_is h)
theorem w_one {op} (ha : PE X ea (tR K G ca)) : PE X (.BoolOp op [ea] pos) (tR K G ca) := pe_one ha
theorem w_and {rest : List Expr} (ha : PE X ea (tR K G ca)) (hb : PE X (.BoolOp .And (eb :: rest) pos) (tR K G cb)) : PE X (.BoolOp .And (ea :: eb :: rest) pos) (tR K G (.andd ca cb)) := by
  obtain ⟨rfl, rfl, rfl, rfl, rfl, rfl, _, rfl, _⟩ := C
  exact g_and ha hb
theorem w_or {rest : List Expr} (ha : PE X ea (tR K G ca)) (hb : PE X (.BoolOp .Or (eb :: rest) pos) (tR K G cb)) : PE X (.BoolOp .Or (ea :: eb :: rest) pos) (tR K G (.orr ca cb)) := by
  obtain ⟨rfl, rfl, rfl, rfl, rfl, rfl, _, rfl, _⟩ := C
  exact g_or ha hb
theorem w_not (ha : PE X ea (tR K G ca)) : PE X (.UnaryOp .Not ea pos) (tR K G (.nott ca)) := by
  obtain ⟨rfl, rfl, rfl, rfl, rfl, rfl, _, rfl, _⟩ := C
  exact g_not ha
theorem w_ife (hc : PT X ec (tT K G ct)) (ha : PE X ea (tR K G ca)) (hb : PE X eb (tR K G cb)) : PE X (.IfExp ec ea eb pos) (tR K G (.ife ct ca cb)) := by
  obtain ⟨rfl, rfl, rfl, rfl, rfl, rfl, _, rfl, _⟩ := C
  exact g_ife hc ha hb
theorem w_idx (ha : PE X ea (tR K G ca)) (hb : PE X eb (tR K G cb)) (hs : PlainIx eb := by intro _ _; rfl) : PE X (.Subscript ea eb pos) (tR K G (.idx ca cb)) := by
  obtain ⟨rfl, rfl, rfl, rfl, rfl, rfl, _, rfl, _, hr, _⟩ := C
  exact g_idx (Room.hu hr) ha hb hs
theorem o_non : PO X none (tO K G .non) := by
  obtain ⟨rfl, rfl, rfl, rfl, rfl, rfl, _, rfl, _⟩ := C
  exact go_none
theorem o_som (ha : PE X ea (tR K G ca)) : PO X (some ea) (tO K G (.som ca)) := by
  obtain ⟨rfl, rfl, rfl, rfl, rfl, rfl, _, rfl, _⟩ := C
  exact go_some ha
theorem w_sli {lo hi : Option Expr} {cl ch : CO} {p2 : Pos} (ha : PE X ea (tR K G ca)) (hl : PO X lo (tO K G cl)) (hh : PO X hi (tO K G ch)) : PE X (.Subscript ea (.Slice lo hi none p2) pos) (tR K G (.sli ca cl ch)) := by
  obtain ⟨rfl, rfl, rfl, rfl, rfl, rfl, _, rfl, _⟩ := C
  exact g_sli ha hl hh
theorem w_dsp {ek ev' : Expr} {ck cv : CE} (ha : PE X ek (tR K G ck)) (hb : PE X ev' (tR K G cv)) : PE X (.Dict [some ek] [ev'] pos) (tR K G (.dsp ck cv)) := by
  obtain ⟨rfl, rfl, rfl, rfl, rfl, rfl, _, rfl, _⟩ := C
  exact g_dsp ha hb
theorem w_inW {x : Str} {kvs : List (Str × Int)} {p2 : Pos} (H : WrtOk K w mg x kvs) (ha : PE X ea (tR K G ca)) (hg : glB sc x = true := by decide +kernel) (hd : (x == ("__debug__" : Str)) = false := by decide +kernel) : PE X (.Compare ea [.In] [.Name x p2] pos) (tR K G (.inW kvs ca)) := by
  have hg' := w_gl C hg
  obtain ⟨rfl, rfl, rfl, rfl, rfl, rfl, _, rfl, _⟩ := C
  obtain ⟨a, h1, h2⟩ := H
  exact g_inW h2 (pe_glob hg' h1 rfl hd) ha (fun _ _ _ z => nomatch z)
theorem t_inW {x : Str} {kvs : List (Str × Int)} {p2 : Pos} (H : WrtOk K w mg x kvs) (ha : PE X ea (tR K G ca)) (hg : glB sc x = true := by decide +kernel) (hd : (x == ("__debug__" : Str)) = false := by decide +kernel) : PT X (.Compare ea [.In] [.Name x p2] pos) (tT K G (.tval (.inW kvs ca))) := by
  have hg' := w_gl C hg
  obtain ⟨rfl, rfl, rfl, rfl, rfl, rfl, _, rfl, _⟩ := C
  obtain ⟨a, h1, h2⟩ := H
  exact gt_inW h2 (pe_glob hg' h1 rfl hd) ha (fun _ _ _ z => nomatch z)
theorem w_atW {x : Str} {kvs : List (Str × Int)} {p2 : Pos} (H : WrtOk K w mg x kvs) (ha : PE X ea (tR K G ca)) (hg : glB sc x = true := by decide +kernel) (hd : (x == ("__debug__" : Str)) = false := by decide +kernel) (hs : PlainIx ea := by intro _ _; rfl) : PE X (.Subscript (.Name x p2) ea pos) (tR K G (.atW kvs ca)) := by
  have hg' := w_gl C hg
  obtain ⟨rfl, rfl, rfl, rfl, rfl, rfl, _, rfl, _⟩ := C
  obtain ⟨a, h1, h2⟩ := H
  exact g_atW h2 (pe_glob hg' h1 rfl hd) ha hs
theorem w_fld {BC : Addr} (T : BkTxt K BC) (i j : Nat) {f : Str} (ho : PE X eb (tR K G (.var i))) (hj : bkN[j]? = some f := by rfl) (hb : attributeBase eb f X.env (eval eb X.env) = eval eb X.env := by rfl) : PE X (.Attribute eb f pos) (tR K G (.fld i j)) := by
  obtain ⟨rfl, rfl, rfl, rfl, rfl, rfl, _, rfl, _⟩ := C
  exact g_fld T hj ho hb
/-! ### calls -/
theorem w_bi (b : Bi) (B : Blts mg) (ha : PA X (ea :: es) (tQ K G c)) (hb : biPlain b = true := by rfl) (hin : (biN b : Str) ∈ bltL := by decide +kernel) (hg : glB sc (biN b) = true := by decide +kernel) (hs : nosB ea = true := by rfl) (hpl : (backTo pos (starEach es X.env)).any (·.1) = false := by rfl) :
    PE X (.Call (.Name (biN b) p) (ea :: es) [] pos) (tR K G (.bi b c)) := by
  have hg' := w_gl C hg
  obtain ⟨rfl, rfl, rfl, rfl, rfl, rfl, _, rfl, hc, hr, hgd, _⟩ := C
  exact g_bi hc (Room.hu hr) hgd hb hg' (B _ hin) ha (nosB_is hs) hpl
theorem w_isi (t : Ty) {p2 : Pos} (B : Blts mg) (ha : PE X ea (tR K G ca)) (hin : (tyN t : Str) ∈ bltL := by decide +kernel) (hg : glB sc "isinstance" = true := by decide +kernel) (hg2 : glB sc (tyN t) = true := by decide +kernel) (hs : nosB ea = true := by rfl) :
    PE X (.Call (.Name "isinstance" p) [ea, .Name (tyN t) p2] [] pos) (tR K G (.bi (.isi t) (.cons false ca .nil))) := by
  have hg' := w_gl C hg
  have hg2' := w_gl C hg2
  obtain ⟨rfl, rfl, rfl, rfl, rfl, rfl, _, rfl, _⟩ := C
  exact g_isi hg' (B _ (by decide +kernel)) hg2' (B _ hin) ha (nosB_is hs)
theorem w_srtSet {p2 pos2 : Pos} (B : Blts mg) (ha : PE X ea (tR K G ca)) (hg : glB sc "sorted" = true := by decide +kernel) (hg2 : glB sc "set" = true := by decide +kernel) (hs : nosB ea = true := by rfl) :
    PE X (.Call (.Name "sorted" p) [.Call (.Name "set" p2) [ea] [] pos2] [] pos) (tR K G (.bi .srtSet (.cons false ca .nil))) := by
  have hg' := w_gl C hg
  have hg2' := w_gl C hg2
  obtain ⟨rfl, rfl, rfl, rfl, rfl, rfl, _, rfl, hc, _⟩ := C
  exact g_srtSet hc hg' (B _ (by decide +kernel)) hg2' (B _ (by decide +kernel)) ha (nosB_is hs)
def notM : Fn → Bool
  | .mut _ => false
  | .rai _ => false
  | .rmu _ => false
  | _ => true
omit C in
theorem notM_is {fn : Fn} (h : notM fn = true) : ∀ g, fn ≠ .mut g := fun g z => by subst z; cases h
omit C in
theorem notR_is {fn : Fn} (h : notM fn = true) : ∀ g, fn ≠ .rmu g := fun g z => by subst z; cases h
omit C in
theorem notX_is {fn : Fn} (h : notM fn = true) : ∀ g, fn ≠ .rai g := fun g z => by subst z; cases h
theorem w_cal (i : Nat) {x : Str} {fn : Fn} (H : CallOk P w K mg base k x fn) (ha : PA X (ea :: es) (tF K G c)) (hG : G[i]? = some fn := by rfl) (hm : notM fn = true := by rfl) (hg : glB sc x = true := by decide +kernel) (hd : (x == ("__debug__" : Str)) = false := by decide +kernel)
    (hs : nosB ea = true := by rfl) (hpl : (backTo pos (starEach es X.env)).any (·.1) = false := by rfl) : PE X (.Call (.Name x p) (ea :: es) [] pos) (tR K G (.cal i c)) := by
  have hg' := w_gl C hg
  obtain ⟨rfl, rfl, rfl, rfl, rfl, rfl, _, rfl, hc, hr, hgd, _⟩ := C
  obtain ⟨f, h1, h2, F⟩ := H
  exact g_cal hG (F X rfl rfl rfl rfl rfl hr hgd) hg' h1 h2 (notM_is hm) (notX_is hm) (notR_is hm) ha hd (nosB_is hs) hpl
theorem w_cal0 (i : Nat) {x : Str} {fn : Fn} (H : CallOk P w K mg base k x fn) (hG : G[i]? = some fn := by rfl) (hm : notM fn = true := by rfl) (hg : glB sc x = true := by decide +kernel) (hd : (x == ("__debug__" : Str)) = false := by decide +kernel) :
    PE X (.Call (.Name x p) [] [] pos) (tR K G (.cal i .nil)) := by
  have hg' := w_gl C hg
  obtain ⟨rfl, rfl, rfl, rfl, rfl, rfl, _, rfl, hc, hr, hgd, _⟩ := C
  obtain ⟨f, h1, h2, F⟩ := H
  exact g_cal0 hG (F X rfl rfl rfl rfl rfl hr hgd) hg' h1 h2 (notM_is hm) (notX_is hm) (notR_is hm) hd
theorem w_calM (i : Nat) {x : Str} {g : Sl → List PyData → Option (PyData × Sl)} (H : CallOk P w K mg base k x (.mut g)) (ha : PE X ea (tR K G ca)) (har : PA X es (tF K G c)) (hG : G[i]? = some (.mut g) := by rfl) (hg : glB sc x = true := by decide +kernel) (hd : (x == ("__debug__" : Str)) = false := by decide +kernel)
    (hs : nosB ea = true := by rfl) (hpl : (backTo pos (starEach es X.env)).any (·.1) = false := by rfl) : PE X (.Call (.Name x p) (ea :: es) [] pos) (tR K G (.cal i (.cons false ca c))) := by
  have hg' := w_gl C hg
  obtain ⟨rfl, rfl, rfl, rfl, rfl, rfl, _, rfl, hc, hr, hgd, _⟩ := C
  obtain ⟨f, h1, h2, F⟩ := H
  exact g_calM hG (F X rfl rfl rfl rfl rfl hr hgd) hg' h1 h2 ha har hd (nosB_is hs) hpl
/-! ### tests -/
theorem t_cmp {op : CmpOp} (ha : PE X ea (tR K G ca)) (hb : PE X eb (tR K G cb)) (h : nomB eb = true := by rfl) : PT X (.Compare ea [op] [eb] pos) (tT K G (.tval (.cmp op ca cb))) := by
  obtain ⟨rfl, rfl, rfl, rfl, rfl, rfl, _, rfl, _, hr, _⟩ := C
  exact gt_cmp (Room.hu hr) ha hb (nomB_is h)
theorem t_chn {o1 o2 : CmpOp} (ha : PE X ea (tR K G ca)) (hb : PE X eb (tR K G cb)) (hc : PE X ec (tR K G cc)) (h : nomB ec = true := by rfl) : PT X (.Compare ea [o1, o2] [eb, ec] pos) (tT K G (.tval (.chn o1 o2 ca cb cc))) := by
  obtain ⟨rfl, rfl, rfl, rfl, rfl, rfl, _, rfl, _, hr, _⟩ := C
  exact gt_chn (Room.hu hr) ha hb hc (nomB_is h)
theorem t_val (ha : PE X ea (tR K G ca)) (he : ∀ whole, isTrue ea X.env whole = (do let v ← whole; standAt ea.pos; holding [v] (truthy v)) := by intro _; rfl) : PT X ea (tT K G (.tval ca)) := by
  obtain ⟨rfl, rfl, rfl, rfl, rfl, rfl, _, rfl, _⟩ := C
  exact gt_val he ha
theorem t_not (hc : PT X ec (tT K G ct)) : PT X (.UnaryOp .Not ec pos) (tT K G (.tnot ct)) := by
  obtain ⟨rfl, rfl, rfl, rfl, rfl, rfl, _, rfl, _⟩ := C
  exact gt_not hc
theorem t_and1 (ha : PT X ea (tT K G ct)) : PW X (.BoolOp .And [ea] pos) (tT K G ct) := pw_and1 ha
theorem t_or1 (ha : PT X ea (tT K G ct)) : PW X (.BoolOp .Or [ea] pos) (tT K G ct) := pw_or1 ha
theorem t_and {rest : List Expr} (ha : PT X ea (tT K G ct)) (hb : PW X (.BoolOp .And (eb :: rest) pos) (tT K G cu)) : PW X (.BoolOp .And (ea :: eb :: rest) pos) (tT K G (.tand ct cu)) := by
  obtain ⟨rfl, rfl, rfl, rfl, rfl, rfl, _, rfl, _⟩ := C
  exact gw_and ha hb
theorem t_or {rest : List Expr} (ha : PT X ea (tT K G ct)) (hb : PW X (.BoolOp .Or (eb :: rest) pos) (tT K G cu)) : PW X (.BoolOp .Or (ea :: eb :: rest) pos) (tT K G (.tor ct cu)) := by
  obtain ⟨rfl, rfl, rfl, rfl, rfl, rfl, _, rfl, _⟩ := C
  exact gw_or ha hb
/-! ### what is walked -/
variable {tg : Expr}
theorem i_seq (ha : PE X ea (tR K G ca)) : PI X tg ea (tI K G (.seq ca)) := by
  obtain ⟨rfl, rfl, rfl, rfl, rfl, rfl, _, rfl, _⟩ := C
  exact gi_seq ha
theorem i_str (ha : PE X ea (tR K G ca)) : PI X tg ea (tI K G (.str ca)) := by
  obtain ⟨rfl, rfl, rfl, rfl, rfl, rfl, _, rfl, _⟩ := C
  exact gi_str ha
theorem i_rng1 (B : Blts mg) (ha : PE X ea (tR K G ca)) (hg : glB sc "range" = true := by decide +kernel) (hs : nosB ea = true := by rfl) : PI X tg (.Call (.Name "range" p) [ea] [] pos) (tI K G (.rng1 ca)) := by
  have hg' := w_gl C hg
  obtain ⟨rfl, rfl, rfl, rfl, rfl, rfl, _, rfl, _⟩ := C
  exact gi_rng1 hg' (B _ (by decide +kernel)) ha (nosB_is hs)
theorem i_rng2 (B : Blts mg) (ha : PE X ea (tR K G ca)) (hb : PE X eb (tR K G cb)) (hg : glB sc "range" = true := by decide +kernel) (hs : nosB ea = true := by rfl) (hs2 : nosB eb = true := by rfl) : PI X tg (.Call (.Name "range" p) [ea, eb] [] pos) (tI K G (.rng2 ca cb)) := by
  have hg' := w_gl C hg
  obtain ⟨rfl, rfl, rfl, rfl, rfl, rfl, _, rfl, _⟩ := C
  exact gi_rng2 hg' (B _ (by decide +kernel)) ha hb (nosB_is hs) (nosB_is hs2)
theorem i_enu {tpos : Pos} {elts : List Expr} {kk : Nat} (B : Blts mg) (ha : PE X ea (tR K G ca)) (hg : glB sc "enumerate" = true := by decide +kernel) (hs : nosB ea = true := by rfl) : PI X (.Tuple elts kk tpos) (.Call (.Name "enumerate" p) [ea] [] pos) (tI K G (.enu ca)) := by
  have hg' := w_gl C hg
  obtain ⟨rfl, rfl, rfl, rfl, rfl, rfl, _, rfl, _⟩ := C
  exact gi_enu hg' (B _ (by decide +kernel)) ha (nosB_is hs)
theorem i_zip {tpos : Pos} {elts : List Expr} {kk : Nat} (B : Blts mg) (ha : PE X ea (tR K G ca)) (hb : PE X eb (tR K G cb)) (hg : glB sc "zip" = true := by decide +kernel) (hs : nosB ea = true := by rfl) (hs2 : nosB eb = true := by rfl) : PI X (.Tuple elts kk tpos) (.Call (.Name "zip" p) [ea, eb] [] pos) (tI K G (.zip ca cb)) := by
  have hg' := w_gl C hg
  obtain ⟨rfl, rfl, rfl, rfl, rfl, rfl, _, rfl, _⟩ := C
  exact gi_zip hg' (B _ (by decide +kernel)) ha hb (nosB_is hs) (nosB_is hs2)
/-! ### targets -/
theorem x_nm (i : Nat) {x : Str} (hN : N[i]? = some x := by rfl) (hl : locB sc x = true := by decide +kernel) : PG X (.Name x p) (gTg K (.nm i)) := by
  obtain ⟨rfl, rfl, rfl, rfl, rfl, rfl, nd, rfl, _⟩ := C
  exact pg_name nd hN (.inl (of_decide_eq_true hl)) (.inr (of_decide_eq_true hl))
theorem x_cel (ht : top = true) (i : Nat) {x : Str} (hN : N[i]? = some x := by rfl) (hl : celB sc x = true := by decide +kernel) : PG X (.Name x p) (gTg K (.nm i)) := by
  obtain ⟨rfl, rfl, rfl, rfl, rfl, rfl, nd, rfl, _, _, _, hf, _⟩ := C
  exact pg_name nd hN (.inr (of_decide_eq_true hl)) (.inl (hf ht x))
theorem x_nil : PGs X [] (gNames []) := pgs_nil
theorem x_cons {e : Expr} {es : List Expr} {i : Nat} {is : List Nat} (h1 : PG X e (gTg K (.nm i))) (h2 : PGs X es (gNames is)) (hs : (assignEach (e :: es) X.env).map (·.2) = assign e X.env :: (assignEach es X.env).map (·.2) := by rfl) : PGs X (e :: es) (gNames (i :: is)) := pgs_cons h1 h2 hs
theorem x_tp {kk : Nat} {is : List Nat} (h : PGs X es (gNames is)) (hn : (assignEach es X.env).length = is.length := by rfl) (hst : (assignEach es X.env).findIdx? (·.1) = none := by rfl) : PG X (.Tuple es kk pos) (gTg K (.tp is)) := by
  obtain ⟨rfl, rfl, rfl, rfl, rfl, rfl, nd, rfl, hc, _⟩ := C
  exact pg_tup hc h hn hst
/-! ### comprehensions -/
theorem y_yes : PTs X [] (tT K G .yes) := by
  obtain ⟨rfl, rfl, rfl, rfl, rfl, rfl, _, rfl, _⟩ := C
  exact pts_yes
theorem y_one (h : PT X ec (tT K G ct)) : PTs X [ec] (tT K G ct) := pts_one h
variable {iter elt iter2 tg2 : Expr} {ifs ifs2 : List Expr} {scope : Scope} {it it2 : CI} {t t2 : Tg} {ce : CE}
theorem w_comp (own : List (Str × Nat)) (hi : PI X tg iter (tI K G it)) (hg : ∀ X', Ctx P w K mg base k false N (relS scope sc) X' → PG X' tg (gTg K t)) (ht : ∀ X', Ctx P w K mg base k false N (relS scope sc) X' → PTs X' ifs (tT K G ct))
    (he : ∀ X', Ctx P w K mg base k false N (relS scope sc) X' → PE X' elt (tR K G ce)) (hb : blkC N sc scope own = true := by decide +kernel) (hk : scope.kind = .function := by rfl) (htg : tgIn (own.map (·.2)) t = true := by decide +kernel) (hs : ∀ x, foldedSetIterable iter X.env x = pure x := by intro _; rfl) :
    PE X (.ListComp elt [⟨tg, iter, ifs, 0⟩] scope pos) (tR K G (.comp it t ct ce (own.map (·.2)))) := by
  have C' := C
  obtain ⟨rfl, rfl, rfl, rfl, rfl, rfl, nd, rfl, hc, _⟩ := C
  exact PE.weak (pe_lc hc nd hi (blkOk_by hb) (fun _ _ _ _ _ => hg _ (C'.blk hk)) (fun _ _ _ _ _ => ht _ (C'.blk hk)) (fun _ _ _ _ _ => he _ (C'.blk hk)) hs) fun σ H Q h => tLc_of htg h
theorem w_comp2 (own : List (Str × Nat)) (vs2 : List Nat) (hi : PI X tg iter (tI K G it)) (hg : ∀ X', Ctx P w K mg base k false N (relS scope sc) X' → PG X' tg (gTg K t)) (ht : ∀ X', Ctx P w K mg base k false N (relS scope sc) X' → PTs X' ifs (tT K G ct))
    (hi2 : ∀ X', Ctx P w K mg base k false N (relS scope sc) X' → PI X' tg2 iter2 (tI K G it2)) (hg2 : ∀ X', Ctx P w K mg base k false N (relS scope sc) X' → PG X' tg2 (gTg K t2)) (ht2 : ∀ X', Ctx P w K mg base k false N (relS scope sc) X' → PTs X' ifs2 (tT K G cu))
    (he : ∀ X', Ctx P w K mg base k false N (relS scope sc) X' → PE X' elt (tR K G ce)) (hb : blkC N sc scope own = true := by decide +kernel) (hk : scope.kind = .function := by rfl) (htg : tgIn (own.map (·.2)) t = true := by decide +kernel) (htg2 : tgIn vs2 t2 = true := by decide +kernel) (hv : (vs2.all fun i => decide (i ∈ own.map (·.2))) = true := by decide +kernel)
    (hs : ∀ x, foldedSetIterable iter X.env x = pure x := by intro _; rfl) (hs1 : ∀ env x, foldedSetIterable iter2 env x = pure x := by intro _ _; rfl) :
    PE X (.ListComp elt [⟨tg, iter, ifs, 0⟩, ⟨tg2, iter2, ifs2, 0⟩] scope pos) (tR K G (.comp2 it t ct it2 t2 cu ce (own.map (·.2)) vs2)) := by
  have C' := C
  obtain ⟨rfl, rfl, rfl, rfl, rfl, rfl, nd, rfl, hc, _⟩ := C
  exact PE.weak (pe_lc2 hc nd hi (blkOk_by hb) (fun i hi => of_decide_eq_true (List.all_eq_true.mp hv i hi)) (fun _ _ _ _ _ => hg _ (C'.blk hk)) (fun _ _ _ _ _ => ht _ (C'.blk hk)) (fun _ _ _ _ _ => hi2 _ (C'.blk hk)) (fun _ _ _ _ _ => hg2 _ (C'.blk hk)) (fun _ _ _ _ _ => ht2 _ (C'.blk hk)) (fun _ _ _ _ _ => he _ (C'.blk hk)) hs hs1)
    fun σ H Q h => tLc2_of htg htg2 h
end
end Cor
set_option Elab.async false
set_option linter.all false
set_option maxRecDepth 100000
set_option maxHeartbeats 4000000
/-! Core 9: statements as one writes them; defs. -/
namespace Cor
open PySem PySem.Spec PyProof.Rows L2
open Evl (Ex ex_l ex_t)

def notLc : Expr → Bool
  | .ListComp .. => false
  | .SetComp .. => false
  | .DictComp .. => false
  | _ => true
theorem sw_no {e : Expr} {t : Option Expr} {l : Nat} {env : Env} (h : notLc e = true) : swapsWith e t l env = pure false := by
  unfold swapsWith
  cases e <;> first | rfl | cases h
theorem sw_cel {elt : Expr} {gs : List Comprehension} {scope : Scope} {pos py : Pos} {y : Str} {l : Nat} {env : Env} (hy : env.scope.names.lookup y = some .cell) : swapsWith (.ListComp elt gs scope pos) (some (.Name y py)) l env = pure false := by
  have ky : env.kindOf y = some .cell := hy
  unfold swapsWith
  simp only [ky]
  have : ((some NameKind.cell : Option NameKind) == some NameKind.local) = false := by decide
  simp [this]
theorem kind_block {env : Env} (hk : env.scope.kind = .function) : env.blockKind = .function := by unfold Env.blockKind; rw [hk]; rfl
/-- both names locals of one line, the values not all told ahead -/
theorem sw_two {x y : Str} {px py pt pt2 : Pos} {kt k2 : Nat} {a b : Expr} {env : Env} (hk : env.scope.kind = .function) (hx : env.scope.names.lookup x = some .local) (hy : env.scope.names.lookup y = some .local) (hl : (py.line == px.line) = true) (hne : (x == y) = false)
    (ha : nosB a = true) (hb : nosB b = true) (hf : (foldedForSure 8 a && foldedForSure 8 b) = false) (hc : (constantsAlone 8 a && constantsAlone 8 b) = false) : swappedStores [.Tuple [.Name x px, .Name y py] kt pt] (.Tuple [a, b] k2 pt2) env = pure (some [x, y]) := by
  have kx : env.kindOf x = some .local := hx
  have ky : env.kindOf y = some .local := hy
  have kb := kind_block hk
  have hl' : py.line = px.line := by simpa using hl
  have hne' : ¬ x = y := by simpa using hne
  have hne2 : ¬ y = x := fun z => hne' z.symm
  unfold swappedStores
  simp only [kb, Expr.pos, List.any_cons, List.any_nil, List.all_cons, List.all_nil, Bool.and_true, hf, hc]
  simp [kx, ky, Expr.pos, hl', hne', hne2, List.eraseDups_cons]
  intro h
  exfalso
  rcases h with h | h
  · cases a <;> first | cases h; done | cases ha
  · cases b <;> first | cases h; done | cases hb
theorem sw_three {x y z : Str} {px py pz pt pt2 : Pos} {kt k2 : Nat} {a b c : Expr} {env : Env} (hk : env.scope.kind = .function) (hx : env.scope.names.lookup x = some .local) (hy : env.scope.names.lookup y = some .local) (hz : env.scope.names.lookup z = some .local)
    (hl : (py.line == px.line) = true) (hl2 : (pz.line == px.line) = true) (hne : (x == y) = false) (hne2 : (x == z) = false) (hne3 : (y == z) = false)
    (ha : nosB a = true) (hb : nosB b = true) (hcc : nosB c = true) (hf : (foldedForSure 8 a && (foldedForSure 8 b && foldedForSure 8 c)) = false) (hc : (constantsAlone 8 a && (constantsAlone 8 b && constantsAlone 8 c)) = false) :
    swappedStores [.Tuple [.Name x px, .Name y py, .Name z pz] kt pt] (.Tuple [a, b, c] k2 pt2) env = pure (some [x, y, z]) := by
  have kx : env.kindOf x = some .local := hx
  have ky : env.kindOf y = some .local := hy
  have kz : env.kindOf z = some .local := hz
  have kb := kind_block hk
  have hl' : py.line = px.line := by simpa using hl
  have hl2' : pz.line = px.line := by simpa using hl2
  have n1 : ¬ x = y := by simpa using hne
  have n2 : ¬ x = z := by simpa using hne2
  have n3 : ¬ y = z := by simpa using hne3
  have m1 : ¬ y = x := fun z => n1 z.symm
  have m2 : ¬ z = x := fun z => n2 z.symm
  have m3 : ¬ z = y := fun z => n3 z.symm
  unfold swappedStores
  simp only [kb, Expr.pos, List.any_cons, List.any_nil, List.all_cons, List.all_nil, Bool.and_true, hf, hc]
  simp [kx, ky, kz, Expr.pos, hl', hl2', n1, n2, n3, m1, m2, m3, List.eraseDups_cons]
  intro h
  exfalso
  rcases h with h | h | h
  · cases a <;> first | cases h; done | cases ha
  · cases b <;> first | cases h; done | cases hb
  · cases c <;> first | cases h; done | cases hcc
/-- one of two names is kept by a block within: the pair is made -/
theorem sw_cel2 {x y : Str} {px py pt pt2 : Pos} {kt k2 : Nat} {a b : Expr} {env : Env} (hk : env.scope.kind = .function) (hl : (py.line == px.line) = true)
    (h : (env.scope.names.lookup x = some .cell ∧ env.scope.names.lookup y = some .local) ∨ (env.scope.names.lookup x = some .local ∧ env.scope.names.lookup y = some .cell) ∨ (env.scope.names.lookup x = some .cell ∧ env.scope.names.lookup y = some .cell)) :
    swappedStores [.Tuple [.Name x px, .Name y py] kt pt] (.Tuple [a, b] k2 pt2) env = pure none := by
  have kb := kind_block hk
  have hl' : py.line = px.line := by simpa using hl
  unfold swappedStores
  simp only [kb, Expr.pos, List.any_cons, List.any_nil, List.all_cons, List.all_nil, Bool.and_true]
  rcases h with ⟨h1, h2⟩ | ⟨h1, h2⟩ | ⟨h1, h2⟩
  · have kx : env.kindOf x = some .cell := h1
    have ky : env.kindOf y = some .local := h2
    simp [kx, ky, Expr.pos, hl']
  · have kx : env.kindOf x = some .local := h1
    have ky : env.kindOf y = some .cell := h2
    simp [kx, ky, Expr.pos, hl']
  · have kx : env.kindOf x = some .cell := h1
    have ky : env.kindOf y = some .cell := h2
    simp [kx, ky, Expr.pos, hl']
def CallXOk (P : Program) (w : World) (K : PySem.W.Frag) (mg : Str → Option Value) (base : Heap) (k : Nat) (x : Str) (fn : List PyData → Option (Except Exn PyData)) : Prop :=
  ∃ f, mg x = some (.ref f) ∧ PySem.W.keepIn K (.ref f) = true ∧ ∀ (X : Cx) (W : WX), X.prog = P → X.w = w → X.K = K → X.mg = mg → X.base = base → Room k X.A → X.A.guards = some [] → Takes X W → RunsX X f (spX K fn) W
theorem CallXOk.mono {P : Program} {w : World} {K : PySem.W.Frag} {mg : Str → Option Value} {base : Heap} {j k : Nat} {x : Str} {fn : List PyData → Option (Except Exn PyData)} (h : CallXOk P w K mg base j x fn) (e : j ≤ k) : CallXOk P w K mg base k x fn := by
  obtain ⟨f, h1, h2, F⟩ := h
  exact ⟨f, h1, h2, fun X W a b c d e' hr => F X W a b c d e' (hr.mono e)⟩
section
variable {P : Program} {w : World} {K : PySem.W.Frag} {mg : Str → Option Value} {base : Heap} {k : Nat} {top : Bool} {N : List Str} {sc : Scope} {X : Cx} {G : List Fn} {fu : Nat} {kp : Nat → Bool} {W : WX}
variable (C : Ctx P w K mg base k top N sc X)
variable {st : Stmt} {sts sts2 : List Stmt} {pos px py pz pt pt2 : Pos} {ea eb ec ek : Expr} {ca cb cc ck : CE} {s : CS} {b b2 : CB} {ct : CT} {es : List Expr}
include C
theorem z_nil : PSs X [] (tB K W G fu kp .nil) := by
  obtain ⟨rfl, rfl, rfl, rfl, rfl, rfl, _, rfl, _⟩ := C
  exact s_nil
theorem z_cons (h1 : PS X st (tS K W G fu kp s)) (h2 : PSs X sts (tB K W G fu kp b)) : PSs X (st :: sts) (tB K W G fu kp (.cons s b)) := by
  obtain ⟨rfl, rfl, rfl, rfl, rfl, rfl, _, rfl, _⟩ := C
  exact s_cons h1 h2
theorem z_pas : PS X (.Pass pos) (tS K W G fu kp .pas) := by
  obtain ⟨rfl, rfl, rfl, rfl, rfl, rfl, _, rfl, _⟩ := C
  exact s_pas
theorem z_doc {x j pos pos'} : PS X (.Expr (.Constant (.str x) j pos) pos') (tS K W G fu kp .pas) := by
  obtain ⟨rfl, rfl, rfl, rfl, rfl, rfl, _, rfl, _⟩ := C
  exact s_doc
theorem z_brk : PS X (.Break pos) (tS K W G fu kp .brk) := by
  obtain ⟨rfl, rfl, rfl, rfl, rfl, rfl, _, rfl, _⟩ := C
  exact s_brk
theorem z_cnt : PS X (.Continue pos) (tS K W G fu kp .cnt) := by
  obtain ⟨rfl, rfl, rfl, rfl, rfl, rfl, _, rfl, _⟩ := C
  exact s_cnt
theorem z_rai : PS X st (tS K W G fu kp .rai) := by
  obtain ⟨rfl, rfl, rfl, rfl, rfl, rfl, _, rfl, _⟩ := C
  exact s_rai
theorem z_exp (ha : PE X ea (tR K G ca)) (hs : notLc ea = true := by rfl) : PS X (.Expr ea pos) (tS K W G fu kp (.exp ca)) := by
  obtain ⟨rfl, rfl, rfl, rfl, rfl, rfl, _, rfl, _⟩ := C
  exact s_exp ha (sw_no hs)
theorem z_ret (ha : PE X ea (tR K G ca)) : PS X (.Return (some ea) pos) (tS K W G fu kp (.ret ca)) := by
  obtain ⟨rfl, rfl, rfl, rfl, rfl, rfl, _, rfl, _⟩ := C
  exact s_ret ha
theorem z_retN : PS X (.Return none pos) (tS K W G fu kp .retN) := by
  obtain ⟨rfl, rfl, rfl, rfl, rfl, rfl, _, rfl, _⟩ := C
  exact s_retN
theorem z_ite (hc : PT X ec (tT K G ct)) (ha : PSs X sts (tB K W G fu kp b)) (hb : PSs X sts2 (tB K W G fu kp b2)) : PS X (.If ec sts sts2 pos) (tS K W G fu kp (.ite ct b b2)) := by
  obtain ⟨rfl, rfl, rfl, rfl, rfl, rfl, _, rfl, _⟩ := C
  exact s_ite hc ha hb
theorem z_asg (i : Nat) {x : Str} (ha : PE X ea (tR K G ca)) (hN : N[i]? = some x := by rfl) (hl : locB sc x = true := by decide +kernel) (hkp : kp i = false := by rfl) (hs : notLc ea = true := by rfl) : PS X (.Assign [.Name x px] ea pos) (tS K W G fu kp (.asg i ca)) := by
  obtain ⟨rfl, rfl, rfl, rfl, rfl, rfl, nd, rfl, _⟩ := C
  exact s_asg hkp nd hN (.inl (of_decide_eq_true hl)) (.inr (of_decide_eq_true hl)) ha (sw_no hs)
theorem z_asgC (ht : top = true) (i : Nat) {x : Str} (ha : PE X ea (tR K G ca)) (hN : N[i]? = some x := by rfl) (hl : celB sc x = true := by decide +kernel) (hkp : kp i = false := by rfl) (hs : notLc ea = true := by rfl) : PS X (.Assign [.Name x px] ea pos) (tS K W G fu kp (.asg i ca)) := by
  obtain ⟨rfl, rfl, rfl, rfl, rfl, rfl, nd, rfl, _, _, _, hf, _⟩ := C
  exact s_asg hkp nd hN (.inr (of_decide_eq_true hl)) (.inl (hf ht x)) ha (sw_no hs)
/-- name = [..], the name kept by a block within -/
theorem z_asgCL (ht : top = true) (i : Nat) {x : Str} {elt : Expr} {gs : List Comprehension} {scope : Scope} {p : Pos} (ha : PE X (.ListComp elt gs scope p) (tR K G ca)) (hN : N[i]? = some x := by rfl) (hl : celB sc x = true := by decide +kernel) (hkp : kp i = false := by rfl) : PS X (.Assign [.Name x px] (.ListComp elt gs scope p) pos) (tS K W G fu kp (.asg i ca)) := by
  obtain ⟨rfl, rfl, rfl, rfl, rfl, rfl, nd, rfl, _, _, _, hf, _⟩ := C
  exact s_asg hkp nd hN (.inr (of_decide_eq_true hl)) (.inl (hf ht x)) ha (sw_cel (of_decide_eq_true hl))
/-- name = [..] of one clause, the name a local of the same line -/
theorem z_asgL (i : Nat) {x : Str} (own : List (Str × Nat)) {elt tg iter : Expr} {ifs : List Expr} {scope : Scope} {p : Pos} {it : CI} {t : Tg} {ce : CE} (hi : PI X tg iter (tI K G it)) (hg : ∀ X', Ctx P w K mg base k false N (relS scope sc) X' → PG X' tg (gTg K t)) (ht : ∀ X', Ctx P w K mg base k false N (relS scope sc) X' → PTs X' ifs (tT K G ct))
    (he : ∀ X', Ctx P w K mg base k false N (relS scope sc) X' → PE X' elt (tR K G ce)) (hN : N[i]? = some x := by rfl) (hl : locB sc x = true := by decide +kernel) (hkp : kp i = false := by rfl) (hline : (px.line == p.line) = true := by rfl) (hown : (scope.names.any fun (n, k) => n == x && (k == .local || k == .cell)) = false := by decide +kernel)
    (hb : blkC N sc scope own = true := by decide +kernel) (hk : scope.kind = .function := by rfl) (htg : tgIn (own.map (·.2)) t = true := by decide +kernel) (hs : ∀ x, foldedSetIterable iter X.env x = pure x := by intro _; rfl) :
    PS X (.Assign [.Name x px] (.ListComp elt [⟨tg, iter, ifs, 0⟩] scope p) pos) (tS K W G fu kp (.asg i (.comp it t ct ce (own.map (·.2))))) := by
  have C' := C
  obtain ⟨rfl, rfl, rfl, rfl, rfl, rfl, nd, rfl, hc, _, _, _, _, kd⟩ := C
  exact PS.weak (ps_setLc hc nd hN (of_decide_eq_true hl) (sw_true kd (of_decide_eq_true hl) hline hown) hi (blkOk_by hb) (fun _ _ _ _ _ => hg _ (C'.blk hk)) (fun _ _ _ _ _ => ht _ (C'.blk hk)) (fun _ _ _ _ _ => he _ (C'.blk hk)) hs) fun D σ H h => tLc_of htg (asg_of hkp h)
theorem z_asgL2 (i : Nat) {x : Str} (own : List (Str × Nat)) (vs2 : List Nat) {elt tg iter tg2 iter2 : Expr} {ifs ifs2 : List Expr} {scope : Scope} {p : Pos} {it it2 : CI} {t t2 : Tg} {cu : CT} {ce : CE} (hi : PI X tg iter (tI K G it)) (hg : ∀ X', Ctx P w K mg base k false N (relS scope sc) X' → PG X' tg (gTg K t)) (ht : ∀ X', Ctx P w K mg base k false N (relS scope sc) X' → PTs X' ifs (tT K G ct))
    (hi2 : ∀ X', Ctx P w K mg base k false N (relS scope sc) X' → PI X' tg2 iter2 (tI K G it2)) (hg2 : ∀ X', Ctx P w K mg base k false N (relS scope sc) X' → PG X' tg2 (gTg K t2)) (ht2 : ∀ X', Ctx P w K mg base k false N (relS scope sc) X' → PTs X' ifs2 (tT K G cu))
    (he : ∀ X', Ctx P w K mg base k false N (relS scope sc) X' → PE X' elt (tR K G ce)) (hN : N[i]? = some x := by rfl) (hl : locB sc x = true := by decide +kernel) (hkp : kp i = false := by rfl) (hline : (px.line == p.line) = true := by rfl) (hown : (scope.names.any fun (n, k) => n == x && (k == .local || k == .cell)) = false := by decide +kernel)
    (hb : blkC N sc scope own = true := by decide +kernel) (hk : scope.kind = .function := by rfl) (htg : tgIn (own.map (·.2)) t = true := by decide +kernel) (htg2 : tgIn vs2 t2 = true := by decide +kernel) (hv : (vs2.all fun i => decide (i ∈ own.map (·.2))) = true := by decide +kernel)
    (hs : ∀ x, foldedSetIterable iter X.env x = pure x := by intro _; rfl) (hs1 : ∀ env x, foldedSetIterable iter2 env x = pure x := by intro _ _; rfl) :
    PS X (.Assign [.Name x px] (.ListComp elt [⟨tg, iter, ifs, 0⟩, ⟨tg2, iter2, ifs2, 0⟩] scope p) pos) (tS K W G fu kp (.asg i (.comp2 it t ct it2 t2 cu ce (own.map (·.2)) vs2))) := by
  have C' := C
  obtain ⟨rfl, rfl, rfl, rfl, rfl, rfl, nd, rfl, hc, _, _, _, _, kd⟩ := C
  exact PS.weak (ps_setLc2 hc nd hN (of_decide_eq_true hl) (sw_true kd (of_decide_eq_true hl) hline hown) hi (blkOk_by hb) (fun i hi => of_decide_eq_true (List.all_eq_true.mp hv i hi)) (fun _ _ _ _ _ => hg _ (C'.blk hk)) (fun _ _ _ _ _ => ht _ (C'.blk hk)) (fun _ _ _ _ _ => hi2 _ (C'.blk hk)) (fun _ _ _ _ _ => hg2 _ (C'.blk hk)) (fun _ _ _ _ _ => ht2 _ (C'.blk hk)) (fun _ _ _ _ _ => he _ (C'.blk hk)) hs hs1) fun D σ H h => tLc2_of htg htg2 (asg_of hkp h)
theorem z_asgT {is : List Nat} {kk : Nat} (ha : PE X ea (tR K G ca)) (hg : PG X (.Tuple es kk pt) (gTg K (.tp is))) (hkp : is.all (fun i => !kp i) = true := by rfl) (hw : swappedStores [.Tuple es kk pt] ea X.env = pure none := by rfl) (hs : swapsWithSole [.Tuple es kk pt] ea pos.line X.env = pure false := by rfl)
    (h1 : (assignEach [.Tuple es kk pt] X.env).map (·.2) = [assign (.Tuple es kk pt) X.env] := by rfl) : PS X (.Assign [.Tuple es kk pt] ea pos) (tS K W G fu kp (.asgT is ca)) := by
  obtain ⟨rfl, rfl, rfl, rfl, rfl, rfl, nd, rfl, _⟩ := C
  exact s_asgT hkp ha hg hw hs h1
theorem z_asgTC {is : List Nat} {kk k2 : Nat} {x y : Str} (ha : PE X (.Tuple [ea, eb] k2 pt2) (tR K G ca)) (hg : PG X (.Tuple [.Name x px, .Name y py] kk pt) (gTg K (.tp is))) (hkp : is.all (fun i => !kp i) = true := by rfl) (hl : ((celB sc x && locB sc y) || ((locB sc x && celB sc y) || (celB sc x && celB sc y))) = true := by decide +kernel)
    (hli : (py.line == px.line) = true := by rfl) (hs : swapsWithSole [.Tuple [.Name x px, .Name y py] kk pt] (.Tuple [ea, eb] k2 pt2) pos.line X.env = pure false := by rfl)
    (h1 : (assignEach [.Tuple [.Name x px, .Name y py] kk pt] X.env).map (·.2) = [assign (.Tuple [.Name x px, .Name y py] kk pt) X.env] := by rfl) : PS X (.Assign [.Tuple [.Name x px, .Name y py] kk pt] (.Tuple [ea, eb] k2 pt2) pos) (tS K W G fu kp (.asgT is ca)) := by
  obtain ⟨rfl, rfl, rfl, rfl, rfl, rfl, nd, rfl, _, _, _, _, _, kd⟩ := C
  simp only [Bool.or_eq_true, Bool.and_eq_true] at hl
  exact s_asgT hkp ha hg (sw_cel2 kd hli (hl.imp (fun h => ⟨of_decide_eq_true h.1, of_decide_eq_true h.2⟩) fun h => h.imp (fun h => ⟨of_decide_eq_true h.1, of_decide_eq_true h.2⟩) fun h => ⟨of_decide_eq_true h.1, of_decide_eq_true h.2⟩)) hs h1
theorem z_par2 (i j : Nat) {x y : Str} {kt k2 : Nat} (ha : PE X ea (tR K G ca)) (hb : PE X eb (tR K G cb)) (hN : N[i]? = some x := by rfl) (hN2 : N[j]? = some y := by rfl) (hl : locB sc x = true := by decide +kernel) (hl2 : locB sc y = true := by decide +kernel) (hij : i ≠ j := by decide) (ki : kp i = false := by rfl) (kj : kp j = false := by rfl)
    (ns : nosB ea = true := by rfl) (ns2 : nosB eb = true := by rfl) (hli : (py.line == px.line) = true := by rfl) (hne : (x == y) = false := by decide +kernel) (hf : (foldedForSure 8 ea && foldedForSure 8 eb) = false := by rfl) (hcn : (constantsAlone 8 ea && constantsAlone 8 eb) = false := by rfl) :
    PS X (.Assign [.Tuple [.Name x px, .Name y py] kt pt] (.Tuple [ea, eb] k2 pt2) pos) (tS K W G fu kp (.par2 i j ca cb)) := by
  obtain ⟨rfl, rfl, rfl, rfl, rfl, rfl, nd, rfl, hc, _, _, _, _, kd⟩ := C
  exact s_par2 ki kj hc nd hN hN2 hij (of_decide_eq_true hl) (of_decide_eq_true hl2) ha hb (nosB_is ns) (nosB_is ns2) (sw_two kd (of_decide_eq_true hl) (of_decide_eq_true hl2) hli hne ns ns2 hf hcn)
theorem z_par3 (i j l : Nat) {x y z : Str} {kt k2 : Nat} (ha : PE X ea (tR K G ca)) (hb : PE X eb (tR K G cb)) (hcc : PE X ec (tR K G cc)) (hN : N[i]? = some x := by rfl) (hN2 : N[j]? = some y := by rfl) (hN3 : N[l]? = some z := by rfl) (hl : locB sc x = true := by decide +kernel) (hl2 : locB sc y = true := by decide +kernel) (hl3 : locB sc z = true := by decide +kernel)
    (hij : i ≠ j := by decide) (hil : i ≠ l := by decide) (hjl : j ≠ l := by decide) (ki : kp i = false := by rfl) (kj : kp j = false := by rfl) (kl : kp l = false := by rfl) (ns : nosB ea = true := by rfl) (ns2 : nosB eb = true := by rfl) (ns3 : nosB ec = true := by rfl) (hli : (py.line == px.line) = true := by rfl) (hli2 : (pz.line == px.line) = true := by rfl)
    (hne : (x == y) = false := by decide +kernel) (hne2 : (x == z) = false := by decide +kernel) (hne3 : (y == z) = false := by decide +kernel) (hf : (foldedForSure 8 ea && (foldedForSure 8 eb && foldedForSure 8 ec)) = false := by rfl) (hcn : (constantsAlone 8 ea && (constantsAlone 8 eb && constantsAlone 8 ec)) = false := by rfl) :
    PS X (.Assign [.Tuple [.Name x px, .Name y py, .Name z pz] kt pt] (.Tuple [ea, eb, ec] k2 pt2) pos) (tS K W G fu kp (.par3 i j l ca cb cc)) := by
  obtain ⟨rfl, rfl, rfl, rfl, rfl, rfl, nd, rfl, hc, _, _, _, _, kd⟩ := C
  exact s_par3 ki kj kl hc nd hN hN2 hN3 hij hil hjl (of_decide_eq_true hl) (of_decide_eq_true hl2) (of_decide_eq_true hl3) ha hb hcc (nosB_is ns) (nosB_is ns2) (nosB_is ns3) (sw_three kd (of_decide_eq_true hl) (of_decide_eq_true hl2) (of_decide_eq_true hl3) hli hli2 hne hne2 hne3 ns ns2 ns3 hf hcn)
theorem z_sub (i : Nat) (ho : PE X eb (tR K G (.var i))) (hk : PE X ek (tR K G ck)) (ha : PE X ea (tR K G ca)) (hs : notLc ea = true := by rfl)
    (hg : ∀ v, assign (.Subscript eb ek pt) X.env v = (do
      let ov ← holding [v] (eval eb X.env)
      let iv ← holding [v, ov] (eval ek X.env)
      standAt pt
      holding [v, ov, iv] (setItem ov iv v)
      release [v, ov, iv] []) := by intro _; rfl) (h1 : (assignEach [.Subscript eb ek pt] X.env).map (·.2) = [assign (.Subscript eb ek pt) X.env] := by rfl) :
    PS X (.Assign [.Subscript eb ek pt] ea pos) (tS K W G fu kp (.sub i ck ca)) := by
  obtain ⟨rfl, rfl, rfl, rfl, rfl, rfl, nd, rfl, _, hr, _⟩ := C
  exact s_sub (Room.hu hr) ho hk ha hg (by unfold swapsWithSole; exact sw_no hs) h1
theorem z_divT (i j : Nat) {y : Str} {kk : Nat} (ho : PE X eb (tR K G (.var i))) (hk : PE X ek (tR K G ck)) (ha : PE X ea (tR K G ca)) (hN : N[j]? = some y := by rfl) (hl : locB sc y = true := by decide +kernel) (kj : kp j = false := by rfl)
    (hg : ∀ v, assign (.Subscript eb ek pt) X.env v = (do
      let ov ← holding [v] (eval eb X.env)
      let iv ← holding [v, ov] (eval ek X.env)
      standAt pt
      holding [v, ov, iv] (setItem ov iv v)
      release [v, ov, iv] []) := by intro _; rfl)
    (hs : notLc ea = true := by rfl) (hw : swappedStores [.Tuple [.Subscript eb ek pt, .Name y py] kk pt2] ea X.env = pure none := by rfl)
    (h1 : (assignEach [.Tuple [.Subscript eb ek pt, .Name y py] kk pt2] X.env).map (·.2) = [assign (.Tuple [.Subscript eb ek pt, .Name y py] kk pt2) X.env] := by rfl)
    (h2 : (assignEach [.Subscript eb ek pt, .Name y py] X.env).map (·.2) = assign (.Subscript eb ek pt) X.env :: (assignEach [.Name y py] X.env).map (·.2) := by rfl) (h3 : (assignEach [.Name y py] X.env).map (·.2) = assign (.Name y py) X.env :: (assignEach [] X.env).map (·.2) := by rfl)
    (h4 : (assignEach [.Subscript eb ek pt, .Name y py] X.env).length = 2 := by rfl) (h5 : (assignEach [.Subscript eb ek pt, .Name y py] X.env).findIdx? (·.1) = none := by rfl) :
    PS X (.Assign [.Tuple [.Subscript eb ek pt, .Name y py] kk pt2] ea pos) (tS K W G fu kp (.divT i ck j ca)) := by
  obtain ⟨rfl, rfl, rfl, rfl, rfl, rfl, nd, rfl, hc, hr, _⟩ := C
  exact s_divT kj (Room.hu hr) hc nd hN (.inl (of_decide_eq_true hl)) (.inr (of_decide_eq_true hl)) ho hk ha hg (by unfold swapsWithSole; exact sw_no hs) hw h1 h2 h3 h4 h5
theorem z_app (i : Nat) {apos cpos : Pos} (ho : PE X eb (tR K G (.var i))) (ha : PE X ea (tR K G ca)) (ns : nosB ea = true := by rfl)
    (hbase : attributeBase eb "append" X.env (eval eb X.env) = eval eb X.env := by rfl) (hfew : ((backTo cpos (starEach [ea] X.env)).all (fun x => !x.1) && (backToKw cpos (keywordEach [] X.env)).all (fun x => x.1.isSome)
      && decide (([ea] : List Expr).length + ([] : List Keyword).length + (if ([] : List Keyword).isEmpty then 0 else 1) < 30)) = true := by rfl) (hline : (apos.endLine == cpos.line) = true := by rfl) :
    PS X (.Expr (.Call (.Attribute eb "append" apos) [ea] [] cpos) pos) (tS K W G fu kp (.app i ca)) := by
  obtain ⟨rfl, rfl, rfl, rfl, rfl, rfl, nd, rfl, _⟩ := C
  exact s_app ho ha (nosB_is ns) hbase hfew hline
theorem z_frl {tg iter : Expr} {t : Tg} {it : CI} (hi : PI X tg iter (tI K G it)) (hg : PG X tg (gTg K t)) (hb : PSs X sts (tB K W G fu kp b)) (hkp : (tgs t).all (fun i => !kp i) = true := by rfl) (hs : ∀ x, foldedSetIterable iter X.env x = pure x := by intro _; rfl) :
    PS X (.For tg iter sts [] pos) (tS K W G fu kp (.frl t it b)) := by
  obtain ⟨rfl, rfl, rfl, rfl, rfl, rfl, nd, rfl, hc, _, _, _, hx, _⟩ := C
  exact s_frl hkp hx hc hi hg hb hs
theorem z_whl (hc : PT X ec (tT K G ct)) (hb : PSs X sts (tB K W G fu kp b)) : PS X (.While ec sts [] pos) (tS K W G fu kp (.whl ct b)) := by
  obtain ⟨rfl, rfl, rfl, rfl, rfl, rfl, nd, rfl, _, _, _, _, hx, _⟩ := C
  exact s_whl hx hc hb
/-- raise Name(e) -/
theorem z_rse {x f : Str} {p pos2 : Pos} (tk : Takes X W) (E : ErrOk P w K mg base x f) (ha : PE X ea (tR K G ca)) (hk : 2 ≤ k := by decide) (hg : glB sc x = true := by decide +kernel) (hd : (x == ("__debug__" : Str)) = false := by decide +kernel) (hs : nosB ea = true := by rfl) (hfn : ¬ f = "" := by decide +kernel) :
    PS X (.Raise (some (.Call (.Name x p) [ea] [] pos)) none pos2) (tS K W G fu kp (.rse x f ca)) := by
  have hg' := w_gl C hg
  obtain ⟨rfl, rfl, rfl, rfl, rfl, rfl, nd, rfl, hc, hr, _⟩ := C
  exact s_rse hc tk E (hr.mono hk) hg' ha (nosB_is hs) hd hfn
/-- f(..), f may raise -/
theorem z_calx (i : Nat) {x : Str} {fn : List PyData → Option (Except Exn PyData)} {c : CA} {p pos2 : Pos} (tk : Takes X W) (H : CallXOk P w K mg base k x fn) (ha : PA X (ea :: es) (tF K G c)) (hG : G[i]? = some (.rai fn) := by rfl) (hg : glB sc x = true := by decide +kernel) (hd : (x == ("__debug__" : Str)) = false := by decide +kernel)
    (hs : nosB ea = true := by rfl) (hpl : (backTo pos (starEach es X.env)).any (·.1) = false := by rfl) : PS X (.Expr (.Call (.Name x p) (ea :: es) [] pos) pos2) (tS K W G fu kp (.calx i c)) := by
  have hg' := w_gl C hg
  obtain ⟨rfl, rfl, rfl, rfl, rfl, rfl, nd, rfl, hc, hr, hgd, _⟩ := C
  obtain ⟨fa, h1, h2, F⟩ := H
  exact s_calx hG (F X W rfl rfl rfl rfl rfl hr hgd tk) hg' h1 h2 ha hd (nosB_is hs) hpl
end
/-- what the frag must say of a def -/
structure Def (K : PySem.W.Frag) (mg : Str → Option Value) (x qual : Str) (st : Stmt) (f : Addr) (dV : Value) : Prop where
  ex : ∃ (oc : Value) (od : Option Addr) (kV doc pm : Value) (an : Option Addr) (cdv ct : Value) (osl : Array (Option Value)),
    K.lookup f = some ⟨oc, od, .func (PySem.W.fnOf x qual (defArgs st) (defBody st) (defScope st) dV kV doc pm an cdv ct), osl⟩ ∧ PySem.W.codeIn K cdv qual = true
  kp : PySem.W.keepIn K (.ref f) = true
  gl : mg x = some (.ref f)
def bindsB (st : Stmt) (ps : List Str) : Prop := ∀ (x qual : Str) (kV doc pm : Value) (an : Option Addr) (cdv ct : Value) (us : List Value), us.length = ps.length → bindArgs (PySem.W.fnOf x qual (defArgs st) (defBody st) (defScope st) .none kV doc pm an cdv ct) ⟨us, []⟩ = pure (ps.zip us)
def scopeB (N ps : List Str) (sc : Scope) : Bool :=
  (match sc.kind with | .function => true | _ => false) && !sc.isCoroutine && !sc.isGenerator && decide N.Nodup && decide (N.take ps.length = ps) && (ps.all fun x => locB sc x || celB sc x) && (sc.names.all fun y => match y.2 with | .free => false | _ => true)
theorem scopeB_is {N ps : List Str} {sc : Scope} (h : scopeB N ps sc = true) : FnScope N ps sc := by
  unfold scopeB at h
  simp only [Bool.and_eq_true, Bool.not_eq_true', decide_eq_true_eq, List.all_eq_true, Bool.or_eq_true] at h
  obtain ⟨⟨⟨⟨⟨⟨h1, h2⟩, h3⟩, h4⟩, h5⟩, h6⟩, h7⟩ := h
  refine ⟨?_, h2, h3, h4, h5, fun x hx => (h6 x hx).imp of_decide_eq_true of_decide_eq_true, fun y hy z => ?_⟩
  · split at h1 <;> first | assumption | cases h1
  · have := h7 y hy
    rw [z] at this
    cases this
section
variable {P : Program} {w : World} {K : PySem.W.Frag} {mg : Str → Option Value} {base : Heap} {k : Nat} {G : List Fn} {fu : Nat} {kp : Nat → Bool} {b : CB} {x qual : Str} {st : Stmt} {f : Addr} {N ps : List Str}
theorem defP (D : Def K mg x qual st f .none) (hs : scopeB N ps (defScope st) = true) (hbi : bindsB st ps) (h : ∀ (W : WX) (X : Cx), Ctx P w K mg base k true N (defScope st) X → Takes X W → PSs X (defBody st) (tB K W G fu kp b)) : CallOk P w K mg base (k + 1) x (.pur (runP G fu N.length ps.length b)) := by
  obtain ⟨⟨oc, od, kV, doc, pm, an, cdv, ct, osl, lk, hcd⟩, hkp, hgl⟩ := D
  have S := scopeB_is hs
  exact .of (funP lk hcd S (body_ok S.nd S.kind h)) hgl hkp (.all fun us hl => hbi _ _ _ _ _ _ _ _ us hl)
theorem defK (D : Def K mg x qual st f .none) (hs : scopeB N ps (defScope st) = true) (hbi : bindsB st ps) (h : ∀ (W : WX) (X : Cx), Ctx P w K mg base k true N (defScope st) X → Takes X W → PSs X (defBody st) (tB K W G fu kp b)) : CallOk P w K mg base (k + 1) x (.mak (runK G fu N.length ps.length b)) := by
  obtain ⟨⟨oc, od, kV, doc, pm, an, cdv, ct, osl, lk, hcd⟩, hkp, hgl⟩ := D
  have S := scopeB_is hs
  exact .of (funK lk hcd S (body_ok S.nd S.kind h)) hgl hkp (.all fun us hl => hbi _ _ _ _ _ _ _ _ us hl)
theorem defM (hk : kp 0 = true) (D : Def K mg x qual st f .none) (hs : scopeB N ps (defScope st) = true) (hbi : bindsB st ps) (h : ∀ (W : WX) (X : Cx), Ctx P w K mg base k true N (defScope st) X → Takes X W → PSs X (defBody st) (tB K W G fu kp b)) : CallOk P w K mg base (k + 1) x (.mut (runM G fu N.length ps.length b)) := by
  obtain ⟨⟨oc, od, kV, doc, pm, an, cdv, ct, osl, lk, hcd⟩, hkp, hgl⟩ := D
  have S := scopeB_is hs
  exact .of (funM hk lk hcd S (body_ok S.nd S.kind h)) hgl hkp (.all fun us hl => hbi _ _ _ _ _ _ _ _ us hl)
theorem defX (D : Def K mg x qual st f .none) (hs : scopeB N ps (defScope st) = true) (hbi : bindsB st ps) (h : ∀ (W : WX) (X : Cx), Ctx P w K mg base k true N (defScope st) X → Takes X W → PSs X (defBody st) (tB K W G fu kp b)) : CallXOk P w K mg base (k + 1) x (runX G fu N.length ps.length b) := by
  obtain ⟨⟨oc, od, kV, doc, pm, an, cdv, ct, osl, lk, hcd⟩, hkp, hgl⟩ := D
  have S := scopeB_is hs
  have F := funX (P := P) (w := w) (mg := mg) (base := base) lk hcd S (body_ok S.nd S.kind h)
  have hb : L2.Binds K _ ps [] := .all fun us hl => hbi x qual kV doc pm an cdv ct us hl
  exact ⟨f, hgl, hkp, fun X W a b' c d e hr hg tk => by subst a b' c d e; exact F.runsX hr hg hb tk⟩
/-- a def with defaults, the call gives n values -/
structure DefD (K : PySem.W.Frag) (mg : Str → Option Value) (x qual : Str) (st : Stmt) (f : Addr) (dvs : List V) : Prop where
  ex : ∃ (oc : Value) (od : Option Addr) (dV kV doc pm : Value) (an : Option Addr) (cdv ct : Value) (osl : Array (Option Value)),
    K.lookup f = some ⟨oc, od, .func (PySem.W.fnOf x qual (defArgs st) (defBody st) (defScope st) dV kV doc pm an cdv ct), osl⟩ ∧ PySem.W.codeIn K cdv qual = true ∧ DflV K dV dvs
  kp : PySem.W.keepIn K (.ref f) = true
  gl : mg x = some (.ref f)
theorem defPD {dvs : List V} {defs : List PyData} (n : Nat) (D : DefD K mg x qual st f dvs) (hs : scopeB N ps (defScope st) = true) (hd : dvs ≠ []) (hn : n + dvs.length = ps.length)
    (hbi : ∀ (T : Addr) (kV doc pm : Value) (an : Option Addr) (cdv ct : Value) (us its : List Value), us.length = n → its.length = dvs.length →
      ∃ k, bindArgs (PySem.W.fnOf x qual (defArgs st) (defBody st) (defScope st) (.ref T) kV doc pm an cdv ct) ⟨us, []⟩ = seqItems? (.ref T) >>= k ∧ k (some its.toArray) = pure (ps.zip (us ++ its)))
    (hq : ∀ Hf, DqAll K Hf dvs defs) (h : ∀ (W : WX) (X : Cx), Ctx P w K mg base k true N (defScope st) X → Takes X W → PSs X (defBody st) (tB K W G fu kp b)) : CallOk P w K mg base (k + 1) x (.pur fun ds => runP G fu N.length ps.length b (ds ++ defs)) := by
  obtain ⟨⟨oc, od, dV, kV, doc, pm, an, cdv, ct, osl, lk, hcd, hD⟩, hkp, hgl⟩ := D
  have S := scopeB_is hs
  have F := funP (P := P) (mg := mg) (base := base) lk hcd S (body_ok S.nd S.kind h)
  have FD : FunD K x qual (defArgs st) (defBody st) (defScope st) dvs [] f _ := ⟨⟨oc, od, dV, kV, doc, pm, an, cdv, ct, osl, rfl, lk, hcd, hD, .inl rfl⟩, hkp⟩
  obtain ⟨ds, rd, hb⟩ := FD.binds1 (ps := ps) n 0 hd (by simpa using hn) (fun T kV doc pm an cdv ct us its h1 h2 => by
    obtain ⟨k, e1, e2⟩ := hbi T kV doc pm an cdv ct us its h1 h2
    exact ⟨k, e1, by rw [List.drop_zero]; exact e2⟩)
  refine ⟨f, hgl, hkp, fun X a b' c d e hr hg => ?_⟩
  subst a b' c d e
  intro pins σ H s us vs Q I r hsp
  obtain ⟨Hf, ds', d, ex, hdq, e, q⟩ := hsp
  exact run_fnC F hr hg hb rd pass0 I r ⟨Hf, ds' ++ defs, d, ex, hdq.append (hq Hf), e, q⟩
end
end Cor
set_option Elab.async false
set_option linter.all false
set_option maxRecDepth 100000
set_option maxHeartbeats 4000000
/-! Core 9b: books as one writes them. -/
namespace Cor
open PySem PySem.Spec PyProof.Rows L2
open Evl (Ex ex_l ex_t)
/-- a method of the class of books -/
def MethOk (P : Program) (w : World) (K : PySem.W.Frag) (mg : Str → Option Value) (base : Heap) (k : Nat) (m : Str) (fn : Fn) : Prop :=
  ∃ C f, BkTxt K C ∧ L2.Meth K C m f ∧ ∀ X : Cx, X.prog = P → X.w = w → X.K = K → X.mg = mg → X.base = base → Room k X.A → X.A.guards = some [] → Runs X f (spF K fn)
def MethXOk (P : Program) (w : World) (K : PySem.W.Frag) (mg : Str → Option Value) (base : Heap) (k : Nat) (m : Str) (fn : Sl → List PyData → Option (Except Exn PyData × Sl)) : Prop :=
  ∃ C f, BkTxt K C ∧ L2.Meth K C m f ∧ ∀ (X : Cx) (W : WX), X.prog = P → X.w = w → X.K = K → X.mg = mg → X.base = base → Room k X.A → X.A.guards = some [] → Takes X W → RunsX X f (spR K fn) W
theorem MethOk.mono {P : Program} {w : World} {K : PySem.W.Frag} {mg : Str → Option Value} {base : Heap} {j k : Nat} {x : Str} {fn : Fn} (h : MethOk P w K mg base j x fn) (e : j ≤ k) : MethOk P w K mg base k x fn := by
  obtain ⟨C, f, h1, h2, F⟩ := h
  exact ⟨C, f, h1, h2, fun X a b c d e' hr => F X a b c d e' (hr.mono e)⟩
theorem MethXOk.mono {P : Program} {w : World} {K : PySem.W.Frag} {mg : Str → Option Value} {base : Heap} {j k : Nat} {x : Str} {fn : Sl → List PyData → Option (Except Exn PyData × Sl)} (h : MethXOk P w K mg base j x fn) (e : j ≤ k) : MethXOk P w K mg base k x fn := by
  obtain ⟨C, f, h1, h2, F⟩ := h
  exact ⟨C, f, h1, h2, fun X W a b c d e' hr => F X W a b c d e' (hr.mono e)⟩
section
variable {P : Program} {w : World} {K : PySem.W.Frag} {mg : Str → Option Value} {base : Heap} {k : Nat} {top : Bool} {N : List Str} {sc : Scope} {X : Cx} {G : List Fn} {fu : Nat} {kp : Nat → Bool} {W : WX}
variable (C : Ctx P w K mg base k top N sc X)
variable {pos p pt apos cpos pf pg : Pos} {ea eb : Expr} {ca : CE} {es : List Expr} {c : CA}
include C
theorem v_var (i : Nat) {x : Str} {pos : Pos} (hN : N[i]? = some x := by rfl) (hv : visB sc x = true := by decide +kernel) (hd : (x == ("__debug__" : Str)) = false := by decide +kernel) (hcd : (x == ("__classdict__" : Str)) = false := by decide +kernel) : PE X (.Name x pos) (tVar i) := by
  obtain ⟨rfl, rfl, rfl, rfl, rfl, rfl, _, rfl, _⟩ := C
  exact pe_var hN (visB_is hv) hd hcd
theorem w_mth0 (kf i : Nat) {m : Str} {g : Sl → List PyData → Option (PyData × Sl)} {pl : Sem Bool} (H : MethOk P w K mg base k m (.mut g)) (ho : PE X eb (tVar i)) (hG : G[kf]? = some (.mut g) := by rfl) (hm : (bkN ++ [("past" : Str)]).all (fun f => !(m == f)) = true := by decide +kernel)
    (ht : eval (.Call (.Attribute eb m apos) [] [] pos) X.env = (do
      let ov ← eval eb X.env
      standAt apos.atName
      let (f, first) ← holding [ov] (getMethod ov m pl)
      callWith pos f first (backTo pos (starEach [] X.env)) (backToKw pos (keywordEach [] X.env))) := by rfl) : PE X (.Call (.Attribute eb m apos) [] [] pos) (tR K G (.mth kf i .nil)) := by
  obtain ⟨rfl, rfl, rfl, rfl, rfl, rfl, _, rfl, hc, hr, hgd, _⟩ := C
  obtain ⟨BC, f, T, M, F⟩ := H
  refine PE.weak (pe_methC0 (pl := pl) ho T.cl M (F X rfl rfl rfl rfl rfl hr hgd) ht) fun σ H Q h => ?_
  obtain ⟨x, hx, a, dx, fs, h1, h2, h3, q⟩ := mth_of (m := m) T hG hm h
  obtain ⟨Hf, fps, ρ, ds, ρ', S, ee, q⟩ := q
  cases (show some (([] : List PyData), ρ) = some (ds, ρ') from ee)
  exact ⟨x, hx, a, dx, fs, h1, h2, h3, q Hf fps H [] .refl S .nil⟩
theorem w_mth (kf i : Nat) {m : Str} {g : Sl → List PyData → Option (PyData × Sl)} {pl : Sem Bool} (H : MethOk P w K mg base k m (.mut g)) (ho : PE X eb (tVar i)) (ha : PA X (ea :: es) (tF K G c)) (hG : G[kf]? = some (.mut g) := by rfl) (hm : (bkN ++ [("past" : Str)]).all (fun f => !(m == f)) = true := by decide +kernel)
    (hs : nosB ea = true := by rfl) (hpl : (backTo pos (starEach es X.env)).any (·.1) = false := by rfl)
    (ht : eval (.Call (.Attribute eb m apos) (ea :: es) [] pos) X.env = (do
      let ov ← eval eb X.env
      standAt apos.atName
      let (f, first) ← holding [ov] (getMethod ov m pl)
      callWith pos f first (backTo pos (starEach (ea :: es) X.env)) (backToKw pos (keywordEach [] X.env))) := by rfl) : PE X (.Call (.Attribute eb m apos) (ea :: es) [] pos) (tR K G (.mth kf i c)) := by
  obtain ⟨rfl, rfl, rfl, rfl, rfl, rfl, _, rfl, hc, hr, hgd, _⟩ := C
  obtain ⟨BC, f, T, M, F⟩ := H
  exact PE.weak (pe_methC (pl := pl) ho T.cl M (F X rfl rfl rfl rfl rfl hr hgd) ha (star_no (nosB_is hs)) hpl ht) fun σ H Q h => mth_of T hG hm h
theorem z_fset {BC : Addr} (T : BkTxt K BC) (i j : Nat) {f : Str} (ho : PE X eb (tR K G (.var i))) (ha : PE X ea (tR K G ca)) (hj : bkN[j]? = some f := by rfl) (hs : swapsWith ea (some (.Attribute eb f pt)) pos.line X.env = pure false := by rfl) :
    PS X (.Assign [.Attribute eb f pt] ea pos) (tS K W G fu kp (.fset i j ca)) := by
  obtain ⟨rfl, rfl, rfl, rfl, rfl, rfl, _, rfl, _⟩ := C
  exact s_fset T hj ho ha hs
theorem z_papp {BC : Addr} (T : BkTxt K BC) (i j : Nat) {f : Str} (ho : PE X eb (tVar i)) (ho2 : PE X ea (tVar i)) (hj : bkN[j]? = some f := by rfl) (hb : attributeBase eb "past" X.env (eval eb X.env) = eval eb X.env := by rfl) (hb2 : attributeBase ea f X.env (eval ea X.env) = eval ea X.env := by rfl)
    (hbase : attributeBase (.Attribute eb "past" pf) "append" X.env (eval (.Attribute eb "past" pf) X.env) = eval (.Attribute eb "past" pf) X.env := by rfl) (hfew : ((backTo cpos (starEach [.Attribute ea f pg] X.env)).all (fun x => !x.1) && (backToKw cpos (keywordEach [] X.env)).all (fun x => x.1.isSome)
      && decide (([.Attribute ea f pg] : List Expr).length + ([] : List Keyword).length + (if ([] : List Keyword).isEmpty then 0 else 1) < 30)) = true := by rfl) (hline : (apos.endLine == cpos.line) = true := by rfl) :
    PS X (.Expr (.Call (.Attribute (.Attribute eb "past" pf) "append" apos) [.Attribute ea f pg] [] cpos) pos) (tS K W G fu kp (.papp i j)) := by
  obtain ⟨rfl, rfl, rfl, rfl, rfl, rfl, _, rfl, _⟩ := C
  exact s_papp T hj ho ho2 hb hb2 hbase hfew hline
end
/-- what the frag must say of a method -/
structure DefM (K : PySem.W.Frag) (m qual : Str) (st : Stmt) (C f : Addr) : Prop where
  ex : ∃ (oc : Value) (od : Option Addr) (kV doc pm : Value) (an : Option Addr) (cdv ct : Value) (osl : Array (Option Value)),
    K.lookup f = some ⟨oc, od, .func (PySem.W.fnOf m qual (defArgs st) (defBody st) (defScope st) .none kV doc pm an cdv ct), osl⟩ ∧ PySem.W.codeIn K cdv qual = true
  me : L2.Meth K C m f
section
variable {P : Program} {w : World} {K : PySem.W.Frag} {mg : Str → Option Value} {base : Heap} {k : Nat} {G : List Fn} {fu : Nat} {kp : Nat → Bool} {b : CB} {m qual : Str} {st : Stmt} {C f : Addr} {N ps : List Str}
theorem defMm (hk : kp 0 = true) (T : BkTxt K C) (D : DefM K m qual st C f) (hs : scopeB N ps (defScope st) = true) (hbi : bindsB st ps) (h : ∀ (W : WX) (X : Cx), Ctx P w K mg base k true N (defScope st) X → Takes X W → PSs X (defBody st) (tB K W G fu kp b)) : MethOk P w K mg base (k + 1) m (.mut (runM G fu N.length ps.length b)) := by
  obtain ⟨⟨oc, od, kV, doc, pm, an, cdv, ct, osl, lk, hcd⟩, me⟩ := D
  have S := scopeB_is hs
  have F := funM (P := P) (w := w) (mg := mg) (base := base) hk lk hcd S (body_ok S.nd S.kind h)
  have hb : L2.Binds K _ ps [] := .all fun us hl => hbi m qual kV doc pm an cdv ct us hl
  exact ⟨C, f, T, me, fun X a b' c d e hr hg => by subst a b' c d e; exact F.runs hr hg hb⟩
theorem defMx (hk : kp 0 = true) (T : BkTxt K C) (D : DefM K m qual st C f) (hs : scopeB N ps (defScope st) = true) (hbi : bindsB st ps) (h : ∀ (W : WX) (X : Cx), Ctx P w K mg base k true N (defScope st) X → Takes X W → PSs X (defBody st) (tB K W G fu kp b)) : MethXOk P w K mg base (k + 1) m (runR G fu N.length ps.length b) := by
  obtain ⟨⟨oc, od, kV, doc, pm, an, cdv, ct, osl, lk, hcd⟩, me⟩ := D
  have S := scopeB_is hs
  have F := funR (P := P) (w := w) (mg := mg) (base := base) hk lk hcd S (body_ok S.nd S.kind h)
  have hb : L2.Binds K _ ps [] := .all fun us hl => hbi m qual kV doc pm an cdv ct us hl
  exact ⟨C, f, T, me, fun X W a b' c d e hr hg tk => by subst a b' c d e; exact F.runsX hr hg hb tk⟩
/-- a book made -/
def mkBook (fP : List PyData → Option PyData) (fK : List PyData → Option (Except Exn PyData)) : List PyData → Option Sl
  | [pl, kd] => (bookI fP fK pl kd).bind fun r => match r with
    | .ok sl => some sl
    | .error _ => none
  | _ => none
theorem defBook {fP : List PyData → Option PyData} {fK : List PyData → Option (Except Exn PyData)} (T : BkTxt K C) (D : DefM K "__init__" qual st C f) (hm : mg "Book" = some (.ref C)) (mk : PySem.W.makesIn K C = true) (kc : PySem.W.keepIn K (.ref C) = true) (hs : scopeB ["self", "places", "kind"] ["self", "places", "kind"] (defScope st) = true) (hbi : bindsB st ["self", "places", "kind"])
    (h : ∀ (W : WX) (X : Cx), Ctx P w K mg base k true ["self", "places", "kind"] (defScope st) X → Takes X W → PSs X (defBody st) (tIni K W [.pur fP, .rai fK] fu)) : CallOk P w K mg base (k + 2) "Book" (.mak (mkBook fP fK)) := by
  obtain ⟨⟨oc, od, kV, doc, pm, an, cdv, ct, osl, lk, hcd⟩, me⟩ := D
  have S := scopeB_is hs
  have hb : L2.Binds K _ ["self", "places", "kind"] [] := .all fun us hl => hbi "__init__" qual kV doc pm an cdv ct us hl
  have F : FnC P w K mg base (L2.CX P w) (k + 1) f _ ["self", "places", "kind"] (spI K C fP fK) := fnC_of lk hcd S (fun vs H Q E h => by
      obtain ⟨Hf, p, dx, vpl, vkd, pl, kd, r, rfl, _⟩ := h
      rfl) fun A outer s H vs Q E hr hg hsp => ⟨_, h (fun cls d _ H => E cls d H) _ ⟨rfl, rfl, rfl, rfl, rfl, rfl, S.nd, rfl, rfl, hr, hg, fun _ _ => rfl, passes_of rfl, S.kind⟩ (takes_of rfl rfl rfl rfl), by
      obtain ⟨Hf, p, dx, vpl, vkd, pl, kd, r, rfl, hp, hx, np, nx, ex, d1, d2, e, qe, q⟩ := hsp
      exact ini_reads T hp hx np nx ex d1 d2 e (fun c cls d Hf' H' _ er ex' fo x => qe c cls d Hf' H' er ex' fo x) fun sl Hf' H' fp _ er ex' fo ow hn => q sl Hf' H' fp er ex' fo ow hn⟩
  refine ⟨C, hm, kc, fun X a b' c d e hr hg => ?_⟩
  subst a b' c d e
  intro pins σ H s us vs Q I r hsp
  obtain ⟨Hf, ds, sl, ex, hd, e, ne, q⟩ := hsp
  match ds, hd, e with
  | [pl, kd], hd, e =>
    obtain ⟨r0, e1, e2⟩ := Option.bind_eq_some_iff.mp (show ((bookI fP fK pl kd).bind fun r => match r with | .ok sl => some sl | .error _ => none) = some sl from e)
    cases r0 with
    | error c => cases e2
    | ok sl0 =>
      cases e2
      cases hd with
      | cons v1 hd =>
        cases hd with
        | cons v2 hd =>
          cases hd
          refine run_makeC ⟨mk, me.at_, me.fn, kc⟩ F hr hg hb (E := fun _ _ _ => False) (fun _ _ _ _ _ _ _ ⟨_, _, _, _, _, _, _, _, _, _, _, _, z⟩ => z.elim) I r fun x dx hx hdx hne => ?_
          have nx := Evl.fresh_back ex hx
          have ndx := Evl.fresh_back ex hdx
          refine ⟨Hf, x, dx, _, _, pl, kd, .ok sl, rfl, upd_same, by rw [upd_ne hne, upd_same], nx, ndx, fun a o q => ?_, v1, v2, e1, (fun c cls d Hf' H' er => nomatch er), fun sl' Hf' H' fp er ex' fo ow hn => ⟨rfl, ?_⟩⟩
          · have h1 : a ≠ x := fun z => by rw [z, nx] at q; cases q
            have h2 : a ≠ dx := fun z => by rw [z, ndx] at q; cases q
            rw [upd_ne h1, upd_ne h2]; exact ex a o q
          · cases er
            have low : ∀ a, H a = none ∨ (a ≠ x ∧ a ≠ dx) := fun a => by
              by_cases h1 : a = x
              · exact .inl (by rw [h1]; exact hx)
              · by_cases h2 : a = dx
                · exact .inl (by rw [h2]; exact hdx)
                · exact .inr ⟨h1, h2⟩
            have up : ∀ a, a ≠ x → a ≠ dx → upd (upd H dx (.own x)) x (.ins C dx []) a = H a := fun a h1 h2 => by rw [upd_ne h1, upd_ne h2]
            refine q (.ref x) Hf' H' fp ex' ⟨fo.1, fun a o h1 h2 _ => ?_, fun a o h1 => ?_⟩ ow fun a ha => ⟨?_, (hn a ha).1⟩
            · rcases low a with z | ⟨z1, z2⟩
              · rw [h1] at z; cases z
              · exact fo.2.1 a o (by rw [up a z1 z2]; exact h1) h2 (by simp [z1, z2])
            · rcases low a with z | ⟨z1, z2⟩
              · rw [h1] at z; cases z
              · exact fo.2.2 a o (by rw [up a z1 z2]; exact h1)
            · rcases low a with z | ⟨z1, z2⟩
              · exact z
              · rcases (hn a ha).2 with z | z
                · simp [z1, z2] at z
                · rw [up a z1 z2] at z; exact z
end
end Cor
set_option Elab.async false
set_option linter.all false
set_option maxRecDepth 100000
set_option maxHeartbeats 4000000
/-! Core 9c: a raising method within try; the laws' defs that catch. -/
namespace Cor
open PySem PySem.Spec PyProof.Rows L2
open Evl (Ex ex_l ex_t)
def tMeX (C : Addr) (m : Str) (sp : Sp) (W : WX) (ta : TE) (t : TA) : TE := fun σ H Q => ta σ H fun x H1 => ∃ a dx fs, x = .ref a ∧ H1 a = some (.ins C dx fs) ∧ fs.lookup m = none ∧ t σ H1 fun vs H2 => sp (x :: vs) H2 Q (WE W σ)
section
variable {X : Cx} {G : List Fn} {pos apos p : Pos} {ea eb : Expr} {es : List Expr} {m x : Str} {sp : Sp} {t : TA} {ta : TE} {W : WX}
theorem pe_methX {C f : Addr} {pl : Sem Bool} (he : PE X eb ta) (c : L2.Cls X.K C) (hm : L2.Meth X.K C m f) (R : RunsX X f sp W) (ha : PA X (ea :: es) t) (hst : starEach (ea :: es) X.env = (false, eval ea X.env) :: starEach es X.env) (hpl : (backTo pos (starEach es X.env)).any (·.1) = false)
    (ht : eval (.Call (.Attribute eb m apos) (ea :: es) [] pos) X.env = (do
      let ov ← eval eb X.env
      standAt apos.atName
      let (f, first) ← holding [ov] (getMethod ov m pl)
      callWith pos f first (backTo pos (starEach (ea :: es) X.env)) (backToKw pos (keywordEach [] X.env)))) : PE X (.Call (.Attribute eb m apos) (ea :: es) [] pos) (tMeX C m sp W ta t) := by
  refine ⟨fun pins s σ H Q I h => ?_⟩
  refine PySem.W.methodCall_KW (pl := pl) (thn (he.run pins s σ H _ I h) fun u s1 ⟨x, H1, I1, rx, a, dx, fs, ex, ea', l, q⟩ => ?_) ht
  subst ex
  obtain rfl : u = Value.ref a := rx
  refine getmeth_ok I1 ea' c hm l ?_
  refine PySem.W.callWith_K (first := [.ref a]) (h₀ := X.base) I.ok.mod.kin hm.kp (thn (ha.run pos pins s1 σ H1 _ I1 q) fun us s2 ⟨vs, H2, I2, r, q2⟩ => ⟨I2.kIn, ?_⟩) hst hpl
  exact R pins σ H2 s2 (.ref a :: us) (.ref a :: vs) Q I2 (.cons rfl r) q2
end
section
variable {K : PySem.W.Frag} {G : List Fn} {C : Addr} {m : Str} {W : WX}
theorem meX_of (T : BkTxt K C) (hm : (bkN ++ [("past" : Str)]).all (fun f => !(m == f)) = true) {doF : Sl → List PyData → Option (Except Exn PyData × Sl)} {c : CA} {i : Nat} {Hf : Hp} {fps : Fps} {σ : L2.St} {H : Hp} {ρ ρ1 : Rho} {fs past ds : List PyData} {sl sl' : Sl} {r : Except Exn PyData} {Q : VK}
    (S : SR K Hf fps σ H ρ) (h0 : ρ[i]? = some (.bk fs past)) (e1 : evF G c ρ = some (ds, ρ1)) (e2 : ρ1[i]? = some sl) (e3 : doF sl ds = some (r, sl')) (ne : sl ≠ .emp) (ne' : sl' ≠ .emp)
    (ok : ∀ d v Hf' fps' H', r = .ok d → Go Hf fps H Hf' fps' H' → SR K Hf' fps' σ H' (ρ1.set i sl') → Dq K Hf' v d → Q v H')
    (er : ∀ cc cls dd Hf' fps' H', r = .error cc → Go Hf fps H Hf' fps' H' → SR K Hf' fps' σ H' (ρ1.set i sl') → ExAt K Hf' H' cc cls dd → W cls dd σ H') : tMeX C m (spR K doF) W (tVar i) (tF K G c) σ H Q := by
  obtain ⟨v', h1, C', p, q', dx, vs, xs, rfl, hf, hC, hp, hq, hx, hl, hd, hd2⟩ := S.here i _ h0 (fun z => nomatch z)
  cases hC.inj T.is
  refine ⟨_, h1, p, dx, _, rfl, hp, bk_meth hl hm, Hf, fps, ρ, ds, _, S, e1, fun Hf2 fps2 H2 ws g2 S2 d2 => ?_⟩
  obtain ⟨v2, hv2, ow⟩ := S2.here i sl e2 ne
  rw [h1] at hv2
  cases hv2
  refine ⟨Hf2, fps2 i, .ref p, ws, sl, ds, r, sl', S2.ex, rfl, ow, fun a ha => S2.nof i a ha, ne, ne', d2, e3, fun d w Hf' H' fp' er' ex' fo ow' hn dq => ?_, fun cc cls dd Hf' H' fp' er' ex' fo ow' hn xa => ?_⟩
  · obtain ⟨S3, g3⟩ := S2.afterM (lt_of_get e2) h1 fo ex' ow' ne' hn
    exact ok d w Hf' _ H' er' (g2.trans g3) S3 dq
  · obtain ⟨S3, g3⟩ := S2.afterM (lt_of_get e2) h1 fo ex' ow' ne' hn
    exact er cc cls dd Hf' _ H' er' (g2.trans g3) S3 xa
/-- def f(book, deed): try: book.do(deed) / except E as e: return e.fld / return last -/
def barF (doF : Sl → List PyData → Option (Except Exn PyData × Sl)) (cls fld : Str) (last : PyData) (sl : Sl) (ds : List PyData) : Option (PyData × Sl) := match sl, ds with
  | .bk fs past, [deed] => (doF (.bk fs past) [deed]).bind fun p => if noEmp p.2 then match p.1 with
    | .ok _ => some (last, p.2)
    | .error c => if c.cls = cls ∧ c.fld = fld then some (c.val, p.2) else none
    else none
  | _, _ => none
/-- one clause more, ahead: except E2 as e: return a value that hangs on e.fld2 -/
def indF (doF : Sl → List PyData → Option (Except Exn PyData × Sl)) (c1 f1 c2 : Str) (sl : Sl) (ds : List PyData) : Option (PyData × Sl) := match sl, ds with
  | .bk fs past, [deed] => (doF (.bk fs past) [deed]).bind fun p => if noEmp p.2 then match p.1 with
    | .ok _ => some (.none, p.2)
    | .error c => if c.cls = c1 ∧ c.fld = f1 then some (c.val, p.2) else if c.cls = c2 then some (.none, p.2) else none
    else none
  | _, _ => none
def tBar (K : PySem.W.Frag) (C : Addr) (m : Str) (doF : Sl → List PyData → Option (Except Exn PyData × Sl)) (CB : Addr) (fld : Str) (last : V) : TS :=
  tSeq (fun D σ H => (fun W => tDrop (tMeX C m (spR K doF) W (tVar 0) (tF K [] (.cons false (.var 1) .nil)))) (wMix K (fun _ _ _ _ => False) D [(.ref CB, some 2, fun a cls d => tRet (tExF CB fld a cls d (tVar 2)))]) D σ H) (tRet (tC last))
theorem bar_reads (T : BkTxt K C)  (hm : (bkN ++ [("past" : Str)]).all (fun f => !(m == f)) = true) {doF : Sl → List PyData → Option (Except Exn PyData × Sl)} {CB : Addr} {cls fld : Str} {last : V} {lastD : PyData} (hl : ∀ Hf, Dq K Hf last lastD) (hfl : ¬ fld = "") (hCB : PySem.W.nsIn K mainGlobals cls = some (some (.ref CB))) (hex : PySem.W.exmOne K (.ref CB) (.ref CB) = some true)
    {vs : List V} {H : Hp} {Q : VK} {E : XK} (h : spM K (barF doF cls fld lastD) vs H Q E) : tBar K C m doF CB fld last { nx := fun _ H' => Q .non H', rt := Q } (L2.start ["book", "deed", "e"] vs) H := by
  obtain ⟨Hf, fp, v0, vr, sl, ds, d, sl', ex, rfl, ow, hn, ne, ne', hd, e, q⟩ := h
  cases sl with
  | emp => cases e
  | val _ => cases e
  | lst _ => cases e
  | dct _ => cases e
  | bk fs past =>
    match ds, hd, e with
    | [deed], hd, e =>
      obtain ⟨⟨r, sl2⟩, e1, e⟩ := Option.bind_eq_some_iff.mp (show ((doF (.bk fs past) [deed]).bind fun p => if noEmp p.2 = true then (match p.1 with
        | .ok _ => some (lastD, p.2)
        | .error c => if c.cls = cls ∧ c.fld = fld then some (c.val, p.2) else none) else none) = some (d, sl') from e)
      dsimp only at e
      split at e
      · rename_i hne
        have S0 : SR K Hf (fun i => if i = 0 then fp else []) (L2.start (["book", "deed", "e"] : List Str) (v0 :: vr)) H (entR 3 (.bk fs past :: [deed].map .val)) := start_own (N := ["book", "deed", "e"]) ex ow hn hd
        have e0 : evF [] (.cons false (.var 1) .nil) (entR 3 (.bk fs past :: [deed].map .val)) = some ([deed], entR 3 (.bk fs past :: [deed].map .val)) := rfl
        have fin : ∀ {Hf' H' : Hp} {fps' : Fps}, Go Hf (fun i => if i = 0 then fp else []) H Hf' fps' H' → SR K Hf' fps' (L2.start (["book", "deed", "e"] : List Str) (v0 :: vr)) H' ((entR 3 (.bk fs past :: [deed].map .val)).set 0 sl2) → sl2 = sl' → ∀ v, Dq K Hf' v d → Q v H' := fun {Hf' H' fps'} g S' es v dq => by
          subst es
          obtain ⟨fp', f1, f2, f3⟩ := end_own (kp := fun i => i == 0) rfl ex hn (noEmp_ne hne) g S' .refl rfl
          exact q v Hf' H' fp' S'.ex f1 f2 f3 dq
        refine meX_of T hm S0 rfl e0 rfl e1 (fun z => nomatch z) (noEmp_ne hne) (fun d0 v Hf' fps' H' er g S' dq => ?_) (fun cc ccls dd Hf' fps' H' er g S' xa => ?_)
        · subst er
          cases e
          exact fin g S' rfl last (hl Hf')
        · subst er
          dsimp only at e
          split at e
          · rename_i hc
            cases e
            obtain ⟨C', rfl, hns, hx⟩ := xa
            obtain ⟨da, v, rfl, hxd, dv⟩ := ex_fld hx (by rw [hc.2]; exact hfl)
            rw [hc.1, hCB] at hns
            cases hns
            rw [hc.2] at hxd
            refine ⟨true, hex, fun _ a ha => ⟨.ref a, ?_, rfl, rfl, da, v, rfl, hxd, fin g S' rfl v dv⟩, fun z => Bool.noConfusion z⟩
            have hlen : (L2.start (["book", "deed", "e"] : List Str) (v0 :: vr)).length = 3 := by
              have := S'.len
              rw [this, List.length_set]; rfl
            exact List.getElem?_set_self (by rw [hlen]; decide)
          · cases e
      · cases e
def rIsG (K : PySem.W.Frag) (cls : Value) (d : Option Addr) (a : Addr) : List V → Hp → VK → Prop := fun xs H Q => ∃ (D dd : Addr) (f : Str) (c : Addr) (v : V) (b : Bool), cls = .ref D ∧ d = some dd ∧ ExcC K D ∧ xs = [.ref a, .ref c] ∧ H dd = some (.xd [(f, v)]) ∧ PySem.W.kitOne K (.ref D) (.ref c) = some b ∧ Q (.bl b) H
theorem call_isG {X : Cx} {a : Addr} {cls : Value} {d : Option Addr} {oe : Obj} {pn : List (Addr × Obj)} (hz : Zc cls d oe) (hf : ∃ vs, oe.data = .fields vs) : CallR (X.suite a ((a, oe) :: pn)) (.builtin "isinstance") (rIsG X.K cls d a) := by
  intro pins s σ H xs us Q I r h
  obtain ⟨D, dd, f, c, v, b, rfl, rfl, C, rfl, ea, e, q⟩ := h
  exact call_isF (f := f) C hz hf pins s σ H _ us Q I r ⟨c, v, b, rfl, ea, e, q⟩
def tSui (K : PySem.W.Frag) (CI CW : Addr) (fld : Str) (a : Addr) (cls : Value) (d : Option Addr) : TS :=
  tRet (tIf (fun σ H Q => tCB (rIsG K cls d a) (tCons (tVar 2) (tCons (tC (.ref CW)) tNil)) σ H fun x H' => ∃ k, TruV K x H' k ∧ Q k H') (tExF CI fld a cls d (tVar 2)) (tC (.str "odd")))
def tInd (K : PySem.W.Frag) (C : Addr) (m : Str) (doF : Sl → List PyData → Option (Except Exn PyData × Sl)) (CI CW CB : Addr) (fld : Str) : TS :=
  tSeq (fun D σ H => (fun W => tDrop (tMeX C m (spR K doF) W (tVar 0) (tF K [] (.cons false (.var 1) .nil)))) (wMix K (fun _ _ _ _ => False) D [(.ref CI, some 2, fun a cls d => tSui K CI CW fld a cls d), (.ref CB, none, fun _ _ _ => tRet (tC .non))]) D σ H) (tRet (tC .non))
theorem ind_reads (T : BkTxt K C) (hm : (bkN ++ [("past" : Str)]).all (fun f => !(m == f)) = true) {doF : Sl → List PyData → Option (Except Exn PyData × Sl)} {CI CW CB : Addr} {c1 f1 c2 : Str} (hfl : ¬ f1 = "") (hCI : PySem.W.nsIn K mainGlobals c1 = some (some (.ref CI))) (hCB : PySem.W.nsIn K mainGlobals c2 = some (some (.ref CB)))
    (xI : PySem.W.exmOne K (.ref CI) (.ref CI) = some true) (xBI : PySem.W.exmOne K (.ref CB) (.ref CI) = some false) (xB : PySem.W.exmOne K (.ref CB) (.ref CB) = some true) (EI : ExcC K CI) (kI : PySem.W.kitOne K (.ref CI) (.ref CW) = some true)
    {vs : List V} {H : Hp} {Q : VK} {E : XK} (h : spM K (indF doF c1 f1 c2) vs H Q E) : tInd K C m doF CI CW CB f1 { nx := fun _ H' => Q .non H', rt := Q } (L2.start ["book", "deed", "e"] vs) H := by
  obtain ⟨Hf, fp, v0, vr, sl, ds, d, sl', ex, rfl, ow, hn, ne, ne', hd, e, q⟩ := h
  cases sl with
  | emp => cases e
  | val _ => cases e
  | lst _ => cases e
  | dct _ => cases e
  | bk fs past =>
    match ds, hd, e with
    | [deed], hd, e =>
      obtain ⟨⟨r, sl2⟩, e1, e⟩ := Option.bind_eq_some_iff.mp (show ((doF (.bk fs past) [deed]).bind fun p => if noEmp p.2 = true then (match p.1 with
        | .ok _ => some (.none, p.2)
        | .error c => if c.cls = c1 ∧ c.fld = f1 then some (c.val, p.2) else if c.cls = c2 then some (.none, p.2) else none) else none) = some (d, sl') from e)
      dsimp only at e
      split at e
      · rename_i hne
        have S0 : SR K Hf (fun i => if i = 0 then fp else []) (L2.start (["book", "deed", "e"] : List Str) (v0 :: vr)) H (entR 3 (.bk fs past :: [deed].map .val)) := start_own (N := ["book", "deed", "e"]) ex ow hn hd
        have e0 : evF [] (.cons false (.var 1) .nil) (entR 3 (.bk fs past :: [deed].map .val)) = some ([deed], entR 3 (.bk fs past :: [deed].map .val)) := rfl
        have fin : ∀ {Hf' H' : Hp} {fps' : Fps}, Go Hf (fun i => if i = 0 then fp else []) H Hf' fps' H' → SR K Hf' fps' (L2.start (["book", "deed", "e"] : List Str) (v0 :: vr)) H' ((entR 3 (.bk fs past :: [deed].map .val)).set 0 sl2) → sl2 = sl' → ∀ v, Dq K Hf' v d → Q v H' := fun {Hf' H' fps'} g S' es v dq => by
          subst es
          obtain ⟨fp', f1, f2, f3⟩ := end_own (kp := fun i => i == 0) rfl ex hn (noEmp_ne hne) g S' .refl rfl
          exact q v Hf' H' fp' S'.ex f1 f2 f3 dq
        refine meX_of T hm S0 rfl e0 rfl e1 (fun z => nomatch z) (noEmp_ne hne) (fun d0 v Hf' fps' H' er g S' dq => ?_) (fun cc ccls dd Hf' fps' H' er g S' xa => ?_)
        · subst er
          cases e
          exact fin g S' rfl .non .non
        · subst er
          dsimp only at e
          have hlen : (L2.start (["book", "deed", "e"] : List Str) (v0 :: vr)).length = 3 := by
            have := S'.len
            rw [this, List.length_set]; rfl
          obtain ⟨C', rfl, hns, hx⟩ := xa
          split at e
          · rename_i hc
            cases e
            obtain ⟨da, v, rfl, hxd, dv⟩ := ex_fld hx (by rw [hc.2]; exact hfl)
            rw [hc.1, hCI] at hns
            cases hns
            rw [hc.2] at hxd
            refine ⟨true, xI, fun _ a ha => ?_, fun z => Bool.noConfusion z⟩
            have hs2 : ((L2.start (["book", "deed", "e"] : List Str) (v0 :: vr)).set 2 (some (V.ref a)))[2]? = some (some (V.ref a)) := List.getElem?_set_self (by rw [hlen]; decide)
            refine ⟨.ref a, hs2, CI, da, f1, CW, v, true, rfl, rfl, EI, rfl, hxd, kI, true, rfl, ?_⟩
            exact ⟨.ref a, hs2, rfl, rfl, da, v, rfl, hxd, fin g S' rfl v dv⟩
          · split at e
            · rename_i hc
              cases e
              rw [hc, hCB] at hns
              cases hns
              exact ⟨false, xBI, fun z => Bool.noConfusion z, fun _ => ⟨true, xB, fun _ a ha => fin g S' rfl .non .non, fun z => Bool.noConfusion z⟩⟩
            · cases e
      · cases e
end
end Cor
set_option Elab.async false
set_option linter.all false
set_option maxRecDepth 100000
set_option maxHeartbeats 4000000
/-! Core 9d: the bodies of the laws' catching defs. -/
namespace Cor
open PySem PySem.Spec PyProof.Rows L2
open Evl (Ex ex_l ex_t)
/-- the class that an except clause may name -/
def ClsOk (K : PySem.W.Frag) (mg : Str → Option Value) (x : Str) (C : Addr) : Prop := PySem.W.nsIn K mainGlobals x = some (some (.ref C)) ∧ mg x = some (.ref C)
section
variable {P : Program} {w : World} {K : PySem.W.Frag} {mg : Str → Option Value} {base : Heap} {k : Nat} {top : Bool} {N : List Str} {sc : Scope} {X : Cx} {G : List Fn}
variable (C : Ctx P w K mg base k top N sc X)
variable {pos p p2 p3 pt : Pos} {ea eb : Expr} {ca : CE}
include C
theorem z_sfld {f : Str} (ho : PE X eb (tVar 0)) (ha : PE X ea (tR K G ca)) (hs : swapsWith ea (some (.Attribute eb f pt)) pos.line X.env = pure false := by rfl) : PS X (.Assign [.Attribute eb f pt] ea pos) (sFld K (tVar 0) (tR K G ca) f) := by
  obtain ⟨rfl, rfl, rfl, rfl, rfl, rfl, _, rfl, _⟩ := C
  exact ps_fld ho ha hs
theorem names_ok {x : Str} {CB : Addr} (h : ClsOk K mg x CB) (hg : glB sc x = true) (hd : (x == ("__debug__" : Str)) = false) : Names X x (.ref CB) := by
  have hg' := w_gl C hg
  obtain ⟨rfl, rfl, rfl, rfl, rfl, rfl, _, rfl, _⟩ := C
  exact ⟨hg', hd, .inl h.2⟩
theorem sui_var (i : Nat) {x : Str} {a : Addr} {q : List (Addr × Obj)} (hN : N[i]? = some x) (hv : visB sc x = true) (hd : (x == ("__debug__" : Str)) = false) (hcd : (x == ("__classdict__" : Str)) = false) : PE (X.suite a q) (.Name x pos) (tVar i) := by
  obtain ⟨rfl, rfl, rfl, rfl, rfl, rfl, _, rfl, _⟩ := C
  exact pe_var (X := X.suite a q) hN (visB_is hv) hd hcd
theorem sui_fld {CB : Addr} {f e : Str} (E : ErrRd K CB f) (hN : N[2]? = some e) (hv : visB sc e = true) (hd : (e == ("__debug__" : Str)) = false) (hcd : (e == ("__classdict__" : Str)) = false) (a : Addr) (oe : Obj) (cls : Value) (d : Option Addr) (pn : List (Addr × Obj)) (hz : Zc cls d oe) (hf : ∃ vs, oe.data = .fields vs) :
    PSs (X.suite a ((a, oe) :: pn)) [.Return (some (.Attribute (.Name e p) f p2)) p3] (tRet (tExF CB f a cls d (tVar 2))) := by
  have hx := sui_var C (pos := p) (a := a) (q := (a, oe) :: pn) 2 hN hv hd hcd
  obtain ⟨rfl, rfl, rfl, rfl, rfl, rfl, _, rfl, _⟩ := C
  exact pss_one (ps_ret (pe_exF E hz hf hx rfl))
theorem sui_non (a : Addr) (oe : Obj) (cls : Value) (d : Option Addr) (pn : List (Addr × Obj)) (hz : Zc cls d oe) (hf : ∃ vs, oe.data = .fields vs) {j : Nat} : PSs (X.suite a ((a, oe) :: pn)) [.Return (some (.Constant .none j p2)) p3] (tRet (tC .non)) := pss_one (ps_ret pe_non)
theorem sui_ind {CI CW : Addr} {f e wn : Str} (B : Blts mg) (E : ErrRd K CI f) (HW : ClsOk K mg wn CW) (hN : N[2]? = some e) (hv : visB sc e = true) (hd : (e == ("__debug__" : Str)) = false) (hcd : (e == ("__classdict__" : Str)) = false) (hg : glB sc "isinstance" = true) (hgw : glB sc wn = true) (hdw : (wn == ("__debug__" : Str)) = false)
    {p4 p5 p6 p7 p8 p9 : Pos} {j : Nat} (a : Addr) (oe : Obj) (cls : Value) (d : Option Addr) (pn : List (Addr × Obj)) (hz : Zc cls d oe) (hf : ∃ vs, oe.data = .fields vs) :
    PSs (X.suite a ((a, oe) :: pn)) [.Return (some (.IfExp (.Call (.Name "isinstance" p4) [.Name e p5, .Name wn p6] [] p7) (.Attribute (.Name e p) f p2) (.Constant (.str "odd") j p8) p9)) p3] (tSui K CI CW f a cls d) := by
  have hx := sui_var C (pos := p) (a := a) (q := (a, oe) :: pn) 2 hN hv hd hcd
  have hx2 := sui_var C (pos := p5) (a := a) (q := (a, oe) :: pn) 2 hN hv hd hcd
  have hg' := w_gl C hg
  have hgw' := w_gl C hgw
  obtain ⟨rfl, rfl, rfl, rfl, rfl, rfl, _, rfl, _⟩ := C
  have hg2 : Gl (X.suite a ((a, oe) :: pn)) "isinstance" := hg'
  have hw2 : Gl (X.suite a ((a, oe) :: pn)) wn := hgw'
  have hb : PE (X.suite a ((a, oe) :: pn)) (.Name wn p6) (tC (.ref CW)) := pe_glob (X := X.suite a ((a, oe) :: pn)) hw2 HW.2 rfl hdw
  exact pss_one (ps_ret (pe_ifExp (pt_truth (pe_callB (call_isG hz hf) hg2 (B _ (by decide +kernel)) rfl (pa_cons hx2 (pa_cons hb pa_nil rfl) rfl) (by decide) (by decide) rfl rfl) (by intro _; rfl)) (pe_exF E hz hf hx rfl) pe_str))
theorem try_do {W : WX} {pn : List (Addr × Obj)} {xe : Value → Shared → Prop} {BC : Addr} {b dn m : Str} {doF : Sl → List PyData → Option (Except Exn PyData × Sl)} (H : MethXOk P w K mg base k m doF) (TB : BkTxt K BC) (tk : Takes (X.tr pn xe) W) (hN0 : N[0]? = some b) (hN1 : N[1]? = some dn) (hv0 : visB sc b = true) (hv1 : visB sc dn = true)
    (h0 : (b == ("__debug__" : Str)) = false) (h1 : (b == ("__classdict__" : Str)) = false) (h2 : (dn == ("__debug__" : Str)) = false) (h3 : (dn == ("__classdict__" : Str)) = false) {p4 p5 p6 : Pos} {pl : Sem Bool}
    (ht : eval (.Call (.Attribute (.Name b p) m p2) [.Name dn p3] [] p4) X.env = (do
      let ov ← eval (.Name b p) X.env
      standAt p2.atName
      let (f, first) ← holding [ov] (getMethod ov m pl)
      callWith p4 f first (backTo p4 (starEach [.Name dn p3] X.env)) (backToKw p4 (keywordEach [] X.env)))) :
    PSs (X.tr pn xe) [.Expr (.Call (.Attribute (.Name b p) m p2) [.Name dn p3] [] p4) p5] (tDrop (tMeX BC m (spR K doF) W (tVar 0) (tF K [] (.cons false (.var 1) .nil)))) := by
  obtain ⟨rfl, rfl, rfl, rfl, rfl, rfl, _, rfl, hc, hr, hgd, _⟩ := C
  obtain ⟨BC', f, T, M, F⟩ := H
  cases T.is.inj TB.is
  have ho : PE (X.tr pn xe) (.Name b p) (tVar 0) := pe_var (X := X.tr pn xe) hN0 (visB_is hv0) h0 h1
  have ha : PE (X.tr pn xe) (.Name dn p3) (tR X.K [] (.var 1)) := g_var (X := X.tr pn xe) hN1 (visB_is hv1) h2 h3
  exact pss_one (ps_expr (pe_methX (pl := pl) ho T.cl M (F (X.tr pn xe) W rfl rfl rfl rfl rfl hr hgd tk) (ga_cons ha ga_nil (nosB_is rfl)) rfl rfl ht) rfl)
end

theorem len_bar {K : PySem.W.Frag} {doF : Sl → List PyData → Option (Except Exn PyData × Sl)} {cls fld : Str} {lastD : PyData} {vs : List V} {H : Hp} {Q : VK} {E : XK} (h : spF K (.mut (barF doF cls fld lastD)) vs H Q E) : vs.length = 2 := by
  obtain ⟨Hf, fp, v0, vr, sl, ds, d, sl', ex, rfl, ow, hn, ne, ne', hd, e, q⟩ := h
  cases sl with
  | emp => cases e
  | val _ => cases e
  | lst _ => cases e
  | dct _ => cases e
  | bk fs past =>
    match ds, hd, e with
    | [deed], hd, _ => rw [List.length_cons, hd.length]; rfl
theorem len_ind {K : PySem.W.Frag} {doF : Sl → List PyData → Option (Except Exn PyData × Sl)} {c1 f1 c2 : Str} {vs : List V} {H : Hp} {Q : VK} {E : XK} (h : spF K (.mut (indF doF c1 f1 c2)) vs H Q E) : vs.length = 2 := by
  obtain ⟨Hf, fp, v0, vr, sl, ds, d, sl', ex, rfl, ow, hn, ne, ne', hd, e, q⟩ := h
  cases sl with
  | emp => cases e
  | val _ => cases e
  | lst _ => cases e
  | dct _ => cases e
  | bk fs past =>
    match ds, hd, e with
    | [deed], hd, _ => rw [List.length_cons, hd.length]; rfl
section
variable {P : Program} {w : World} {K : PySem.W.Frag} {mg : Str → Option Value} {base : Heap} {k : Nat} {x qual : Str} {st : Stmt} {f BC : Addr} {m : Str} {doF : Sl → List PyData → Option (Except Exn PyData × Sl)}
/-- try: book.do(deed) / except E as e: return e.fld / return last -/
theorem defBar (T : BkTxt K BC) (D : Def K mg x qual st f .none) (hs : scopeB ["book", "deed", "e"] ["book", "deed"] (defScope st) = true) (hbi : bindsB st ["book", "deed"]) {CB : Addr} {cls fld : Str} {last : V} {lastD : PyData} (hl : ∀ Hf, Dq K Hf last lastD) (hCB : ClsOk K mg cls CB) (hex : PySem.W.exmOne K (.ref CB) (.ref CB) = some true)
    (hm : (bkN ++ [("past" : Str)]).all (fun f => !(m == f)) = true) (hb : ∀ X : Cx, Ctx P w K mg base k true ["book", "deed", "e"] (defScope st) X → X.stack = X.env :: X.outer → X.env.frame = some X.env.locals → Takes X (fun _ _ _ _ => False) → PSs X (defBody st) (tBar K BC m doF CB fld last)) (hfl : ¬ fld = "" := by decide +kernel) :
    CallOk P w K mg base (k + 1) x (.mut (barF doF cls fld lastD)) := by
  obtain ⟨⟨oc, od, kV, doc, pm, an, cdv, ct, osl, lk, hcd⟩, hkp, hgl⟩ := D
  have S := scopeB_is hs
  have F : FnC P w K mg base CX0 (k + 1) f _ ["book", "deed"] (spF K (.mut (barF doF cls fld lastD))) := fnC_of lk hcd S (fun _ _ _ _ h => len_bar (doF := doF) h) fun A outer s H vs Q E hr hg hsp => ⟨_, PSs.nox (hb _ ⟨rfl, rfl, rfl, rfl, rfl, rfl, S.nd, rfl, rfl, hr, hg, fun _ _ => rfl, PassesOwn.never, S.kind⟩ rfl rfl fun u s' ⟨_, _, _, _, _, _, _, _, _, _, _, _, _, _, _, _, z⟩ => z), bar_reads (E := E) T hm hl hfl hCB.1 hex hsp⟩
  exact .of F hgl hkp (.all fun us hl => hbi x qual kV doc pm an cdv ct us hl)
theorem defInd (T : BkTxt K BC) (D : Def K mg x qual st f .none) (hs : scopeB ["book", "deed", "e"] ["book", "deed"] (defScope st) = true) (hbi : bindsB st ["book", "deed"]) {CI CW CB : Addr} {c1 f1 c2 : Str} (hCI : ClsOk K mg c1 CI) (hCB : ClsOk K mg c2 CB)
    (xI : PySem.W.exmOne K (.ref CI) (.ref CI) = some true) (xBI : PySem.W.exmOne K (.ref CB) (.ref CI) = some false) (xB : PySem.W.exmOne K (.ref CB) (.ref CB) = some true) (EI : ExcC K CI) (kI : PySem.W.kitOne K (.ref CI) (.ref CW) = some true)
    (hm : (bkN ++ [("past" : Str)]).all (fun f => !(m == f)) = true) (hb : ∀ X : Cx, Ctx P w K mg base k true ["book", "deed", "e"] (defScope st) X → X.stack = X.env :: X.outer → X.env.frame = some X.env.locals → Takes X (fun _ _ _ _ => False) → PSs X (defBody st) (tInd K BC m doF CI CW CB f1)) (hfl : ¬ f1 = "" := by decide +kernel) :
    CallOk P w K mg base (k + 1) x (.mut (indF doF c1 f1 c2)) := by
  obtain ⟨⟨oc, od, kV, doc, pm, an, cdv, ct, osl, lk, hcd⟩, hkp, hgl⟩ := D
  have S := scopeB_is hs
  have F : FnC P w K mg base CX0 (k + 1) f _ ["book", "deed"] (spF K (.mut (indF doF c1 f1 c2))) := fnC_of lk hcd S (fun _ _ _ _ h => len_ind (doF := doF) h) fun A outer s H vs Q E hr hg hsp => ⟨_, PSs.nox (hb _ ⟨rfl, rfl, rfl, rfl, rfl, rfl, S.nd, rfl, rfl, hr, hg, fun _ _ => rfl, PassesOwn.never, S.kind⟩ rfl rfl fun u s' ⟨_, _, _, _, _, _, _, _, _, _, _, _, _, _, _, _, z⟩ => z), ind_reads (E := E) T hm hfl hCI.1 hCB.1 xI xBI xB EI kI hsp⟩
  exact .of F hgl hkp (.all fun us hl => hbi x qual kV doc pm an cdv ct us hl)
end
end Cor
set_option Elab.async false
set_option linter.all false
set_option maxRecDepth 100000
set_option maxHeartbeats 4000000
/-! Core 9e: the texts of the catching defs and of __init__. -/
namespace Cor
open PySem PySem.Spec PyProof.Rows L2
open Evl (Ex ex_l ex_t)
section
variable {P : Program} {w : World} {K : PySem.W.Frag} {mg : Str → Option Value} {base : Heap} {k : Nat} {sc : Scope} {X : Cx}
variable (C : Ctx P w K mg base k true ["book", "deed", "e"] sc X)
include C
theorem body_bar {BC CB : Addr} {m cls fld z : Str} {doF : Sl → List PyData → Option (Except Exn PyData × Sl)} (H : MethXOk P w K mg base k m doF) (TB : BkTxt K BC) (hCB : ClsOk K mg cls CB) (E : ErrRd K CB fld) (hst : X.stack = X.env :: X.outer) (hfr : X.env.frame = some X.env.locals) (tk : Takes X (fun _ _ _ _ => False))
    {p p2 p3 p4 p5 np hp pos q q2 r r2 r3 : Pos} {j : Nat} {pl : Sem Bool}
    (ht : eval (.Call (.Attribute (.Name "book" p) m p2) [.Name "deed" p3] [] p4) X.env = (do
      let ov ← eval (.Name "book" p) X.env
      standAt p2.atName
      let (f, first) ← holding [ov] (getMethod ov m pl)
      callWith p4 f first (backTo p4 (starEach [.Name "deed" p3] X.env)) (backToKw p4 (keywordEach [] X.env))) := by rfl)
    (hv : (visB sc "book" && visB sc "deed" && visB sc "e" && locB sc "e" && glB sc cls && !(cls == ("__debug__" : Str))) = true := by decide +kernel) :
    PSs X [.Try [.Expr (.Call (.Attribute (.Name "book" p) m p2) [.Name "deed" p3] [] p4) p5] [.ExceptHandler (some (.Name cls np)) (some "e") [.Return (some (.Attribute (.Name "e" r) fld r2)) r3] hp] [] [] pos, .Return (some (.Constant (.str z) j q)) q2] (tBar K BC m doF CB fld (.str z)) := by
  simp only [Bool.and_eq_true, Bool.not_eq_true'] at hv
  obtain ⟨⟨⟨⟨⟨v1, v2⟩, v3⟩, l3⟩, g⟩, d⟩ := hv
  have nn := names_ok C hCB g d
  have nd := C.nd
  have sui := fun a oe cls' d' pn hz hf => sui_fld C (p := r) (p2 := r2) (p3 := r3) E (e := "e") rfl v3 (by decide +kernel) (by decide +kernel) a oe cls' d' pn hz hf
  have td := fun W pn xe tkW => try_do C (W := W) (pn := pn) (xe := xe) (BC := BC) (dn := "deed") (p5 := p5) (p6 := p5) H TB tkW rfl rfl v1 v2 (by decide +kernel) (by decide +kernel) (by decide +kernel) (by decide +kernel) ht
  obtain ⟨rfl, rfl, rfl, rfl, rfl, hN, _, rfl, _⟩ := C
  exact pss_cons (ps_try_mix (l := [(.ref CB, some 2, fun a cls d => tRet (tExF CB fld a cls d (tVar 2)))]) hst hfr (by rw [hN]; exact nd) tk (fun W pn xe tkW _ => td W pn xe tkW) (.named (by rw [hN]; rfl) (of_decide_eq_true l3) nn sui .nil)) (pss_one (ps_ret pe_str))
theorem body_ind {BC CI CW CB : Addr} {m c1 f1 c2 wn : Str} {doF : Sl → List PyData → Option (Except Exn PyData × Sl)} (B : Blts mg) (H : MethXOk P w K mg base k m doF) (TB : BkTxt K BC) (hCI : ClsOk K mg c1 CI) (hCB : ClsOk K mg c2 CB) (hCW : ClsOk K mg wn CW) (E : ErrRd K CI f1) (hst : X.stack = X.env :: X.outer) (hfr : X.env.frame = some X.env.locals) (tk : Takes X (fun _ _ _ _ => False))
    {p p2 p3 p4 p5 np np2 hp hp2 pos q q2 r r2 r3 s1 s2 s3 s4 s5 s6 s7 s8 : Pos} {j j2 j3 : Nat} {pl : Sem Bool}
    (ht : eval (.Call (.Attribute (.Name "book" p) m p2) [.Name "deed" p3] [] p4) X.env = (do
      let ov ← eval (.Name "book" p) X.env
      standAt p2.atName
      let (f, first) ← holding [ov] (getMethod ov m pl)
      callWith p4 f first (backTo p4 (starEach [.Name "deed" p3] X.env)) (backToKw p4 (keywordEach [] X.env))) := by rfl)
    (hv : (visB sc "book" && visB sc "deed" && visB sc "e" && locB sc "e" && glB sc c1 && !(c1 == ("__debug__" : Str)) && glB sc c2 && !(c2 == ("__debug__" : Str)) && glB sc wn && !(wn == ("__debug__" : Str)) && glB sc "isinstance") = true := by decide +kernel) :
    PSs X [.Try [.Expr (.Call (.Attribute (.Name "book" p) m p2) [.Name "deed" p3] [] p4) p5]
      [.ExceptHandler (some (.Name c1 np)) (some "e") [.Return (some (.IfExp (.Call (.Name "isinstance" s1) [.Name "e" s2, .Name wn s3] [] s4) (.Attribute (.Name "e" r) f1 r2) (.Constant (.str "odd") j s5) s6)) r3] hp,
       .ExceptHandler (some (.Name c2 np2)) none [.Return (some (.Constant .none j2 s7)) s8] hp2] [] [] pos, .Return (some (.Constant .none j3 q)) q2] (tInd K BC m doF CI CW CB f1) := by
  simp only [Bool.and_eq_true, Bool.not_eq_true'] at hv
  obtain ⟨⟨⟨⟨⟨⟨⟨⟨⟨⟨v1, v2⟩, v3⟩, l3⟩, g⟩, d⟩, g2⟩, d2⟩, g3⟩, d3⟩, g4⟩ := hv
  have nn := names_ok C hCI g d
  have nn2 := names_ok C hCB g2 d2
  have nd := C.nd
  have sui := fun a oe cls' d' pn hz hf => sui_ind C (p := r) (p2 := r2) (p3 := r3) (p4 := s1) (p5 := s2) (p6 := s3) (p7 := s4) (p8 := s5) (p9 := s6) (j := j) B E hCW (e := "e") rfl v3 (by decide +kernel) (by decide +kernel) g4 g3 d3 a oe cls' d' pn hz hf
  have td := fun W pn xe tkW => try_do C (W := W) (pn := pn) (xe := xe) (BC := BC) (dn := "deed") (p5 := p5) (p6 := p5) H TB tkW rfl rfl v1 v2 (by decide +kernel) (by decide +kernel) (by decide +kernel) (by decide +kernel) ht
  obtain ⟨rfl, rfl, rfl, rfl, rfl, hN, _, rfl, _⟩ := C
  exact pss_cons (ps_try_mix (l := [(.ref CI, some 2, fun a cls d => tSui X.K CI CW f1 a cls d), (.ref CB, none, fun _ _ _ => tRet (tC .non))]) hst hfr (by rw [hN]; exact nd) tk (fun W pn xe tkW _ => td W pn xe tkW)
    (.named (by rw [hN]; rfl) (of_decide_eq_true l3) nn sui (.plain nn2 (fun a oe cls d pn hz hf => pss_one (ps_ret pe_non)) .nil))) (pss_one (ps_ret pe_non))
end
end Cor
set_option Elab.async false
set_option linter.all false
set_option maxRecDepth 100000
set_option maxHeartbeats 4000000
/-! Core 9f: defs that may raise, where they do not; undo. -/
namespace Cor
open PySem PySem.Spec PyProof.Rows L2
open Evl (Ex ex_l ex_t)
def okX (f : List PyData → Option (Except Exn PyData)) (ds : List PyData) : Option PyData := match f ds with
  | some (.ok d) => some d
  | _ => none
def okR (f : Sl → List PyData → Option (Except Exn PyData × Sl)) (sl : Sl) (ds : List PyData) : Option (PyData × Sl) := match f sl ds with
  | some (.ok d, sl') => some (d, sl')
  | _ => none
theorem takesF {X : Cx} : Takes X (fun _ _ _ _ => False) := fun u s' ⟨_, _, _, _, _, _, _, _, _, _, _, _, _, _, _, _, z⟩ => z.elim
section
variable {P : Program} {w : World} {K : PySem.W.Frag} {mg : Str → Option Value} {base : Heap} {k : Nat}
theorem CallOk.of_x {x : Str} {f : List PyData → Option (Except Exn PyData)} (h : CallXOk P w K mg base k x f) : CallOk P w K mg base k x (.pur (okX f)) := by
  obtain ⟨a, h1, h2, F⟩ := h
  refine ⟨a, h1, h2, fun X e1 e2 e3 e4 e5 hr hg pins σ H s us vs Q I r hsp => ?_⟩
  refine F X (fun _ _ _ _ => False) e1 e2 e3 e4 e5 hr hg takesF pins σ H s us vs Q I r ?_
  obtain ⟨Hf, ds, d, ex, hd, e, q⟩ := hsp
  unfold okX at e
  split at e
  · rename_i d' e'
    cases e
    refine ⟨Hf, ds, _, ex, hd, e', fun d2 v Hf' H' er ex' fo dq => ?_, fun c cls d2 Hf' H' er => by cases er⟩
    cases er
    exact q v Hf' H' ex' fo dq
  · cases e
theorem MethOk.of_x {m : Str} {f : Sl → List PyData → Option (Except Exn PyData × Sl)} (h : MethXOk P w K mg base k m f) : MethOk P w K mg base k m (.mut (okR f)) := by
  obtain ⟨C, a, h1, h2, F⟩ := h
  refine ⟨C, a, h1, h2, fun X e1 e2 e3 e4 e5 hr hg pins σ H s us vs Q I r hsp => ?_⟩
  refine F X (fun _ _ _ _ => False) e1 e2 e3 e4 e5 hr hg takesF pins σ H s us vs Q I r ?_
  obtain ⟨Hf, fp, v0, vr, sl, ds, d, sl', ex, rfl, ow, hn, ne, ne', hd, e, q⟩ := hsp
  unfold okR at e
  split at e
  · rename_i d' sl2 e'
    cases e
    refine ⟨Hf, fp, v0, vr, sl, ds, _, _, ex, rfl, ow, hn, ne, ne', hd, e', fun d2 v Hf' H' fp' er ex' fo ow' hn' dq => ?_, fun c cls d2 Hf' H' fp' er => by cases er⟩
    cases er
    exact q v Hf' H' fp' ex' fo ow' hn' dq
  · cases e
end
/-! ### what an own error without a field is -/
structure Err0 (K : PySem.W.Frag) (mg : Str → Option Value) (x : Str) (C : Addr) : Prop where
  ns : PySem.W.nsIn K mainGlobals x = some (some (.ref C))
  mg : mg x = some (.ref C)
  ex : PySem.W.excIn K C He.veBase "ValueError.__new__" = true
  kp : PySem.W.keepIn K (.ref C) = true
  sb : PySem.W.subIn K (.ref C) (.type "BaseException") = some true
  ty : PySem.W.typeIn K (.ref C) = some (.type "type")
theorem pmk_own0 {X : Cx} {C : Addr} {x : Str} {p pos : Pos} (T : Err0 X.K X.mg x C) (hg : Gl X x) (hdb : (x == ("__debug__" : Str)) = false) : PMk X (.Call (.Name x p) [] [] pos) (fun _ H Q => Q (.ref C) none H) := by
  intro pins s σ H Q I h
  refine wpAny_Call_Name_kw (ld_glob I hg T.mg ?_ hdb)
  refine PySem.W.callWith_K0 I.kIn T.kp ?_
  show wpAny _ _ (call (.ref C) []) _ _ _
  obtain ⟨bm, N, nm, qn, bs, hdct, sn, sub, ab, col, dd, k0, k1, k2, k3, k5, mN, hC, hN, hni, Tl⟩ := exc_obj I.kIn T.ex
  refine wpAny_call_exc_subT PySem.F.excBase_ValueError Tl hC hN hni (fun h' e hm => ?_) (Nat.zero_le _)
  exact mk_of I hm (raises_own T.sb T.ty) h (I.hok.gone hm.new)
section
variable {P : Program} {w : World} {K : PySem.W.Frag} {mg : Str → Option Value} {base : Heap} {k : Nat} {top : Bool} {N : List Str} {sc : Scope} {X : Cx} {G : List Fn} {fu : Nat} {kp : Nat → Bool} {W : WX}
variable (C : Ctx P w K mg base k top N sc X)
variable {pos p pt apos cpos pf pg pl pos2 : Pos} {ea eb : Expr} {ca : CE} {es : List Expr} {c : CA}
include C
theorem z_rse0 {x : Str} {CE : Addr} (tk : Takes X W) (T : Err0 K mg x CE) (hg : glB sc x = true := by decide +kernel) (hd : (x == ("__debug__" : Str)) = false := by decide +kernel) :
    PS X (.Raise (some (.Call (.Name x p) [] [] pos)) none pos2) (tS K W G fu kp (.rse0 x)) := by
  have hg' := w_gl C hg
  obtain ⟨rfl, rfl, rfl, rfl, rfl, rfl, _, rfl, hc, hr, hgd, _⟩ := C
  refine PS.weak (ps_raise hc tk (pmk_own0 T hg' hd)) fun D σ H ⟨Hf, fps, ρ, o, S, e, q⟩ => ?_
  cases (show some (Out.ex ⟨x, "", .none⟩ ρ) = some o from e)
  exact q Hf fps σ H (.ref CE) none .refl S ⟨CE, rfl, T.ns, .inl ⟨rfl, rfl⟩⟩ .refl
theorem w_pemp {BC : Addr} (T : BkTxt K BC) (i : Nat) (ho : PE X eb (tVar i)) (hb : attributeBase eb "past" X.env (eval eb X.env) = eval eb X.env := by rfl) : PE X (.Compare (.Attribute eb "past" pf) [.Eq] [.List [] pl] pos) (tR K G (.pemp i)) := by
  obtain ⟨rfl, rfl, rfl, rfl, rfl, rfl, _, rfl, hc, hr, hgd, _⟩ := C
  refine PE.weak (pe_cmpR (op_eqS (by have := Room.hu hr; omega)) (pe_fld ho hb) (pe_lst pa_nil) rfl) fun σ H Q ⟨Hf, fps, ρ, a, ρ', S, ee, q⟩ => ?_
  have ee : (match ρ[i]? with | some (.bk _ past) => if shp (.list past) then some (Arg.val (.bool past.isEmpty), ρ) else none | _ => none) = some (a, ρ') := ee
  split at ee
  · rename_i fs past hr
    split at ee
    · rename_i hs
      cases ee
      obtain ⟨v', h1, C', p, q', dx, vs, xs, rfl, hf, hC, hp, hq, hx, hl, hd, hd2⟩ := S.here i _ hr (fun z => nomatch z)
      cases hC.inj T.is
      refine ⟨_, h1, p, _, dx, _, V.ref q', rfl, hp, T.cl, T.no "past" (.tail _ (.tail _ (.tail _ (.tail _ (.head _))))), bk_past hl, ?_⟩
      refine ⟨by simp, fun p' hp' => ?_⟩
      have nq : q' ≠ p' := fun z => by rw [z, hp'] at hq; cases hq
      have eqv : eqS (.lst past) (.lst []) = some past.isEmpty := by
        have h0 : shp (.list []) = true := by simp [shp, SeqAt.shaped, PyData.canLay0, PyData.canLayAll0, PyData.depth, PyData.depthAll]
        unfold eqS
        simp only [datS, hs, h0, Bool.and_self, if_true]
        cases past <;> simp [PyData.eqv, PyData.eqvAll]
      refine ⟨Hf, .lst past, .lst [], [q'], [p'], .val (.bool past.isEmpty), (S.grow hp').ex, ⟨q', xs, rfl, rfl, by rw [upd_ne nq]; exact hq, hd2⟩, ⟨p', [], rfl, rfl, upd_same, .nil⟩, by simp only [eqv]; rfl, fun v H' r => ?_⟩
      cases r with
      | val d =>
        exact q Hf fps _ v (Go.refl.grow hp') (S.grow hp') d
    · cases ee
  · cases ee
theorem w_ppop {BC : Addr} (T : BkTxt K BC) (i : Nat) (ho : PE X eb (tVar i)) (hb : attributeBase eb "past" X.env (eval eb X.env) = eval eb X.env := by rfl)
    (hbase : attributeBase (.Attribute eb "past" pf) "pop" X.env (eval (.Attribute eb "past" pf) X.env) = eval (.Attribute eb "past" pf) X.env := by rfl) (hline : (apos.endLine == cpos.line) = true := by rfl) :
    PE X (.Call (.Attribute (.Attribute eb "past" pf) "pop" apos) [] [] cpos) (tR K G (.ppop i)) := by
  obtain ⟨rfl, rfl, rfl, rfl, rfl, rfl, _, rfl, hc, hr, hgd, _⟩ := C
  refine PE.weak (pe_bm0 PySem.F.plainAttrs_list PySem.F.slot_list_pop PySem.F.type_list_pop mt_pop (pe_fld ho hb) hbase hline) fun σ H Q ⟨Hf, fps, ρ, a, ρ', S, ee, q⟩ => ?_
  have ee : (match ρ[i]? with | some (.bk fs past) => (past[past.length - 1]?).map fun d => (Arg.val d, ρ.set i (.bk fs past.dropLast)) | _ => none) = some (a, ρ') := ee
  split at ee
  · rename_i fs past hr
    obtain ⟨d, e1, e2⟩ := Option.map_eq_some_iff.mp ee
    cases e2
    obtain ⟨v', h1, C', p, q', dx, vs, xs, rfl, hf, hC, hp, hq, hx, hl, hd, hd2⟩ := S.here i _ hr (fun z => nomatch z)
    cases hC.inj T.is
    have hqi : q' ∈ fps i := by rw [hf]; simp
    have npq : p ≠ q' := fun z => by rw [← z, hp] at hq; cases hq
    have nxq : dx ≠ q' := fun z => by rw [z, hq] at hx; cases hx
    obtain ⟨y, hy, dy⟩ := hd2.get e1
    rw [← hd2.length] at hy
    refine ⟨_, h1, p, _, dx, _, V.ref q', rfl, hp, T.cl, T.no "past" (.tail _ (.tail _ (.tail _ (.tail _ (.head _))))), bk_past hl, .inl ⟨rfl, xs, SqL.of hq⟩, ?_⟩
    refine ⟨q', xs, y, rfl, rfl, hq, hy, ?_⟩
    exact q Hf fps _ y (Go.refl.write hqi) (S.write2 (lt_of_get hr) hqi h1 ⟨_, p, q', dx, vs, xs.dropLast, rfl, hf, hC, by rw [upd_ne npq]; exact hp, upd_same, by rw [upd_ne nxq]; exact hx, hl, hd, hd2.dropLast⟩ fun z => nomatch z) dy
  · cases ee
end
end Cor
set_option Elab.async false
set_option linter.all false
set_option maxRecDepth 100000
set_option maxHeartbeats 4000000
/-! Core 9g: books that are equal. -/
namespace Cor
open PySem PySem.Spec PyProof.Rows L2
open Evl (Ex ex_l ex_t)
/-- what the frag says of == and isinstance of books -/
structure BkEq (K : PySem.W.Frag) (C : Addr) : Prop where
  ins : C8.InsC K C
  nf : ∀ t ∈ (["NoneType", "bool", "int", "str"] : List String), PySem.W.notFirst K C (.type t) = true
  kt : ∀ t ∈ (["NoneType", "bool", "int", "str"] : List String), PySem.W.kitOne K (.type t) (.ref C) = some false
def tyD : PyData → String
  | .none => "NoneType"
  | .bool _ => "bool"
  | .int _ => "int"
  | _ => "str"
theorem tyD_mem (d : PyData) : tyD d ∈ (["NoneType", "bool", "int", "str"] : List String) := by
  cases d <;> simp [tyD]
theorem tyOf_flat {K : PySem.W.Frag} {Hf H : Hp} {v : V} {d : PyData} (h : Dq K Hf v d) (f : flatD d = true) : TyOf K H v (.type (tyD d)) := by
  cases h with
  | non => exact .non
  | bl b => exact .bl b
  | int i => exact .int i
  | str z => exact .str z
  | lst _ _ => cases f
  | tup _ _ => cases f
/-- isinstance(x, C), x and the class as they come -/
def rIsC (K : PySem.W.Frag) (C : Addr) : List V → Hp → VK → Prop := fun xs H Q => ∃ x t b, xs = [x, .ref C] ∧ TyOf K H x t ∧ PySem.W.kitOne K t (.ref C) = some b ∧ Q (.bl b) H
theorem call_isA {X : Cx} {C : Addr} : CallR X (.builtin "isinstance") (rIsC X.K C) := by
  intro pins s σ H xs us Q I r h
  obtain ⟨x, t, b, rfl, ty, e, q⟩ := h
  obtain ⟨u, w', rfl, ru, rw'⟩ := vals2 r
  cases rw'
  exact isinst_ok I ru ty e fun tk => ⟨.bl b, H, I.tok _, rfl, q⟩
/-! ### a function of two -/
def runT2 (G : List Fn) (fu n : Nat) (b : CB) (s0 s1 : Sl) : Option (PyData × Sl × Sl) :=
  (exB G fu b (entR n [s0, s1])).bind fun o => match o with
    | .rt a ρ => (frz ρ a).bind fun p => (p.2[0]?).bind fun x => (p.2[1]?).bind fun y => if noEmp x && noEmp y then some (p.1, x, y) else none
    | _ => none
section
variable {P : Program} {w : World} {K : PySem.W.Frag} {mg : Str → Option Value} {base : Heap} {k : Nat} {G : List Fn} {fu : Nat} {kp : Nat → Bool} {b : CB}
variable {f : Addr} {name qual : Str} {params : Arguments} {body : List Stmt} {scope : Scope} {dV kV doc pm cdv ct oc : Value} {an od : Option Addr} {osl : Array (Option Value)} {N ps : List Str}
theorem start_two {Hf H : Hp} {v0 v1 : V} {sl0 sl1 : Sl} {fp fq : List Addr} (ex : Ex Hf H) (o0 : OwnAt K Hf H sl0 v0 fp) (o1 : OwnAt K Hf H sl1 v1 fq) (h0 : ∀ a ∈ fp, Hf a = none) (h1 : ∀ a ∈ fq, Hf a = none) (dj : ∀ a ∈ fp, a ∉ fq) :
    SR K Hf (fps2 fp fq) (L2.start N [v0, v1]) H (entR N.length [sl0, sl1]) := by
  have f0 : fps2 fp fq 0 = fp := rfl
  have f1 : fps2 fp fq 1 = fq := rfl
  have f2 : ∀ i, 2 ≤ i → fps2 fp fq i = [] := fun i hi => by
    unfold fps2
    rw [if_neg (by omega), if_neg (by omega)]
  have cs : ∀ i a, a ∈ fps2 fp fq i → (i = 0 ∧ a ∈ fp) ∨ (i = 1 ∧ a ∈ fq) := fun i a ha => by
    match i with
    | 0 => exact .inl ⟨rfl, ha⟩
    | 1 => exact .inr ⟨rfl, ha⟩
    | n + 2 => rw [f2 _ (by omega)] at ha; cases ha
  refine sr_start ex rfl (fun i sl e => ?_) (fun i hi => f2 i hi) (fun i a ha => ?_) (fun i j a ha hb => ?_)
  · match i with
    | 0 => cases e; exact ⟨v0, rfl, o0⟩
    | 1 => cases e; exact ⟨v1, rfl, o1⟩
    | n + 2 => simp at e
  · rcases cs i a ha with ⟨_, h⟩ | ⟨_, h⟩
    · exact h0 a h
    · exact h1 a h
  · rcases cs i a ha with ⟨e1, h⟩ | ⟨e1, h⟩ <;> rcases cs j a hb with ⟨e2, g⟩ | ⟨e2, g⟩
    · omega
    · exact absurd g (dj a h)
    · exact absurd h (dj a g)
    · omega
theorem funT2 (hk : kp 0 = true) (hk1 : kp 1 = true) (lk : K.lookup f = some ⟨oc, od, .func (PySem.W.fnOf name qual params body scope dV kV doc pm an cdv ct), osl⟩) (hcd : PySem.W.codeIn K cdv qual = true) (S : FnScope N ps scope) (h2 : ps.length = 2) (hb : BodyOk P w K mg base k G fu kp N qual scope f cdv body b) :
    FnC P w K mg base CX0 (k + 1) f (PySem.W.fnOf name qual params body scope dV kV doc pm an cdv ct) ps (spF K (.two (runT2 G fu N.length b))) := by
  refine fnC_of lk hcd S (fun vs H Q E h => ?_) fun A outer s H vs Q E hr hg h => ⟨_, body_at hb hr hg, ?_⟩
  · obtain ⟨Hf, fp, fq, v0, v1, sl0, sl1, d, sl0', sl1', ex, rfl, _⟩ := h
    rw [h2]; rfl
  · obtain ⟨Hf, fp, fq, v0, v1, sl0, sl1, d, sl0', sl1', ex, rfl, o0, o1, h0, h1, dj, n0, n1, n0', n1', e, q⟩ := h
    unfold runT2 at e
    obtain ⟨o, e1, e2⟩ := Option.bind_eq_some_iff.mp e
    refine ⟨Hf, _, _, o, start_two ex o0 o1 h0 h1 dj, e1, ?_⟩
    cases o with
    | rt a ρ =>
      obtain ⟨p, e3, e4⟩ := Option.bind_eq_some_iff.mp e2
      obtain ⟨x, e5, e6⟩ := Option.bind_eq_some_iff.mp e4
      obtain ⟨y, e7, e8⟩ := Option.bind_eq_some_iff.mp e6
      split at e8
      · cases e8
        intro Hf' fps' σ' H' v g S' a' k'
        obtain ⟨Hf2, fps2', g2, S2, d2⟩ := S'.frz g a' e3
        obtain ⟨w0, q0, ow0⟩ := S2.here 0 _ e5 n0'
        obtain ⟨w1, q1, ow1⟩ := S2.here 1 _ e7 n1'
        rw [k' 0 hk] at q0
        rw [k' 1 hk1] at q1
        cases (show some (some v0) = some (some w0) from q0)
        cases (show some (some v1) = some (some w1) from q1)
        exact q v Hf2 H' fps2' g2 S2.ex ow0 ow1 S2.nof S2.dis d2
      · cases e8
    | nx ρ => cases e2
    | bk ρ => cases e2
    | ct ρ => cases e2
    | ex c ρ => cases e2
end
def EqOk (P : Program) (w : World) (K : PySem.W.Frag) (mg : Str → Option Value) (base : Heap) (k : Nat) (fn : Sl → Sl → Option (PyData × Sl × Sl)) : Prop :=
  ∃ C f, BkTxt K C ∧ BkEq K C ∧ L2.Meth K C "__eq__" f ∧ ∀ X : Cx, X.prog = P → X.w = w → X.K = K → X.mg = mg → X.base = base → Room k X.A → X.A.guards = some [] → Runs X f (spT2 K fn)
theorem EqOk.mono {P : Program} {w : World} {K : PySem.W.Frag} {mg : Str → Option Value} {base : Heap} {j k : Nat} {fn : Sl → Sl → Option (PyData × Sl × Sl)} (h : EqOk P w K mg base j fn) (e : j ≤ k) : EqOk P w K mg base k fn := by
  obtain ⟨C, f, h1, h2, h3, F⟩ := h
  exact ⟨C, f, h1, h2, h3, fun X a b c d e' hr => F X a b c d e' (hr.mono e)⟩
/-- x == y, x a book, y a book or a flat value -/
def rTwo (K : PySem.W.Frag) (C : Addr) (fn : Sl → Sl → Option (PyData × Sl × Sl)) : R2 := fun x y H Q => ∃ p dx fs, x = .ref p ∧ H p = some (.ins C dx fs) ∧
  ((∃ p2 dx2 fs2, y = .ref p2 ∧ H p2 = some (.ins C dx2 fs2)) ∨ ∃ d Hf, Dq K Hf y d ∧ flatD d = true) ∧ spT2 K fn [x, y] H (fun v H' => ∃ t, v = .bl t ∧ Q (.bl t) H') E0
theorem op_two {X : Cx} {C f : Addr} {fn : Sl → Sl → Option (PyData × Sl × Sl)} (E : BkEq X.K C) (M : L2.Meth X.K C "__eq__" f) (R : Runs X f (spT2 X.K fn)) (hu : X.A.units < cLine) : OpR X (compareOp .Eq) (rTwo X.K C fn) := by
  intro pins s σ H x y v u Q I rx ry h
  obtain ⟨p, dx, fs, rfl, hp, hy, hsp⟩ := h
  cases rx
  obtain ⟨mA, J, _⟩ := ins_get I.hok hp
  obtain ⟨od, J, _⟩ := J.look
  obtain ⟨m, hF⟩ := I.fr
  show wpAny (model X.prog X.w) X.A (richCompare .Eq (.ref p) u) (EP X pins σ Q) X.xe s
  have go : wpAny (model X.prog X.w) X.A (call (.ref f) [.ref p, u]) (PySem.W.CmpBack (EP X pins σ Q)) X.xe s := by
    refine wpAny_mono (R pins σ H s [.ref p, u] [.ref p, y] _ I (.cons rfl (.cons ry .nil)) hsp) (fun r s' z => ?_) fun _ _ x => x
    obtain ⟨v2, H', I', r2, t, rfl, q⟩ := z
    cases r2
    exact ⟨.bl t, H', I', rfl, q⟩
  rcases hy with ⟨p2, dx2, fs2, rfl, hp2⟩ | ⟨d, Hf, dq, fl⟩
  · cases ry
    obtain ⟨mB, J', _⟩ := ins_get I.hok hp2
    obtain ⟨od', J', _⟩ := J'.look
    exact PySem.W.cmp_K (op := .Eq) (tb := .ref C) hu hF I.ok.mod.kin J J'.type (by simp [PySem.W.notFirst]) M.at_ M.fn go
  · have nf := E.nf (tyD d) (tyD_mem d)
    cases dq with
    | non => cases (show u = Value.none from ry); exact PySem.W.cmp_K (op := .Eq) (tb := .type "NoneType") hu hF I.ok.mod.kin J (PySem.W.Looks.of_pure rfl) nf M.at_ M.fn go
    | bl b => cases (show u = Value.bool b from ry); exact PySem.W.cmp_K (op := .Eq) (tb := .type "bool") hu hF I.ok.mod.kin J (PySem.W.Looks.of_pure rfl) nf M.at_ M.fn go
    | int i => obtain ⟨t, q⟩ := (show ∃ t, u = Value.int i t from ry); cases q; exact PySem.W.cmp_K (op := .Eq) (tb := .type "int") hu hF I.ok.mod.kin J (PySem.W.Looks.of_pure rfl) nf M.at_ M.fn go
    | str z => obtain ⟨t, q⟩ := (show ∃ t, u = Value.str z t from ry); cases q; exact PySem.W.cmp_K (op := .Eq) (tb := .type "str") hu hF I.ok.mod.kin J (PySem.W.Looks.of_pure rfl) nf M.at_ M.fn go
    | lst _ _ => cases fl
    | tup _ _ => cases fl
end Cor
set_option Elab.async false
set_option linter.all false
set_option maxRecDepth 100000
set_option maxHeartbeats 4000000
/-! Core 9h: == of books, isinstance, in expressions. -/
namespace Cor
open PySem PySem.Spec PyProof.Rows L2
open Evl (Ex ex_l ex_t)
def fpsIJ (fps fps' : Fps) (i j : Nat) : Fps := fun x => if x = i then fps' 0 else if x = j then fps' 1 else fps x
theorem SR.after2 {K : PySem.W.Frag} {Hf H Hf' H' : Hp} {fps fps' : Fps} {σ : L2.St} {ρ : Rho} {i j : Nat} {vi vj : V} {a b : Sl} (S : SR K Hf fps σ H ρ) (hij : i ≠ j) (hi : i < ρ.length) (hj : j < ρ.length) (ei : σ[i]? = some (some vi)) (ej : σ[j]? = some (some vj))
    (g : Go Hf (fps2 (fps i) (fps j)) H Hf' fps' H') (ex' : Ex Hf' H') (oi : OwnAt K Hf' H' a vi (fps' 0)) (oj : OwnAt K Hf' H' b vj (fps' 1)) (na : a ≠ .emp) (nb : b ≠ .emp) (nf : ∀ l x, x ∈ fps' l → Hf' x = none) (ds : ∀ l m x, x ∈ fps' l → x ∈ fps' m → l = m) :
    SR K Hf' (fpsIJ fps fps' i j) σ H' ((ρ.set i a).set j b) ∧ Go Hf fps H Hf' (fpsIJ fps fps' i j) H' := by
  have fi : fpsIJ fps fps' i j i = fps' 0 := if_pos rfl
  have fj : fpsIJ fps fps' i j j = fps' 1 := by unfold fpsIJ; rw [if_neg (Ne.symm hij), if_pos rfl]
  have fl : ∀ l, l ≠ i → l ≠ j → fpsIJ fps fps' i j l = fps l := fun l h1 h2 => by unfold fpsIJ; rw [if_neg h1, if_neg h2]
  have two : ∀ l x, x ∈ fps2 (fps i) (fps j) l → x ∈ fps i ∨ x ∈ fps j := fun l x hx => by
    match l with
    | 0 => exact .inl hx
    | 1 => exact .inr hx
    | n + 2 =>
      have e : fps2 (fps i) (fps j) (n + 2) = [] := by unfold fps2; rw [if_neg (by omega), if_neg (by omega)]
      rw [e] at hx; cases hx
  -- what another slot holds stands
  have other : ∀ l, l ≠ i → l ≠ j → ∀ x ∈ fps l, ∀ o, H x = some o → H' x = some o ∧ Hf' x = none ∧ ∀ m, x ∉ fps' m := fun l h1 h2 x hx o ho =>
    g.fo x o ho (S.nof l x hx) fun m z => by
      rcases two m x z with z | z
      · exact h1 (S.dis l i x hx z)
      · exact h2 (S.dis l j x hx z)
  have there : ∀ l x, x ∈ fps l → ∃ o, H x = some o := fun l x hx => by
    by_cases hl : l < ρ.length
    · cases e : ρ[l]? with
      | none => rw [List.getElem?_eq_none_iff] at e; omega
      | some sl =>
        by_cases ne : sl = .emp
        · rw [S.gone l fun s q => by rw [e] at q; cases q; exact ne] at hx; cases hx
        · obtain ⟨v, _, ow⟩ := S.here l sl e ne
          exact ow.there hx
    · rw [S.gone l fun s q => by rw [List.getElem?_eq_none (by omega)] at q; cases q] at hx; cases hx
  refine ⟨⟨ex', by rw [List.length_set, List.length_set]; exact S.len, fun l sl e ne => ?_, fun l hl => ?_, fun l x hx => ?_, fun l m x hx hm => ?_⟩, ⟨g.fz, fun x o h1 h2 h3 => ?_, g.th⟩⟩
  · by_cases lj : l = j
    · subst lj
      rw [get_set_eq (by rw [List.length_set]; exact hj)] at e
      cases e
      rw [fj]; exact ⟨vj, ej, oj⟩
    · rw [List.getElem?_set_ne (Ne.symm lj)] at e
      by_cases li : l = i
      · subst li
        rw [get_set_eq hi] at e
        cases e
        rw [fi]; exact ⟨vi, ei, oi⟩
      · rw [List.getElem?_set_ne (Ne.symm li)] at e
        obtain ⟨v, h1, ow⟩ := S.here l sl e ne
        rw [fl l li lj]
        exact ⟨v, h1, ow.keep g.fz fun x hx o ho => (other l li lj x hx o ho).1⟩
  · by_cases lj : l = j
    · subst lj
      exact absurd (hl b (get_set_eq (by rw [List.length_set]; exact hj))) nb
    · by_cases li : l = i
      · subst li
        exact absurd (hl a (by rw [List.getElem?_set_ne (Ne.symm lj)]; exact get_set_eq hi)) na
      · rw [fl l li lj]
        exact S.gone l fun sl e => hl sl (by rw [List.getElem?_set_ne (Ne.symm lj), List.getElem?_set_ne (Ne.symm li)]; exact e)
  · by_cases li : l = i
    · subst li; rw [fi] at hx; exact nf 0 x hx
    · by_cases lj : l = j
      · subst lj; rw [fj] at hx; exact nf 1 x hx
      · rw [fl l li lj] at hx
        obtain ⟨o, ho⟩ := there l x hx
        exact (other l li lj x hx o ho).2.1
  · by_cases li : l = i
    · subst li
      rw [fi] at hx
      by_cases mi : m = l
      · exact mi.symm
      · by_cases mj : m = j
        · subst mj; rw [fj] at hm; have := ds 0 1 x hx hm; omega
        · rw [fl m mi mj] at hm
          obtain ⟨o, ho⟩ := there m x hm
          exact absurd hx ((other m mi mj x hm o ho).2.2 0)
    · by_cases lj : l = j
      · subst lj
        rw [fj] at hx
        by_cases mi : m = i
        · subst mi; rw [fi] at hm; have := ds 0 1 x hm hx; omega
        · by_cases mj : m = l
          · exact mj.symm
          · rw [fl m mi mj] at hm
            obtain ⟨o, ho⟩ := there m x hm
            exact absurd hx ((other m mi mj x hm o ho).2.2 1)
      · rw [fl l li lj] at hx
        obtain ⟨o, ho⟩ := there l x hx
        have ot := (other l li lj x hx o ho).2.2
        by_cases mi : m = i
        · subst mi; rw [fi] at hm; exact absurd hm (ot 0)
        · by_cases mj : m = j
          · subst mj; rw [fj] at hm; exact absurd hm (ot 1)
          · rw [fl m mi mj] at hm; exact S.dis l m x hx hm
  · obtain ⟨q1, q2, q3⟩ := g.fo x o h1 h2 fun m z => by
      rcases two m x z with z | z
      · exact h3 i z
      · exact h3 j z
    refine ⟨q1, q2, fun l z => ?_⟩
    by_cases li : l = i
    · subst li; rw [fi] at z; exact q3 0 z
    · by_cases lj : l = j
      · subst lj; rw [fj] at z; exact q3 1 z
      · rw [fl l li lj] at z; exact h3 l z
section
variable {P : Program} {w : World} {K : PySem.W.Frag} {mg : Str → Option Value} {base : Heap} {k : Nat} {top : Bool} {N : List Str} {sc : Scope} {X : Cx} {G : List Fn} {fu : Nat} {kp : Nat → Bool} {W : WX}
variable (C : Ctx P w K mg base k top N sc X)
variable {pos p p1 p2 : Pos} {ea eb : Expr} {ca ce : CE}
include C
theorem w_isb {BC : Addr} (T : BkTxt K BC) (E : BkEq K BC) (hmB : mg "Book" = some (.ref BC)) (B : Blts mg) (i : Nat) (ho : PE X ea (tVar i)) (hg : glB sc "isinstance" = true := by decide +kernel) (hgB : glB sc "Book" = true := by decide +kernel) (hs : nosB ea = true := by rfl) :
    PE X (.Call (.Name "isinstance" p) [ea, .Name "Book" p2] [] pos) (tR K G (.isb i)) := by
  have hg' := w_gl C hg
  have hgB' := w_gl C hgB
  have hb := B "isinstance" (by decide +kernel)
  obtain ⟨rfl, rfl, rfl, rfl, rfl, rfl, _, rfl, hc, hr, hgd, _⟩ := C
  refine PE.weak (pe_callB (call_isA (C := BC)) hg' hb rfl (pa_cons ho (pa_cons (pe_glob (v := .ref BC) hgB' hmB rfl (by decide)) pa_nil rfl) (star_no (nosB_is hs))) (by decide) (by decide) (star_no (nosB_is hs)) rfl) fun σ H Q ⟨Hf, fps, ρ, a, ρ', S, ee, q⟩ => ?_
  have ee : (match ρ[i]? with | some (.bk _ _) => some (Arg.val (.bool true), ρ) | some (.val d) => if flatD d then some (Arg.val (.bool false), ρ) else none | _ => none) = some (a, ρ') := ee
  split at ee
  · rename_i fs past hr'
    cases ee
    obtain ⟨v', h1, C', p, q', dx, vs, xs, rfl, hf, hC, hp, hq, hx, hl, hd, hd2⟩ := S.here i _ hr' (fun z => nomatch z)
    cases hC.inj T.is
    exact ⟨_, h1, _, _, true, rfl, .ins hp E.ins.cl E.ins.ha E.ins.hn E.ins.htk E.ins.hm, E.ins.me, q Hf fps H _ .refl S (.bl _)⟩
  · rename_i d hr'
    split at ee
    · rename_i hfl
      cases ee
      obtain ⟨v', h1, ow⟩ := S.here i _ hr' (fun z => nomatch z)
      have dq : Dq X.K Hf v' d := ow.2
      exact ⟨_, h1, _, _, false, rfl, tyOf_flat (Dq.mono S.ex _ _ dq) hfl, E.kt _ (tyD_mem d), q Hf fps H _ .refl S (.bl _)⟩
    · cases ee
  · cases ee
/-- the reading of e ahead, for a slot that holds a book -/
theorem w_oeq (kf i : Nat) {fn : Sl → Sl → Option (PyData × Sl × Sl)} (E : EqOk P w K mg base k fn) (ho : PE X ea (tVar i)) (ha : PE X eb (tR K G ce)) (hG : G[kf]? = some (.two fn) := by rfl) (hs : nosB eb = true := by rfl) (hm : behindInMarks .Eq eb = false := by rfl) :
    PE X (.Compare ea [.Eq] [eb] pos) (tR K G (.oeq kf false i ce)) := by
  obtain ⟨rfl, rfl, rfl, rfl, rfl, rfl, _, rfl, hc, hr, hgd, _⟩ := C
  obtain ⟨BC, f, T, Eq, M, F⟩ := E
  refine PE.weak (pe_cmpR (op_two Eq M (F X rfl rfl rfl rfl rfl hr hgd) (by have := Room.hu hr; omega)) ho ha hm) fun σ H Q ⟨Hf, fps, ρ, a, ρ', S, ee, q⟩ => ?_
  have ee : (match ρ[i]? with | some (.bk _ _) => (match G[kf]? with | some (.two f) => (ev G ce ρ).bind fun p => eqTwo f false i p.1 p.2 | _ => none) | _ => none) = some (a, ρ') := ee
  split at ee
  · rename_i fs0 past0 hr0
    rw [hG] at ee
    obtain ⟨⟨y, ρ1⟩, e1, ee⟩ := Option.bind_eq_some_iff.mp (show ((ev G ce ρ).bind fun p => eqTwo fn false i p.1 p.2) = some (a, ρ') from ee)
    obtain ⟨v0, h0, ow0⟩ := S.here i _ hr0 (fun z => nomatch z)
    refine ⟨v0, h0, Hf, fps, ρ, y, ρ1, S, e1, fun Hf1 fps1 H1 vy g1 S1 a1 => ?_⟩
    have ee : eqTwo fn false i y ρ1 = some (a, ρ') := ee
    cases y with
    | fr s => unfold eqTwo at ee; dsimp only at ee; split at ee <;> cases ee
    | own j =>
      unfold eqTwo at ee
      dsimp only at ee
      split at ee
      · rename_i fs past hr1
        obtain ⟨v1, h1, ow1⟩ := S1.here i _ hr1 (fun z => nomatch z)
        rw [h0] at h1
        cases (show some (some v0) = some (some v1) from h1)
        have ow1' := ow1
        obtain ⟨C', p, q', dx, vs, xs, rfl, hf, hC, hp, hq, hx, hl, hd, hd2⟩ := ow1
        cases hC.inj T.is
        split at ee
        · cases ee
        · rename_i hij
          split at ee
          · rename_i fs2 past2 hr2
            split at ee
            · rename_i t sa sb hfn
              split at ee
              · rename_i hne
                rw [Bool.and_eq_true] at hne
                cases ee
                obtain ⟨v2, h2, ow2⟩ := S1.here j _ hr2 (fun z => nomatch z)
                have : σ[j]? = some (some vy) := a1
                rw [h2] at this
                cases this
                have ow2' := ow2
                obtain ⟨C2, p2, q2, dx2, vs2, xs2, rfl, hf2, hC2, hp2, hq2, hx2, hl2, hd3, hd4⟩ := ow2
                cases hC2.inj T.is
                refine ⟨p, dx, _, rfl, hp, .inl ⟨p2, dx2, _, rfl, hp2⟩, Hf1, fps1 i, fps1 j, _, _, _, _, _, _, _, S1.ex, rfl, ow1', ow2', fun x hx => S1.nof i x hx, fun x hx => S1.nof j x hx, fun x hx hx2 => hij (S1.dis i j x hx hx2), (fun z => nomatch z), (fun z => nomatch z), noEmp_ne hne.1, noEmp_ne hne.2, hfn, ?_⟩
                intro v Hf' H' fps' g ex' o0 o1 nf ds dq
                cases dq
                obtain ⟨S3, g3⟩ := S1.after2 hij (lt_of_get hr1) (lt_of_get hr2) h0 h2 g ex' o0 o1 (noEmp_ne hne.1) (noEmp_ne hne.2) nf ds
                refine ⟨t, rfl, ?_⟩
                have tb : (t != false) = t := by cases t <;> rfl
                rw [tb] at q
                exact q Hf' _ H' _ (g1.trans g3) S3 (.bl _)
              · cases ee
            · cases ee
          · cases ee
      · cases ee
    | val d =>
      unfold eqTwo at ee
      dsimp only at ee
      split at ee
      · rename_i fs past hr1
        obtain ⟨v1, h1, ow1⟩ := S1.here i _ hr1 (fun z => nomatch z)
        rw [h0] at h1
        cases (show some (some v0) = some (some v1) from h1)
        have ow1' := ow1
        obtain ⟨C', p, q', dx, vs, xs, rfl, hf, hC, hp, hq, hx, hl, hd, hd2⟩ := ow1
        cases hC.inj T.is
        split at ee
        · rename_i hfl
          split at ee
          · rename_i t sa d2 hfn
            split at ee
            · rename_i hne
              cases ee
              have dq : Dq X.K Hf1 vy d := a1
              refine ⟨p, dx, _, rfl, hp, .inr ⟨d, Hf1, dq, hfl⟩, Hf1, fps1 i, [], _, _, _, .val d, _, _, .val d2, S1.ex, rfl, ow1', ⟨rfl, dq⟩, fun x hx => S1.nof i x hx, (fun x hx => nomatch hx), (fun x hx hx2 => nomatch hx2), (fun z => nomatch z), (fun z => nomatch z), noEmp_ne hne, (fun z => nomatch z), hfn, ?_⟩
              intro v Hf' H' fps' g ex' o0 o1 nf ds dq2
              cases dq2
              have fo : Fo Hf1 H1 Hf' H' (fps1 i) (fps' 0) := ⟨g.fz, fun x o h1 h2 h3 => by
                obtain ⟨q1, q2, q3⟩ := g.fo x o h1 h2 fun m z => by
                  match m with
                  | 0 => exact h3 z
                  | 1 => exact nomatch z
                  | n + 2 =>
                    have e : fps2 (fps1 i) [] (n + 2) = [] := by unfold fps2; rw [if_neg (by omega), if_neg (by omega)]
                    rw [e] at z; cases z
                exact ⟨q1, q2, q3 0⟩, g.th⟩
              obtain ⟨S3, g3⟩ := S1.afterM (lt_of_get hr1) h0 fo ex' o0 (noEmp_ne hne) fun x hx => ⟨nf 0 x hx, by
                by_cases hfx : x ∈ fps1 i
                · exact .inl hfx
                · refine .inr ?_
                  cases e : H1 x with
                  | none => rfl
                  | some o =>
                    cases e2 : Hf1 x with
                    | none => exact absurd hx (fo.2.1 x o e e2 hfx).2.2
                    | some o2 =>
                      have := nf 0 x hx
                      rw [g.fz x o2 e2] at this
                      cases this⟩
              refine ⟨t, rfl, ?_⟩
              have tb : (t != false) = t := by cases t <;> rfl
              rw [tb] at q
              exact q Hf' _ H' _ (g1.trans g3) S3 (.bl _)
            · cases ee
          · cases ee
        · cases ee
      · cases ee
  · cases ee
end
section
variable {P : Program} {w : World} {K : PySem.W.Frag} {mg : Str → Option Value} {base : Heap} {k : Nat} {G : List Fn} {fu : Nat} {kp : Nat → Bool} {b : CB} {m qual : Str} {st : Stmt} {C f : Addr} {N ps : List Str}
/-- __eq__ -/
theorem defE (hk : kp 0 = true) (hk1 : kp 1 = true) (T : BkTxt K C) (Eq : BkEq K C) (D : DefM K "__eq__" qual st C f) (hs : scopeB N ps (defScope st) = true) (hbi : bindsB st ps) (h2 : ps.length = 2) (h : ∀ (W : WX) (X : Cx), Ctx P w K mg base k true N (defScope st) X → Takes X W → PSs X (defBody st) (tB K W G fu kp b)) : EqOk P w K mg base (k + 1) (runT2 G fu N.length b) := by
  obtain ⟨⟨oc, od, kV, doc, pm, an, cdv, ct, osl, lk, hcd⟩, me⟩ := D
  have S := scopeB_is hs
  have F := funT2 (P := P) (w := w) (mg := mg) (base := base) hk hk1 lk hcd S h2 (body_ok S.nd S.kind h)
  have hb : L2.Binds K _ ps [] := .all fun us hl => hbi "__eq__" qual kV doc pm an cdv ct us hl
  exact ⟨C, f, T, Eq, me, fun X a b c d e hr hg => by subst a b c d e; exact F.runs hr hg hb⟩
end
end Cor
set_option Elab.async false
set_option linter.all false
set_option maxRecDepth 100000
set_option maxHeartbeats 4000000
/-! Core 9i: methods called by a keyword, repr of a list just made, the def that takes back. -/
namespace Cor
open PySem PySem.Spec PyProof.Rows L2
open Evl (Ex ex_l ex_t)
def RunsKX (X : Cx) (f : Addr) (ks : List Str) (sp : Sp) (W : WX) : Prop := ∀ (pins : List (Addr × Obj)) (σ : L2.St) (H : Hp) (s : Shared) (us ws : List Value) (vs zs : List V) (Q : VK), L2.Inv X pins σ H s → Vals vs us → Vals zs ws → zs.length = ks.length → sp (vs ++ zs) H Q (WE W σ) → wpAny (model X.prog X.w) X.A (call (.ref f) us (ks.zip ws)) (EP X pins σ Q) X.xe s
theorem FnC.runsKX {X : Cx} {W : WX} {k : Nat} {f : Addr} {fd : FuncData} {ps ks : List Str} {sp : Sp} (F : FnC X.prog X.w X.K X.mg X.base (L2.CX X.prog X.w) k f fd ps sp) (hr : Room k X.A) (hgd : X.A.guards = some [])
    (hb : ∀ us ws : List Value, us.length + ks.length = ps.length → ws.length = ks.length → bindArgs fd ⟨us, ks.zip ws⟩ = pure (ps.zip (us ++ ws))) (tk : Takes X W) : RunsKX X f ks sp W := fun pins σ H s us ws vs zs Q I r rz lz h => by
  have r2 : Vals (vs ++ zs) (us ++ ws) := r.append rz
  have hl : (us ++ ws).length = ps.length := by rw [← r2.length]; exact F.len _ _ _ _ h
  have lw : ws.length = ks.length := by rw [← rz.length]; exact lz
  have b : BindsTo s fd ⟨us, ks.zip ws⟩ (ps.zip (us ++ ws)) := .of_eq (hb us ws (by rw [List.length_append, lw] at hl; exact hl) lw)
  refine wpAny_call (codeAny_mono (F.run X.A X.stack s H ⟨us, ks.zip ws⟩ (us ++ ws) (vs ++ zs) Q (WE W σ) hr hgd I.env0 b r2 h) fun r s' hq => ?_)
  cases r with
  | error e => exact passAt tk σ pins H s e s' I hq
  | ok fl =>
    cases fl with
    | ret u => exact I.after hq
    | next => exact False.elim hq
    | brk => exact False.elim hq
    | cont => exact False.elim hq
def MethKOk (P : Program) (w : World) (K : PySem.W.Frag) (mg : Str → Option Value) (base : Heap) (k : Nat) (m : Str) (ks : List Str) (fn : Sl → List PyData → Option (Except Exn PyData × Sl)) : Prop :=
  ∃ C f, BkTxt K C ∧ L2.Meth K C m f ∧ ∀ (X : Cx) (W : WX), X.prog = P → X.w = w → X.K = K → X.mg = mg → X.base = base → Room k X.A → X.A.guards = some [] → Takes X W → RunsKX X f ks (spR K fn) W
theorem MethKOk.mono {P : Program} {w : World} {K : PySem.W.Frag} {mg : Str → Option Value} {base : Heap} {j k : Nat} {x : Str} {ks : List Str} {fn : Sl → List PyData → Option (Except Exn PyData × Sl)} (h : MethKOk P w K mg base j x ks fn) (e : j ≤ k) : MethKOk P w K mg base k x ks fn := by
  obtain ⟨C, f, h1, h2, F⟩ := h
  exact ⟨C, f, h1, h2, fun X W a b c d e' hr => F X W a b c d e' (hr.mono e)⟩
def bindsKB (st : Stmt) (ps ks : List Str) : Prop := ∀ (x qual : Str) (kV doc pm : Value) (an : Option Addr) (cdv ct : Value) (us ws : List Value), us.length + ks.length = ps.length → ws.length = ks.length → bindArgs (PySem.W.fnOf x qual (defArgs st) (defBody st) (defScope st) .none kV doc pm an cdv ct) ⟨us, ks.zip ws⟩ = pure (ps.zip (us ++ ws))
theorem len1 {α : Type} {us : List α} (h : us.length = 1) : ∃ u, us = [u] := by
  match us, h with
  | [u], _ => exact ⟨u, rfl⟩
section
variable {P : Program} {w : World} {K : PySem.W.Frag} {mg : Str → Option Value} {base : Heap} {k : Nat} {G : List Fn} {fu : Nat} {kp : Nat → Bool} {b : CB} {m qual : Str} {st : Stmt} {C f : Addr} {N ps ks : List Str}
theorem defMxK (hk : kp 0 = true) (T : BkTxt K C) (D : DefM K m qual st C f) (hs : scopeB N ps (defScope st) = true) (hbi : bindsKB st ps ks) (h : ∀ (W : WX) (X : Cx), Ctx P w K mg base k true N (defScope st) X → Takes X W → PSs X (defBody st) (tB K W G fu kp b)) : MethKOk P w K mg base (k + 1) m ks (runR G fu N.length ps.length b) := by
  obtain ⟨⟨oc, od, kV, doc, pm, an, cdv, ct, osl, lk, hcd⟩, me⟩ := D
  have S := scopeB_is hs
  have F := funR (P := P) (w := w) (mg := mg) (base := base) hk lk hcd S (body_ok S.nd S.kind h)
  exact ⟨C, f, T, me, fun X W a b' c d e hr hg tk => by subst a b' c d e; exact F.runsKX hr hg (fun us ws h1 h2 => hbi m qual kV doc pm an cdv ct us ws h1 h2) tk⟩
end
theorem spM_okR {K : PySem.W.Frag} {f : Sl → List PyData → Option (Except Exn PyData × Sl)} {vs : List V} {H : Hp} {Q : VK} {E E' : XK} (h : spM K (okR f) vs H Q E) : spR K f vs H Q E' := by
  obtain ⟨Hf, fp, v0, vr, sl, ds, d, sl', ex, rfl, ow, hn, ne, ne', hd, e, q⟩ := h
  unfold okR at e
  split at e
  · rename_i d' sl2 e'
    cases e
    refine ⟨Hf, fp, v0, vr, sl, ds, _, _, ex, rfl, ow, hn, ne, ne', hd, e', fun d2 v Hf' H' fp' er ex' fo ow' hn' dq => ?_, fun c cls d2 Hf' H' fp' er => by cases er⟩
    cases er
    exact q v Hf' H' fp' ex' fo ow' hn' dq
  · cases e
theorem dq_of_own {K : PySem.W.Frag} {Hf H : Hp} {sl : Sl} {v : V} {fp : List Addr} {d : PyData} (ex : Ex Hf H) (o : OwnAt K Hf H sl v fp) (e : datS sl = some d) : Dq K H v d := by
  cases sl with
  | emp => cases e
  | val d' => cases e; exact Dq.mono ex _ _ o.2
  | lst ds =>
    cases e
    obtain ⟨p, xs, rfl, _, hp, hd⟩ := o
    exact .lst (.inl (.inl hp)) (DqAll.mono ex _ _ hd)
  | dct _ => cases e
  | bk _ _ => cases e
theorem dqs_of_own {K : PySem.W.Frag} {Hf H : Hp} (ex : Ex Hf H) : ∀ {ss : List Sl} {vs : List V} {ds : List PyData}, OwnAll K Hf H vs ss → ss.mapM datS = some ds → DqAll K H vs ds
  | [], _, ds, h, e => by
    cases h
    cases (show some [] = some ds from by simpa using e)
    exact .nil
  | s :: ss, _, ds, h, e => by
    cases h with
    | cons a t =>
      rw [List.mapM_cons] at e
      obtain ⟨d, e1, e⟩ := Option.bind_eq_some_iff.mp e
      obtain ⟨ds', e2, e3⟩ := Option.bind_eq_some_iff.mp e
      cases e3
      exact .cons (dq_of_own ex a.choose_spec e1) (dqs_of_own ex t e2)
theorem datS_ne : ∀ {ss : List Sl} {ds : List PyData}, ss.mapM datS = some ds → ∀ s ∈ ss, s ≠ .emp
  | [], _, _, s, hs => by cases hs
  | t :: ss, ds, e, s, hs => by
    rw [List.mapM_cons] at e
    obtain ⟨d, e1, e⟩ := Option.bind_eq_some_iff.mp e
    obtain ⟨ds', e2, e3⟩ := Option.bind_eq_some_iff.mp e
    rcases List.mem_cons.mp hs with rfl | hs
    · intro z; subst z; cases e1
    · exact datS_ne e2 s hs
section
variable {P : Program} {w : World} {K : PySem.W.Frag} {mg : Str → Option Value} {base : Heap} {k : Nat} {top : Bool} {N : List Str} {sc : Scope} {X : Cx} {G : List Fn} {fu : Nat} {kp : Nat → Bool} {W : WX}
variable (C : Ctx P w K mg base k top N sc X)
variable {pos p pl apos kpos : Pos} {ea eb : Expr} {ca : CE} {es : List Expr} {c : CA}
include C
theorem w_rep1 (B : Blts mg) (ha : PA X es (tQ K G c)) (hg : glB sc "repr" = true := by decide +kernel) : PE X (.Call (.Name "repr" p) [.List es pl] [] pos) (tR K G (.rep1 c)) := by
  have hg' := w_gl C hg
  have hb := B "repr" (by decide +kernel)
  obtain ⟨rfl, rfl, rfl, rfl, rfl, rfl, _, rfl, hc, hr, hgd, _⟩ := C
  refine PE.weak (pe_callB (cr_rep hgd (Room.hu hr)) hg' hb rfl (pa_cons (pe_lst ha) pa_nil rfl) (by decide) (by decide) rfl rfl) fun σ H Q ⟨Hf, fps, ρ, a, ρ', S, ee, q⟩ => ?_
  obtain ⟨⟨as, ρ1⟩, e1, ee⟩ := Option.bind_eq_some_iff.mp (show ((evR G c ρ).bind fun p => (p.1.mapM (cont p.2)).bind fun ss => (ss.mapM datS).bind fun ds => if sm ds then (repB [.lst ds]).bind fun z => some (z, p.2) else none) = some (a, ρ') from ee)
  obtain ⟨ss, e2, ee⟩ := Option.bind_eq_some_iff.mp ee
  obtain ⟨ds, e3, ee⟩ := Option.bind_eq_some_iff.mp ee
  dsimp only at ee
  split at ee
  · rename_i hs
    obtain ⟨z, e4, ee⟩ := Option.bind_eq_some_iff.mp ee
    cases ee
    refine ⟨Hf, fps, ρ, as, _, S, e1, fun Hf1 fps1 H1 vs g1 S1 a1 => ?_⟩
    have oa := ARs.cont S1 a1 e2 (datS_ne e3)
    have dv := dqs_of_own S1.ex oa e3
    refine ⟨by rw [dv.length]; exact le_line (sm_le hs), fun p hp => ?_⟩
    have ex1 : Ex H1 (upd H1 p (.lst vs)) := Evl.Ex.new hp
    refine ⟨H1, [.lst ds], _, ex1, .cons ⟨[p], p, vs, rfl, rfl, upd_same, dv⟩ .nil, e4, fun v H' r => ?_⟩
    have e5 : (if PyData.showable (.list ds) && smS (PyData.shown (.list ds)) && decide (PyData.depth (.list ds) ≤ 64) && !PyData.hasDict (.list ds) then some (Arg.val (.str (PyData.shown (.list ds)))) else none) = some a := e4
    split at e5
    · cases e5
      cases r with
      | val d =>
        cases d
        exact q Hf1 fps1 _ _ (g1.grow hp) (S1.grow hp) (.str _)
    · cases e5
  · cases ee
/-- o.m(k = e) -/
theorem w_mthK (kf i : Nat) {m kw : Str} {g : Sl → List PyData → Option (Except Exn PyData × Sl)} {pl : Sem Bool} (H : MethKOk P w K mg base k m [kw] g) (ho : PE X eb (tVar i)) (ha : PE X ea (tR K G ca)) (hG : G[kf]? = some (.mut (okR g)) := by rfl) (hm : (bkN ++ [("past" : Str)]).all (fun f => !(m == f)) = true := by decide +kernel)
    (hall : (backToKw pos (keywordEach [⟨some kw, ea, kpos⟩] X.env)).all (·.1.isSome) = true := by rfl) (hks : (backToKw pos (keywordEach [⟨some kw, ea, kpos⟩] X.env)).filterMap (·.1) = [kw] := by rfl)
    (hpl : ((backTo pos (starEach [] X.env)).any (·.1) || (backToKw pos (keywordEach [⟨some kw, ea, kpos⟩] X.env)).any (·.1.isNone)) = false := by rfl)
    (ht : eval (.Call (.Attribute eb m apos) [] [⟨some kw, ea, kpos⟩] pos) X.env = (do
      let ov ← eval eb X.env
      standAt apos.atName
      let (f, first) ← holding [ov] (getMethod ov m pl)
      callWith pos f first (backTo pos (starEach [] X.env)) (backToKw pos (keywordEach [⟨some kw, ea, kpos⟩] X.env))) := by rfl) : PE X (.Call (.Attribute eb m apos) [] [⟨some kw, ea, kpos⟩] pos) (tR K G (.mth kf i (.cons false ca .nil))) := by
  obtain ⟨rfl, rfl, rfl, rfl, rfl, rfl, _, rfl, hc, hr, hgd, _⟩ := C
  obtain ⟨BC, f, T, M, F⟩ := H
  refine ⟨fun pins s σ H Q I h => ?_⟩
  have h' := mth_of T hG hm h
  refine PySem.W.methodCall_KW (pl := pl) (thn (ho.run pins s σ H _ I h') fun u s1 ⟨x, H1, I1, rx, a, dx, fs, ex, ea', l, q⟩ => ?_) ht
  subst ex
  obtain rfl : u = Value.ref a := rx
  refine getmeth_ok I1 ea' T.cl M l ?_
  refine PySem.W.callWith_KW0 (first := [.ref a]) (h₀ := X.base) I.ok.mod.kin M.kp hall ?_ hpl
  obtain ⟨Hf, fps, ρ, ds, ρ', S, ee, q⟩ := q
  obtain ⟨⟨x, ρ1⟩, e1, ee⟩ := Option.bind_eq_some_iff.mp (show ((ev G ca ρ).bind fun p => (frz p.2 p.1).bind fun p2 => (some (([] : List PyData), p2.2)).bind fun p3 => some (p2.1 :: p3.1, p3.2)) = some (ds, ρ') from ee)
  obtain ⟨⟨d, ρ2⟩, e2, ee⟩ := Option.bind_eq_some_iff.mp ee
  cases ee
  have st := (pk_cons (kpos := kpos) (nm := some kw) ha pk_nil).run pos pins s1 σ H1 (fun vs H3 => vs.length = 1 ∧ spM X.K (okR g) (.ref a :: vs) H3 Q E0) I1 ⟨Hf, fps, ρ, x, ρ1, S, e1, fun Hf1 fps1 H2 v g1 S1 a1 => by
    obtain ⟨Hf2, fps2, g2, S2, d2⟩ := S1.frz g1 a1 e2
    exact ⟨rfl, q Hf2 fps2 H2 [v] g2 S2 (.cons d2 .nil)⟩⟩
  refine thn st fun ws s2 ⟨zs, H2, I2, rz, lz, q2⟩ => ⟨I2.kIn, ?_⟩
  rw [hks]
  exact F X (fun _ _ _ _ => False) rfl rfl rfl rfl rfl hr hgd takesF pins σ H2 s2 [.ref a] ws [.ref a] zs Q I2 (.cons rfl .nil) rz lz (spM_okR q2)
end
end Cor
set_option Elab.async false
set_option linter.all false
set_option maxRecDepth 100000
set_option maxHeartbeats 4000000
/-! Core 9j: the def that takes back. -/
namespace Cor
open PySem PySem.Spec PyProof.Rows L2
open Evl (Ex ex_l ex_t)
/-- isinstance(e, c), e the error that the suite holds, without a dict -/
def rIsU (K : PySem.W.Frag) (cls : Value) (d : Option Addr) (a : Addr) : List V → Hp → VK → Prop := fun xs H Q => ∃ (D c : Addr) (b : Bool), cls = .ref D ∧ d = none ∧ ExcC K D ∧ xs = [.ref a, .ref c] ∧ PySem.W.kitOne K (.ref D) (.ref c) = some b ∧ Q (.bl b) H
theorem call_isU {X : Cx} {a : Addr} {cls : Value} {d : Option Addr} {oe : Obj} {pn : List (Addr × Obj)} (hz : Zc cls d oe) (hf : ∃ vs, oe.data = .fields vs) : CallR (X.suite a ((a, oe) :: pn)) (.builtin "isinstance") (rIsU X.K cls d a) := by
  intro pins s σ H xs us Q I r h
  obtain ⟨D, c, b, rfl, rfl, C, rfl, e, q⟩ := h
  exact call_isE C hz hf pins s σ H _ us Q I r ⟨.ref c, .ref c, b, rfl, fun u h => h, e, q⟩
def rIsN0 : R2 := fun x y H Q => y = .non ∧ Q (.bl (decide (x = .non))) H
def tSuiU (K : PySem.W.Frag) (CW : Addr) (a : Addr) (cls : Value) (d : Option Addr) : TS :=
  tRet (tNotV (tCB (rIsU K cls d a) (tCons (tVar 1) (tCons (tC (.ref CW)) tNil))))
def tUnd (K : PySem.W.Frag) (C : Addr) (m : Str) (unF : Sl → List PyData → Option (Except Exn PyData × Sl)) (CN CW : Addr) : TS :=
  fun D σ H => (fun W => tRet (tOp rIsN0 (tMeX C m (spR K unF) W (tVar 0) (tF K [] .nil)) (tC .non))) (wMix K (fun _ _ _ _ => False) D [(.ref CN, some 1, fun a cls d => tSuiU K CW a cls d)]) D σ H
/-- def f(book): try: return book.undo() is None / except E as e: return not isinstance(e, F) -/
def undF (unF : Sl → List PyData → Option (Except Exn PyData × Sl)) (cls : Str) (sl : Sl) (ds : List PyData) : Option (PyData × Sl) := match sl, ds with
  | .bk fs past, [] => (unF (.bk fs past) []).bind fun p => if noEmp p.2 then match p.1 with
    | .ok d => if isN d then some (.bool true, p.2) else none
    | .error c => if c.cls = cls ∧ c.fld = "" then some (.bool false, p.2) else none
    else none
  | _, _ => none
section
variable {X : Cx} {pos apos p : Pos} {eb : Expr} {m : Str} {sp : Sp} {ta : TE} {W : WX}
theorem pe_methX0 {C f : Addr} {pl : Sem Bool} (he : PE X eb ta) (c : L2.Cls X.K C) (hm : L2.Meth X.K C m f) (R : RunsX X f sp W)
    (ht : eval (.Call (.Attribute eb m apos) [] [] pos) X.env = (do
      let ov ← eval eb X.env
      standAt apos.atName
      let (f, first) ← holding [ov] (getMethod ov m pl)
      callWith pos f first (backTo pos (starEach [] X.env)) (backToKw pos (keywordEach [] X.env)))) : PE X (.Call (.Attribute eb m apos) [] [] pos) (tMeX C m sp W ta (tF X.K [] .nil)) := by
  refine ⟨fun pins s σ H Q I h => ?_⟩
  refine PySem.W.methodCall_KW (pl := pl) (thn (he.run pins s σ H _ I h) fun u s1 ⟨x, H1, I1, rx, a, dx, fs, ex, ea', l, q⟩ => ?_) ht
  subst ex
  obtain rfl : u = Value.ref a := rx
  refine getmeth_ok I1 ea' c hm l ?_
  obtain ⟨Hf, fps, ρ, ds, ρ', S, ee, q⟩ := q
  cases (show some (([] : List PyData), ρ) = some (ds, ρ') from ee)
  exact PySem.W.callWith_K0 (first := [.ref a]) I1.kIn hm.kp (R pins σ H1 s1 [.ref a] [.ref a] Q I1 (.cons rfl .nil) (q Hf fps H1 [] .refl S .nil))
end
section
variable {K : PySem.W.Frag} {C : Addr} {m : Str}
theorem und_reads (T : BkTxt K C) (hm : (bkN ++ [("past" : Str)]).all (fun f => !(m == f)) = true) {unF : Sl → List PyData → Option (Except Exn PyData × Sl)} {CN CW : Addr} {cls : Str} (hCN : PySem.W.nsIn K mainGlobals cls = some (some (.ref CN))) (hex : PySem.W.exmOne K (.ref CN) (.ref CN) = some true) (EN : ExcC K CN) (kN : PySem.W.kitOne K (.ref CN) (.ref CW) = some true)
    {vs : List V} {H : Hp} {Q : VK} {E : XK} (h : spM K (undF unF cls) vs H Q E) : tUnd K C m unF CN CW { nx := fun _ H' => Q .non H', rt := Q } (L2.start ["book", "e"] vs) H := by
  obtain ⟨Hf, fp, v0, vr, sl, ds, d, sl', ex, rfl, ow, hn, ne, ne', hd, e, q⟩ := h
  cases sl with
  | emp => cases e
  | val _ => cases e
  | lst _ => cases e
  | dct _ => cases e
  | bk fs past =>
    match ds, hd, e with
    | [], hd, e =>
      obtain ⟨⟨r, sl2⟩, e1, e⟩ := Option.bind_eq_some_iff.mp (show ((unF (.bk fs past) []).bind fun p => if noEmp p.2 = true then (match p.1 with
        | .ok d => if isN d then some (.bool true, p.2) else none
        | .error c => if c.cls = cls ∧ c.fld = "" then some (.bool false, p.2) else none) else none) = some (d, sl') from e)
      dsimp only at e
      split at e
      · rename_i hne
        have S0 : SR K Hf (fun i => if i = 0 then fp else []) (L2.start (["book", "e"] : List Str) (v0 :: vr)) H (entR 2 (.bk fs past :: ([] : List PyData).map .val)) := start_own (N := ["book", "e"]) ex ow hn hd
        have e0 : evF [] .nil (entR 2 (.bk fs past :: ([] : List PyData).map .val)) = some ([], entR 2 (.bk fs past :: ([] : List PyData).map .val)) := rfl
        have fin : ∀ {Hf' H' : Hp} {fps' : Fps}, Go Hf (fun i => if i = 0 then fp else []) H Hf' fps' H' → SR K Hf' fps' (L2.start (["book", "e"] : List Str) (v0 :: vr)) H' ((entR 2 (.bk fs past :: ([] : List PyData).map .val)).set 0 sl2) → sl2 = sl' → ∀ v, Dq K Hf' v d → Q v H' := fun {Hf' H' fps'} g S' es v dq => by
          subst es
          obtain ⟨fp', f1, f2, f3⟩ := end_own (kp := fun i => i == 0) rfl ex hn (noEmp_ne hne) g S' .refl rfl
          exact q v Hf' H' fp' S'.ex f1 f2 f3 dq
        refine meX_of T hm S0 rfl e0 rfl e1 (fun z => nomatch z) (noEmp_ne hne) (fun d0 v Hf' fps' H' er g S' dq => ?_) (fun cc ccls dd Hf' fps' H' er g S' xa => ?_)
        · subst er
          dsimp only at e
          split at e
          · rename_i hisn
            cases e
            cases dq with
            | non => exact ⟨rfl, fin g S' rfl (.bl true) (.bl true)⟩
            | bl _ => cases hisn
            | int _ => cases hisn
            | str _ => cases hisn
            | lst _ _ => cases hisn
            | tup _ _ => cases hisn
          · cases e
        · subst er
          dsimp only at e
          split at e
          · rename_i hc
            cases e
            obtain ⟨C', rfl, hns, hx⟩ := xa
            rw [hc.1, hCN] at hns
            cases hns
            have hd0 : dd = none := by
              rcases hx with ⟨_, h⟩ | ⟨h, _⟩
              · exact h
              · exact absurd hc.2 h
            subst hd0
            have hlen : (L2.start (["book", "e"] : List Str) (v0 :: vr)).length = 2 := by
              have := S'.len
              rw [this, List.length_set]; rfl
            refine ⟨true, hex, fun _ a ha => ?_, fun z => Bool.noConfusion z⟩
            have hs2 : ((L2.start (["book", "e"] : List Str) (v0 :: vr)).set 1 (some (V.ref a)))[1]? = some (some (V.ref a)) := List.getElem?_set_self (by rw [hlen]; decide)
            exact ⟨.ref a, hs2, CN, CW, true, rfl, rfl, EN, rfl, kN, true, rfl, fin g S' rfl (.bl false) (.bl false)⟩
          · cases e
      · cases e
end
theorem len_und {K : PySem.W.Frag} {unF : Sl → List PyData → Option (Except Exn PyData × Sl)} {cls : Str} {vs : List V} {H : Hp} {Q : VK} {E : XK} (h : spF K (.mut (undF unF cls)) vs H Q E) : vs.length = 1 := by
  obtain ⟨Hf, fp, v0, vr, sl, ds, d, sl', ex, rfl, ow, hn, ne, ne', hd, e, q⟩ := h
  cases sl with
  | emp => cases e
  | val _ => cases e
  | lst _ => cases e
  | dct _ => cases e
  | bk fs past =>
    match ds, hd, e with
    | [], hd, _ => rw [List.length_cons, hd.length]; rfl
section
variable {P : Program} {w : World} {K : PySem.W.Frag} {mg : Str → Option Value} {base : Heap} {k : Nat} {sc : Scope} {X : Cx}
theorem body_und {BC CN CW : Addr} {m cls wn : Str} {unF : Sl → List PyData → Option (Except Exn PyData × Sl)} (C : Ctx P w K mg base k true ["book", "e"] sc X) (B : Blts mg) (H : MethXOk P w K mg base k m unF) (TB : BkTxt K BC) (hCN : ClsOk K mg cls CN) (hCW : ClsOk K mg wn CW) (hst : X.stack = X.env :: X.outer) (hfr : X.env.frame = some X.env.locals) (tk : Takes X (fun _ _ _ _ => False))
    {p p2 p4 p5 p6 p7 np hp pos q1 q2 q3 q4 q5 q6 : Pos} {j : Nat} {pl : Sem Bool}
    (ht : eval (.Call (.Attribute (.Name "book" p) m p2) [] [] p4) X.env = (do
      let ov ← eval (.Name "book" p) X.env
      standAt p2.atName
      let (f, first) ← holding [ov] (getMethod ov m pl)
      callWith p4 f first (backTo p4 (starEach [] X.env)) (backToKw p4 (keywordEach [] X.env))) := by rfl)
    (hv : (visB sc "book" && visB sc "e" && locB sc "e" && glB sc cls && !(cls == ("__debug__" : Str)) && glB sc wn && !(wn == ("__debug__" : Str)) && glB sc "isinstance") = true := by decide +kernel) :
    PSs X [.Try [.Return (some (.Compare (.Call (.Attribute (.Name "book" p) m p2) [] [] p4) [.Is] [.Constant .none j p5] p6)) p7]
      [.ExceptHandler (some (.Name cls np)) (some "e") [.Return (some (.UnaryOp .Not (.Call (.Name "isinstance" q1) [.Name "e" q2, .Name wn q3] [] q4) q5)) q6] hp] [] [] pos] (tUnd K BC m unF CN CW) := by
  simp only [Bool.and_eq_true, Bool.not_eq_true'] at hv
  obtain ⟨⟨⟨⟨⟨⟨⟨v1, v3⟩, l3⟩, g⟩, d⟩, g3⟩, d3⟩, g4⟩ := hv
  have nn := names_ok C hCN g d
  have nd := C.nd
  have hg' := w_gl C g4
  have hgw' := w_gl C g3
  have hx2 := fun (a : Addr) (q : List (Addr × Obj)) => sui_var C (pos := q2) (a := a) (q := q) 1 (x := "e") rfl v3 (by decide +kernel) (by decide +kernel)
  obtain ⟨rfl, rfl, rfl, rfl, rfl, hN, _, rfl, hc, hr, hgd, _⟩ := C
  refine pss_one (ps_try_mix (tb := fun W => tRet (tOp rIsN0 (tMeX BC m (spR X.K unF) W (tVar 0) (tF X.K [] .nil)) (tC .non))) (l := [(.ref CN, some 1, fun a cls d => tSuiU X.K CW a cls d)]) hst hfr (by rw [hN]; exact nd) tk (fun W pn xe tkW _ => ?_) (.named (by rw [hN]; rfl) (of_decide_eq_true l3) nn (fun a oe cls' d' pn hz hf => ?_) .nil))
  · obtain ⟨BC', f, T, M, F⟩ := H
    cases T.is.inj TB.is
    have ho : PE (X.tr pn xe) (.Name "book" p) (tVar 0) := pe_var (X := X.tr pn xe) (show X.N[0]? = _ by rw [hN]; rfl) (visB_is v1) (by decide +kernel) (by decide +kernel)
    exact pss_one (ps_ret (pe_cmpR (X := X.tr pn xe) (op := .Is) (r := rIsN0) op_isN (pe_methX0 (X := X.tr pn xe) (pl := pl) ho T.cl M (F (X.tr pn xe) W rfl rfl rfl rfl rfl hr hgd tkW) ht) pe_non rfl))
  · have hg2 : Gl (X.suite a ((a, oe) :: pn)) "isinstance" := hg'
    have hw2 : Gl (X.suite a ((a, oe) :: pn)) wn := hgw'
    have hb : PE (X.suite a ((a, oe) :: pn)) (.Name wn q3) (tC (.ref CW)) := pe_glob (X := X.suite a ((a, oe) :: pn)) hw2 hCW.2 rfl d3
    exact pss_one (ps_ret (pe_not (pe_callB (call_isU hz hf) hg2 (B _ (by decide +kernel)) rfl (pa_cons (hx2 a ((a, oe) :: pn)) (pa_cons hb pa_nil rfl) rfl) (by decide) (by decide) rfl rfl)))
end
section
variable {P : Program} {w : World} {K : PySem.W.Frag} {mg : Str → Option Value} {base : Heap} {k : Nat} {x qual : Str} {st : Stmt} {f BC : Addr} {m : Str} {unF : Sl → List PyData → Option (Except Exn PyData × Sl)}
theorem defUnd (T : BkTxt K BC) (D : Def K mg x qual st f .none) (hs : scopeB ["book", "e"] ["book"] (defScope st) = true) (hbi : bindsB st ["book"]) {CN CW : Addr} {cls : Str} (hCN : ClsOk K mg cls CN) (hex : PySem.W.exmOne K (.ref CN) (.ref CN) = some true) (EN : ExcC K CN) (kN : PySem.W.kitOne K (.ref CN) (.ref CW) = some true)
    (hm : (bkN ++ [("past" : Str)]).all (fun f => !(m == f)) = true) (hb : ∀ X : Cx, Ctx P w K mg base k true ["book", "e"] (defScope st) X → X.stack = X.env :: X.outer → X.env.frame = some X.env.locals → Takes X (fun _ _ _ _ => False) → PSs X (defBody st) (tUnd K BC m unF CN CW)) :
    CallOk P w K mg base (k + 1) x (.mut (undF unF cls)) := by
  obtain ⟨⟨oc, od, kV, doc, pm, an, cdv, ct, osl, lk, hcd⟩, hkp, hgl⟩ := D
  have S := scopeB_is hs
  have F : FnC P w K mg base CX0 (k + 1) f _ ["book"] (spF K (.mut (undF unF cls))) := fnC_of lk hcd S (fun _ _ _ _ h => len_und (unF := unF) h) fun A outer s H vs Q E hr hg hsp => ⟨_, PSs.nox (hb _ ⟨rfl, rfl, rfl, rfl, rfl, rfl, S.nd, rfl, rfl, hr, hg, fun _ _ => rfl, PassesOwn.never, S.kind⟩ rfl rfl fun u s' ⟨_, _, _, _, _, _, _, _, _, _, _, _, _, _, _, _, z⟩ => z), und_reads (E := E) T hm hCN.1 hex EN kN hsp⟩
  exact .of F hgl hkp (.all fun us hl => hbi x qual kV doc pm an cdv ct us hl)
end
end Cor
set_option Elab.async false
set_option linter.all false
set_option maxRecDepth 100000
set_option maxHeartbeats 4000000
/-! Core 9k: book.past == [] as a test. -/
namespace Cor
open PySem PySem.Spec PyProof.Rows L2
open Evl (Ex ex_l ex_t)
theorem pemp_reads {X : Cx} {G : List Fn} {BC : Addr} (T : BkTxt X.K BC) (i : Nat) {σ : L2.St} {H : Hp} {Q : VK} (h : tR X.K G (.pemp i) σ H Q) : tOp (rOp2 X.K fun x y => (eqS x y).map fun b => .val (.bool b)) (tFld X.K (tVar i) "past") (tLst tNil) σ H Q := by
  obtain ⟨Hf, fps, ρ, a, ρ', S, ee, q⟩ := h
  have ee : (match ρ[i]? with | some (.bk _ past) => if shp (.list past) then some (Arg.val (.bool past.isEmpty), ρ) else none | _ => none) = some (a, ρ') := ee
  split at ee
  · rename_i fs past hr
    split at ee
    · rename_i hs
      cases ee
      obtain ⟨v', h1, C', p, q', dx, vs, xs, rfl, hf, hC, hp, hq, hx, hl, hd, hd2⟩ := S.here i _ hr (fun z => nomatch z)
      cases hC.inj T.is
      refine ⟨_, h1, p, _, dx, _, V.ref q', rfl, hp, T.cl, T.no "past" (.tail _ (.tail _ (.tail _ (.tail _ (.head _))))), bk_past hl, ?_⟩
      refine ⟨by simp, fun p' hp' => ?_⟩
      have nq : q' ≠ p' := fun z => by rw [z, hp'] at hq; cases hq
      have eqv : eqS (.lst past) (.lst []) = some past.isEmpty := by
        have h0 : shp (.list []) = true := by simp [shp, SeqAt.shaped, PyData.canLay0, PyData.canLayAll0, PyData.depth, PyData.depthAll]
        unfold eqS
        simp only [datS, hs, h0, Bool.and_self, if_true]
        cases past <;> simp [PyData.eqv, PyData.eqvAll]
      refine ⟨Hf, .lst past, .lst [], [q'], [p'], .val (.bool past.isEmpty), (S.grow hp').ex, ⟨q', xs, rfl, rfl, by rw [upd_ne nq]; exact hq, hd2⟩, ⟨p', [], rfl, rfl, upd_same, .nil⟩, by simp only [eqv]; rfl, fun v H' r => ?_⟩
      cases r with
      | val d =>
        exact q Hf fps _ v (Go.refl.grow hp') (S.grow hp') d
    · cases ee
  · cases ee
theorem pemp_bool {G : List Fn} {i : Nat} {ρ : Rho} {a : Arg} {ρ' : Rho} (e : ev G (.pemp i) ρ = some (a, ρ')) : ∃ z, a = .val (.bool z) := by
  have ee : (match ρ[i]? with | some (.bk _ past) => if shp (.list past) then some (Arg.val (.bool past.isEmpty), ρ) else none | _ => none) = some (a, ρ') := e
  split at ee
  · split at ee
    · cases ee; exact ⟨_, rfl⟩
    · cases ee
  · cases ee
section
variable {P : Program} {w : World} {K : PySem.W.Frag} {mg : Str → Option Value} {base : Heap} {k : Nat} {top : Bool} {N : List Str} {sc : Scope} {X : Cx} {G : List Fn}
theorem t_pemp {pf pl pos : Pos} {eb : Expr} (C : Ctx P w K mg base k top N sc X) {BC : Addr} (T : BkTxt K BC) (i : Nat) (ho : PE X eb (tVar i)) (hb : attributeBase eb "past" X.env (eval eb X.env) = eval eb X.env := by rfl) : PT X (.Compare (.Attribute eb "past" pf) [.Eq] [.List [] pl] pos) (tT K G (.tval (.pemp i))) := by
  obtain ⟨rfl, rfl, rfl, rfl, rfl, rfl, _, rfl, hc, hr, hgd, _⟩ := C
  exact PT.weak (pt_cmpR (op_eqS (by have := Room.hu hr; omega)) (pe_fld ho hb) (pe_lst pa_nil) rfl) fun σ H Q q => test_of (fun σ H Q h => pemp_reads T i h) (fun ρ a ρ' e => pemp_bool e) q
end
end Cor
set_option Elab.async false
set_option linter.all false
set_option maxRecDepth 100000
set_option maxHeartbeats 4000000
/-! Cor10: the facts out of the head. -/
namespace Cor
open PySem PySem.Spec PyProof.Rows L2
theorem oexB_ok {K : PySem.W.Frag} {C : Addr} (h : oexB K C = true) : ∃ nm q N bs bm sn sub ab col dd k0 k1 k2 k3 k5, K.lookup C = some (excClassObj nm q C N bs bm true sn sub ab col dd k0 k1 k2 k3 k5 "ValueError.__new__") ∧ PySem.HandSPX.refsVE bm = true := by
  unfold oexB at h
  split at h
  · rename_i o t dd nm bs C' bm N q hd sn sub ab col hdel k0 k1 k2 k3 n k5 e
    simp only [Bool.and_eq_true, decide_eq_true_eq, Bool.not_eq_true'] at h
    obtain ⟨rfl, rfl, rfl, rfl, rfl, h6⟩ := h
    exact ⟨_, _, _, _, _, _, _, _, _, _, _, _, _, _, _, e, h6⟩
  · cases h
theorem errB_ok {K : PySem.W.Frag} {mg : Str → Option Value} {h : Heap} (X : K.In h) (G : h.Ns mainGlobals mg) {x f : Str} (c : errB K x f = true) : ErrTxt K mg x (He.ga K x) (He.ma K (He.ga K x) "__init__") f := by
  unfold errB at c
  simp only [Bool.and_eq_true, decide_eq_true_eq] at c
  obtain ⟨h1, h2, h3, h4, h5, h6, h7, h8, h9⟩ := c
  exact ⟨He.eqO_ok h9, PySem.W.mg_of X G (He.eqO_ok h9), ⟨oexB_ok h1, He.eqO_ok h2, h3, h4, h5⟩, He.eqO_ok h6, He.eqO_ok h7, h8⟩
theorem errRB_ok {K : PySem.W.Frag} {x f : Str} (c : errRB K x f = true) : ErrRd K (He.ga K x) f := by
  unfold errRB at c
  simp only [Bool.and_eq_true, decide_eq_true_eq] at c
  obtain ⟨h1, h2, h3, h4, h5⟩ := c
  exact ⟨He.eqO_ok h1, He.eqO_ok h2, h3, h4, He.eqO_ok h5⟩
theorem excCB_ok {K : PySem.W.Frag} {x : Str} (c : excCB K x = true) : ExcC K (He.ga K x) := by
  unfold excCB at c
  simp only [Bool.and_eq_true, decide_eq_true_eq] at c
  obtain ⟨h1, h2, h3, h4, h5, h6, h7, h8⟩ := c
  exact ⟨He.eqO_ok h1, He.eqO_ok h2, h3, h4, He.eqO_ok h5, He.eqO_ok h6, h7, h8⟩
theorem insB_ok {K : PySem.W.Frag} {x : Str} (hc : L2.Cls K (He.ga K x)) (c : insB K x = true) : C8.InsC K (He.ga K x) := by
  unfold insB at c
  simp only [Bool.and_eq_true, decide_eq_true_eq] at c
  obtain ⟨h1, h2, h3, h4, h5⟩ := c
  exact ⟨hc, He.eqO_ok h1, He.eqO_ok h2, h3, h4, h5⟩
theorem entB_find : ∀ {es : List DictEntry} {kvs : List (Str × Int)}, entB es kvs = true → ∀ z : Str, match kvs.lookup z with
    | some i => ∃ e t, es.find? (·.key.isStr z) = some e ∧ e.val = .int i t
    | none => es.find? (·.key.isStr z) = none ∧ es.any (·.refKey) = false
  | [], [], _, z => ⟨rfl, rfl⟩
  | [], _ :: _, h, _ => by cases h
  | _ :: _, [], h, _ => by cases h
  | e :: es, (k, i) :: qs, h, z => by
    unfold entB at h
    obtain ⟨h1, h2⟩ := Bool.and_eq_true_iff.mp h
    have ih := entB_find h2 z
    obtain ⟨hash, key, val⟩ := e
    split at h1
    · rename_i x t j u e1 e2
      obtain ⟨h3, h4⟩ := Bool.and_eq_true_iff.mp h1
      have hx : x = k := of_decide_eq_true h3
      have hj : j = i := of_decide_eq_true h4
      subst hx hj
      simp only at e1 e2
      subst e1 e2
      rw [List.lookup_cons]
      by_cases c : z = x
      · subst c
        simp only [BEq.rfl]
        exact ⟨{ hash := hash, key := .str z t, val := .int j u }, u, by rw [List.find?_cons]; simp [Value.isStr], rfl⟩
      · have cb : (z == x) = false := by simpa using c
        rw [cb]
        simp only
        have c2 : (Value.isStr (.str x t) z) = false := by
          simp [Value.isStr]; exact fun q => c q.symm
        have e3 : (({ hash := hash, key := .str x t, val := .int j u } : DictEntry) :: es).find? (·.key.isStr z) = es.find? (·.key.isStr z) := by
          rw [List.find?_cons]
          simp only [c2]
        rw [e3]
        cases hq : qs.lookup z with
        | some i' => rw [hq] at ih; exact ih
        | none =>
          rw [hq] at ih
          refine ⟨ih.1, ?_⟩
          rw [List.any_cons, ih.2]
          rfl
    · cases h1
theorem wrtB_ok {K : PySem.W.Frag} {w : World} {mg : Str → Option Value} {h : Heap} (X : K.In h) (G : h.Ns mainGlobals mg) {x : Str} {kvs : List (Str × Int)} (c : wrtB K x kvs = true) (t : ∃ es n, KDict K w (He.ga K x) es n) : WrtOk K w mg x kvs := by
  unfold wrtB at c
  split at c
  · rename_i o ty es ep e
    simp only [Bool.and_eq_true, decide_eq_true_eq, Bool.not_eq_true'] at c
    obtain ⟨rfl, h2, h3, h4⟩ := c
    refine ⟨He.ga K x, PySem.W.mg_of X G (He.eqO_ok h4), h3, es, ep, e, ?_, fun z => ?_⟩
    · obtain ⟨es', n', hl, hk, _⟩ := t
      rw [e] at hl
      cases hl
      exact hk
    · have f := entB_find h2 z
      have en : PySem.W.nsIn K (He.ga K x) z = (match es.toList.find? (·.key.isStr z) with
          | some e => some (some e.val)
          | none => if es.toList.any (·.refKey) then none else some none) := by
        unfold PySem.W.nsIn
        rw [e]
        kernel_rfl
      rw [en]
      cases hq : kvs.lookup z with
      | some i =>
        rw [hq] at f
        obtain ⟨e1, t1, h5, h6⟩ := f
        exact ⟨t1, by rw [h5]; simp only [h6]⟩
      | none =>
        rw [hq] at f
        show (match es.toList.find? (·.key.isStr z) with
          | some e => some (some e.val)
          | none => if es.toList.any (·.refKey) then none else some none) = some none
        rw [f.1, f.2]; rfl
  · cases c
/-! ### defs -/
section
variable {K : PySem.W.Frag} {mg : Str → Option Value} {x q : Str} {st : Stmt}
theorem def_of (F : ∃ fd, FunD K x x (defArgs st) (defBody st) (defScope st) [] [] (He.ga K x) fd) (g : mg x = some (.ref (He.ga K x))) : Def K mg x x st (He.ga K x) .none := by
  obtain ⟨fd, ⟨oc, od, dV, kV, doc, pm, an, cdv, ct, osl, rfl, lk, hcd, hD, _⟩, kp⟩ := F
  rcases hD with ⟨_, rfl⟩ | ⟨e, _⟩
  · exact ⟨⟨oc, od, kV, doc, pm, an, cdv, ct, osl, lk, hcd⟩, kp, g⟩
  · exact absurd rfl e
theorem defD_of {dvs : List V} (F : ∃ fd, FunD K x x (defArgs st) (defBody st) (defScope st) dvs [] (He.ga K x) fd) (g : mg x = some (.ref (He.ga K x))) : DefD K mg x x st (He.ga K x) dvs := by
  obtain ⟨fd, ⟨oc, od, dV, kV, doc, pm, an, cdv, ct, osl, rfl, lk, hcd, hD, _⟩, kp⟩ := F
  exact ⟨⟨oc, od, dV, kV, doc, pm, an, cdv, ct, osl, lk, hcd, hD⟩, kp, g⟩
theorem defM_of {C m : Str} (F : ∃ fd, FunD K m q (defArgs st) (defBody st) (defScope st) [] [] (He.ma K (He.ga K C) m) fd) (me : L2.Meth K (He.ga K C) m (He.ma K (He.ga K C) m)) : DefM K m q st (He.ga K C) (He.ma K (He.ga K C) m) := by
  obtain ⟨fd, ⟨oc, od, dV, kV, doc, pm, an, cdv, ct, osl, rfl, lk, hcd, hD, _⟩, kp⟩ := F
  rcases hD with ⟨_, rfl⟩ | ⟨e, _⟩
  · exact ⟨⟨oc, od, kV, doc, pm, an, cdv, ct, osl, lk, hcd⟩, me⟩
  · exact absurd rfl e
theorem fun_of {f : Addr} (F : ∃ fd, FunD K x q (defArgs st) (defBody st) (defScope st) [] [] f fd) : ∃ fd, Fun K x q st f fd := by
  obtain ⟨fd, ⟨oc, od, dV, kV, doc, pm, an, cdv, ct, osl, rfl, lk, hcd, hD, _⟩, kp⟩ := F
  rcases hD with ⟨_, rfl⟩ | ⟨e, _⟩
  · exact ⟨_, ⟨oc, od, kV, doc, pm, an, cdv, ct, osl, rfl, lk, hcd⟩, kp⟩
  · exact absurd rfl e
end
section
variable {P : Program} {w : World} {K : PySem.W.Frag} {mg : Str → Option Value} {base : Heap}
/-- an own error, raised by its name -/
theorem err_of {x f g q : Str} {st : Stmt} (T : ErrTxt K mg x (He.ga K x) (He.ma K (He.ga K x) "__init__") f) (F : ∃ fd, FunD K "__init__" q (defArgs st) (defBody st) (defScope st) [] [] (He.ma K (He.ga K x) "__init__") fd) (S : FnScope [("self" : Str), g] [("self" : Str), g] (defScope st)) (hb : bindsB st [("self" : Str), g])
    (h : ∀ X : Cx, X.K = K → X.N = [("self" : Str), g] → X.env.scope = defScope st → PSs X (defBody st) (tOst K f (tVar 0) (tVar 1))) : ErrOk P w K mg base x f := by
  obtain ⟨fd, F⟩ := fun_of F
  refine ⟨He.ga K x, _, fd, g, T, spE_init T F S h, ?_⟩
  exact F.binds fun kV doc pm an cdv ct us hl => hb _ _ kV doc pm an cdv ct us hl
theorem cst_int (X : Nat → Prop) {x : Str} {i : Int} (h : ∃ t, mg x = some (.int i t)) : CstOk K mg x (.int i) := by
  obtain ⟨t, h⟩ := h
  exact ⟨.int i, _, h, ⟨t, rfl⟩, .int i⟩
theorem cst_str {x z : Str} (h : ∃ t, mg x = some (.str z t)) : CstOk K mg x (.str z) := by
  obtain ⟨t, h⟩ := h
  exact ⟨.str z, _, h, ⟨t, rfl⟩, .str z⟩
/-- a def's promise, its function at hand -/
theorem law_fn {G : List Fn} {fu : Nat} {b : CB} {x qual p : Str} {st : Stmt} {f : Addr} {N : List Str} {k : Nat} (D : Def K mg x qual st f .none) (hs : scopeB N [p] (defScope st) = true) (hbi : bindsB st [p])
    (h : ∀ base : Heap, K.In base → base.Ns mainGlobals mg → ∀ (W : WX) (X : Cx), Ctx P w K mg base k true N (defScope st) X → Takes X W → PSs X (defBody st) (tB K W G fu (fun _ => false) b)) :
    ∃ fd : FuncData, (∀ (s : Shared) (u : Value), BindsTo s fd ⟨[u], []⟩ [(p, u)]) ∧ ∀ base : Heap, K.In base → base.Ns mainGlobals mg → FnC P w K mg base CX0 (k + 1) f fd [p] (spF K (.pur (runP G fu N.length 1 b))) := by
  obtain ⟨⟨oc, od, kV, doc, pm, an, cdv, ct, osl, lk, hcd⟩, hkp, hgl⟩ := D
  have S := scopeB_is hs
  exact ⟨_, fun s u => .of_eq (hbi x qual kV doc pm an cdv ct [u] rfl), fun base kb nb => funP lk hcd S (body_ok S.nd S.kind (h base kb nb))⟩
end
theorem nsg_ok {K : PySem.W.Frag} {x : Str} (c : (He.Fa.glo x).ok K = true) : PySem.W.nsIn K mainGlobals x = some (some (.ref (He.ga K x))) := He.eqO_ok c
theorem blts_of {mg : Str → Option Value} (h : ∀ x ∈ bltL, mg x = none) : Blts mg := h
/-- the goal of head_any, the frag as it comes -/
theorem walk_CE {l : PySem.W.OpenLaw} {n k : Nat} {q : Program} {loose : List Str} {XP : (Str → Option Value) → Heap → Prop} {YP : World → Heap → Prop} {d : DefRec} {x : Str} {fn : List PyData → Option PyData}
    (hn : l.most = some n) (hn2 : n ≤ sizeLine) (hdf : d.params.defaults = []) (hr : Room k callerA)
    (F : ∀ (w : World) (mg : Str → Option Value) (fa : Addr) (h : Heap), YP w h → h.Ns mainGlobals mg → mg d.name = some (.ref fa) →
      ∃ (K : PySem.W.Frag) (fd : FuncData), K.In h ∧ (∀ (s : Shared) (u : Value), BindsTo s fd ⟨[u], []⟩ [(x, u)]) ∧ ∀ base : Heap, K.In base → base.Ns mainGlobals mg → FnC l.prog w K mg base CX0 k fa fd [x] (spF K (.pur fn)))
    (hfn : ∀ ns : List Int, ns.length ≤ n → fn [.list (ns.map .int)] = some (.bool true)) : PySem.W.WalkO q loose XP YP l.row.toRowW d [] (fun f vs => PySem.call f vs) := by
  refine Att.attach_call hn hdf fun w s₀ s₁ mg mb fa o pm cd doc a vs ns G Y ho hd hcd hmg hobj hints hlen hg => ?_
  obtain ⟨K, fd, KX, hb, hF⟩ := F w mg fa _ Y G.T.g hmg
  exact law_callC KX G.T.g G.T.b G.T.builtins G.T.nolimit hg hobj hints (Nat.le_trans hlen hn2) hr hF hb (hfn ns hlen)
end Cor
set_option Elab.async false
set_option linter.all false
set_option maxRecDepth 100000
set_option maxHeartbeats 4000000
/-! P1: the evaluator's equations as rules for simp; loops and comprehensions. -/
namespace Cor
open PySem PySem.Spec PyProof.Rows L2

section
variable {G : List Fn} {ρ : Rho} {fu : Nat}
theorem ev_var (i : Nat) : ev G (.var i) ρ = (look ρ i).map fun a => (a, ρ) := by rw [ev]
@[simp] theorem ev_cst (d : PyData) : ev G (.cst d) ρ = some (.val d, ρ) := by rw [ev]
theorem ev_tup (es : CA) : ev G (.tup es) ρ = (evF G es ρ).bind fun p => if sm p.1 then some (.val (.tuple p.1), p.2) else none := by rw [ev]; rfl
theorem ev_lst (es : CA) : ev G (.lst es) ρ = (evF G es ρ).bind fun p => if sm p.1 then some (.fr (.lst p.1), p.2) else none := by rw [ev]; rfl
theorem ev_bin (op : Operator) (a b : CE) : ev G (.bin op a b) ρ = (ev G a ρ).bind fun p => (ev G b p.2).bind fun q => (cont q.2 p.1).bind fun x => (cont q.2 q.1).bind fun y => (binS op x y).map fun z => (z, q.2) := by
  rw [ev]; simp only [Option.bind_eq_bind, Option.map_eq_bind]; rfl
theorem ev_neg (a : CE) : ev G (.neg a) ρ = (ev G a ρ).bind fun p => (cont p.2 p.1).bind fun x => (negS x).map fun z => (z, p.2) := by
  rw [ev]; simp only [Option.bind_eq_bind, Option.map_eq_bind]; rfl
theorem ev_cmp (op : CmpOp) (a b : CE) : ev G (.cmp op a b) ρ = (ev G a ρ).bind fun p => (ev G b p.2).bind fun q => (cont q.2 p.1).bind fun x => (cont q.2 q.1).bind fun y => (cmpS op x y).map fun z => (.val (.bool z), q.2) := by
  rw [ev]; simp only [Option.bind_eq_bind, Option.map_eq_bind]; rfl
theorem ev_chn (o1 o2 : CmpOp) (a b c : CE) : ev G (.chn o1 o2 a b c) ρ = (ev G a ρ).bind fun p => (ev G b p.2).bind fun q => (cont q.2 p.1).bind fun x => (cont q.2 q.1).bind fun y => (cmpS o1 x y).bind fun z =>
    if z then (ev G c q.2).bind fun r => (cont r.2 q.1).bind fun y' => (cont r.2 r.1).bind fun w => (cmpS o2 y' w).map fun z' => (.val (.bool z'), r.2) else some (.val (.bool false), q.2) := by
  rw [ev]; simp only [Option.bind_eq_bind, Option.map_eq_bind]; rfl
theorem ev_andd (a b : CE) : ev G (.andd a b) ρ = (ev G a ρ).bind fun p => (cont p.2 p.1).bind fun s => (truS s).bind fun t => if t then ev G b p.2 else some p := by
  rw [ev]; rfl
theorem ev_orr (a b : CE) : ev G (.orr a b) ρ = (ev G a ρ).bind fun p => (cont p.2 p.1).bind fun s => (truS s).bind fun t => if t then some p else ev G b p.2 := by
  rw [ev]; rfl
theorem ev_nott (a : CE) : ev G (.nott a) ρ = (ev G a ρ).bind fun p => (cont p.2 p.1).bind fun s => (truS s).map fun t => (.val (.bool (!t)), p.2) := by
  rw [ev]; simp only [Option.bind_eq_bind, Option.map_eq_bind]; rfl
theorem ev_ife (c : CT) (a b : CE) : ev G (.ife c a b) ρ = (evT G c ρ).bind fun p => if p.1 then ev G a p.2 else ev G b p.2 := by
  rw [ev]; rfl
theorem ev_idx (a b : CE) : ev G (.idx a b) ρ = (ev G a ρ).bind fun p => (ev G b p.2).bind fun q => (cont q.2 p.1).bind fun x => (cont q.2 q.1).bind fun y => (idxS x y).map fun z => (z, q.2) := by
  rw [ev]; simp only [Option.bind_eq_bind, Option.map_eq_bind]; rfl
theorem ev_sli (a : CE) (lo hi : CO) : ev G (.sli a lo hi) ρ = (ev G a ρ).bind fun p => (evO G lo p.2).bind fun l => (evO G hi l.2).bind fun h => (cont h.2 p.1).bind fun x => (sliS x l.1 h.1).map fun z => (z, h.2) := by
  rw [ev]; simp only [Option.bind_eq_bind, Option.map_eq_bind]; rfl
theorem ev_calP {k : Nat} {f : List PyData → Option PyData} {es : CA} (h : G[k]? = some (.pur f)) : ev G (.cal k es) ρ = (evF G es ρ).bind fun p => (f p.1).map fun d => (.val d, p.2) := by
  rw [ev, h]; simp only [Option.bind_eq_bind, Option.map_eq_bind]; rfl
theorem ev_calK {k : Nat} {f : List PyData → Option Sl} {es : CA} (h : G[k]? = some (.mak f)) : ev G (.cal k es) ρ = (evF G es ρ).bind fun p => (f p.1).bind fun s => if noEmp s then some (.fr s, p.2) else none := by
  rw [ev, h]; rfl
/-- a def that changes its first argument -/
def calM (f : Sl → List PyData → Option (PyData × Sl)) (p : Arg × Rho) (q : List PyData × Rho) : Option (Arg × Rho) := match p.1 with
  | .own i => (q.2[i]?).bind fun sl => (f sl q.1).bind fun r => if noEmp sl && noEmp r.2 then some (.val r.1, q.2.set i r.2) else none
  | .fr sl => (f sl q.1).bind fun r => if noEmp r.2 then some (.val r.1, q.2) else none
  | .val _ => none
theorem ev_calM {k : Nat} {f : Sl → List PyData → Option (PyData × Sl)} {e : CE} {r : CA} (h : G[k]? = some (.mut f)) : ev G (.cal k (.cons false e r)) ρ = (ev G e ρ).bind fun p => (evF G r p.2).bind fun q => calM f p q := by
  rw [ev, h]; simp only [Option.bind_eq_bind]; 
  refine congrArg (Option.bind _) (funext fun p => congrArg (Option.bind _) (funext fun q => ?_))
  unfold calM
  cases p.1 <;> rfl
theorem ev_bi (b : Bi) (es : CA) : ev G (.bi b es) ρ = (evR G es ρ).bind fun p => (p.1.mapM (cont p.2)).bind fun ss => (biS b ss).map fun z => (z, p.2) := by
  rw [ev]; simp only [Option.bind_eq_bind, Option.map_eq_bind]; rfl
theorem ev_dsp (k v : CE) : ev G (.dsp k v) ρ = (ev G k ρ).bind fun p => (frz p.2 p.1).bind fun p' => (ev G v p'.2).bind fun q => (frz q.2 q.1).bind fun q' => (keyD p'.1).map fun key => (.fr (.dct [(key, q'.1)]), q'.2) := by
  rw [ev]; simp only [Option.bind_eq_bind, Option.map_eq_bind]; rfl
def popS (ρ : Rho) (i : Nat) : Option Sl → Option (Arg × Rho)
  | some (.lst ds) => (ds[ds.length - 1]?).map fun d => (.val d, ρ.set i (.lst ds.dropLast))
  | _ => none
@[simp] theorem ev_pop (i : Nat) : ev G (.pop i) ρ = popS ρ i ρ[i]? := by
  rw [ev]; unfold popS
  rcases ρ[i]? with _ | (_ | _ | _ | _ | _) <;> first | rfl | (simp only [Option.bind_eq_bind, Option.map_eq_bind]; rfl)
def fldS (ρ : Rho) (j : Nat) : Option Sl → Option (Arg × Rho)
  | some (.bk fs _) => (fs[j]?).map fun d => (.val d, ρ)
  | _ => none
@[simp] theorem ev_fld (i j : Nat) : ev G (.fld i j) ρ = fldS ρ j ρ[i]? := by
  rw [ev]; unfold fldS
  rcases ρ[i]? with _ | (_ | _ | _ | _ | _) <;> rfl
theorem fldS_bk (j : Nat) (fs past : List PyData) : fldS ρ j (some (.bk fs past)) = (fs[j]?).map fun d => (.val d, ρ) := rfl
def mthS (f : Sl → List PyData → Option (PyData × Sl)) (i : Nat) (q : Option (List PyData × Rho)) : Option Sl → Option (Arg × Rho)
  | some (.bk _ _) => q.bind fun q => (q.2[i]?).bind fun sl => (f sl q.1).bind fun r => if noEmp sl && noEmp r.2 then some (.val r.1, q.2.set i r.2) else none
  | _ => none
theorem ev_mth {k i : Nat} {f : Sl → List PyData → Option (PyData × Sl)} {es : CA} (h : G[k]? = some (.mut f)) : ev G (.mth k i es) ρ = mthS f i (evF G es ρ) ρ[i]? := by
  rw [ev, h]; unfold mthS
  rcases ρ[i]? with _ | (_ | _ | _ | _ | _) <;> first | rfl | (simp only [Option.bind_eq_bind]; rfl)
@[simp] theorem mthS_bk (f : Sl → List PyData → Option (PyData × Sl)) (i : Nat) (q : Option (List PyData × Rho)) (fs past : List PyData) : mthS f i q (some (.bk fs past)) = q.bind fun q => (q.2[i]?).bind fun sl => (f sl q.1).bind fun r => if noEmp sl && noEmp r.2 then some (.val r.1, q.2.set i r.2) else none := rfl
def pempS (ρ : Rho) : Option Sl → Option (Arg × Rho)
  | some (.bk _ past) => if shp (.list past) then some (.val (.bool past.isEmpty), ρ) else none
  | _ => none
@[simp] theorem ev_pemp (i : Nat) : ev G (.pemp i) ρ = pempS ρ ρ[i]? := by
  rw [ev]; unfold pempS
  rcases ρ[i]? with _ | (_ | _ | _ | _ | _) <;> rfl
@[simp] theorem pempS_bk (fs past : List PyData) : pempS ρ (some (.bk fs past)) = if shp (.list past) then some (.val (.bool past.isEmpty), ρ) else none := rfl
def ppopS (ρ : Rho) (i : Nat) : Option Sl → Option (Arg × Rho)
  | some (.bk fs past) => (past[past.length - 1]?).map fun d => (.val d, ρ.set i (.bk fs past.dropLast))
  | _ => none
@[simp] theorem ev_ppop (i : Nat) : ev G (.ppop i) ρ = ppopS ρ i ρ[i]? := by
  rw [ev]; unfold ppopS
  rcases ρ[i]? with _ | (_ | _ | _ | _ | _) <;> rfl
theorem ppopS_bk (i : Nat) (fs past : List PyData) : ppopS ρ i (some (.bk fs past)) = (past[past.length - 1]?).map fun d => (.val d, ρ.set i (.bk fs past.dropLast)) := rfl
def inWS (kvs : List (Str × Int)) (p : Arg × Rho) : Option (Arg × Rho) := match p.1 with
  | .val (.str z) => some (.val (.bool (kvs.lookup z).isSome), p.2)
  | _ => none
theorem ev_inW (kvs : List (Str × Int)) (e : CE) : ev G (.inW kvs e) ρ = (ev G e ρ).bind (inWS kvs) := by
  rw [ev]; simp only [Option.bind_eq_bind]; rfl
@[simp] theorem inWS_str (kvs : List (Str × Int)) (z : Str) : inWS kvs (.val (.str z), ρ) = some (.val (.bool (kvs.lookup z).isSome), ρ) := rfl
def atWS (kvs : List (Str × Int)) (p : Arg × Rho) : Option (Arg × Rho) := match p.1 with
  | .val (.str z) => (kvs.lookup z).map fun i => (.val (.int i), p.2)
  | _ => none
theorem ev_atW (kvs : List (Str × Int)) (e : CE) : ev G (.atW kvs e) ρ = (ev G e ρ).bind (atWS kvs) := by
  rw [ev]; simp only [Option.bind_eq_bind]; rfl
theorem atWS_str (kvs : List (Str × Int)) (z : Str) : atWS kvs (.val (.str z), ρ) = (kvs.lookup z).map fun i => (.val (.int i), ρ) := rfl
/-- a comprehension's item, put behind those ahead -/
def eltA (G : List Fn) (elt : CE) (acc : List PyData) (ρ : Rho) : Option (List PyData × Rho) := (ev G elt ρ).bind fun p => (frz p.2 p.1).map fun q => (acc ++ [q.1], q.2)
theorem ev_comp (it : CI) (tg : Tg) (c : CT) (elt : CE) (vs : List Nat) : ev G (.comp it tg c elt vs) ρ = (evI G it ρ).bind fun p => if freeR p.2 vs && sm p.1 then (compGo p.2 vs (asgT tg) (evT G c) (eltA G elt) p.1 [] p.2).map fun q => (.fr (.lst q.1), q.2) else none := by
  rw [ev]; simp only [Option.bind_eq_bind, Option.map_eq_bind]
  refine congrArg (Option.bind _) (funext fun p => ?_)
  have : eltA G elt = fun acc ρ => (ev G elt ρ).bind fun p => (frz p.2 p.1).bind fun q => some (acc ++ [q.1], q.2) := by
    funext acc ρ; unfold eltA; simp only [Option.map_eq_bind]; rfl
  rw [this]; rfl
/-- the inner turns of a comprehension of two clauses -/
def inn2 (G : List Fn) (it2 : CI) (tg2 : Tg) (c2 : CT) (elt : CE) (vs2 : List Nat) (acc : List PyData) (ρ : Rho) : Option (List PyData × Rho) :=
  (evI G it2 ρ).bind fun p => if freeR p.2 vs2 && p.1.length ≤ 300 then compGo p.2 vs2 (asgT tg2) (evT G c2) (eltA G elt) p.1 acc p.2 else none
theorem ev_comp2 (it : CI) (tg : Tg) (c : CT) (it2 : CI) (tg2 : Tg) (c2 : CT) (elt : CE) (vs vs2 : List Nat) : ev G (.comp2 it tg c it2 tg2 c2 elt vs vs2) ρ = (evI G it ρ).bind fun p => if freeR p.2 vs && p.1.length ≤ 300 then (compGo p.2 vs (asgT tg) (evT G c) (inn2 G it2 tg2 c2 elt vs2) p.1 [] p.2).map fun q => (.fr (.lst q.1), q.2) else none := by
  rw [ev]; simp only [Option.bind_eq_bind, Option.map_eq_bind]
  refine congrArg (Option.bind _) (funext fun p => ?_)
  have e : eltA G elt = fun acc ρ => (ev G elt ρ).bind fun p => (frz p.2 p.1).bind fun q => some (acc ++ [q.1], q.2) := by
    funext acc ρ; unfold eltA; simp only [Option.map_eq_bind]; rfl
  unfold inn2
  rw [e]; rfl
@[simp] theorem evT_yes : evT G .yes ρ = some (true, ρ) := by rw [evT]
theorem evT_and (a b : CT) : evT G (.tand a b) ρ = (evT G a ρ).bind fun p => if p.1 then evT G b p.2 else some (false, p.2) := by
  rw [evT]; rfl
theorem evT_or (a b : CT) : evT G (.tor a b) ρ = (evT G a ρ).bind fun p => if p.1 then some (true, p.2) else evT G b p.2 := by
  rw [evT]; rfl
theorem evT_not (a : CT) : evT G (.tnot a) ρ = (evT G a ρ).map fun p => (!p.1, p.2) := by
  rw [evT]; simp only [Option.bind_eq_bind, Option.map_eq_bind]; rfl
theorem evT_val (e : CE) : evT G (.tval e) ρ = (ev G e ρ).bind fun p => (cont p.2 p.1).bind fun s => (truS s).map fun t => (t, p.2) := by
  rw [evT]; simp only [Option.bind_eq_bind, Option.map_eq_bind]; rfl
@[simp] theorem evF_nil : evF G .nil ρ = some ([], ρ) := by rw [evF]
theorem evF_cons (e : CE) (r : CA) : evF G (.cons false e r) ρ = (ev G e ρ).bind fun p => (frz p.2 p.1).bind fun q => (evF G r q.2).map fun s => (q.1 :: s.1, s.2) := by
  rw [evF]; simp only [Option.bind_eq_bind, Option.map_eq_bind]; rfl
theorem evF_star (e : CE) (r : CA) : evF G (.cons true e r) ρ = (ev G e ρ).bind fun p => (cont p.2 p.1).bind fun s => (seqS s).bind fun xs => (evF G r p.2).map fun t => (xs ++ t.1, t.2) := by
  rw [evF]; simp only [Option.bind_eq_bind, Option.map_eq_bind]; rfl
@[simp] theorem evR_nil : evR G .nil ρ = some ([], ρ) := by rw [evR]
theorem evR_cons (e : CE) (r : CA) : evR G (.cons false e r) ρ = (ev G e ρ).bind fun p => (evR G r p.2).map fun s => (p.1 :: s.1, s.2) := by
  rw [evR]; simp only [Option.bind_eq_bind, Option.map_eq_bind]; rfl
@[simp] theorem evO_non : evO G .non ρ = some (none, ρ) := by rw [evO]
def intA (p : Arg × Rho) : Option (Option Int × Rho) := match p.1 with
  | .val (.int i) => some (some i, p.2)
  | _ => none
@[simp] theorem intA_int (i : Int) : intA (.val (.int i), ρ) = some (some i, ρ) := rfl
theorem evO_som (e : CE) : evO G (.som e) ρ = (ev G e ρ).bind intA := by
  rw [evO]; simp only [Option.bind_eq_bind]; rfl
def seqI (q : PyData × Rho) : Option (List PyData × Rho) := match q.1 with
  | .list ds => some (ds, q.2)
  | .tuple ds => some (ds, q.2)
  | _ => none
@[simp] theorem seqI_l (ds : List PyData) : seqI (.list ds, ρ) = some (ds, ρ) := rfl
@[simp] theorem seqI_t (ds : List PyData) : seqI (.tuple ds, ρ) = some (ds, ρ) := rfl
theorem evI_seq (e : CE) : evI G (.seq e) ρ = (ev G e ρ).bind fun p => (frz p.2 p.1).bind seqI := by
  rw [evI]; simp only [Option.bind_eq_bind]; rfl
def rngI (p : Arg × Rho) : Option (List PyData × Rho) := match p.1 with
  | .val (.int j) => if -100000 < j ∧ j < 100000 then some (rngD 0 j, p.2) else none
  | _ => none
@[simp] theorem rngI_int (j : Int) : rngI (.val (.int j), ρ) = if -100000 < j ∧ j < 100000 then some (rngD 0 j, ρ) else none := rfl
theorem evI_rng1 (e : CE) : evI G (.rng1 e) ρ = (ev G e ρ).bind rngI := by
  rw [evI]; simp only [Option.bind_eq_bind]; rfl
def rngI2 (x y : Arg) (ρ : Rho) : Option (List PyData × Rho) := match x, y with
  | .val (.int i), .val (.int j) => if -100000 < i ∧ i < 100000 ∧ -100000 < j ∧ j < 100000 then some (rngD i j, ρ) else none
  | _, _ => none
@[simp] theorem rngI2_int (i j : Int) : rngI2 (.val (.int i)) (.val (.int j)) ρ = if -100000 < i ∧ i < 100000 ∧ -100000 < j ∧ j < 100000 then some (rngD i j, ρ) else none := rfl
theorem evI_rng2 (a b : CE) : evI G (.rng2 a b) ρ = (ev G a ρ).bind fun p => (ev G b p.2).bind fun q => rngI2 p.1 q.1 q.2 := by
  rw [evI]; simp only [Option.bind_eq_bind]; rfl
def enuI (q : PyData × Rho) : Option (List PyData × Rho) := match q.1 with
  | .list ds => some (enuD ds, q.2)
  | .tuple ds => some (enuD ds, q.2)
  | _ => none
@[simp] theorem enuI_l (ds : List PyData) : enuI (.list ds, ρ) = some (enuD ds, ρ) := rfl
@[simp] theorem enuI_t (ds : List PyData) : enuI (.tuple ds, ρ) = some (enuD ds, ρ) := rfl
theorem evI_enu (e : CE) : evI G (.enu e) ρ = (ev G e ρ).bind fun p => (frz p.2 p.1).bind enuI := by
  rw [evI]; simp only [Option.bind_eq_bind]; rfl
end
end Cor
set_option Elab.async false
set_option linter.all false
set_option maxRecDepth 100000
set_option maxHeartbeats 4000000
/-! P2: statements; loops and comprehensions. -/
namespace Cor
open PySem PySem.Spec PyProof.Rows L2

section
variable {G : List Fn} {ρ : Rho} {fu : Nat}
/-- what comes behind a statement -/
def thenO (f : Rho → Option Out) : Out → Option Out
  | .nx ρ => f ρ
  | .rt a ρ => some (.rt a ρ)
  | .bk ρ => some (.bk ρ)
  | .ct ρ => some (.ct ρ)
  | .ex c ρ => some (.ex c ρ)
@[simp] theorem thenO_nx (f : Rho → Option Out) : thenO f (.nx ρ) = f ρ := rfl
@[simp] theorem thenO_rt (f : Rho → Option Out) (a : Arg) : thenO f (.rt a ρ) = some (.rt a ρ) := rfl
@[simp] theorem thenO_bk (f : Rho → Option Out) : thenO f (.bk ρ) = some (.bk ρ) := rfl
@[simp] theorem thenO_ct (f : Rho → Option Out) : thenO f (.ct ρ) = some (.ct ρ) := rfl
@[simp] theorem thenO_ex (f : Rho → Option Out) (c : Exn) : thenO f (.ex c ρ) = some (.ex c ρ) := rfl
@[simp] theorem exB_nil : exB G fu .nil ρ = some (.nx ρ) := by rw [exB]
theorem exB_cons (s : CS) (r : CB) : exB G fu (.cons s r) ρ = (ex G fu s ρ).bind (thenO (exB G fu r)) := by
  rw [exB]; refine congrArg (Option.bind _) (funext fun o => ?_); cases o <;> rfl
@[simp] theorem ex_pas : ex G fu .pas ρ = some (.nx ρ) := by rw [ex]
theorem ex_exp (e : CE) : ex G fu (.exp e) ρ = (ev G e ρ).map fun p => .nx p.2 := by rw [ex]
theorem ex_asg (i : Nat) (e : CE) : ex G fu (.asg i e) ρ = (ev G e ρ).bind fun p => (preA p.2 p.1).bind fun p2 => (putA i p2.1 p2.2).map .nx := by rw [ex]
theorem ex_asgT (is : List Nat) (e : CE) : ex G fu (.asgT is e) ρ = (ev G e ρ).bind fun p => (frz p.2 p.1).bind fun p2 => (asgT (.tp is) p2.1 p2.2).map .nx := by rw [ex]
theorem ex_par2 (i j : Nat) (a b : CE) : ex G fu (.par2 i j a b) ρ = (ev G a ρ).bind fun p => (ev G b p.2).bind fun q => (preA q.2 p.1).bind fun p' => (preA p'.2 q.1).bind fun q' => (putA i p'.1 q'.2).bind fun ρ1 => (putA j q'.1 ρ1).map .nx := by rw [ex]
theorem ex_par3 (i j l : Nat) (a b c : CE) : ex G fu (.par3 i j l a b c) ρ = (ev G a ρ).bind fun p => (ev G b p.2).bind fun q => (ev G c q.2).bind fun r => (preA r.2 p.1).bind fun p' => (preA p'.2 q.1).bind fun q' => (preA q'.2 r.1).bind fun r' =>
      (putA i p'.1 r'.2).bind fun ρ1 => (putA j q'.1 ρ1).bind fun ρ2 => (putA l r'.1 ρ2).map .nx := by rw [ex]
theorem ex_sub (i : Nat) (k e : CE) : ex G fu (.sub i k e) ρ = (ev G e ρ).bind fun p => (frz p.2 p.1).bind fun p2 => (ownR p2.2 i).bind fun _ => (ev G k p2.2).bind fun p4 => (frz p4.2 p4.1).bind fun p5 => (stoA i p5.1 p2.1 p5.2).map .nx := by rw [ex]
def divTS (G : List Fn) (i : Nat) (k : CE) (j : Nat) (p : Arg × Rho) : Option Out := match p.1 with
    | .val (.tuple [x, y]) => (ownR p.2 i).bind fun _ => (ev G k p.2).bind fun p4 => (frz p4.2 p4.1).bind fun p5 => (stoA i p5.1 x p5.2).bind fun ρ1 => (putA j (.val y) ρ1).map .nx
    | _ => none
theorem divTS_t (i : Nat) (k : CE) (j : Nat) (x y : PyData) : divTS G i k j (.val (.tuple [x, y]), ρ) = (ownR ρ i).bind fun _ => (ev G k ρ).bind fun p4 => (frz p4.2 p4.1).bind fun p5 => (stoA i p5.1 x p5.2).bind fun ρ1 => (putA j (.val y) ρ1).map .nx := rfl
theorem ex_divT (i : Nat) (k : CE) (j : Nat) (e : CE) : ex G fu (.divT i k j e) ρ = (ev G e ρ).bind (divTS G i k j) := by
  rw [ex]; rfl
def appS (i : Nat) (d : PyData) (ρ : Rho) : Option Sl → Option Out
  | some (.lst ds) => if sm ds then some (.nx (ρ.set i (.lst (ds ++ [d])))) else none
  | _ => none
@[simp] theorem appS_l (i : Nat) (d : PyData) (ds : List PyData) : appS i d ρ (some (.lst ds)) = if sm ds then some (.nx (ρ.set i (.lst (ds ++ [d])))) else none := rfl
theorem ex_app (i : Nat) (e : CE) : ex G fu (.app i e) ρ = (lisR ρ i).bind fun _ => (ev G e ρ).bind fun p => (frz p.2 p.1).bind fun p2 => appS i p2.1 p2.2 p2.2[i]? := by
  rw [ex]
  refine congrArg (Option.bind _) (funext fun _ => congrArg (Option.bind _) (funext fun _ => congrArg (Option.bind _) (funext fun p2 => ?_)))
  unfold appS
  rcases p2.2[i]? with _ | (_ | _ | _ | _ | _) <;> rfl
theorem ex_ret (e : CE) : ex G fu (.ret e) ρ = (ev G e ρ).map fun p => .rt p.1 p.2 := by rw [ex]
@[simp] theorem ex_retN : ex G fu .retN ρ = some (.rt (.val .none) ρ) := by rw [ex]
theorem ex_ite (c : CT) (a b : CB) : ex G fu (.ite c a b) ρ = (evT G c ρ).bind fun p => if p.1 = true then exB G fu a p.2 else exB G fu b p.2 := by rw [ex]
theorem ex_frl (tg : Tg) (it : CI) (b : CB) : ex G fu (.frl tg it b) ρ = (evI G it ρ).bind fun p => forGo (asgT tg) (exB G fu b) p.1 p.2 := by rw [ex]
theorem ex_whl (c : CT) (b : CB) : ex G fu (.whl c b) ρ = whlGo (evT G c) (exB G fu b) fu ρ := by rw [ex]
@[simp] theorem ex_brk : ex G fu .brk ρ = some (.bk ρ) := by rw [ex]
@[simp] theorem ex_cnt : ex G fu .cnt ρ = some (.ct ρ) := by rw [ex]
theorem ex_rse (cls fld : Str) (e : CE) : ex G fu (.rse cls fld e) ρ = (ev G e ρ).bind fun p => (frz p.2 p.1).map fun p2 => .ex ⟨cls, fld, p2.1⟩ p2.2 := by rw [ex]
def fsetS (i j : Nat) (d : PyData) (ρ : Rho) : Option Sl → Option Out
  | some (.bk fs past) => if j < fs.length then some (.nx (ρ.set i (.bk (fs.set j d) past))) else none
  | _ => none
@[simp] theorem fsetS_bk (i j : Nat) (d : PyData) (fs past : List PyData) : fsetS i j d ρ (some (.bk fs past)) = if j < fs.length then some (.nx (ρ.set i (.bk (fs.set j d) past))) else none := rfl
theorem ex_fset (i j : Nat) (e : CE) : ex G fu (.fset i j e) ρ = (ev G e ρ).bind fun p => (frz p.2 p.1).bind fun p2 => fsetS i j p2.1 p2.2 p2.2[i]? := by
  rw [ex]
  refine congrArg (Option.bind _) (funext fun _ => congrArg (Option.bind _) (funext fun p2 => ?_))
  unfold fsetS
  rcases p2.2[i]? with _ | (_ | _ | _ | _ | _) <;> rfl
def pappS (i j : Nat) (ρ : Rho) : Option Sl → Option Out
  | some (.bk fs past) => (fs[j]?).bind fun d => if sm past then some (.nx (ρ.set i (.bk fs (past ++ [d])))) else none
  | _ => none
theorem pappS_bk (i j : Nat) (fs past : List PyData) : pappS i j ρ (some (.bk fs past)) = (fs[j]?).bind fun d => if sm past then some (.nx (ρ.set i (.bk fs (past ++ [d])))) else none := rfl
@[simp] theorem ex_papp (i j : Nat) : ex G fu (.papp i j) ρ = pappS i j ρ ρ[i]? := by
  rw [ex]; unfold pappS
  rcases ρ[i]? with _ | (_ | _ | _ | _ | _) <;> rfl
def calxO (ρ : Rho) : Except Exn PyData → Out
  | .ok _ => .nx ρ
  | .error c => .ex c ρ
@[simp] theorem calxO_ok (d : PyData) : calxO ρ (.ok d) = .nx ρ := rfl
@[simp] theorem calxO_er (c : Exn) : calxO ρ (.error c) = .ex c ρ := rfl
theorem ex_calx {k : Nat} {f : List PyData → Option (Except Exn PyData)} {es : CA} (h : G[k]? = some (.rai f)) : ex G fu (.calx k es) ρ = (evF G es ρ).bind fun p => (f p.1).map (calxO p.2) := by
  rw [ex, h]; 
  refine congrArg (Option.bind _) (funext fun p => ?_)
  show Option.map _ _ = _
  refine congrArg (fun z => Option.map z _) (funext fun r => ?_)
  cases r <;> rfl
end

/-! ### loops -/
section
variable {α : Type} {enc : α → PyData} {asg : PyData → Rho → Option Rho} {fb : Rho → Option Out}
theorem forGo_step {d : PyData} {r : List PyData} {ρ ρ' : Rho} (h : (asg d ρ).bind fb = some (.nx ρ')) : forGo asg fb (d :: r) ρ = forGo asg fb r ρ' := by
  rw [forGo]
  cases e : asg d ρ with
  | none => rw [e] at h; cases h
  | some ρ1 =>
    rw [e] at h
    have h' : fb ρ1 = some (.nx ρ') := h
    show (fb ρ1).bind _ = _
    rw [h']; rfl
theorem forGo_rt {d : PyData} {r : List PyData} {ρ ρ' : Rho} {a : Arg} (h : (asg d ρ).bind fb = some (.rt a ρ')) : forGo asg fb (d :: r) ρ = some (.rt a ρ') := by
  rw [forGo]
  cases e : asg d ρ with
  | none => rw [e] at h; cases h
  | some ρ1 =>
    rw [e] at h
    have h' : fb ρ1 = some (.rt a ρ') := h
    show (fb ρ1).bind _ = _
    rw [h']; rfl
/-- a loop that goes to its end, by an invariant of what is behind -/
theorem forGo_inv {xs : List α} (I : List α → Rho → Prop) (h : ∀ pre x post, xs = pre ++ x :: post → ∀ ρ, I pre ρ → ∃ ρ', (asg (enc x) ρ).bind fb = some (.nx ρ') ∧ I (pre ++ [x]) ρ') {ρ : Rho} (i : I [] ρ) : ∃ ρ', forGo asg fb (xs.map enc) ρ = some (.nx ρ') ∧ I xs ρ' := by
  have go : ∀ (post pre : List α) (ρ : Rho), xs = pre ++ post → I pre ρ → ∃ ρ', forGo asg fb (post.map enc) ρ = some (.nx ρ') ∧ I xs ρ' := by
    intro post
    induction post with
    | nil => intro pre ρ e i; refine ⟨ρ, rfl, ?_⟩; rw [List.append_nil] at e; rw [e]; exact i
    | cons x post ih =>
      intro pre ρ e i
      obtain ⟨ρ', h1, h2⟩ := h pre x post e ρ i
      obtain ⟨ρ2, h3, h4⟩ := ih (pre ++ [x]) ρ' (by rw [e]; simp) h2
      exact ⟨ρ2, by rw [List.map_cons, forGo_step h1, h3], h4⟩
  exact go xs [] ρ rfl i
/-- .. by what holds throughout -/
theorem forGo_all {ds : List PyData} (I : Rho → Prop) (h : ∀ d ∈ ds, ∀ ρ, I ρ → ∃ ρ', (asg d ρ).bind fb = some (.nx ρ') ∧ I ρ') {ρ : Rho} (i : I ρ) : ∃ ρ', forGo asg fb ds ρ = some (.nx ρ') ∧ I ρ' := by
  obtain ⟨ρ', h1, h2⟩ := forGo_inv (α := PyData) (enc := id) (xs := ds) (fun _ => I) (fun pre x post e ρ i => h x (by rw [e]; simp) ρ i) i
  rw [List.map_id] at h1
  exact ⟨ρ', h1, h2⟩
/-- a loop whose turns change one value by a step; the loop's own names are left anyhow -/
theorem forGo_fold {β : Type} {xs : List α} (S : β → Rho → Prop) (step : β → α → β) (h : ∀ x ∈ xs, ∀ b ρ, S b ρ → ∃ ρ', (asg (enc x) ρ).bind fb = some (.nx ρ') ∧ S (step b x) ρ') {b : β} {ρ : Rho} (i : S b ρ) : ∃ ρ', forGo asg fb (xs.map enc) ρ = some (.nx ρ') ∧ S (xs.foldl step b) ρ' := by
  induction xs generalizing b ρ with
  | nil => exact ⟨ρ, rfl, i⟩
  | cons x xs ih =>
    obtain ⟨ρ', h1, h2⟩ := h x (by simp) b ρ i
    obtain ⟨ρ2, h3, h4⟩ := ih (fun y hy => h y (by simp [hy])) h2
    exact ⟨ρ2, by rw [List.map_cons, forGo_step h1, h3], h4⟩
end
/-! ### comprehensions -/
section
variable {α : Type} {enc : α → PyData} {ρ0 : Rho} {vs : List Nat} {asg : PyData → Rho → Option Rho} {fc : Rho → Option (Bool × Rho)} {fe : List PyData → Rho → Option (List PyData × Rho)}
/-- one turn -/
def compT (ρ0 : Rho) (vs : List Nat) (asg : PyData → Rho → Option Rho) (fc : Rho → Option (Bool × Rho)) (fe : List PyData → Rho → Option (List PyData × Rho)) (d : PyData) (acc : List PyData) (ρ : Rho) : Option (List PyData × Rho) :=
  (asg d (wipeR ρ vs)).bind fun ρ1 => (fc ρ1).bind fun b => if b.1 = true then (fe acc b.2).map fun q => (q.1, backR ρ0 q.2 vs) else some (acc, backR ρ0 b.2 vs)
theorem compGo_step {d : PyData} {r acc : List PyData} {ρ : Rho} : compGo ρ0 vs asg fc fe (d :: r) acc ρ = (compT ρ0 vs asg fc fe d acc ρ).bind fun q => compGo ρ0 vs asg fc fe r q.1 q.2 := by
  rw [compGo]; unfold compT
  simp only [Option.bind_eq_bind]
  cases asg d (wipeR ρ vs) with
  | none => rfl
  | some ρ1 =>
    show (fc ρ1).bind _ = Option.bind ((fc ρ1).bind _) _
    cases fc ρ1 with
    | none => rfl
    | some b =>
      obtain ⟨b, ρ2⟩ := b
      cases b
      · rfl
      · show (fe acc ρ2).bind _ = Option.bind ((fe acc ρ2).map _) _
        cases fe acc ρ2 <;> rfl
/-- a comprehension that changes nothing else -/
theorem compGo_pure (p : α → Bool) (f : α → PyData) {xs : List α} (h : ∀ x ∈ xs, ∀ acc, compT ρ0 vs asg fc fe (enc x) acc ρ0 = some (if p x then acc ++ [f x] else acc, ρ0)) (acc : List PyData) : compGo ρ0 vs asg fc fe (xs.map enc) acc ρ0 = some (acc ++ (xs.filter p).map f, ρ0) := by
  induction xs generalizing acc with
  | nil => simp [compGo]
  | cons x xs ih =>
    rw [List.map_cons, compGo_step, h x (by simp)]
    show compGo ρ0 vs asg fc fe (xs.map enc) _ ρ0 = _
    rw [ih fun y hy => h y (by simp [hy])]
    by_cases q : p x = true
    · simp [q]
    · simp [q]
/-- several for an item -/
theorem compGo_flat (f : α → List PyData) {xs : List α} (h : ∀ x ∈ xs, ∀ acc, compT ρ0 vs asg fc fe (enc x) acc ρ0 = some (acc ++ f x, ρ0)) (acc : List PyData) : compGo ρ0 vs asg fc fe (xs.map enc) acc ρ0 = some (acc ++ xs.flatMap f, ρ0) := by
  induction xs generalizing acc with
  | nil => simp [compGo]
  | cons x xs ih =>
    rw [List.map_cons, compGo_step, h x (by simp)]
    show compGo ρ0 vs asg fc fe (xs.map enc) _ ρ0 = _
    rw [ih fun y hy => h y (by simp [hy])]
    simp
/-- a comprehension whose items change the state: an invariant -/
theorem compGo_inv {xs : List α} (I : List PyData → Rho → Prop) (h : ∀ x ∈ xs, ∀ acc ρ, I acc ρ → ∃ acc' ρ', compT ρ0 vs asg fc fe (enc x) acc ρ = some (acc', ρ') ∧ I acc' ρ') {acc : List PyData} {ρ : Rho} (i : I acc ρ) : ∃ acc' ρ', compGo ρ0 vs asg fc fe (xs.map enc) acc ρ = some (acc', ρ') ∧ I acc' ρ' := by
  induction xs generalizing acc ρ with
  | nil => exact ⟨acc, ρ, by simp [compGo], i⟩
  | cons x xs ih =>
    obtain ⟨a1, ρ1, h1, h2⟩ := h x (by simp) acc ρ i
    obtain ⟨a2, ρ2, h3, h4⟩ := ih (fun y hy => h y (by simp [hy])) h2
    refine ⟨a2, ρ2, ?_, h4⟩
    rw [List.map_cons, compGo_step, h1]
    exact h3
end
/-! ### a while -/
theorem whlGo_meas {fc : Rho → Option (Bool × Rho)} {fb : Rho → Option Out} (I : Rho → Prop) (Z : Rho → Prop) (m : Rho → Nat)
    (h : ∀ ρ, I ρ → (∃ ρ', fc ρ = some (false, ρ') ∧ Z ρ') ∨ ∃ ρ1 ρ2, fc ρ = some (true, ρ1) ∧ fb ρ1 = some (.nx ρ2) ∧ I ρ2 ∧ m ρ2 < m ρ) :
    ∀ (n : Nat) (ρ : Rho), I ρ → m ρ < n → ∃ ρ', whlGo fc fb n ρ = some (.nx ρ') ∧ Z ρ'
  | 0, ρ, _, l => absurd l (Nat.not_lt_zero _)
  | n + 1, ρ, i, l => by
    rcases h ρ i with ⟨ρ', e, z⟩ | ⟨ρ1, ρ2, e1, e2, i2, l2⟩
    · exact ⟨ρ', by rw [whlGo, e]; rfl, z⟩
    · obtain ⟨ρ', e3, z⟩ := whlGo_meas I Z m h n ρ2 i2 (by omega)
      exact ⟨ρ', by
        rw [whlGo, e1]
        show (fb ρ1).bind _ = _
        rw [e2]
        exact e3, z⟩
end Cor
set_option Elab.async false
set_option linter.all false
set_option maxRecDepth 100000
set_option maxHeartbeats 4000000
/-! P2b: printed by mform.py: the rules with match. -/
namespace Cor
open PySem PySem.Spec PyProof.Rows L2
section
variable {G : List Fn} {ρ : Rho} {fu : Nat}
def contL (ρ : Rho) : List Arg → Option (List Sl)
  | [] => some []
  | a :: r => match cont ρ a with
    | none => none
    | some s => match contL ρ r with
      | none => none
      | some t => some (s :: t)
theorem contL_eq : ∀ l : List Arg, l.mapM (cont ρ) = contL ρ l
  | [] => rfl
  | a :: r => by
    rw [List.mapM_cons, contL_eq r, contL]
    cases cont ρ a with
    | none => rfl
    | some s => cases contL ρ r <;> rfl

@[simp] theorem ev_var_m (i : Nat) : ev G (.var i) ρ = (match (look ρ i) with | none => none | some a => some ((a, ρ))) := by
  rw [ev_var]; kernel_rfl
@[simp] theorem ev_tup_m (es : CA) : ev G (.tup es) ρ = (match (evF G es ρ) with | none => none | some p => if sm p.1 then some (.val (.tuple p.1), p.2) else none) := by
  rw [ev_tup]; kernel_rfl
@[simp] theorem ev_lst_m (es : CA) : ev G (.lst es) ρ = (match (evF G es ρ) with | none => none | some p => if sm p.1 then some (.fr (.lst p.1), p.2) else none) := by
  rw [ev_lst]; kernel_rfl
@[simp] theorem ev_bin_m (op : Operator) (a b : CE) : ev G (.bin op a b) ρ = (match (ev G a ρ) with | none => none | some p => (match (ev G b p.2) with | none => none | some q => (match (cont q.2 p.1) with | none => none | some x => (match (cont q.2 q.1) with | none => none | some y => (match (binS op x y) with | none => none | some z => some ((z, q.2))))))) := by
  rw [ev_bin]; kernel_rfl
@[simp] theorem ev_neg_m (a : CE) : ev G (.neg a) ρ = (match (ev G a ρ) with | none => none | some p => (match (cont p.2 p.1) with | none => none | some x => (match (negS x) with | none => none | some z => some ((z, p.2))))) := by
  rw [ev_neg]; kernel_rfl
@[simp] theorem ev_cmp_m (op : CmpOp) (a b : CE) : ev G (.cmp op a b) ρ = (match (ev G a ρ) with | none => none | some p => (match (ev G b p.2) with | none => none | some q => (match (cont q.2 p.1) with | none => none | some x => (match (cont q.2 q.1) with | none => none | some y => (match (cmpS op x y) with | none => none | some z => some ((.val (.bool z), q.2))))))) := by
  rw [ev_cmp]; kernel_rfl
@[simp] theorem ev_chn_m (o1 o2 : CmpOp) (a b c : CE) : ev G (.chn o1 o2 a b c) ρ = (match (ev G a ρ) with | none => none | some p => (match (ev G b p.2) with | none => none | some q => (match (cont q.2 p.1) with | none => none | some x => (match (cont q.2 q.1) with | none => none | some y => (match (cmpS o1 x y) with | none => none | some z => if z then (match (ev G c q.2) with | none => none | some r => (match (cont r.2 q.1) with | none => none | some y' => (match (cont r.2 r.1) with | none => none | some w => (match (cmpS o2 y' w) with | none => none | some z' => some ((.val (.bool z'), r.2)))))) else some (.val (.bool false), q.2)))))) := by
  rw [ev_chn]; kernel_rfl
@[simp] theorem ev_andd_m (a b : CE) : ev G (.andd a b) ρ = (match (ev G a ρ) with | none => none | some p => (match (cont p.2 p.1) with | none => none | some s => (match (truS s) with | none => none | some t => if t then ev G b p.2 else some p))) := by
  rw [ev_andd]; kernel_rfl
@[simp] theorem ev_orr_m (a b : CE) : ev G (.orr a b) ρ = (match (ev G a ρ) with | none => none | some p => (match (cont p.2 p.1) with | none => none | some s => (match (truS s) with | none => none | some t => if t then some p else ev G b p.2))) := by
  rw [ev_orr]; kernel_rfl
@[simp] theorem ev_nott_m (a : CE) : ev G (.nott a) ρ = (match (ev G a ρ) with | none => none | some p => (match (cont p.2 p.1) with | none => none | some s => (match (truS s) with | none => none | some t => some ((.val (.bool (!t)), p.2))))) := by
  rw [ev_nott]; kernel_rfl
@[simp] theorem ev_ife_m (c : CT) (a b : CE) : ev G (.ife c a b) ρ = (match (evT G c ρ) with | none => none | some p => if p.1 then ev G a p.2 else ev G b p.2) := by
  rw [ev_ife]; kernel_rfl
@[simp] theorem ev_idx_m (a b : CE) : ev G (.idx a b) ρ = (match (ev G a ρ) with | none => none | some p => (match (ev G b p.2) with | none => none | some q => (match (cont q.2 p.1) with | none => none | some x => (match (cont q.2 q.1) with | none => none | some y => (match (idxS x y) with | none => none | some z => some ((z, q.2))))))) := by
  rw [ev_idx]; kernel_rfl
@[simp] theorem ev_sli_m (a : CE) (lo hi : CO) : ev G (.sli a lo hi) ρ = (match (ev G a ρ) with | none => none | some p => (match (evO G lo p.2) with | none => none | some l => (match (evO G hi l.2) with | none => none | some h => (match (cont h.2 p.1) with | none => none | some x => (match (sliS x l.1 h.1) with | none => none | some z => some ((z, h.2))))))) := by
  rw [ev_sli]; kernel_rfl
theorem ev_calP_m {k : Nat} {f : List PyData → Option PyData} {es : CA} (h : G[k]? = some (.pur f)) : ev G (.cal k es) ρ = (match (evF G es ρ) with | none => none | some p => (match (f p.1) with | none => none | some d => some ((.val d, p.2)))) := by
  rw [ev_calP h]; kernel_rfl
theorem ev_calK_m {k : Nat} {f : List PyData → Option Sl} {es : CA} (h : G[k]? = some (.mak f)) : ev G (.cal k es) ρ = (match (evF G es ρ) with | none => none | some p => (match (f p.1) with | none => none | some s => if noEmp s then some (.fr s, p.2) else none)) := by
  rw [ev_calK h]; kernel_rfl
theorem ev_calM_m {k : Nat} {f : Sl → List PyData → Option (PyData × Sl)} {e : CE} {r : CA} (h : G[k]? = some (.mut f)) : ev G (.cal k (.cons false e r)) ρ = (match (ev G e ρ) with | none => none | some p => (match (evF G r p.2) with | none => none | some q => calM f p q)) := by
  rw [ev_calM h]; kernel_rfl
@[simp] theorem ev_bi_m (b : Bi) (es : CA) : ev G (.bi b es) ρ = (match (evR G es ρ) with | none => none | some p => (match (contL p.2 p.1) with | none => none | some ss => (match (biS b ss) with | none => none | some z => some ((z, p.2))))) := by
  rw [ev_bi]; simp only [contL_eq]; try kernel_rfl
@[simp] theorem ev_dsp_m (k v : CE) : ev G (.dsp k v) ρ = (match (ev G k ρ) with | none => none | some p => (match (frz p.2 p.1) with | none => none | some p' => (match (ev G v p'.2) with | none => none | some q => (match (frz q.2 q.1) with | none => none | some q' => (match (keyD p'.1) with | none => none | some key => some ((.fr (.dct [(key, q'.1)]), q'.2))))))) := by
  rw [ev_dsp]; kernel_rfl
@[simp] theorem fldS_bk_m (j : Nat) (fs past : List PyData) : fldS ρ j (some (.bk fs past)) = (match (fs[j]?) with | none => none | some d => some ((.val d, ρ))) := by
  rw [fldS_bk]; kernel_rfl
--  mthS_bk cannot access local variable 'j' where it is not associated with a value
@[simp] theorem ppopS_bk_m (i : Nat) (fs past : List PyData) : ppopS ρ i (some (.bk fs past)) = (match (past[past.length - 1]?) with | none => none | some d => some ((.val d, ρ.set i (.bk fs past.dropLast)))) := by
  rw [ppopS_bk]; kernel_rfl
@[simp] theorem ev_inW_m (kvs : List (Str × Int)) (e : CE) : ev G (.inW kvs e) ρ = (match (ev G e ρ) with | none => none | some p9 => ((inWS kvs)) p9) := by
  rw [ev_inW]; kernel_rfl
@[simp] theorem ev_atW_m (kvs : List (Str × Int)) (e : CE) : ev G (.atW kvs e) ρ = (match (ev G e ρ) with | none => none | some p9 => ((atWS kvs)) p9) := by
  rw [ev_atW]; kernel_rfl
@[simp] theorem atWS_str_m (kvs : List (Str × Int)) (z : Str) : atWS kvs (.val (.str z), ρ) = (match (kvs.lookup z) with | none => none | some i => some ((.val (.int i), ρ))) := by
  rw [atWS_str]; kernel_rfl
@[simp] theorem ev_comp_m (it : CI) (tg : Tg) (c : CT) (elt : CE) (vs : List Nat) : ev G (.comp it tg c elt vs) ρ = (match (evI G it ρ) with | none => none | some p => if freeR p.2 vs && sm p.1 then (match (compGo p.2 vs (asgT tg) (evT G c) (eltA G elt) p.1 [] p.2) with | none => none | some q => some ((.fr (.lst q.1), q.2))) else none) := by
  rw [ev_comp]; kernel_rfl
@[simp] theorem ev_comp2_m (it : CI) (tg : Tg) (c : CT) (it2 : CI) (tg2 : Tg) (c2 : CT) (elt : CE) (vs vs2 : List Nat) : ev G (.comp2 it tg c it2 tg2 c2 elt vs vs2) ρ = (match (evI G it ρ) with | none => none | some p => if freeR p.2 vs && p.1.length ≤ 300 then (match (compGo p.2 vs (asgT tg) (evT G c) (inn2 G it2 tg2 c2 elt vs2) p.1 [] p.2) with | none => none | some q => some ((.fr (.lst q.1), q.2))) else none) := by
  rw [ev_comp2]; kernel_rfl
@[simp] theorem evT_and_m (a b : CT) : evT G (.tand a b) ρ = (match (evT G a ρ) with | none => none | some p => if p.1 then evT G b p.2 else some (false, p.2)) := by
  rw [evT_and]; kernel_rfl
@[simp] theorem evT_or_m (a b : CT) : evT G (.tor a b) ρ = (match (evT G a ρ) with | none => none | some p => if p.1 then some (true, p.2) else evT G b p.2) := by
  rw [evT_or]; kernel_rfl
@[simp] theorem evT_not_m (a : CT) : evT G (.tnot a) ρ = (match (evT G a ρ) with | none => none | some p => some ((!p.1, p.2))) := by
  rw [evT_not]; kernel_rfl
@[simp] theorem evT_val_m (e : CE) : evT G (.tval e) ρ = (match (ev G e ρ) with | none => none | some p => (match (cont p.2 p.1) with | none => none | some s => (match (truS s) with | none => none | some t => some ((t, p.2))))) := by
  rw [evT_val]; kernel_rfl
@[simp] theorem evF_cons_m (e : CE) (r : CA) : evF G (.cons false e r) ρ = (match (ev G e ρ) with | none => none | some p => (match (frz p.2 p.1) with | none => none | some q => (match (evF G r q.2) with | none => none | some s => some ((q.1 :: s.1, s.2))))) := by
  rw [evF_cons]; kernel_rfl
@[simp] theorem evF_star_m (e : CE) (r : CA) : evF G (.cons true e r) ρ = (match (ev G e ρ) with | none => none | some p => (match (cont p.2 p.1) with | none => none | some s => (match (seqS s) with | none => none | some xs => (match (evF G r p.2) with | none => none | some t => some ((xs ++ t.1, t.2)))))) := by
  rw [evF_star]; kernel_rfl
@[simp] theorem evR_cons_m (e : CE) (r : CA) : evR G (.cons false e r) ρ = (match (ev G e ρ) with | none => none | some p => (match (evR G r p.2) with | none => none | some s => some ((p.1 :: s.1, s.2)))) := by
  rw [evR_cons]; kernel_rfl
@[simp] theorem evO_som_m (e : CE) : evO G (.som e) ρ = (match (ev G e ρ) with | none => none | some p9 => intA p9) := by
  rw [evO_som]; kernel_rfl
@[simp] theorem evI_seq_m (e : CE) : evI G (.seq e) ρ = (match (ev G e ρ) with | none => none | some p => (match (frz p.2 p.1) with | none => none | some p9 => seqI p9)) := by
  rw [evI_seq]; kernel_rfl
@[simp] theorem evI_rng1_m (e : CE) : evI G (.rng1 e) ρ = (match (ev G e ρ) with | none => none | some p9 => rngI p9) := by
  rw [evI_rng1]; kernel_rfl
@[simp] theorem evI_rng2_m (a b : CE) : evI G (.rng2 a b) ρ = (match (ev G a ρ) with | none => none | some p => (match (ev G b p.2) with | none => none | some q => rngI2 p.1 q.1 q.2)) := by
  rw [evI_rng2]; kernel_rfl
@[simp] theorem evI_enu_m (e : CE) : evI G (.enu e) ρ = (match (ev G e ρ) with | none => none | some p => (match (frz p.2 p.1) with | none => none | some p9 => enuI p9)) := by
  rw [evI_enu]; kernel_rfl
@[simp] theorem exB_cons_m (s : CS) (r : CB) : exB G fu (.cons s r) ρ = (match (ex G fu s ρ) with | none => none | some p9 => ((thenO (exB G fu r))) p9) := by
  rw [exB_cons]; kernel_rfl
@[simp] theorem ex_exp_m (e : CE) : ex G fu (.exp e) ρ = (match (ev G e ρ) with | none => none | some p => some (.nx p.2)) := by
  rw [ex_exp]; kernel_rfl
@[simp] theorem ex_asg_m (i : Nat) (e : CE) : ex G fu (.asg i e) ρ = (match (ev G e ρ) with | none => none | some p => (match (preA p.2 p.1) with | none => none | some p2 => (match (putA i p2.1 p2.2) with | none => none | some p9 => some (.nx p9)))) := by
  rw [ex_asg]; kernel_rfl
@[simp] theorem ex_asgT_m (is : List Nat) (e : CE) : ex G fu (.asgT is e) ρ = (match (ev G e ρ) with | none => none | some p => (match (frz p.2 p.1) with | none => none | some p2 => (match (asgT (.tp is) p2.1 p2.2) with | none => none | some p9 => some (.nx p9)))) := by
  rw [ex_asgT]; kernel_rfl
@[simp] theorem ex_par2_m (i j : Nat) (a b : CE) : ex G fu (.par2 i j a b) ρ = (match (ev G a ρ) with | none => none | some p => (match (ev G b p.2) with | none => none | some q => (match (preA q.2 p.1) with | none => none | some p' => (match (preA p'.2 q.1) with | none => none | some q' => (match (putA i p'.1 q'.2) with | none => none | some ρ1 => (match (putA j q'.1 ρ1) with | none => none | some p9 => some (.nx p9))))))) := by
  rw [ex_par2]; kernel_rfl
@[simp] theorem ex_par3_m (i j l : Nat) (a b c : CE) : ex G fu (.par3 i j l a b c) ρ = (match (ev G a ρ) with | none => none | some p => (match (ev G b p.2) with | none => none | some q => (match (ev G c q.2) with | none => none | some r => (match (preA r.2 p.1) with | none => none | some p' => (match (preA p'.2 q.1) with | none => none | some q' => (match (preA q'.2 r.1) with | none => none | some r' => (match (putA i p'.1 r'.2) with | none => none | some ρ1 => (match (putA j q'.1 ρ1) with | none => none | some ρ2 => (match (putA l r'.1 ρ2) with | none => none | some p9 => some (.nx p9)))))))))) := by
  rw [ex_par3]; kernel_rfl
@[simp] theorem ex_sub_m (i : Nat) (k e : CE) : ex G fu (.sub i k e) ρ = (match (ev G e ρ) with | none => none | some p => (match (frz p.2 p.1) with | none => none | some p2 => (match (ownR p2.2 i) with | none => none | some _ => (match (ev G k p2.2) with | none => none | some p4 => (match (frz p4.2 p4.1) with | none => none | some p5 => (match (stoA i p5.1 p2.1 p5.2) with | none => none | some p9 => some (.nx p9))))))) := by
  rw [ex_sub]; kernel_rfl
@[simp] theorem divTS_t_m (i : Nat) (k : CE) (j : Nat) (x y : PyData) : divTS G i k j (.val (.tuple [x, y]), ρ) = (match (ownR ρ i) with | none => none | some _ => (match (ev G k ρ) with | none => none | some p4 => (match (frz p4.2 p4.1) with | none => none | some p5 => (match (stoA i p5.1 x p5.2) with | none => none | some ρ1 => (match (putA j (.val y) ρ1) with | none => none | some p9 => some (.nx p9)))))) := by
  rw [divTS_t]; kernel_rfl
@[simp] theorem ex_divT_m (i : Nat) (k : CE) (j : Nat) (e : CE) : ex G fu (.divT i k j e) ρ = (match (ev G e ρ) with | none => none | some p9 => ((divTS G i k j)) p9) := by
  rw [ex_divT]; kernel_rfl
@[simp] theorem ex_app_m (i : Nat) (e : CE) : ex G fu (.app i e) ρ = (match (lisR ρ i) with | none => none | some _ => (match (ev G e ρ) with | none => none | some p => (match (frz p.2 p.1) with | none => none | some p2 => appS i p2.1 p2.2 p2.2[i]?))) := by
  rw [ex_app]; kernel_rfl
@[simp] theorem ex_ret_m (e : CE) : ex G fu (.ret e) ρ = (match (ev G e ρ) with | none => none | some p => some (.rt p.1 p.2)) := by
  rw [ex_ret]; kernel_rfl
@[simp] theorem ex_ite_m (c : CT) (a b : CB) : ex G fu (.ite c a b) ρ = (match (evT G c ρ) with | none => none | some p => if p.1 = true then exB G fu a p.2 else exB G fu b p.2) := by
  rw [ex_ite]; kernel_rfl
@[simp] theorem ex_frl_m (tg : Tg) (it : CI) (b : CB) : ex G fu (.frl tg it b) ρ = (match (evI G it ρ) with | none => none | some p => forGo (asgT tg) (exB G fu b) p.1 p.2) := by
  rw [ex_frl]; kernel_rfl
@[simp] theorem ex_rse_m (cls fld : Str) (e : CE) : ex G fu (.rse cls fld e) ρ = (match (ev G e ρ) with | none => none | some p => (match (frz p.2 p.1) with | none => none | some p2 => some (.ex ⟨cls, fld, p2.1⟩ p2.2))) := by
  rw [ex_rse]; kernel_rfl
@[simp] theorem ex_fset_m (i j : Nat) (e : CE) : ex G fu (.fset i j e) ρ = (match (ev G e ρ) with | none => none | some p => (match (frz p.2 p.1) with | none => none | some p2 => fsetS i j p2.1 p2.2 p2.2[i]?)) := by
  rw [ex_fset]; kernel_rfl
@[simp] theorem pappS_bk_m (i j : Nat) (fs past : List PyData) : pappS i j ρ (some (.bk fs past)) = (match (fs[j]?) with | none => none | some d => if sm past then some (.nx (ρ.set i (.bk fs (past ++ [d])))) else none) := by
  rw [pappS_bk]; kernel_rfl
theorem ex_calx_m {k : Nat} {f : List PyData → Option (Except Exn PyData)} {es : CA} (h : G[k]? = some (.rai f)) : ex G fu (.calx k es) ρ = (match (evF G es ρ) with | none => none | some p => (match (f p.1) with | none => none | some p9 => some (((calxO p.2)) p9))) := by
  rw [ex_calx h]; kernel_rfl
end
end Cor
set_option Elab.async false
set_option linter.all false
set_option maxRecDepth 100000
set_option maxHeartbeats 4000000
/-! P2c: what a def answers. -/
namespace Cor
open PySem PySem.Spec PyProof.Rows L2
section
variable {G : List Fn} {ρ : Rho} {fu n np : Nat} {b : CB}
@[simp] theorem mthS_m (f : Sl → List PyData → Option (PyData × Sl)) (i : Nat) (q : Option (List PyData × Rho)) (fs past : List PyData) : mthS f i q (some (.bk fs past)) = match q with
  | none => none
  | some q => match q.2[i]? with
    | none => none
    | some sl => match f sl q.1 with
      | none => none
      | some r => if noEmp sl && noEmp r.2 then some (.val r.1, q.2.set i r.2) else none := by
  rw [mthS_bk]; kernel_rfl
@[simp] theorem calM_own (f : Sl → List PyData → Option (PyData × Sl)) (i : Nat) (q : List PyData × Rho) : calM f (.own i, ρ) q = match q.2[i]? with
  | none => none
  | some sl => match f sl q.1 with
    | none => none
    | some r => if noEmp sl && noEmp r.2 then some (.val r.1, q.2.set i r.2) else none := by kernel_rfl
@[simp] theorem calM_fr (f : Sl → List PyData → Option (PyData × Sl)) (sl : Sl) (q : List PyData × Rho) : calM f (.fr sl, ρ) q = match f sl q.1 with
    | none => none
    | some r => if noEmp r.2 then some (.val r.1, q.2) else none := by kernel_rfl
def frz1 (ρ : Rho) (a : Arg) : Option PyData := match frz ρ a with
  | none => none
  | some p => some p.1
def sl0 (ρ : Rho) : Option Sl := match ρ[0]? with
  | none => none
  | some s => if noEmp s then some s else none
def outP : Option Out → Option PyData
  | some (.rt a ρ) => frz1 ρ a
  | some (.nx _) => some .none
  | _ => none
def outK : Option Out → Option Sl
  | some (.rt (.fr s) _) => some s
  | some (.rt (.own i) ρ) => match ρ[i]? with
    | none => none
    | some s => if noEmp s then some s else none
  | _ => none
def outM : Option Out → Option (PyData × Sl)
  | some (.rt a ρ) => match frz ρ a with
    | none => none
    | some p => match sl0 p.2 with
      | none => none
      | some s => some (p.1, s)
  | some (.nx ρ) => match sl0 ρ with
    | none => none
    | some s => some (.none, s)
  | _ => none
def outX : Option Out → Option (Except Exn PyData)
  | some (.rt a ρ) => match frz1 ρ a with
    | none => none
    | some d => some (.ok d)
  | some (.nx _) => some (.ok .none)
  | some (.ex c _) => some (.error c)
  | _ => none
def outR : Option Out → Option (Except Exn PyData × Sl)
  | some (.rt a ρ) => match frz ρ a with
    | none => none
    | some p => match sl0 p.2 with
      | none => none
      | some s => some (.ok p.1, s)
  | some (.nx ρ) => match sl0 ρ with
    | none => none
    | some s => some (.ok .none, s)
  | some (.ex c ρ) => match sl0 ρ with
    | none => none
    | some s => some (.error c, s)
  | _ => none
theorem sl0_bind {β : Type} (f : Sl → β) : ((ρ[0]?).bind fun s => if noEmp s then some (f s) else none) = match sl0 ρ with
  | none => none
  | some s => some (f s) := by
  unfold sl0
  cases ρ[0]? with
  | none => rfl
  | some s => cases q : noEmp s <;> simp [q]
theorem runP_eq {ds : List PyData} (h : ds.length = np) : runP G fu n np b ds = outP (exB G fu b (entR n (ds.map .val))) := by
  unfold runP
  rw [if_pos h]
  cases exB G fu b (entR n (ds.map .val)) with
  | none => rfl
  | some o => cases o with
    | rt a ρ => show Option.map _ _ = frz1 ρ a; unfold frz1; cases frz ρ a <;> rfl
    | _ => rfl
theorem runK_eq {ds : List PyData} (h : ds.length = np) : runK G fu n np b ds = outK (exB G fu b (entR n (ds.map .val))) := by
  unfold runK
  rw [if_pos h]
  cases exB G fu b (entR n (ds.map .val)) with
  | none => rfl
  | some o => cases o with
    | rt a ρ => cases a with
      | own i => show (ρ[i]?).bind (fun s => if noEmp s then some s else none) = outK _; unfold outK; dsimp only; cases ρ[i]? <;> rfl
      | _ => rfl
    | _ => rfl
theorem runM_eq {sl : Sl} {ds : List PyData} (h : ds.length + 1 = np) : runM G fu n np b sl ds = outM (exB G fu b (entR n (sl :: ds.map .val))) := by
  unfold runM
  rw [if_pos h]
  cases exB G fu b (entR n (sl :: ds.map .val)) with
  | none => rfl
  | some o => cases o with
    | rt a ρ =>
      show (frz ρ a).bind (fun p => (p.2[0]?).bind fun s => if noEmp s then some (p.1, s) else none) = outM _
      unfold outM; dsimp only
      cases frz ρ a with
      | none => rfl
      | some p => exact sl0_bind (ρ := p.2) _
    | nx ρ =>
      exact sl0_bind (ρ := ρ) _
    | _ => rfl
theorem runX_eq {ds : List PyData} (h : ds.length = np) : runX G fu n np b ds = outX (exB G fu b (entR n (ds.map .val))) := by
  unfold runX
  rw [if_pos h]
  cases exB G fu b (entR n (ds.map .val)) with
  | none => rfl
  | some o => cases o with
    | rt a ρ => show Option.map _ _ = outX _; unfold outX frz1; dsimp only; cases frz ρ a <;> rfl
    | _ => rfl
theorem runR_eq {sl : Sl} {ds : List PyData} (h : ds.length + 1 = np) : runR G fu n np b sl ds = outR (exB G fu b (entR n (sl :: ds.map .val))) := by
  unfold runR
  rw [if_pos h]
  cases exB G fu b (entR n (sl :: ds.map .val)) with
  | none => rfl
  | some o => cases o with
    | rt a ρ =>
      show (frz ρ a).bind (fun p => (p.2[0]?).bind fun s => if noEmp s then some (Except.ok p.1, s) else none) = outR _
      unfold outR; dsimp only
      cases frz ρ a with
      | none => rfl
      | some p => exact sl0_bind (ρ := p.2) _
    | nx ρ =>
      exact sl0_bind (ρ := ρ) _
    | ex c ρ =>
      exact sl0_bind (ρ := ρ) _
    | _ => rfl
theorem eltA_m {elt : CE} {acc : List PyData} : eltA G elt acc ρ = match ev G elt ρ with
  | none => none
  | some p => match frz p.2 p.1 with
    | none => none
    | some q => some (acc ++ [q.1], q.2) := by unfold eltA; kernel_rfl
theorem inn2_m {it2 : CI} {tg2 : Tg} {c2 : CT} {elt : CE} {vs2 : List Nat} {acc : List PyData} : inn2 G it2 tg2 c2 elt vs2 acc ρ = match evI G it2 ρ with
  | none => none
  | some p => if freeR p.2 vs2 && p.1.length ≤ 300 then compGo p.2 vs2 (asgT tg2) (evT G c2) (eltA G elt) p.1 acc p.2 else none := by unfold inn2; kernel_rfl
theorem compT_m {ρ0 : Rho} {vs : List Nat} {asg : PyData → Rho → Option Rho} {fc : Rho → Option (Bool × Rho)} {fe : List PyData → Rho → Option (List PyData × Rho)} {d : PyData} {acc : List PyData} : compT ρ0 vs asg fc fe d acc ρ = match asg d (wipeR ρ vs) with
  | none => none
  | some ρ1 => match fc ρ1 with
    | none => none
    | some b => if b.1 = true then (match fe acc b.2 with
        | none => none
        | some q => some (q.1, backR ρ0 q.2 vs)) else some (acc, backR ρ0 b.2 vs) := by unfold compT; kernel_rfl
end
end Cor
set_option Elab.async false
set_option linter.all false
set_option maxRecDepth 100000
set_option maxHeartbeats 4000000
/-! P2d: the equations of what books to take back need. -/
namespace Cor
open PySem PySem.Spec PyProof.Rows L2
section
variable {G : List Fn} {ρ : Rho} {fu : Nat}
def isbS (ρ : Rho) : Option Sl → Option (Arg × Rho)
  | some (.bk _ _) => some (.val (.bool true), ρ)
  | some (.val d) => if flatD d then some (.val (.bool false), ρ) else none
  | _ => none
@[simp] theorem ev_isb (i : Nat) : ev G (.isb i) ρ = isbS ρ ρ[i]? := by
  rw [ev]; unfold isbS
  rcases ρ[i]? with _ | (_ | _ | _ | _ | _) <;> rfl
@[simp] theorem isbS_bk (fs past : List PyData) : isbS ρ (some (.bk fs past)) = some (.val (.bool true), ρ) := rfl
@[simp] theorem isbS_val (d : PyData) : isbS ρ (some (.val d)) = if flatD d then some (.val (.bool false), ρ) else none := rfl
def oeqS (q : Option (Arg × Rho)) : Option Sl → Option (Arg × Rho)
  | some (.bk _ _) => q
  | _ => none
@[simp] theorem oeqS_bk (q : Option (Arg × Rho)) (fs past : List PyData) : oeqS q (some (.bk fs past)) = q := rfl
theorem ev_oeq {k i : Nat} {n : Bool} {f : Sl → Sl → Option (PyData × Sl × Sl)} {e : CE} (h : G[k]? = some (.two f)) : ev G (.oeq k n i e) ρ = oeqS (match ev G e ρ with | none => none | some p => eqTwo f n i p.1 p.2) ρ[i]? := by
  rw [ev, h]; unfold oeqS
  rcases ρ[i]? with _ | (_ | _ | _ | _ | _) <;> first | rfl | (simp only [Option.bind_eq_bind]; cases ev G e ρ <;> rfl)
def datL : List Sl → Option (List PyData)
  | [] => some []
  | a :: r => match datS a with
    | none => none
    | some s => match datL r with
      | none => none
      | some t => some (s :: t)
theorem datL_eq : ∀ l : List Sl, l.mapM datS = datL l
  | [] => rfl
  | a :: r => by
    rw [List.mapM_cons, datL_eq r, datL]
    cases datS a with
    | none => rfl
    | some s => cases datL r <;> rfl
@[simp] theorem ev_rep1 (es : CA) : ev G (.rep1 es) ρ = (match evR G es ρ with
  | none => none
  | some p => match contL p.2 p.1 with
    | none => none
    | some ss => match datL ss with
      | none => none
      | some ds => if sm ds then match repB [.lst ds] with
          | none => none
          | some z => some (z, p.2)
        else none) := by
  rw [ev]
  simp only [Option.bind_eq_bind, contL_eq, datL_eq]
  cases evR G es ρ with
  | none => rfl
  | some p =>
    obtain ⟨as, ρ1⟩ := p
    dsimp only [Option.bind_some]
    cases contL ρ1 as with
    | none => rfl
    | some ss =>
      dsimp only [Option.bind_some]
      cases datL ss with
      | none => rfl
      | some ds =>
        dsimp only [Option.bind_some]
        split
        · cases repB [.lst ds] <;> rfl
        · rfl
@[simp] theorem ex_rse0 (cls : Str) : ex G fu (.rse0 cls) ρ = some (.ex ⟨cls, "", .none⟩ ρ) := by rw [ex]
def outT2 : Option Out → Option (PyData × Sl × Sl)
  | some (.rt a ρ) => match frz ρ a with
    | none => none
    | some p => match p.2[0]? with
      | none => none
      | some x => match p.2[1]? with
        | none => none
        | some y => if noEmp x && noEmp y then some (p.1, x, y) else none
  | _ => none
theorem runT2_eq {n : Nat} {b : CB} {s0 s1 : Sl} {o : Option Out} (h : exB G fu b (entR n [s0, s1]) = o) : runT2 G fu n b s0 s1 = outT2 o := by
  unfold runT2
  rw [h]
  cases o with
  | none => rfl
  | some o =>
    cases o with
    | rt a ρ =>
      show ((frz ρ a).bind fun p => (p.2[0]?).bind fun x => (p.2[1]?).bind fun y => if noEmp x && noEmp y then some (p.1, x, y) else none) = _
      unfold outT2
      dsimp only
      cases frz ρ a with
      | none => rfl
      | some p =>
        dsimp only [Option.bind_some]
        cases p.2[0]? with
        | none => rfl
        | some x =>
          dsimp only [Option.bind_some]
          cases p.2[1]? <;> rfl
    | nx ρ => rfl
    | bk ρ => rfl
    | ct ρ => rfl
    | ex c ρ => rfl
end
end Cor
set_option Elab.async false
set_option linter.all false
set_option maxRecDepth 100000
set_option maxHeartbeats 4000000
namespace Cor
open PySem PySem.Spec PyProof.Rows L2
def fuW : Nat := 1000
section
variable {P : Program} {w : World} {K : PySem.W.Frag} {mg : Str → Option Value} {base : Heap}

def c_is_whole : CB := .cons (.ret (.andd (.bi (.isi .int) (.cons false (.var 0) .nil)) (.nott (.bi (.isi .bool) (.cons false (.var 0) .nil))))) (.nil)
def g_is_whole : List Fn := []
def f_is_whole : Fn := .pur (runP g_is_whole fuW 1 1 c_is_whole)
theorem ok_is_whole {fa : Addr} (D : Def K mg "is_whole" "is_whole" (top 8) fa .none) (B : Blts mg)   : CallOk P w K mg base 1 "is_whole" f_is_whole :=
  defP (kp := fun _ => false) (G := g_is_whole) (fu := fuW) (N := ["value"]) (ps := ["value"]) (b := c_is_whole) D (by decide +kernel) (fun _ _ _ _ _ _ _ _ us hl => match us, hl with | [_], _ => rfl) fun _ _ C T =>
    z_cons C (z_ret C (w_and C (w_isi C .int B (w_var C 0)) (w_one C (w_not C (w_isi C .bool B (w_var C 0))))))
    (z_nil C)
def c_is_number__1 : CB := .cons (.ret (.andd (.cal 0 (.cons false (.var 0) (.nil))) (.andd (.cmp .LtE (.var 1) (.var 0)) (.orr (.cmp .Is (.var 2) (.cst .none)) (.cmp .LtE (.var 0) (.var 2)))))) (.nil)
def g_is_number__1 : List Fn := [f_is_whole]
def f_is_number__1 : Fn := .pur fun ds => runP g_is_number__1 fuW 3 3 c_is_number__1 (ds ++ [(.int 0), .none])
theorem ok_is_number__1 {fa : Addr} (D : DefD K mg "is_number" "is_number" (top 9) fa [.int 0, .non]) (B : Blts mg) (h_is_whole : CallOk P w K mg base 1 "is_whole" f_is_whole)  : CallOk P w K mg base 2 "is_number" f_is_number__1 :=
  defPD (kp := fun _ => false) (G := g_is_number__1) (fu := fuW) (N := ["value", "low", "high"]) (ps := ["value", "low", "high"]) (b := c_is_number__1) 1 D (by decide +kernel) (by simp) (by rfl) (fun T kV doc pm an cdv ct us its h1 h2 => match us, its, h1, h2 with | [_], [_, _], _, _ => ⟨_, rfl, rfl⟩) (fun _ => .cons (.int _) (.cons .non (.nil))) fun _ _ C T =>
    z_cons C (z_ret C (w_and C (w_cal C 0 (h_is_whole.mono (by decide)) (w_cons C (w_var C 0) (w_nil C))) (w_and C (w_cmp C (w_var C 1) (w_var C 0)) (w_one C (w_or C (w_cmp C (w_var C 2) (w_non C)) (w_one C (w_cmp C (w_var C 0) (w_var C 2))))))))
    (z_nil C)
def c_is_between : CB := .cons (.ret (.andd (.cal 0 (.cons false (.var 0) (.nil))) (.chn .LtE .LtE (.var 1) (.var 0) (.var 2)))) (.nil)
def g_is_between : List Fn := [f_is_whole]
def f_is_between : Fn := .pur (runP g_is_between fuW 3 3 c_is_between)
theorem ok_is_between {fa : Addr} (D : Def K mg "is_between" "is_between" (top 10) fa .none) (B : Blts mg) (h_is_whole : CallOk P w K mg base 1 "is_whole" f_is_whole)  : CallOk P w K mg base 2 "is_between" f_is_between :=
  defP (kp := fun _ => false) (G := g_is_between) (fu := fuW) (N := ["value", "least", "most"]) (ps := ["value", "least", "most"]) (b := c_is_between) D (by decide +kernel) (fun _ _ _ _ _ _ _ _ us hl => match us, hl with | [_, _, _], _ => rfl) fun _ _ C T =>
    z_cons C (z_ret C (w_and C (w_cal C 0 (h_is_whole.mono (by decide)) (w_cons C (w_var C 0) (w_nil C))) (w_one C (w_chn C (w_var C 1) (w_var C 0) (w_var C 2)))))
    (z_nil C)
def c_is_string : CB := .cons (.ret (.bi (.isi .str) (.cons false (.var 0) .nil))) (.nil)
def g_is_string : List Fn := []
def f_is_string : Fn := .pur (runP g_is_string fuW 1 1 c_is_string)
theorem ok_is_string {fa : Addr} (D : Def K mg "is_string" "is_string" (top 11) fa .none) (B : Blts mg)   : CallOk P w K mg base 1 "is_string" f_is_string :=
  defP (kp := fun _ => false) (G := g_is_string) (fu := fuW) (N := ["value"]) (ps := ["value"]) (b := c_is_string) D (by decide +kernel) (fun _ _ _ _ _ _ _ _ us hl => match us, hl with | [_], _ => rfl) fun _ _ C T =>
    z_cons C (z_ret C (w_isi C .str B (w_var C 0)))
    (z_nil C)
def c_is_places : CB := .cons (.ret (.cal 0 (.cons false (.var 0) (.cons false (.cst (.int 2)) (.cons false (.cst (.int 6)) (.nil)))))) (.nil)
def g_is_places : List Fn := [f_is_between]
def v_is_places : List PyData → Option PyData := runP g_is_places fuW 1 1 c_is_places
def f_is_places : Fn := .pur v_is_places
theorem ok_is_places {fa : Addr} (D : Def K mg "is_places" "is_places" (top 20) fa .none) (B : Blts mg) (h_is_between : CallOk P w K mg base 2 "is_between" f_is_between) (k_MOST_PLACES : CstOk K mg "MOST_PLACES" (.int 6)) (k_FEWEST_PLACES : CstOk K mg "FEWEST_PLACES" (.int 2)) : CallOk P w K mg base 3 "is_places" f_is_places :=
  defP (kp := fun _ => false) (G := g_is_places) (fu := fuW) (N := ["value"]) (ps := ["value"]) (b := c_is_places) D (by decide +kernel) (fun _ _ _ _ _ _ _ _ us hl => match us, hl with | [_], _ => rfl) fun _ _ C T =>
    z_cons C (z_ret C (w_cal C 0 (h_is_between.mono (by decide)) (w_cons C (w_var C 0) (w_cons C (w_glob C k_FEWEST_PLACES) (w_cons C (w_glob C k_MOST_PLACES) (w_nil C))))))
    (z_nil C)
def c_is_kind : CB := .cons (.ret (.andd (.cal 0 (.cons false (.var 0) (.nil))) (.cmp .In (.var 0) (.cst (.tuple [(.str "strict"), (.str "loose")]))))) (.nil)
def g_is_kind : List Fn := [f_is_string]
def f_is_kind : Fn := .pur (runP g_is_kind fuW 1 1 c_is_kind)
theorem ok_is_kind {fa : Addr} (D : Def K mg "is_kind" "is_kind" (top 21) fa .none) (B : Blts mg) (h_is_string : CallOk P w K mg base 1 "is_string" f_is_string) (k_KINDS : CstOk K mg "KINDS" (.tuple [(.str "strict"), (.str "loose")])) : CallOk P w K mg base 2 "is_kind" f_is_kind :=
  defP (kp := fun _ => false) (G := g_is_kind) (fu := fuW) (N := ["value"]) (ps := ["value"]) (b := c_is_kind) D (by decide +kernel) (fun _ _ _ _ _ _ _ _ us hl => match us, hl with | [_], _ => rfl) fun _ _ C T =>
    z_cons C (z_ret C (w_and C (w_cal C 0 (h_is_string.mono (by decide)) (w_cons C (w_var C 0) (w_nil C))) (w_one C (w_cmp C (w_var C 0) (w_glob C k_KINDS)))))
    (z_nil C)
def c_is_place : CB := .cons (.ret (.cal 0 (.cons false (.var 1) (.cons false (.cst (.int 0)) (.cons false (.bin .Sub (.idx (.var 0) (.cst (.int 0))) (.cst (.int 1))) (.nil)))))) (.nil)
def g_is_place : List Fn := [f_is_between]
def f_is_place : Fn := .pur (runP g_is_place fuW 2 2 c_is_place)
theorem ok_is_place {fa : Addr} (D : Def K mg "is_place" "is_place" (top 23) fa .none) (B : Blts mg) (h_is_between : CallOk P w K mg base 2 "is_between" f_is_between)  : CallOk P w K mg base 3 "is_place" f_is_place :=
  defP (kp := fun _ => false) (G := g_is_place) (fu := fuW) (N := ["web", "value"]) (ps := ["web", "value"]) (b := c_is_place) D (by decide +kernel) (fun _ _ _ _ _ _ _ _ us hl => match us, hl with | [_, _], _ => rfl) fun _ _ C T =>
    z_cons C (z_ret C (w_cal C 0 (h_is_between.mono (by decide)) (w_cons C (w_var C 1) (w_cons C (w_int C) (w_cons C (w_bin C (w_idx C (w_var C 0) (w_int C)) (w_int C)) (w_nil C))))))
    (z_nil C)
def c_is_time : CB := .cons (.ret (.cal 0 (.cons false (.var 0) (.cons false (.cst (.int 1)) (.cons false (.cst (.int 20)) (.nil)))))) (.nil)
def g_is_time : List Fn := [f_is_between]
def f_is_time : Fn := .pur (runP g_is_time fuW 1 1 c_is_time)
theorem ok_is_time {fa : Addr} (D : Def K mg "is_time" "is_time" (top 24) fa .none) (B : Blts mg) (h_is_between : CallOk P w K mg base 2 "is_between" f_is_between) (k_MOST_TIME : CstOk K mg "MOST_TIME" (.int 20)) : CallOk P w K mg base 3 "is_time" f_is_time :=
  defP (kp := fun _ => false) (G := g_is_time) (fu := fuW) (N := ["value"]) (ps := ["value"]) (b := c_is_time) D (by decide +kernel) (fun _ _ _ _ _ _ _ _ us hl => match us, hl with | [_], _ => rfl) fun _ _ C T =>
    z_cons C (z_ret C (w_cal C 0 (h_is_between.mono (by decide)) (w_cons C (w_var C 0) (w_cons C (w_int C) (w_cons C (w_glob C k_MOST_TIME) (w_nil C))))))
    (z_nil C)
def c_is_meeting : CB := .cons (.ret (.cal 0 (.cons false (.var 1) (.cons false (.cst (.int 0)) (.cons false (.bin .Sub (.bi .len (.cons false (.idx (.var 0) (.cst (.int 1))) (.nil))) (.cst (.int 1))) (.nil)))))) (.nil)
def g_is_meeting : List Fn := [f_is_between]
def f_is_meeting : Fn := .pur (runP g_is_meeting fuW 2 2 c_is_meeting)
theorem ok_is_meeting {fa : Addr} (D : Def K mg "is_meeting" "is_meeting" (top 25) fa .none) (B : Blts mg) (h_is_between : CallOk P w K mg base 2 "is_between" f_is_between)  : CallOk P w K mg base 3 "is_meeting" f_is_meeting :=
  defP (kp := fun _ => false) (G := g_is_meeting) (fu := fuW) (N := ["web", "value"]) (ps := ["web", "value"]) (b := c_is_meeting) D (by decide +kernel) (fun _ _ _ _ _ _ _ _ us hl => match us, hl with | [_, _], _ => rfl) fun _ _ C T =>
    z_cons C (z_ret C (w_cal C 0 (h_is_between.mono (by decide)) (w_cons C (w_var C 1) (w_cons C (w_int C) (w_cons C (w_bin C (w_bi C .len B (q_cons C (w_idx C (w_var C 0) (w_int C)) (q_nil C))) (w_int C)) (w_nil C))))))
    (z_nil C)
def c_ends_of : CB := .cons (.ret (.sli (.var 0) (.som (.cst (.int 1))) (.non))) (.nil)
def g_ends_of : List Fn := []
def f_ends_of : Fn := .pur (runP g_ends_of fuW 1 1 c_ends_of)
theorem ok_ends_of {fa : Addr} (D : Def K mg "ends_of" "ends_of" (top 26) fa .none) (B : Blts mg)   : CallOk P w K mg base 1 "ends_of" f_ends_of :=
  defP (kp := fun _ => false) (G := g_ends_of) (fu := fuW) (N := ["meeting"]) (ps := ["meeting"]) (b := c_ends_of) D (by decide +kernel) (fun _ _ _ _ _ _ _ _ us hl => match us, hl with | [_], _ => rfl) fun _ _ C T =>
    z_cons C (z_ret C (w_sli C (w_var C 0) (o_som C (w_int C)) (o_non C)))
    (z_nil C)
def c_made_web : CB := .cons (.ret (.tup (.cons false (.var 0) (.cons false (.bi .tup (.cons false (.bi .srt (.cons false (.var 1) (.nil))) (.nil))) (.nil))))) (.nil)
def g_made_web : List Fn := []
def f_made_web : Fn := .pur (runP g_made_web fuW 2 2 c_made_web)
theorem ok_made_web {fa : Addr} (D : Def K mg "made_web" "made_web" (top 27) fa .none) (B : Blts mg)   : CallOk P w K mg base 1 "made_web" f_made_web :=
  defP (kp := fun _ => false) (G := g_made_web) (fu := fuW) (N := ["places", "meetings"]) (ps := ["places", "meetings"]) (b := c_made_web) D (by decide +kernel) (fun _ _ _ _ _ _ _ _ us hl => match us, hl with | [_, _], _ => rfl) fun _ _ C T =>
    z_cons C (z_ret C (w_tup C (w_cons C (w_var C 0) (w_cons C (w_bi C .tup B (q_cons C (w_bi C .srt B (q_cons C (w_var C 1) (q_nil C))) (q_nil C))) (w_nil C)))))
    (z_nil C)
def c_without_by : CB := .cons (.ret (.tup (.cons false (.idx (.var 0) (.cst (.int 0))) (.cons false (.bi .tup (.cons false (.comp (.enu (.idx (.var 0) (.cst (.int 1)))) (.tp [2, 3]) (.tval (.cmp .NotIn (.var 2) (.var 1))) (.var 3) [2, 3]) (.nil))) (.nil))))) (.nil)
def g_without_by : List Fn := []
def f_without_by : Fn := .pur (runP g_without_by fuW 4 2 c_without_by)
theorem ok_without_by {fa : Addr} (D : Def K mg "without_by" "without_by" (top 28) fa .none) (B : Blts mg)   : CallOk P w K mg base 1 "without_by" f_without_by :=
  defP (kp := fun _ => false) (G := g_without_by) (fu := fuW) (N := ["web", "lot", "index", "meeting"]) (ps := ["web", "lot"]) (b := c_without_by) D (by decide +kernel) (fun _ _ _ _ _ _ _ _ us hl => match us, hl with | [_, _], _ => rfl) fun _ _ C T =>
    z_cons C (z_ret C (w_tup C (w_cons C (w_idx C (w_var C 0) (w_int C)) (w_cons C (w_bi C .tup B (q_cons C (w_comp C [("index", 2), ("meeting", 3)] (i_enu C B (w_idx C (w_var C 0) (w_int C))) (fun _ C' => x_tp C' (x_cons C' (x_nm C' 2) (x_cons C' (x_nm C' 3) (x_nil C')))) (fun _ C' => y_one C' (t_cmp C' (w_var C' 2) (w_var C' 1))) (fun _ C' => w_var C' 3)) (q_nil C))) (w_nil C)))))
    (z_nil C)
def c_led_at : CB := .cons (.asg 3 (.bi .lst (.cons false (.var 1) (.nil)))) (.cons (.asg 4 (.cst (.bool true))) (.cons (.whl (.tval (.var 4)) (.cons (.asg 5 (.ife (.tval (.cmp .Eq (.var 2) (.cst (.str "strict")))) (.var 1) (.bi .lst (.cons false (.var 3) (.nil))))) (.cons (.asg 6 (.bin .Add (.comp (.seq (.var 0)) (.tp [8, 9]) (.tval (.cmp .In (.var 8) (.var 5))) (.var 9) [8, 9]) (.comp (.seq (.var 0)) (.tp [8, 9]) (.tval (.cmp .In (.var 9) (.var 5))) (.var 8) [8, 9]))) (.cons (.asg 6 (.comp (.seq (.bi .srtSet (.cons false (.var 6) .nil))) (.nm 7) (.tval (.cmp .NotIn (.var 7) (.var 3))) (.var 7) [7])) (.cons (.asgT [3, 4] (.tup (.cons false (.bin .Add (.var 3) (.var 6)) (.cons false (.andd (.cmp .NotEq (.var 6) (.lst (.nil))) (.cmp .NotEq (.var 2) (.cst (.str "strict")))) (.nil))))) (.nil)))))) (.cons (.ret (.var 3)) (.nil))))
def g_led_at : List Fn := []
def f_led_at : Fn := .pur (runP g_led_at fuW 10 3 c_led_at)
theorem ok_led_at {fa : Addr} (D : Def K mg "led_at" "led_at" (top 29) fa .none) (B : Blts mg)  (k_STRICT : CstOk K mg "STRICT" (.str "strict")) : CallOk P w K mg base 1 "led_at" f_led_at :=
  defP (kp := fun _ => false) (G := g_led_at) (fu := fuW) (N := ["pairs", "had", "kind", "found", "more", "base", "fresh", "place", "one", "other"]) (ps := ["pairs", "had", "kind"]) (b := c_led_at) D (by decide +kernel) (fun _ _ _ _ _ _ _ _ us hl => match us, hl with | [_, _, _], _ => rfl) fun _ _ C T =>
    z_cons C (z_asgC C rfl 3 (w_bi C .lst B (q_cons C (w_var C 1) (q_nil C))))
    (z_cons C (z_asg C 4 (w_bl C))
    (z_cons C (z_whl C (t_val C (w_var C 4))
    (z_cons C (z_asgC C rfl 5 (w_ife C (t_cmp C (w_var C 2) (w_glob C k_STRICT)) (w_var C 1) (w_bi C .lst B (q_cons C (w_var C 3) (q_nil C)))))
    (z_cons C (z_asg C 6 (w_bin C (w_comp C [("one", 8), ("other", 9)] (i_seq C (w_var C 0)) (fun _ C' => x_tp C' (x_cons C' (x_nm C' 8) (x_cons C' (x_nm C' 9) (x_nil C')))) (fun _ C' => y_one C' (t_cmp C' (w_var C' 8) (w_var C' 5))) (fun _ C' => w_var C' 9)) (w_comp C [("one", 8), ("other", 9)] (i_seq C (w_var C 0)) (fun _ C' => x_tp C' (x_cons C' (x_nm C' 8) (x_cons C' (x_nm C' 9) (x_nil C')))) (fun _ C' => y_one C' (t_cmp C' (w_var C' 9) (w_var C' 5))) (fun _ C' => w_var C' 8))))
    (z_cons C (z_asgL C 6 [("place", 7)] (i_seq C (w_srtSet C B (w_var C 6))) (fun _ C' => x_nm C' 7) (fun _ C' => y_one C' (t_cmp C' (w_var C' 7) (w_var C' 3))) (fun _ C' => w_var C' 7))
    (z_cons C (z_asgTC C (w_tup C (w_cons C (w_bin C (w_var C 3) (w_var C 6)) (w_cons C (w_and C (w_cmp C (w_var C 6) (w_lst C (w_nil C))) (w_one C (w_cmp C (w_var C 2) (w_glob C k_STRICT)))) (w_nil C)))) (x_tp C (x_cons C (x_cel C rfl 3) (x_cons C (x_nm C 4) (x_nil C)))))
    (z_nil C))))))
    (z_cons C (z_ret C (w_var C 3))
    (z_nil C))))
def c_arrivals_by : CB := .cons (.asg 4 (.dsp (.var 2) (.var 3))) (.cons (.frl (.nm 5) (.rng2 (.var 3) (.bin .Add (.cst (.int 20)) (.cst (.int 1)))) (.cons (.asg 6 (.comp (.seq (.idx (.var 0) (.cst (.int 1)))) (.nm 8) (.tval (.cmp .Eq (.idx (.var 8) (.cst (.int 0))) (.var 5))) (.cal 0 (.cons false (.var 8) (.nil))) [8])) (.cons (.frl (.nm 7) (.seq (.cal 1 (.cons false (.var 6) (.cons false (.bi .lst (.cons false (.var 4) (.nil))) (.cons false (.var 1) (.nil)))))) (.cons (.ite (.tval (.cmp .NotIn (.var 7) (.var 4))) (.cons (.sub 4 (.var 7) (.var 5)) (.nil)) (.nil)) (.nil))) (.nil)))) (.cons (.ret (.var 4)) (.nil)))
def g_arrivals_by : List Fn := [f_ends_of, f_led_at]
def f_arrivals_by : Fn := .mak (runK g_arrivals_by fuW 9 4 c_arrivals_by)
theorem ok_arrivals_by {fa : Addr} (D : Def K mg "arrivals_by" "arrivals_by" (top 30) fa .none) (B : Blts mg) (h_ends_of : CallOk P w K mg base 1 "ends_of" f_ends_of) (h_led_at : CallOk P w K mg base 1 "led_at" f_led_at) (k_MOST_TIME : CstOk K mg "MOST_TIME" (.int 20)) : CallOk P w K mg base 2 "arrivals_by" f_arrivals_by :=
  defK (kp := fun _ => false) (G := g_arrivals_by) (fu := fuW) (N := ["web", "kind", "start", "time", "found", "now", "pairs", "place", "meeting"]) (ps := ["web", "kind", "start", "time"]) (b := c_arrivals_by) D (by decide +kernel) (fun _ _ _ _ _ _ _ _ us hl => match us, hl with | [_, _, _, _], _ => rfl) fun _ _ C T =>
    z_cons C (z_asg C 4 (w_dsp C (w_var C 2) (w_var C 3)))
    (z_cons C (z_frl C (i_rng2 C B (w_var C 3) (w_bin C (w_glob C k_MOST_TIME) (w_int C))) (x_cel C rfl 5)
    (z_cons C (z_asgL C 6 [("meeting", 8)] (i_seq C (w_idx C (w_var C 0) (w_int C))) (fun _ C' => x_nm C' 8) (fun _ C' => y_one C' (t_cmp C' (w_idx C' (w_var C' 8) (w_int C')) (w_var C' 5))) (fun _ C' => w_cal C' 0 (h_ends_of.mono (by decide)) (w_cons C' (w_var C' 8) (w_nil C'))))
    (z_cons C (z_frl C (i_seq C (w_cal C 1 (h_led_at.mono (by decide)) (w_cons C (w_var C 6) (w_cons C (w_bi C .lst B (q_cons C (w_var C 4) (q_nil C))) (w_cons C (w_var C 1) (w_nil C)))))) (x_nm C 7)
    (z_cons C (z_ite C (t_cmp C (w_var C 7) (w_var C 4))
    (z_cons C (z_sub C 4 (w_var C 4) (w_var C 7) (w_var C 5))
    (z_nil C))
    (z_nil C))
    (z_nil C)))
    (z_nil C))))
    (z_cons C (z_ret C (w_var C 4))
    (z_nil C)))
def c_come_by : CB := .cons (.ret (.bi .tup (.cons false (.bi .srt (.cons false (.cal 0 (.cons false (.var 0) (.cons false (.var 1) (.cons false (.var 2) (.cons false (.var 3) (.nil)))))) (.nil))) (.nil)))) (.nil)
def g_come_by : List Fn := [f_arrivals_by]
def f_come_by : Fn := .pur (runP g_come_by fuW 4 4 c_come_by)
theorem ok_come_by {fa : Addr} (D : Def K mg "come_by" "come_by" (top 31) fa .none) (B : Blts mg) (h_arrivals_by : CallOk P w K mg base 2 "arrivals_by" f_arrivals_by)  : CallOk P w K mg base 3 "come_by" f_come_by :=
  defP (kp := fun _ => false) (G := g_come_by) (fu := fuW) (N := ["web", "kind", "start", "time"]) (ps := ["web", "kind", "start", "time"]) (b := c_come_by) D (by decide +kernel) (fun _ _ _ _ _ _ _ _ us hl => match us, hl with | [_, _, _, _], _ => rfl) fun _ _ C T =>
    z_cons C (z_ret C (w_bi C .tup B (q_cons C (w_bi C .srt B (q_cons C (w_cal C 0 (h_arrivals_by.mono (by decide)) (w_cons C (w_var C 0) (w_cons C (w_var C 1) (w_cons C (w_var C 2) (w_cons C (w_var C 3) (w_nil C)))))) (q_nil C))) (q_nil C))))
    (z_nil C)
def c_table_by : CB := .cons (.ret (.bi .tup (.cons false (.comp (.rng1 (.idx (.var 0) (.cst (.int 0)))) (.nm 2) (.yes) (.cal 0 (.cons false (.var 0) (.cons false (.var 1) (.cons false (.var 2) (.cons false (.cst (.int 1)) (.nil)))))) [2]) (.nil)))) (.nil)
def g_table_by : List Fn := [f_come_by]
def f_table_by : Fn := .pur (runP g_table_by fuW 3 2 c_table_by)
theorem ok_table_by {fa : Addr} (D : Def K mg "table_by" "table_by" (top 32) fa .none) (B : Blts mg) (h_come_by : CallOk P w K mg base 3 "come_by" f_come_by)  : CallOk P w K mg base 4 "table_by" f_table_by :=
  defP (kp := fun _ => false) (G := g_table_by) (fu := fuW) (N := ["web", "kind", "place"]) (ps := ["web", "kind"]) (b := c_table_by) D (by decide +kernel) (fun _ _ _ _ _ _ _ _ us hl => match us, hl with | [_, _], _ => rfl) fun _ _ C T =>
    z_cons C (z_ret C (w_bi C .tup B (q_cons C (w_comp C [("place", 2)] (i_rng1 C B (w_idx C (w_var C 0) (w_int C))) (fun _ C' => x_nm C' 2) (fun _ C' => y_yes C') (fun _ C' => w_cal C' 0 (h_come_by.mono (by decide)) (w_cons C' (w_var C' 0) (w_cons C' (w_var C' 1) (w_cons C' (w_var C' 2) (w_cons C' (w_int C') (w_nil C'))))))) (q_nil C))))
    (z_nil C)
def c_deaf_by : CB := .cons (.asg 2 (.cal 0 (.cons false (.var 0) (.cons false (.var 1) (.nil))))) (.cons (.ret (.bi .tup (.cons false (.comp2 (.rng1 (.idx (.var 0) (.cst (.int 0)))) (.nm 3) (.yes) (.rng1 (.idx (.var 0) (.cst (.int 0)))) (.nm 4) (.tval (.cmp .NotIn (.var 4) (.idx (.var 2) (.var 3)))) (.tup (.cons false (.var 3) (.cons false (.var 4) (.nil)))) [3, 4] [4]) (.nil)))) (.nil))
def g_deaf_by : List Fn := [f_table_by]
def f_deaf_by : Fn := .pur (runP g_deaf_by fuW 5 2 c_deaf_by)
theorem ok_deaf_by {fa : Addr} (D : Def K mg "deaf_by" "deaf_by" (top 33) fa .none) (B : Blts mg) (h_table_by : CallOk P w K mg base 4 "table_by" f_table_by)  : CallOk P w K mg base 5 "deaf_by" f_deaf_by :=
  defP (kp := fun _ => false) (G := g_deaf_by) (fu := fuW) (N := ["web", "kind", "table", "one", "other"]) (ps := ["web", "kind"]) (b := c_deaf_by) D (by decide +kernel) (fun _ _ _ _ _ _ _ _ us hl => match us, hl with | [_, _], _ => rfl) fun _ _ C T =>
    z_cons C (z_asgC C rfl 2 (w_cal C 0 (h_table_by.mono (by decide)) (w_cons C (w_var C 0) (w_cons C (w_var C 1) (w_nil C)))))
    (z_cons C (z_ret C (w_bi C .tup B (q_cons C (w_comp2 C [("one", 3), ("other", 4)] [4] (i_rng1 C B (w_idx C (w_var C 0) (w_int C))) (fun _ C' => x_nm C' 3) (fun _ C' => y_yes C') (fun _ C' => i_rng1 C' B (w_idx C' (w_var C' 0) (w_int C'))) (fun _ C' => x_nm C' 4) (fun _ C' => y_one C' (t_cmp C' (w_var C' 4) (w_idx C' (w_var C' 2) (w_var C' 3)))) (fun _ C' => w_tup C' (w_cons C' (w_var C' 3) (w_cons C' (w_var C' 4) (w_nil C'))))) (q_nil C))))
    (z_nil C))
def c_is_whole_by : CB := .cons (.ret (.cmp .Eq (.cal 0 (.cons false (.var 0) (.cons false (.var 1) (.nil)))) (.tup (.nil)))) (.nil)
def g_is_whole_by : List Fn := [f_deaf_by]
def f_is_whole_by : Fn := .pur (runP g_is_whole_by fuW 2 2 c_is_whole_by)
theorem ok_is_whole_by {fa : Addr} (D : Def K mg "is_whole_by" "is_whole_by" (top 34) fa .none) (B : Blts mg) (h_deaf_by : CallOk P w K mg base 5 "deaf_by" f_deaf_by)  : CallOk P w K mg base 6 "is_whole_by" f_is_whole_by :=
  defP (kp := fun _ => false) (G := g_is_whole_by) (fu := fuW) (N := ["web", "kind"]) (ps := ["web", "kind"]) (b := c_is_whole_by) D (by decide +kernel) (fun _ _ _ _ _ _ _ _ us hl => match us, hl with | [_, _], _ => rfl) fun _ _ C T =>
    z_cons C (z_ret C (w_cmp C (w_cal C 0 (h_deaf_by.mono (by decide)) (w_cons C (w_var C 0) (w_cons C (w_var C 1) (w_nil C)))) (w_tup C (w_nil C))))
    (z_nil C)
def c_has_form : CB := .cons (.ite (.tor (.tnot (.tval (.bi (.isi .tup) (.cons false (.var 0) .nil)))) (.tor (.tval (.cmp .Eq (.bi .len (.cons false (.var 0) (.nil))) (.cst (.int 0)))) (.tnot (.tval (.cal 0 (.cons false (.idx (.var 0) (.cst (.int 0))) (.nil))))))) (.cons (.ret (.cst (.bool false))) (.nil)) (.nil)) (.cons (.ret (.andd (.inW [("meet", 4), ("strike", 2), ("move", 3)] (.idx (.var 0) (.cst (.int 0)))) (.cmp .Eq (.bi .len (.cons false (.var 0) (.nil))) (.atW [("meet", 4), ("strike", 2), ("move", 3)] (.idx (.var 0) (.cst (.int 0))))))) (.nil))
def g_has_form : List Fn := [f_is_string]
def f_has_form : Fn := .pur (runP g_has_form fuW 1 1 c_has_form)
theorem ok_has_form {fa : Addr} (D : Def K mg "has_form" "has_form" (top 41) fa .none) (B : Blts mg) (h_is_string : CallOk P w K mg base 1 "is_string" f_is_string)  (d_SIZES : WrtOk K w mg "SIZES" [("meet", 4), ("strike", 2), ("move", 3)]) : CallOk P w K mg base 2 "has_form" f_has_form :=
  defP (kp := fun _ => false) (G := g_has_form) (fu := fuW) (N := ["value"]) (ps := ["value"]) (b := c_has_form) D (by decide +kernel) (fun _ _ _ _ _ _ _ _ us hl => match us, hl with | [_], _ => rfl) fun _ _ C T =>
    z_cons C (z_ite C ((t_or C (t_not C (t_val C (w_isi C .tup B (w_var C 0)))) (t_or C (t_cmp C (w_bi C .len B (q_cons C (w_var C 0) (q_nil C))) (w_int C)) (t_or1 C (t_not C (t_val C (w_cal C 0 (h_is_string.mono (by decide)) (w_cons C (w_idx C (w_var C 0) (w_int C)) (w_nil C)))))))).pt)
    (z_cons C (z_ret C (w_bl C))
    (z_nil C))
    (z_nil C))
    (z_cons C (z_ret C (w_and C (w_inW C d_SIZES (w_idx C (w_var C 0) (w_int C))) (w_one C (w_cmp C (w_bi C .len B (q_cons C (w_var C 0) (q_nil C))) (w_atW C d_SIZES (w_idx C (w_var C 0) (w_int C)))))))
    (z_nil C))
def c_check_kind : CB := .cons (.ite (.tnot (.tval (.cal 0 (.cons false (.var 0) (.nil))))) (.cons (.rse "InvalidKind" "given" (.var 0)) (.nil)) (.nil)) (.nil)
def g_check_kind : List Fn := [f_is_kind]
def x_check_kind : List PyData → Option (Except Exn PyData) := runX g_check_kind fuW 1 1 c_check_kind
def f_check_kind : Fn := .rai x_check_kind
theorem ok_check_kind {fa : Addr} (D : Def K mg "check_kind" "check_kind" (top 22) fa .none) (B : Blts mg) (h_is_kind : CallOk P w K mg base 2 "is_kind" f_is_kind) (e_InvalidKind : ErrOk P w K mg base "InvalidKind" "given")  : CallXOk P w K mg base 3 "check_kind" x_check_kind :=
  defX (kp := fun _ => false) (G := g_check_kind) (fu := fuW) (N := ["value"]) (ps := ["value"]) (b := c_check_kind) D (by decide +kernel) (fun _ _ _ _ _ _ _ _ us hl => match us, hl with | [_], _ => rfl) fun _ _ C T =>
    z_cons C (z_ite C (t_not C (t_val C (w_cal C 0 (h_is_kind.mono (by decide)) (w_cons C (w_var C 0) (w_nil C)))))
    (z_cons C (z_rse C T e_InvalidKind (w_var C 0))
    (z_nil C))
    (z_nil C))
    (z_nil C)
def c_check_meet : CB := .cons (.ite (.tnot (.tval (.cal 0 (.cons false (.idx (.var 1) (.cst (.int 1))) (.nil))))) (.cons (.rse "InvalidDeed" "index" (.cst (.int 1))) (.nil)) (.nil)) (.cons (.ite (.tnot (.tval (.cal 1 (.cons false (.var 0) (.cons false (.idx (.var 1) (.cst (.int 2))) (.nil)))))) (.cons (.rse "InvalidDeed" "index" (.cst (.int 2))) (.nil)) (.nil)) (.cons (.ite (.tor (.tnot (.tval (.cal 1 (.cons false (.var 0) (.cons false (.idx (.var 1) (.cst (.int 3))) (.nil)))))) (.tval (.cmp .Eq (.idx (.var 1) (.cst (.int 3))) (.idx (.var 1) (.cst (.int 2)))))) (.cons (.rse "InvalidDeed" "index" (.cst (.int 3))) (.nil)) (.nil)) (.nil)))
def g_check_meet : List Fn := [f_is_time, f_is_place]
def x_check_meet : List PyData → Option (Except Exn PyData) := runX g_check_meet fuW 2 2 c_check_meet
def f_check_meet : Fn := .rai x_check_meet
theorem ok_check_meet {fa : Addr} (D : Def K mg "check_meet" "check_meet" (top 42) fa .none) (B : Blts mg) (h_is_time : CallOk P w K mg base 3 "is_time" f_is_time) (h_is_place : CallOk P w K mg base 3 "is_place" f_is_place) (e_InvalidDeed : ErrOk P w K mg base "InvalidDeed" "index")  : CallXOk P w K mg base 4 "check_meet" x_check_meet :=
  defX (kp := fun _ => false) (G := g_check_meet) (fu := fuW) (N := ["web", "value"]) (ps := ["web", "value"]) (b := c_check_meet) D (by decide +kernel) (fun _ _ _ _ _ _ _ _ us hl => match us, hl with | [_, _], _ => rfl) fun _ _ C T =>
    z_cons C (z_ite C (t_not C (t_val C (w_cal C 0 (h_is_time.mono (by decide)) (w_cons C (w_idx C (w_var C 1) (w_int C)) (w_nil C)))))
    (z_cons C (z_rse C T e_InvalidDeed (w_int C))
    (z_nil C))
    (z_nil C))
    (z_cons C (z_ite C (t_not C (t_val C (w_cal C 1 (h_is_place.mono (by decide)) (w_cons C (w_var C 0) (w_cons C (w_idx C (w_var C 1) (w_int C)) (w_nil C))))))
    (z_cons C (z_rse C T e_InvalidDeed (w_int C))
    (z_nil C))
    (z_nil C))
    (z_cons C (z_ite C ((t_or C (t_not C (t_val C (w_cal C 1 (h_is_place.mono (by decide)) (w_cons C (w_var C 0) (w_cons C (w_idx C (w_var C 1) (w_int C)) (w_nil C)))))) (t_or1 C (t_cmp C (w_idx C (w_var C 1) (w_int C)) (w_idx C (w_var C 1) (w_int C))))).pt)
    (z_cons C (z_rse C T e_InvalidDeed (w_int C))
    (z_nil C))
    (z_nil C))
    (z_nil C)))
def c_check_deed : CB := .cons (.ite (.tnot (.tval (.cal 0 (.cons false (.var 1) (.nil))))) (.cons (.rse "InvalidDeed" "index" (.cst (.int 0))) (.nil)) (.nil)) (.cons (.ite (.tval (.cmp .Eq (.idx (.var 1) (.cst (.int 0))) (.cst (.str "meet")))) (.cons (.calx 1 (.cons false (.var 0) (.cons false (.var 1) (.nil)))) (.nil)) (.cons (.ite (.tnot (.tval (.cal 2 (.cons false (.idx (.var 1) (.cst (.int 1))) (.nil))))) (.cons (.rse "InvalidDeed" "index" (.cst (.int 1))) (.nil)) (.cons (.ite (.tand (.tval (.cmp .Eq (.idx (.var 1) (.cst (.int 0))) (.cst (.str "move")))) (.tnot (.tval (.cal 3 (.cons false (.idx (.var 1) (.cst (.int 2))) (.nil)))))) (.cons (.rse "InvalidDeed" "index" (.cst (.int 2))) (.nil)) (.nil)) (.nil))) (.nil))) (.nil))
def g_check_deed : List Fn := [f_has_form, f_check_meet, f_is_number__1, f_is_time]
def x_check_deed : List PyData → Option (Except Exn PyData) := runX g_check_deed fuW 2 2 c_check_deed
def f_check_deed : Fn := .rai x_check_deed
theorem ok_check_deed {fa : Addr} (D : Def K mg "check_deed" "check_deed" (top 43) fa .none) (B : Blts mg) (h_has_form : CallOk P w K mg base 2 "has_form" f_has_form) (h_check_meet : CallXOk P w K mg base 4 "check_meet" x_check_meet) (h_is_number__1 : CallOk P w K mg base 2 "is_number" f_is_number__1) (h_is_time : CallOk P w K mg base 3 "is_time" f_is_time) (e_InvalidDeed : ErrOk P w K mg base "InvalidDeed" "index")  : CallXOk P w K mg base 5 "check_deed" x_check_deed :=
  defX (kp := fun _ => false) (G := g_check_deed) (fu := fuW) (N := ["web", "value"]) (ps := ["web", "value"]) (b := c_check_deed) D (by decide +kernel) (fun _ _ _ _ _ _ _ _ us hl => match us, hl with | [_, _], _ => rfl) fun _ _ C T =>
    z_cons C (z_ite C (t_not C (t_val C (w_cal C 0 (h_has_form.mono (by decide)) (w_cons C (w_var C 1) (w_nil C)))))
    (z_cons C (z_rse C T e_InvalidDeed (w_int C))
    (z_nil C))
    (z_nil C))
    (z_cons C (z_ite C (t_cmp C (w_idx C (w_var C 1) (w_int C)) (w_str C))
    (z_cons C (z_calx C 1 T (h_check_meet.mono (by decide)) (w_cons C (w_var C 0) (w_cons C (w_var C 1) (w_nil C))))
    (z_nil C))
    (z_cons C (z_ite C (t_not C (t_val C (w_cal C 2 (h_is_number__1.mono (by decide)) (w_cons C (w_idx C (w_var C 1) (w_int C)) (w_nil C)))))
    (z_cons C (z_rse C T e_InvalidDeed (w_int C))
    (z_nil C))
    (z_cons C (z_ite C ((t_and C (t_cmp C (w_idx C (w_var C 1) (w_int C)) (w_str C)) (t_and1 C (t_not C (t_val C (w_cal C 3 (h_is_time.mono (by decide)) (w_cons C (w_idx C (w_var C 1) (w_int C)) (w_nil C))))))).pt)
    (z_cons C (z_rse C T e_InvalidDeed (w_int C))
    (z_nil C))
    (z_nil C))
    (z_nil C)))
    (z_nil C)))
    (z_nil C))
def c_meeting_of : CB := .cons (.ite (.tval (.cmp .Eq (.idx (.var 1) (.cst (.int 0))) (.cst (.str "move")))) (.cons (.ret (.tup (.cons false (.idx (.var 1) (.cst (.int 2))) (.cons true (.sli (.idx (.idx (.var 0) (.cst (.int 1))) (.idx (.var 1) (.cst (.int 1)))) (.som (.cst (.int 1))) (.non)) (.nil))))) (.nil)) (.nil)) (.cons (.ret (.tup (.cons false (.idx (.var 1) (.cst (.int 1))) (.cons false (.bi .mn (.cons false (.sli (.var 1) (.som (.cst (.int 2))) (.non)) (.nil))) (.cons false (.bi .mx (.cons false (.sli (.var 1) (.som (.cst (.int 2))) (.non)) (.nil))) (.nil)))))) (.nil))
def g_meeting_of : List Fn := []
def f_meeting_of : Fn := .pur (runP g_meeting_of fuW 2 2 c_meeting_of)
theorem ok_meeting_of {fa : Addr} (D : Def K mg "meeting_of" "meeting_of" (top 44) fa .none) (B : Blts mg)   : CallOk P w K mg base 1 "meeting_of" f_meeting_of :=
  defP (kp := fun _ => false) (G := g_meeting_of) (fu := fuW) (N := ["web", "deed"]) (ps := ["web", "deed"]) (b := c_meeting_of) D (by decide +kernel) (fun _ _ _ _ _ _ _ _ us hl => match us, hl with | [_, _], _ => rfl) fun _ _ C T =>
    z_cons C (z_ite C (t_cmp C (w_idx C (w_var C 1) (w_int C)) (w_str C))
    (z_cons C (z_ret C (w_tup C (w_cons C (w_idx C (w_var C 1) (w_int C)) (w_star C (w_sli C (w_idx C (w_idx C (w_var C 0) (w_int C)) (w_idx C (w_var C 1) (w_int C))) (o_som C (w_int C)) (o_non C)) (w_nil C)))))
    (z_nil C))
    (z_nil C))
    (z_cons C (z_ret C (w_tup C (w_cons C (w_idx C (w_var C 1) (w_int C)) (w_cons C (w_bi C .mn B (q_cons C (w_sli C (w_var C 1) (o_som C (w_int C)) (o_non C)) (q_nil C))) (w_cons C (w_bi C .mx B (q_cons C (w_sli C (w_var C 1) (o_som C (w_int C)) (o_non C)) (q_nil C))) (w_nil C))))))
    (z_nil C))
def c_reason_to_move : CB := .cons (.asg 2 (.cal 0 (.cons false (.var 0) (.cons false (.var 1) (.nil))))) (.cons (.ite (.tval (.cmp .Eq (.var 2) (.idx (.idx (.var 0) (.cst (.int 1))) (.idx (.var 1) (.cst (.int 1)))))) (.cons (.ret (.cst (.str "same"))) (.nil)) (.nil)) (.cons (.ret (.ife (.tval (.cmp .In (.var 2) (.idx (.var 0) (.cst (.int 1))))) (.cst (.str "had")) (.cst .none))) (.nil)))
def g_reason_to_move : List Fn := [f_meeting_of]
def f_reason_to_move : Fn := .pur (runP g_reason_to_move fuW 3 2 c_reason_to_move)
theorem ok_reason_to_move {fa : Addr} (D : Def K mg "reason_to_move" "reason_to_move" (top 46) fa .none) (B : Blts mg) (h_meeting_of : CallOk P w K mg base 1 "meeting_of" f_meeting_of) (k_SAME : CstOk K mg "SAME" (.str "same")) (k_HAD : CstOk K mg "HAD" (.str "had")) : CallOk P w K mg base 2 "reason_to_move" f_reason_to_move :=
  defP (kp := fun _ => false) (G := g_reason_to_move) (fu := fuW) (N := ["web", "deed", "meeting"]) (ps := ["web", "deed"]) (b := c_reason_to_move) D (by decide +kernel) (fun _ _ _ _ _ _ _ _ us hl => match us, hl with | [_, _], _ => rfl) fun _ _ C T =>
    z_cons C (z_asg C 2 (w_cal C 0 (h_meeting_of.mono (by decide)) (w_cons C (w_var C 0) (w_cons C (w_var C 1) (w_nil C)))))
    (z_cons C (z_ite C (t_cmp C (w_var C 2) (w_idx C (w_idx C (w_var C 0) (w_int C)) (w_idx C (w_var C 1) (w_int C))))
    (z_cons C (z_ret C (w_glob C k_SAME))
    (z_nil C))
    (z_nil C))
    (z_cons C (z_ret C (w_ife C (t_cmp C (w_var C 2) (w_idx C (w_var C 0) (w_int C))) (w_glob C k_HAD) (w_non C)))
    (z_nil C)))
def c_reason_against : CB := .cons (.ite (.tval (.cmp .Eq (.idx (.var 1) (.cst (.int 0))) (.cst (.str "meet")))) (.cons (.ite (.tval (.cmp .In (.cal 0 (.cons false (.var 0) (.cons false (.var 1) (.nil)))) (.idx (.var 0) (.cst (.int 1))))) (.cons (.ret (.cst (.str "had"))) (.nil)) (.nil)) (.cons (.ret (.ife (.tval (.cmp .Eq (.bi .len (.cons false (.idx (.var 0) (.cst (.int 1))) (.nil))) (.cst (.int 12)))) (.cst (.str "full")) (.cst .none))) (.nil))) (.nil)) (.cons (.ite (.tnot (.tval (.cal 1 (.cons false (.var 0) (.cons false (.idx (.var 1) (.cst (.int 1))) (.nil)))))) (.cons (.ret (.cst (.str "none"))) (.nil)) (.nil)) (.cons (.ret (.ife (.tval (.cmp .Eq (.idx (.var 1) (.cst (.int 0))) (.cst (.str "move")))) (.cal 2 (.cons false (.var 0) (.cons false (.var 1) (.nil)))) (.cst .none))) (.nil)))
def g_reason_against : List Fn := [f_meeting_of, f_is_meeting, f_reason_to_move]
def f_reason_against : Fn := .pur (runP g_reason_against fuW 2 2 c_reason_against)
theorem ok_reason_against {fa : Addr} (D : Def K mg "reason_against" "reason_against" (top 45) fa .none) (B : Blts mg) (h_meeting_of : CallOk P w K mg base 1 "meeting_of" f_meeting_of) (h_is_meeting : CallOk P w K mg base 3 "is_meeting" f_is_meeting) (h_reason_to_move : CallOk P w K mg base 2 "reason_to_move" f_reason_to_move) (k_HAD : CstOk K mg "HAD" (.str "had")) (k_MOST_MEETINGS : CstOk K mg "MOST_MEETINGS" (.int 12)) (k_FULL : CstOk K mg "FULL" (.str "full")) (k_NONE : CstOk K mg "NONE" (.str "none")) : CallOk P w K mg base 4 "reason_against" f_reason_against :=
  defP (kp := fun _ => false) (G := g_reason_against) (fu := fuW) (N := ["web", "deed"]) (ps := ["web", "deed"]) (b := c_reason_against) D (by decide +kernel) (fun _ _ _ _ _ _ _ _ us hl => match us, hl with | [_, _], _ => rfl) fun _ _ C T =>
    z_cons C (z_ite C (t_cmp C (w_idx C (w_var C 1) (w_int C)) (w_str C))
    (z_cons C (z_ite C (t_cmp C (w_cal C 0 (h_meeting_of.mono (by decide)) (w_cons C (w_var C 0) (w_cons C (w_var C 1) (w_nil C)))) (w_idx C (w_var C 0) (w_int C)))
    (z_cons C (z_ret C (w_glob C k_HAD))
    (z_nil C))
    (z_nil C))
    (z_cons C (z_ret C (w_ife C (t_cmp C (w_bi C .len B (q_cons C (w_idx C (w_var C 0) (w_int C)) (q_nil C))) (w_glob C k_MOST_MEETINGS)) (w_glob C k_FULL) (w_non C)))
    (z_nil C)))
    (z_nil C))
    (z_cons C (z_ite C (t_not C (t_val C (w_cal C 1 (h_is_meeting.mono (by decide)) (w_cons C (w_var C 0) (w_cons C (w_idx C (w_var C 1) (w_int C)) (w_nil C))))))
    (z_cons C (z_ret C (w_glob C k_NONE))
    (z_nil C))
    (z_nil C))
    (z_cons C (z_ret C (w_ife C (t_cmp C (w_idx C (w_var C 1) (w_int C)) (w_str C)) (w_cal C 2 (h_reason_to_move.mono (by decide)) (w_cons C (w_var C 0) (w_cons C (w_var C 1) (w_nil C)))) (w_non C)))
    (z_nil C)))
def c_web_behind : CB := .cons (.ite (.tval (.cmp .Eq (.idx (.var 1) (.cst (.int 0))) (.cst (.str "strike")))) (.cons (.ret (.cal 0 (.cons false (.var 0) (.cons false (.tup (.cons false (.idx (.var 1) (.cst (.int 1))) (.nil))) (.nil))))) (.nil)) (.nil)) (.cons (.asg 2 (.ife (.tval (.cmp .Eq (.idx (.var 1) (.cst (.int 0))) (.cst (.str "move")))) (.idx (.cal 0 (.cons false (.var 0) (.cons false (.tup (.cons false (.idx (.var 1) (.cst (.int 1))) (.nil))) (.nil)))) (.cst (.int 1))) (.idx (.var 0) (.cst (.int 1))))) (.cons (.ret (.cal 1 (.cons false (.idx (.var 0) (.cst (.int 0))) (.cons false (.lst (.cons true (.var 2) (.cons false (.cal 2 (.cons false (.var 0) (.cons false (.var 1) (.nil)))) (.nil)))) (.nil))))) (.nil)))
def g_web_behind : List Fn := [f_without_by, f_made_web, f_meeting_of]
def f_web_behind : Fn := .pur (runP g_web_behind fuW 3 2 c_web_behind)
theorem ok_web_behind {fa : Addr} (D : Def K mg "web_behind" "web_behind" (top 47) fa .none) (B : Blts mg) (h_without_by : CallOk P w K mg base 1 "without_by" f_without_by) (h_made_web : CallOk P w K mg base 1 "made_web" f_made_web) (h_meeting_of : CallOk P w K mg base 1 "meeting_of" f_meeting_of)  : CallOk P w K mg base 2 "web_behind" f_web_behind :=
  defP (kp := fun _ => false) (G := g_web_behind) (fu := fuW) (N := ["web", "deed", "kept"]) (ps := ["web", "deed"]) (b := c_web_behind) D (by decide +kernel) (fun _ _ _ _ _ _ _ _ us hl => match us, hl with | [_, _], _ => rfl) fun _ _ C T =>
    z_cons C (z_ite C (t_cmp C (w_idx C (w_var C 1) (w_int C)) (w_str C))
    (z_cons C (z_ret C (w_cal C 0 (h_without_by.mono (by decide)) (w_cons C (w_var C 0) (w_cons C (w_tup C (w_cons C (w_idx C (w_var C 1) (w_int C)) (w_nil C))) (w_nil C)))))
    (z_nil C))
    (z_nil C))
    (z_cons C (z_asg C 2 (w_ife C (t_cmp C (w_idx C (w_var C 1) (w_int C)) (w_str C)) (w_idx C (w_cal C 0 (h_without_by.mono (by decide)) (w_cons C (w_var C 0) (w_cons C (w_tup C (w_cons C (w_idx C (w_var C 1) (w_int C)) (w_nil C))) (w_nil C)))) (w_int C)) (w_idx C (w_var C 0) (w_int C))))
    (z_cons C (z_ret C (w_cal C 1 (h_made_web.mono (by decide)) (w_cons C (w_idx C (w_var C 0) (w_int C)) (w_cons C (w_lst C (w_star C (w_var C 2) (w_cons C (w_cal C 2 (h_meeting_of.mono (by decide)) (w_cons C (w_var C 0) (w_cons C (w_var C 1) (w_nil C)))) (w_nil C)))) (w_nil C)))))
    (z_nil C)))
def f_Book : Fn := .mak (mkBook v_is_places x_check_kind)
theorem ok_Book {fa BC : Addr} (TB : BkTxt K BC) (D : DefM K "__init__" "Book.__init__" (inClass (top 48) 0) BC fa) (hm : mg "Book" = some (.ref BC)) (mk : PySem.W.makesIn K BC = true) (kc : PySem.W.keepIn K (.ref BC) = true) (B : Blts mg) (h_is_places : CallOk P w K mg base 3 "is_places" f_is_places) (h_check_kind : CallXOk P w K mg base 3 "check_kind" x_check_kind) (e_InvalidNumber : ErrOk P w K mg base "InvalidNumber" "given") : CallOk P w K mg base 5 "Book" f_Book :=
  defBook (fu := fuW) TB D hm mk kc (by decide +kernel) (fun _ _ _ _ _ _ _ _ us hl => match us, hl with | [_, _, _], _ => rfl) fun W X C T =>
    pss_cons (z_ite C (t_not C (t_val C (w_cal C 0 (h_is_places.mono (by decide)) (w_cons C (w_var C 1) (w_nil C))))) (z_cons C (z_rse C T e_InvalidNumber (w_var C 1)) (z_nil C)) (z_nil C))
    (pss_cons (z_calx C 1 T (h_check_kind.mono (by decide)) (w_cons C (w_var C 2) (w_nil C)))
    (pss_cons (z_sfld C (v_var C 0) (w_var C 1)) (pss_cons (z_sfld C (v_var C 0) (w_var C 2)) (pss_cons (z_sfld C (v_var C 0) (w_tup C (w_cons C (w_var C 1) (w_cons C (w_tup C (w_nil C)) (w_nil C)))))
    (pss_cons (z_sfld C (v_var C 0) (w_tup C (w_nil C))) (pss_one (z_sfld C (v_var C 0) (w_lst C (w_nil C)))))))))
def c_Book_do : CB := .cons (.calx 0 (.cons false (.fld 0 2) (.cons false (.var 1) (.nil)))) (.cons (.asg 2 (.cal 1 (.cons false (.fld 0 2) (.cons false (.var 1) (.nil))))) (.cons (.ite (.tval (.cmp .IsNot (.var 2) (.cst .none))) (.cons (.rse "Barred" "reason" (.var 2)) (.nil)) (.nil)) (.cons (.papp 0 2) (.cons (.fset 0 2 (.cal 2 (.cons false (.fld 0 2) (.cons false (.var 1) (.nil))))) (.cons (.fset 0 3 (.bin .Add (.fld 0 3) (.tup (.cons false (.var 1) (.nil))))) (.nil))))))
def g_Book_do : List Fn := [f_check_deed, f_reason_against, f_web_behind]
def x_Book_do : Sl → List PyData → Option (Except Exn PyData × Sl) := runR g_Book_do fuW 3 2 c_Book_do
def f_Book_do : Fn := .rmu x_Book_do
theorem okK_Book_do {fa : Addr} {BC : Addr} (TB : BkTxt K BC) (D : DefM K "do" "Book.do" (inClass (top 48) 1) BC fa) (B : Blts mg) (h_check_deed : CallXOk P w K mg base 5 "check_deed" x_check_deed) (h_reason_against : CallOk P w K mg base 4 "reason_against" f_reason_against) (h_web_behind : CallOk P w K mg base 2 "web_behind" f_web_behind) (e_Barred : ErrOk P w K mg base "Barred" "reason")  : MethKOk P w K mg base 6 "do" ["deed"] x_Book_do :=
  defMxK (kp := fun i => i == 0) rfl TB (G := g_Book_do) (fu := fuW) (N := ["self", "deed", "reason"]) (ps := ["self", "deed"]) (b := c_Book_do) D (by decide +kernel) (fun _ _ _ _ _ _ _ _ us ws h1 h2 => match us, ws, h1, h2 with | [_], [_], _, _ => rfl) fun _ _ C T =>
    z_cons C (z_calx C 0 T (h_check_deed.mono (by decide)) (w_cons C (w_fld C TB 0 2 (w_var C 0)) (w_cons C (w_var C 1) (w_nil C))))
    (z_cons C (z_asg C 2 (w_cal C 1 (h_reason_against.mono (by decide)) (w_cons C (w_fld C TB 0 2 (w_var C 0)) (w_cons C (w_var C 1) (w_nil C)))))
    (z_cons C (z_ite C (t_cmp C (w_var C 2) (w_non C))
    (z_cons C (z_rse C T e_Barred (w_var C 2))
    (z_nil C))
    (z_nil C))
    (z_cons C (z_papp C TB 0 2 (v_var C 0) (v_var C 0))
    (z_cons C (z_fset C TB 0 2 (w_var C 0) (w_cal C 2 (h_web_behind.mono (by decide)) (w_cons C (w_fld C TB 0 2 (w_var C 0)) (w_cons C (w_var C 1) (w_nil C)))))
    (z_cons C (z_fset C TB 0 3 (w_var C 0) (w_bin C (w_fld C TB 0 3 (w_var C 0)) (w_tup C (w_cons C (w_var C 1) (w_nil C)))))
    (z_nil C))))))
theorem ok_Book_do {fa : Addr} {BC : Addr} (TB : BkTxt K BC) (D : DefM K "do" "Book.do" (inClass (top 48) 1) BC fa) (B : Blts mg) (h_check_deed : CallXOk P w K mg base 5 "check_deed" x_check_deed) (h_reason_against : CallOk P w K mg base 4 "reason_against" f_reason_against) (h_web_behind : CallOk P w K mg base 2 "web_behind" f_web_behind) (e_Barred : ErrOk P w K mg base "Barred" "reason")  : MethXOk P w K mg base 6 "do" x_Book_do :=
  defMx (kp := fun i => i == 0) rfl TB (G := g_Book_do) (fu := fuW) (N := ["self", "deed", "reason"]) (ps := ["self", "deed"]) (b := c_Book_do) D (by decide +kernel) (fun _ _ _ _ _ _ _ _ us hl => match us, hl with | [_, _], _ => rfl) fun _ _ C T =>
    z_cons C (z_calx C 0 T (h_check_deed.mono (by decide)) (w_cons C (w_fld C TB 0 2 (w_var C 0)) (w_cons C (w_var C 1) (w_nil C))))
    (z_cons C (z_asg C 2 (w_cal C 1 (h_reason_against.mono (by decide)) (w_cons C (w_fld C TB 0 2 (w_var C 0)) (w_cons C (w_var C 1) (w_nil C)))))
    (z_cons C (z_ite C (t_cmp C (w_var C 2) (w_non C))
    (z_cons C (z_rse C T e_Barred (w_var C 2))
    (z_nil C))
    (z_nil C))
    (z_cons C (z_papp C TB 0 2 (v_var C 0) (v_var C 0))
    (z_cons C (z_fset C TB 0 2 (w_var C 0) (w_cal C 2 (h_web_behind.mono (by decide)) (w_cons C (w_fld C TB 0 2 (w_var C 0)) (w_cons C (w_var C 1) (w_nil C)))))
    (z_cons C (z_fset C TB 0 3 (w_var C 0) (w_bin C (w_fld C TB 0 3 (w_var C 0)) (w_tup C (w_cons C (w_var C 1) (w_nil C)))))
    (z_nil C))))))
def c_Book_undo : CB := .cons (.ite (.tval (.pemp 0)) (.cons (.rse0 "NothingToUndo") (.nil)) (.nil)) (.cons (.fset 0 2 (.ppop 0)) (.cons (.fset 0 3 (.sli (.fld 0 3) (.non) (.som (.neg (.cst (.int 1)))))) (.nil)))
def g_Book_undo : List Fn := []
def x_Book_undo : Sl → List PyData → Option (Except Exn PyData × Sl) := runR g_Book_undo fuW 1 1 c_Book_undo
def f_Book_undo : Fn := .rmu x_Book_undo
theorem ok_Book_undo {fa : Addr} {BC : Addr} (TB : BkTxt K BC) (D : DefM K "undo" "Book.undo" (inClass (top 48) 2) BC fa) (B : Blts mg)  {C_NothingToUndo : Addr} (e_NothingToUndo : Err0 K mg "NothingToUndo" C_NothingToUndo)  : MethXOk P w K mg base 3 "undo" x_Book_undo :=
  defMx (kp := fun i => i == 0) rfl TB (G := g_Book_undo) (fu := fuW) (N := ["self"]) (ps := ["self"]) (b := c_Book_undo) D (by decide +kernel) (fun _ _ _ _ _ _ _ _ us hl => match us, hl with | [_], _ => rfl) fun _ _ C T =>
    z_cons C (z_ite C (t_pemp C TB 0 (v_var C 0))
    (z_cons C (z_rse0 C T e_NothingToUndo)
    (z_nil C))
    (z_nil C))
    (z_cons C (z_fset C TB 0 2 (w_var C 0) (w_ppop C TB 0 (v_var C 0)))
    (z_cons C (z_fset C TB 0 3 (w_var C 0) (w_sli C (w_fld C TB 0 3 (w_var C 0)) (o_non C) (o_som C (w_neg C (w_int C)))))
    (z_nil C)))
def c_Book_table : CB := .cons (.ret (.cal 0 (.cons false (.fld 0 2) (.cons false (.fld 0 1) (.nil))))) (.nil)
def g_Book_table : List Fn := [f_table_by]
def f_Book_table : Fn := .mut (runM g_Book_table fuW 1 1 c_Book_table)
theorem ok_Book_table {fa : Addr} {BC : Addr} (TB : BkTxt K BC) (D : DefM K "table" "Book.table" (inClass (top 48) 3) BC fa) (B : Blts mg) (h_table_by : CallOk P w K mg base 4 "table_by" f_table_by)  : MethOk P w K mg base 5 "table" f_Book_table :=
  defMm (kp := fun i => i == 0) rfl TB (G := g_Book_table) (fu := fuW) (N := ["self"]) (ps := ["self"]) (b := c_Book_table) D (by decide +kernel) (fun _ _ _ _ _ _ _ _ us hl => match us, hl with | [_], _ => rfl) fun _ _ C T =>
    z_cons C (z_ret C (w_cal C 0 (h_table_by.mono (by decide)) (w_cons C (w_fld C TB 0 2 (w_var C 0)) (w_cons C (w_fld C TB 0 1 (w_var C 0)) (w_nil C)))))
    (z_nil C)
def c_Book_is_whole : CB := .cons (.ret (.cal 0 (.cons false (.fld 0 2) (.cons false (.fld 0 1) (.nil))))) (.nil)
def g_Book_is_whole : List Fn := [f_is_whole_by]
def f_Book_is_whole : Fn := .mut (runM g_Book_is_whole fuW 1 1 c_Book_is_whole)
theorem ok_Book_is_whole {fa : Addr} {BC : Addr} (TB : BkTxt K BC) (D : DefM K "is_whole" "Book.is_whole" (inClass (top 48) 4) BC fa) (B : Blts mg) (h_is_whole_by : CallOk P w K mg base 6 "is_whole_by" f_is_whole_by)  : MethOk P w K mg base 7 "is_whole" f_Book_is_whole :=
  defMm (kp := fun i => i == 0) rfl TB (G := g_Book_is_whole) (fu := fuW) (N := ["self"]) (ps := ["self"]) (b := c_Book_is_whole) D (by decide +kernel) (fun _ _ _ _ _ _ _ _ us hl => match us, hl with | [_], _ => rfl) fun _ _ C T =>
    z_cons C (z_ret C (w_cal C 0 (h_is_whole_by.mono (by decide)) (w_cons C (w_fld C TB 0 2 (w_var C 0)) (w_cons C (w_fld C TB 0 1 (w_var C 0)) (w_nil C)))))
    (z_nil C)
def c_led_by : CB := .cons (.ret (.tup (.cons false (.fld 0 0) (.cons false (.fld 0 1) (.cons false (.fld 0 3) (.nil)))))) (.nil)
def g_led_by : List Fn := []
def f_led_by : Fn := .mut (runM g_led_by fuW 1 1 c_led_by)
theorem ok_led_by {fa : Addr} {BC : Addr} (TB : BkTxt K BC) (D : Def K mg "led_by" "led_by" (top 49) fa .none) (B : Blts mg)   : CallOk P w K mg base 1 "led_by" f_led_by :=
  defM (kp := fun i => i == 0) rfl (G := g_led_by) (fu := fuW) (N := ["book"]) (ps := ["book"]) (b := c_led_by) D (by decide +kernel) (fun _ _ _ _ _ _ _ _ us hl => match us, hl with | [_], _ => rfl) fun _ _ C T =>
    z_cons C (z_ret C (w_tup C (w_cons C (w_fld C TB 0 0 (w_var C 0)) (w_cons C (w_fld C TB 0 1 (w_var C 0)) (w_cons C (w_fld C TB 0 3 (w_var C 0)) (w_nil C))))))
    (z_nil C)
def c_Book___eq__ : CB := .cons (.ret (.andd (.isb 1) (.cmp .Eq (.cal 0 (.cons false (.var 0) (.nil))) (.cal 0 (.cons false (.var 1) (.nil)))))) (.nil)
def g_Book___eq__ : List Fn := [f_led_by]
def t_Book___eq__ : Sl → Sl → Option (PyData × Sl × Sl) := runT2 g_Book___eq__ fuW 2 c_Book___eq__
def f_Book___eq__ : Fn := .two t_Book___eq__
theorem ok_Book___eq__ {fa : Addr} {BC : Addr} (TB : BkTxt K BC) (EQ : BkEq K BC) (hmB : mg "Book" = some (.ref BC)) (D : DefM K "__eq__" "Book.__eq__" (inClass (top 48) 5) BC fa) (B : Blts mg) (h_led_by : CallOk P w K mg base 1 "led_by" f_led_by)  : EqOk P w K mg base 2 t_Book___eq__ :=
  defE (kp := fun i => i == 0 || i == 1) rfl rfl TB EQ (G := g_Book___eq__) (fu := fuW) (N := ["self", "other"]) (ps := ["self", "other"]) (b := c_Book___eq__) D (by decide +kernel) (fun _ _ _ _ _ _ _ _ us hl => match us, hl with | [_, _], _ => rfl) rfl fun _ _ C T =>
    z_cons C (z_ret C (w_and C (w_isb C TB EQ hmB B 1 (v_var C 1)) (w_one C (w_cmp C (w_calM C 0 (h_led_by.mono (by decide)) (w_var C 0) (w_nil C)) (w_calM C 0 (h_led_by.mono (by decide)) (w_var C 1) (w_nil C))))))
    (z_nil C)
def c__law_pool : CB := .cons (.par2 2 3 (.ife (.tval (.cmp .Lt (.var 1) (.bi .len (.cons false (.var 0) (.nil))))) (.bi .int1 (.cons false (.idx (.var 0) (.var 1)) (.nil))) (.bin .Add (.bin .Mult (.cst (.int 70001)) (.var 1)) (.cst (.int 89)))) (.bin .Add (.cst (.int 60041)) (.bin .Mult (.cst (.int 5023)) (.var 1)))) (.cons (.frl (.nm 4) (.seq (.sli (.var 0) (.non) (.som (.cst (.int 6))))) (.cons (.asg 3 (.bin .Mod (.bi .int1 (.cons false (.bin .Add (.bin .Add (.bin .Mult (.var 3) (.cst (.int 48271))) (.bin .Mod (.bi .int1 (.cons false (.var 4) (.nil))) (.cst (.int 2147482937)))) (.cst (.int 43))) (.nil))) (.cst (.int 2147482937)))) (.nil))) (.cons (.ret (.lst (.cons false (.bin .Mod (.bi .int1 (.cons false (.bin .Add (.var 3) (.bin .Mult (.var 2) (.cst (.int 1033)))) (.nil))) (.cst (.int 2147482937))) (.cons false (.ife (.tor (.tval (.cmp .Lt (.var 2) (.cst (.int 0)))) (.tval (.cmp .GtE (.var 2) (.bin .Pow (.cst (.int 10)) (.cst (.int 18)))))) (.bi .abs (.cons false (.var 2) (.nil))) (.cst (.int 0))) (.cons false (.cst (.int 0)) (.nil)))))) (.nil)))
def g__law_pool : List Fn := []
def f__law_pool : Fn := .mak (runK g__law_pool fuW 5 2 c__law_pool)
theorem ok__law_pool {fa : Addr} (D : Def K mg "_law_pool" "_law_pool" (top 51) fa .none) (B : Blts mg)   : CallOk P w K mg base 1 "_law_pool" f__law_pool :=
  defK (kp := fun _ => false) (G := g__law_pool) (fu := fuW) (N := ["script", "turn", "own", "stirred", "cell"]) (ps := ["script", "turn"]) (b := c__law_pool) D (by decide +kernel) (fun _ _ _ _ _ _ _ _ us hl => match us, hl with | [_, _], _ => rfl) fun _ _ C T =>
    z_cons C (z_par2 C 2 3 (w_ife C (t_cmp C (w_var C 1) (w_bi C .len B (q_cons C (w_var C 0) (q_nil C)))) (w_bi C .int1 B (q_cons C (w_idx C (w_var C 0) (w_var C 1)) (q_nil C))) (w_bin C (w_bin C (w_int C) (w_var C 1)) (w_int C))) (w_bin C (w_int C) (w_bin C (w_int C) (w_var C 1))))
    (z_cons C (z_frl C (i_seq C (w_sli C (w_var C 0) (o_non C) (o_som C (w_int C)))) (x_nm C 4)
    (z_cons C (z_asg C 3 (w_bin C (w_bi C .int1 B (q_cons C (w_bin C (w_bin C (w_bin C (w_var C 3) (w_int C)) (w_bin C (w_bi C .int1 B (q_cons C (w_var C 4) (q_nil C))) (w_int C))) (w_int C)) (q_nil C))) (w_int C)))
    (z_nil C)))
    (z_cons C (z_ret C (w_lst C (w_cons C (w_bin C (w_bi C .int1 B (q_cons C (w_bin C (w_var C 3) (w_bin C (w_var C 2) (w_int C))) (q_nil C))) (w_int C)) (w_cons C (w_ife C ((t_or C (t_cmp C (w_var C 2) (w_int C)) (t_or1 C (t_cmp C (w_var C 2) (w_bin C (w_int C) (w_int C))))).pt) (w_bi C .abs B (q_cons C (w_var C 2) (q_nil C))) (w_int C)) (w_cons C (w_int C) (w_nil C))))))
    (z_nil C)))
def c__law_draw : CB := .cons (.ite (.tval (.cmp .Gt (.idx (.var 0) (.cst (.int 1))) (.cst (.int 0)))) (.cons (.divT 0 (.cst (.int 1)) 2 (.bi .divm (.cons false (.idx (.var 0) (.cst (.int 1))) (.cons false (.var 1) (.nil))))) (.cons (.ret (.var 2)) (.nil))) (.nil)) (.cons (.sub 0 (.cst (.int 2)) (.bin .Add (.idx (.var 0) (.cst (.int 2))) (.cst (.int 1)))) (.cons (.asg 3 (.bi .int1 (.cons false (.idx (.var 0) (.cst (.int 0))) (.nil)))) (.cons (.sub 0 (.cst (.int 0)) (.bin .Mod (.bi .int1 (.cons false (.bin .Add (.bin .Add (.bin .Mult (.var 3) (.bin .Add (.bin .Mod (.var 3) (.cst (.int 20011))) (.cst (.int 30011)))) (.bin .Mult (.cst (.int 70001)) (.idx (.var 0) (.cst (.int 2))))) (.cst (.int 9))) (.nil))) (.cst (.int 2147482937)))) (.cons (.ret (.bin .Mod (.bi .int1 (.cons false (.bin .FloorDiv (.idx (.var 0) (.cst (.int 0))) (.cst (.int 128))) (.nil))) (.var 1))) (.nil)))))
def g__law_draw : List Fn := []
def f__law_draw : Fn := .mut (runM g__law_draw fuW 4 2 c__law_draw)
theorem ok__law_draw {fa : Addr} (D : Def K mg "_law_draw" "_law_draw" (top 52) fa .none) (B : Blts mg)   : CallOk P w K mg base 1 "_law_draw" f__law_draw :=
  defM (kp := fun i => i == 0) rfl (G := g__law_draw) (fu := fuW) (N := ["pool", "many", "figure", "held"]) (ps := ["pool", "many"]) (b := c__law_draw) D (by decide +kernel) (fun _ _ _ _ _ _ _ _ us hl => match us, hl with | [_, _], _ => rfl) fun _ _ C T =>
    z_cons C (z_ite C (t_cmp C (w_idx C (w_var C 0) (w_int C)) (w_int C))
    (z_cons C (z_divT C 0 2 (w_var C 0) (w_int C) (w_bi C .divm B (q_cons C (w_idx C (w_var C 0) (w_int C)) (q_cons C (w_var C 1) (q_nil C)))))
    (z_cons C (z_ret C (w_var C 2))
    (z_nil C)))
    (z_nil C))
    (z_cons C (z_sub C 0 (w_var C 0) (w_int C) (w_bin C (w_idx C (w_var C 0) (w_int C)) (w_int C)))
    (z_cons C (z_asg C 3 (w_bi C .int1 B (q_cons C (w_idx C (w_var C 0) (w_int C)) (q_nil C))))
    (z_cons C (z_sub C 0 (w_var C 0) (w_int C) (w_bin C (w_bi C .int1 B (q_cons C (w_bin C (w_bin C (w_bin C (w_var C 3) (w_bin C (w_bin C (w_var C 3) (w_int C)) (w_int C))) (w_bin C (w_int C) (w_idx C (w_var C 0) (w_int C)))) (w_int C)) (q_nil C))) (w_int C)))
    (z_cons C (z_ret C (w_bin C (w_bi C .int1 B (q_cons C (w_bin C (w_idx C (w_var C 0) (w_int C)) (w_int C)) (q_nil C))) (w_var C 1)))
    (z_nil C)))))
def c__law_pick : CB := .cons (.ret (.idx (.var 1) (.cal 0 (.cons false (.var 0) (.cons false (.bi .len (.cons false (.var 1) (.nil))) (.nil)))))) (.nil)
def g__law_pick : List Fn := [f__law_draw]
def f__law_pick : Fn := .mut (runM g__law_pick fuW 2 2 c__law_pick)
theorem ok__law_pick {fa : Addr} (D : Def K mg "_law_pick" "_law_pick" (top 53) fa .none) (B : Blts mg) (h__law_draw : CallOk P w K mg base 1 "_law_draw" f__law_draw)  : CallOk P w K mg base 2 "_law_pick" f__law_pick :=
  defM (kp := fun i => i == 0) rfl (G := g__law_pick) (fu := fuW) (N := ["pool", "some"]) (ps := ["pool", "some"]) (b := c__law_pick) D (by decide +kernel) (fun _ _ _ _ _ _ _ _ us hl => match us, hl with | [_, _], _ => rfl) fun _ _ C T =>
    z_cons C (z_ret C (w_idx C (w_var C 1) (w_calM C 0 (h__law_draw.mono (by decide)) (w_var C 0) (w_cons C (w_bi C .len B (q_cons C (w_var C 1) (q_nil C))) (w_nil C)))))
    (z_nil C)
def c__law_kind : CB := .cons (.ret (.cal 0 (.cons false (.var 0) (.cons false (.lst (.cons false (.cst (.str "strict")) (.cons false (.cst (.str "loose")) (.nil)))) (.nil))))) (.nil)
def g__law_kind : List Fn := [f__law_pick]
def f__law_kind : Fn := .mut (runM g__law_kind fuW 1 1 c__law_kind)
theorem ok__law_kind {fa : Addr} (D : Def K mg "_law_kind" "_law_kind" (top 54) fa .none) (B : Blts mg) (h__law_pick : CallOk P w K mg base 2 "_law_pick" f__law_pick)  : CallOk P w K mg base 3 "_law_kind" f__law_kind :=
  defM (kp := fun i => i == 0) rfl (G := g__law_kind) (fu := fuW) (N := ["pool"]) (ps := ["pool"]) (b := c__law_kind) D (by decide +kernel) (fun _ _ _ _ _ _ _ _ us hl => match us, hl with | [_], _ => rfl) fun _ _ C T =>
    z_cons C (z_ret C (w_calM C 0 (h__law_pick.mono (by decide)) (w_var C 0) (w_cons C (w_lst C (w_cons C (w_str C) (w_cons C (w_str C) (w_nil C)))) (w_nil C))))
    (z_nil C)
def c__law_two : CB := .cons (.asg 2 (.cal 0 (.cons false (.var 0) (.cons false (.var 1) (.nil))))) (.cons (.ret (.tup (.cons false (.var 2) (.cons false (.bin .Mod (.bi .int1 (.cons false (.bin .Add (.bin .Add (.var 2) (.cst (.int 1))) (.cal 0 (.cons false (.var 0) (.cons false (.bin .Sub (.var 1) (.cst (.int 1))) (.nil))))) (.nil))) (.var 1)) (.nil))))) (.nil))
def g__law_two : List Fn := [f__law_draw]
def f__law_two : Fn := .mut (runM g__law_two fuW 3 2 c__law_two)
theorem ok__law_two {fa : Addr} (D : Def K mg "_law_two" "_law_two" (top 55) fa .none) (B : Blts mg) (h__law_draw : CallOk P w K mg base 1 "_law_draw" f__law_draw)  : CallOk P w K mg base 2 "_law_two" f__law_two :=
  defM (kp := fun i => i == 0) rfl (G := g__law_two) (fu := fuW) (N := ["pool", "places", "one"]) (ps := ["pool", "places"]) (b := c__law_two) D (by decide +kernel) (fun _ _ _ _ _ _ _ _ us hl => match us, hl with | [_, _], _ => rfl) fun _ _ C T =>
    z_cons C (z_asg C 2 (w_calM C 0 (h__law_draw.mono (by decide)) (w_var C 0) (w_cons C (w_var C 1) (w_nil C))))
    (z_cons C (z_ret C (w_tup C (w_cons C (w_var C 2) (w_cons C (w_bin C (w_bi C .int1 B (q_cons C (w_bin C (w_bin C (w_var C 2) (w_int C)) (w_calM C 0 (h__law_draw.mono (by decide)) (w_var C 0) (w_cons C (w_bin C (w_var C 1) (w_int C)) (w_nil C)))) (q_nil C))) (w_var C 1)) (w_nil C)))))
    (z_nil C))
def c__law_begun : CB := .cons (.ret (.tup (.cons false (.bin .Add (.cst (.int 2)) (.cal 1 (.cons false (.var 0) (.cons false (.cst (.int 4)) (.nil))))) (.cons false (.cal 0 (.cons false (.var 0) (.nil))) (.nil))))) (.nil)
def g__law_begun : List Fn := [f__law_kind, f__law_draw]
def f__law_begun : Fn := .mut (runM g__law_begun fuW 1 1 c__law_begun)
theorem ok__law_begun {fa : Addr} (D : Def K mg "_law_begun" "_law_begun" (top 57) fa .none) (B : Blts mg) (h__law_kind : CallOk P w K mg base 3 "_law_kind" f__law_kind) (h__law_draw : CallOk P w K mg base 1 "_law_draw" f__law_draw)  : CallOk P w K mg base 4 "_law_begun" f__law_begun :=
  defM (kp := fun i => i == 0) rfl (G := g__law_begun) (fu := fuW) (N := ["pool"]) (ps := ["pool"]) (b := c__law_begun) D (by decide +kernel) (fun _ _ _ _ _ _ _ _ us hl => match us, hl with | [_], _ => rfl) fun _ _ C T =>
    z_cons C (z_ret C (w_tup C (w_cons C (w_bin C (w_int C) (w_calM C 1 (h__law_draw.mono (by decide)) (w_var C 0) (w_cons C (w_int C) (w_nil C)))) (w_cons C (w_calM C 0 (h__law_kind.mono (by decide)) (w_var C 0) (w_nil C)) (w_nil C)))))
    (z_nil C)
def c__law_deed : CB := .cons (.par2 2 3 (.cal 0 (.cons false (.var 0) (.cons false (.cst (.int 7)) (.nil)))) (.bi .len (.cons false (.idx (.var 1) (.cst (.int 1))) (.nil)))) (.cons (.ite (.tval (.cmp .Eq (.var 2) (.cst (.int 0)))) (.cons (.ret (.tup (.cons false (.cst (.str "strike")) (.cons false (.cal 0 (.cons false (.var 0) (.cons false (.bin .Add (.var 3) (.cst (.int 1))) (.nil)))) (.nil))))) (.nil)) (.nil)) (.cons (.ite (.tval (.cmp .Lt (.var 2) (.cst (.int 3)))) (.cons (.asg 4 (.ife (.tand (.tval (.cmp .Gt (.var 3) (.cst (.int 0)))) (.tval (.cmp .Eq (.cal 0 (.cons false (.var 0) (.cons false (.cst (.int 4)) (.nil)))) (.cst (.int 0))))) (.idx (.idx (.idx (.var 1) (.cst (.int 1))) (.cal 0 (.cons false (.var 0) (.cons false (.var 3) (.nil))))) (.cst (.int 0))) (.bin .Add (.cst (.int 1)) (.cal 0 (.cons false (.var 0) (.cons false (.cst (.int 6)) (.nil))))))) (.cons (.ret (.tup (.cons false (.cst (.str "move")) (.cons false (.cal 0 (.cons false (.var 0) (.cons false (.bin .Add (.var 3) (.cst (.int 1))) (.nil)))) (.cons false (.var 4) (.nil)))))) (.nil))) (.nil)) (.cons (.asgT [5, 6] (.cal 1 (.cons false (.var 0) (.cons false (.idx (.var 1) (.cst (.int 0))) (.nil))))) (.cons (.ret (.tup (.cons false (.cst (.str "meet")) (.cons false (.bin .Add (.cst (.int 1)) (.cal 0 (.cons false (.var 0) (.cons false (.cal 2 (.cons false (.var 0) (.cons false (.lst (.cons false (.cst (.int 3)) (.cons false (.cst (.int 6)) (.cons false (.cst (.int 20)) (.nil))))) (.nil)))) (.nil))))) (.cons false (.var 5) (.cons false (.var 6) (.nil))))))) (.nil)))))
def g__law_deed : List Fn := [f__law_draw, f__law_two, f__law_pick]
def f__law_deed : Fn := .mut (runM g__law_deed fuW 7 2 c__law_deed)
theorem ok__law_deed {fa : Addr} (D : Def K mg "_law_deed" "_law_deed" (top 58) fa .none) (B : Blts mg) (h__law_draw : CallOk P w K mg base 1 "_law_draw" f__law_draw) (h__law_two : CallOk P w K mg base 2 "_law_two" f__law_two) (h__law_pick : CallOk P w K mg base 2 "_law_pick" f__law_pick)  : CallOk P w K mg base 3 "_law_deed" f__law_deed :=
  defM (kp := fun i => i == 0) rfl (G := g__law_deed) (fu := fuW) (N := ["pool", "web", "way", "many", "own", "one", "other"]) (ps := ["pool", "web"]) (b := c__law_deed) D (by decide +kernel) (fun _ _ _ _ _ _ _ _ us hl => match us, hl with | [_, _], _ => rfl) fun _ _ C T =>
    z_cons C (z_par2 C 2 3 (w_calM C 0 (h__law_draw.mono (by decide)) (w_var C 0) (w_cons C (w_int C) (w_nil C))) (w_bi C .len B (q_cons C (w_idx C (w_var C 1) (w_int C)) (q_nil C))))
    (z_cons C (z_ite C (t_cmp C (w_var C 2) (w_int C))
    (z_cons C (z_ret C (w_tup C (w_cons C (w_str C) (w_cons C (w_calM C 0 (h__law_draw.mono (by decide)) (w_var C 0) (w_cons C (w_bin C (w_var C 3) (w_int C)) (w_nil C))) (w_nil C)))))
    (z_nil C))
    (z_nil C))
    (z_cons C (z_ite C (t_cmp C (w_var C 2) (w_int C))
    (z_cons C (z_asg C 4 (w_ife C ((t_and C (t_cmp C (w_var C 3) (w_int C)) (t_and1 C (t_cmp C (w_calM C 0 (h__law_draw.mono (by decide)) (w_var C 0) (w_cons C (w_int C) (w_nil C))) (w_int C)))).pt) (w_idx C (w_idx C (w_idx C (w_var C 1) (w_int C)) (w_calM C 0 (h__law_draw.mono (by decide)) (w_var C 0) (w_cons C (w_var C 3) (w_nil C)))) (w_int C)) (w_bin C (w_int C) (w_calM C 0 (h__law_draw.mono (by decide)) (w_var C 0) (w_cons C (w_int C) (w_nil C))))))
    (z_cons C (z_ret C (w_tup C (w_cons C (w_str C) (w_cons C (w_calM C 0 (h__law_draw.mono (by decide)) (w_var C 0) (w_cons C (w_bin C (w_var C 3) (w_int C)) (w_nil C))) (w_cons C (w_var C 4) (w_nil C))))))
    (z_nil C)))
    (z_nil C))
    (z_cons C (z_asgT C (w_calM C 1 (h__law_two.mono (by decide)) (w_var C 0) (w_cons C (w_idx C (w_var C 1) (w_int C)) (w_nil C))) (x_tp C (x_cons C (x_nm C 5) (x_cons C (x_nm C 6) (x_nil C)))))
    (z_cons C (z_ret C (w_tup C (w_cons C (w_str C) (w_cons C (w_bin C (w_int C) (w_calM C 0 (h__law_draw.mono (by decide)) (w_var C 0) (w_cons C (w_calM C 2 (h__law_pick.mono (by decide)) (w_var C 0) (w_cons C (w_lst C (w_cons C (w_int C) (w_cons C (w_int C) (w_cons C (w_int C) (w_nil C))))) (w_nil C))) (w_nil C)))) (w_cons C (w_var C 5) (w_cons C (w_var C 6) (w_nil C)))))))
    (z_nil C)))))
def c__law_triple : CB := .cons (.ret (.tup (.cons false (.idx (.var 0) (.cst (.int 1))) (.cons false (.bi .mn (.cons false (.sli (.var 0) (.som (.cst (.int 2))) (.non)) (.nil))) (.cons false (.bi .mx (.cons false (.sli (.var 0) (.som (.cst (.int 2))) (.non)) (.nil))) (.nil)))))) (.nil)
def g__law_triple : List Fn := []
def f__law_triple : Fn := .pur (runP g__law_triple fuW 1 1 c__law_triple)
theorem ok__law_triple {fa : Addr} (D : Def K mg "_law_triple" "_law_triple" (top 59) fa .none) (B : Blts mg)   : CallOk P w K mg base 1 "_law_triple" f__law_triple :=
  defP (kp := fun _ => false) (G := g__law_triple) (fu := fuW) (N := ["deed"]) (ps := ["deed"]) (b := c__law_triple) D (by decide +kernel) (fun _ _ _ _ _ _ _ _ us hl => match us, hl with | [_], _ => rfl) fun _ _ C T =>
    z_cons C (z_ret C (w_tup C (w_cons C (w_idx C (w_var C 0) (w_int C)) (w_cons C (w_bi C .mn B (q_cons C (w_sli C (w_var C 0) (o_som C (w_int C)) (o_non C)) (q_nil C))) (w_cons C (w_bi C .mx B (q_cons C (w_sli C (w_var C 0) (o_som C (w_int C)) (o_non C)) (q_nil C))) (w_nil C))))))
    (z_nil C)
def c__law_after : CB := .cons (.ite (.tval (.cmp .Eq (.idx (.var 1) (.cst (.int 0))) (.cst (.str "meet")))) (.cons (.ret (.tup (.cons false (.idx (.var 0) (.cst (.int 0))) (.cons false (.bi .tup (.cons false (.bi .srt (.cons false (.bin .Add (.bi .lst (.cons false (.idx (.var 0) (.cst (.int 1))) (.nil))) (.lst (.cons false (.cal 0 (.cons false (.var 1) (.nil))) (.nil)))) (.nil))) (.nil))) (.nil))))) (.nil)) (.nil)) (.cons (.asg 2 (.comp (.rng1 (.bi .len (.cons false (.idx (.var 0) (.cst (.int 1))) (.nil)))) (.nm 3) (.tval (.cmp .NotEq (.var 3) (.idx (.var 1) (.cst (.int 1))))) (.idx (.idx (.var 0) (.cst (.int 1))) (.var 3)) [3])) (.cons (.ite (.tval (.cmp .Eq (.idx (.var 1) (.cst (.int 0))) (.cst (.str "move")))) (.cons (.app 2 (.bin .Add (.tup (.cons false (.idx (.var 1) (.cst (.int 2))) (.nil))) (.sli (.idx (.idx (.var 0) (.cst (.int 1))) (.idx (.var 1) (.cst (.int 1)))) (.som (.cst (.int 1))) (.non)))) (.nil)) (.nil)) (.cons (.ret (.tup (.cons false (.idx (.var 0) (.cst (.int 0))) (.cons false (.bi .tup (.cons false (.bi .srt (.cons false (.var 2) (.nil))) (.nil))) (.nil))))) (.nil))))
def g__law_after : List Fn := [f__law_triple]
def f__law_after : Fn := .pur (runP g__law_after fuW 4 2 c__law_after)
theorem ok__law_after {fa : Addr} (D : Def K mg "_law_after" "_law_after" (top 60) fa .none) (B : Blts mg) (h__law_triple : CallOk P w K mg base 1 "_law_triple" f__law_triple)  : CallOk P w K mg base 2 "_law_after" f__law_after :=
  defP (kp := fun _ => false) (G := g__law_after) (fu := fuW) (N := ["web", "deed", "left", "k"]) (ps := ["web", "deed"]) (b := c__law_after) D (by decide +kernel) (fun _ _ _ _ _ _ _ _ us hl => match us, hl with | [_, _], _ => rfl) fun _ _ C T =>
    z_cons C (z_ite C (t_cmp C (w_idx C (w_var C 1) (w_int C)) (w_str C))
    (z_cons C (z_ret C (w_tup C (w_cons C (w_idx C (w_var C 0) (w_int C)) (w_cons C (w_bi C .tup B (q_cons C (w_bi C .srt B (q_cons C (w_bin C (w_bi C .lst B (q_cons C (w_idx C (w_var C 0) (w_int C)) (q_nil C))) (w_lst C (w_cons C (w_cal C 0 (h__law_triple.mono (by decide)) (w_cons C (w_var C 1) (w_nil C))) (w_nil C)))) (q_nil C))) (q_nil C))) (w_nil C)))))
    (z_nil C))
    (z_nil C))
    (z_cons C (z_asgL C 2 [("k", 3)] (i_rng1 C B (w_bi C .len B (q_cons C (w_idx C (w_var C 0) (w_int C)) (q_nil C)))) (fun _ C' => x_nm C' 3) (fun _ C' => y_one C' (t_cmp C' (w_var C' 3) (w_idx C' (w_var C' 1) (w_int C')))) (fun _ C' => w_idx C' (w_idx C' (w_var C' 0) (w_int C')) (w_var C' 3)))
    (z_cons C (z_ite C (t_cmp C (w_idx C (w_var C 1) (w_int C)) (w_str C))
    (z_cons C (z_app C 2 (w_var C 2) (w_bin C (w_tup C (w_cons C (w_idx C (w_var C 1) (w_int C)) (w_nil C))) (w_sli C (w_idx C (w_idx C (w_var C 0) (w_int C)) (w_idx C (w_var C 1) (w_int C))) (o_som C (w_int C)) (o_non C))))
    (z_nil C))
    (z_nil C))
    (z_cons C (z_ret C (w_tup C (w_cons C (w_idx C (w_var C 0) (w_int C)) (w_cons C (w_bi C .tup B (q_cons C (w_bi C .srt B (q_cons C (w_var C 2) (q_nil C))) (q_nil C))) (w_nil C)))))
    (z_nil C))))
def f__law_barred : Fn := .mut (barF x_Book_do "Barred" "reason" (.str ""))
theorem ok__law_barred {fa BC CB : Addr} (TB : BkTxt K BC) (D : Def K mg "_law_barred" "_law_barred" (top 56) fa .none) (h_Book_do : MethXOk P w K mg base 6 "do" x_Book_do) (cB : ClsOk K mg "Barred" CB) (EB : ErrRd K CB "reason") (xB : PySem.W.exmOne K (.ref CB) (.ref CB) = some true) : CallOk P w K mg base 7 "_law_barred" f__law_barred :=
  defBar (last := .str "") TB D (by decide +kernel) (fun _ _ _ _ _ _ _ _ us hl => match us, hl with | [_, _], _ => rfl) (fun _ => .str _) cB xB (by decide +kernel) fun X C hst hfr tk => body_bar C (h_Book_do.mono (by decide)) TB cB EB hst hfr tk
def c__law_told : CB := .cons (.ret (.lst (.cons false (.fld 0 0) (.cons false (.fld 0 1) (.cons false (.fld 0 2) (.cons false (.mth 1 0 .nil) (.cons false (.mth 0 0 .nil) (.nil)))))))) (.nil)
def g__law_told : List Fn := [f_Book_is_whole, f_Book_table]
def f__law_told : Fn := .mut (runM g__law_told fuW 1 1 c__law_told)
theorem ok__law_told {fa : Addr} {BC : Addr} (TB : BkTxt K BC) (D : Def K mg "_law_told" "_law_told" (top 61) fa .none) (B : Blts mg) (h_Book_is_whole : MethOk P w K mg base 7 "is_whole" f_Book_is_whole) (h_Book_table : MethOk P w K mg base 5 "table" f_Book_table)  : CallOk P w K mg base 8 "_law_told" f__law_told :=
  defM (kp := fun i => i == 0) rfl (G := g__law_told) (fu := fuW) (N := ["book"]) (ps := ["book"]) (b := c__law_told) D (by decide +kernel) (fun _ _ _ _ _ _ _ _ us hl => match us, hl with | [_], _ => rfl) fun _ _ C T =>
    z_cons C (z_ret C (w_lst C (w_cons C (w_fld C TB 0 0 (w_var C 0)) (w_cons C (w_fld C TB 0 1 (w_var C 0)) (w_cons C (w_fld C TB 0 2 (w_var C 0)) (w_cons C (w_mth0 C 1 0 (h_Book_table.mono (by decide)) (v_var C 0)) (w_cons C (w_mth0 C 0 0 (h_Book_is_whole.mono (by decide)) (v_var C 0)) (w_nil C))))))))
    (z_nil C)
def f__law_undone : Fn := .mut (undF x_Book_undo "NothingToUndo")
theorem ok__law_undone {fa BC CN CW : Addr} (TB : BkTxt K BC) (D : Def K mg "_law_undone" "_law_undone" (top 62) fa .none) (B : Blts mg) (h_Book_undo : MethXOk P w K mg base 3 "undo" x_Book_undo) (cN : ClsOk K mg "NothingToUndo" CN) (cW : ClsOk K mg "WayError" CW) (eN : ExcC K CN)
    (xN : PySem.W.exmOne K (.ref CN) (.ref CN) = some true) (kN : PySem.W.kitOne K (.ref CN) (.ref CW) = some true) : CallOk P w K mg base 4 "_law_undone" f__law_undone :=
  defUnd TB D (by decide +kernel) (fun _ _ _ _ _ _ _ _ us hl => match us, hl with | [_], _ => rfl) cN xN eN kN (by decide +kernel) fun X C hst hfr tk => body_und C B (h_Book_undo.mono (by decide)) TB cN cW hst hfr tk
def c__law_right : CB := .cons (.asgT [1, 2] (.cal 0 (.cons false (.var 0) (.nil)))) (.cons (.par3 3 4 5 (.cal 1 (.cons false (.var 1) (.cons false (.var 2) (.nil)))) (.lst (.nil)) (.lst (.cons false (.tup (.cons false (.var 1) (.cons false (.tup (.nil)) (.nil)))) (.nil)))) (.cons (.ite (.tval (.cal 2 (.cons false (.var 3) (.nil)))) (.cons (.ret (.cst (.bool false))) (.nil)) (.nil)) (.cons (.frl (.nm 6) (.rng1 (.cst (.int 22))) (.cons (.asg 7 (.cal 3 (.cons false (.var 0) (.cons false (.idx (.var 5) (.neg (.cst (.int 1)))) (.nil))))) (.cons (.ite (.tval (.cmp .Eq (.cal 4 (.cons false (.var 3) (.cons false (.var 7) (.nil)))) (.cst (.str "")))) (.cons (.app 4 (.var 7)) (.cons (.app 5 (.cal 5 (.cons false (.idx (.var 5) (.neg (.cst (.int 1)))) (.cons false (.var 7) (.nil))))) (.nil))) (.nil)) (.cons (.frl (.nm 8) (.rng1 (.ife (.tval (.cmp .Gt (.var 6) (.cst (.int 4)))) (.cal 6 (.cons false (.var 0) (.cons false (.lst (.cons false (.cst (.int 0)) (.cons false (.cst (.int 0)) (.cons false (.cst (.int 0)) (.cons false (.cst (.int 1)) (.cons false (.cst (.int 2)) (.cons false (.cst (.int 4)) (.nil)))))))) (.nil)))) (.cst (.int 0)))) (.cons (.ite (.tval (.cmp .NotEq (.cal 2 (.cons false (.var 3) (.nil))) (.cmp .NotEq (.var 4) (.lst (.nil))))) (.cons (.ret (.cst (.bool false))) (.nil)) (.nil)) (.cons (.par2 4 5 (.sli (.var 4) (.non) (.som (.neg (.cst (.int 1))))) (.sli (.var 5) (.non) (.som (.bi .mx (.cons false (.cst (.int 1)) (.cons false (.bin .Sub (.bi .len (.cons false (.var 5) (.nil))) (.cst (.int 1))) (.nil))))))) (.nil)))) (.cons (.ite (.tval (.cmp .NotEq (.rep1 (.cons false (.fld 3 2) (.cons false (.bi .lst (.cons false (.fld 3 3) (.nil))) (.nil)))) (.rep1 (.cons false (.idx (.var 5) (.neg (.cst (.int 1)))) (.cons false (.var 4) (.nil)))))) (.cons (.ret (.cst (.bool false))) (.nil)) (.nil)) (.nil)))))) (.cons (.asg 9 (.cal 1 (.cons false (.var 1) (.cons false (.var 2) (.nil))))) (.cons (.frl (.nm 10) (.seq (.var 4)) (.cons (.exp (.mth 7 9 (.cons false (.var 10) .nil))) (.nil))) (.cons (.ret (.andd (.oeq 8 false 3 (.var 9)) (.cmp .Eq (.cal 9 (.cons false (.var 3) (.nil))) (.cal 9 (.cons false (.var 9) (.nil)))))) (.nil)))))))
def g__law_right : List Fn := [f__law_begun, f_Book, f__law_undone, f__law_deed, f__law_barred, f__law_after, f__law_pick, .mut (okR x_Book_do), f_Book___eq__, f__law_told]
def f__law_right : Fn := .mut (runM g__law_right fuW 11 1 c__law_right)
theorem ok__law_right {fa : Addr} {BC : Addr} (TB : BkTxt K BC) (D : Def K mg "_law_right" "_law_right" (top 63) fa .none) (B : Blts mg) (h__law_begun : CallOk P w K mg base 4 "_law_begun" f__law_begun) (h_Book : CallOk P w K mg base 5 "Book" f_Book) (h__law_undone : CallOk P w K mg base 4 "_law_undone" f__law_undone) (h__law_deed : CallOk P w K mg base 3 "_law_deed" f__law_deed) (h__law_barred : CallOk P w K mg base 7 "_law_barred" f__law_barred) (h__law_after : CallOk P w K mg base 2 "_law_after" f__law_after) (h__law_pick : CallOk P w K mg base 2 "_law_pick" f__law_pick) (h_Book_do_K : MethKOk P w K mg base 6 "do" ["deed"] x_Book_do) (h_Book___eq__ : EqOk P w K mg base 2 t_Book___eq__) (h__law_told : CallOk P w K mg base 8 "_law_told" f__law_told)  : CallOk P w K mg base 9 "_law_right" f__law_right :=
  defM (kp := fun i => i == 0) rfl (G := g__law_right) (fu := fuW) (N := ["pool", "places", "kind", "book", "log", "states", "turn", "deed", "k", "alone", "done"]) (ps := ["pool"]) (b := c__law_right) D (by decide +kernel) (fun _ _ _ _ _ _ _ _ us hl => match us, hl with | [_], _ => rfl) fun _ _ C T =>
    z_cons C (z_asgT C (w_calM C 0 (h__law_begun.mono (by decide)) (w_var C 0) (w_nil C)) (x_tp C (x_cons C (x_nm C 1) (x_cons C (x_nm C 2) (x_nil C)))))
    (z_cons C (z_par3 C 3 4 5 (w_cal C 1 (h_Book.mono (by decide)) (w_cons C (w_var C 1) (w_cons C (w_var C 2) (w_nil C)))) (w_lst C (w_nil C)) (w_lst C (w_cons C (w_tup C (w_cons C (w_var C 1) (w_cons C (w_tup C (w_nil C)) (w_nil C)))) (w_nil C))))
    (z_cons C (z_ite C (t_val C (w_calM C 2 (h__law_undone.mono (by decide)) (w_var C 3) (w_nil C)))
    (z_cons C (z_ret C (w_bl C))
    (z_nil C))
    (z_nil C))
    (z_cons C (z_frl C (i_rng1 C B (w_int C)) (x_nm C 6)
    (z_cons C (z_asg C 7 (w_calM C 3 (h__law_deed.mono (by decide)) (w_var C 0) (w_cons C (w_idx C (w_var C 5) (w_neg C (w_int C))) (w_nil C))))
    (z_cons C (z_ite C (t_cmp C (w_calM C 4 (h__law_barred.mono (by decide)) (w_var C 3) (w_cons C (w_var C 7) (w_nil C))) (w_str C))
    (z_cons C (z_app C 4 (w_var C 4) (w_var C 7))
    (z_cons C (z_app C 5 (w_var C 5) (w_cal C 5 (h__law_after.mono (by decide)) (w_cons C (w_idx C (w_var C 5) (w_neg C (w_int C))) (w_cons C (w_var C 7) (w_nil C)))))
    (z_nil C)))
    (z_nil C))
    (z_cons C (z_frl C (i_rng1 C B (w_ife C (t_cmp C (w_var C 6) (w_int C)) (w_calM C 6 (h__law_pick.mono (by decide)) (w_var C 0) (w_cons C (w_lst C (w_cons C (w_int C) (w_cons C (w_int C) (w_cons C (w_int C) (w_cons C (w_int C) (w_cons C (w_int C) (w_cons C (w_int C) (w_nil C)))))))) (w_nil C))) (w_int C))) (x_nm C 8)
    (z_cons C (z_ite C (t_cmp C (w_calM C 2 (h__law_undone.mono (by decide)) (w_var C 3) (w_nil C)) (w_cmp C (w_var C 4) (w_lst C (w_nil C))))
    (z_cons C (z_ret C (w_bl C))
    (z_nil C))
    (z_nil C))
    (z_cons C (z_par2 C 4 5 (w_sli C (w_var C 4) (o_non C) (o_som C (w_neg C (w_int C)))) (w_sli C (w_var C 5) (o_non C) (o_som C (w_bi C .mx B (q_cons C (w_int C) (q_cons C (w_bin C (w_bi C .len B (q_cons C (w_var C 5) (q_nil C))) (w_int C)) (q_nil C)))))))
    (z_nil C))))
    (z_cons C (z_ite C (t_cmp C (w_rep1 C B (q_cons C (w_fld C TB 3 2 (w_var C 3)) (q_cons C (w_bi C .lst B (q_cons C (w_fld C TB 3 3 (w_var C 3)) (q_nil C))) (q_nil C)))) (w_rep1 C B (q_cons C (w_idx C (w_var C 5) (w_neg C (w_int C))) (q_cons C (w_var C 4) (q_nil C)))))
    (z_cons C (z_ret C (w_bl C))
    (z_nil C))
    (z_nil C))
    (z_nil C))))))
    (z_cons C (z_asg C 9 (w_cal C 1 (h_Book.mono (by decide)) (w_cons C (w_var C 1) (w_cons C (w_var C 2) (w_nil C)))))
    (z_cons C (z_frl C (i_seq C (w_var C 4)) (x_nm C 10)
    (z_cons C (z_exp C (w_mthK C 7 9 (h_Book_do_K.mono (by decide)) (v_var C 9) (w_var C 10)))
    (z_nil C)))
    (z_cons C (z_ret C (w_and C (w_oeq C 8 3 (h_Book___eq__.mono (by decide)) (v_var C 3) (w_var C 9)) (w_one C (w_cmp C (w_calM C 9 (h__law_told.mono (by decide)) (w_var C 3) (w_nil C)) (w_calM C 9 (h__law_told.mono (by decide)) (w_var C 9) (w_nil C))))))
    (z_nil C)))))))
def c_law : CB := .cons (.ret (.bi .all (.cons false (.comp (.rng1 (.bi .mx (.cons false (.cst (.int 2)) (.cons false (.bi .mn (.cons false (.bi .len (.cons false (.var 0) (.nil))) (.cons false (.cst (.int 3)) (.nil)))) (.nil))))) (.nm 1) (.yes) (.cal 0 (.cons false (.cal 1 (.cons false (.var 0) (.cons false (.var 1) (.nil)))) (.nil))) [1]) (.nil)))) (.nil)
def g_law : List Fn := [f__law_right, f__law_pool]
def f_law : Fn := .pur (runP g_law fuW 2 1 c_law)
theorem ok_law {fa : Addr} (D : Def K mg "law" "law" (top 64) fa .none) (B : Blts mg) (h__law_right : CallOk P w K mg base 9 "_law_right" f__law_right) (h__law_pool : CallOk P w K mg base 1 "_law_pool" f__law_pool)  : CallOk P w K mg base 10 "law" f_law :=
  defP (kp := fun _ => false) (G := g_law) (fu := fuW) (N := ["script", "turn"]) (ps := ["script"]) (b := c_law) D (by decide +kernel) (fun _ _ _ _ _ _ _ _ us hl => match us, hl with | [_], _ => rfl) fun _ _ C T =>
    z_cons C (z_ret C (w_bi C .all B (q_cons C (w_comp C [("turn", 1)] (i_rng1 C B (w_bi C .mx B (q_cons C (w_int C) (q_cons C (w_bi C .mn B (q_cons C (w_bi C .len B (q_cons C (w_var C 0) (q_nil C))) (q_cons C (w_int C) (q_nil C)))) (q_nil C))))) (fun _ C' => x_nm C' 1) (fun _ C' => y_yes C') (fun _ C' => w_calM C' 0 (h__law_right.mono (by decide)) (w_cal C' 1 (h__law_pool.mono (by decide)) (w_cons C' (w_var C' 0) (w_cons C' (w_var C' 1) (w_nil C')))) (w_nil C'))) (q_nil C))))
    (z_nil C)
end
end Cor
set_option Elab.async false
set_option linter.all false
set_option maxRecDepth 100000
set_option maxHeartbeats 4000000
namespace Cor
open PySem PySem.Spec PyProof.Rows L2
section
variable {ρ : Rho} {es r : CA} {e : CE} {fu : Nat}
@[simp] theorem cl_is_number__1_0 : ev g_is_number__1 (.cal 0 es) ρ = (match evF g_is_number__1 es ρ with | none => none | some p => (match (runP g_is_whole fuW 1 1 c_is_whole) p.1 with | none => none | some d => some (.val d, p.2))) := ev_calP_m rfl
@[simp] theorem cl_is_between_0 : ev g_is_between (.cal 0 es) ρ = (match evF g_is_between es ρ with | none => none | some p => (match (runP g_is_whole fuW 1 1 c_is_whole) p.1 with | none => none | some d => some (.val d, p.2))) := ev_calP_m rfl
@[simp] theorem cl_is_places_0 : ev g_is_places (.cal 0 es) ρ = (match evF g_is_places es ρ with | none => none | some p => (match (runP g_is_between fuW 3 3 c_is_between) p.1 with | none => none | some d => some (.val d, p.2))) := ev_calP_m rfl
@[simp] theorem cl_is_kind_0 : ev g_is_kind (.cal 0 es) ρ = (match evF g_is_kind es ρ with | none => none | some p => (match (runP g_is_string fuW 1 1 c_is_string) p.1 with | none => none | some d => some (.val d, p.2))) := ev_calP_m rfl
@[simp] theorem cl_is_place_0 : ev g_is_place (.cal 0 es) ρ = (match evF g_is_place es ρ with | none => none | some p => (match (runP g_is_between fuW 3 3 c_is_between) p.1 with | none => none | some d => some (.val d, p.2))) := ev_calP_m rfl
@[simp] theorem cl_is_time_0 : ev g_is_time (.cal 0 es) ρ = (match evF g_is_time es ρ with | none => none | some p => (match (runP g_is_between fuW 3 3 c_is_between) p.1 with | none => none | some d => some (.val d, p.2))) := ev_calP_m rfl
@[simp] theorem cl_is_meeting_0 : ev g_is_meeting (.cal 0 es) ρ = (match evF g_is_meeting es ρ with | none => none | some p => (match (runP g_is_between fuW 3 3 c_is_between) p.1 with | none => none | some d => some (.val d, p.2))) := ev_calP_m rfl
@[simp] theorem cl_arrivals_by_0 : ev g_arrivals_by (.cal 0 es) ρ = (match evF g_arrivals_by es ρ with | none => none | some p => (match (runP g_ends_of fuW 1 1 c_ends_of) p.1 with | none => none | some d => some (.val d, p.2))) := ev_calP_m rfl
@[simp] theorem cl_arrivals_by_1 : ev g_arrivals_by (.cal 1 es) ρ = (match evF g_arrivals_by es ρ with | none => none | some p => (match (runP g_led_at fuW 10 3 c_led_at) p.1 with | none => none | some d => some (.val d, p.2))) := ev_calP_m rfl
@[simp] theorem cl_come_by_0 : ev g_come_by (.cal 0 es) ρ = (match evF g_come_by es ρ with | none => none | some p => (match (runK g_arrivals_by fuW 9 4 c_arrivals_by) p.1 with | none => none | some s => if noEmp s then some (.fr s, p.2) else none)) := ev_calK_m rfl
@[simp] theorem cl_table_by_0 : ev g_table_by (.cal 0 es) ρ = (match evF g_table_by es ρ with | none => none | some p => (match (runP g_come_by fuW 4 4 c_come_by) p.1 with | none => none | some d => some (.val d, p.2))) := ev_calP_m rfl
@[simp] theorem cl_deaf_by_0 : ev g_deaf_by (.cal 0 es) ρ = (match evF g_deaf_by es ρ with | none => none | some p => (match (runP g_table_by fuW 3 2 c_table_by) p.1 with | none => none | some d => some (.val d, p.2))) := ev_calP_m rfl
@[simp] theorem cl_is_whole_by_0 : ev g_is_whole_by (.cal 0 es) ρ = (match evF g_is_whole_by es ρ with | none => none | some p => (match (runP g_deaf_by fuW 5 2 c_deaf_by) p.1 with | none => none | some d => some (.val d, p.2))) := ev_calP_m rfl
@[simp] theorem cl_has_form_0 : ev g_has_form (.cal 0 es) ρ = (match evF g_has_form es ρ with | none => none | some p => (match (runP g_is_string fuW 1 1 c_is_string) p.1 with | none => none | some d => some (.val d, p.2))) := ev_calP_m rfl
@[simp] theorem cl_check_kind_0 : ev g_check_kind (.cal 0 es) ρ = (match evF g_check_kind es ρ with | none => none | some p => (match (runP g_is_kind fuW 1 1 c_is_kind) p.1 with | none => none | some d => some (.val d, p.2))) := ev_calP_m rfl
@[simp] theorem cl_check_meet_0 : ev g_check_meet (.cal 0 es) ρ = (match evF g_check_meet es ρ with | none => none | some p => (match (runP g_is_time fuW 1 1 c_is_time) p.1 with | none => none | some d => some (.val d, p.2))) := ev_calP_m rfl
@[simp] theorem cl_check_meet_1 : ev g_check_meet (.cal 1 es) ρ = (match evF g_check_meet es ρ with | none => none | some p => (match (runP g_is_place fuW 2 2 c_is_place) p.1 with | none => none | some d => some (.val d, p.2))) := ev_calP_m rfl
@[simp] theorem cl_check_deed_0 : ev g_check_deed (.cal 0 es) ρ = (match evF g_check_deed es ρ with | none => none | some p => (match (runP g_has_form fuW 1 1 c_has_form) p.1 with | none => none | some d => some (.val d, p.2))) := ev_calP_m rfl
@[simp] theorem cl_check_deed_1 : ex g_check_deed fu (.calx 1 es) ρ = (match evF g_check_deed es ρ with | none => none | some p => (match x_check_meet p.1 with | none => none | some r => some (calxO p.2 r))) := ex_calx_m rfl
@[simp] theorem cl_check_deed_2 : ev g_check_deed (.cal 2 es) ρ = (match evF g_check_deed es ρ with | none => none | some p => (match runP g_is_number__1 fuW 3 3 c_is_number__1 (p.1 ++ [(.int 0), .none]) with | none => none | some d => some (.val d, p.2))) := ev_calP_m (f := (fun ds => runP g_is_number__1 fuW 3 3 c_is_number__1 (ds ++ [(.int 0), .none]))) rfl
@[simp] theorem cl_check_deed_3 : ev g_check_deed (.cal 3 es) ρ = (match evF g_check_deed es ρ with | none => none | some p => (match (runP g_is_time fuW 1 1 c_is_time) p.1 with | none => none | some d => some (.val d, p.2))) := ev_calP_m rfl
@[simp] theorem cl_reason_to_move_0 : ev g_reason_to_move (.cal 0 es) ρ = (match evF g_reason_to_move es ρ with | none => none | some p => (match (runP g_meeting_of fuW 2 2 c_meeting_of) p.1 with | none => none | some d => some (.val d, p.2))) := ev_calP_m rfl
@[simp] theorem cl_reason_against_0 : ev g_reason_against (.cal 0 es) ρ = (match evF g_reason_against es ρ with | none => none | some p => (match (runP g_meeting_of fuW 2 2 c_meeting_of) p.1 with | none => none | some d => some (.val d, p.2))) := ev_calP_m rfl
@[simp] theorem cl_reason_against_1 : ev g_reason_against (.cal 1 es) ρ = (match evF g_reason_against es ρ with | none => none | some p => (match (runP g_is_meeting fuW 2 2 c_is_meeting) p.1 with | none => none | some d => some (.val d, p.2))) := ev_calP_m rfl
@[simp] theorem cl_reason_against_2 : ev g_reason_against (.cal 2 es) ρ = (match evF g_reason_against es ρ with | none => none | some p => (match (runP g_reason_to_move fuW 3 2 c_reason_to_move) p.1 with | none => none | some d => some (.val d, p.2))) := ev_calP_m rfl
@[simp] theorem cl_web_behind_0 : ev g_web_behind (.cal 0 es) ρ = (match evF g_web_behind es ρ with | none => none | some p => (match (runP g_without_by fuW 4 2 c_without_by) p.1 with | none => none | some d => some (.val d, p.2))) := ev_calP_m rfl
@[simp] theorem cl_web_behind_1 : ev g_web_behind (.cal 1 es) ρ = (match evF g_web_behind es ρ with | none => none | some p => (match (runP g_made_web fuW 2 2 c_made_web) p.1 with | none => none | some d => some (.val d, p.2))) := ev_calP_m rfl
@[simp] theorem cl_web_behind_2 : ev g_web_behind (.cal 2 es) ρ = (match evF g_web_behind es ρ with | none => none | some p => (match (runP g_meeting_of fuW 2 2 c_meeting_of) p.1 with | none => none | some d => some (.val d, p.2))) := ev_calP_m rfl
@[simp] theorem cl_Book_do_0 : ex g_Book_do fu (.calx 0 es) ρ = (match evF g_Book_do es ρ with | none => none | some p => (match x_check_deed p.1 with | none => none | some r => some (calxO p.2 r))) := ex_calx_m rfl
@[simp] theorem cl_Book_do_1 : ev g_Book_do (.cal 1 es) ρ = (match evF g_Book_do es ρ with | none => none | some p => (match (runP g_reason_against fuW 2 2 c_reason_against) p.1 with | none => none | some d => some (.val d, p.2))) := ev_calP_m rfl
@[simp] theorem cl_Book_do_2 : ev g_Book_do (.cal 2 es) ρ = (match evF g_Book_do es ρ with | none => none | some p => (match (runP g_web_behind fuW 3 2 c_web_behind) p.1 with | none => none | some d => some (.val d, p.2))) := ev_calP_m rfl
@[simp] theorem cl_Book_table_0 : ev g_Book_table (.cal 0 es) ρ = (match evF g_Book_table es ρ with | none => none | some p => (match (runP g_table_by fuW 3 2 c_table_by) p.1 with | none => none | some d => some (.val d, p.2))) := ev_calP_m rfl
@[simp] theorem cl_Book_is_whole_0 : ev g_Book_is_whole (.cal 0 es) ρ = (match evF g_Book_is_whole es ρ with | none => none | some p => (match (runP g_is_whole_by fuW 2 2 c_is_whole_by) p.1 with | none => none | some d => some (.val d, p.2))) := ev_calP_m rfl
@[simp] theorem cl_Book___eq___0 : ev g_Book___eq__ (.cal 0 (.cons false e r)) ρ = (match ev g_Book___eq__ e ρ with | none => none | some p => (match evF g_Book___eq__ r p.2 with | none => none | some q => calM (runM g_led_by fuW 1 1 c_led_by) p q)) := ev_calM_m rfl
@[simp] theorem cl__law_pick_0 : ev g__law_pick (.cal 0 (.cons false e r)) ρ = (match ev g__law_pick e ρ with | none => none | some p => (match evF g__law_pick r p.2 with | none => none | some q => calM (runM g__law_draw fuW 4 2 c__law_draw) p q)) := ev_calM_m rfl
@[simp] theorem cl__law_kind_0 : ev g__law_kind (.cal 0 (.cons false e r)) ρ = (match ev g__law_kind e ρ with | none => none | some p => (match evF g__law_kind r p.2 with | none => none | some q => calM (runM g__law_pick fuW 2 2 c__law_pick) p q)) := ev_calM_m rfl
@[simp] theorem cl__law_two_0 : ev g__law_two (.cal 0 (.cons false e r)) ρ = (match ev g__law_two e ρ with | none => none | some p => (match evF g__law_two r p.2 with | none => none | some q => calM (runM g__law_draw fuW 4 2 c__law_draw) p q)) := ev_calM_m rfl
@[simp] theorem cl__law_begun_0 : ev g__law_begun (.cal 0 (.cons false e r)) ρ = (match ev g__law_begun e ρ with | none => none | some p => (match evF g__law_begun r p.2 with | none => none | some q => calM (runM g__law_kind fuW 1 1 c__law_kind) p q)) := ev_calM_m rfl
@[simp] theorem cl__law_begun_1 : ev g__law_begun (.cal 1 (.cons false e r)) ρ = (match ev g__law_begun e ρ with | none => none | some p => (match evF g__law_begun r p.2 with | none => none | some q => calM (runM g__law_draw fuW 4 2 c__law_draw) p q)) := ev_calM_m rfl
@[simp] theorem cl__law_deed_0 : ev g__law_deed (.cal 0 (.cons false e r)) ρ = (match ev g__law_deed e ρ with | none => none | some p => (match evF g__law_deed r p.2 with | none => none | some q => calM (runM g__law_draw fuW 4 2 c__law_draw) p q)) := ev_calM_m rfl
@[simp] theorem cl__law_deed_1 : ev g__law_deed (.cal 1 (.cons false e r)) ρ = (match ev g__law_deed e ρ with | none => none | some p => (match evF g__law_deed r p.2 with | none => none | some q => calM (runM g__law_two fuW 3 2 c__law_two) p q)) := ev_calM_m rfl
@[simp] theorem cl__law_deed_2 : ev g__law_deed (.cal 2 (.cons false e r)) ρ = (match ev g__law_deed e ρ with | none => none | some p => (match evF g__law_deed r p.2 with | none => none | some q => calM (runM g__law_pick fuW 2 2 c__law_pick) p q)) := ev_calM_m rfl
@[simp] theorem cl__law_after_0 : ev g__law_after (.cal 0 es) ρ = (match evF g__law_after es ρ with | none => none | some p => (match (runP g__law_triple fuW 1 1 c__law_triple) p.1 with | none => none | some d => some (.val d, p.2))) := ev_calP_m rfl
@[simp] theorem cl__law_told_0 (j : Nat) : ev g__law_told (.mth 0 j es) ρ = mthS (runM g_Book_is_whole fuW 1 1 c_Book_is_whole) j (evF g__law_told es ρ) ρ[j]? := ev_mth rfl
@[simp] theorem cl__law_told_1 (j : Nat) : ev g__law_told (.mth 1 j es) ρ = mthS (runM g_Book_table fuW 1 1 c_Book_table) j (evF g__law_told es ρ) ρ[j]? := ev_mth rfl
@[simp] theorem cl__law_right_0 : ev g__law_right (.cal 0 (.cons false e r)) ρ = (match ev g__law_right e ρ with | none => none | some p => (match evF g__law_right r p.2 with | none => none | some q => calM (runM g__law_begun fuW 1 1 c__law_begun) p q)) := ev_calM_m rfl
@[simp] theorem cl__law_right_1 : ev g__law_right (.cal 1 es) ρ = (match evF g__law_right es ρ with | none => none | some p => (match (mkBook v_is_places x_check_kind) p.1 with | none => none | some s => if noEmp s then some (.fr s, p.2) else none)) := ev_calK_m rfl
@[simp] theorem cl__law_right_2 : ev g__law_right (.cal 2 (.cons false e r)) ρ = (match ev g__law_right e ρ with | none => none | some p => (match evF g__law_right r p.2 with | none => none | some q => calM (undF x_Book_undo "NothingToUndo") p q)) := ev_calM_m rfl
@[simp] theorem cl__law_right_3 : ev g__law_right (.cal 3 (.cons false e r)) ρ = (match ev g__law_right e ρ with | none => none | some p => (match evF g__law_right r p.2 with | none => none | some q => calM (runM g__law_deed fuW 7 2 c__law_deed) p q)) := ev_calM_m rfl
@[simp] theorem cl__law_right_4 : ev g__law_right (.cal 4 (.cons false e r)) ρ = (match ev g__law_right e ρ with | none => none | some p => (match evF g__law_right r p.2 with | none => none | some q => calM (barF x_Book_do "Barred" "reason" (.str "")) p q)) := ev_calM_m rfl
@[simp] theorem cl__law_right_5 : ev g__law_right (.cal 5 es) ρ = (match evF g__law_right es ρ with | none => none | some p => (match (runP g__law_after fuW 4 2 c__law_after) p.1 with | none => none | some d => some (.val d, p.2))) := ev_calP_m rfl
@[simp] theorem cl__law_right_6 : ev g__law_right (.cal 6 (.cons false e r)) ρ = (match ev g__law_right e ρ with | none => none | some p => (match evF g__law_right r p.2 with | none => none | some q => calM (runM g__law_pick fuW 2 2 c__law_pick) p q)) := ev_calM_m rfl
@[simp] theorem cl__law_right_7 (j : Nat) : ev g__law_right (.mth 7 j es) ρ = mthS (okR x_Book_do) j (evF g__law_right es ρ) ρ[j]? := ev_mth rfl
@[simp] theorem cl__law_right_8 (j : Nat) (n : Bool) : ev g__law_right (.oeq 8 n j e) ρ = oeqS (match ev g__law_right e ρ with | none => none | some p => eqTwo t_Book___eq__ n j p.1 p.2) ρ[j]? := ev_oeq rfl
@[simp] theorem cl__law_right_9 : ev g__law_right (.cal 9 (.cons false e r)) ρ = (match ev g__law_right e ρ with | none => none | some p => (match evF g__law_right r p.2 with | none => none | some q => calM (runM g__law_told fuW 1 1 c__law_told) p q)) := ev_calM_m rfl
@[simp] theorem cl_law_0 : ev g_law (.cal 0 (.cons false e r)) ρ = (match ev g_law e ρ with | none => none | some p => (match evF g_law r p.2 with | none => none | some q => calM (runM g__law_right fuW 11 1 c__law_right) p q)) := ev_calM_m rfl
@[simp] theorem cl_law_1 : ev g_law (.cal 1 es) ρ = (match evF g_law es ρ with | none => none | some p => (match (runK g__law_pool fuW 5 2 c__law_pool) p.1 with | none => none | some s => if noEmp s then some (.fr s, p.2) else none)) := ev_calK_m rfl
end
end Cor
set_option Elab.async false
set_option linter.all false
set_option maxRecDepth 100000
set_option maxHeartbeats 4000000
/-! P3: what the small defs answer. -/
namespace Cor
open PySem PySem.Spec PyProof.Rows L2
@[simp] theorem shp_int (i : Int) : shp (.int i) = true := by simp [shp, SeqAt.shaped, PyData.canLay0, PyData.depth]
@[simp] theorem shp_non : shp .none = true := by simp [shp, SeqAt.shaped, PyData.canLay0, PyData.depth]
@[simp] theorem shp_bool (b : Bool) : shp (.bool b) = true := by simp [shp, SeqAt.shaped, PyData.canLay0, PyData.depth]
@[simp] theorem shp_str (z : Str) : shp (.str z) = PyData.strOk z := by simp [shp, SeqAt.shaped, PyData.canLay0, PyData.depth]
@[simp] theorem eqv_int (a b : Int) : PyData.eqv (.int a) (.int b) = (a == b) := by rw [PyData.eqv]
@[simp] theorem eqv_str (a b : Str) : PyData.eqv (.str a) (.str b) = (a == b) := by rw [PyData.eqv]
@[simp] theorem so_0 : PyData.strOk (Str.ofString "meet") = true := by decide +kernel
@[simp] theorem so_1 : PyData.strOk (Str.ofString "strike") = true := by decide +kernel
@[simp] theorem so_2 : PyData.strOk (Str.ofString "move") = true := by decide +kernel
@[simp] theorem so_3 : PyData.strOk (Str.ofString "strict") = true := by decide +kernel
@[simp] theorem so_4 : PyData.strOk (Str.ofString "loose") = true := by decide +kernel
@[simp] theorem so_5 : PyData.strOk (Str.ofString "") = true := by decide +kernel
@[simp] theorem so_6 : PyData.strOk (Str.ofString "had") = true := by decide +kernel
@[simp] theorem so_7 : PyData.strOk (Str.ofString "full") = true := by decide +kernel
@[simp] theorem so_8 : PyData.strOk (Str.ofString "none") = true := by decide +kernel
@[simp] theorem so_9 : PyData.strOk (Str.ofString "same") = true := by decide +kernel
@[simp] theorem so_10 : PyData.strOk (Str.ofString "odd") = true := by decide +kernel
@[simp] theorem so_11 : PyData.strOk (Str.ofString "Strike") = true := by decide +kernel
@[simp] theorem so_12 : PyData.strOk (Str.ofString "0") = true := by decide +kernel
@[simp] theorem so_13 : PyData.strOk (Str.ofString "1") = true := by decide +kernel
@[simp] theorem sn_0 : (Str.ofString "" = Str.ofString "full") = False := eq_false (by decide +kernel)
@[simp] theorem sn_1 : (Str.ofString "" = Str.ofString "had") = False := eq_false (by decide +kernel)
@[simp] theorem sn_2 : (Str.ofString "" = Str.ofString "none") = False := eq_false (by decide +kernel)
@[simp] theorem sn_3 : (Str.ofString "" = Str.ofString "same") = False := eq_false (by decide +kernel)
@[simp] theorem sn_4 : (Str.ofString "Strike" = Str.ofString "meet") = False := eq_false (by decide +kernel)
@[simp] theorem sn_5 : (Str.ofString "Strike" = Str.ofString "move") = False := eq_false (by decide +kernel)
@[simp] theorem sn_6 : (Str.ofString "Strike" = Str.ofString "strike") = False := eq_false (by decide +kernel)
@[simp] theorem sn_7 : (Str.ofString "full" = Str.ofString "") = False := eq_false (by decide +kernel)
@[simp] theorem sn_8 : (Str.ofString "full" = Str.ofString "had") = False := eq_false (by decide +kernel)
@[simp] theorem sn_9 : (Str.ofString "full" = Str.ofString "none") = False := eq_false (by decide +kernel)
@[simp] theorem sn_10 : (Str.ofString "full" = Str.ofString "same") = False := eq_false (by decide +kernel)
@[simp] theorem sn_11 : (Str.ofString "had" = Str.ofString "") = False := eq_false (by decide +kernel)
@[simp] theorem sn_12 : (Str.ofString "had" = Str.ofString "full") = False := eq_false (by decide +kernel)
@[simp] theorem sn_13 : (Str.ofString "had" = Str.ofString "none") = False := eq_false (by decide +kernel)
@[simp] theorem sn_14 : (Str.ofString "had" = Str.ofString "same") = False := eq_false (by decide +kernel)
@[simp] theorem sn_15 : (Str.ofString "loose" = Str.ofString "strict") = False := eq_false (by decide +kernel)
@[simp] theorem sn_16 : (Str.ofString "meet" = Str.ofString "Strike") = False := eq_false (by decide +kernel)
@[simp] theorem sn_17 : (Str.ofString "meet" = Str.ofString "move") = False := eq_false (by decide +kernel)
@[simp] theorem sn_18 : (Str.ofString "meet" = Str.ofString "strike") = False := eq_false (by decide +kernel)
@[simp] theorem sn_19 : (Str.ofString "move" = Str.ofString "Strike") = False := eq_false (by decide +kernel)
@[simp] theorem sn_20 : (Str.ofString "move" = Str.ofString "meet") = False := eq_false (by decide +kernel)
@[simp] theorem sn_21 : (Str.ofString "move" = Str.ofString "strike") = False := eq_false (by decide +kernel)
@[simp] theorem sn_22 : (Str.ofString "none" = Str.ofString "") = False := eq_false (by decide +kernel)
@[simp] theorem sn_23 : (Str.ofString "none" = Str.ofString "full") = False := eq_false (by decide +kernel)
@[simp] theorem sn_24 : (Str.ofString "none" = Str.ofString "had") = False := eq_false (by decide +kernel)
@[simp] theorem sn_25 : (Str.ofString "none" = Str.ofString "same") = False := eq_false (by decide +kernel)
@[simp] theorem sn_26 : (Str.ofString "same" = Str.ofString "") = False := eq_false (by decide +kernel)
@[simp] theorem sn_27 : (Str.ofString "same" = Str.ofString "full") = False := eq_false (by decide +kernel)
@[simp] theorem sn_28 : (Str.ofString "same" = Str.ofString "had") = False := eq_false (by decide +kernel)
@[simp] theorem sn_29 : (Str.ofString "same" = Str.ofString "none") = False := eq_false (by decide +kernel)
@[simp] theorem sn_30 : (Str.ofString "strict" = Str.ofString "loose") = False := eq_false (by decide +kernel)
@[simp] theorem sn_31 : (Str.ofString "strike" = Str.ofString "Strike") = False := eq_false (by decide +kernel)
@[simp] theorem sn_32 : (Str.ofString "strike" = Str.ofString "meet") = False := eq_false (by decide +kernel)
@[simp] theorem sn_33 : (Str.ofString "strike" = Str.ofString "move") = False := eq_false (by decide +kernel)
@[simp] theorem atI_0 {α : Type} (x : α) (r : List α) : atI (x :: r) 0 = some x := by
  unfold atI ixN
  rw [if_pos (by omega), if_pos (by simp <;> omega)]; rfl
@[simp] theorem atI_1 {α : Type} (x y : α) (r : List α) : atI (x :: y :: r) 1 = some y := by
  unfold atI ixN
  rw [if_pos (by omega), if_pos (by simp <;> omega)]; rfl
@[simp] theorem atI_2 {α : Type} (x y z : α) (r : List α) : atI (x :: y :: z :: r) 2 = some z := by
  unfold atI ixN
  rw [if_pos (by omega), if_pos (by simp <;> omega)]; rfl
@[simp] theorem atI_3 {α : Type} (x y z u : α) (r : List α) : atI (x :: y :: z :: u :: r) 3 = some u := by
  unfold atI ixN
  rw [if_pos (by omega), if_pos (by simp <;> omega)]; rfl
def isW : PyData → Bool
  | .int _ => true
  | _ => false
def betw (lo hi : Int) : PyData → Bool
  | .int i => decide (lo ≤ i) && decide (i ≤ hi)
  | _ => false
theorem s_is_whole (d : PyData) : runP g_is_whole fuW 1 1 c_is_whole [d] = some (.bool (isW d)) := by
  refine (runP_eq rfl).trans ?_
  cases d <;> simp [entR, outP, outK, outM, outX, outR, frz1, sl0, contL, look, cont, frz, preA, putA, stoA, storeS, ownR, lisR, backR, wipeR, freeR, plainSl, noEmp, Cor.asgT, setNames, eltA_m, inn2_m, biS, cmpS, binS, idxS, sliS, truS, truD, datS, seqS, keyD, dKey, negS, eqS, inS, ltS, leS, gtS, geS, isN, isS, lenB, tupB, lstB, absB, intB, divB, isiB, isiD, allB, anyB, sumB, minB, maxB, storeS, ixN, atD, intsD, leastI, mostI, sm, smS, small64, c_is_whole, isW]
theorem s_is_between (d : PyData) (lo hi : Int) : runP g_is_between fuW 3 3 c_is_between [d, .int lo, .int hi] = some (.bool (betw lo hi d)) := by
  refine (runP_eq rfl).trans ?_
  cases d with
  | int i => by_cases h : lo ≤ i <;> simp [entR, outP, outK, outM, outX, outR, frz1, sl0, contL, look, cont, frz, preA, putA, stoA, storeS, ownR, lisR, backR, wipeR, freeR, plainSl, noEmp, Cor.asgT, setNames, eltA_m, inn2_m, biS, cmpS, binS, idxS, sliS, truS, truD, datS, seqS, keyD, dKey, negS, eqS, inS, ltS, leS, gtS, geS, isN, isS, lenB, tupB, lstB, absB, intB, divB, isiB, isiD, allB, anyB, sumB, minB, maxB, storeS, ixN, atD, intsD, leastI, mostI, sm, smS, small64, c_is_between, s_is_whole, isW, betw, h]
  | _ => simp [entR, outP, outK, outM, outX, outR, frz1, sl0, contL, look, cont, frz, preA, putA, stoA, storeS, ownR, lisR, backR, wipeR, freeR, plainSl, noEmp, Cor.asgT, setNames, eltA_m, inn2_m, biS, cmpS, binS, idxS, sliS, truS, truD, datS, seqS, keyD, dKey, negS, eqS, inS, ltS, leS, gtS, geS, isN, isS, lenB, tupB, lstB, absB, intB, divB, isiB, isiD, allB, anyB, sumB, minB, maxB, storeS, ixN, atD, intsD, leastI, mostI, sm, smS, small64, c_is_between, s_is_whole, isW, betw]
end Cor
set_option Elab.async false
set_option linter.all false
set_option maxRecDepth 100000
set_option maxHeartbeats 4000000
namespace Cor
open PySem PySem.Spec PyProof.Rows L2
def isSt : PyData → Bool
  | .str _ => true
  | _ => false
theorem s_is_string (d : PyData) : runP g_is_string fuW 1 1 c_is_string [d] = some (.bool (isSt d)) := by
  refine (runP_eq rfl).trans ?_
  cases d <;> simp [entR, outP, outK, outM, outX, outR, frz1, sl0, contL, look, cont, frz, preA, putA, stoA, storeS, ownR, lisR, backR, wipeR, freeR, plainSl, noEmp, Cor.asgT, setNames, eltA_m, inn2_m, biS, cmpS, binS, idxS, sliS, truS, truD, datS, seqS, keyD, dKey, negS, eqS, inS, ltS, leS, gtS, geS, isN, isS, lenB, tupB, lstB, absB, intB, divB, isiB, isiD, allB, anyB, sumB, minB, maxB, storeS, ixN, atD, intsD, leastI, mostI, sm, smS, small64, c_is_string, isSt]
theorem s_is_places (d : PyData) : v_is_places [d] = some (.bool (betw 2 6 d)) := by
  unfold v_is_places
  refine (runP_eq rfl).trans ?_
  simp [entR, outP, outK, outM, outX, outR, frz1, sl0, contL, look, cont, frz, preA, putA, stoA, storeS, ownR, lisR, backR, wipeR, freeR, plainSl, noEmp, Cor.asgT, setNames, eltA_m, inn2_m, biS, cmpS, binS, idxS, sliS, truS, truD, datS, seqS, keyD, dKey, negS, eqS, inS, ltS, leS, gtS, geS, isN, isS, lenB, tupB, lstB, absB, intB, divB, isiB, isiD, allB, anyB, sumB, minB, maxB, storeS, ixN, atD, intsD, leastI, mostI, sm, smS, small64, c_is_places, s_is_between]
theorem s_is_place (p : Int) (r : List PyData) (d : PyData) : runP g_is_place fuW 2 2 c_is_place [.tuple (.int p :: r), d] = some (.bool (betw 0 (p - 1) d)) := by
  refine (runP_eq rfl).trans ?_
  simp [entR, outP, outK, outM, outX, outR, frz1, sl0, contL, look, cont, frz, preA, putA, stoA, storeS, ownR, lisR, backR, wipeR, freeR, plainSl, noEmp, Cor.asgT, setNames, eltA_m, inn2_m, biS, cmpS, binS, idxS, sliS, truS, truD, datS, seqS, keyD, dKey, negS, eqS, inS, ltS, leS, gtS, geS, isN, isS, lenB, tupB, lstB, absB, intB, divB, isiB, isiD, allB, anyB, sumB, minB, maxB, storeS, ixN, atD, intsD, leastI, mostI, sm, smS, small64, c_is_place, s_is_between]
theorem s_is_time (d : PyData) : runP g_is_time fuW 1 1 c_is_time [d] = some (.bool (betw 1 20 d)) := by
  refine (runP_eq rfl).trans ?_
  simp [entR, outP, outK, outM, outX, outR, frz1, sl0, contL, look, cont, frz, preA, putA, stoA, storeS, ownR, lisR, backR, wipeR, freeR, plainSl, noEmp, Cor.asgT, setNames, eltA_m, inn2_m, biS, cmpS, binS, idxS, sliS, truS, truD, datS, seqS, keyD, dKey, negS, eqS, inS, ltS, leS, gtS, geS, isN, isS, lenB, tupB, lstB, absB, intB, divB, isiB, isiD, allB, anyB, sumB, minB, maxB, storeS, ixN, atD, intsD, leastI, mostI, sm, smS, small64, c_is_time, s_is_between]
theorem s_is_meeting (p : PyData) (ms : List PyData) (d : PyData) : runP g_is_meeting fuW 2 2 c_is_meeting [.tuple [p, .tuple ms], d] = some (.bool (betw 0 (ms.length - 1) d)) := by
  refine (runP_eq rfl).trans ?_
  simp [entR, outP, outK, outM, outX, outR, frz1, sl0, contL, look, cont, frz, preA, putA, stoA, storeS, ownR, lisR, backR, wipeR, freeR, plainSl, noEmp, Cor.asgT, setNames, eltA_m, inn2_m, biS, cmpS, binS, idxS, sliS, truS, truD, datS, seqS, keyD, dKey, negS, eqS, inS, ltS, leS, gtS, geS, isN, isS, lenB, tupB, lstB, absB, intB, divB, isiB, isiD, allB, anyB, sumB, minB, maxB, storeS, ixN, atD, intsD, leastI, mostI, sm, smS, small64, c_is_meeting, s_is_between]
/-- a draw's pool -/
def pool (a b c : Int) : Sl := .lst [.int a, .int b, .int c]
theorem s_law_draw (a b c m : Int) (hm : 0 < m) (hm2 : m < 1000) : ∃ v a' b' c', runM g__law_draw fuW 4 2 c__law_draw (pool a b c) [.int m] = some (.int v, pool a' b' c') ∧ 0 ≤ v ∧ v < m := by
  by_cases h : 0 < b
  · refine ⟨b % m, a, b / m, c, ?_, Int.emod_nonneg _ (by omega), Int.emod_lt_of_pos _ hm⟩
    refine (runM_eq rfl).trans ?_
    simp [entR, outP, outK, outM, outX, outR, frz1, sl0, contL, look, cont, frz, preA, putA, stoA, storeS, ownR, lisR, backR, wipeR, freeR, plainSl, noEmp, Cor.asgT, setNames, eltA_m, inn2_m, biS, cmpS, binS, idxS, sliS, truS, truD, datS, seqS, keyD, dKey, negS, eqS, inS, ltS, leS, gtS, geS, isN, isS, lenB, tupB, lstB, absB, intB, divB, isiB, isiD, allB, anyB, sumB, minB, maxB, storeS, ixN, atD, intsD, leastI, mostI, sm, smS, small64, c__law_draw, pool, h, hm, show m < 1073741824 by omega]
  · refine ⟨(a * (a % 20011 + 30011) + 70001 * (c + 1) + 9) % 2147482937 / 128 % m, (a * (a % 20011 + 30011) + 70001 * (c + 1) + 9) % 2147482937, b, c + 1, ?_, Int.emod_nonneg _ (by omega), Int.emod_lt_of_pos _ hm⟩
    refine (runM_eq rfl).trans ?_
    have h1 : -18446744073709551616 < a % 20011 + 30011 := by omega
    have h2 : a % 20011 + 30011 < 18446744073709551616 := by omega
    simp [entR, outP, outK, outM, outX, outR, frz1, sl0, contL, look, cont, frz, preA, putA, stoA, storeS, ownR, lisR, backR, wipeR, freeR, plainSl, noEmp, Cor.asgT, setNames, eltA_m, inn2_m, biS, cmpS, binS, idxS, sliS, truS, truD, datS, seqS, keyD, dKey, negS, eqS, inS, ltS, leS, gtS, geS, isN, isS, lenB, tupB, lstB, absB, intB, divB, isiB, isiD, allB, anyB, sumB, minB, maxB, storeS, ixN, atD, intsD, leastI, mostI, sm, smS, small64, c__law_draw, pool, h, hm, show m < 1073741824 by omega, h1, h2]
end Cor
set_option Elab.async false
set_option linter.all false
set_option maxRecDepth 100000
set_option maxHeartbeats 4000000
/-! P5: webs; forms of deeds. -/
namespace Cor
open PySem PySem.Spec PyProof.Rows L2
abbrev M3 := Int × Int × Int
def mD (m : M3) : PyData := .tuple [.int m.1, .int m.2.1, .int m.2.2]
def wD (p : Int) (ms : List M3) : PyData := .tuple [.int p, .tuple (ms.map mD)]
def kD (s : Bool) : PyData := .str (if s then "strict" else "loose")
def pD (m : Int × Int) : PyData := .tuple [.int m.1, .int m.2]
def leM (a b : M3) : Bool := decide (a.1 < b.1 ∨ (a.1 = b.1 ∧ (a.2.1 < b.2.1 ∨ (a.2.1 = b.2.1 ∧ a.2.2 ≤ b.2.2))))
theorem dataLt_iii (x y z x' y' z' : Int) : PySem.W.dataLt (.tuple [.int x, .int y, .int z]) (.tuple [.int x', .int y', .int z']) = decide (x < x' ∨ (x = x' ∧ (y < y' ∨ (y = y' ∧ z < z')))) := by
  rw [PySem.W.dataLt_tuple, PySem.W.dataLt_cons (by simp [PySem.W.alike]), PySem.W.dataLt_cons (by simp [PySem.W.alike]), PySem.W.dataLt_cons (by simp [PySem.W.alike])]
  have e : PyProof.Rows.lexLt itemOrd (PySem.W.keyToksAll []) (PySem.W.keyToksAll []) = false := lex_irrefl _
  rw [e, PySem.W.dataLt_int, PySem.W.dataLt_int, PySem.W.dataLt_int]
  simp only [PyData.eqv, beq_iff_eq]
  by_cases h1 : x = x' <;> by_cases h2 : y = y' <;> by_cases h3 : z = z' <;> simp [h1, h2, h3]
theorem dataLe_mD (a b : M3) : PySem.W.dataLe false id (mD a) (mD b) = leM a b := by
  show (!PySem.W.dataLt (mD b) (mD a)) = _
  unfold mD
  rw [dataLt_iii]
  unfold leM
  rw [← decide_not]
  refine decide_eq_decide.mpr ?_
  omega
def sortM (ms : List M3) : List M3 := ms.mergeSort leM
theorem srtD_mD (ms : List M3) : srtD (ms.map mD) = (sortM ms).map mD := by
  unfold srtD sortM
  exact (PySem.W.sort_maps mD (fun a _ b _ => (dataLe_mD a b).symm)).symm
theorem depthAll_mD : ∀ ms : List M3, ∀ d ∈ ms.map mD, d.depth ≤ 64 := by
  intro ms d h
  obtain ⟨m, _, rfl⟩ := List.mem_map.mp h
  simp [mD, PyData.depth, PyData.depthAll]
theorem sortOk_mD (ms : List M3) (h : ms.length ≤ 100) : sortOk (ms.map mD) = true := by
  unfold sortOk
  simp only [Bool.and_eq_true, sm, decide_eq_true_eq, List.length_map, List.all_eq_true, Bool.or_eq_true]
  refine ⟨⟨⟨by omega, fun d hd e he => ?_⟩, fun d hd => by simpa using depthAll_mD ms d hd⟩, .inl fun d hd => ?_⟩
  · obtain ⟨a, _, rfl⟩ := List.mem_map.mp hd
    obtain ⟨b, _, rfl⟩ := List.mem_map.mp he
    simp [mD, PySem.W.alike, PySem.W.alikeAll]
  · obtain ⟨a, _, rfl⟩ := List.mem_map.mp hd
    rfl
theorem s_ends_of (m : M3) : runP g_ends_of fuW 1 1 c_ends_of [mD m] = some (pD m.2) := by
  refine (runP_eq rfl).trans ?_
  simp [entR, outP, outK, outM, outX, outR, frz1, sl0, contL, look, cont, frz, preA, putA, stoA, storeS, ownR, lisR, backR, wipeR, freeR, plainSl, noEmp, Cor.asgT, setNames, eltA_m, inn2_m, biS, cmpS, binS, idxS, sliS, truS, truD, datS, seqS, keyD, dKey, negS, eqS, inS, ltS, leS, gtS, geS, isN, isS, lenB, tupB, lstB, absB, intB, divB, isiB, isiD, allB, anyB, sumB, minB, maxB, storeS, ixN, atD, intsD, leastI, mostI, sm, smS, small64, c_ends_of, mD, pD, cutD, HT.sIx]
theorem s_made_web (p : Int) (ms : List M3) (h : ms.length ≤ 100) : runP g_made_web fuW 2 2 c_made_web [.int p, .list (ms.map mD)] = some (wD p (sortM ms)) := by
  refine (runP_eq rfl).trans ?_
  simp [entR, outP, outK, outM, outX, outR, frz1, sl0, contL, look, cont, frz, preA, putA, stoA, storeS, ownR, lisR, backR, wipeR, freeR, plainSl, noEmp, Cor.asgT, setNames, eltA_m, inn2_m, biS, cmpS, binS, idxS, sliS, truS, truD, datS, seqS, keyD, dKey, negS, eqS, inS, ltS, leS, gtS, geS, isN, isS, lenB, tupB, lstB, absB, intB, divB, isiB, isiD, allB, anyB, sumB, minB, maxB, storeS, ixN, atD, intsD, leastI, mostI, sm, smS, small64, c_made_web, srtB, sortOk_mD ms h, srtD_mD, wD]
end Cor
set_option Elab.async false
set_option linter.all false
set_option maxRecDepth 100000
set_option maxHeartbeats 4000000
/-! P6: forms of deeds. -/
namespace Cor
open PySem PySem.Spec PyProof.Rows L2
def szL : List (Str × Int) := [("meet", 4), ("strike", 2), ("move", 3)]
def formB : PyData → Bool
  | .tuple (.str z :: r) => match szL.lookup z with
    | some n => (r.length : Int) + 1 == n
    | none => false
  | _ => false
theorem s_has_form (v : PyData) : runP g_has_form fuW 1 1 c_has_form [v] = some (.bool (formB v)) := by
  refine (runP_eq rfl).trans ?_
  cases v with
  | tuple xs =>
    cases xs with
    | nil => simp [entR, outP, outK, outM, outX, outR, frz1, sl0, contL, look, cont, frz, preA, putA, stoA, storeS, ownR, lisR, backR, wipeR, freeR, plainSl, noEmp, Cor.asgT, setNames, eltA_m, inn2_m, biS, cmpS, binS, idxS, sliS, truS, truD, datS, seqS, keyD, dKey, negS, eqS, inS, ltS, leS, gtS, geS, isN, isS, lenB, tupB, lstB, absB, intB, divB, isiB, isiD, allB, anyB, sumB, minB, maxB, storeS, ixN, atD, intsD, leastI, mostI, sm, smS, small64, c_has_form, formB]
    | cons x r =>
      have hr : ¬ ((r.length : Int) + 1 = 0) := by omega
      have hr2 : (0 : Int) < (r.length : Int) + 1 := by omega
      cases x with
      | str z =>
        cases h : szL.lookup z with
        | none =>
          have h' := h
          unfold szL at h'
          simp [entR, outP, outK, outM, outX, outR, frz1, sl0, contL, look, cont, frz, preA, putA, stoA, storeS, ownR, lisR, backR, wipeR, freeR, plainSl, noEmp, Cor.asgT, setNames, eltA_m, inn2_m, biS, cmpS, binS, idxS, sliS, truS, truD, datS, seqS, keyD, dKey, negS, eqS, inS, ltS, leS, gtS, geS, isN, isS, lenB, tupB, lstB, absB, intB, divB, isiB, isiD, allB, anyB, sumB, minB, maxB, storeS, ixN, atD, intsD, leastI, mostI, sm, smS, small64, c_has_form, formB, s_is_string, isSt, h, h', hr, hr2]
        | some n =>
          have h' := h
          unfold szL at h'
          simp [entR, outP, outK, outM, outX, outR, frz1, sl0, contL, look, cont, frz, preA, putA, stoA, storeS, ownR, lisR, backR, wipeR, freeR, plainSl, noEmp, Cor.asgT, setNames, eltA_m, inn2_m, biS, cmpS, binS, idxS, sliS, truS, truD, datS, seqS, keyD, dKey, negS, eqS, inS, ltS, leS, gtS, geS, isN, isS, lenB, tupB, lstB, absB, intB, divB, isiB, isiD, allB, anyB, sumB, minB, maxB, storeS, ixN, atD, intsD, leastI, mostI, sm, smS, small64, c_has_form, formB, s_is_string, isSt, h, h', hr, hr2]
      | _ => simp [entR, outP, outK, outM, outX, outR, frz1, sl0, contL, look, cont, frz, preA, putA, stoA, storeS, ownR, lisR, backR, wipeR, freeR, plainSl, noEmp, Cor.asgT, setNames, eltA_m, inn2_m, biS, cmpS, binS, idxS, sliS, truS, truD, datS, seqS, keyD, dKey, negS, eqS, inS, ltS, leS, gtS, geS, isN, isS, lenB, tupB, lstB, absB, intB, divB, isiB, isiD, allB, anyB, sumB, minB, maxB, storeS, ixN, atD, intsD, leastI, mostI, sm, smS, small64, c_has_form, formB, s_is_string, isSt, hr, hr2]
  | _ => simp [entR, outP, outK, outM, outX, outR, frz1, sl0, contL, look, cont, frz, preA, putA, stoA, storeS, ownR, lisR, backR, wipeR, freeR, plainSl, noEmp, Cor.asgT, setNames, eltA_m, inn2_m, biS, cmpS, binS, idxS, sliS, truS, truD, datS, seqS, keyD, dKey, negS, eqS, inS, ltS, leS, gtS, geS, isN, isS, lenB, tupB, lstB, absB, intB, divB, isiB, isiD, allB, anyB, sumB, minB, maxB, storeS, ixN, atD, intsD, leastI, mostI, sm, smS, small64, c_has_form, formB]
theorem betw_int {lo hi : Int} {d : PyData} (h : betw lo hi d = true) : ∃ i : Int, d = .int i ∧ lo ≤ i ∧ i ≤ hi := by
  cases d with
  | int i => exact ⟨i, rfl, by simpa [betw] using h⟩
  | _ => cases h
def exD (i : Int) : Exn := ⟨"InvalidDeed", "index", .int i⟩
def resD : Option Int → Except Exn PyData
  | none => .ok .none
  | some i => .error (exD i)
def meetErr (p : Int) (t a b : PyData) : Option Int :=
  if betw 1 20 t = false then some 1 else if betw 0 (p - 1) a = false then some 2 else if betw 0 (p - 1) b = false ∨ PyData.eqv b a = true then some 3 else none
theorem s_check_meet (p : Int) (ms : List PyData) (z t a b : PyData) : x_check_meet [.tuple (.int p :: ms), .tuple [z, t, a, b]] = some (resD (meetErr p t a b)) := by
  unfold x_check_meet
  refine (runX_eq rfl).trans ?_
  unfold meetErr
  cases ht : betw 1 20 t with
  | false => simp [entR, outP, outK, outM, outX, outR, frz1, sl0, contL, look, cont, frz, preA, putA, stoA, storeS, ownR, lisR, backR, wipeR, freeR, plainSl, noEmp, Cor.asgT, setNames, eltA_m, inn2_m, biS, cmpS, binS, idxS, sliS, truS, truD, datS, seqS, keyD, dKey, negS, eqS, inS, ltS, leS, gtS, geS, isN, isS, lenB, tupB, lstB, absB, intB, divB, isiB, isiD, allB, anyB, sumB, minB, maxB, storeS, ixN, atD, intsD, leastI, mostI, sm, smS, small64, c_check_meet, s_is_time, ht, resD, exD]
  | true =>
    cases ha : betw 0 (p - 1) a with
    | false => simp [entR, outP, outK, outM, outX, outR, frz1, sl0, contL, look, cont, frz, preA, putA, stoA, storeS, ownR, lisR, backR, wipeR, freeR, plainSl, noEmp, Cor.asgT, setNames, eltA_m, inn2_m, biS, cmpS, binS, idxS, sliS, truS, truD, datS, seqS, keyD, dKey, negS, eqS, inS, ltS, leS, gtS, geS, isN, isS, lenB, tupB, lstB, absB, intB, divB, isiB, isiD, allB, anyB, sumB, minB, maxB, storeS, ixN, atD, intsD, leastI, mostI, sm, smS, small64, c_check_meet, s_is_time, s_is_place, ht, ha, resD, exD]
    | true =>
      obtain ⟨i, rfl, _⟩ := betw_int ha
      cases hb : betw 0 (p - 1) b with
      | false => simp [entR, outP, outK, outM, outX, outR, frz1, sl0, contL, look, cont, frz, preA, putA, stoA, storeS, ownR, lisR, backR, wipeR, freeR, plainSl, noEmp, Cor.asgT, setNames, eltA_m, inn2_m, biS, cmpS, binS, idxS, sliS, truS, truD, datS, seqS, keyD, dKey, negS, eqS, inS, ltS, leS, gtS, geS, isN, isS, lenB, tupB, lstB, absB, intB, divB, isiB, isiD, allB, anyB, sumB, minB, maxB, storeS, ixN, atD, intsD, leastI, mostI, sm, smS, small64, c_check_meet, s_is_time, s_is_place, ht, ha, hb, resD, exD]
      | true =>
        obtain ⟨j, rfl, _⟩ := betw_int hb
        by_cases e : j = i
        · simp [entR, outP, outK, outM, outX, outR, frz1, sl0, contL, look, cont, frz, preA, putA, stoA, storeS, ownR, lisR, backR, wipeR, freeR, plainSl, noEmp, Cor.asgT, setNames, eltA_m, inn2_m, biS, cmpS, binS, idxS, sliS, truS, truD, datS, seqS, keyD, dKey, negS, eqS, inS, ltS, leS, gtS, geS, isN, isS, lenB, tupB, lstB, absB, intB, divB, isiB, isiD, allB, anyB, sumB, minB, maxB, storeS, ixN, atD, intsD, leastI, mostI, sm, smS, small64, c_check_meet, s_is_time, s_is_place, ht, ha, hb, resD, exD, e]
        · simp [entR, outP, outK, outM, outX, outR, frz1, sl0, contL, look, cont, frz, preA, putA, stoA, storeS, ownR, lisR, backR, wipeR, freeR, plainSl, noEmp, Cor.asgT, setNames, eltA_m, inn2_m, biS, cmpS, binS, idxS, sliS, truS, truD, datS, seqS, keyD, dKey, negS, eqS, inS, ltS, leS, gtS, geS, isN, isS, lenB, tupB, lstB, absB, intB, divB, isiB, isiD, allB, anyB, sumB, minB, maxB, storeS, ixN, atD, intsD, leastI, mostI, sm, smS, small64, c_check_meet, s_is_time, s_is_place, ht, ha, hb, resD, exD, e]
def num0 : PyData → Bool
  | .int i => decide (0 ≤ i)
  | _ => false
theorem s_is_number (d : PyData) : runP g_is_number__1 fuW 3 3 c_is_number__1 [d, .int 0, .none] = some (.bool (num0 d)) := by
  refine (runP_eq rfl).trans ?_
  cases d with
  | int i => by_cases h : 0 ≤ i <;> simp [entR, outP, outK, outM, outX, outR, frz1, sl0, contL, look, cont, frz, preA, putA, stoA, storeS, ownR, lisR, backR, wipeR, freeR, plainSl, noEmp, Cor.asgT, setNames, eltA_m, inn2_m, biS, cmpS, binS, idxS, sliS, truS, truD, datS, seqS, keyD, dKey, negS, eqS, inS, ltS, leS, gtS, geS, isN, isS, lenB, tupB, lstB, absB, intB, divB, isiB, isiD, allB, anyB, sumB, minB, maxB, storeS, ixN, atD, intsD, leastI, mostI, sm, smS, small64, c_is_number__1, s_is_whole, isW, num0, h]
  | _ => simp [entR, outP, outK, outM, outX, outR, frz1, sl0, contL, look, cont, frz, preA, putA, stoA, storeS, ownR, lisR, backR, wipeR, freeR, plainSl, noEmp, Cor.asgT, setNames, eltA_m, inn2_m, biS, cmpS, binS, idxS, sliS, truS, truD, datS, seqS, keyD, dKey, negS, eqS, inS, ltS, leS, gtS, geS, isN, isS, lenB, tupB, lstB, absB, intB, divB, isiB, isiD, allB, anyB, sumB, minB, maxB, storeS, ixN, atD, intsD, leastI, mostI, sm, smS, small64, c_is_number__1, s_is_whole, isW, num0]
theorem s_check_deed_0 (w v : PyData) (h : formB v = false) : x_check_deed [w, v] = some (.error (exD 0)) := by
  unfold x_check_deed
  refine (runX_eq rfl).trans ?_
  simp [entR, outP, outK, outM, outX, outR, frz1, sl0, contL, look, cont, frz, preA, putA, stoA, storeS, ownR, lisR, backR, wipeR, freeR, plainSl, noEmp, Cor.asgT, setNames, eltA_m, inn2_m, biS, cmpS, binS, idxS, sliS, truS, truD, datS, seqS, keyD, dKey, negS, eqS, inS, ltS, leS, gtS, geS, isN, isS, lenB, tupB, lstB, absB, intB, divB, isiB, isiD, allB, anyB, sumB, minB, maxB, storeS, ixN, atD, intsD, leastI, mostI, sm, smS, small64, c_check_deed, s_has_form, h, exD]
theorem s_check_deed_meet (p : Int) (ms : List PyData) (t a b : PyData) : x_check_deed [.tuple (.int p :: ms), .tuple [.str "meet", t, a, b]] = some (resD (meetErr p t a b)) := by
  unfold x_check_deed
  refine (runX_eq rfl).trans ?_
  have f : formB (.tuple [.str "meet", t, a, b]) = true := rfl
  cases h : meetErr p t a b <;> simp [entR, outP, outK, outM, outX, outR, frz1, sl0, contL, look, cont, frz, preA, putA, stoA, storeS, ownR, lisR, backR, wipeR, freeR, plainSl, noEmp, Cor.asgT, setNames, eltA_m, inn2_m, biS, cmpS, binS, idxS, sliS, truS, truD, datS, seqS, keyD, dKey, negS, eqS, inS, ltS, leS, gtS, geS, isN, isS, lenB, tupB, lstB, absB, intB, divB, isiB, isiD, allB, anyB, sumB, minB, maxB, storeS, ixN, atD, intsD, leastI, mostI, sm, smS, small64, c_check_deed, s_has_form, f, exD, s_check_meet, h, resD]
theorem s_check_deed_strike (w : PyData) (i : PyData) : x_check_deed [w, .tuple [.str "strike", i]] = some (resD (if num0 i then none else some 1)) := by
  unfold x_check_deed
  refine (runX_eq rfl).trans ?_
  have f : formB (.tuple [.str "strike", i]) = true := rfl
  cases h : num0 i <;> simp [entR, outP, outK, outM, outX, outR, frz1, sl0, contL, look, cont, frz, preA, putA, stoA, storeS, ownR, lisR, backR, wipeR, freeR, plainSl, noEmp, Cor.asgT, setNames, eltA_m, inn2_m, biS, cmpS, binS, idxS, sliS, truS, truD, datS, seqS, keyD, dKey, negS, eqS, inS, ltS, leS, gtS, geS, isN, isS, lenB, tupB, lstB, absB, intB, divB, isiB, isiD, allB, anyB, sumB, minB, maxB, storeS, ixN, atD, intsD, leastI, mostI, sm, smS, small64, c_check_deed, s_has_form, f, exD, s_is_number, h, resD]
theorem s_check_deed_move (w : PyData) (i t : PyData) : x_check_deed [w, .tuple [.str "move", i, t]] = some (resD (if num0 i then (if betw 1 20 t then none else some 2) else some 1)) := by
  unfold x_check_deed
  refine (runX_eq rfl).trans ?_
  have f : formB (.tuple [.str "move", i, t]) = true := rfl
  cases h : num0 i <;> cases h2 : betw 1 20 t <;> simp [entR, outP, outK, outM, outX, outR, frz1, sl0, contL, look, cont, frz, preA, putA, stoA, storeS, ownR, lisR, backR, wipeR, freeR, plainSl, noEmp, Cor.asgT, setNames, eltA_m, inn2_m, biS, cmpS, binS, idxS, sliS, truS, truD, datS, seqS, keyD, dKey, negS, eqS, inS, ltS, leS, gtS, geS, isN, isS, lenB, tupB, lstB, absB, intB, divB, isiB, isiD, allB, anyB, sumB, minB, maxB, storeS, ixN, atD, intsD, leastI, mostI, sm, smS, small64, c_check_deed, s_has_form, f, exD, s_is_number, s_is_time, h, h2, resD]
end Cor
set_option Elab.async false
set_option linter.all false
set_option maxRecDepth 100000
set_option maxHeartbeats 4000000
/-! P7: deeds on webs. -/
namespace Cor
open PySem PySem.Spec PyProof.Rows L2
inductive Dd where
  | meet (t a b : Int)
  | strike (i : Int)
  | move (i t : Int)
  deriving DecidableEq
def dD : Dd → PyData
  | .meet t a b => .tuple [.str "meet", .int t, .int a, .int b]
  | .strike i => .tuple [.str "strike", .int i]
  | .move i t => .tuple [.str "move", .int i, .int t]
def Dd.ok (p : Int) : Dd → Prop
  | .meet t a b => 1 ≤ t ∧ t ≤ 20 ∧ 0 ≤ a ∧ a < p ∧ 0 ≤ b ∧ b < p ∧ a ≠ b
  | .strike i => 0 ≤ i
  | .move i t => 0 ≤ i ∧ 1 ≤ t ∧ t ≤ 20
def trip (t a b : Int) : M3 := (t, if b < a then b else a, if b > a then b else a)
def atM (ms : List M3) (i : Int) : M3 := ms.getD i.toNat (0, 0, 0)
def reasonL (ms : List M3) : Dd → Option Str
  | .meet t a b => if trip t a b ∈ ms then some "had" else if ms.length = 12 then some "full" else none
  | .strike i => if i < ms.length then none else some "none"
  | .move i t => if i < ms.length then (if (t, (atM ms i).2) = atM ms i then some "same" else if (t, (atM ms i).2) ∈ ms then some "had" else none) else some "none"
def afterL (ms : List M3) : Dd → List M3
  | .meet t a b => sortM (ms ++ [trip t a b])
  | .strike i => ms.eraseIdx i.toNat
  | .move i t => sortM (ms.eraseIdx i.toNat ++ [(t, (atM ms i).2)])
theorem mD_eta (a b c : Int) : PyData.tuple [.int a, .int b, .int c] = mD (a, b, c) := rfl
@[simp] theorem eqv_mD (a b : M3) : PyData.eqv (mD a) (mD b) = decide (a = b) := by
  obtain ⟨a1, a2, a3⟩ := a
  obtain ⟨b1, b2, b3⟩ := b
  rw [Bool.eq_iff_iff]
  simp [mD, PyData.eqv, PyData.eqvAll]
@[simp] theorem shp_mD (a : M3) : shp (mD a) = true := by simp [shp, SeqAt.shaped, mD, PyData.canLay0, PyData.canLayAll0, PyData.depth, PyData.depthAll]
theorem shp_tupA {ds : List PyData} (h : ∀ d ∈ ds, PyData.canLay0 d = true ∧ PyData.depth d ≤ 60) : shp (.tuple ds) = true := by
  have h1 : PyData.canLayAll0 ds = true := by
    induction ds with
    | nil => rfl
    | cons d r ih =>
      rw [PyData.canLayAll0, (h d (by simp)).1, ih fun e he => h e (by simp [he])]; rfl
  have h2 : PyData.depthAll ds ≤ 60 := by
    induction ds with
    | nil => simp [PyData.depthAll]
    | cons d r ih =>
      rw [PyData.depthAll]
      have := (h d (by simp)).2
      have := ih (fun e he => h e (by simp [he])) (by rw [PyData.canLayAll0] at h1; simp at h1; exact h1.2)
      omega
  simp [shp, SeqAt.shaped, PyData.canLay0, PyData.depth, h1]
  omega
theorem shp_lstA {ds : List PyData} (h : ∀ d ∈ ds, PyData.canLay0 d = true ∧ PyData.depth d ≤ 60) : shp (.list ds) = true := by
  have := shp_tupA h
  simpa [shp, SeqAt.shaped, PyData.canLay0, PyData.depth] using this
@[simp] theorem shp_mDs (ms : List M3) : shp (.tuple (ms.map mD)) = true := shp_tupA fun d hd => by
  obtain ⟨a, _, rfl⟩ := List.mem_map.mp hd
  simp [mD, PyData.canLay0, PyData.canLayAll0, PyData.depth, PyData.depthAll]
@[simp] theorem any_mD (ms : List M3) (m : M3) : ((ms.map mD).any fun e => PyData.eqv e (mD m)) = decide (m ∈ ms) := by
  rw [Bool.eq_iff_iff]
  simp
theorem atI_mD {ms : List M3} {i : Int} (h : 0 ≤ i) (h2 : i < ms.length) : atI (ms.map mD) i = some (mD (atM ms i)) := by
  unfold atI ixN atM
  simp only [List.length_map, if_pos h, if_pos h2]
  have h3 : i.toNat < ms.length := by omega
  simp [h3, List.getElem?_eq_getElem]
theorem s_meeting_meet (p : Int) (ms : List M3) (t a b : Int) : runP g_meeting_of fuW 2 2 c_meeting_of [wD p ms, dD (.meet t a b)] = some (mD (trip t a b)) := by
  refine (runP_eq rfl).trans ?_
  simp [entR, outP, outK, outM, outX, outR, frz1, sl0, contL, look, cont, frz, preA, putA, stoA, storeS, ownR, lisR, backR, wipeR, freeR, plainSl, noEmp, Cor.asgT, setNames, eltA_m, inn2_m, biS, cmpS, binS, idxS, sliS, truS, truD, datS, seqS, keyD, dKey, negS, eqS, inS, ltS, leS, gtS, geS, isN, isS, lenB, tupB, lstB, absB, intB, divB, isiB, isiD, allB, anyB, sumB, minB, maxB, storeS, ixN, atD, intsD, leastI, mostI, sm, smS, small64, c_meeting_of, wD, dD, trip, mD, cutD, HT.sIx]
theorem s_meeting_move (p : Int) (ms : List M3) (i t : Int) (h : 0 ≤ i) (h2 : i < ms.length) : runP g_meeting_of fuW 2 2 c_meeting_of [wD p ms, dD (.move i t)] = some (mD (t, (atM ms i).2)) := by
  refine (runP_eq rfl).trans ?_
  simp [entR, outP, outK, outM, outX, outR, frz1, sl0, contL, look, cont, frz, preA, putA, stoA, storeS, ownR, lisR, backR, wipeR, freeR, plainSl, noEmp, Cor.asgT, setNames, eltA_m, inn2_m, biS, cmpS, binS, idxS, sliS, truS, truD, datS, seqS, keyD, dKey, negS, eqS, inS, ltS, leS, gtS, geS, isN, isS, lenB, tupB, lstB, absB, intB, divB, isiB, isiD, allB, anyB, sumB, minB, maxB, storeS, ixN, atD, intsD, leastI, mostI, sm, smS, small64, c_meeting_of, wD, dD, atI_mD h h2, cutD, HT.sIx]
  simp [mD]
theorem s_reason_to_move (p : Int) (ms : List M3) (i t : Int) (h : 0 ≤ i) (h2 : i < ms.length) : runP g_reason_to_move fuW 3 2 c_reason_to_move [wD p ms, dD (.move i t)] = some (match reasonL ms (.move i t) with | none => .none | some z => .str z) := by
  refine (runP_eq rfl).trans ?_
  have e := s_meeting_move p ms i t h h2
  unfold wD dD at e
  by_cases c1 : (t, (atM ms i).2) = atM ms i
  · simp [entR, outP, outK, outM, outX, outR, frz1, sl0, contL, look, cont, frz, preA, putA, stoA, storeS, ownR, lisR, backR, wipeR, freeR, plainSl, noEmp, Cor.asgT, setNames, eltA_m, inn2_m, biS, cmpS, binS, idxS, sliS, truS, truD, datS, seqS, keyD, dKey, negS, eqS, inS, ltS, leS, gtS, geS, isN, isS, lenB, tupB, lstB, absB, intB, divB, isiB, isiD, allB, anyB, sumB, minB, maxB, storeS, ixN, atD, intsD, leastI, mostI, sm, smS, small64, c_reason_to_move, wD, dD, atI_mD h h2, e, reasonL, h2, c1]
  · by_cases c2 : (t, (atM ms i).2) ∈ ms <;> simp [entR, outP, outK, outM, outX, outR, frz1, sl0, contL, look, cont, frz, preA, putA, stoA, storeS, ownR, lisR, backR, wipeR, freeR, plainSl, noEmp, Cor.asgT, setNames, eltA_m, inn2_m, biS, cmpS, binS, idxS, sliS, truS, truD, datS, seqS, keyD, dKey, negS, eqS, inS, ltS, leS, gtS, geS, isN, isS, lenB, tupB, lstB, absB, intB, divB, isiB, isiD, allB, anyB, sumB, minB, maxB, storeS, ixN, atD, intsD, leastI, mostI, sm, smS, small64, c_reason_to_move, wD, dD, atI_mD h h2, e, reasonL, h2, c1, c2]
end Cor
set_option Elab.async false
set_option linter.all false
set_option maxRecDepth 100000
set_option maxHeartbeats 4000000
/-! P8: deeds done to a book. -/
namespace Cor
open PySem PySem.Spec PyProof.Rows L2
def optS : Option Str → PyData
  | none => .none
  | some z => .str z
theorem betw_is (lo hi i : Int) : betw lo hi (.int i) = (decide (lo ≤ i) && decide (i ≤ hi)) := rfl
theorem s_is_meeting' (p : Int) (ms : List M3) (d : PyData) : runP g_is_meeting fuW 2 2 c_is_meeting [wD p ms, d] = some (.bool (betw 0 (ms.length - 1) d)) := by
  have := s_is_meeting (.int p) (ms.map mD) d
  rwa [List.length_map] at this
theorem s_reason_against (p : Int) (ms : List M3) (d : Dd) (h : d.ok p) : runP g_reason_against fuW 2 2 c_reason_against [wD p ms, dD d] = some (optS (reasonL ms d)) := by
  refine (runP_eq rfl).trans ?_
  cases d with
  | meet t a b =>
    have e := s_meeting_meet p ms t a b
    unfold wD dD at e
    by_cases c1 : trip t a b ∈ ms
    · simp [entR, outP, outK, outM, outX, outR, frz1, sl0, contL, look, cont, frz, preA, putA, stoA, storeS, ownR, lisR, backR, wipeR, freeR, plainSl, noEmp, Cor.asgT, setNames, eltA_m, inn2_m, biS, cmpS, binS, idxS, sliS, truS, truD, datS, seqS, keyD, dKey, negS, eqS, inS, ltS, leS, gtS, geS, isN, isS, lenB, tupB, lstB, absB, intB, divB, isiB, isiD, allB, anyB, sumB, minB, maxB, storeS, ixN, atD, intsD, leastI, mostI, sm, smS, small64, c_reason_against, wD, dD, e, reasonL, c1, optS]
    · by_cases c2 : ms.length = 12
      · simp [entR, outP, outK, outM, outX, outR, frz1, sl0, contL, look, cont, frz, preA, putA, stoA, storeS, ownR, lisR, backR, wipeR, freeR, plainSl, noEmp, Cor.asgT, setNames, eltA_m, inn2_m, biS, cmpS, binS, idxS, sliS, truS, truD, datS, seqS, keyD, dKey, negS, eqS, inS, ltS, leS, gtS, geS, isN, isS, lenB, tupB, lstB, absB, intB, divB, isiB, isiD, allB, anyB, sumB, minB, maxB, storeS, ixN, atD, intsD, leastI, mostI, sm, smS, small64, c_reason_against, wD, dD, e, reasonL, c1, c2, optS]
      · have c3 : ¬ ((ms.length : Int) = 12) := by omega
        simp [entR, outP, outK, outM, outX, outR, frz1, sl0, contL, look, cont, frz, preA, putA, stoA, storeS, ownR, lisR, backR, wipeR, freeR, plainSl, noEmp, Cor.asgT, setNames, eltA_m, inn2_m, biS, cmpS, binS, idxS, sliS, truS, truD, datS, seqS, keyD, dKey, negS, eqS, inS, ltS, leS, gtS, geS, isN, isS, lenB, tupB, lstB, absB, intB, divB, isiB, isiD, allB, anyB, sumB, minB, maxB, storeS, ixN, atD, intsD, leastI, mostI, sm, smS, small64, c_reason_against, wD, dD, e, reasonL, c1, c2, c3, optS]
  | strike i =>
    have e := s_is_meeting' p ms (.int i)
    unfold wD at e
    have h0 : 0 ≤ i := h
    by_cases c1 : i < ms.length
    · have c2 : i ≤ (ms.length : Int) - 1 := by omega
      simp [entR, outP, outK, outM, outX, outR, frz1, sl0, contL, look, cont, frz, preA, putA, stoA, storeS, ownR, lisR, backR, wipeR, freeR, plainSl, noEmp, Cor.asgT, setNames, eltA_m, inn2_m, biS, cmpS, binS, idxS, sliS, truS, truD, datS, seqS, keyD, dKey, negS, eqS, inS, ltS, leS, gtS, geS, isN, isS, lenB, tupB, lstB, absB, intB, divB, isiB, isiD, allB, anyB, sumB, minB, maxB, storeS, ixN, atD, intsD, leastI, mostI, sm, smS, small64, c_reason_against, wD, dD, e, reasonL, c1, c2, optS, betw_is, h0]
    · have c2 : ¬ (i ≤ (ms.length : Int) - 1) := by omega
      simp [entR, outP, outK, outM, outX, outR, frz1, sl0, contL, look, cont, frz, preA, putA, stoA, storeS, ownR, lisR, backR, wipeR, freeR, plainSl, noEmp, Cor.asgT, setNames, eltA_m, inn2_m, biS, cmpS, binS, idxS, sliS, truS, truD, datS, seqS, keyD, dKey, negS, eqS, inS, ltS, leS, gtS, geS, isN, isS, lenB, tupB, lstB, absB, intB, divB, isiB, isiD, allB, anyB, sumB, minB, maxB, storeS, ixN, atD, intsD, leastI, mostI, sm, smS, small64, c_reason_against, wD, dD, e, reasonL, c1, c2, optS, betw_is, h0]
  | move i t =>
    have e := s_is_meeting' p ms (.int i)
    unfold wD at e
    have h0 : 0 ≤ i := h.1
    by_cases c1 : i < ms.length
    · have c2 : i ≤ (ms.length : Int) - 1 := by omega
      have e2 := s_reason_to_move p ms i t h0 c1
      unfold wD dD at e2
      simp [entR, outP, outK, outM, outX, outR, frz1, sl0, contL, look, cont, frz, preA, putA, stoA, storeS, ownR, lisR, backR, wipeR, freeR, plainSl, noEmp, Cor.asgT, setNames, eltA_m, inn2_m, biS, cmpS, binS, idxS, sliS, truS, truD, datS, seqS, keyD, dKey, negS, eqS, inS, ltS, leS, gtS, geS, isN, isS, lenB, tupB, lstB, absB, intB, divB, isiB, isiD, allB, anyB, sumB, minB, maxB, storeS, ixN, atD, intsD, leastI, mostI, sm, smS, small64, c_reason_against, wD, dD, e, e2, c1, c2, betw_is, h0]
      unfold optS
      cases reasonL ms (.move i t) <;> rfl
    · have c2 : ¬ (i ≤ (ms.length : Int) - 1) := by omega
      simp [entR, outP, outK, outM, outX, outR, frz1, sl0, contL, look, cont, frz, preA, putA, stoA, storeS, ownR, lisR, backR, wipeR, freeR, plainSl, noEmp, Cor.asgT, setNames, eltA_m, inn2_m, biS, cmpS, binS, idxS, sliS, truS, truD, datS, seqS, keyD, dKey, negS, eqS, inS, ltS, leS, gtS, geS, isN, isS, lenB, tupB, lstB, absB, intB, divB, isiB, isiD, allB, anyB, sumB, minB, maxB, storeS, ixN, atD, intsD, leastI, mostI, sm, smS, small64, c_reason_against, wD, dD, e, reasonL, c1, c2, optS, betw_is, h0]
/-! ### without one -/
theorem enuD_mD (ms : List M3) : enuD (ms.map mD) = ms.zipIdx.map fun q => .tuple [.int (q.2 : Nat), mD q.1] := by
  unfold enuD
  rw [List.zipIdx_map, List.map_map]
  rfl
theorem erase_of_filter {α : Type} (i : Nat) : ∀ (l : List α) (k : Nat), ((l.zipIdx k).filter fun q => !decide (q.2 = i + k)).map (·.1) = l.eraseIdx i
  | [], k => by simp
  | x :: l, k => by
    rw [List.zipIdx_cons]
    cases i with
    | zero =>
      simp
      have : ∀ (l : List α) (j : Nat), k < j → ((l.zipIdx j).filter fun q => !decide (q.2 = k)).map (·.1) = l := by
        intro l
        induction l with
        | nil => intro j _; simp
        | cons y l ih =>
          intro j hj
          rw [List.zipIdx_cons, List.filter_cons]
          have : ¬ (j = k) := by omega
          simp [this]
          exact ih (j + 1) (by omega)
      exact this l (k + 1) (by omega)
    | succ n =>
      rw [List.filter_cons]
      have : ¬ (k = n + 1 + k) := by omega
      simp [this]
      have e := erase_of_filter n l (k + 1)
      rw [← e]
      refine congrArg _ (List.filter_congr fun q _ => ?_)
      have : (q.2 = n + 1 + k) ↔ (q.2 = n + (k + 1)) := by omega
      simp [this]
theorem s_without_by (p : Int) (ms : List M3) (i : Int) (h : 0 ≤ i) (hl : ms.length ≤ 100) : runP g_without_by fuW 4 2 c_without_by [wD p ms, .tuple [.int i]] = some (wD p (ms.eraseIdx i.toNat)) := by
  refine (runP_eq rfl).trans ?_
  have hs : shp (.tuple [.int i]) = true := by simp [shp, SeqAt.shaped, PyData.canLay0, PyData.canLayAll0, PyData.depth, PyData.depthAll]
  have hl2 : ms.length ≤ 100000 := by omega
  have e := compGo_pure (ρ0 := [.val (wD p ms), .val (.tuple [.int i]), .emp, .emp]) (vs := [2, 3]) (asg := Cor.asgT (.tp [2, 3])) (fc := evT g_without_by (.tval (.cmp .NotIn (.var 2) (.var 1)))) (fe := eltA g_without_by (.var 3)) (enc := fun q : M3 × Nat => .tuple [.int (q.2 : Nat), mD q.1])
    (fun q => !decide (q.2 = i.toNat)) (fun q => mD q.1) (xs := ms.zipIdx) (fun q hq acc => by
      have hi : ((q.2 : Int) = i) ↔ q.2 = i.toNat := by omega
      have hi2 : (i = (q.2 : Int)) ↔ q.2 = i.toNat := by omega
      by_cases c : q.2 = i.toNat
      · simp [compT_m, entR, outP, outK, outM, outX, outR, frz1, sl0, contL, look, cont, frz, preA, putA, stoA, storeS, ownR, lisR, backR, wipeR, freeR, plainSl, noEmp, Cor.asgT, setNames, eltA_m, inn2_m, biS, cmpS, binS, idxS, sliS, truS, truD, datS, seqS, keyD, dKey, negS, eqS, inS, ltS, leS, gtS, geS, isN, isS, lenB, tupB, lstB, absB, intB, divB, isiB, isiD, allB, anyB, sumB, minB, maxB, storeS, ixN, atD, intsD, leastI, mostI, sm, smS, small64, hs, hi, hi2, c]
        omega
      · simp [compT_m, entR, outP, outK, outM, outX, outR, frz1, sl0, contL, look, cont, frz, preA, putA, stoA, storeS, ownR, lisR, backR, wipeR, freeR, plainSl, noEmp, Cor.asgT, setNames, eltA_m, inn2_m, biS, cmpS, binS, idxS, sliS, truS, truD, datS, seqS, keyD, dKey, negS, eqS, inS, ltS, leS, gtS, geS, isN, isS, lenB, tupB, lstB, absB, intB, divB, isiB, isiD, allB, anyB, sumB, minB, maxB, storeS, ixN, atD, intsD, leastI, mostI, sm, smS, small64, hs, hi, hi2, c]) []
  unfold wD at e
  have e2 := erase_of_filter i.toNat ms 0
  rw [Nat.add_zero] at e2
  have e3 : ((ms.zipIdx.filter fun q => !decide (q.2 = i.toNat)).map fun q => mD q.1) = (ms.eraseIdx i.toNat).map mD := by rw [← e2, List.map_map]; rfl
  rw [e3, List.nil_append] at e
  simp [entR, outP, outK, outM, outX, outR, frz1, sl0, contL, look, cont, frz, preA, putA, stoA, storeS, ownR, lisR, backR, wipeR, freeR, plainSl, noEmp, Cor.asgT, setNames, eltA_m, inn2_m, biS, cmpS, binS, idxS, sliS, truS, truD, datS, seqS, keyD, dKey, negS, eqS, inS, ltS, leS, gtS, geS, isN, isS, lenB, tupB, lstB, absB, intB, divB, isiB, isiD, allB, anyB, sumB, minB, maxB, storeS, ixN, atD, intsD, leastI, mostI, sm, smS, small64, c_without_by, wD, enuD_mD, hl2, e]
theorem s_web_behind (p : Int) (ms : List M3) (d : Dd) (h : d.ok p) (hl : ms.length ≤ 50) (hr : reasonL ms d = none) : runP g_web_behind fuW 3 2 c_web_behind [wD p ms, dD d] = some (wD p (afterL ms d)) := by
  refine (runP_eq rfl).trans ?_
  have hl2 : ms.length ≤ 100000 := by omega
  cases d with
  | meet t a b =>
    have e := s_meeting_meet p ms t a b
    have e2 := s_made_web p (ms ++ [trip t a b]) (by simp; omega)
    simp only [List.map_append, List.map_cons, List.map_nil] at e2
    unfold wD dD at e
    unfold wD at e2
    have hl3 : ms.length ≤ 99999 := by omega
    simp [entR, outP, outK, outM, outX, outR, frz1, sl0, contL, look, cont, frz, preA, putA, stoA, storeS, ownR, lisR, backR, wipeR, freeR, plainSl, noEmp, Cor.asgT, setNames, eltA_m, inn2_m, biS, cmpS, binS, idxS, sliS, truS, truD, datS, seqS, keyD, dKey, negS, eqS, inS, ltS, leS, gtS, geS, isN, isS, lenB, tupB, lstB, absB, intB, divB, isiB, isiD, allB, anyB, sumB, minB, maxB, storeS, ixN, atD, intsD, leastI, mostI, sm, smS, small64, c_web_behind, wD, dD, e, e2, afterL, hl3]
  | strike i =>
    have e := s_without_by p ms i h (by omega)
    unfold wD at e
    simp [entR, outP, outK, outM, outX, outR, frz1, sl0, contL, look, cont, frz, preA, putA, stoA, storeS, ownR, lisR, backR, wipeR, freeR, plainSl, noEmp, Cor.asgT, setNames, eltA_m, inn2_m, biS, cmpS, binS, idxS, sliS, truS, truD, datS, seqS, keyD, dKey, negS, eqS, inS, ltS, leS, gtS, geS, isN, isS, lenB, tupB, lstB, absB, intB, divB, isiB, isiD, allB, anyB, sumB, minB, maxB, storeS, ixN, atD, intsD, leastI, mostI, sm, smS, small64, c_web_behind, wD, dD, e, afterL]
  | move i t =>
    have h0 : 0 ≤ i := h.1
    have c1 : i < ms.length := by
      unfold reasonL at hr
      by_cases c : i < ms.length
      · exact c
      · simp [c] at hr
    have e := s_without_by p ms i h0 (by omega)
    have e1 := s_meeting_move p ms i t h0 c1
    have el : (ms.eraseIdx i.toNat).length ≤ 50 := Nat.le_trans (List.length_eraseIdx_le _ _) hl
    have e2 := s_made_web p (ms.eraseIdx i.toNat ++ [(t, (atM ms i).2)]) (by simp; omega)
    simp only [List.map_append, List.map_cons, List.map_nil] at e2
    unfold wD dD at e1
    unfold wD at e e2
    have hl3 : (ms.eraseIdx i.toNat).length ≤ 99999 := by omega
    simp [entR, outP, outK, outM, outX, outR, frz1, sl0, contL, look, cont, frz, preA, putA, stoA, storeS, ownR, lisR, backR, wipeR, freeR, plainSl, noEmp, Cor.asgT, setNames, eltA_m, inn2_m, biS, cmpS, binS, idxS, sliS, truS, truD, datS, seqS, keyD, dKey, negS, eqS, inS, ltS, leS, gtS, geS, isN, isS, lenB, tupB, lstB, absB, intB, divB, isiB, isiD, allB, anyB, sumB, minB, maxB, storeS, ixN, atD, intsD, leastI, mostI, sm, smS, small64, c_web_behind, wD, dD, e, e1, e2, afterL, hl3]
/-! ### a book -/
def bkS (p : Int) (s : Bool) (ms : List M3) (ds : List Dd) (past : List PyData) : Sl := .bk [.int p, kD s, wD p ms, .tuple (ds.map dD)] past
def exB' (z : Str) : Exn := ⟨"Barred", "reason", .str z⟩
theorem check_ok (p : Int) (ms : List M3) (d : Dd) (h : d.ok p) : x_check_deed [wD p ms, dD d] = some (.ok .none) := by
  cases d with
  | meet t a b =>
    obtain ⟨h1, h2, h3, h4, h5, h6, h7⟩ := h
    have := s_check_deed_meet p [.tuple (ms.map mD)] (.int t) (.int a) (.int b)
    have e : meetErr p (.int t) (.int a) (.int b) = none := by
      unfold meetErr
      have : ¬ b = a := fun z => h7 z.symm
      have k1 : a ≤ p - 1 := by omega
      have k2 : b ≤ p - 1 := by omega
      simp [betw_is, h1, h2, h3, h5, this, k1, k2]
    rw [e] at this
    exact this
  | strike i =>
    have := s_check_deed_strike (wD p ms) (.int i)
    have e : num0 (.int i) = true := decide_eq_true h
    rw [e] at this
    exact this
  | move i t =>
    have := s_check_deed_move (wD p ms) (.int i) (.int t)
    have e : num0 (.int i) = true := decide_eq_true h.1
    have e2 : betw 1 20 (.int t) = true := by simp [betw_is, h.2.1, h.2.2]
    rw [e, e2] at this
    exact this
theorem s_do (p : Int) (s : Bool) (ms : List M3) (ds : List Dd) (past : List PyData) (d : Dd) (h : d.ok p) (hl : ms.length ≤ 50) (hd : ds.length ≤ 1000) (hp : past.length ≤ 1000) :
    x_Book_do (bkS p s ms ds past) [dD d] = some (match reasonL ms d with
      | none => (.ok .none, bkS p s (afterL ms d) (ds ++ [d]) (past ++ [wD p ms]))
      | some z => (.error (exB' z), bkS p s ms ds past)) := by
  unfold x_Book_do bkS
  refine (runR_eq rfl).trans ?_
  have e1 := check_ok p ms d h
  have e2 := s_reason_against p ms d h
  have hd2 : ds.length ≤ 100000 := by omega
  have hp2 : past.length ≤ 100000 := by omega
  cases hr : reasonL ms d with
  | none =>
    have e3 := s_web_behind p ms d h hl hr
    simp [entR, outP, outK, outM, outX, outR, frz1, sl0, contL, look, cont, frz, preA, putA, stoA, storeS, ownR, lisR, backR, wipeR, freeR, plainSl, noEmp, Cor.asgT, setNames, eltA_m, inn2_m, biS, cmpS, binS, idxS, sliS, truS, truD, datS, seqS, keyD, dKey, negS, eqS, inS, ltS, leS, gtS, geS, isN, isS, lenB, tupB, lstB, absB, intB, divB, isiB, isiD, allB, anyB, sumB, minB, maxB, storeS, ixN, atD, intsD, leastI, mostI, sm, smS, small64, c_Book_do, e1, e2, e3, hr, optS, hd2, hp2]
  | some z => simp [entR, outP, outK, outM, outX, outR, frz1, sl0, contL, look, cont, frz, preA, putA, stoA, storeS, ownR, lisR, backR, wipeR, freeR, plainSl, noEmp, Cor.asgT, setNames, eltA_m, inn2_m, biS, cmpS, binS, idxS, sliS, truS, truD, datS, seqS, keyD, dKey, negS, eqS, inS, ltS, leS, gtS, geS, isN, isS, lenB, tupB, lstB, absB, intB, divB, isiB, isiD, allB, anyB, sumB, minB, maxB, storeS, ixN, atD, intsD, leastI, mostI, sm, smS, small64, c_Book_do, e1, e2, hr, optS, exB']
/-- a deed of another form: raised, and nothing has changed -/
theorem s_do_bad (p : Int) (s : Bool) (ms : List M3) (ds : List Dd) (past : List PyData) (v : PyData) (i : Int) (h : x_check_deed [wD p ms, v] = some (.error (exD i))) :
    x_Book_do (bkS p s ms ds past) [v] = some (.error (exD i), bkS p s ms ds past) := by
  unfold x_Book_do bkS
  refine (runR_eq rfl).trans ?_
  simp [entR, outP, outK, outM, outX, outR, frz1, sl0, contL, look, cont, frz, preA, putA, stoA, storeS, ownR, lisR, backR, wipeR, freeR, plainSl, noEmp, Cor.asgT, setNames, eltA_m, inn2_m, biS, cmpS, binS, idxS, sliS, truS, truD, datS, seqS, keyD, dKey, negS, eqS, inS, ltS, leS, gtS, geS, isN, isS, lenB, tupB, lstB, absB, intB, divB, isiB, isiD, allB, anyB, sumB, minB, maxB, storeS, ixN, atD, intsD, leastI, mostI, sm, smS, small64, c_Book_do, h]
end Cor
set_option Elab.async false
set_option linter.all false
set_option maxRecDepth 100000
set_option maxHeartbeats 4000000
/-! P9: who is come to at one time. -/
namespace Cor
open PySem PySem.Spec PyProof.Rows L2
def iL (l : List Int) : List PyData := l.map .int
@[simp] theorem iL_len (l : List Int) : (iL l).length = l.length := by simp [iL]
@[simp] theorem intsD_iL : ∀ l : List Int, intsD (iL l) = some l
  | [] => rfl
  | i :: r => by
    have := intsD_iL r
    unfold iL at this
    simp [iL, intsD, this]
@[simp] theorem shp_iL (l : List Int) : shp (.list (iL l)) = true := shp_lstA fun d hd => by
  obtain ⟨a, _, rfl⟩ := List.mem_map.mp hd
  simp [PyData.canLay0, PyData.depth]
@[simp] theorem shp_iT (l : List Int) : shp (.tuple (iL l)) = true := shp_tupA fun d hd => by
  obtain ⟨a, _, rfl⟩ := List.mem_map.mp hd
  simp [PyData.canLay0, PyData.depth]
@[simp] theorem any_iL (l : List Int) (i : Int) : ((iL l).any fun e => PyData.eqv e (.int i)) = decide (i ∈ l) := by
  rw [Bool.eq_iff_iff]
  simp [iL]
theorem iL_app (a b : List Int) : iL a ++ iL b = iL (a ++ b) := by simp [iL]
/-- new ones by one turn -/
def turnF (pairs : List (Int × Int)) (base found : List Int) : List Int :=
  (uniqI ((pairs.filter fun q => decide (q.1 ∈ base)).map (·.2) ++ (pairs.filter fun q => decide (q.2 ∈ base)).map (·.1))).filter fun x => !decide (x ∈ found)
theorem insU_len (i : Int) : ∀ l : List Int, (insU i l).length ≤ l.length + 1
  | [] => by simp [insU]
  | j :: r => by
    unfold insU
    split
    · simp
    · split
      · simp
      · have := insU_len i r
        simp; omega
theorem uniqI_len : ∀ l : List Int, (uniqI l).length ≤ l.length
  | [] => by simp [uniqI]
  | i :: r => by
    have e : uniqI (i :: r) = insU i (uniqI r) := rfl
    rw [e]
    have := insU_len i (uniqI r)
    have := uniqI_len r
    simp; omega
theorem insU_mem (i x : Int) : ∀ l : List Int, x ∈ insU i l ↔ x = i ∨ x ∈ l
  | [] => by simp [insU]
  | j :: r => by
    unfold insU
    split
    · simp
    · split
      · rename_i h; subst h; simp
      · have := insU_mem i x r
        simp [this]
        constructor
        · rintro (h | h | h) <;> simp [h]
        · rintro (h | h | h) <;> simp [h]
theorem uniqI_mem (x : Int) : ∀ l : List Int, x ∈ uniqI l ↔ x ∈ l
  | [] => by simp [uniqI]
  | i :: r => by
    have e : uniqI (i :: r) = insU i (uniqI r) := rfl
    rw [e, insU_mem, uniqI_mem x r]; simp
theorem insU_sorted (i : Int) : ∀ l : List Int, l.Pairwise (· < ·) → (insU i l).Pairwise (· < ·)
  | [], _ => by simp [insU]
  | j :: r, h => by
    rw [List.pairwise_cons] at h
    unfold insU
    split
    · rename_i hij
      rw [List.pairwise_cons]
      refine ⟨fun y hy => ?_, List.pairwise_cons.mpr h⟩
      rcases List.mem_cons.mp hy with e | e
      · omega
      · have := h.1 y e; omega
    · split
      · exact List.pairwise_cons.mpr h
      · rw [List.pairwise_cons]
        refine ⟨fun y hy => ?_, insU_sorted i r h.2⟩
        rcases (insU_mem i y r).mp hy with e | e
        · omega
        · exact h.1 y e
theorem uniqI_sorted : ∀ l : List Int, (uniqI l).Pairwise (· < ·)
  | [] => by simp [uniqI]
  | i :: r => insU_sorted i _ (uniqI_sorted r)
theorem turnF_mem (pairs : List (Int × Int)) (base found : List Int) (x : Int) : x ∈ turnF pairs base found ↔ x ∉ found ∧ ∃ y ∈ base, (y, x) ∈ pairs ∨ (x, y) ∈ pairs := by
  unfold turnF
  rw [List.mem_filter, uniqI_mem]
  simp
  constructor
  · rintro ⟨⟨a, h1, h2⟩ | ⟨b, h1, h2⟩, h3⟩
    · exact ⟨h3, a, h2, .inl h1⟩
    · exact ⟨h3, b, h2, .inr h1⟩
  · rintro ⟨h3, y, h2, h1 | h1⟩
    · exact ⟨.inl ⟨y, h1, h2⟩, h3⟩
    · exact ⟨.inr ⟨y, h1, h2⟩, h3⟩
theorem turnF_nodup (pairs : List (Int × Int)) (base found : List Int) : (turnF pairs base found).Nodup := by
  unfold turnF
  exact List.Pairwise.filter _ ((uniqI_sorted _).imp (fun h => by omega))
theorem turnF_len (pairs : List (Int × Int)) (base found : List Int) : (turnF pairs base found).length ≤ 2 * pairs.length := by
  unfold turnF
  refine Nat.le_trans (List.length_filter_le _ _) (Nat.le_trans (uniqI_len _) ?_)
  have a := List.length_filter_le (fun q : Int × Int => decide (q.1 ∈ base)) pairs
  have b := List.length_filter_le (fun q : Int × Int => decide (q.2 ∈ base)) pairs
  simp; omega
/-- a list or a list for good -/
def LsS (s : Sl) (l : List Int) : Prop := s = .lst (iL l) ∨ s = .val (.list (iL l))
def pL (l : List (Int × Int)) : PyData := .list (l.map pD)
theorem prsD_comp (ρ0 : Rho) (e8 : ρ0[8]? = some .emp) (e9 : ρ0[9]? = some .emp) (hl : ρ0.length = 10) (base : List Int) (s5 : Sl) (h5 : ρ0[5]? = some s5) (hs : LsS s5 base) (pairs : List (Int × Int)) :
    compGo ρ0 [8, 9] (Cor.asgT (.tp [8, 9])) (evT g_led_at (.tval (.cmp .In (.var 8) (.var 5)))) (eltA g_led_at (.var 9)) (pairs.map pD) [] ρ0 = some (iL ((pairs.filter fun q => decide (q.1 ∈ base)).map (·.2)), ρ0) := by
  obtain ⟨r0, r1, r2, r3, r4, r5, r6, r7, r8, r9, rfl⟩ : ∃ r0 r1 r2 r3 r4 r5 r6 r7 r8 r9, ρ0 = [r0, r1, r2, r3, r4, r5, r6, r7, r8, r9] := by
    match ρ0, hl with
    | [a, b, c, d, e, f, g, h, i, j], _ => exact ⟨a, b, c, d, e, f, g, h, i, j, rfl⟩
  simp at e8 e9 h5
  subst e8 e9 h5
  have e := compGo_pure (ρ0 := [r0, r1, r2, r3, r4, r5, r6, r7, .emp, .emp]) (vs := [8, 9]) (asg := Cor.asgT (.tp [8, 9])) (fc := evT g_led_at (.tval (.cmp .In (.var 8) (.var 5)))) (fe := eltA g_led_at (.var 9)) (enc := pD)
    (fun q => decide (q.1 ∈ base)) (fun q => .int q.2) (xs := pairs) (fun q hq acc => by
      rcases hs with rfl | rfl <;> by_cases c : q.1 ∈ base <;> simp [compT_m, entR, outP, outK, outM, outX, outR, frz1, sl0, contL, look, cont, frz, preA, putA, stoA, storeS, ownR, lisR, backR, wipeR, freeR, plainSl, noEmp, Cor.asgT, setNames, eltA_m, inn2_m, biS, cmpS, binS, idxS, sliS, truS, truD, datS, seqS, keyD, dKey, negS, eqS, inS, ltS, leS, gtS, geS, isN, isS, lenB, tupB, lstB, absB, intB, divB, isiB, isiD, allB, anyB, sumB, minB, maxB, storeS, ixN, atD, intsD, leastI, mostI, sm, smS, small64, pD, c]) []
  rw [e]
  simp [iL, List.map_map]
theorem prsD_comp2 (ρ0 : Rho) (e8 : ρ0[8]? = some .emp) (e9 : ρ0[9]? = some .emp) (hl : ρ0.length = 10) (base : List Int) (s5 : Sl) (h5 : ρ0[5]? = some s5) (hs : LsS s5 base) (pairs : List (Int × Int)) :
    compGo ρ0 [8, 9] (Cor.asgT (.tp [8, 9])) (evT g_led_at (.tval (.cmp .In (.var 9) (.var 5)))) (eltA g_led_at (.var 8)) (pairs.map pD) [] ρ0 = some (iL ((pairs.filter fun q => decide (q.2 ∈ base)).map (·.1)), ρ0) := by
  obtain ⟨r0, r1, r2, r3, r4, r5, r6, r7, r8, r9, rfl⟩ : ∃ r0 r1 r2 r3 r4 r5 r6 r7 r8 r9, ρ0 = [r0, r1, r2, r3, r4, r5, r6, r7, r8, r9] := by
    match ρ0, hl with
    | [a, b, c, d, e, f, g, h, i, j], _ => exact ⟨a, b, c, d, e, f, g, h, i, j, rfl⟩
  simp at e8 e9 h5
  subst e8 e9 h5
  have e := compGo_pure (ρ0 := [r0, r1, r2, r3, r4, r5, r6, r7, .emp, .emp]) (vs := [8, 9]) (asg := Cor.asgT (.tp [8, 9])) (fc := evT g_led_at (.tval (.cmp .In (.var 9) (.var 5)))) (fe := eltA g_led_at (.var 8)) (enc := pD)
    (fun q => decide (q.2 ∈ base)) (fun q => .int q.1) (xs := pairs) (fun q hq acc => by
      rcases hs with rfl | rfl <;> by_cases c : q.2 ∈ base <;> simp [compT_m, entR, outP, outK, outM, outX, outR, frz1, sl0, contL, look, cont, frz, preA, putA, stoA, storeS, ownR, lisR, backR, wipeR, freeR, plainSl, noEmp, Cor.asgT, setNames, eltA_m, inn2_m, biS, cmpS, binS, idxS, sliS, truS, truD, datS, seqS, keyD, dKey, negS, eqS, inS, ltS, leS, gtS, geS, isN, isS, lenB, tupB, lstB, absB, intB, divB, isiB, isiD, allB, anyB, sumB, minB, maxB, storeS, ixN, atD, intsD, leastI, mostI, sm, smS, small64, pD, c]) []
  rw [e]
  simp [iL, List.map_map]
theorem fresh_comp (r0 r1 r2 s3 r4 r5 r6 : Sl) (found : List Int) (hs : LsS s3 found) (l : List Int) :
    compGo [r0, r1, r2, s3, r4, r5, r6, .emp, .emp, .emp] [7] (Cor.asgT (.nm 7)) (evT g_led_at (.tval (.cmp .NotIn (.var 7) (.var 3)))) (eltA g_led_at (.var 7)) (iL l) [] [r0, r1, r2, s3, r4, r5, r6, .emp, .emp, .emp] = some (iL (l.filter fun x => !decide (x ∈ found)), [r0, r1, r2, s3, r4, r5, r6, .emp, .emp, .emp]) := by
  have e := compGo_pure (ρ0 := [r0, r1, r2, s3, r4, r5, r6, .emp, .emp, .emp]) (vs := [7]) (asg := Cor.asgT (.nm 7)) (fc := evT g_led_at (.tval (.cmp .NotIn (.var 7) (.var 3)))) (fe := eltA g_led_at (.var 7)) (enc := PyData.int)
    (fun x => !decide (x ∈ found)) PyData.int (xs := l) (fun x hx acc => by
      rcases hs with rfl | rfl <;> by_cases c : x ∈ found <;> simp [compT_m, entR, outP, outK, outM, outX, outR, frz1, sl0, contL, look, cont, frz, preA, putA, stoA, storeS, ownR, lisR, backR, wipeR, freeR, plainSl, noEmp, Cor.asgT, setNames, eltA_m, inn2_m, biS, cmpS, binS, idxS, sliS, truS, truD, datS, seqS, keyD, dKey, negS, eqS, inS, ltS, leS, gtS, geS, isN, isS, lenB, tupB, lstB, absB, intB, divB, isiB, isiD, allB, anyB, sumB, minB, maxB, storeS, ixN, atD, intsD, leastI, mostI, sm, smS, small64, c]) []
  unfold iL
  rw [e]
  simp
def b_led : CB := match c_led_at with
  | .cons _ (.cons _ (.cons (.whl _ b) _)) => b
  | _ => .nil
theorem eqv_nil (l : List Int) : PyData.eqv (.list (iL l)) (.list []) = l.isEmpty := by
  cases l <;> simp [iL, PyData.eqv, PyData.eqvAll]
@[simp] theorem shp_lnil : shp (.list []) = true := by simp [shp, SeqAt.shaped, PyData.canLay0, PyData.canLayAll0, PyData.depth, PyData.depthAll]
@[simp] theorem iL_fold (l : List Int) : l.map PyData.int = iL l := rfl
theorem led_turn (s : Bool) (pairs : List (Int × Int)) (had found : List Int) (s3 s5 s6 : Sl) (hs : LsS s3 found) (hp : pairs.length ≤ 30) (hf : found.length ≤ 1000) :
    exB g_led_at fuW b_led [.val (pL pairs), .val (.list (iL had)), .val (kD s), s3, .val (.bool true), s5, s6, .emp, .emp, .emp] =
      some (.nx [.val (pL pairs), .val (.list (iL had)), .val (kD s), .val (.list (iL (found ++ turnF pairs (if s then had else found) found))), .val (.bool (!(turnF pairs (if s then had else found) found).isEmpty && !s)), (if s then .val (.list (iL had)) else .lst (iL found)), .lst (iL (turnF pairs (if s then had else found) found)), .emp, .emp, .emp]) := by
  have hp2 : pairs.length ≤ 100000 := by omega
  have hf2 : found.length ≤ 100000 := by omega
  obtain ⟨base, hb⟩ : ∃ base, base = if s then had else found := ⟨_, rfl⟩
  rw [← hb]
  obtain ⟨s5', h5⟩ : ∃ s5' : Sl, s5' = if s then .val (.list (iL had)) else .lst (iL found) := ⟨_, rfl⟩
  rw [← h5]
  have hs5 : LsS s5' base := by
    cases s
    · exact .inl (by rw [h5, hb]; rfl)
    · exact .inr (by rw [h5, hb]; rfl)
  have c1 := prsD_comp [.val (pL pairs), .val (.list (iL had)), .val (kD s), s3, .val (.bool true), s5', s6, .emp, .emp, .emp] rfl rfl rfl base _ rfl hs5 pairs
  have c2 := prsD_comp2 [.val (pL pairs), .val (.list (iL had)), .val (kD s), s3, .val (.bool true), s5', s6, .emp, .emp, .emp] rfl rfl rfl base _ rfl hs5 pairs
  have t1 := turnF_len pairs base found
  have t2 : turnF pairs base found = (uniqI ((pairs.filter fun q => decide (q.1 ∈ base)).map (·.2) ++ (pairs.filter fun q => decide (q.2 ∈ base)).map (·.1))).filter fun x => !decide (x ∈ found) := rfl
  have c3 := fresh_comp (.val (pL pairs)) (.val (.list (iL had))) (.val (kD s)) s3 (.val (.bool true)) s5' (.lst (iL ((pairs.filter fun q => decide (q.1 ∈ base)).map (·.2) ++ (pairs.filter fun q => decide (q.2 ∈ base)).map (·.1)))) found hs (uniqI ((pairs.filter fun q => decide (q.1 ∈ base)).map (·.2) ++ (pairs.filter fun q => decide (q.2 ∈ base)).map (·.1)))
  rw [← t2] at c3
  have a1 := List.length_filter_le (fun q : Int × Int => decide (q.1 ∈ base)) pairs
  have a2 := List.length_filter_le (fun q : Int × Int => decide (q.2 ∈ base)) pairs
  have a3 : (pairs.filter fun q => decide (q.1 ∈ base)).length ≤ 100000 := by omega
  have a4 : (pairs.filter fun q => decide (q.2 ∈ base)).length ≤ 100000 := by omega
  have a5 : (pairs.filter fun q => decide (q.1 ∈ base)).length + (pairs.filter fun q => decide (q.2 ∈ base)).length < 64 := by omega
  have a6 : (uniqI ((pairs.filter fun q => decide (q.1 ∈ base)).map (·.2) ++ (pairs.filter fun q => decide (q.2 ∈ base)).map (·.1))).length ≤ 100000 := by
    have := uniqI_len ((pairs.filter fun q => decide (q.1 ∈ base)).map (·.2) ++ (pairs.filter fun q => decide (q.2 ∈ base)).map (·.1))
    simp at this
    omega
  have a7 : (turnF pairs base found).length ≤ 100000 := by omega
  generalize turnF pairs base found = F at *
  have en := eqv_nil F
  cases s with
  | true =>
    simp only [↓reduceIte] at h5
    subst h5
    rcases hs with rfl | rfl <;>
    · simp only [pL, kD, ↓reduceIte] at c1 c2 c3
      cases hF : F.isEmpty <;> simp [b_led, c_led_at, entR, outP, outK, outM, outX, outR, frz1, sl0, contL, look, cont, frz, preA, putA, stoA, storeS, ownR, lisR, backR, wipeR, freeR, plainSl, noEmp, Cor.asgT, setNames, eltA_m, inn2_m, biS, cmpS, binS, idxS, sliS, truS, truD, datS, seqS, keyD, dKey, negS, eqS, inS, ltS, leS, gtS, geS, isN, isS, lenB, tupB, lstB, absB, intB, divB, isiB, isiD, allB, anyB, sumB, minB, maxB, storeS, ixN, atD, intsD, leastI, mostI, sm, smS, small64, pL, kD, c1, c2, c3, hp2, hf2, srtSetB, iL_app, a3, a4, a5, a6, a7, en, hF]
  | false =>
    simp only [↓reduceIte, Bool.false_eq_true] at h5
    subst h5
    rcases hs with rfl | rfl <;>
    · simp only [pL, kD, ↓reduceIte, Bool.false_eq_true] at c1 c2 c3
      cases hF : F.isEmpty <;> simp [b_led, c_led_at, entR, outP, outK, outM, outX, outR, frz1, sl0, contL, look, cont, frz, preA, putA, stoA, storeS, ownR, lisR, backR, wipeR, freeR, plainSl, noEmp, Cor.asgT, setNames, eltA_m, inn2_m, biS, cmpS, binS, idxS, sliS, truS, truD, datS, seqS, keyD, dKey, negS, eqS, inS, ltS, leS, gtS, geS, isN, isS, lenB, tupB, lstB, absB, intB, divB, isiB, isiD, allB, anyB, sumB, minB, maxB, storeS, ixN, atD, intsD, leastI, mostI, sm, smS, small64, pL, kD, c1, c2, c3, hp2, hf2, srtSetB, iL_app, a3, a4, a5, a6, a7, en, hF]
/-! ### closed lots -/
def nbr (pairs : List (Int × Int)) (x y : Int) : Prop := (x, y) ∈ pairs ∨ (y, x) ∈ pairs
inductive Cl (pairs : List (Int × Int)) (R : Int → Prop) : Int → Prop
  | base {x : Int} (h : R x) : Cl pairs R x
  | step {x y : Int} (h : Cl pairs R x) (n : nbr pairs x y) : Cl pairs R y
/-- who has it behind the pairs that meet at one time -/
def nxt (s : Bool) (pairs : List (Int × Int)) (R : Int → Prop) (y : Int) : Prop := if s then R y ∨ ∃ x, R x ∧ nbr pairs x y else Cl pairs R y
theorem nodup_len_le {l U : List Int} (hn : l.Nodup) (h : ∀ x ∈ l, x ∈ U) : l.length ≤ U.length := by
  induction l generalizing U with
  | nil => simp
  | cons x r ih =>
    have hx := h x (by simp)
    have hn' := List.nodup_cons.mp hn
    have := ih (U := U.erase x) hn'.2 (fun y hy => by
      have : y ≠ x := fun e => hn'.1 (e ▸ hy)
      exact (List.mem_erase_of_ne this).mpr (h y (by simp [hy])))
    rw [List.length_erase_of_mem hx] at this
    have : 0 < U.length := List.length_pos_of_mem hx
    simp; omega
theorem app_nodup {a b : List Int} (ha : a.Nodup) (hb : b.Nodup) (h : ∀ x ∈ b, x ∉ a) : (a ++ b).Nodup := by
  rw [List.nodup_append]
  exact ⟨ha, hb, fun x hx y hy e => h y hy (e ▸ hx)⟩
theorem cl_mono {pairs : List (Int × Int)} {R R' : Int → Prop} (h : ∀ x, R x → Cl pairs R' x) {y : Int} (c : Cl pairs R y) : Cl pairs R' y := by
  induction c with
  | base r => exact h _ r
  | step _ n ih => exact .step ih n
/-- the loop of led_at -/
theorem led_loop (s : Bool) (pairs : List (Int × Int)) (had U : List Int) (hp : pairs.length ≤ 30) (hU : U.length ≤ 900) (hPU : ∀ q ∈ pairs, q.1 ∈ U ∧ q.2 ∈ U) (hs0 : s = true → ∀ x, x ∈ had → x ∈ U) :
    ∀ (n : Nat) (found : List Int) (s3 s5 s6 : Sl), LsS s3 found → found.Nodup → (∀ x ∈ found, x ∈ U) → U.length < found.length + n → (s = true → found = had) →
      ∃ r s5' s6', whlGo (evT g_led_at (.tval (.var 4))) (exB g_led_at fuW b_led) (n + 1) [.val (pL pairs), .val (.list (iL had)), .val (kD s), s3, .val (.bool true), s5, s6, .emp, .emp, .emp] = some (.nx [.val (pL pairs), .val (.list (iL had)), .val (kD s), .val (.list (iL r)), .val (.bool false), s5', s6', .emp, .emp, .emp]) ∧ r.Nodup ∧ (∀ y, y ∈ r ↔ nxt s pairs (· ∈ found) y) := by
  intro n
  induction n with
  | zero =>
    intro found s3 s5 s6 hs hn hfU hl _
    have := nodup_len_le hn hfU
    omega
  | succ n ih =>
    intro found s3 s5 s6 hs hn hfU hl hst
    have hfl := nodup_len_le hn hfU
    have tn := led_turn s pairs had found s3 s5 s6 hs hp (by omega)
    have et : evT g_led_at (.tval (.var 4)) [.val (pL pairs), .val (.list (iL had)), .val (kD s), s3, .val (.bool true), s5, s6, .emp, .emp, .emp] = some (true, [.val (pL pairs), .val (.list (iL had)), .val (kD s), s3, .val (.bool true), s5, s6, .emp, .emp, .emp]) := by
      simp [entR, outP, outK, outM, outX, outR, frz1, sl0, contL, look, cont, frz, preA, putA, stoA, storeS, ownR, lisR, backR, wipeR, freeR, plainSl, noEmp, Cor.asgT, setNames, eltA_m, inn2_m, biS, cmpS, binS, idxS, sliS, truS, truD, datS, seqS, keyD, dKey, negS, eqS, inS, ltS, leS, gtS, geS, isN, isS, lenB, tupB, lstB, absB, intB, divB, isiB, isiD, allB, anyB, sumB, minB, maxB, storeS, ixN, atD, intsD, leastI, mostI, sm, smS, small64]
    rw [whlGo, et]
    show ∃ r s5' s6', (exB g_led_at fuW b_led _).bind _ = _ ∧ _
    rw [tn]
    obtain ⟨base, hb⟩ : ∃ base, base = if s then had else found := ⟨_, rfl⟩
    rw [← hb]
    have eb : base = found := by
      cases s with
      | true => rw [hb, hst rfl]; rfl
      | false => rw [hb]; rfl
    rw [eb]
    obtain ⟨F, hF⟩ : ∃ F, F = turnF pairs found found := ⟨_, rfl⟩
    rw [← hF]
    have memF : ∀ x, x ∈ F ↔ x ∉ found ∧ ∃ y ∈ found, nbr pairs y x := fun x => by rw [hF, turnF_mem]; rfl
    have nF : F.Nodup := by rw [hF]; exact turnF_nodup _ _ _
    have nd : (found ++ F).Nodup := app_nodup hn nF fun x hx => ((memF x).mp hx).1
    have sub : ∀ x ∈ found ++ F, x ∈ U := by
      intro x hx
      rcases List.mem_append.mp hx with h | h
      · exact hfU x h
      · obtain ⟨_, y, _, h2 | h2⟩ := (memF x).mp h
        · exact (hPU _ h2).2
        · exact (hPU _ h2).1
    by_cases hstop : (!F.isEmpty && !s) = true
    · -- one turn more
      simp only [Bool.and_eq_true, Bool.not_eq_true'] at hstop
      obtain ⟨h1, h2⟩ := hstop
      subst h2
      rw [h1]
      have lF : 0 < F.length := by
        cases F with
        | nil => cases h1
        | cons _ _ => simp
      obtain ⟨r, s5', s6', e, nr, mr⟩ := ih (found ++ F) (.val (.list (iL (found ++ F)))) (.lst (iL found)) (.lst (iL F)) (.inr rfl) nd sub (by rw [List.length_append]; omega) (fun z => nomatch z)
      refine ⟨r, s5', s6', e, nr, fun y => (mr y).trans ?_⟩
      show Cl pairs (· ∈ found ++ F) y ↔ Cl pairs (· ∈ found) y
      constructor
      · refine cl_mono fun x hx => ?_
        rcases List.mem_append.mp hx with h | h
        · exact .base h
        · obtain ⟨_, z, hz, hn⟩ := (memF x).mp h
          exact .step (.base hz) hn
      · exact cl_mono fun x hx => .base (List.mem_append.mpr (.inl hx))
    · -- the end
      have h0 : (!F.isEmpty && !s) = false := by simpa using hstop
      rw [h0]
      have ef : evT g_led_at (.tval (.var 4)) [.val (pL pairs), .val (.list (iL had)), .val (kD s), .val (.list (iL (found ++ F))), .val (.bool false), (if s then .val (.list (iL had)) else .lst (iL found)), .lst (iL F), .emp, .emp, .emp] = some (false, [.val (pL pairs), .val (.list (iL had)), .val (kD s), .val (.list (iL (found ++ F))), .val (.bool false), (if s then .val (.list (iL had)) else .lst (iL found)), .lst (iL F), .emp, .emp, .emp]) := by
        simp [entR, outP, outK, outM, outX, outR, frz1, sl0, contL, look, cont, frz, preA, putA, stoA, storeS, ownR, lisR, backR, wipeR, freeR, plainSl, noEmp, Cor.asgT, setNames, eltA_m, inn2_m, biS, cmpS, binS, idxS, sliS, truS, truD, datS, seqS, keyD, dKey, negS, eqS, inS, ltS, leS, gtS, geS, isN, isS, lenB, tupB, lstB, absB, intB, divB, isiB, isiD, allB, anyB, sumB, minB, maxB, storeS, ixN, atD, intsD, leastI, mostI, sm, smS, small64]
      refine ⟨found ++ F, (if s then .val (.list (iL had)) else .lst (iL found)), .lst (iL F), ?_, nd, fun y => ?_⟩
      · refine Eq.trans (b := whlGo (evT g_led_at (.tval (.var 4))) (exB g_led_at fuW b_led) (n + 1) [.val (pL pairs), .val (.list (iL had)), .val (kD s), .val (.list (iL (found ++ F))), .val (.bool false), (if s then .val (.list (iL had)) else .lst (iL found)), .lst (iL F), .emp, .emp, .emp]) rfl ?_
        rw [whlGo, ef]; rfl
      · rw [List.mem_append, memF]
        unfold nxt
        cases s with
        | true =>
          simp only [↓reduceIte]
          constructor
          · rintro (h | ⟨_, z, hz, hn⟩)
            · exact .inl h
            · exact .inr ⟨z, hz, hn⟩
          · rintro (h | ⟨z, hz, hn⟩)
            · exact .inl h
            · by_cases q : y ∈ found
              · exact .inl q
              · exact .inr ⟨q, z, hz, hn⟩
        | false =>
          simp only [Bool.false_eq_true, ↓reduceIte]
          have hFe : F = [] := by
            cases F with
            | nil => rfl
            | cons _ _ => simp at h0
          constructor
          · rintro (h | ⟨_, z, hz, hn⟩)
            · exact .base h
            · exact .step (.base hz) hn
          · intro c
            have : y ∈ found := by
              induction c with
              | base h => exact h
              | step _ hn ih2 =>
                rename_i x y _
                by_cases q : y ∈ found
                · exact q
                · have := (memF y).mpr ⟨q, x, ih2, hn⟩
                  rw [hFe] at this
                  cases this
            exact .inl this
theorem s_led_at (s : Bool) (pairs : List (Int × Int)) (had U : List Int) (hp : pairs.length ≤ 30) (hU : U.length ≤ 900) (hPU : ∀ q ∈ pairs, q.1 ∈ U ∧ q.2 ∈ U) (hn : had.Nodup) (hh : ∀ x ∈ had, x ∈ U) :
    ∃ r, runP g_led_at fuW 10 3 c_led_at [pL pairs, .list (iL had), kD s] = some (.list (iL r)) ∧ r.Nodup ∧ (∀ y, y ∈ r ↔ nxt s pairs (· ∈ had) y) := by
  obtain ⟨r, s5', s6', e, h1, h2⟩ := led_loop s pairs had U hp hU hPU (fun _ x hx => hh x hx) 999 had (.lst (iL had)) .emp .emp (.inl rfl) hn hh (by omega) (fun _ => rfl)
  refine ⟨r, ?_, h1, h2⟩
  refine (runP_eq rfl).trans ?_
  unfold b_led at e
  have e' : ex g_led_at fuW (.whl (.tval (.var 4)) (match c_led_at with | .cons _ (.cons _ (.cons (.whl _ b) _)) => b | _ => .nil)) [.val (pL pairs), .val (.list (iL had)), .val (kD s), .lst (iL had), .val (.bool true), .emp, .emp, .emp, .emp, .emp] = some (.nx [.val (pL pairs), .val (.list (iL had)), .val (kD s), .val (.list (iL r)), .val (.bool false), s5', s6', .emp, .emp, .emp]) := by
    rw [ex_whl]; exact e
  simp only [c_led_at] at e'
  simp [entR, outP, outK, outM, outX, outR, frz1, sl0, contL, look, cont, frz, preA, putA, stoA, storeS, ownR, lisR, backR, wipeR, freeR, plainSl, noEmp, Cor.asgT, setNames, eltA_m, inn2_m, biS, cmpS, binS, idxS, sliS, truS, truD, datS, seqS, keyD, dKey, negS, eqS, inS, ltS, leS, gtS, geS, isN, isS, lenB, tupB, lstB, absB, intB, divB, isiB, isiD, allB, anyB, sumB, minB, maxB, storeS, ixN, atD, intsD, leastI, mostI, sm, smS, small64, c_led_at, e']
end Cor
set_option Elab.async false
set_option linter.all false
set_option maxRecDepth 100000
set_option maxHeartbeats 4000000
/-! P10: who is come to. -/
namespace Cor
open PySem PySem.Spec PyProof.Rows L2
structure WebOk (p : Int) (ms : List M3) : Prop where
  p2 : 2 ≤ p
  p6 : p ≤ 6
  len : ms.length ≤ 12
  ok : ∀ m ∈ ms, 1 ≤ m.1 ∧ m.1 ≤ 20 ∧ 0 ≤ m.2.1 ∧ m.2.1 < m.2.2 ∧ m.2.2 < p
def plc (p : Int) : List Int := (List.range p.toNat).map fun (i : Nat) => (i : Int)
theorem plc_mem (p x : Int) : x ∈ plc p ↔ 0 ≤ x ∧ x < p := by
  unfold plc
  rw [List.mem_map]
  constructor
  · rintro ⟨i, h, rfl⟩
    have := List.mem_range.mp h
    omega
  · rintro ⟨h1, h2⟩
    exact ⟨x.toNat, List.mem_range.mpr (by omega), by omega⟩
theorem plc_len (p : Int) : (plc p).length = p.toNat := by simp [plc]
def prs (ms : List M3) (now : Int) : List (Int × Int) := (ms.filter fun m => decide (m.1 = now)).map (·.2)
/-- who has it behind n times from the time on -/
def At (s : Bool) (ms : List M3) (start time : Int) : Nat → Int → Prop
  | 0 => fun x => x = start
  | n + 1 => nxt s (prs ms (time + n)) (At s ms start time n)
theorem nxt_mono {s : Bool} {pairs : List (Int × Int)} {R : Int → Prop} {x : Int} (h : R x) : nxt s pairs R x := by
  unfold nxt
  split
  · exact .inl h
  · exact .base h
theorem nxt_congr {s : Bool} {pairs : List (Int × Int)} {R R' : Int → Prop} (h : ∀ x, R x ↔ R' x) (y : Int) : nxt s pairs R y ↔ nxt s pairs R' y := by
  have : R = R' := funext fun x => propext (h x)
  rw [this]
def dK (l : List (Int × Int)) : List (Key × PyData) := l.map fun q => (.inl q.1, .int q.2)
@[simp] theorem keysD_dK (l : List (Int × Int)) : keysD (dK l) = iL (l.map (·.1)) := by simp [keysD, dK, iL, List.map_map, dKey]
@[simp] theorem dK_len (l : List (Int × Int)) : (dK l).length = l.length := by simp [dK]
@[simp] theorem valD_some (l : List (Int × Int)) (x : Int) : (valD (dK l) (.inl x)).isSome = decide (x ∈ l.map (·.1)) := by
  unfold valD dK
  rw [Bool.eq_iff_iff]
  simp [List.find?_isSome]
theorem putD_new (l : List (Int × Int)) (x t : Int) (h : x ∉ l.map (·.1)) : putD (dK l) (.inl x) (.int t) = dK (l ++ [(x, t)]) := by
  unfold putD
  have : ((dK l).any fun kv => decide (kv.1 = .inl x)) = false := by
    rw [List.any_eq_false]
    intro kv hkv
    unfold dK at hkv
    obtain ⟨q, hq, rfl⟩ := List.mem_map.mp hkv
    simp
    intro e
    exact h (List.mem_map.mpr ⟨q, hq, e⟩)
  rw [this]
  simp [dK]
/-- a turn of the inner loop -/
def putN (now : Int) (l : List (Int × Int)) (x : Int) : List (Int × Int) := if x ∈ l.map (·.1) then l else l ++ [(x, now)]
def b_arr : CB := match c_arrivals_by with
  | .cons _ (.cons (.frl _ _ (.cons _ (.cons (.frl _ _ b) _))) _) => b
  | _ => .nil
theorem arr_inner (w k st tm s6 : Sl) (now : Int) (r : List Int) : ∀ (l : List (Int × Int)) (s7 : Sl), l.length + r.length ≤ 1000 →
    ∃ s7', forGo (Cor.asgT (.nm 7)) (exB g_arrivals_by fuW b_arr) (iL r) [w, k, st, tm, .dct (dK l), .val (.int now), s6, s7, .emp] = some (.nx [w, k, st, tm, .dct (dK (r.foldl (putN now) l)), .val (.int now), s6, s7', .emp]) := by
  induction r with
  | nil => intro l s7 _; exact ⟨s7, rfl⟩
  | cons x r ih =>
    intro l s7 hl
    have hl2 : l.length ≤ 100000 := by simp at hl; omega
    have e : (Cor.asgT (.nm 7) (.int x) [w, k, st, tm, .dct (dK l), .val (.int now), s6, s7, .emp]).bind (exB g_arrivals_by fuW b_arr) = some (.nx [w, k, st, tm, .dct (dK (putN now l x)), .val (.int now), s6, .val (.int x), .emp]) := by
      by_cases c : x ∈ l.map (·.1)
      · have c' := c
        simp only [List.mem_map] at c'
        simp [entR, outP, outK, outM, outX, outR, frz1, sl0, contL, look, cont, frz, preA, putA, stoA, storeS, ownR, lisR, backR, wipeR, freeR, plainSl, noEmp, Cor.asgT, setNames, eltA_m, inn2_m, biS, cmpS, binS, idxS, sliS, truS, truD, datS, seqS, keyD, dKey, negS, eqS, inS, ltS, leS, gtS, geS, isN, isS, lenB, tupB, lstB, absB, intB, divB, isiB, isiD, allB, anyB, sumB, minB, maxB, storeS, ixN, atD, intsD, leastI, mostI, sm, smS, small64, b_arr, c_arrivals_by, putN, c']
      · have c' := c
        simp only [List.mem_map] at c'
        simp [entR, outP, outK, outM, outX, outR, frz1, sl0, contL, look, cont, frz, preA, putA, stoA, storeS, ownR, lisR, backR, wipeR, freeR, plainSl, noEmp, Cor.asgT, setNames, eltA_m, inn2_m, biS, cmpS, binS, idxS, sliS, truS, truD, datS, seqS, keyD, dKey, negS, eqS, inS, ltS, leS, gtS, geS, isN, isS, lenB, tupB, lstB, absB, intB, divB, isiB, isiD, allB, anyB, sumB, minB, maxB, storeS, ixN, atD, intsD, leastI, mostI, sm, smS, small64, b_arr, c_arrivals_by, putN, c', putD_new l x now c, hl2]
    obtain ⟨s7', e2⟩ := ih (putN now l x) (.val (.int x)) (by
      unfold putN; split <;> simp at hl ⊢ <;> omega)
    refine ⟨s7', ?_⟩
    have e3 : iL (x :: r) = .int x :: iL r := rfl
    rw [e3, forGo_step e, e2]
    rfl
theorem foldN_keys (now : Int) (x : Int) : ∀ (r : List Int) (l : List (Int × Int)), x ∈ (r.foldl (putN now) l).map (·.1) ↔ x ∈ l.map (·.1) ∨ x ∈ r
  | [], l => by simp
  | y :: r, l => by
    rw [List.foldl_cons, foldN_keys now x r]
    unfold putN
    split
    · rename_i h
      constructor
      · rintro (q | q)
        · exact .inl q
        · exact .inr (by simp [q])
      · rintro (q | q)
        · exact .inl q
        · rcases List.mem_cons.mp q with e | e
          · subst e; exact .inl h
          · exact .inr e
    · simp
      constructor
      · rintro ((⟨a, q⟩ | q) | q)
        · exact .inl ⟨a, q⟩
        · exact .inr (.inl q)
        · exact .inr (.inr q)
      · rintro (⟨a, q⟩ | q | q)
        · exact .inl (.inl ⟨a, q⟩)
        · exact .inl (.inr q)
        · exact .inr q
theorem foldN_nodup (now : Int) : ∀ (r : List Int) (l : List (Int × Int)), (l.map (·.1)).Nodup → ((r.foldl (putN now) l).map (·.1)).Nodup
  | [], l, h => h
  | y :: r, l, h => by
    rw [List.foldl_cons]
    refine foldN_nodup now r _ ?_
    unfold putN
    split
    · exact h
    · rename_i hy
      rw [List.map_append]
      exact app_nodup h (by simp) (fun x hx => by simp at hx; subst hx; exact hy)
theorem foldN_vals (now : Int) (q : Int × Int) : ∀ (r : List Int) (l : List (Int × Int)), q ∈ r.foldl (putN now) l → q ∈ l ∨ (q.2 = now ∧ q.1 ∉ l.map (·.1) ∧ q.1 ∈ r)
  | [], l, h => .inl h
  | y :: r, l, h => by
    rw [List.foldl_cons] at h
    rcases foldN_vals now q r _ h with h1 | ⟨h1, h2, h3⟩
    · unfold putN at h1
      split at h1
      · exact .inl h1
      · rename_i hy
        rcases List.mem_append.mp h1 with h2 | h2
        · exact .inl h2
        · simp at h2; subst h2; exact .inr ⟨rfl, hy, by simp⟩
    · refine .inr ⟨h1, fun z => h2 ?_, by simp [h3]⟩
      unfold putN
      split
      · exact z
      · rw [List.map_append]; exact List.mem_append.mpr (.inl z)
structure AOk (s : Bool) (ms : List M3) (start time : Int) (n : Nat) (l : List (Int × Int)) : Prop where
  nd : (l.map (·.1)).Nodup
  mem : ∀ x, x ∈ l.map (·.1) ↔ At s ms start time n x
  val : ∀ q ∈ l, q = (start, time) ∨ ∃ k, k < n ∧ q.2 = time + (k : Nat) ∧ At s ms start time (k + 1) q.1 ∧ ¬ At s ms start time k q.1
theorem prs_in {p : Int} {ms : List M3} (w : WebOk p ms) {now : Int} {q : Int × Int} (h : q ∈ prs ms now) : q.1 ∈ plc p ∧ q.2 ∈ plc p := by
  unfold prs at h
  obtain ⟨m, hm, rfl⟩ := List.mem_map.mp h
  have := w.ok m (List.mem_filter.mp hm).1
  rw [plc_mem, plc_mem]
  omega
theorem nxt_in {p : Int} {ms : List M3} (w : WebOk p ms) {s : Bool} {now : Int} {R : Int → Prop} (hR : ∀ x, R x → x ∈ plc p) {x : Int} (h : nxt s (prs ms now) R x) : x ∈ plc p := by
  have key : ∀ a b, nbr (prs ms now) a b → b ∈ plc p := fun a b hn => by
    rcases hn with hn | hn
    · exact (prs_in w hn).2
    · exact (prs_in w hn).1
  unfold nxt at h
  split at h
  · rcases h with h | ⟨y, _, hn⟩
    · exact hR x h
    · exact key _ _ hn
  · cases h with
    | base h => exact hR x h
    | step _ hn => exact key _ _ hn
theorem at_in {p : Int} {ms : List M3} (w : WebOk p ms) {s : Bool} {start time : Int} (hs : start ∈ plc p) : ∀ (n : Nat) (x : Int), At s ms start time n x → x ∈ plc p
  | 0, x, h => by cases h; exact hs
  | n + 1, x, h => nxt_in w (at_in w hs n) h
theorem prs_len {p : Int} {ms : List M3} (w : WebOk p ms) (now : Int) : (prs ms now).length ≤ 12 := by
  unfold prs
  rw [List.length_map]
  exact Nat.le_trans (List.length_filter_le _ _) w.len
theorem prs_comp (k st tm s4 s6 s7 : Sl) (p : Int) (now : Int) (ms : List M3) :
    compGo [.val (wD p ms), k, st, tm, s4, .val (.int now), s6, s7, .emp] [8] (Cor.asgT (.nm 8)) (evT g_arrivals_by (.tval (.cmp .Eq (.idx (.var 8) (.cst (.int 0))) (.var 5)))) (eltA g_arrivals_by (.cal 0 (.cons false (.var 8) (.nil)))) (ms.map mD) [] [.val (wD p ms), k, st, tm, s4, .val (.int now), s6, s7, .emp] = some ((prs ms now).map pD, [.val (wD p ms), k, st, tm, s4, .val (.int now), s6, s7, .emp]) := by
  have e := compGo_pure (ρ0 := [.val (wD p ms), k, st, tm, s4, .val (.int now), s6, s7, .emp]) (vs := [8]) (asg := Cor.asgT (.nm 8)) (fc := evT g_arrivals_by (.tval (.cmp .Eq (.idx (.var 8) (.cst (.int 0))) (.var 5)))) (fe := eltA g_arrivals_by (.cal 0 (.cons false (.var 8) (.nil)))) (enc := mD)
    (fun m => decide (m.1 = now)) (fun m => pD m.2) (xs := ms) (fun m hm acc => by
      have h1 := s_ends_of m
      unfold mD at h1
      by_cases c : m.1 = now
      · rw [c] at h1
        simp [compT_m, entR, outP, outK, outM, outX, outR, frz1, sl0, contL, look, cont, frz, preA, putA, stoA, storeS, ownR, lisR, backR, wipeR, freeR, plainSl, noEmp, Cor.asgT, setNames, eltA_m, inn2_m, biS, cmpS, binS, idxS, sliS, truS, truD, datS, seqS, keyD, dKey, negS, eqS, inS, ltS, leS, gtS, geS, isN, isS, lenB, tupB, lstB, absB, intB, divB, isiB, isiD, allB, anyB, sumB, minB, maxB, storeS, ixN, atD, intsD, leastI, mostI, sm, smS, small64, mD, h1, c]
      · simp [compT_m, entR, outP, outK, outM, outX, outR, frz1, sl0, contL, look, cont, frz, preA, putA, stoA, storeS, ownR, lisR, backR, wipeR, freeR, plainSl, noEmp, Cor.asgT, setNames, eltA_m, inn2_m, biS, cmpS, binS, idxS, sliS, truS, truD, datS, seqS, keyD, dKey, negS, eqS, inS, ltS, leS, gtS, geS, isN, isS, lenB, tupB, lstB, absB, intB, divB, isiB, isiD, allB, anyB, sumB, minB, maxB, storeS, ixN, atD, intsD, leastI, mostI, sm, smS, small64, mD, h1, c]) []
  rw [e]
  unfold prs
  rw [List.map_map, List.nil_append]
  rfl
theorem rngD_eq (a b : Int) : rngD a b = (List.range (b - a).toNat).map fun (i : Nat) => PyData.int (a + i) := rfl
theorem s_arrivals {p : Int} {ms : List M3} (w : WebOk p ms) (s : Bool) (start time : Int) (hs : start ∈ plc p) (ht : 0 ≤ time) (ht2 : time ≤ 1000) :
    ∃ l, runK g_arrivals_by fuW 9 4 c_arrivals_by [wD p ms, kD s, .int start, .int time] = some (.dct (dK l)) ∧ AOk s ms start time (21 - time).toNat l := by
  have hpl : (plc p).length ≤ 6 := by rw [plc_len]; have := w.p6; omega
  -- the outer loop
  have main : ∃ ρ', forGo (Cor.asgT (.nm 5)) (exB g_arrivals_by fuW (match c_arrivals_by with | .cons _ (.cons (.frl _ _ b) _) => b | _ => .nil)) ((List.range (21 - time).toNat).map fun (i : Nat) => PyData.int (time + i)) [.val (wD p ms), .val (kD s), .val (.int start), .val (.int time), .dct (dK [(start, time)]), .emp, .emp, .emp, .emp] = some (.nx ρ') ∧
      (∃ l s5 s6 s7, ρ' = [.val (wD p ms), .val (kD s), .val (.int start), .val (.int time), .dct (dK l), s5, s6, s7, .emp] ∧ plainSl s6 = true ∧ AOk s ms start time (List.range (21 - time).toNat).length l) := by
    refine forGo_inv (enc := fun (i : Nat) => PyData.int (time + i)) (xs := List.range (21 - time).toNat) (fun pre ρ => ∃ l s5 s6 s7, ρ = [.val (wD p ms), .val (kD s), .val (.int start), .val (.int time), .dct (dK l), s5, s6, s7, .emp] ∧ plainSl s6 = true ∧ AOk s ms start time pre.length l) ?_ ?_
    · rintro pre i post hx ρ ⟨l, s5, s6, s7, rfl, hs6, A⟩
      have hi : i = pre.length := by
        have h1 : (List.range (21 - time).toNat)[pre.length]? = some i := by rw [hx]; simp
        have h2 := List.getElem?_eq_some_iff.mp h1
        obtain ⟨h3, h4⟩ := h2
        simpa using h4.symm
      have keysU : ∀ x ∈ l.map (·.1), x ∈ plc p := fun x hx => at_in w hs _ x ((A.mem x).mp hx)
      have hll : l.length ≤ 6 := by
        have := nodup_len_le A.nd keysU
        rw [List.length_map] at this
        omega
      obtain ⟨r, hr, nr, mr⟩ := s_led_at s (prs ms (time + i)) (l.map (·.1)) (plc p) (by have := prs_len w (time + i); omega) (by omega) (fun q hq => prs_in w hq) A.nd keysU
      have rU : ∀ x ∈ r, x ∈ plc p := fun x hx => nxt_in w (R := (· ∈ l.map (·.1))) keysU ((mr x).mp hx)
      have hrl : r.length ≤ 6 := by
        have := nodup_len_le nr rU
        omega
      have pc := prs_comp (.val (kD s)) (.val (.int start)) (.val (.int time)) (.dct (dK l)) s6 s7 p (time + i) ms
      obtain ⟨s7', ei⟩ := arr_inner (.val (wD p ms)) (.val (kD s)) (.val (.int start)) (.val (.int time)) (.val (pL (prs ms (time + i)))) (time + i) r l s7 (by omega)
      refine ⟨[.val (wD p ms), .val (kD s), .val (.int start), .val (.int time), .dct (dK (r.foldl (putN (time + i)) l)), .val (.int (time + i)), .val (pL (prs ms (time + i))), s7', .emp], ?_, _, _, _, _, rfl, rfl, ?_⟩
      · have hml : ms.length ≤ 100000 := by have := w.len; omega
        unfold b_arr at ei
        simp only [c_arrivals_by] at ei
        unfold wD at pc ei
        unfold pL at hr ei
        simp [entR, outP, outK, outM, outX, outR, frz1, sl0, contL, look, cont, frz, preA, putA, stoA, storeS, ownR, lisR, backR, wipeR, freeR, plainSl, noEmp, Cor.asgT, setNames, eltA_m, inn2_m, biS, cmpS, binS, idxS, sliS, truS, truD, datS, seqS, keyD, dKey, negS, eqS, inS, ltS, leS, gtS, geS, isN, isS, lenB, tupB, lstB, absB, intB, divB, isiB, isiD, allB, anyB, sumB, minB, maxB, storeS, ixN, atD, intsD, leastI, mostI, sm, smS, small64, c_arrivals_by, wD, pc, hml, hr, pL, ei]
      · rw [List.length_append, List.length_singleton]
        have em : ∀ x, x ∈ (r.foldl (putN (time + i)) l).map (·.1) ↔ At s ms start time (pre.length + 1) x := fun x => by
          rw [foldN_keys]
          show _ ↔ nxt s (prs ms (time + (pre.length : Nat))) (At s ms start time pre.length) x
          have Am : ∀ y, At s ms start time i y ↔ y ∈ l.map (·.1) := fun y => by rw [hi]; exact (A.mem y).symm
          rw [← hi, nxt_congr Am x, ← mr x]
          constructor
          · rintro (h | h)
            · exact (mr x).mpr (nxt_mono h)
            · exact h
          · exact .inr
        refine ⟨foldN_nodup _ _ _ A.nd, em, fun q hq => ?_⟩
        rcases foldN_vals (time + i) q r l hq with h | ⟨h1, h2, h3⟩
        · rcases A.val q h with e | ⟨k, h1, h2⟩
          · exact .inl e
          · exact .inr ⟨k, by omega, h2⟩
        · refine .inr ⟨pre.length, by omega, by rw [h1, hi], (em q.1).mp ?_, fun z => h2 ((A.mem _).mpr z)⟩
          rw [foldN_keys]
          exact .inr h3
    · exact ⟨[(start, time)], .emp, .emp, .emp, rfl, rfl, by simp, fun x => by simp [At], fun q hq => .inl (by simpa using hq)⟩
  obtain ⟨ρ', e, l, s5, s6, s7, rfl, _, A⟩ := main
  rw [List.length_range] at A
  refine ⟨l, ?_, A⟩
  refine (runK_eq rfl).trans ?_
  simp only [c_arrivals_by] at e
  have h1 : -100000 < time := by omega
  have h2 : time < 100000 := by omega
  have e0 : dK [(start, time)] = [(.inl start, .int time)] := rfl
  rw [e0] at e
  simp [entR, outP, outK, outM, outX, outR, frz1, sl0, contL, look, cont, frz, preA, putA, stoA, storeS, ownR, lisR, backR, wipeR, freeR, plainSl, noEmp, Cor.asgT, setNames, eltA_m, inn2_m, biS, cmpS, binS, idxS, sliS, truS, truD, datS, seqS, keyD, dKey, negS, eqS, inS, ltS, leS, gtS, geS, isN, isS, lenB, tupB, lstB, absB, intB, divB, isiB, isiD, allB, anyB, sumB, minB, maxB, storeS, ixN, atD, intsD, leastI, mostI, sm, smS, small64, c_arrivals_by, rngD_eq, h1, h2, e]
end Cor
set_option Elab.async false
set_option linter.all false
set_option maxRecDepth 100000
set_option maxHeartbeats 4000000
/-! P11: tables. -/
namespace Cor
open PySem PySem.Spec PyProof.Rows L2
open Classical in
/-- who is come to, ascending -/
noncomputable def comeL (s : Bool) (p : Int) (ms : List M3) (start time : Int) : List Int := (plc p).filter fun x => decide (At s ms start time (21 - time).toNat x)
theorem plc_sorted (p : Int) : (plc p).Pairwise (· < ·) := by
  unfold plc
  rw [List.pairwise_map]
  exact List.pairwise_lt_range.imp (fun h => by omega)
theorem comeL_mem {s : Bool} {p : Int} {ms : List M3} (w : WebOk p ms) {start time x : Int} (hs : start ∈ plc p) : x ∈ comeL s p ms start time ↔ At s ms start time (21 - time).toNat x := by
  unfold comeL
  rw [List.mem_filter]
  simp
  exact fun h => at_in w hs _ x h
theorem comeL_sorted (s : Bool) (p : Int) (ms : List M3) (start time : Int) : (comeL s p ms start time).Pairwise (· < ·) := by
  unfold comeL
  exact (plc_sorted p).filter _
theorem srtD_ints (l : List Int) : srtD (iL l) = iL (l.mergeSort fun a b => decide (a ≤ b)) := by
  unfold srtD iL
  refine (PySem.W.sort_maps PyData.int (fun a _ b _ => ?_)).symm
  show decide (a ≤ b) = (!PySem.W.dataLt (.int b) (.int a))
  rw [PySem.W.dataLt_int, PySem.W.not_lt_int]
theorem sort_the {l m : List Int} (hl : l.Nodup) (hm : m.Pairwise (· < ·)) (h : ∀ x, x ∈ l ↔ x ∈ m) : l.mergeSort (fun a b => decide (a ≤ b)) = m := by
  refine (PySem.W.Srt.the_of_perm (fun a b : Int => decide (a ≤ b)) (fun a b c h1 h2 => ?_) (fun a b => ?_) (fun a b h1 h2 => ?_) ?_ ?_).symm
  · simp at *; omega
  · simp; omega
  · simp at *; omega
  · refine (List.perm_ext_iff_of_nodup (hm.imp fun h => by omega) hl).mpr fun x => (h x).symm
  · exact hm.imp fun h => by simp; omega
theorem s_come_by {p : Int} {ms : List M3} (w : WebOk p ms) (s : Bool) (start time : Int) (hs : start ∈ plc p) (ht : 0 ≤ time) (ht2 : time ≤ 1000) :
    runP g_come_by fuW 4 4 c_come_by [wD p ms, kD s, .int start, .int time] = some (.tuple (iL (comeL s p ms start time))) := by
  obtain ⟨l, e, A⟩ := s_arrivals w s start time hs ht ht2
  refine (runP_eq rfl).trans ?_
  have hl : l.length ≤ 6 := by
    have := nodup_len_le A.nd (U := plc p) (fun x hx => at_in w hs _ x ((A.mem x).mp hx))
    rw [List.length_map, plc_len] at this
    have := w.p6
    omega
  have hl2 : l.length < 64 := by omega
  have es : (l.map (·.1)).mergeSort (fun a b => decide (a ≤ b)) = comeL s p ms start time := sort_the A.nd (comeL_sorted _ _ _ _ _) fun x => (A.mem x).trans (comeL_mem w hs).symm
  simp [entR, outP, outK, outM, outX, outR, frz1, sl0, contL, look, cont, frz, preA, putA, stoA, storeS, ownR, lisR, backR, wipeR, freeR, plainSl, noEmp, Cor.asgT, setNames, eltA_m, inn2_m, biS, cmpS, binS, idxS, sliS, truS, truD, datS, seqS, keyD, dKey, negS, eqS, inS, ltS, leS, gtS, geS, isN, isS, lenB, tupB, lstB, absB, intB, divB, isiB, isiD, allB, anyB, sumB, minB, maxB, storeS, ixN, atD, intsD, leastI, mostI, sm, smS, small64, c_come_by, e, srtB, hl2, srtD_ints, es]
noncomputable def tabL (s : Bool) (p : Int) (ms : List M3) : List (List Int) := (plc p).map fun x => comeL s p ms x 1
noncomputable def tabD (s : Bool) (p : Int) (ms : List M3) : PyData := .tuple ((tabL s p ms).map fun l => .tuple (iL l))
theorem rngD_plc (p : Int) : rngD 0 p = (plc p).map PyData.int := by
  unfold rngD plc
  rw [List.map_map]
  simp only [Int.sub_zero]
  exact List.map_congr_left fun i _ => by simp
theorem s_table_by {p : Int} {ms : List M3} (w : WebOk p ms) (s : Bool) : runP g_table_by fuW 3 2 c_table_by [wD p ms, kD s] = some (tabD s p ms) := by
  refine (runP_eq rfl).trans ?_
  have e := compGo_pure (ρ0 := [.val (wD p ms), .val (kD s), .emp]) (vs := [2]) (asg := Cor.asgT (.nm 2)) (fc := evT g_table_by .yes) (fe := eltA g_table_by (.cal 0 (.cons false (.var 0) (.cons false (.var 1) (.cons false (.var 2) (.cons false (.cst (.int 1)) (.nil))))))) (enc := PyData.int)
    (fun _ => true) (fun x => .tuple (iL (comeL s p ms x 1))) (xs := plc p) (fun x hx acc => by
      have h1 := s_come_by w s x 1 hx (by omega) (by omega)
      simp [compT_m, entR, outP, outK, outM, outX, outR, frz1, sl0, contL, look, cont, frz, preA, putA, stoA, storeS, ownR, lisR, backR, wipeR, freeR, plainSl, noEmp, Cor.asgT, setNames, eltA_m, inn2_m, biS, cmpS, binS, idxS, sliS, truS, truD, datS, seqS, keyD, dKey, negS, eqS, inS, ltS, leS, gtS, geS, isN, isS, lenB, tupB, lstB, absB, intB, divB, isiB, isiD, allB, anyB, sumB, minB, maxB, storeS, ixN, atD, intsD, leastI, mostI, sm, smS, small64, h1]) []
  have l1 : -100000 < p := by have := w.p2; omega
  have l2 : p < 100000 := by have := w.p6; omega
  have l3 : (plc p).length ≤ 100000 := by rw [plc_len]; omega
  rw [List.filter_eq_self.mpr (by simp), List.nil_append] at e
  unfold wD at e
  simp only [iL_fold] at e
  simp [entR, outP, outK, outM, outX, outR, frz1, sl0, contL, look, cont, frz, preA, putA, stoA, storeS, ownR, lisR, backR, wipeR, freeR, plainSl, noEmp, Cor.asgT, setNames, eltA_m, inn2_m, biS, cmpS, binS, idxS, sliS, truS, truD, datS, seqS, keyD, dKey, negS, eqS, inS, ltS, leS, gtS, geS, isN, isS, lenB, tupB, lstB, absB, intB, divB, isiB, isiD, allB, anyB, sumB, minB, maxB, storeS, ixN, atD, intsD, leastI, mostI, sm, smS, small64, c_table_by, wD, l1, l2, l3, rngD_plc, e, tabD, tabL, List.map_map, Function.comp_def]
noncomputable def deafL (s : Bool) (p : Int) (ms : List M3) : List (Int × Int) := (plc p).flatMap fun a => ((plc p).filter fun b => !decide (b ∈ comeL s p ms a 1)).map fun b => (a, b)
theorem tab_at (s : Bool) (p : Int) (ms : List M3) {x : Int} (hx : x ∈ plc p) : atI ((tabL s p ms).map fun l => PyData.tuple (iL l)) x = some (.tuple (iL (comeL s p ms x 1))) := by
  have h := (plc_mem p x).mp hx
  unfold atI ixN tabL
  simp only [List.length_map, plc_len, if_pos h.1]
  rw [if_pos (by omega)]
  show (List.map _ (List.map _ (plc p)))[x.toNat]? = _
  rw [List.getElem?_map, List.getElem?_map]
  have : (plc p)[x.toNat]? = some x := by
    unfold plc
    rw [List.getElem?_map, List.getElem?_range (by omega)]
    simp; omega
  rw [this]; rfl
theorem s_deaf_by {p : Int} {ms : List M3} (w : WebOk p ms) (s : Bool) : runP g_deaf_by fuW 5 2 c_deaf_by [wD p ms, kD s] = some (.tuple ((deafL s p ms).map pD)) := by
  refine (runP_eq rfl).trans ?_
  have l1 : -100000 < p := by have := w.p2; omega
  have l2 : p < 100000 := by have := w.p6; omega
  have l3 : (plc p).length ≤ 300 := by rw [plc_len]; have := w.p6; omega
  have inner : ∀ x ∈ plc p, ∀ acc, compGo [.val (wD p ms), .val (kD s), .val (tabD s p ms), .val (.int x), .emp] [4] (Cor.asgT (.nm 4)) (evT g_deaf_by (.tval (.cmp .NotIn (.var 4) (.idx (.var 2) (.var 3))))) (eltA g_deaf_by (.tup (.cons false (.var 3) (.cons false (.var 4) (.nil))))) (iL (plc p)) acc [.val (wD p ms), .val (kD s), .val (tabD s p ms), .val (.int x), .emp] = some (acc ++ ((plc p).filter fun b => !decide (b ∈ comeL s p ms x 1)).map fun b => pD (x, b), [.val (wD p ms), .val (kD s), .val (tabD s p ms), .val (.int x), .emp]) := fun x hx acc =>
    compGo_pure (enc := PyData.int) (fun b => !decide (b ∈ comeL s p ms x 1)) (fun b => pD (x, b)) (fun b hb acc => by
      have t1 := tab_at s p ms hx
      have t2 : shp (.tuple (iL (comeL s p ms x 1))) = true := shp_iT _
      by_cases c : b ∈ comeL s p ms x 1 <;> simp [compT_m, entR, outP, outK, outM, outX, outR, frz1, sl0, contL, look, cont, frz, preA, putA, stoA, storeS, ownR, lisR, backR, wipeR, freeR, plainSl, noEmp, Cor.asgT, setNames, eltA_m, inn2_m, biS, cmpS, binS, idxS, sliS, truS, truD, datS, seqS, keyD, dKey, negS, eqS, inS, ltS, leS, gtS, geS, isN, isS, lenB, tupB, lstB, absB, intB, divB, isiB, isiD, allB, anyB, sumB, minB, maxB, storeS, ixN, atD, intsD, leastI, mostI, sm, smS, small64, tabD, t1, pD, c]) acc
  have e := compGo_flat (ρ0 := [.val (wD p ms), .val (kD s), .val (tabD s p ms), .emp, .emp]) (vs := [3, 4]) (asg := Cor.asgT (.nm 3)) (fc := evT g_deaf_by .yes) (fe := inn2 g_deaf_by (.rng1 (.idx (.var 0) (.cst (.int 0)))) (.nm 4) (.tval (.cmp .NotIn (.var 4) (.idx (.var 2) (.var 3)))) (.tup (.cons false (.var 3) (.cons false (.var 4) (.nil)))) [4]) (enc := PyData.int)
    (fun x => ((plc p).filter fun b => !decide (b ∈ comeL s p ms x 1)).map fun b => pD (x, b)) (xs := plc p) (fun x hx acc => by
      have h1 := inner x hx acc
      unfold wD at h1
      simp [compT_m, entR, outP, outK, outM, outX, outR, frz1, sl0, contL, look, cont, frz, preA, putA, stoA, storeS, ownR, lisR, backR, wipeR, freeR, plainSl, noEmp, Cor.asgT, setNames, eltA_m, inn2_m, biS, cmpS, binS, idxS, sliS, truS, truD, datS, seqS, keyD, dKey, negS, eqS, inS, ltS, leS, gtS, geS, isN, isS, lenB, tupB, lstB, absB, intB, divB, isiB, isiD, allB, anyB, sumB, minB, maxB, storeS, ixN, atD, intsD, leastI, mostI, sm, smS, small64, wD, l1, l2, l3, rngD_plc, h1]) []
  have et := s_table_by w s
  have e2 : ((plc p).flatMap fun x => ((plc p).filter fun b => !decide (b ∈ comeL s p ms x 1)).map fun b => pD (x, b)) = (deafL s p ms).map pD := by
    unfold deafL
    rw [List.map_flatMap]
    simp only [List.map_map]
    rfl
  rw [e2, List.nil_append] at e
  unfold wD at e et
  simp only [iL_fold] at e
  simp [entR, outP, outK, outM, outX, outR, frz1, sl0, contL, look, cont, frz, preA, putA, stoA, storeS, ownR, lisR, backR, wipeR, freeR, plainSl, noEmp, Cor.asgT, setNames, eltA_m, inn2_m, biS, cmpS, binS, idxS, sliS, truS, truD, datS, seqS, keyD, dKey, negS, eqS, inS, ltS, leS, gtS, geS, isN, isS, lenB, tupB, lstB, absB, intB, divB, isiB, isiD, allB, anyB, sumB, minB, maxB, storeS, ixN, atD, intsD, leastI, mostI, sm, smS, small64, c_deaf_by, wD, et, l1, l2, l3, rngD_plc, e]
theorem s_is_whole_by {p : Int} {ms : List M3} (w : WebOk p ms) (s : Bool) : runP g_is_whole_by fuW 2 2 c_is_whole_by [wD p ms, kD s] = some (.bool (deafL s p ms).isEmpty) := by
  refine (runP_eq rfl).trans ?_
  have et := s_deaf_by w s
  have h1 : shp (.tuple ((deafL s p ms).map pD)) = true := shp_tupA fun d hd => by
    obtain ⟨a, _, rfl⟩ := List.mem_map.mp hd
    simp [pD, PyData.canLay0, PyData.canLayAll0, PyData.depth, PyData.depthAll]
  have h2 : shp (.tuple []) = true := by simp [shp, SeqAt.shaped, PyData.canLay0, PyData.canLayAll0, PyData.depth, PyData.depthAll]
  have h3 : PyData.eqv (.tuple ((deafL s p ms).map pD)) (.tuple []) = (deafL s p ms).isEmpty := by
    cases deafL s p ms <;> simp [PyData.eqv, PyData.eqvAll]
  simp [entR, outP, outK, outM, outX, outR, frz1, sl0, contL, look, cont, frz, preA, putA, stoA, storeS, ownR, lisR, backR, wipeR, freeR, plainSl, noEmp, Cor.asgT, setNames, eltA_m, inn2_m, biS, cmpS, binS, idxS, sliS, truS, truD, datS, seqS, keyD, dKey, negS, eqS, inS, ltS, leS, gtS, geS, isN, isS, lenB, tupB, lstB, absB, intB, divB, isiB, isiD, allB, anyB, sumB, minB, maxB, storeS, ixN, atD, intsD, leastI, mostI, sm, smS, small64, c_is_whole_by, et, h1, h2, h3]
/-! ### what a book tells -/
theorem s_table {p : Int} {ms : List M3} (w : WebOk p ms) (s : Bool) (ds : List Dd) (past : List PyData) : runM g_Book_table fuW 1 1 c_Book_table (bkS p s ms ds past) [] = some (tabD s p ms, bkS p s ms ds past) := by
  refine (runM_eq rfl).trans ?_
  have et := s_table_by w s
  simp [entR, outP, outK, outM, outX, outR, frz1, sl0, contL, look, cont, frz, preA, putA, stoA, storeS, ownR, lisR, backR, wipeR, freeR, plainSl, noEmp, Cor.asgT, setNames, eltA_m, inn2_m, biS, cmpS, binS, idxS, sliS, truS, truD, datS, seqS, keyD, dKey, negS, eqS, inS, ltS, leS, gtS, geS, isN, isS, lenB, tupB, lstB, absB, intB, divB, isiB, isiD, allB, anyB, sumB, minB, maxB, storeS, ixN, atD, intsD, leastI, mostI, sm, smS, small64, c_Book_table, bkS, et]
theorem s_is_wholeB {p : Int} {ms : List M3} (w : WebOk p ms) (s : Bool) (ds : List Dd) (past : List PyData) : runM g_Book_is_whole fuW 1 1 c_Book_is_whole (bkS p s ms ds past) [] = some (.bool (deafL s p ms).isEmpty, bkS p s ms ds past) := by
  refine (runM_eq rfl).trans ?_
  have et := s_is_whole_by w s
  simp [entR, outP, outK, outM, outX, outR, frz1, sl0, contL, look, cont, frz, preA, putA, stoA, storeS, ownR, lisR, backR, wipeR, freeR, plainSl, noEmp, Cor.asgT, setNames, eltA_m, inn2_m, biS, cmpS, binS, idxS, sliS, truS, truD, datS, seqS, keyD, dKey, negS, eqS, inS, ltS, leS, gtS, geS, isN, isS, lenB, tupB, lstB, absB, intB, divB, isiB, isiD, allB, anyB, sumB, minB, maxB, storeS, ixN, atD, intsD, leastI, mostI, sm, smS, small64, c_Book_is_whole, bkS, et]
noncomputable def toldD (s : Bool) (p : Int) (ms : List M3) : PyData := .list [.int p, kD s, wD p ms, tabD s p ms, .bool (deafL s p ms).isEmpty]
theorem s_told {p : Int} {ms : List M3} (w : WebOk p ms) (s : Bool) (ds : List Dd) (past : List PyData) : runM g__law_told fuW 1 1 c__law_told (bkS p s ms ds past) [] = some (toldD s p ms, bkS p s ms ds past) := by
  refine (runM_eq rfl).trans ?_
  have e1 := s_table w s ds past
  have e2 := s_is_wholeB w s ds past
  unfold bkS at e1 e2
  simp [entR, outP, outK, outM, outX, outR, frz1, sl0, contL, look, cont, frz, preA, putA, stoA, storeS, ownR, lisR, backR, wipeR, freeR, plainSl, noEmp, Cor.asgT, setNames, eltA_m, inn2_m, biS, cmpS, binS, idxS, sliS, truS, truD, datS, seqS, keyD, dKey, negS, eqS, inS, ltS, leS, gtS, geS, isN, isS, lenB, tupB, lstB, absB, intB, divB, isiB, isiD, allB, anyB, sumB, minB, maxB, storeS, ixN, atD, intsD, leastI, mostI, sm, smS, small64, c__law_told, bkS, e1, e2, toldD]
end Cor
set_option Elab.async false
set_option linter.all false
set_option maxRecDepth 100000
set_option maxHeartbeats 4000000
/-! P12: draws. -/
namespace Cor
open PySem PySem.Spec PyProof.Rows L2
theorem s_pick (a b c : Int) (ds : List PyData) (h : 0 < ds.length) (h2 : ds.length < 1000) : ∃ x ∈ ds, ∃ a' b' c', runM g__law_pick fuW 2 2 c__law_pick (pool a b c) [.list ds] = some (x, pool a' b' c') := by
  obtain ⟨v, a', b', c', e, h3, h4⟩ := s_law_draw a b c ds.length (by omega) (by omega)
  have hv : v.toNat < ds.length := by omega
  refine ⟨ds[v.toNat], List.getElem_mem hv, a', b', c', ?_⟩
  have hi : atI ds v = some ds[v.toNat] := by
    unfold atI ixN
    simp only [if_pos h3, if_pos h4]
    exact List.getElem?_eq_getElem hv
  refine (runM_eq rfl).trans ?_
  unfold pool at e
  simp [entR, outP, outK, outM, outX, outR, frz1, sl0, contL, look, cont, frz, preA, putA, stoA, storeS, ownR, lisR, backR, wipeR, freeR, plainSl, noEmp, Cor.asgT, setNames, eltA_m, inn2_m, biS, cmpS, binS, idxS, sliS, truS, truD, datS, seqS, keyD, dKey, negS, eqS, inS, ltS, leS, gtS, geS, isN, isS, lenB, tupB, lstB, absB, intB, divB, isiB, isiD, allB, anyB, sumB, minB, maxB, storeS, ixN, atD, intsD, leastI, mostI, sm, smS, small64, c__law_pick, pool, e, hi]
theorem s_kind (a b c : Int) : ∃ (s : Bool) (a' b' c' : Int), runM g__law_kind fuW 1 1 c__law_kind (pool a b c) [] = some (kD s, pool a' b' c') := by
  obtain ⟨x, hx, a', b', c', e⟩ := s_pick a b c [.str "strict", .str "loose"] (by simp) (by simp)
  have : ∃ s, x = kD s := by
    rcases List.mem_cons.mp hx with h | h
    · exact ⟨true, h⟩
    · exact ⟨false, by simpa [kD] using h⟩
  obtain ⟨s, rfl⟩ := this
  refine ⟨s, a', b', c', ?_⟩
  refine (runM_eq rfl).trans ?_
  unfold pool at e
  simp [entR, outP, outK, outM, outX, outR, frz1, sl0, contL, look, cont, frz, preA, putA, stoA, storeS, ownR, lisR, backR, wipeR, freeR, plainSl, noEmp, Cor.asgT, setNames, eltA_m, inn2_m, biS, cmpS, binS, idxS, sliS, truS, truD, datS, seqS, keyD, dKey, negS, eqS, inS, ltS, leS, gtS, geS, isN, isS, lenB, tupB, lstB, absB, intB, divB, isiB, isiD, allB, anyB, sumB, minB, maxB, storeS, ixN, atD, intsD, leastI, mostI, sm, smS, small64, c__law_kind, pool, e]
theorem s_two (a b c p : Int) (h : 2 ≤ p) (h2 : p < 1000) : ∃ x y a' b' c', runM g__law_two fuW 3 2 c__law_two (pool a b c) [.int p] = some (.tuple [.int x, .int y], pool a' b' c') ∧ 0 ≤ x ∧ x < p ∧ 0 ≤ y ∧ y < p ∧ x ≠ y := by
  obtain ⟨v, a1, b1, c1, e1, h3, h4⟩ := s_law_draw a b c p (by omega) (by omega)
  obtain ⟨u, a2, b2, c2, e2, h5, h6⟩ := s_law_draw a1 b1 c1 (p - 1) (by omega) (by omega)
  refine ⟨v, (v + 1 + u) % p, a2, b2, c2, ?_, h3, h4, Int.emod_nonneg _ (by omega), Int.emod_lt_of_pos _ (by omega), ?_⟩
  · refine (runM_eq rfl).trans ?_
    unfold pool at e1 e2
    have hp : 0 < p := by omega
    simp [entR, outP, outK, outM, outX, outR, frz1, sl0, contL, look, cont, frz, preA, putA, stoA, storeS, ownR, lisR, backR, wipeR, freeR, plainSl, noEmp, Cor.asgT, setNames, eltA_m, inn2_m, biS, cmpS, binS, idxS, sliS, truS, truD, datS, seqS, keyD, dKey, negS, eqS, inS, ltS, leS, gtS, geS, isN, isS, lenB, tupB, lstB, absB, intB, divB, isiB, isiD, allB, anyB, sumB, minB, maxB, storeS, ixN, atD, intsD, leastI, mostI, sm, smS, small64, c__law_two, pool, e1, e2, hp]
  · intro q
    by_cases c : v + 1 + u < p
    · rw [Int.emod_eq_of_lt (by omega) c] at q; omega
    · have : (v + 1 + u) % p = v + 1 + u - p := by
        rw [← Int.emod_eq_of_lt (a := v + 1 + u - p) (b := p) (by omega) (by omega)]
        exact (Int.sub_emod_right _ _).symm
      omega
theorem s_begun (a b c : Int) : ∃ (p : Int) (s : Bool) (a' b' c' : Int), runM g__law_begun fuW 1 1 c__law_begun (pool a b c) [] = some (.tuple [.int p, kD s], pool a' b' c') ∧ 2 ≤ p ∧ p ≤ 5 := by
  obtain ⟨v, a1, b1, c1, e1, h3, h4⟩ := s_law_draw a b c 4 (by omega) (by omega)
  obtain ⟨s, a2, b2, c2, e2⟩ := s_kind a1 b1 c1
  refine ⟨2 + v, s, a2, b2, c2, ?_, by omega, by omega⟩
  refine (runM_eq rfl).trans ?_
  unfold pool at e1 e2
  simp [entR, outP, outK, outM, outX, outR, frz1, sl0, contL, look, cont, frz, preA, putA, stoA, storeS, ownR, lisR, backR, wipeR, freeR, plainSl, noEmp, Cor.asgT, setNames, eltA_m, inn2_m, biS, cmpS, binS, idxS, sliS, truS, truD, datS, seqS, keyD, dKey, negS, eqS, inS, ltS, leS, gtS, geS, isN, isS, lenB, tupB, lstB, absB, intB, divB, isiB, isiD, allB, anyB, sumB, minB, maxB, storeS, ixN, atD, intsD, leastI, mostI, sm, smS, small64, c__law_begun, pool, e1, e2]
theorem s_pool (ns : List Int) (turn : Int) (h0 : 0 ≤ turn) : ∃ a b c, runK g__law_pool fuW 5 2 c__law_pool [.list (ns.map .int), .int turn] = some (pool a b c) := by
  have main : ∀ (xs : List Int) (o st : Int) (s4 : Sl), ∃ st' s4', forGo (Cor.asgT (.nm 4)) (exB g__law_pool fuW (match c__law_pool with | .cons _ (.cons (.frl _ _ b) _) => b | _ => .nil)) (iL xs) [.val (.list (iL ns)), .val (.int turn), .val (.int o), .val (.int st), s4] = some (.nx [.val (.list (iL ns)), .val (.int turn), .val (.int o), .val (.int st'), s4']) := by
    intro xs
    induction xs with
    | nil => intro o st s4; exact ⟨st, s4, rfl⟩
    | cons x xs ih =>
      intro o st s4
      obtain ⟨st', s4', e⟩ := ih o ((st * 48271 + x % 2147482937 + 43) % 2147482937) (.val (.int x))
      refine ⟨st', s4', ?_⟩
      have e3 : iL (x :: xs) = .int x :: iL xs := rfl
      rw [e3, forGo_step (ρ' := [.val (.list (iL ns)), .val (.int turn), .val (.int o), .val (.int ((st * 48271 + x % 2147482937 + 43) % 2147482937)), .val (.int x)]) (by simp [entR, outP, outK, outM, outX, outR, frz1, sl0, contL, look, cont, frz, preA, putA, stoA, storeS, ownR, lisR, backR, wipeR, freeR, plainSl, noEmp, Cor.asgT, setNames, eltA_m, inn2_m, biS, cmpS, binS, idxS, sliS, truS, truD, datS, seqS, keyD, dKey, negS, eqS, inS, ltS, leS, gtS, geS, isN, isS, lenB, tupB, lstB, absB, intB, divB, isiB, isiD, allB, anyB, sumB, minB, maxB, storeS, ixN, atD, intsD, leastI, mostI, sm, smS, small64, c__law_pool]), e]
  obtain ⟨o, ho⟩ : ∃ o : Int, o = if turn < ns.length then ns.getD turn.toNat 0 else 70001 * turn + 89 := ⟨_, rfl⟩
  obtain ⟨st', s4', e⟩ := main (ns.take 6) o (60041 + 5023 * turn) .emp
  have ec : cutD (iL ns) none (some 6) = iL (ns.take 6) := by
    unfold cutD HT.sIx iL
    simp
  simp only [c__law_pool] at e
  by_cases ht : turn < ns.length
  · rw [if_pos ht] at ho
    have hi : atI (iL ns) turn = some (.int o) := by
      unfold atI ixN
      simp only [iL_len, if_pos h0, if_pos ht]
      have hv : turn.toNat < ns.length := by omega
      show (iL ns)[turn.toNat]? = _
      unfold iL
      rw [List.getElem?_map, List.getElem?_eq_getElem hv, ho, List.getD_eq_getElem?_getD, List.getElem?_eq_getElem hv]
      rfl
    by_cases h1 : o < 0
    · refine ⟨(st' + o * 1033) % 2147482937, -o, 0, (runK_eq rfl).trans ?_⟩
      simp [entR, outP, outK, outM, outX, outR, frz1, sl0, contL, look, cont, frz, preA, putA, stoA, storeS, ownR, lisR, backR, wipeR, freeR, plainSl, noEmp, Cor.asgT, setNames, eltA_m, inn2_m, biS, cmpS, binS, idxS, sliS, truS, truD, datS, seqS, keyD, dKey, negS, eqS, inS, ltS, leS, gtS, geS, isN, isS, lenB, tupB, lstB, absB, intB, divB, isiB, isiD, allB, anyB, sumB, minB, maxB, storeS, ixN, atD, intsD, leastI, mostI, sm, smS, small64, c__law_pool, ht, hi, ec, e, h1, pool]
    · by_cases h2 : 1000000000000000000 ≤ o
      · refine ⟨(st' + o * 1033) % 2147482937, o, 0, (runK_eq rfl).trans ?_⟩
        simp [entR, outP, outK, outM, outX, outR, frz1, sl0, contL, look, cont, frz, preA, putA, stoA, storeS, ownR, lisR, backR, wipeR, freeR, plainSl, noEmp, Cor.asgT, setNames, eltA_m, inn2_m, biS, cmpS, binS, idxS, sliS, truS, truD, datS, seqS, keyD, dKey, negS, eqS, inS, ltS, leS, gtS, geS, isN, isS, lenB, tupB, lstB, absB, intB, divB, isiB, isiD, allB, anyB, sumB, minB, maxB, storeS, ixN, atD, intsD, leastI, mostI, sm, smS, small64, c__law_pool, ht, hi, ec, e, h1, h2, pool]
      · refine ⟨(st' + o * 1033) % 2147482937, 0, 0, (runK_eq rfl).trans ?_⟩
        simp [entR, outP, outK, outM, outX, outR, frz1, sl0, contL, look, cont, frz, preA, putA, stoA, storeS, ownR, lisR, backR, wipeR, freeR, plainSl, noEmp, Cor.asgT, setNames, eltA_m, inn2_m, biS, cmpS, binS, idxS, sliS, truS, truD, datS, seqS, keyD, dKey, negS, eqS, inS, ltS, leS, gtS, geS, isN, isS, lenB, tupB, lstB, absB, intB, divB, isiB, isiD, allB, anyB, sumB, minB, maxB, storeS, ixN, atD, intsD, leastI, mostI, sm, smS, small64, c__law_pool, ht, hi, ec, e, h1, h2, pool]
  · rw [if_neg ht] at ho
    rw [ho] at e
    by_cases h1 : 70001 * turn + 89 < 0
    · omega
    · by_cases h2 : 1000000000000000000 ≤ 70001 * turn + 89
      · refine ⟨(st' + (70001 * turn + 89) * 1033) % 2147482937, 70001 * turn + 89, 0, (runK_eq rfl).trans ?_⟩
        simp [entR, outP, outK, outM, outX, outR, frz1, sl0, contL, look, cont, frz, preA, putA, stoA, storeS, ownR, lisR, backR, wipeR, freeR, plainSl, noEmp, Cor.asgT, setNames, eltA_m, inn2_m, biS, cmpS, binS, idxS, sliS, truS, truD, datS, seqS, keyD, dKey, negS, eqS, inS, ltS, leS, gtS, geS, isN, isS, lenB, tupB, lstB, absB, intB, divB, isiB, isiD, allB, anyB, sumB, minB, maxB, storeS, ixN, atD, intsD, leastI, mostI, sm, smS, small64, c__law_pool, ht, ec, e, h1, h2, pool]
      · refine ⟨(st' + (70001 * turn + 89) * 1033) % 2147482937, 0, 0, (runK_eq rfl).trans ?_⟩
        simp [entR, outP, outK, outM, outX, outR, frz1, sl0, contL, look, cont, frz, preA, putA, stoA, storeS, ownR, lisR, backR, wipeR, freeR, plainSl, noEmp, Cor.asgT, setNames, eltA_m, inn2_m, biS, cmpS, binS, idxS, sliS, truS, truD, datS, seqS, keyD, dKey, negS, eqS, inS, ltS, leS, gtS, geS, isN, isS, lenB, tupB, lstB, absB, intB, divB, isiB, isiD, allB, anyB, sumB, minB, maxB, storeS, ixN, atD, intsD, leastI, mostI, sm, smS, small64, c__law_pool, ht, ec, e, h1, h2, pool]
end Cor
set_option Elab.async false
set_option linter.all false
set_option maxRecDepth 100000
set_option maxHeartbeats 4000000
/-! P13: drawn deeds; webs behind them. -/
namespace Cor
open PySem PySem.Spec PyProof.Rows L2
theorem s_deed {p : Int} {ms : List M3} (w : WebOk p ms) (a b c : Int) : ∃ d a' b' c', runM g__law_deed fuW 7 2 c__law_deed (pool a b c) [wD p ms] = some (dD d, pool a' b' c') ∧ d.ok p := by
  have hlen := w.len
  have hp2 := w.p2
  have hp6 := w.p6
  obtain ⟨v, a1, b1, c1, e1, v0, v7⟩ := s_law_draw a b c 7 (by omega) (by omega)
  by_cases h0 : v = 0
  · obtain ⟨u, a2, b2, c2, e2, u0, u1⟩ := s_law_draw a1 b1 c1 (ms.length + 1) (by omega) (by omega)
    refine ⟨.strike u, a2, b2, c2, ?_, u0⟩
    subst h0
    refine (runM_eq rfl).trans ?_
    unfold pool at e1 e2
    simp [entR, outP, outK, outM, outX, outR, frz1, sl0, contL, look, cont, frz, preA, putA, stoA, storeS, ownR, lisR, backR, wipeR, freeR, plainSl, noEmp, Cor.asgT, setNames, eltA_m, inn2_m, biS, cmpS, binS, idxS, sliS, truS, truD, datS, seqS, keyD, dKey, negS, eqS, inS, ltS, leS, gtS, geS, isN, isS, lenB, tupB, lstB, absB, intB, divB, isiB, isiD, allB, anyB, sumB, minB, maxB, storeS, ixN, atD, intsD, leastI, mostI, sm, smS, small64, c__law_deed, wD, dD, pool, e1, e2]
  · by_cases h3 : v < 3
    · -- a move
      have fin : ∀ (own x y z : Int), 1 ≤ own → own ≤ 20 → ∃ u a' b' c', runM g__law_draw fuW 4 2 c__law_draw (pool x y z) [.int (ms.length + 1)] = some (.int u, pool a' b' c') ∧ (Dd.move u own).ok p := fun own x y z h1 h2 => by
        obtain ⟨u, a2, b2, c2, e2, u0, u1⟩ := s_law_draw x y z (ms.length + 1) (by omega) (by omega)
        exact ⟨u, a2, b2, c2, e2, u0, h1, h2⟩
      have six : ∀ (x y z : Int), ∃ q a' b' c', runM g__law_draw fuW 4 2 c__law_draw (pool x y z) [.int 6] = some (.int q, pool a' b' c') ∧ 0 ≤ q ∧ q < 6 := fun x y z => s_law_draw x y z 6 (by omega) (by omega)
      by_cases hm : 0 < ms.length
      · obtain ⟨f, a2, b2, c2, e2, f0, f4⟩ := s_law_draw a1 b1 c1 4 (by omega) (by omega)
        by_cases hf : f = 0
        · obtain ⟨k, a3, b3, c3, e3, k0, k1⟩ := s_law_draw a2 b2 c2 ms.length (by omega) (by omega)
          have hk : k.toNat < ms.length := by omega
          have km : atM ms k ∈ ms := by
            unfold atM
            rw [List.getD_eq_getElem?_getD, List.getElem?_eq_getElem hk]
            exact List.getElem_mem hk
          have ok := w.ok _ km
          obtain ⟨u, a4, b4, c4, e4, hok⟩ := fin (atM ms k).1 a3 b3 c3 ok.1 ok.2.1
          refine ⟨.move u (atM ms k).1, a4, b4, c4, ?_, hok⟩
          subst hf
          refine (runM_eq rfl).trans ?_
          have at1 := atI_mD k0 k1
          unfold pool at e1 e2 e3 e4
          have hm2 : (0 : Int) < ms.length := by omega
          have at2 : atI [PyData.int (atM ms k).1, PyData.int (atM ms k).2.1, PyData.int (atM ms k).2.2] 0 = some (.int (atM ms k).1) := atI_0 _ _
          simp [entR, outP, outK, outM, outX, outR, frz1, sl0, contL, look, cont, frz, preA, putA, stoA, storeS, ownR, lisR, backR, wipeR, freeR, plainSl, noEmp, Cor.asgT, setNames, eltA_m, inn2_m, biS, cmpS, binS, idxS, sliS, truS, truD, datS, seqS, keyD, dKey, negS, eqS, inS, ltS, leS, gtS, geS, isN, isS, lenB, tupB, lstB, absB, intB, divB, isiB, isiD, allB, anyB, sumB, minB, maxB, storeS, ixN, atD, intsD, leastI, mostI, sm, smS, small64, c__law_deed, wD, dD, pool, e1, e2, e3, e4, h0, h3, hm, hm2, at1]
          simp [entR, outP, outK, outM, outX, outR, frz1, sl0, contL, look, cont, frz, preA, putA, stoA, storeS, ownR, lisR, backR, wipeR, freeR, plainSl, noEmp, Cor.asgT, setNames, eltA_m, inn2_m, biS, cmpS, binS, idxS, sliS, truS, truD, datS, seqS, keyD, dKey, negS, eqS, inS, ltS, leS, gtS, geS, isN, isS, lenB, tupB, lstB, absB, intB, divB, isiB, isiD, allB, anyB, sumB, minB, maxB, storeS, ixN, atD, intsD, leastI, mostI, sm, smS, small64, mD, e4]
        · obtain ⟨q, a3, b3, c3, e3, q0, q6⟩ := six a2 b2 c2
          obtain ⟨u, a4, b4, c4, e4, hok⟩ := fin (1 + q) a3 b3 c3 (by omega) (by omega)
          refine ⟨.move u (1 + q), a4, b4, c4, ?_, hok⟩
          refine (runM_eq rfl).trans ?_
          unfold pool at e1 e2 e3 e4
          have hm2 : (0 : Int) < ms.length := by omega
          simp [entR, outP, outK, outM, outX, outR, frz1, sl0, contL, look, cont, frz, preA, putA, stoA, storeS, ownR, lisR, backR, wipeR, freeR, plainSl, noEmp, Cor.asgT, setNames, eltA_m, inn2_m, biS, cmpS, binS, idxS, sliS, truS, truD, datS, seqS, keyD, dKey, negS, eqS, inS, ltS, leS, gtS, geS, isN, isS, lenB, tupB, lstB, absB, intB, divB, isiB, isiD, allB, anyB, sumB, minB, maxB, storeS, ixN, atD, intsD, leastI, mostI, sm, smS, small64, c__law_deed, wD, dD, pool, e1, e2, e3, e4, h0, h3, hm, hm2, hf]
      · obtain ⟨q, a3, b3, c3, e3, q0, q6⟩ := six a1 b1 c1
        obtain ⟨u, a4, b4, c4, e4, hok⟩ := fin (1 + q) a3 b3 c3 (by omega) (by omega)
        refine ⟨.move u (1 + q), a4, b4, c4, ?_, hok⟩
        refine (runM_eq rfl).trans ?_
        unfold pool at e1 e3 e4
        have hm2 : ms.length = 0 := by omega
        have hm3 : ms = [] := List.length_eq_zero_iff.mp hm2
        subst hm3
        simp at e4
        simp [entR, outP, outK, outM, outX, outR, frz1, sl0, contL, look, cont, frz, preA, putA, stoA, storeS, ownR, lisR, backR, wipeR, freeR, plainSl, noEmp, Cor.asgT, setNames, eltA_m, inn2_m, biS, cmpS, binS, idxS, sliS, truS, truD, datS, seqS, keyD, dKey, negS, eqS, inS, ltS, leS, gtS, geS, isN, isS, lenB, tupB, lstB, absB, intB, divB, isiB, isiD, allB, anyB, sumB, minB, maxB, storeS, ixN, atD, intsD, leastI, mostI, sm, smS, small64, c__law_deed, wD, dD, pool, e1, e3, e4, h0, h3]
    · obtain ⟨x, y, a2, b2, c2, e2, h⟩ := s_two a1 b1 c1 p hp2 (by omega)
      obtain ⟨z, hz, a3, b3, c3, e3⟩ := s_pick a2 b2 c2 [.int 3, .int 6, .int 20] (by simp) (by simp)
      obtain ⟨m, rfl, m1, m2⟩ : ∃ m : Int, z = .int m ∧ 1 ≤ m ∧ m ≤ 20 := by
        simp at hz
        rcases hz with h | h | h
        · exact ⟨3, h, by omega, by omega⟩
        · exact ⟨6, h, by omega, by omega⟩
        · exact ⟨20, h, by omega, by omega⟩
      obtain ⟨t, a4, b4, c4, e4, t0, t1⟩ := s_law_draw a3 b3 c3 m (by omega) (by omega)
      refine ⟨.meet (1 + t) x y, a4, b4, c4, ?_, ?_⟩
      · refine (runM_eq rfl).trans ?_
        unfold pool at e1 e2 e3 e4
        simp [entR, outP, outK, outM, outX, outR, frz1, sl0, contL, look, cont, frz, preA, putA, stoA, storeS, ownR, lisR, backR, wipeR, freeR, plainSl, noEmp, Cor.asgT, setNames, eltA_m, inn2_m, biS, cmpS, binS, idxS, sliS, truS, truD, datS, seqS, keyD, dKey, negS, eqS, inS, ltS, leS, gtS, geS, isN, isS, lenB, tupB, lstB, absB, intB, divB, isiB, isiD, allB, anyB, sumB, minB, maxB, storeS, ixN, atD, intsD, leastI, mostI, sm, smS, small64, c__law_deed, wD, dD, pool, e1, e2, e3, e4, h0, h3]
      · unfold Dd.ok
        simp only
        omega
end Cor
set_option Elab.async false
set_option linter.all false
set_option maxRecDepth 100000
set_option maxHeartbeats 4000000
/-! P14: webs behind deeds. -/
namespace Cor
open PySem PySem.Spec PyProof.Rows L2
def Srt (ms : List M3) : Prop := ms.Pairwise fun a b => leM a b = true ∧ a ≠ b
theorem leM_trans (a b c : M3) (h1 : leM a b = true) (h2 : leM b c = true) : leM a c = true := by
  unfold leM at *
  simp only [decide_eq_true_eq] at *
  omega
theorem leM_total (a b : M3) : (leM a b || leM b a) = true := by
  unfold leM
  simp only [Bool.or_eq_true, decide_eq_true_eq]
  omega
theorem leM_anti (a b : M3) (h1 : leM a b = true) (h2 : leM b a = true) : a = b := by
  obtain ⟨a1, a2, a3⟩ := a
  obtain ⟨b1, b2, b3⟩ := b
  unfold leM at *
  simp only [decide_eq_true_eq, Prod.mk.injEq] at *
  omega
theorem sortM_perm (ms : List M3) : (sortM ms).Perm ms := List.mergeSort_perm _ _
theorem sortM_srt {ms : List M3} (h : ms.Nodup) : Srt (sortM ms) := by
  have h1 := List.pairwise_mergeSort leM_trans leM_total ms
  have h2 : (sortM ms).Nodup := (sortM_perm ms).nodup_iff.mpr h
  exact List.Pairwise.and h1 h2
theorem sortM_id {ms : List M3} (h : Srt ms) : sortM ms = ms := List.mergeSort_of_pairwise (h.imp fun q => q.1)
theorem Srt.nodup {ms : List M3} (h : Srt ms) : ms.Nodup := h.imp fun q => q.2
theorem srt_ext {a b : List M3} (ha : Srt a) (hb : Srt b) (h : ∀ x, x ∈ a ↔ x ∈ b) : a = b := by
  have hp : a.Perm b := (List.perm_ext_iff_of_nodup ha.nodup hb.nodup).mpr h
  have e := PySem.W.Srt.the_of_perm leM leM_trans leM_total leM_anti hp (ha.imp fun q => q.1)
  have e2 := sortM_id hb
  exact e.trans e2
theorem atM_mem {ms : List M3} {i : Int} (h0 : 0 ≤ i) (h : i < ms.length) : atM ms i ∈ ms := by
  unfold atM
  have hk : i.toNat < ms.length := by omega
  rw [List.getD_eq_getElem?_getD, List.getElem?_eq_getElem hk]
  exact List.getElem_mem hk
theorem reason_move {ms : List M3} {i t : Int} (h : reasonL ms (.move i t) = none) : i < ms.length ∧ (t, (atM ms i).2) ∉ ms := by
  unfold reasonL at h
  simp only at h
  by_cases c : i < ms.length
  · rw [if_pos c] at h
    by_cases c2 : (t, (atM ms i).2) = atM ms i
    · rw [if_pos c2] at h; cases h
    · rw [if_neg c2] at h
      by_cases c3 : (t, (atM ms i).2) ∈ ms
      · rw [if_pos c3] at h; cases h
      · exact ⟨c, c3⟩
  · rw [if_neg c] at h; cases h
theorem reason_meet {ms : List M3} {t a b : Int} (h : reasonL ms (.meet t a b) = none) : trip t a b ∉ ms ∧ ms.length ≠ 12 := by
  unfold reasonL at h
  simp only at h
  by_cases c : trip t a b ∈ ms
  · rw [if_pos c] at h; cases h
  · rw [if_neg c] at h
    by_cases c2 : ms.length = 12
    · rw [if_pos c2] at h; cases h
    · exact ⟨c, c2⟩
theorem reason_strike {ms : List M3} {i : Int} (h : reasonL ms (.strike i) = none) : i < ms.length := by
  unfold reasonL at h
  simp only at h
  by_cases c : i < ms.length
  · exact c
  · rw [if_neg c] at h; cases h
theorem erase_sub {ms : List M3} {j : Nat} {x : M3} (h : x ∈ ms.eraseIdx j) : x ∈ ms := (List.eraseIdx_sublist ms j).subset h
theorem after_ok {p : Int} {ms : List M3} {d : Dd} (w : WebOk p ms) (hs : Srt ms) (hd : d.ok p) (hr : reasonL ms d = none) : WebOk p (afterL ms d) ∧ Srt (afterL ms d) := by
  have hl := w.len
  cases d with
  | meet t a b =>
    obtain ⟨h1, h2⟩ := reason_meet hr
    have nd : (ms ++ [trip t a b]).Nodup := by
      rw [List.nodup_append]
      exact ⟨hs.nodup, by simp, fun x hx y hy e => by simp at hy; subst hy; subst e; exact h1 hx⟩
    refine ⟨⟨w.p2, w.p6, ?_, fun m hm => ?_⟩, sortM_srt nd⟩
    · show (sortM (ms ++ [trip t a b])).length ≤ 12
      rw [(sortM_perm _).length_eq]; simp; omega
    · have hm' : m ∈ ms ++ [trip t a b] := (sortM_perm _).mem_iff.mp hm
      rcases List.mem_append.mp hm' with h | h
      · exact w.ok m h
      · simp at h; subst h
        unfold Dd.ok at hd
        unfold trip
        simp only at hd ⊢
        split <;> split <;> omega
  | strike i =>
    refine ⟨⟨w.p2, w.p6, Nat.le_trans (List.length_eraseIdx_le _ _) hl, fun m hm => w.ok m (erase_sub hm)⟩, List.Pairwise.sublist (List.eraseIdx_sublist _ _) hs⟩
  | move i t =>
    obtain ⟨h1, h2⟩ := reason_move hr
    unfold Dd.ok at hd
    simp only at hd
    have hi : i.toNat < ms.length := by omega
    have nd : (ms.eraseIdx i.toNat ++ [(t, (atM ms i).2)]).Nodup := by
      rw [List.nodup_append]
      exact ⟨List.Pairwise.sublist (List.eraseIdx_sublist _ _) hs.nodup, by simp, fun x hx y hy e => by simp at hy; subst hy; subst e; exact h2 (erase_sub hx)⟩
    refine ⟨⟨w.p2, w.p6, ?_, fun m hm => ?_⟩, sortM_srt nd⟩
    · show (sortM (ms.eraseIdx i.toNat ++ [(t, (atM ms i).2)])).length ≤ 12
      rw [(sortM_perm _).length_eq, List.length_append, List.length_eraseIdx_of_lt hi]; simp; omega
    · have hm' : m ∈ ms.eraseIdx i.toNat ++ [(t, (atM ms i).2)] := (sortM_perm _).mem_iff.mp hm
      rcases List.mem_append.mp hm' with h | h
      · exact w.ok m (erase_sub h)
      · simp at h; subst h
        have := w.ok _ (atM_mem (by omega) h1)
        simp only
        omega
/-! ### the law's own -/
theorem s_triple (t a b : Int) : runP g__law_triple fuW 1 1 c__law_triple [dD (.meet t a b)] = some (mD (trip t a b)) := by
  refine (runP_eq rfl).trans ?_
  simp [entR, outP, outK, outM, outX, outR, frz1, sl0, contL, look, cont, frz, preA, putA, stoA, storeS, ownR, lisR, backR, wipeR, freeR, plainSl, noEmp, Cor.asgT, setNames, eltA_m, inn2_m, biS, cmpS, binS, idxS, sliS, truS, truD, datS, seqS, keyD, dKey, negS, eqS, inS, ltS, leS, gtS, geS, isN, isS, lenB, tupB, lstB, absB, intB, divB, isiB, isiD, allB, anyB, sumB, minB, maxB, storeS, ixN, atD, intsD, leastI, mostI, sm, smS, small64, c__law_triple, dD, trip, mD, cutD, HT.sIx]
theorem rngD_nat (n : Nat) : rngD 0 (n : Int) = (List.range n).map fun (i : Nat) => PyData.int i := by
  unfold rngD
  simp
theorem erase_range (ms : List M3) (j : Nat) : ((List.range ms.length).filter fun k => !decide (k = j)).map (fun (k : Nat) => atM ms k) = ms.eraseIdx j := by
  have e := erase_of_filter j ms 0
  have e2 : ms.zipIdx = (List.range ms.length).map fun (k : Nat) => (atM ms (k : Int), k) := by
    apply List.ext_getElem
    · simp
    · intro i h1 h2
      simp at h1
      simp [atM]
      rw [List.getElem?_eq_getElem h1]; rfl
  rw [← e, e2, List.filter_map, List.map_map]
  simp only [Function.comp_def, Nat.add_zero]
theorem s_law_after {p : Int} {ms : List M3} {d : Dd} (w : WebOk p ms) (hs : Srt ms) (hd : d.ok p) (hr : reasonL ms d = none) : runP g__law_after fuW 4 2 c__law_after [wD p ms, dD d] = some (wD p (afterL ms d)) := by
  have hl := w.len
  cases d with
  | meet t a b =>
    refine (runP_eq rfl).trans ?_
    have e := s_triple t a b
    have hl2 : ms.length ≤ 100000 := by omega
    have so := sortOk_mD (ms ++ [trip t a b]) (by simp; omega)
    have sr := srtD_mD (ms ++ [trip t a b])
    simp only [List.map_append, List.map_cons, List.map_nil] at so sr
    unfold dD at e
    simp [entR, outP, outK, outM, outX, outR, frz1, sl0, contL, look, cont, frz, preA, putA, stoA, storeS, ownR, lisR, backR, wipeR, freeR, plainSl, noEmp, Cor.asgT, setNames, eltA_m, inn2_m, biS, cmpS, binS, idxS, sliS, truS, truD, datS, seqS, keyD, dKey, negS, eqS, inS, ltS, leS, gtS, geS, isN, isS, lenB, tupB, lstB, absB, intB, divB, isiB, isiD, allB, anyB, sumB, minB, maxB, storeS, ixN, atD, intsD, leastI, mostI, sm, smS, small64, c__law_after, wD, dD, e, hl2, srtB, so, sr, afterL]
  | strike i =>
    refine (runP_eq rfl).trans ?_
    have h0 : 0 ≤ i := hd
    have lc := compGo_pure (ρ0 := [.val (wD p ms), .val (dD (.strike i)), .emp, .emp]) (vs := [3]) (asg := Cor.asgT (.nm 3)) (fc := evT g__law_after (.tval (.cmp .NotEq (.var 3) (.idx (.var 1) (.cst (.int 1)))))) (fe := eltA g__law_after (.idx (.idx (.var 0) (.cst (.int 1))) (.var 3))) (enc := fun (k : Nat) => PyData.int k)
      (fun k => !decide (k = i.toNat)) (fun (k : Nat) => mD (atM ms k)) (xs := List.range ms.length) (fun k hk acc => by
        have hk2 := List.mem_range.mp hk
        have ha := atI_mD (ms := ms) (i := (k : Int)) (by omega) (by omega)
        by_cases c : (k : Int) = i
        · subst c
          simp [compT_m, entR, outP, outK, outM, outX, outR, frz1, sl0, contL, look, cont, frz, preA, putA, stoA, storeS, ownR, lisR, backR, wipeR, freeR, plainSl, noEmp, Cor.asgT, setNames, eltA_m, inn2_m, biS, cmpS, binS, idxS, sliS, truS, truD, datS, seqS, keyD, dKey, negS, eqS, inS, ltS, leS, gtS, geS, isN, isS, lenB, tupB, lstB, absB, intB, divB, isiB, isiD, allB, anyB, sumB, minB, maxB, storeS, ixN, atD, intsD, leastI, mostI, sm, smS, small64, wD, dD]
        · have c2 : ¬ k = i.toNat := by omega
          simp [compT_m, entR, outP, outK, outM, outX, outR, frz1, sl0, contL, look, cont, frz, preA, putA, stoA, storeS, ownR, lisR, backR, wipeR, freeR, plainSl, noEmp, Cor.asgT, setNames, eltA_m, inn2_m, biS, cmpS, binS, idxS, sliS, truS, truD, datS, seqS, keyD, dKey, negS, eqS, inS, ltS, leS, gtS, geS, isN, isS, lenB, tupB, lstB, absB, intB, divB, isiB, isiD, allB, anyB, sumB, minB, maxB, storeS, ixN, atD, intsD, leastI, mostI, sm, smS, small64, wD, dD, c, c2, ha]) []
    have e3 : (((List.range ms.length).filter fun k => !decide (k = i.toNat)).map fun (k : Nat) => mD (atM ms k)) = (ms.eraseIdx i.toNat).map mD := by
      rw [← erase_range, List.map_map]; rfl
    rw [e3, List.nil_append] at lc
    have l1 : (ms.length : Int) < 100000 := by omega
    have l2 : (-100000 : Int) < ms.length := by omega
    have l3 : ms.length ≤ 100000 := by omega
    have so := sortOk_mD (ms.eraseIdx i.toNat) (by have := List.length_eraseIdx_le ms i.toNat; omega)
    have sr := srtD_mD (ms.eraseIdx i.toNat)
    rw [sortM_id (List.Pairwise.sublist (List.eraseIdx_sublist _ _) hs)] at sr
    unfold wD dD at lc
    simp [entR, outP, outK, outM, outX, outR, frz1, sl0, contL, look, cont, frz, preA, putA, stoA, storeS, ownR, lisR, backR, wipeR, freeR, plainSl, noEmp, Cor.asgT, setNames, eltA_m, inn2_m, biS, cmpS, binS, idxS, sliS, truS, truD, datS, seqS, keyD, dKey, negS, eqS, inS, ltS, leS, gtS, geS, isN, isS, lenB, tupB, lstB, absB, intB, divB, isiB, isiD, allB, anyB, sumB, minB, maxB, storeS, ixN, atD, intsD, leastI, mostI, sm, smS, small64, c__law_after, wD, dD, rngD_nat, lc, l1, l2, l3, srtB, so, sr, afterL]
  | move i t =>
    refine (runP_eq rfl).trans ?_
    have h0 : 0 ≤ i := hd.1
    obtain ⟨h1, h2⟩ := reason_move hr
    have lc := compGo_pure (ρ0 := [.val (wD p ms), .val (dD (.move i t)), .emp, .emp]) (vs := [3]) (asg := Cor.asgT (.nm 3)) (fc := evT g__law_after (.tval (.cmp .NotEq (.var 3) (.idx (.var 1) (.cst (.int 1)))))) (fe := eltA g__law_after (.idx (.idx (.var 0) (.cst (.int 1))) (.var 3))) (enc := fun (k : Nat) => PyData.int k)
      (fun k => !decide (k = i.toNat)) (fun (k : Nat) => mD (atM ms k)) (xs := List.range ms.length) (fun k hk acc => by
        have hk2 := List.mem_range.mp hk
        have ha := atI_mD (ms := ms) (i := (k : Int)) (by omega) (by omega)
        by_cases c : (k : Int) = i
        · subst c
          simp [compT_m, entR, outP, outK, outM, outX, outR, frz1, sl0, contL, look, cont, frz, preA, putA, stoA, storeS, ownR, lisR, backR, wipeR, freeR, plainSl, noEmp, Cor.asgT, setNames, eltA_m, inn2_m, biS, cmpS, binS, idxS, sliS, truS, truD, datS, seqS, keyD, dKey, negS, eqS, inS, ltS, leS, gtS, geS, isN, isS, lenB, tupB, lstB, absB, intB, divB, isiB, isiD, allB, anyB, sumB, minB, maxB, storeS, ixN, atD, intsD, leastI, mostI, sm, smS, small64, wD, dD]
        · have c2 : ¬ k = i.toNat := by omega
          simp [compT_m, entR, outP, outK, outM, outX, outR, frz1, sl0, contL, look, cont, frz, preA, putA, stoA, storeS, ownR, lisR, backR, wipeR, freeR, plainSl, noEmp, Cor.asgT, setNames, eltA_m, inn2_m, biS, cmpS, binS, idxS, sliS, truS, truD, datS, seqS, keyD, dKey, negS, eqS, inS, ltS, leS, gtS, geS, isN, isS, lenB, tupB, lstB, absB, intB, divB, isiB, isiD, allB, anyB, sumB, minB, maxB, storeS, ixN, atD, intsD, leastI, mostI, sm, smS, small64, wD, dD, c, c2, ha]) []
    have e3 : (((List.range ms.length).filter fun k => !decide (k = i.toNat)).map fun (k : Nat) => mD (atM ms k)) = (ms.eraseIdx i.toNat).map mD := by
      rw [← erase_range, List.map_map]; rfl
    rw [e3, List.nil_append] at lc
    have hel := List.length_eraseIdx_le ms i.toNat
    have l1 : (ms.length : Int) < 100000 := by omega
    have l2 : (-100000 : Int) < ms.length := by omega
    have l3 : ms.length ≤ 100000 := by omega
    have l4 : (ms.eraseIdx i.toNat).length ≤ 100000 := by omega
    have ha := atI_mD h0 h1
    have so := sortOk_mD (ms.eraseIdx i.toNat ++ [(t, (atM ms i).2)]) (by simp; omega)
    have sr := srtD_mD (ms.eraseIdx i.toNat ++ [(t, (atM ms i).2)])
    simp only [List.map_append, List.map_cons, List.map_nil] at so sr
    have em : mD (t, (atM ms i).2) = .tuple [.int t, .int (atM ms i).2.1, .int (atM ms i).2.2] := rfl
    rw [em] at so sr
    have em2 : mD (atM ms i) = .tuple [.int (atM ms i).1, .int (atM ms i).2.1, .int (atM ms i).2.2] := rfl
    rw [em2] at ha
    unfold wD dD at lc
    simp [entR, outP, outK, outM, outX, outR, frz1, sl0, contL, look, cont, frz, preA, putA, stoA, storeS, ownR, lisR, backR, wipeR, freeR, plainSl, noEmp, Cor.asgT, setNames, eltA_m, inn2_m, biS, cmpS, binS, idxS, sliS, truS, truD, datS, seqS, keyD, dKey, negS, eqS, inS, ltS, leS, gtS, geS, isN, isS, lenB, tupB, lstB, absB, intB, divB, isiB, isiD, allB, anyB, sumB, minB, maxB, storeS, ixN, atD, intsD, leastI, mostI, sm, smS, small64, c__law_after, wD, dD, rngD_nat, lc, l1, l2, l3, l4, ha, cutD, HT.sIx, srtB, so, sr, afterL]
end Cor
set_option Elab.async false
set_option linter.all false
set_option maxRecDepth 100000
set_option maxHeartbeats 4000000
/-! P15: repr. -/
namespace Cor
open PySem PySem.Spec PyProof.Rows L2
theorem strOk_of (s : String) : PyData.strOk (Str.ofString s) = true := by
  rw [Str.ofString_eq_toList]
  unfold PyData.strOk
  simp
  intro i hi
  have := i.valid
  unfold Char.toNat
  simp only [UInt32.isValidChar, Nat.isValidChar] at this
  omega
theorem strOk_app (a b : Str) : PyData.strOk (a ++ b) = (PyData.strOk a && PyData.strOk b) := by
  show (a.cps ++ b.cps).all _ = _
  rw [Array.all_append]; rfl
theorem strOk_ite (c : Prop) [Decidable c] (a b : String) : PyData.strOk (Str.ofString (if c then a else b)) = true := strOk_of _
theorem textFrom_ok : ∀ (ts : List Str) (k : Nat) (acc : Str), PyData.strOk acc = true → (∀ t ∈ ts, PyData.strOk t = true) → PyData.strOk (textFrom k acc ts) = true
  | [], _, _, h, _ => h
  | t :: ts, k, acc, h, ht => by
    unfold textFrom
    refine textFrom_ok ts _ _ ?_ fun u hu => ht u (by simp [hu])
    rw [strOk_app, strOk_app, h, ht t (by simp), strOk_of]; rfl
theorem join_ok (sep : String) : ∀ ts : List Str, (∀ t ∈ ts, PyData.strOk t = true) → PyData.strOk (Str.join (Str.ofString sep) ts) = true
  | [], _ => by rw [Str.join]; decide +kernel
  | [x], h => h x (by simp)
  | x :: y :: r, h => by
    show PyData.strOk (x ++ Str.ofString sep ++ Str.join (Str.ofString sep) (y :: r)) = true
    rw [strOk_app, strOk_app, h x (by simp), strOk_of, join_ok sep (y :: r) fun t ht => h t (by simp at ht ⊢; right; exact ht)]; rfl
mutual
def leafOk : PyData → Bool
  | .none => true
  | .bool _ => true
  | .int _ => true
  | .str x => PyData.strOk (reprText x)
  | .list xs => leafOkAll xs
  | .tuple xs => leafOkAll xs
  | .dict _ => false
def leafOkAll : List PyData → Bool
  | [] => true
  | x :: xs => leafOk x && leafOkAll xs
end
mutual
theorem strOk_shown : ∀ d : PyData, leafOk d = true → PyData.strOk d.shown = true
  | .none, _ => strOk_of _
  | .bool b, _ => by rw [PyData.shown]; cases b <;> exact strOk_of _
  | .int i, _ => by rw [PyData.shown]; exact strOk_of _
  | .str x, h => by rw [PyData.shown]; rw [leafOk] at h; exact h
  | .list xs, h => by
    rw [PyData.shown]
    rw [leafOk] at h
    unfold listText
    rw [strOk_app, strOk_of, Bool.and_true]
    exact textFrom_ok _ _ _ (strOk_of _) (strOk_shownAll xs h)
  | .tuple xs, h => by
    rw [PyData.shown]
    rw [leafOk] at h
    unfold tupleText
    rw [strOk_app, strOk_app, strOk_of, strOk_of, Bool.and_true, Bool.true_and]
    exact join_ok ", " _ (strOk_shownAll xs h)
  | .dict _, h => by rw [leafOk] at h; cases h
theorem strOk_shownAll : ∀ xs : List PyData, leafOkAll xs = true → ∀ t ∈ PyData.shownAll xs, PyData.strOk t = true
  | [], _ => fun t ht => by rw [PyData.shownAll] at ht; cases ht
  | x :: xs, h => fun t ht => by
    rw [leafOkAll, Bool.and_eq_true] at h
    rw [PyData.shownAll] at ht
    rcases List.mem_cons.mp ht with e | e
    · rw [e]; exact strOk_shown x h.1
    · exact strOk_shownAll xs h.2 t e
end
/-- what repr takes: weight w, depth k -/
structure Rp (w k : Nat) (d : PyData) : Prop where
  sh : d.showable = true
  sl : d.leavesShort 30 = true
  dp : d.depth ≤ k
  nd : d.hasDict = false
  lo : leafOk d = true
  wt : d.weight ≤ w
structure RpL (w k : Nat) (ds : List PyData) : Prop where
  sh : PyData.showableAll ds = true
  sl : PyData.leavesShortAll 30 ds = true
  dp : PyData.depthAll ds ≤ k
  nd : PyData.hasDictAll ds = false
  lo : leafOkAll ds = true
  wt : PyData.weightAll ds ≤ w
theorem RpL.nil {w k : Nat} : RpL w k [] := ⟨rfl, rfl, by simp [PyData.depthAll], by simp [PyData.hasDictAll], rfl, by simp [PyData.weightAll]⟩
theorem RpL.cons {w w1 w2 k : Nat} {d : PyData} {ds : List PyData} (h : Rp w1 k d) (r : RpL w2 k ds) (e : w1 + 1 + w2 ≤ w) : RpL w k (d :: ds) := by
  refine ⟨?_, ?_, ?_, ?_, ?_, ?_⟩
  · rw [PyData.showableAll, h.sh, r.sh]; rfl
  · rw [PyData.leavesShortAll, h.sl, r.sl]; rfl
  · rw [PyData.depthAll]; have := h.dp; have := r.dp; omega
  · rw [PyData.hasDictAll, h.nd, r.nd]; rfl
  · rw [leafOkAll, h.lo, r.lo]; rfl
  · rw [PyData.weightAll]; have := h.wt; have := r.wt; omega
theorem RpL.all {w k : Nat} : ∀ {ds : List PyData} {W : Nat}, (∀ d ∈ ds, Rp w k d) → ds.length * (w + 1) ≤ W → RpL W k ds
  | [], _, _, _ => .nil
  | d :: ds, W, h, e => .cons (w1 := w) (w2 := ds.length * (w + 1)) (h d (by simp)) (RpL.all (fun x hx => h x (by simp [hx])) (Nat.le_refl _)) (by
    rw [List.length_cons, Nat.add_mul] at e; omega)
theorem RpL.tup {w k : Nat} {ds : List PyData} (h : RpL w k ds) : Rp w (k + 1) (.tuple ds) :=
  ⟨by rw [PyData.showable]; exact h.sh, by rw [PyData.leavesShort]; exact h.sl, by rw [PyData.depth]; have := h.dp; omega, by rw [PyData.hasDict]; exact h.nd, by rw [leafOk]; exact h.lo, by rw [PyData.weight]; exact h.wt⟩
theorem RpL.lst {w k : Nat} {ds : List PyData} (h : RpL w k ds) : Rp w (k + 1) (.list ds) :=
  ⟨by rw [PyData.showable]; exact h.sh, by rw [PyData.leavesShort]; exact h.sl, by rw [PyData.depth]; have := h.dp; omega, by rw [PyData.hasDict]; exact h.nd, by rw [leafOk]; exact h.lo, by rw [PyData.weight]; exact h.wt⟩
theorem Rp.mono {w w' k k' : Nat} {d : PyData} (h : Rp w k d) (e : w ≤ w') (e2 : k ≤ k') : Rp w' k' d := ⟨h.sh, h.sl, Nat.le_trans h.dp e2, h.nd, h.lo, Nat.le_trans h.wt e⟩
theorem Rp.int {k : Nat} {i : Int} (h : i.natAbs < 1024) : Rp 10 k (.int i) := by
  have hl : i.natAbs.log2 < 10 := by
    by_cases z : i.natAbs = 0
    · rw [z]; decide
    · exact (Nat.log2_lt z).mpr h
  refine ⟨?_, ?_, by simp [PyData.depth], by simp [PyData.hasDict], rfl, ?_⟩
  · rw [PyData.showable]; exact decide_eq_true (by omega)
  · rw [PyData.leavesShort]
    refine decide_eq_true (Nat.le_trans (PyData.shown_int_le (Nat.lt_of_lt_of_le h (by decide))) (by omega))
  · rw [PyData.weight]
    split
    · omega
    · omega
theorem Rp.bool {k : Nat} (b : Bool) : Rp 0 k (.bool b) := ⟨by rw [PyData.showable], by rw [PyData.leavesShort], by simp [PyData.depth], by simp [PyData.hasDict], rfl, by simp [PyData.weight]⟩
theorem Rp.non {k : Nat} : Rp 0 k .none := ⟨by rw [PyData.showable], by rw [PyData.leavesShort], by simp [PyData.depth], by simp [PyData.hasDict], rfl, by simp [PyData.weight]⟩
theorem Rp.word {k : Nat} (x : Str) (h1 : PyData.strOk (reprText x) = true) (h2 : (x.cps.toList.all fun c => decide (c < 16 ^ 8)) = true) : Rp x.cps.size k (.str x) := ⟨by rw [PyData.showable], by rw [PyData.leavesShort]; exact h2, by simp [PyData.depth], by simp [PyData.hasDict], by rw [leafOk]; exact h1, by simp [PyData.weight]⟩
theorem Rp.len {w k : Nat} {d : PyData} (h : Rp w k d) (hw : w ≤ 3000) : d.shown.length ≤ 100000 := by
  have := PyData.shown_le 30 (by omega) d h.sl
  have := h.wt
  omega
theorem Rp.listB {w k : Nat} {ds : List PyData} (h : Rp w k (.list ds)) (hw : w ≤ 3000) (hk : k ≤ 64) : repB [.lst ds] = some (.val (.str (PyData.shown (.list ds)))) := by
  have h1 := h.sh
  have h2 : smS (PyData.shown (.list ds)) = true := decide_eq_true (h.len hw)
  have h3 : PyData.depth (.list ds) ≤ 64 := Nat.le_trans h.dp hk
  have h4 := h.nd
  simp [repB, datS, h1, h2, h3, h4]
end Cor
set_option Elab.async false
set_option linter.all false
set_option maxRecDepth 100000
set_option maxHeartbeats 4000000
/-! P16: a book told; deeds of another form. -/
namespace Cor
open PySem PySem.Spec PyProof.Rows L2
theorem rp_kD (s : Bool) {k : Nat} : Rp 6 k (kD s) := by
  cases s
  · exact (Rp.word "loose" (by decide +kernel) (by decide +kernel)).mono (by decide +kernel) (Nat.le_refl _)
  · exact (Rp.word "strict" (by decide +kernel) (by decide +kernel)).mono (by decide +kernel) (Nat.le_refl _)
theorem rp_mD {p : Int} {ms : List M3} (w : WebOk p ms) {m : M3} (h : m ∈ ms) : Rp 33 1 (mD m) := by
  have := w.ok m h
  have := w.p6
  exact (RpL.cons (w1 := 10) (w2 := 22) (Rp.int (by omega)) (RpL.cons (w1 := 10) (w2 := 11) (Rp.int (by omega)) (RpL.cons (w1 := 10) (w2 := 0) (Rp.int (by omega)) RpL.nil (by omega)) (by omega)) (by omega)).tup
theorem rp_wD {p : Int} {ms : List M3} (w : WebOk p ms) : Rp 420 3 (wD p ms) := by
  have := w.p6
  have := w.p2
  have hl := w.len
  have a : RpL 408 1 (ms.map mD) := RpL.all (w := 33) (fun d hd => by
    obtain ⟨m, hm, rfl⟩ := List.mem_map.mp hd
    exact rp_mD w hm) (by simp; omega)
  exact (RpL.cons (w1 := 10) (w2 := 409) (Rp.int (by omega)) (RpL.cons (w1 := 408) (w2 := 0) a.tup RpL.nil (by omega)) (by omega)).tup
theorem rp_iT {l : List Int} (h : ∀ x ∈ l, x.natAbs < 1024) (hl : l.length ≤ 6) : Rp 66 1 (.tuple (iL l)) := (RpL.all (w := 10) (fun d hd => by
    obtain ⟨m, hm, rfl⟩ := List.mem_map.mp hd
    exact Rp.int (h m hm)) (by simp; omega)).tup
theorem come_sub {s : Bool} {p : Int} {ms : List M3} {x y : Int} (h : y ∈ comeL s p ms x 1) : y ∈ plc p := (List.mem_filter.mp h).1
theorem come_len {s : Bool} {p : Int} {ms : List M3} {x : Int} : (comeL s p ms x 1).length ≤ p.toNat := by
  unfold comeL
  exact Nat.le_trans (List.length_filter_le _ _) (by rw [plc_len]; exact Nat.le_refl _)
theorem rp_tabD {p : Int} {ms : List M3} (w : WebOk p ms) (s : Bool) : Rp 402 2 (tabD s p ms) := by
  have := w.p6
  have := w.p2
  refine (RpL.all (w := 66) (fun d hd => ?_) ?_).tup
  · obtain ⟨l, hl, rfl⟩ := List.mem_map.mp hd
    unfold tabL at hl
    obtain ⟨x, hx, rfl⟩ := List.mem_map.mp hl
    refine rp_iT (fun y hy => ?_) ?_
    · have := (plc_mem p y).mp (come_sub hy)
      omega
    · have := come_len (s := s) (p := p) (ms := ms) (x := x); omega
  · unfold tabL
    simp [plc_len]; omega
theorem rp_told {p : Int} {ms : List M3} (w : WebOk p ms) (s : Bool) : Rp 845 4 (toldD s p ms) := by
  have := w.p6
  have := w.p2
  exact (RpL.cons (w1 := 10) (w2 := 834) (Rp.int (by omega)) (RpL.cons (w1 := 6) (w2 := 827) (rp_kD s) (RpL.cons (w1 := 420) (w2 := 406) (rp_wD w)
    (RpL.cons (w1 := 402) (w2 := 3) ((rp_tabD w s).mono (by omega) (by omega)) (RpL.cons (w1 := 0) (w2 := 0) (Rp.bool _) RpL.nil (by omega)) (by omega)) (by omega)) (by omega)) (by omega)).lst
/-- a deed that was done -/
def Dd.sm : Dd → Prop
  | .meet t a b => t.natAbs < 1024 ∧ a.natAbs < 1024 ∧ b.natAbs < 1024
  | .strike i => i.natAbs < 1024
  | .move i t => i.natAbs < 1024 ∧ t.natAbs < 1024
theorem sm_of {p : Int} {ms : List M3} {d : Dd} (w : WebOk p ms) (hd : d.ok p) (hr : reasonL ms d = none) : d.sm := by
  have := w.len
  have := w.p6
  have := w.p2
  cases d with
  | meet t a b =>
    unfold Dd.ok at hd
    simp only at hd
    exact ⟨by omega, by omega, by omega⟩
  | strike i =>
    have h1 := reason_strike hr
    have h0 : 0 ≤ i := hd
    show i.natAbs < 1024
    omega
  | move i t =>
    have h1 := (reason_move hr).1
    unfold Dd.ok at hd
    simp only at hd
    exact ⟨by omega, by omega⟩
theorem rp_dD {d : Dd} (h : d.sm) : Rp 40 1 (dD d) := by
  have wm : ∀ {k : Nat}, Rp 6 k (.str "meet") := (Rp.word "meet" (by decide +kernel) (by decide +kernel)).mono (by decide +kernel) (Nat.le_refl _)
  have ws : ∀ {k : Nat}, Rp 6 k (.str "strike") := (Rp.word "strike" (by decide +kernel) (by decide +kernel)).mono (by decide +kernel) (Nat.le_refl _)
  have wv : ∀ {k : Nat}, Rp 6 k (.str "move") := (Rp.word "move" (by decide +kernel) (by decide +kernel)).mono (by decide +kernel) (Nat.le_refl _)
  cases d with
  | meet t a b => exact (RpL.cons (w1 := 6) (w2 := 33) wm (RpL.cons (w1 := 10) (w2 := 22) (Rp.int h.1) (RpL.cons (w1 := 10) (w2 := 11) (Rp.int h.2.1) (RpL.cons (w1 := 10) (w2 := 0) (Rp.int h.2.2) RpL.nil (by omega)) (by omega)) (by omega)) (by omega)).tup
  | strike i => exact (RpL.cons (w1 := 6) (w2 := 11) ws (RpL.cons (w1 := 10) (w2 := 0) (Rp.int h) RpL.nil (by omega)) (by omega)).tup
  | move i t => exact (RpL.cons (w1 := 6) (w2 := 22) wv (RpL.cons (w1 := 10) (w2 := 11) (Rp.int h.1) (RpL.cons (w1 := 10) (w2 := 0) (Rp.int h.2) RpL.nil (by omega)) (by omega)) (by omega)).tup
theorem rp_deeds {ds : List Dd} (h : ∀ d ∈ ds, d.sm) (n : Nat) (hl : ds.length ≤ n) : Rp (n * 41) 2 (.tuple (ds.map dD)) := (RpL.all (w := 40) (fun d hd => by
    obtain ⟨m, hm, rfl⟩ := List.mem_map.mp hd
    exact rp_dD (h m hm)) (by simp; omega)).tup
/-! ### a book made -/
theorem s_is_kind_kD (s : Bool) : runP g_is_kind fuW 1 1 c_is_kind [kD s] = some (.bool true) := by
  refine (runP_eq rfl).trans ?_
  have h : shp (.tuple [.str "strict", .str "loose"]) = true := by decide +kernel
  cases s <;> simp [entR, outP, outK, outM, outX, outR, frz1, sl0, contL, look, cont, frz, preA, putA, stoA, storeS, ownR, lisR, backR, wipeR, freeR, plainSl, noEmp, Cor.asgT, setNames, eltA_m, inn2_m, biS, cmpS, binS, idxS, sliS, truS, truD, datS, seqS, keyD, dKey, negS, eqS, inS, ltS, leS, gtS, geS, isN, isS, lenB, tupB, lstB, absB, intB, divB, isiB, isiD, allB, anyB, sumB, minB, maxB, storeS, ixN, atD, intsD, leastI, mostI, sm, smS, small64, c_is_kind, kD, s_is_string, isSt, h]
theorem s_check_kind_kD (s : Bool) : x_check_kind [kD s] = some (.ok .none) := by
  unfold x_check_kind
  refine (runX_eq rfl).trans ?_
  simp [entR, outP, outK, outM, outX, outR, frz1, sl0, contL, look, cont, frz, preA, putA, stoA, storeS, ownR, lisR, backR, wipeR, freeR, plainSl, noEmp, Cor.asgT, setNames, eltA_m, inn2_m, biS, cmpS, binS, idxS, sliS, truS, truD, datS, seqS, keyD, dKey, negS, eqS, inS, ltS, leS, gtS, geS, isN, isS, lenB, tupB, lstB, absB, intB, divB, isiB, isiD, allB, anyB, sumB, minB, maxB, storeS, ixN, atD, intsD, leastI, mostI, sm, smS, small64, c_check_kind, s_is_kind_kD]
theorem s_book (p : Int) (s : Bool) (h : 2 ≤ p) (h2 : p ≤ 6) : mkBook v_is_places x_check_kind [.int p, kD s] = some (bkS p s [] [] []) := by
  have e : betw 2 6 (.int p) = true := by simp [betw_is, h, h2]
  have e1 := s_is_places (.int p)
  rw [e] at e1
  have e2 := s_check_kind_kD s
  simp [mkBook, bookI, e1, e2, bkS, wD]
/-! ### deeds of another form -/
def Bad (p : Int) (v : PyData) (i : Int) : Prop := ∀ ms : List M3, x_check_deed [wD p ms, v] = some (.error (exD i))
theorem bad0 {p : Int} {v : PyData} (h : formB v = false) : Bad p v 0 := fun ms => s_check_deed_0 _ _ h
theorem badM {p : Int} {t a b : PyData} {i : Int} (h : meetErr p t a b = some i) : Bad p (.tuple [.str "meet", t, a, b]) i := fun ms => by
  have := s_check_deed_meet p [.tuple (ms.map mD)] t a b
  rw [h] at this
  exact this
theorem badS {p : Int} {v : PyData} (h : num0 v = false) : Bad p (.tuple [.str "strike", v]) 1 := fun ms => by
  have := s_check_deed_strike (wD p ms) v
  rw [h] at this
  exact this
theorem badV1 {p : Int} {v t : PyData} (h : num0 v = false) : Bad p (.tuple [.str "move", v, t]) 1 := fun ms => by
  have := s_check_deed_move (wD p ms) v t
  rw [h] at this
  exact this
theorem badV2 {p : Int} {v t : PyData} (h : num0 v = true) (h2 : betw 1 20 t = false) : Bad p (.tuple [.str "move", v, t]) 2 := fun ms => by
  have := s_check_deed_move (wD p ms) v t
  rw [h, h2] at this
  exact this
theorem s_barred {p : Int} {ms : List M3} (w : WebOk p ms) (s : Bool) (ds : List Dd) (past : List PyData) (d : Dd) (h : d.ok p) (hd : ds.length ≤ 1000) (hp : past.length ≤ 1000) :
    barF x_Book_do "Barred" "reason" (.str "") (bkS p s ms ds past) [dD d] = some (match reasonL ms d with
      | none => (.str "", bkS p s (afterL ms d) (ds ++ [d]) (past ++ [wD p ms]))
      | some z => (.str z, bkS p s ms ds past)) := by
  have e := s_do p s ms ds past d h (by have := w.len; omega) hd hp
  unfold bkS at e
  cases hr : reasonL ms d <;> rw [hr] at e <;> simp [barF, bkS, e, noEmp, exB']
end Cor
set_option Elab.async false
set_option linter.all false
set_option maxRecDepth 100000
set_option maxHeartbeats 4000000
/-! R1: books and what is taken back. -/
namespace Cor
open PySem PySem.Spec PyProof.Rows L2
theorem snoc_cases {α : Type} (l : List α) : l = [] ∨ ∃ a x, l = a ++ [x] := by
  rcases List.eq_nil_or_concat l with h | ⟨a, x, h⟩
  · exact .inl h
  · exact .inr ⟨a, x, by rw [h, List.concat_eq_append]⟩
/-- the web behind the deeds; the webs ahead of each -/
def wb (ds : List Dd) : List M3 := ds.foldl afterL []
def preW (ds : List Dd) : List (List M3) := (List.range ds.length).map fun i => wb (ds.take i)
@[simp] theorem wb_nil : wb [] = [] := rfl
@[simp] theorem wb_snoc (ds : List Dd) (d : Dd) : wb (ds ++ [d]) = afterL (wb ds) d := by simp [wb]
@[simp] theorem preW_nil : preW [] = [] := rfl
@[simp] theorem preW_len (ds : List Dd) : (preW ds).length = ds.length := by simp [preW]
@[simp] theorem preW_snoc (ds : List Dd) (d : Dd) : preW (ds ++ [d]) = preW ds ++ [wb ds] := by
  unfold preW
  rw [List.length_append, List.length_singleton, List.range_succ, List.map_append]
  congr 1
  · refine List.map_congr_left fun i hi => ?_
    have := List.mem_range.mp hi
    rw [List.take_append_of_le_length (by omega)]
  · simp
/-- each deed could be done -/
def Gd (p : Int) (ds : List Dd) : Prop := ∀ a d b, ds = a ++ d :: b → d.ok p ∧ reasonL (wb a) d = none
theorem Gd.nil {p : Int} : Gd p [] := fun a d b e => by simp at e
theorem Gd.left {p : Int} {ds es : List Dd} (h : Gd p (ds ++ es)) : Gd p ds := fun a d b e => h a d (b ++ es) (by rw [e]; simp)
theorem Gd.snoc {p : Int} {ds : List Dd} {d : Dd} (h : Gd p ds) (h1 : d.ok p) (h2 : reasonL (wb ds) d = none) : Gd p (ds ++ [d]) := fun a x b e => by
  rcases snoc_cases b with rfl | ⟨b', y, rfl⟩
  · obtain ⟨e1, e2⟩ := List.append_inj' e rfl
    subst e1
    cases e2
    exact ⟨h1, h2⟩
  · have e' : ds ++ [d] = (a ++ x :: b') ++ [y] := by rw [e]; simp
    obtain ⟨e1, e2⟩ := List.append_inj' e' rfl
    exact h a x b' e1
theorem Gd.web {p : Int} (p2 : 2 ≤ p) (p6 : p ≤ 6) : ∀ (n : Nat) {ds : List Dd}, ds.length = n → Gd p ds → WebOk p (wb ds) ∧ Srt (wb ds)
  | 0, ds, e, _ => by
    have := List.length_eq_zero_iff.mp e
    subst this
    exact ⟨⟨p2, p6, by simp, fun m hm => by cases hm⟩, by simp [Srt]⟩
  | n + 1, ds, e, h => by
    rcases snoc_cases ds with rfl | ⟨a, x, rfl⟩
    · cases e
    · obtain ⟨w, s⟩ := Gd.web p2 p6 n (by simp at e; exact e) h.left
      obtain ⟨h1, h2⟩ := h a x [] rfl
      rw [wb_snoc]
      exact after_ok w s h1 h2
theorem Gd.sm {p : Int} (p2 : 2 ≤ p) (p6 : p ≤ 6) {ds : List Dd} (h : Gd p ds) : ∀ d ∈ ds, d.sm := fun d hd => by
  obtain ⟨a, b, e⟩ := List.append_of_mem hd
  obtain ⟨h1, h2⟩ := h a d b e
  have ha : Gd p a := Gd.left (es := d :: b) (by rw [← e]; exact h)
  exact sm_of (Gd.web p2 p6 _ rfl ha).1 h1 h2
/-! ### cuts -/
theorem cut_init {l : List PyData} {x : PyData} : cutD (l ++ [x]) none (some (-1)) = l := by
  unfold cutD HT.sIx
  simp
  have : ((-1 : Int) + ((l.length : Int) + 1)).toNat = l.length := by omega
  rw [this]; simp
theorem cut_init0 : cutD [] none (some (-1)) = [] := by simp [cutD]
theorem cut_pre {l : List PyData} {k : Nat} : cutD l none (some (k : Int)) = l.take k := by
  unfold cutD HT.sIx
  simp
  have : ¬ ((k : Int) < 0) := by omega
  simp only [this, if_false]
  omega
theorem atI_last {l : List PyData} {x : PyData} : atI (l ++ [x]) (-1) = some x := by
  unfold atI ixN
  simp
  have h2 : -((l.length : Int) + 1) ≤ -1 := by omega
  have h3 : ((-1 : Int) + ((l.length : Int) + 1)).toNat = l.length := by omega
  have h4 : (1 : Int) ≤ (l.length : Int) + 1 := by omega
  simp [h2, h3, h4]
/-! ### shapes -/
theorem can_mD (m : M3) : PyData.canLay0 (mD m) = true ∧ PyData.depth (mD m) ≤ 1 := by simp [mD, PyData.canLay0, PyData.canLayAll0, PyData.depth, PyData.depthAll]
theorem canAll {ds : List PyData} {k : Nat} (h : ∀ d ∈ ds, PyData.canLay0 d = true ∧ PyData.depth d ≤ k) : PyData.canLayAll0 ds = true ∧ PyData.depthAll ds ≤ k := by
  induction ds with
  | nil => exact ⟨rfl, by simp [PyData.depthAll]⟩
  | cons d r ih =>
    obtain ⟨i1, i2⟩ := ih fun e he => h e (by simp [he])
    obtain ⟨j1, j2⟩ := h d (by simp)
    rw [PyData.canLayAll0, PyData.depthAll, i1, j1]
    exact ⟨rfl, by omega⟩
theorem can_wD (p : Int) (ms : List M3) : PyData.canLay0 (wD p ms) = true ∧ PyData.depth (wD p ms) ≤ 3 := by
  obtain ⟨h1, h2⟩ := canAll (ds := ms.map mD) (k := 1) fun d hd => by
    obtain ⟨m, _, rfl⟩ := List.mem_map.mp hd
    exact can_mD m
  constructor
  · simp [wD, PyData.canLay0, PyData.canLayAll0, h1]
  · simp [wD, PyData.depth, PyData.depthAll]; omega
theorem can_dD (d : Dd) : PyData.canLay0 (dD d) = true ∧ PyData.depth (dD d) ≤ 1 := by
  cases d <;> exact ⟨by simp [dD, PyData.canLay0, PyData.canLayAll0], by simp [dD, PyData.depth, PyData.depthAll]⟩
theorem shp_webs (p : Int) (l : List (List M3)) : shp (.list (l.map (wD p))) = true := shp_lstA fun d hd => by
  obtain ⟨m, _, rfl⟩ := List.mem_map.mp hd
  exact ⟨(can_wD p m).1, by have := (can_wD p m).2; omega⟩
theorem shp_log (l : List Dd) : shp (.list (l.map dD)) = true := shp_lstA fun d hd => by
  obtain ⟨m, _, rfl⟩ := List.mem_map.mp hd
  exact ⟨(can_dD m).1, by have := (can_dD m).2; omega⟩
/-! ### taken back -/
def nothing : Exn := ⟨"NothingToUndo", "", .none⟩
theorem s_undo0 (p : Int) (s : Bool) (ms : List M3) (ds : List Dd) : x_Book_undo (bkS p s ms ds []) [] = some (.error nothing, bkS p s ms ds []) := by
  unfold x_Book_undo bkS
  refine (runR_eq rfl).trans ?_
  have k0 : shp (.list []) = true := by decide +kernel
  simp [entR, outP, outK, outM, outX, outR, frz1, sl0, contL, look, cont, frz, preA, putA, stoA, storeS, ownR, lisR, backR, wipeR, freeR, plainSl, noEmp, Cor.asgT, setNames, eltA_m, inn2_m, biS, cmpS, binS, idxS, sliS, truS, truD, datS, seqS, keyD, dKey, negS, eqS, inS, ltS, leS, gtS, geS, isN, isS, lenB, tupB, lstB, absB, intB, divB, isiB, isiD, allB, anyB, sumB, minB, maxB, storeS, ixN, atD, intsD, leastI, mostI, sm, smS, small64, c_Book_undo, k0, nothing]
theorem s_undo1 (p : Int) (s : Bool) (ms ms' : List M3) (ds : List Dd) (d : Dd) (past : List (List M3)) : x_Book_undo (bkS p s ms (ds ++ [d]) (past.map (wD p) ++ [wD p ms'])) [] = some (.ok .none, bkS p s ms' ds (past.map (wD p))) := by
  unfold x_Book_undo bkS
  refine (runR_eq rfl).trans ?_
  have k0 := shp_webs p (past ++ [ms'])
  simp only [List.map_append, List.map_cons, List.map_nil] at k0
  have k1 := cut_init (l := ds.map dD) (x := dD d)
  simp [entR, outP, outK, outM, outX, outR, frz1, sl0, contL, look, cont, frz, preA, putA, stoA, storeS, ownR, lisR, backR, wipeR, freeR, plainSl, noEmp, Cor.asgT, setNames, eltA_m, inn2_m, biS, cmpS, binS, idxS, sliS, truS, truD, datS, seqS, keyD, dKey, negS, eqS, inS, ltS, leS, gtS, geS, isN, isS, lenB, tupB, lstB, absB, intB, divB, isiB, isiD, allB, anyB, sumB, minB, maxB, storeS, ixN, atD, intsD, leastI, mostI, sm, smS, small64, c_Book_undo, k0, k1]
theorem s_undone0 (p : Int) (s : Bool) (ms : List M3) (ds : List Dd) : undF x_Book_undo "NothingToUndo" (bkS p s ms ds []) [] = some (.bool false, bkS p s ms ds []) := by
  have e := s_undo0 p s ms ds
  unfold bkS at e
  simp [undF, bkS, e, noEmp, nothing]
theorem s_undone1 (p : Int) (s : Bool) (ms ms' : List M3) (ds : List Dd) (d : Dd) (past : List (List M3)) : undF x_Book_undo "NothingToUndo" (bkS p s ms (ds ++ [d]) (past.map (wD p) ++ [wD p ms'])) [] = some (.bool true, bkS p s ms' ds (past.map (wD p))) := by
  have e := s_undo1 p s ms ms' ds d past
  unfold bkS at e
  simp only [List.map_append, List.map_cons, List.map_nil] at e
  simp [undF, bkS, e, noEmp, isN]
/-! ### == -/
theorem s_led_by (p : Int) (s : Bool) (ms : List M3) (ds : List Dd) (past : List PyData) : runM g_led_by fuW 1 1 c_led_by (bkS p s ms ds past) [] = some (.tuple [.int p, kD s, .tuple (ds.map dD)], bkS p s ms ds past) := by
  unfold bkS
  refine (runM_eq rfl).trans ?_
  simp [entR, outP, outK, outM, outX, outR, frz1, sl0, contL, look, cont, frz, preA, putA, stoA, storeS, ownR, lisR, backR, wipeR, freeR, plainSl, noEmp, Cor.asgT, setNames, eltA_m, inn2_m, biS, cmpS, binS, idxS, sliS, truS, truD, datS, seqS, keyD, dKey, negS, eqS, inS, ltS, leS, gtS, geS, isN, isS, lenB, tupB, lstB, absB, intB, divB, isiB, isiD, allB, anyB, sumB, minB, maxB, storeS, ixN, atD, intsD, leastI, mostI, sm, smS, small64, c_led_by]
theorem shp_led (p : Int) (s : Bool) (ds : List Dd) : shp (.tuple [.int p, kD s, .tuple (ds.map dD)]) = true := by
  obtain ⟨h1, h2⟩ := canAll (ds := ds.map dD) (k := 1) fun d hd => by
    obtain ⟨m, _, rfl⟩ := List.mem_map.mp hd
    exact can_dD m
  refine shp_tupA fun d hd => ?_
  simp at hd
  rcases hd with rfl | rfl | rfl
  · exact ⟨by rfl, by simp [PyData.depth]⟩
  · cases s <;> exact ⟨by decide +kernel, by simp [kD, PyData.depth]⟩
  · exact ⟨by simp [PyData.canLay0, h1], by simp [PyData.depth]; omega⟩
theorem shp_can {d : PyData} (h : shp d = true) : PyData.canLay0 d = true := by
  unfold shp SeqAt.shaped at h
  simp at h
  exact h.1
theorem eqv_shp {d : PyData} (h : shp d = true) : PyData.eqv d d = true := SeqAt.eqv_refl d (shp_can h)
theorem s_eq (p : Int) (s : Bool) (ms ms' : List M3) (ds : List Dd) (past past' : List PyData) : t_Book___eq__ (bkS p s ms ds past) (bkS p s ms' ds past') = some (.bool true, bkS p s ms ds past, bkS p s ms' ds past') := by
  unfold t_Book___eq__
  refine (runT2_eq (o := some (.rt (.val (.bool true)) [bkS p s ms ds past, bkS p s ms' ds past'])) ?_).trans ?_
  · have e1 := s_led_by p s ms ds past
    have e2 := s_led_by p s ms' ds past'
    have k0 := shp_led p s ds
    have k1 := eqv_shp k0
    unfold bkS at e1 e2
    simp [entR, outP, outK, outM, outX, outR, frz1, sl0, contL, look, cont, frz, preA, putA, stoA, storeS, ownR, lisR, backR, wipeR, freeR, plainSl, noEmp, Cor.asgT, setNames, eltA_m, inn2_m, biS, cmpS, binS, idxS, sliS, truS, truD, datS, seqS, keyD, dKey, negS, eqS, inS, ltS, leS, gtS, geS, isN, isS, lenB, tupB, lstB, absB, intB, divB, isiB, isiD, allB, anyB, sumB, minB, maxB, storeS, ixN, atD, intsD, leastI, mostI, sm, smS, small64, c_Book___eq__, bkS, e1, e2, k0, k1]
  · rfl
end Cor
set_option Elab.async false
set_option linter.all false
set_option maxRecDepth 100000
set_option maxHeartbeats 4000000
/-! R2: what is taken back in a turn. -/
namespace Cor
open PySem PySem.Spec PyProof.Rows L2
def R82 (p : Int) (s : Bool) (a b c : Int) (s6 s7 s8 : Sl) (ds : List Dd) : Rho := [pool a b c, .val (.int p), .val (kD s), bkS p s (wb ds) ds ((preW ds).map (wD p)), .lst (ds.map dD), .lst ((preW ds).map (wD p) ++ [wD p (wb ds)]), s6, s7, s8, .emp, .emp]
def b82 : CB := match c__law_right with | .cons _ (.cons _ (.cons _ (.cons (.frl _ _ b) _))) => b | _ => .nil
def i82 : CB := match b82 with | .cons _ (.cons _ (.cons (.frl _ _ b) _)) => b | _ => .nil
theorem eqvAll_nil : ∀ l : List PyData, PyData.eqvAll l [] = l.isEmpty
  | [] => rfl
  | _ :: _ => rfl
theorem cut_states {l : List PyData} {x : PyData} {k : Int} (h : k = l.length) : cutD (l ++ [x]) none (some k) = l := by
  subst h
  rw [cut_pre]; simp
theorem cut_one {x : PyData} : cutD [x] none (some 1) = [x] := cut_pre (k := 1)
theorem inner82 (p : Int) (s : Bool) (a b c : Int) (s6 s7 s8 : Sl) {ds : List Dd} (h : Gd p ds) (x : PyData) :
    ∃ es, (Cor.asgT (.nm 8) x (R82 p s a b c s6 s7 s8 ds)).bind (exB g__law_right fuW i82) = some (.nx (R82 p s a b c s6 s7 (.val x) es)) ∧ Gd p es ∧ es.length ≤ ds.length := by
  have k0 : shp (.list []) = true := by decide +kernel
  rcases snoc_cases ds with rfl | ⟨es, d, rfl⟩
  · refine ⟨[], ?_, h, by simp⟩
    have e := s_undone0 p s [] []
    unfold bkS at e
    simp only [List.map_nil] at e
    simp [entR, outP, outK, outM, outX, outR, frz1, sl0, contL, look, cont, frz, preA, putA, stoA, storeS, ownR, lisR, backR, wipeR, freeR, plainSl, noEmp, Cor.asgT, setNames, eltA_m, inn2_m, biS, cmpS, binS, idxS, sliS, truS, truD, datS, seqS, keyD, dKey, negS, eqS, inS, ltS, leS, gtS, geS, isN, isS, lenB, tupB, lstB, absB, intB, divB, isiB, isiD, allB, anyB, sumB, minB, maxB, storeS, ixN, atD, intsD, leastI, mostI, sm, smS, small64, i82, b82, c__law_right, R82, bkS, e, k0, PyData.eqv, eqvAll_nil, cut_init0, cut_one]
  · refine ⟨es, ?_, h.left, by simp⟩
    have e := s_undone1 p s (afterL (wb es) d) (wb es) es d (preW es)
    have k1 := shp_log (es ++ [d])
    have k2 := cut_init (l := es.map dD) (x := dD d)
    have k3 := cut_states (l := (preW es).map (wD p) ++ [wD p (wb es)]) (x := wD p (afterL (wb es) d)) (k := (es.length : Int) + 1) (by simp)
    have k4 : (if (1 : Int) < (es.length : Int) + 2 - 1 then (es.length : Int) + 2 - 1 else 1) = (es.length : Int) + 1 := by split <;> omega
    have k5 : (preW es).map (wD p) ++ [wD p (wb es), wD p (afterL (wb es) d)] = (preW es).map (wD p) ++ [wD p (wb es)] ++ [wD p (afterL (wb es) d)] := by simp
    unfold bkS at e
    simp only [List.map_append, List.map_cons, List.map_nil] at e k1 k2
    simp [entR, outP, outK, outM, outX, outR, frz1, sl0, contL, look, cont, frz, preA, putA, stoA, storeS, ownR, lisR, backR, wipeR, freeR, plainSl, noEmp, Cor.asgT, setNames, eltA_m, inn2_m, biS, cmpS, binS, idxS, sliS, truS, truD, datS, seqS, keyD, dKey, negS, eqS, inS, ltS, leS, gtS, geS, isN, isS, lenB, tupB, lstB, absB, intB, divB, isiB, isiD, allB, anyB, sumB, minB, maxB, storeS, ixN, atD, intsD, leastI, mostI, sm, smS, small64, i82, b82, c__law_right, R82, bkS, e, k0, k1, k2, PyData.eqv, eqvAll_nil]
    rw [k4, k5, k3]
end Cor
set_option Elab.async false
set_option linter.all false
set_option maxRecDepth 100000
set_option maxHeartbeats 4000000
/-! R3: a turn (k82). -/
namespace Cor
open PySem PySem.Spec PyProof.Rows L2
def nthS : CB → Nat → CS
  | .cons s _, 0 => s
  | .cons _ r, n + 1 => nthS r n
  | .nil, _ => .pas
theorem exB_step {G : List Fn} {fu : Nat} {t : CS} {r : CB} {ρ ρ' : Rho} (h : ex G fu t ρ = some (.nx ρ')) : exB G fu (.cons t r) ρ = exB G fu r ρ' := by rw [exB_cons, h]; rfl
theorem b82_eq : b82 = .cons (nthS b82 0) (.cons (nthS b82 1) (.cons (nthS b82 2) (.cons (nthS b82 3) .nil))) := rfl
section
variable {p : Int} {s : Bool} {a b c : Int} {s6 s7 s8 : Sl} {ds : List Dd}
theorem t82_1 (w : WebOk p (wb ds)) : ∃ d a' b' c', ex g__law_right fuW (nthS b82 0) (R82 p s a b c s6 s7 s8 ds) = some (.nx (R82 p s a' b' c' s6 (.val (dD d)) s8 ds)) ∧ d.ok p := by
  obtain ⟨d, a', b', c', e1, dok⟩ := s_deed w a b c
  refine ⟨d, a', b', c', ?_, dok⟩
  have e2 := atI_last (l := (preW ds).map (wD p)) (x := wD p (wb ds))
  unfold pool at e1
  simp [entR, outP, outK, outM, outX, outR, frz1, sl0, contL, look, cont, frz, preA, putA, stoA, storeS, ownR, lisR, backR, wipeR, freeR, plainSl, noEmp, Cor.asgT, setNames, eltA_m, inn2_m, biS, cmpS, binS, idxS, sliS, truS, truD, datS, seqS, keyD, dKey, negS, eqS, inS, ltS, leS, gtS, geS, isN, isS, lenB, tupB, lstB, absB, intB, divB, isiB, isiD, allB, anyB, sumB, minB, maxB, storeS, ixN, atD, intsD, leastI, mostI, sm, smS, small64, nthS, b82, c__law_right, R82, pool, e1, e2]
theorem t82_2 {d : Dd} (h : Gd p ds) (w : WebOk p (wb ds)) (hs : Srt (wb ds)) (hl : ds.length ≤ 100) (dok : d.ok p) : ∃ es, ex g__law_right fuW (nthS b82 1) (R82 p s a b c s6 (.val (dD d)) s8 ds) = some (.nx (R82 p s a b c s6 (.val (dD d)) s8 es)) ∧ Gd p es ∧ es.length ≤ ds.length + 1 := by
  have e2 := s_barred w s ds ((preW ds).map (wD p)) d dok (by omega) (by simp; omega)
  have e0 := atI_last (l := (preW ds).map (wD p)) (x := wD p (wb ds))
  have k0 : shp (.str "") = true := by decide +kernel
  have l1 : ds.length ≤ 100000 := by omega
  have l2 : ds.length ≤ 99999 := by omega
  cases hr : reasonL (wb ds) d with
  | none =>
    rw [hr] at e2
    refine ⟨ds ++ [d], ?_, h.snoc dok hr, by simp⟩
    have e4 := s_law_after w hs dok hr
    unfold bkS at e2
    simp only [List.map_append, List.map_cons, List.map_nil] at e2
    simp [entR, outP, outK, outM, outX, outR, frz1, sl0, contL, look, cont, frz, preA, putA, stoA, storeS, ownR, lisR, backR, wipeR, freeR, plainSl, noEmp, Cor.asgT, setNames, eltA_m, inn2_m, biS, cmpS, binS, idxS, sliS, truS, truD, datS, seqS, keyD, dKey, negS, eqS, inS, ltS, leS, gtS, geS, isN, isS, lenB, tupB, lstB, absB, intB, divB, isiB, isiD, allB, anyB, sumB, minB, maxB, storeS, ixN, atD, intsD, leastI, mostI, sm, smS, small64, nthS, b82, c__law_right, R82, pool, bkS, e0, e2, e4, k0, l1, l2]
  | some z =>
    rw [hr] at e2
    refine ⟨ds, ?_, h, by omega⟩
    obtain ⟨r1, r2⟩ : PyData.strOk z = true ∧ ¬ z = "" := by
      cases d <;> unfold reasonL at hr <;> simp only at hr <;> (repeat' split at hr) <;> simp at hr <;> subst hr <;> exact ⟨by decide +kernel, by decide +kernel⟩
    unfold bkS at e2
    simp [entR, outP, outK, outM, outX, outR, frz1, sl0, contL, look, cont, frz, preA, putA, stoA, storeS, ownR, lisR, backR, wipeR, freeR, plainSl, noEmp, Cor.asgT, setNames, eltA_m, inn2_m, biS, cmpS, binS, idxS, sliS, truS, truD, datS, seqS, keyD, dKey, negS, eqS, inS, ltS, leS, gtS, geS, isN, isS, lenB, tupB, lstB, absB, intB, divB, isiB, isiD, allB, anyB, sumB, minB, maxB, storeS, ixN, atD, intsD, leastI, mostI, sm, smS, small64, nthS, b82, c__law_right, R82, pool, bkS, e0, e2, k0, r1, r2]
theorem t82_3 (x : Nat) (h : Gd p ds) : ∃ es a' b' c' s8', ex g__law_right fuW (nthS b82 2) (R82 p s a b c (.val (.int x)) s7 s8 ds) = some (.nx (R82 p s a' b' c' (.val (.int x)) s7 s8' es)) ∧ Gd p es ∧ es.length ≤ ds.length := by
  have loop : ∀ (a b c : Int) (s6 : Sl) (j : Int), ∃ es s8', forGo (Cor.asgT (.nm 8)) (exB g__law_right fuW i82) (rngD 0 j) (R82 p s a b c s6 s7 s8 ds) = some (.nx (R82 p s a b c s6 s7 s8' es)) ∧ Gd p es ∧ es.length ≤ ds.length := fun a b c s6 j => by
    obtain ⟨ρ', f, es, s8', g, l, rfl⟩ := forGo_all (asg := Cor.asgT (.nm 8)) (fb := exB g__law_right fuW i82) (ds := rngD 0 j) (fun ρ => ∃ es s8', Gd p es ∧ es.length ≤ ds.length ∧ ρ = R82 p s a b c s6 s7 s8' es) (fun d hd ρ ⟨es, s8', g, l, e⟩ => by
      subst e
      obtain ⟨fs, e1, g1, l1⟩ := inner82 p s a b c s6 s7 s8' g d
      exact ⟨_, e1, fs, _, g1, by omega, rfl⟩) (ρ := R82 p s a b c s6 s7 s8 ds) ⟨ds, s8, h, Nat.le_refl _, rfl⟩
    exact ⟨es, s8', f, g, l⟩
  by_cases h4 : (4 : Int) < x
  · obtain ⟨y, hy, a1, b1, c1, e1⟩ := s_pick a b c [.int 0, .int 0, .int 0, .int 1, .int 2, .int 4] (by simp) (by simp)
    obtain ⟨j, rfl, j0, j4⟩ : ∃ j : Int, y = .int j ∧ 0 ≤ j ∧ j ≤ 4 := by
      simp at hy
      rcases hy with h | h | h | h
      · exact ⟨0, h, by omega, by omega⟩
      · exact ⟨1, h, by omega, by omega⟩
      · exact ⟨2, h, by omega, by omega⟩
      · exact ⟨4, h, by omega, by omega⟩
    obtain ⟨es, s8', f, g, l⟩ := loop a1 b1 c1 (.val (.int x)) j
    refine ⟨es, a1, b1, c1, s8', ?_, g, l⟩
    have m1 : -100000 < j := by omega
    have m2 : j < 100000 := by omega
    unfold pool at e1
    simp only [i82, b82, c__law_right, R82, pool] at f
    simp [entR, outP, outK, outM, outX, outR, frz1, sl0, contL, look, cont, frz, preA, putA, stoA, storeS, ownR, lisR, backR, wipeR, freeR, plainSl, noEmp, Cor.asgT, setNames, eltA_m, inn2_m, biS, cmpS, binS, idxS, sliS, truS, truD, datS, seqS, keyD, dKey, negS, eqS, inS, ltS, leS, gtS, geS, isN, isS, lenB, tupB, lstB, absB, intB, divB, isiB, isiD, allB, anyB, sumB, minB, maxB, storeS, ixN, atD, intsD, leastI, mostI, sm, smS, small64, nthS, b82, c__law_right, R82, pool, e1, h4, m1, m2, f]
  · obtain ⟨es, s8', f, g, l⟩ := loop a b c (.val (.int x)) 0
    refine ⟨es, a, b, c, s8', ?_, g, l⟩
    simp only [i82, b82, c__law_right, R82, pool] at f
    simp [entR, outP, outK, outM, outX, outR, frz1, sl0, contL, look, cont, frz, preA, putA, stoA, storeS, ownR, lisR, backR, wipeR, freeR, plainSl, noEmp, Cor.asgT, setNames, eltA_m, inn2_m, biS, cmpS, binS, idxS, sliS, truS, truD, datS, seqS, keyD, dKey, negS, eqS, inS, ltS, leS, gtS, geS, isN, isS, lenB, tupB, lstB, absB, intB, divB, isiB, isiD, allB, anyB, sumB, minB, maxB, storeS, ixN, atD, intsD, leastI, mostI, sm, smS, small64, nthS, b82, c__law_right, R82, pool, h4, f]
theorem rep82 (w : WebOk p (wb ds)) (hsm : ∀ d ∈ ds, d.sm) (hd : ds.length ≤ 40) : ∃ Z, repB [.lst [wD p (wb ds), .list (ds.map dD)]] = some (.val (.str Z)) ∧ PyData.strOk Z = true := by
  have rd : Rp 1640 2 (.list (ds.map dD)) := (RpL.all (w := 40) (fun d hd => by
    obtain ⟨m, hm, rfl⟩ := List.mem_map.mp hd
    exact rp_dD (hsm m hm)) (by simp; omega)).lst
  have r1 : Rp 2064 4 (.list [wD p (wb ds), .list (ds.map dD)]) := (RpL.cons (w1 := 420) (w2 := 1641) (rp_wD w) (RpL.cons (w1 := 1640) (w2 := 0) (rd.mono (by omega) (by omega)) RpL.nil (by omega)) (by omega)).lst
  exact ⟨_, r1.listB (by omega) (by omega), strOk_shown _ r1.lo⟩
theorem t82_4 (p2 : 2 ≤ p) (p6 : p ≤ 6) (h : Gd p ds) (hl : ds.length ≤ 40) : ex g__law_right fuW (nthS b82 3) (R82 p s a b c s6 s7 s8 ds) = some (.nx (R82 p s a b c s6 s7 s8 ds)) := by
  have w := (Gd.web p2 p6 _ rfl h).1
  obtain ⟨Z, z1, z2⟩ := rep82 w (h.sm p2 p6) hl
  have e0 := atI_last (l := (preW ds).map (wD p)) (x := wD p (wb ds))
  simp [entR, outP, outK, outM, outX, outR, frz1, sl0, contL, look, cont, frz, preA, putA, stoA, storeS, ownR, lisR, backR, wipeR, freeR, plainSl, noEmp, Cor.asgT, setNames, eltA_m, inn2_m, biS, cmpS, binS, idxS, sliS, truS, truD, datS, seqS, keyD, dKey, negS, eqS, inS, ltS, leS, gtS, geS, isN, isS, lenB, tupB, lstB, absB, intB, divB, isiB, isiD, allB, anyB, sumB, minB, maxB, storeS, ixN, atD, intsD, leastI, mostI, sm, smS, small64, nthS, b82, c__law_right, R82, pool, bkS, contL, datL, e0, z1, z2]
theorem turn82 (p2 : 2 ≤ p) (p6 : p ≤ 6) (x : Nat) (h : Gd p ds) (hl : ds.length ≤ 30) : ∃ es a' b' c' s7' s8', (Cor.asgT (.nm 6) (.int x) (R82 p s a b c s6 s7 s8 ds)).bind (exB g__law_right fuW b82) = some (.nx (R82 p s a' b' c' (.val (.int x)) s7' s8' es)) ∧ Gd p es ∧ es.length ≤ ds.length + 1 := by
  obtain ⟨w, hs⟩ := Gd.web p2 p6 _ rfl h
  obtain ⟨d, a1, b1, c1, e1, dok⟩ := t82_1 (s := s) (a := a) (b := b) (c := c) (s6 := .val (.int x)) (s7 := s7) (s8 := s8) w
  obtain ⟨es1, e2, g2, l2⟩ := t82_2 (s := s) (a := a1) (b := b1) (c := c1) (s6 := .val (.int x)) (s8 := s8) h w hs (by omega) dok
  obtain ⟨es, a3, b3, c3, s8', e3, g3, l3⟩ := t82_3 (s := s) (a := a1) (b := b1) (c := c1) (s7 := .val (dD d)) (s8 := s8) x g2
  have e4 := t82_4 (s := s) (a := a3) (b := b3) (c := c3) (s6 := .val (.int x)) (s7 := .val (dD d)) (s8 := s8') p2 p6 g3 (by omega)
  refine ⟨es, a3, b3, c3, .val (dD d), s8', ?_, g3, by omega⟩
  show exB g__law_right fuW b82 (R82 p s a b c (.val (.int x)) s7 s8 ds) = _
  rw [b82_eq, exB_step e1, exB_step e2, exB_step e3, exB_step e4]
  rfl
end
end Cor
set_option Elab.async false
set_option linter.all false
set_option maxRecDepth 100000
set_option maxHeartbeats 4000000
/-! R4: all taken back as it is told (k82). -/
namespace Cor
open PySem PySem.Spec PyProof.Rows L2
/-- the deeds done again -/
theorem again82 {p : Int} {s : Bool} {ds : List Dd} (p2 : 2 ≤ p) (p6 : p ≤ 6) (h : Gd p ds) (hl : ds.length ≤ 40) (r0 r1 r2 r3 r4 r5 r6 r7 r8 r10 : Sl) :
    ∃ r10', forGo (Cor.asgT (.nm 10)) (exB g__law_right fuW (.cons (.exp (.mth 7 9 (.cons false (.var 10) .nil))) .nil)) (ds.map dD) [r0, r1, r2, r3, r4, r5, r6, r7, r8, bkS p s (wb []) [] ((preW []).map (wD p)), r10] = some (.nx [r0, r1, r2, r3, r4, r5, r6, r7, r8, bkS p s (wb ds) ds ((preW ds).map (wD p)), r10']) := by
  obtain ⟨ρ', f, r10', rfl⟩ := forGo_inv (asg := Cor.asgT (.nm 10)) (fb := exB g__law_right fuW (.cons (.exp (.mth 7 9 (.cons false (.var 10) .nil))) .nil)) (enc := dD) (xs := ds) (fun pre ρ => ∃ r10, ρ = [r0, r1, r2, r3, r4, r5, r6, r7, r8, bkS p s (wb pre) pre ((preW pre).map (wD p)), r10]) (fun pre x post e ρ ⟨r10, q⟩ => by
    subst q
    refine ⟨_, ?_, .val (dD x), rfl⟩
    obtain ⟨ok, rs⟩ := h pre x post e
    have g : Gd p pre := Gd.left (es := x :: post) (by rw [← e]; exact h)
    have lp : pre.length ≤ 40 := by
      have := congrArg List.length e
      simp at this; omega
    have w := (Gd.web p2 p6 _ rfl g).1
    have e1 := s_do p s (wb pre) pre ((preW pre).map (wD p)) x ok (by have := w.len; omega) (by omega) (by simp; omega)
    rw [rs] at e1
    unfold bkS at e1
    simp only [List.map_append, List.map_cons, List.map_nil] at e1
    simp [entR, outP, outK, outM, outX, outR, frz1, sl0, contL, look, cont, frz, preA, putA, stoA, storeS, ownR, lisR, backR, wipeR, freeR, plainSl, noEmp, Cor.asgT, setNames, eltA_m, inn2_m, biS, cmpS, binS, idxS, sliS, truS, truD, datS, seqS, keyD, dKey, negS, eqS, inS, ltS, leS, gtS, geS, isN, isS, lenB, tupB, lstB, absB, intB, divB, isiB, isiD, allB, anyB, sumB, minB, maxB, storeS, ixN, atD, intsD, leastI, mostI, sm, smS, small64, bkS, e1, okR]) (ρ := [r0, r1, r2, r3, r4, r5, r6, r7, r8, bkS p s (wb []) [] ((preW []).map (wD p)), r10]) ⟨r10, rfl⟩
  exact ⟨r10', f⟩
theorem can_toldD {p : Int} {ms : List M3} (s : Bool) : shp (toldD s p ms) = true := by
  unfold toldD
  refine shp_lstA fun d hd => ?_
  simp at hd
  rcases hd with rfl | rfl | rfl | rfl | rfl
  · exact ⟨by rfl, by simp [PyData.depth]⟩
  · cases s <;> exact ⟨by decide +kernel, by simp [kD, PyData.depth]⟩
  · exact ⟨(can_wD _ _).1, by have := (can_wD p ms).2; omega⟩
  · unfold tabD
    obtain ⟨h1, h2⟩ := canAll (ds := (tabL s p ms).map fun l => PyData.tuple (iL l)) (k := 1) fun d hd => by
      obtain ⟨l, _, rfl⟩ := List.mem_map.mp hd
      obtain ⟨j1, j2⟩ := canAll (ds := iL l) (k := 0) fun e he => by
        obtain ⟨i, _, rfl⟩ := List.mem_map.mp he
        exact ⟨by rfl, by simp [PyData.depth]⟩
      exact ⟨by simp [PyData.canLay0, j1], by simp [PyData.depth]; omega⟩
    exact ⟨by simp [PyData.canLay0, h1], by simp [PyData.depth]; omega⟩
  · exact ⟨by rfl, by simp [PyData.depth]⟩
theorem s_right (a b c : Int) : ∃ a' b' c', runM g__law_right fuW 11 1 c__law_right (pool a b c) [] = some (.bool true, pool a' b' c') := by
  obtain ⟨p, s, a1, b1, c1, e1, p2, p5⟩ := s_begun a b c
  have p6 : p ≤ 6 := by omega
  have e2 := s_book p s p2 (by omega)
  have e3 := s_undone0 p s [] []
  obtain ⟨ρ1, f1, ds, a2, b2, c2, s6, s7, s8, g, l, rfl⟩ := forGo_inv (asg := Cor.asgT (.nm 6)) (fb := exB g__law_right fuW b82) (enc := fun (i : Nat) => PyData.int i) (xs := List.range 22) (fun pre ρ => ∃ ds a b c s6 s7 s8, Gd p ds ∧ ds.length ≤ pre.length ∧ ρ = R82 p s a b c s6 s7 s8 ds) (fun pre x post hx ρ ⟨ds, a, b, c, s6, s7, s8, g, l, e⟩ => by
      subst e
      have hl : pre.length ≤ 22 := by
        have := congrArg List.length hx
        simp at this; omega
      obtain ⟨es, a', b', c', s7', s8', e, g', l'⟩ := turn82 (s := s) (a := a) (b := b) (c := c) (s6 := s6) (s7 := s7) (s8 := s8) p2 p6 x g (by omega)
      exact ⟨_, e, es, a', b', c', _, s7', s8', g', by rw [List.length_append, List.length_singleton]; omega, rfl⟩) (ρ := R82 p s a1 b1 c1 .emp .emp .emp []) ⟨[], a1, b1, c1, .emp, .emp, .emp, Gd.nil, by simp, rfl⟩
  have l22 : ds.length ≤ 22 := by simpa using l
  obtain ⟨w, hs⟩ := Gd.web p2 p6 _ rfl g
  refine ⟨a2, b2, c2, (runM_eq rfl).trans ?_⟩
  obtain ⟨r10, f2⟩ := again82 (s := s) p2 p6 g (by omega) (pool a2 b2 c2) (.val (.int p)) (.val (kD s)) (bkS p s (wb ds) ds ((preW ds).map (wD p))) (.val (.list (ds.map dD))) (.lst ((preW ds).map (wD p) ++ [wD p (wb ds)])) s6 s7 s8 .emp
  have e4 := s_eq p s (wb ds) (wb ds) ds ((preW ds).map (wD p)) ((preW ds).map (wD p))
  have e5 := s_told w s ds ((preW ds).map (wD p))
  have k1 := can_toldD (p := p) (ms := wb ds) s
  have k2 := eqv_shp k1
  simp only [b82, c__law_right] at f1
  have q22 : rngD 0 22 = (List.range 22).map fun (i : Nat) => PyData.int i := rngD_nat 22
  unfold pool at e1
  unfold R82 pool bkS at f1
  unfold pool bkS at f2
  unfold bkS at e2 e3 e4 e5
  simp only [List.map_nil, wb_nil, preW_nil, List.nil_append] at f1 f2 e2 e3
  have wf : PyData.tuple [.int p, .tuple []] = wD p [] := rfl
  simp [entR, outP, outK, outM, outX, outR, frz1, sl0, contL, look, cont, frz, preA, putA, stoA, storeS, ownR, lisR, backR, wipeR, freeR, plainSl, noEmp, Cor.asgT, setNames, eltA_m, inn2_m, biS, cmpS, binS, idxS, sliS, truS, truD, datS, seqS, keyD, dKey, negS, eqS, inS, ltS, leS, gtS, geS, isN, isS, lenB, tupB, lstB, absB, intB, divB, isiB, isiD, allB, anyB, sumB, minB, maxB, storeS, ixN, atD, intsD, leastI, mostI, sm, smS, small64, c__law_right, pool, bkS, wf, e1, e2, e3, q22, f1, f2, e4, e5, k1, k2, eqTwo]
end Cor
set_option Elab.async false
set_option linter.all false
set_option maxRecDepth 100000
set_option maxHeartbeats 4000000
/-! Plaw: the law out of its turns. -/
namespace Cor
open PySem PySem.Spec PyProof.Rows L2
def v_law : List PyData → Option PyData := runP g_law fuW 2 1 c_law
theorem s_law (ns : List Int) (hl : ns.length ≤ 63) : v_law [.list (ns.map .int)] = some (.bool true) := by
  unfold v_law
  refine (runP_eq rfl).trans ?_
  obtain ⟨n, hn, hn3⟩ : ∃ n : Nat, (n : Int) = (if (if (3 : Int) < ns.length then (3 : Int) else ns.length) > 2 then (if (3 : Int) < ns.length then (3 : Int) else ns.length) else 2) ∧ n ≤ 3 := by
    by_cases c : (3 : Int) < ns.length
    · exact ⟨3, by simp [c], by omega⟩
    · by_cases c2 : (ns.length : Int) > 2
      · exact ⟨ns.length, by simp [c, c2], by omega⟩
      · exact ⟨2, by simp [c, c2], by omega⟩
  have lc := compGo_pure (ρ0 := [.val (.list (iL ns)), .emp]) (vs := [1]) (asg := Cor.asgT (.nm 1)) (fc := evT g_law .yes) (fe := eltA g_law (.cal 0 (.cons false (.cal 1 (.cons false (.var 0) (.cons false (.var 1) (.nil)))) (.nil)))) (enc := fun (i : Nat) => PyData.int i)
    (fun _ => true) (fun _ => .bool true) (xs := List.range n) (fun k hk acc => by
      obtain ⟨a, b, c, e1⟩ := s_pool ns k (by omega)
      obtain ⟨a', b', c', e2⟩ := s_right a b c
      unfold pool at e1 e2
      simp only [iL_fold] at e1
      simp [compT_m, entR, outP, outK, outM, outX, outR, frz1, sl0, contL, look, cont, frz, preA, putA, stoA, storeS, ownR, lisR, backR, wipeR, freeR, plainSl, noEmp, Cor.asgT, setNames, eltA_m, inn2_m, biS, cmpS, binS, idxS, sliS, truS, truD, datS, seqS, keyD, dKey, negS, eqS, inS, ltS, leS, gtS, geS, isN, isS, lenB, tupB, lstB, absB, intB, divB, isiB, isiD, allB, anyB, sumB, minB, maxB, storeS, ixN, atD, intsD, leastI, mostI, sm, smS, small64, e1, e2]) []
  rw [List.filter_eq_self.mpr (by simp), List.nil_append] at lc
  have hb : bolsD ((List.range n).map fun _ => PyData.bool true) = some ((List.range n).map fun _ => true) := by
    generalize List.range n = l
    induction l with
    | nil => rfl
    | cons x l ih => simp [bolsD, ih]
  have l1 : (n : Int) < 100000 := by omega
  have l2 : (-100000 : Int) < n := by omega
  have l3 : n ≤ 100000 := by omega
  have l4 : (ns.length : Int) ≤ 100000 := by omega
  by_cases c : (3 : Int) < ns.length
  · simp [c] at hn
    have : n = 3 := by omega
    subst this
    have q3 : rngD 0 3 = (List.range 3).map fun (i : Nat) => PyData.int i := rngD_nat 3
    simp [entR, outP, outK, outM, outX, outR, frz1, sl0, contL, look, cont, frz, preA, putA, stoA, storeS, ownR, lisR, backR, wipeR, freeR, plainSl, noEmp, Cor.asgT, setNames, eltA_m, inn2_m, biS, cmpS, binS, idxS, sliS, truS, truD, datS, seqS, keyD, dKey, negS, eqS, inS, ltS, leS, gtS, geS, isN, isS, lenB, tupB, lstB, absB, intB, divB, isiB, isiD, allB, anyB, sumB, minB, maxB, storeS, ixN, atD, intsD, leastI, mostI, sm, smS, small64, c_law, c, q3, lc, hb]
  · by_cases c2 : (2 : Int) < ns.length
    · simp [c, c2] at hn
      have h3 : (ns.length : Int) = 3 := by omega
      have : n = 3 := by omega
      subst this
      have q3 : rngD 0 3 = (List.range 3).map fun (i : Nat) => PyData.int i := rngD_nat 3
      simp [entR, outP, outK, outM, outX, outR, frz1, sl0, contL, look, cont, frz, preA, putA, stoA, storeS, ownR, lisR, backR, wipeR, freeR, plainSl, noEmp, Cor.asgT, setNames, eltA_m, inn2_m, biS, cmpS, binS, idxS, sliS, truS, truD, datS, seqS, keyD, dKey, negS, eqS, inS, ltS, leS, gtS, geS, isN, isS, lenB, tupB, lstB, absB, intB, divB, isiB, isiD, allB, anyB, sumB, minB, maxB, storeS, ixN, atD, intsD, leastI, mostI, sm, smS, small64, c_law, h3, q3, lc, hb]
    · simp [c, c2] at hn
      have : n = 2 := by omega
      subst this
      have q3 : rngD 0 2 = (List.range 2).map fun (i : Nat) => PyData.int i := rngD_nat 2
      simp [entR, outP, outK, outM, outX, outR, frz1, sl0, contL, look, cont, frz, preA, putA, stoA, storeS, ownR, lisR, backR, wipeR, freeR, plainSl, noEmp, Cor.asgT, setNames, eltA_m, inn2_m, biS, cmpS, binS, idxS, sliS, truS, truD, datS, seqS, keyD, dKey, negS, eqS, inS, ltS, leS, gtS, geS, isN, isS, lenB, tupB, lstB, absB, intB, divB, isiB, isiD, allB, anyB, sumB, minB, maxB, storeS, ixN, atD, intsD, leastI, mostI, sm, smS, small64, c_law, c, c2, q3, lc, hb]
end Cor
set_option Elab.async false
set_option linter.all false
set_option maxRecDepth 100000
set_option maxHeartbeats 0
namespace Cor
open PySem PySem.Spec PyProof.Rows L2
section
variable {P : Program} {w : World} {K : PySem.W.Frag} {mg : Str → Option Value} {base : Heap}
theorem body_law (B : Blts mg) (h__law_right : CallOk P w K mg base 9 "_law_right" f__law_right) (h__law_pool : CallOk P w K mg base 1 "_law_pool" f__law_pool) : ∀ (W : WX) (X : Cx), Ctx P w K mg base 9 true ["script", "turn"] (defScope (top 64)) X → Takes X W → PSs X (defBody (top 64)) (tB K W g_law fuW (fun _ => false) c_law) := fun _ _ C T =>
    z_cons C (z_ret C (w_bi C .all B (q_cons C (w_comp C [("turn", 1)] (i_rng1 C B (w_bi C .mx B (q_cons C (w_int C) (q_cons C (w_bi C .mn B (q_cons C (w_bi C .len B (q_cons C (w_var C 0) (q_nil C))) (q_cons C (w_int C) (q_nil C)))) (q_nil C))))) (fun _ C' => x_nm C' 1) (fun _ C' => y_yes C') (fun _ C' => w_calM C' 0 (h__law_right.mono (by decide)) (w_cal C' 1 (h__law_pool.mono (by decide)) (w_cons C' (w_var C' 0) (w_cons C' (w_var C' 1) (w_nil C')))) (w_nil C'))) (q_nil C))))
    (z_nil C)
end
theorem facts {P : Program} {w : World} {K : PySem.W.Frag} {h : Heap} {mg : Str → Option Value} {f : Addr} (X : K.In h) (G : h.Ns mainGlobals mg) (hfa : mg ("law" : Str) = some (.ref f)) (c : He.SaysX fa fn ts [] hEx w h K) :
    ∃ fd : FuncData, (∀ (s : Shared) (u : Value), BindsTo s fd ⟨[u], []⟩ [("script", u)]) ∧ ∀ base : Heap, K.In base → base.Ns mainGlobals mg → FnC P w K mg base CX0 10 f fd ["script"] (spF K (.pur v_law)) := by
  have exk : ∀ (i : Nat) {t : PySem.W.Frag → Bool}, (h : exl[i]? = some t := by rfl) → t K = true := fun i t h => List.all_eq_true.mp (show (exl.all fun t => t K) = true from c.more) t (List.mem_of_getElem? h)
  have B : Blts mg := fun x hx => by
    simp only [bltL, List.mem_cons, List.not_mem_nil, or_false] at hx
    rcases hx with rfl | rfl | rfl | rfl | rfl | rfl | rfl | rfl | rfl | rfl | rfl | rfl | rfl | rfl | rfl | rfl | rfl | rfl | rfl | rfl | rfl
    · exact He.free_ok X G (c.t.d.fact 0)
    · exact He.free_ok X G (c.t.d.fact 1)
    · exact He.free_ok X G (c.t.d.fact 2)
    · exact He.free_ok X G (c.t.d.fact 3)
    · exact He.free_ok X G (c.t.d.fact 4)
    · exact He.free_ok X G (c.t.d.fact 5)
    · exact He.free_ok X G (c.t.d.fact 6)
    · exact He.free_ok X G (c.t.d.fact 7)
    · exact He.free_ok X G (c.t.d.fact 8)
    · exact He.free_ok X G (c.t.d.fact 9)
    · exact He.free_ok X G (c.t.d.fact 10)
    · exact He.free_ok X G (c.t.d.fact 11)
    · exact He.free_ok X G (c.t.d.fact 12)
    · exact He.free_ok X G (c.t.d.fact 13)
    · exact He.free_ok X G (c.t.d.fact 14)
    · exact He.free_ok X G (c.t.d.fact 15)
    · exact He.free_ok X G (c.t.d.fact 16)
    · exact He.free_ok X G (c.t.d.fact 17)
    · exact He.free_ok X G (c.t.d.fact 18)
    · exact He.free_ok X G (c.t.d.fact 19)
    · exact He.free_ok X G (c.t.d.fact 20)
  have h_is_whole : ∀ base : Heap, CallOk P w K mg base 1 "is_whole" f_is_whole := fun base => ok_is_whole (def_of (st := top 8) (c.t.d.def_ 0) (He.glo_ok X G (c.t.d.fact 21))) B 
  have h_is_number__1 : ∀ base : Heap, CallOk P w K mg base 2 "is_number" f_is_number__1 := fun base => ok_is_number__1 (defD_of (st := top 9) (c.t.d.def_ 1) (He.glo_ok X G (c.t.d.fact 22))) B (h_is_whole base)
  have h_is_between : ∀ base : Heap, CallOk P w K mg base 2 "is_between" f_is_between := fun base => ok_is_between (def_of (st := top 10) (c.t.d.def_ 2) (He.glo_ok X G (c.t.d.fact 23))) B (h_is_whole base)
  have h_is_string : ∀ base : Heap, CallOk P w K mg base 1 "is_string" f_is_string := fun base => ok_is_string (def_of (st := top 11) (c.t.d.def_ 3) (He.glo_ok X G (c.t.d.fact 24))) B 
  have k_MOST_PLACES : CstOk K mg "MOST_PLACES" (.int 6) := cst_int (fun _ => True) (He.int_ok X G (c.t.d.fact 25))
  have k_FEWEST_PLACES : CstOk K mg "FEWEST_PLACES" (.int 2) := cst_int (fun _ => True) (He.int_ok X G (c.t.d.fact 26))
  have h_is_places : ∀ base : Heap, CallOk P w K mg base 3 "is_places" f_is_places := fun base => ok_is_places (def_of (st := top 20) (c.t.d.def_ 4) (He.glo_ok X G (c.t.d.fact 27))) B (h_is_between base) k_MOST_PLACES k_FEWEST_PLACES
  have k_KINDS : CstOk K mg "KINDS" (.tuple [(.str "strict"), (.str "loose")]) := ⟨.ref (He.ga K "KINDS"), _, (He.glo_ok X G (c.t.d.fact 28)), rfl, .tup (He.tupB_ok (exk 0) _) (.cons (.str _) (.cons (.str _) (.nil)))⟩
  have h_is_kind : ∀ base : Heap, CallOk P w K mg base 2 "is_kind" f_is_kind := fun base => ok_is_kind (def_of (st := top 21) (c.t.d.def_ 5) (He.glo_ok X G (c.t.d.fact 29))) B (h_is_string base) k_KINDS
  have h_is_place : ∀ base : Heap, CallOk P w K mg base 3 "is_place" f_is_place := fun base => ok_is_place (def_of (st := top 23) (c.t.d.def_ 6) (He.glo_ok X G (c.t.d.fact 30))) B (h_is_between base)
  have k_MOST_TIME : CstOk K mg "MOST_TIME" (.int 20) := cst_int (fun _ => True) (He.int_ok X G (c.t.d.fact 31))
  have h_is_time : ∀ base : Heap, CallOk P w K mg base 3 "is_time" f_is_time := fun base => ok_is_time (def_of (st := top 24) (c.t.d.def_ 7) (He.glo_ok X G (c.t.d.fact 32))) B (h_is_between base) k_MOST_TIME
  have h_is_meeting : ∀ base : Heap, CallOk P w K mg base 3 "is_meeting" f_is_meeting := fun base => ok_is_meeting (def_of (st := top 25) (c.t.d.def_ 8) (He.glo_ok X G (c.t.d.fact 33))) B (h_is_between base)
  have h_ends_of : ∀ base : Heap, CallOk P w K mg base 1 "ends_of" f_ends_of := fun base => ok_ends_of (def_of (st := top 26) (c.t.d.def_ 9) (He.glo_ok X G (c.t.d.fact 34))) B 
  have h_made_web : ∀ base : Heap, CallOk P w K mg base 1 "made_web" f_made_web := fun base => ok_made_web (def_of (st := top 27) (c.t.d.def_ 10) (He.glo_ok X G (c.t.d.fact 35))) B 
  have h_without_by : ∀ base : Heap, CallOk P w K mg base 1 "without_by" f_without_by := fun base => ok_without_by (def_of (st := top 28) (c.t.d.def_ 11) (He.glo_ok X G (c.t.d.fact 36))) B 
  have k_STRICT : CstOk K mg "STRICT" (.str "strict") := cst_str (He.str_ok X G (c.t.d.fact 37))
  have h_led_at : ∀ base : Heap, CallOk P w K mg base 1 "led_at" f_led_at := fun base => ok_led_at (def_of (st := top 29) (c.t.d.def_ 12) (He.glo_ok X G (c.t.d.fact 38))) B k_STRICT
  have h_arrivals_by : ∀ base : Heap, CallOk P w K mg base 2 "arrivals_by" f_arrivals_by := fun base => ok_arrivals_by (def_of (st := top 30) (c.t.d.def_ 13) (He.glo_ok X G (c.t.d.fact 39))) B (h_ends_of base) (h_led_at base) k_MOST_TIME
  have h_come_by : ∀ base : Heap, CallOk P w K mg base 3 "come_by" f_come_by := fun base => ok_come_by (def_of (st := top 31) (c.t.d.def_ 14) (He.glo_ok X G (c.t.d.fact 40))) B (h_arrivals_by base)
  have h_table_by : ∀ base : Heap, CallOk P w K mg base 4 "table_by" f_table_by := fun base => ok_table_by (def_of (st := top 32) (c.t.d.def_ 15) (He.glo_ok X G (c.t.d.fact 41))) B (h_come_by base)
  have h_deaf_by : ∀ base : Heap, CallOk P w K mg base 5 "deaf_by" f_deaf_by := fun base => ok_deaf_by (def_of (st := top 33) (c.t.d.def_ 16) (He.glo_ok X G (c.t.d.fact 42))) B (h_table_by base)
  have h_is_whole_by : ∀ base : Heap, CallOk P w K mg base 6 "is_whole_by" f_is_whole_by := fun base => ok_is_whole_by (def_of (st := top 34) (c.t.d.def_ 17) (He.glo_ok X G (c.t.d.fact 43))) B (h_deaf_by base)
  have d_SIZES : WrtOk K w mg "SIZES" [("meet", 4), ("strike", 2), ("move", 3)] := wrtB_ok X G (exk 1) (c.t.tab 0)
  have h_has_form : ∀ base : Heap, CallOk P w K mg base 2 "has_form" f_has_form := fun base => ok_has_form (def_of (st := top 41) (c.t.d.def_ 18) (He.glo_ok X G (c.t.d.fact 44))) B (h_is_string base) d_SIZES
  have e_InvalidKind : ∀ base : Heap, ErrOk P w K mg base "InvalidKind" "given" := fun base => err_of (g := "given") (st := (inClass (top 3) 0)) (errB_ok X G (exk 2)) (c.t.d.def_ 19) ⟨rfl, rfl, rfl, by decide +kernel, rfl, by decide +kernel, by decide +kernel⟩ (fun _ _ _ _ _ _ _ _ us hl => match us, hl with | [_, _], _ => rfl) fun X hK hN hs => by
    obtain ⟨rfl⟩ := hK
    exact pss_one (ps_ost (pv 0 (by rw [hN]; rfl) (by rw [hs]; first | exact Or.inl rfl | exact Or.inr (Or.inl rfl))) (pv 1 (by rw [hN]; rfl) (by rw [hs]; first | exact Or.inl rfl | exact Or.inr (Or.inl rfl))))
  have h_check_kind : ∀ base : Heap, CallXOk P w K mg base 3 "check_kind" x_check_kind := fun base => ok_check_kind (def_of (st := top 22) (c.t.d.def_ 20) (He.glo_ok X G (c.t.d.fact 45))) B (h_is_kind base) (e_InvalidKind base)
  have e_InvalidDeed : ∀ base : Heap, ErrOk P w K mg base "InvalidDeed" "index" := fun base => err_of (g := "index") (st := (inClass (top 4) 0)) (errB_ok X G (exk 3)) (c.t.d.def_ 21) ⟨rfl, rfl, rfl, by decide +kernel, rfl, by decide +kernel, by decide +kernel⟩ (fun _ _ _ _ _ _ _ _ us hl => match us, hl with | [_, _], _ => rfl) fun X hK hN hs => by
    obtain ⟨rfl⟩ := hK
    exact pss_one (ps_ost (pv 0 (by rw [hN]; rfl) (by rw [hs]; first | exact Or.inl rfl | exact Or.inr (Or.inl rfl))) (pv 1 (by rw [hN]; rfl) (by rw [hs]; first | exact Or.inl rfl | exact Or.inr (Or.inl rfl))))
  have h_check_meet : ∀ base : Heap, CallXOk P w K mg base 4 "check_meet" x_check_meet := fun base => ok_check_meet (def_of (st := top 42) (c.t.d.def_ 22) (He.glo_ok X G (c.t.d.fact 46))) B (h_is_time base) (h_is_place base) (e_InvalidDeed base)
  have h_check_deed : ∀ base : Heap, CallXOk P w K mg base 5 "check_deed" x_check_deed := fun base => ok_check_deed (def_of (st := top 43) (c.t.d.def_ 23) (He.glo_ok X G (c.t.d.fact 47))) B (h_has_form base) (h_check_meet base) (h_is_number__1 base) (h_is_time base) (e_InvalidDeed base)
  have h_meeting_of : ∀ base : Heap, CallOk P w K mg base 1 "meeting_of" f_meeting_of := fun base => ok_meeting_of (def_of (st := top 44) (c.t.d.def_ 24) (He.glo_ok X G (c.t.d.fact 48))) B 
  have k_SAME : CstOk K mg "SAME" (.str "same") := cst_str (He.str_ok X G (c.t.d.fact 49))
  have k_HAD : CstOk K mg "HAD" (.str "had") := cst_str (He.str_ok X G (c.t.d.fact 50))
  have h_reason_to_move : ∀ base : Heap, CallOk P w K mg base 2 "reason_to_move" f_reason_to_move := fun base => ok_reason_to_move (def_of (st := top 46) (c.t.d.def_ 25) (He.glo_ok X G (c.t.d.fact 51))) B (h_meeting_of base) k_SAME k_HAD
  have k_MOST_MEETINGS : CstOk K mg "MOST_MEETINGS" (.int 12) := cst_int (fun _ => True) (He.int_ok X G (c.t.d.fact 52))
  have k_FULL : CstOk K mg "FULL" (.str "full") := cst_str (He.str_ok X G (c.t.d.fact 53))
  have k_NONE : CstOk K mg "NONE" (.str "none") := cst_str (He.str_ok X G (c.t.d.fact 54))
  have h_reason_against : ∀ base : Heap, CallOk P w K mg base 4 "reason_against" f_reason_against := fun base => ok_reason_against (def_of (st := top 45) (c.t.d.def_ 26) (He.glo_ok X G (c.t.d.fact 55))) B (h_meeting_of base) (h_is_meeting base) (h_reason_to_move base) k_HAD k_MOST_MEETINGS k_FULL k_NONE
  have h_web_behind : ∀ base : Heap, CallOk P w K mg base 2 "web_behind" f_web_behind := fun base => ok_web_behind (def_of (st := top 47) (c.t.d.def_ 27) (He.glo_ok X G (c.t.d.fact 56))) B (h_without_by base) (h_made_web base) (h_meeting_of base)
  have TB : BkTxt K (He.ga K "Book") := ⟨(nsg_ok (c.t.d.fact 57)), He.cls_ok (c.t.d.fact 58), fun f hf => by
    simp only [List.mem_cons, List.not_mem_nil, or_false] at hf
    rcases hf with rfl | rfl | rfl | rfl | rfl
    · exact He.noat_ok (c.t.d.fact 59)
    · exact He.noat_ok (c.t.d.fact 60)
    · exact He.noat_ok (c.t.d.fact 61)
    · exact He.noat_ok (c.t.d.fact 62)
    · exact He.noat_ok (c.t.d.fact 63)⟩
  have e_InvalidNumber : ∀ base : Heap, ErrOk P w K mg base "InvalidNumber" "given" := fun base => err_of (g := "given") (st := (inClass (top 2) 0)) (errB_ok X G (exk 4)) (c.t.d.def_ 28) ⟨rfl, rfl, rfl, by decide +kernel, rfl, by decide +kernel, by decide +kernel⟩ (fun _ _ _ _ _ _ _ _ us hl => match us, hl with | [_, _], _ => rfl) fun X hK hN hs => by
    obtain ⟨rfl⟩ := hK
    exact pss_one (ps_ost (pv 0 (by rw [hN]; rfl) (by rw [hs]; first | exact Or.inl rfl | exact Or.inr (Or.inl rfl))) (pv 1 (by rw [hN]; rfl) (by rw [hs]; first | exact Or.inl rfl | exact Or.inr (Or.inl rfl))))
  have h_Book : ∀ base : Heap, CallOk P w K mg base 5 "Book" f_Book := fun base => ok_Book TB (defM_of (st := (inClass (top 48) 0)) (c.t.d.def_ 29) (He.meth_ok (c.t.d.fact 65))) (He.glo_ok X G (c.t.d.fact 57)) (He.mkr_ok (c.t.d.fact 64)).makes (He.mkr_ok (c.t.d.fact 64)).kp B (h_is_places base) (h_check_kind base) (e_InvalidNumber base)
  have e_Barred : ∀ base : Heap, ErrOk P w K mg base "Barred" "reason" := fun base => err_of (g := "reason") (st := (inClass (top 5) 0)) (errB_ok X G (exk 5)) (c.t.d.def_ 30) ⟨rfl, rfl, rfl, by decide +kernel, rfl, by decide +kernel, by decide +kernel⟩ (fun _ _ _ _ _ _ _ _ us hl => match us, hl with | [_, _], _ => rfl) fun X hK hN hs => by
    obtain ⟨rfl⟩ := hK
    exact pss_one (ps_ost (pv 0 (by rw [hN]; rfl) (by rw [hs]; first | exact Or.inl rfl | exact Or.inr (Or.inl rfl))) (pv 1 (by rw [hN]; rfl) (by rw [hs]; first | exact Or.inl rfl | exact Or.inr (Or.inl rfl))))
  have h_Book_do_K : ∀ base : Heap, MethKOk P w K mg base 6 "do" ["deed"] x_Book_do := fun base => okK_Book_do TB (defM_of (st := (inClass (top 48) 1)) (c.t.d.def_ 31) (He.meth_ok (c.t.d.fact 66))) B (h_check_deed base) (h_reason_against base) (h_web_behind base) (e_Barred base)
  have h_Book_do : ∀ base : Heap, MethXOk P w K mg base 6 "do" x_Book_do := fun base => ok_Book_do TB (defM_of (st := (inClass (top 48) 1)) (c.t.d.def_ 31) (He.meth_ok (c.t.d.fact 66))) B (h_check_deed base) (h_reason_against base) (h_web_behind base) (e_Barred base)
  have e_NothingToUndo : Err0 K mg "NothingToUndo" (He.ga K "NothingToUndo") := ⟨(nsg_ok (c.t.d.fact 67)), (He.glo_ok X G (c.t.d.fact 67)), (He.exc_ok (c.t.d.fact 68)).1, (He.exc_ok (c.t.d.fact 68)).2.1, (He.exc_ok (c.t.d.fact 68)).2.2.1, (He.exc_ok (c.t.d.fact 68)).2.2.2⟩
  have h_Book_undo : ∀ base : Heap, MethXOk P w K mg base 3 "undo" x_Book_undo := fun base => ok_Book_undo TB (defM_of (st := (inClass (top 48) 2)) (c.t.d.def_ 32) (He.meth_ok (c.t.d.fact 69))) B e_NothingToUndo
  have h_Book_table : ∀ base : Heap, MethOk P w K mg base 5 "table" f_Book_table := fun base => ok_Book_table TB (defM_of (st := (inClass (top 48) 3)) (c.t.d.def_ 33) (He.meth_ok (c.t.d.fact 70))) B (h_table_by base)
  have h_Book_is_whole : ∀ base : Heap, MethOk P w K mg base 7 "is_whole" f_Book_is_whole := fun base => ok_Book_is_whole TB (defM_of (st := (inClass (top 48) 4)) (c.t.d.def_ 34) (He.meth_ok (c.t.d.fact 71))) B (h_is_whole_by base)
  have h_led_by : ∀ base : Heap, CallOk P w K mg base 1 "led_by" f_led_by := fun base => ok_led_by TB (def_of (st := top 49) (c.t.d.def_ 35) (He.glo_ok X G (c.t.d.fact 72))) B 
  have EQ : BkEq K (He.ga K "Book") := ⟨insB_ok (He.cls_ok (c.t.d.fact 58)) (exk 6), fun t ht => by
    simp only [List.mem_cons, List.not_mem_nil, or_false] at ht
    rcases ht with rfl | rfl | rfl | rfl
    · exact (exk 7)
    · exact (exk 8)
    · exact (exk 9)
    · exact (exk 10), fun t ht => by
    simp only [List.mem_cons, List.not_mem_nil, or_false] at ht
    rcases ht with rfl | rfl | rfl | rfl
    · exact of_decide_eq_true (exk 11)
    · exact of_decide_eq_true (exk 12)
    · exact of_decide_eq_true (exk 13)
    · exact of_decide_eq_true (exk 14)⟩
  have hmB := (He.glo_ok X G (c.t.d.fact 57))
  have h_Book___eq__ : ∀ base : Heap, EqOk P w K mg base 2 t_Book___eq__ := fun base => ok_Book___eq__ TB EQ hmB (defM_of (st := (inClass (top 48) 5)) (c.t.d.def_ 36) (He.meth_ok (c.t.d.fact 73))) B (h_led_by base)
  have h__law_pool : ∀ base : Heap, CallOk P w K mg base 1 "_law_pool" f__law_pool := fun base => ok__law_pool (def_of (st := top 51) (c.t.d.def_ 37) (He.glo_ok X G (c.t.d.fact 74))) B 
  have h__law_draw : ∀ base : Heap, CallOk P w K mg base 1 "_law_draw" f__law_draw := fun base => ok__law_draw (def_of (st := top 52) (c.t.d.def_ 38) (He.glo_ok X G (c.t.d.fact 75))) B 
  have h__law_pick : ∀ base : Heap, CallOk P w K mg base 2 "_law_pick" f__law_pick := fun base => ok__law_pick (def_of (st := top 53) (c.t.d.def_ 39) (He.glo_ok X G (c.t.d.fact 76))) B (h__law_draw base)
  have h__law_kind : ∀ base : Heap, CallOk P w K mg base 3 "_law_kind" f__law_kind := fun base => ok__law_kind (def_of (st := top 54) (c.t.d.def_ 40) (He.glo_ok X G (c.t.d.fact 77))) B (h__law_pick base)
  have h__law_two : ∀ base : Heap, CallOk P w K mg base 2 "_law_two" f__law_two := fun base => ok__law_two (def_of (st := top 55) (c.t.d.def_ 41) (He.glo_ok X G (c.t.d.fact 78))) B (h__law_draw base)
  have h__law_begun : ∀ base : Heap, CallOk P w K mg base 4 "_law_begun" f__law_begun := fun base => ok__law_begun (def_of (st := top 57) (c.t.d.def_ 42) (He.glo_ok X G (c.t.d.fact 79))) B (h__law_kind base) (h__law_draw base)
  have h__law_deed : ∀ base : Heap, CallOk P w K mg base 3 "_law_deed" f__law_deed := fun base => ok__law_deed (def_of (st := top 58) (c.t.d.def_ 43) (He.glo_ok X G (c.t.d.fact 80))) B (h__law_draw base) (h__law_two base) (h__law_pick base)
  have h__law_triple : ∀ base : Heap, CallOk P w K mg base 1 "_law_triple" f__law_triple := fun base => ok__law_triple (def_of (st := top 59) (c.t.d.def_ 44) (He.glo_ok X G (c.t.d.fact 81))) B 
  have h__law_after : ∀ base : Heap, CallOk P w K mg base 2 "_law_after" f__law_after := fun base => ok__law_after (def_of (st := top 60) (c.t.d.def_ 45) (He.glo_ok X G (c.t.d.fact 82))) B (h__law_triple base)
  have h__law_barred : ∀ base : Heap, CallOk P w K mg base 7 "_law_barred" f__law_barred := fun base => ok__law_barred TB (def_of (st := top 56) (c.t.d.def_ 46) (He.glo_ok X G (c.t.d.fact 83))) (h_Book_do base) ⟨(nsg_ok (c.t.d.fact 84)), (He.glo_ok X G (c.t.d.fact 84))⟩ (errRB_ok (exk 15)) (He.exm_ok (c.t.d.fact 85))
  have h__law_told : ∀ base : Heap, CallOk P w K mg base 8 "_law_told" f__law_told := fun base => ok__law_told TB (def_of (st := top 61) (c.t.d.def_ 47) (He.glo_ok X G (c.t.d.fact 86))) B (h_Book_is_whole base) (h_Book_table base)
  have h__law_undone : ∀ base : Heap, CallOk P w K mg base 4 "_law_undone" f__law_undone := fun base => ok__law_undone TB (def_of (st := top 62) (c.t.d.def_ 48) (He.glo_ok X G (c.t.d.fact 87))) B (h_Book_undo base) ⟨(nsg_ok (c.t.d.fact 67)), (He.glo_ok X G (c.t.d.fact 67))⟩ ⟨(nsg_ok (c.t.d.fact 88)), (He.glo_ok X G (c.t.d.fact 88))⟩ (excCB_ok (exk 16)) (He.exm_ok (c.t.d.fact 89)) (of_decide_eq_true (exk 17))
  have h__law_right : ∀ base : Heap, CallOk P w K mg base 9 "_law_right" f__law_right := fun base => ok__law_right TB (def_of (st := top 63) (c.t.d.def_ 49) (He.glo_ok X G (c.t.d.fact 90))) B (h__law_begun base) (h_Book base) (h__law_undone base) (h__law_deed base) (h__law_barred base) (h__law_after base) (h__law_pick base) (h_Book_do_K base) (h_Book___eq__ base) (h__law_told base)
  have e := hfa.symm.trans (He.glo_ok X G (c.t.d.fact 91))
  cases e
  exact law_fn (G := g_law) (fu := fuW) (N := ["script", "turn"]) (b := c_law) (def_of (st := top 64) (c.t.d.def_ 50) (He.glo_ok X G (c.t.d.fact 91))) (by decide +kernel) (fun _ _ _ _ _ _ _ _ us hl => match us, hl with | [_], _ => rfl) fun base kb nb => body_law B (h__law_right base) (h__law_pool base)
end Cor
open PySem PySem.W PySem.Calls PyProof.Rows
theorem PySem.Challenge.cw_timedways_k82_whole_taken_back_holds : PySem.Challenge.rw_timedways_k82_whole_taken_back.Holds := by
  w_on; o_law
  refine HandSHeadRun.head_any (r := OpenLaw.row PySem.Challenge.rw_timedways_k82_whole_taken_back) (q := view (OpenLaw.row PySem.Challenge.rw_timedways_k82_whole_taken_back).prog [64]) (H := Cor.hk) (ob := Cor.ob) (M := 4000) (loose := Cor.loose) (d := HandSHeadRun.topDef (OpenLaw.row PySem.Challenge.rw_timedways_k82_whole_taken_back).prog 64) (kwd := []) Cor.ob_eq
    (by kernel_rfl) (fun s => by kernel_rfl) Cor.run (by kernel_rfl) (by kernel_rfl) (by kernel_rfl) (by rfl) (by first | assumption | decide +kernel) (by decide +kernel) ⟨rfl, rfl, rfl, rfl, rfl, by decide +kernel⟩ ?hw ?hc
  case hw => w_witness2
  case hc =>
    refine Cor.walk_CE (l := PySem.Challenge.rw_timedways_k82_whole_taken_back) (n := 63) (k := 10) (x := "script") (fn := Cor.v_law) rfl (by decide) (by kernel_rfl) ⟨rfl, by decide, by decide⟩ ?F (fun ns hl => Cor.s_law ns hl)
    intro w mg fa h Y G hmg0
    obtain ⟨K, KX, c⟩ := Y
    have hmg : mg ("law" : PySem.Str) = some (.ref fa) := by
      have e : (HandSHeadRun.topDef (OpenLaw.row PySem.Challenge.rw_timedways_k82_whole_taken_back).prog 64).name = ("law" : PySem.Str) := by kernel_rfl
      rw [← e]
      exact hmg0
    obtain ⟨fd, hb, hF⟩ := Cor.facts (P := (PySem.Challenge.rw_timedways_k82_whole_taken_back).prog) (w := w) KX G hmg c
    exact ⟨K, fd, KX, hb, hF⟩
