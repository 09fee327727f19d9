import PyProof.Rows.All
import Wide.All
import OpenK.AllK
import Wide.FinOn
import HandS.ForMost
import HandS.ForExc
import HandS.Lambda
import HandS.Nested
import HandS.HotCalls
import HandS.ExcCtx
import HandS.ExcInit
import HandS.ExcField
import HandS.ExcIs
import HandS.Finally
import HandS.Defaults
import HandS.Property
import HandS.Slots
import HandS.SlotsOwn
import HandS.Star
import HandS.DictComp
import HandS.Zip
import HandS.More
import HandS.Conv
import KE.KWithOwn
import KE.KOpsOwn
import KE.KCallOwn
import HandS.FStr
import HandS.SortKw
import KE.KExcInit
import KE.KTryMore
import HandS.ExcBuiltin
import HandS.RaiseMore
import HandS.NamedTupGet
import PyProof.ExcBaseAll.LookupError
import PyProof.ExcBaseAll.ArithmeticError
import HandS.HeadHook1
import HandS.HeadHook2
import PySem.Challenge.RW_swapkinds_k68_whole_libraries_tried
import HandS.IsInst
import HandS.ListItems
import HandS.AnyAll
import HandS.TupAny
import HandS.TupLen
import HandS.DeepEq
import KE.GoesEnum
import KE.GoesMore
import HandS.Iter
import HandS.Walk
import KE.KTupSum
import HandS.WordsDict
import HandS.WideBits
import HandS.Flow
import PyProof.ReprRoads
import HandS.LawCells
import HandS.Comp
import HandS.Head0
import HandS.Head1
import HandS.Head2
import KE.KStateDown
import HandS.HeadEnd
import HandS.HeadWalk
import HandS.EndBits
set_option Elab.async false
set_option linter.all false
set_option maxRecDepth 100000
/-! The texts of wip/ in one file, printed by gen_join.py: the three runs stand first. -/
set_option maxHeartbeats 0
namespace SK
open PySem PySem.Spec PyProof.Rows L2
def top (i : Nat) : Stmt := PySem.Challenge.pw_swapkinds_k68_whole_libraries_tried.main.body.getD i (.Pass ⟨0, 0, 0, 0⟩)
def inClass : Stmt → Nat → Stmt
  | .ClassDef _ _ _ body _ _ _ _ _ _ _, j => body.getD j (.Pass ⟨0, 0, 0, 0⟩)
  | _, _ => .Pass ⟨0, 0, 0, 0⟩
def codeOf (K : PySem.W.Frag) (f : Addr) : Option Value := match K.lookup f with
  | some ⟨_, _, .func fd, _⟩ => some fd.code
  | _ => none
def AD : List Addr := [3, 21, 31, 51, 70, 89, 108, 127, 146, 165, 184, 203, 222, 241, 260, 272, 292, 311, 323, 343, 362, 381, 400, 412, 431, 440, 447, 452, 464, 469, 476, 481, 657, 666, 688, 714, 719, 724, 929, 936, 941, 958, 979, 1014, 1025, 1155, 1166, 1173, 1180, 1187, 1192, 1199, 1206, 1211, 1218, 1225, 1232, 1239, 1246, 1253, 1260, 1267, 1274, 1281, 1288, 556, 581, 646, 955, 976, 997, 1004, 1011, 1039, 1046, 1054, 1062, 1070, 1075, 1082, 1089, 1096, 1103, 1110, 1117, 1124, 1131, 1145, 1152, 289, 308, 162, 428, 397, 1293, 582, 1047, 1055, 1063, 658, 659, 20, 30, 50, 69, 88, 107, 126, 145, 164, 183, 202, 221, 240, 259, 271, 291, 310, 322, 342, 361, 380, 399, 411, 430, 439, 446, 451, 463, 468, 475, 480, 656, 665, 687, 713, 718, 723, 935, 940, 957, 978, 1013, 1024, 1154, 1165, 1172, 1179, 1186, 1191, 1198, 1205, 1210, 1217, 1224, 1231, 1238, 1245, 1252, 1259, 1266, 1273, 1280, 1287, 555, 580, 645, 954, 975, 996, 1003, 1010, 1038, 1045, 1053, 1061, 1069, 1074, 1081, 1088, 1095, 1102, 1109, 1116, 1123, 1130, 1144, 1151, 288, 307, 161, 427, 396, 1292]
def eO (a b : Option (Option Value)) : Bool := decide (a = b)
def clsB (K : PySem.W.Frag) (C : Addr) : Bool := PySem.W.plainGet K C Str.empty && (PySem.W.hasDictIn K C && (PySem.W.plainOver K C && eO (PySem.W.findIn K (.ref C) "__setattr__") (some (some (.builtin "object.__setattr__")))))
def mkB (K : PySem.W.Frag) (C f : Addr) : Bool := PySem.W.makesIn K C && (eO (PySem.W.findIn K (.ref C) "__init__") (some (some (.ref f))) && (PySem.W.isFn K (.ref f) && PySem.W.keepIn K (.ref C)))
def methB (K : PySem.W.Frag) (C : Addr) (m : Str) (f : Addr) : Bool := eO (PySem.W.findIn K (.ref C) m) (some (some (.ref f))) && (PySem.W.isFn K (.ref f) && PySem.W.keepIn K (.ref f))
def specB (K : PySem.W.Frag) (C : Addr) (m : Str) (f : Addr) : Bool := eO (PySem.W.findIn K (.ref C) m) (some (some (.ref f))) && PySem.W.isFn K (.ref f)
def recB (K : PySem.W.Frag) (p g : Addr) : Bool := match PySem.W.recIn K p "property" with
  | some (v :: _) => decide (v = .ref g)
  | _ => false
def propB (K : PySem.W.Frag) (C : Addr) (m : Str) (p g : Addr) : Bool := eO (PySem.W.findIn K (.ref C) m) (some (some (.ref p))) && (eO (PySem.W.specialIn K (.ref p) "__get__") (some (some (.builtin "property.__get__"))) && (decide (PySem.W.takesIn K (.ref p) = some true) && recB K p g))
def sclsB (K : PySem.W.Frag) (C : Addr) : Bool := PySem.W.plainGet K C Str.empty && (PySem.W.isClsIn K C && (PySem.W.plainOver K C && eO (PySem.W.findIn K (.ref C) "__setattr__") (some (some (.builtin "object.__setattr__")))))
def slot1B (K : PySem.W.Frag) (C : Addr) (m : Str) (p : Addr) (i : Nat) : Bool := eO (PySem.W.findIn K (.ref C) m) (some (some (.ref p))) && (eO (PySem.W.specialIn K (.ref p) "__get__") (some (some (.builtin "member_descriptor.__get__"))) && (decide (PySem.W.takesIn K (.ref p) = some true) &&
  (decide (PySem.W.typeIn K (.ref p) = some (.type "member_descriptor")) && (decide (PySem.W.slotIn K p C = some i) && decide (i < 1000)))))
def sisiB (K : PySem.W.Frag) (C : Addr) : Bool := eO (PySem.W.findIn K (.ref C) "__class__") (some (some (.builtin "object.__class__"))) && (eO (PySem.W.specialIn K (.builtin "object.__class__") "__get__") (some (some (.builtin "getset_descriptor.__get__"))) &&
  (decide (PySem.W.takesIn K (.builtin "object.__class__") = some true) && decide (PySem.W.mroIn K C (.type "object") = some true)))
def bmOf (b : String) : List Value := [.type b, .type "Exception", .type "BaseException", .type "object"]
def oexB (K : PySem.W.Frag) (C : Addr) (b n : String) : Bool := PySem.W.excInitIn K C (bmOf b) n && (PySem.W.excOver K C (bmOf b) && (eO (PySem.W.findIn K (.ref C) "__setattr__") (some (some (.builtin "object.__setattr__"))) &&
  (decide (PySem.W.subIn K (.ref C) (.type "BaseException") = some true) && (decide (PySem.W.typeIn K (.ref C) = some (.type "type")) && (PySem.W.keepIn K (.ref C) && PySem.W.hasDictIn K C)))))
def excCB (K : PySem.W.Frag) (D : Addr) : Bool := eO (PySem.W.findIn K (.ref D) "__getattribute__") (some (some (.builtin "BaseException.__getattribute__"))) && (eO (PySem.W.findIn K (.ref D) "__getattr__") (some none) && (decide (PySem.W.subIn K (.ref D) (.type "BaseException") = some true) && (PySem.W.hasDictIn K D && sisiB K D)))
def wordsB (K : PySem.W.Frag) : Bool := match K.lookup 929 with
  | some ⟨cl, none, .seq its _, sl⟩ => decide (cl = .type "tuple") && (decide (sl = #[]) && match its.toList with
    | [.str a _, .str b _, .str c _, .str d _] => decide (a = "swaps") && (decide (b = "moves") && (decide (c = "rings") && decide (d = "out")))
    | _ => false)
  | _ => false
structure FD where
  at_ : Addr
  name : Str
  qual : Str
  st : Stmt
def fnO (K : PySem.W.Frag) (a : Addr) : He.FnV := match K.lookup a with
  | some ⟨_, _, .func fd, _⟩ => some (fd.name, fd.qualname, fd.params, fd.body, fd.scope, fd.globals, fd.closure, fd.defaults, fd.builtins)
  | _ => none
def FD.val (d : FD) : He.FnV := some (d.name, d.qual, defArgs d.st, .stmts (defBody d.st), defScope d.st, mainGlobals, [], .none, builtinsNs)
def codeB (K : PySem.W.Frag) (a : Addr) (q : Str) : Bool := (match K.lookup a with
  | some ⟨_, _, .func fd, _⟩ => PySem.W.codeIn K fd.code q
  | _ => false) && PySem.W.keepIn K (.ref a)
def hdB (K : PySem.W.Frag) (c P : Addr) : Bool := (match K.lookup c with
  | some ⟨cl, _, .fields vs, _⟩ => decide (cl = .type "code") && (decide (vs[11]? = some (.ref P)) && (decide (vs.getD 11 .none = .ref P) && ((match vs.getD 18 .none with | .str _ _ => true | _ => false) && ((match vs.getD 7 .none with | .int _ _ => true | _ => false) &&
    ((match vs.getD 9 .none with | .bool _ => true | _ => false) && (match vs.getD 10 .none with | .int _ _ => true | _ => false))))))
  | _ => false) && decide (c ≠ P)
def tabB (o : Option Obj) : Bool := match o with
  | some ⟨cl, none, .fields vs, sl⟩ => decide (cl = .none) && (decide (vs = #[]) && decide (sl = #[]))
  | _ => false
def fns0 : List FD := [⟨440, "is_integer", "is_integer", top 30⟩, ⟨447, "is_count", "is_count", top 31⟩, ⟨452, "is_name", "is_name", top 32⟩, ⟨464, "check_kinds", "check_kinds", top 35⟩, ⟨469, "is_row", "is_row", top 36⟩, ⟨476, "check_rows", "check_rows", top 37⟩, ⟨481, "lopsided", "lopsided", top 38⟩, ⟨666, "row_lines", "row_lines", top 50⟩, ⟨688, "check_yard", "check_yard", top 54⟩, ⟨714, "orders_of", "orders_of", top 59⟩, ⟨719, "forward_of", "forward_of", top 60⟩, ⟨724, "swaps_of", "swaps_of", top 61⟩, ⟨936, "is_wish", "is_wish", top 81⟩, ⟨941, "keeps", "keeps", top 82⟩, ⟨1025, "check_kept", "check_kept", top 87⟩]
def fns1 : List FD := [⟨1166, "_law_begun", "_law_begun", top 90⟩, ⟨1173, "_law_cast", "_law_cast", top 91⟩, ⟨1180, "_law_any_of", "_law_any_of", top 92⟩, ⟨1187, "_law_shown", "_law_shown", top 93⟩, ⟨1192, "_law_class", "_law_class", top 94⟩, ⟨1199, "_law_end", "_law_end", top 95⟩, ⟨1206, "_law_put", "_law_put", top 96⟩, ⟨1211, "_law_shelf_view", "_law_shelf_view", top 97⟩, ⟨1218, "_law_deeds", "_law_deeds", top 98⟩, ⟨1225, "_law_done", "_law_done", top 99⟩, ⟨1232, "_law_ending", "_law_ending", top 100⟩, ⟨1239, "_law_went", "_law_went", top 101⟩, ⟨1246, "_law_end_due", "_law_end_due", top 102⟩, ⟨1253, "_law_inner", "_law_inner", top 103⟩, ⟨1260, "_law_action", "_law_action", top 104⟩]
def fns2 : List FD := [⟨1267, "_law_twin", "_law_twin", top 105⟩, ⟨1274, "_law_lot_due", "_law_lot_due", top 106⟩, ⟨1281, "_law_wanted", "_law_wanted", top 107⟩, ⟨1288, "_law_right", "_law_right", top 108⟩, ⟨556, "__init__", "Yard.__init__", (inClass (top 49) 1)⟩, ⟨581, "rows", "Yard.rows", (inClass (top 49) 4)⟩, ⟨646, "__str__", "Yard.__str__", (inClass (top 49) 14)⟩, ⟨955, "__init__", "Shape.__init__", (inClass (top 84) 0)⟩, ⟨976, "__init__", "Begun.__init__", (inClass (top 85) 0)⟩, ⟨997, "__init__", "Venture.__init__", (inClass (top 86) 0)⟩, ⟨1004, "__enter__", "Venture.__enter__", (inClass (top 86) 1)⟩, ⟨1011, "__exit__", "Venture.__exit__", (inClass (top 86) 2)⟩, ⟨1039, "__init__", "Library.__init__", (inClass (top 88) 0)⟩, ⟨1046, "names", "Library.names", (inClass (top 88) 1)⟩, ⟨1054, "wishes", "Library.wishes", (inClass (top 88) 2)⟩]
def fns3 : List FD := [⟨1062, "changes", "Library.changes", (inClass (top 88) 3)⟩, ⟨1070, "become", "Library.become", (inClass (top 88) 4)⟩, ⟨1075, "remove", "Library.remove", (inClass (top 88) 5)⟩, ⟨1082, "wish", "Library.wish", (inClass (top 88) 6)⟩, ⟨1089, "lift", "Library.lift", (inClass (top 88) 7)⟩, ⟨1096, "undo", "Library.undo", (inClass (top 88) 8)⟩, ⟨1103, "trial", "Library.trial", (inClass (top 88) 9)⟩, ⟨1110, "tried", "Library.tried", (inClass (top 88) 10)⟩, ⟨1117, "__getitem__", "Library.__getitem__", (inClass (top 88) 11)⟩, ⟨1124, "__setitem__", "Library.__setitem__", (inClass (top 88) 12)⟩, ⟨1131, "__contains__", "Library.__contains__", (inClass (top 88) 13)⟩, ⟨1145, "__len__", "Library.__len__", (inClass (top 88) 15)⟩, ⟨1152, "__bool__", "Library.__bool__", (inClass (top 88) 16)⟩, ⟨289, "__init__", "UnknownName.__init__", (inClass (top 16) 0)⟩, ⟨308, "__init__", "InUse.__init__", (inClass (top 17) 0)⟩]
def fns4 : List FD := [⟨162, "__init__", "InvalidIndex.__init__", (inClass (top 9) 0)⟩, ⟨428, "__init__", "Broken.__init__", (inClass (top 24) 0)⟩, ⟨397, "__init__", "TooGreat.__init__", (inClass (top 22) 0)⟩, ⟨1293, "law", "law", top 109⟩]
def fns : List FD := fns0 ++ fns1 ++ fns2 ++ fns3 ++ fns4
def ck0 (K : PySem.W.Frag) : Bool :=
  eO (PySem.W.nsIn K mainGlobals "_wall") (some (some (.ref 21))) && (eO (PySem.W.nsIn K mainGlobals "WrongValue") (some (some (.ref 31))) && (eO (PySem.W.nsIn K mainGlobals "InvalidText") (some (some (.ref 51))) && (eO (PySem.W.nsIn K mainGlobals "InvalidName") (some (some (.ref 70))) && (eO (PySem.W.nsIn K mainGlobals "InvalidKind") (some (some (.ref 89))) && (eO (PySem.W.nsIn K mainGlobals "InvalidMove") (some (some (.ref 108))) && (eO (PySem.W.nsIn K mainGlobals "InvalidNumber") (some (some (.ref 127))) && (eO (PySem.W.nsIn K mainGlobals "InvalidWish") (some (some (.ref 146))) && (eO (PySem.W.nsIn K mainGlobals "InvalidIndex") (some (some (.ref 165))) && (eO (PySem.W.nsIn K mainGlobals "NotYard") (some (some (.ref 184))) && (eO (PySem.W.nsIn K mainGlobals "InvalidKinds") (some (some (.ref 203))) && (eO (PySem.W.nsIn K mainGlobals "InvalidRows") (some (some (.ref 222))) && (eO (PySem.W.nsIn K mainGlobals "InvalidPlan") (some (some (.ref 241))) && (eO (PySem.W.nsIn K mainGlobals "InvalidChanges") (some (some (.ref 260))))))))))))))))
def ck1 (K : PySem.W.Frag) : Bool :=
  eO (PySem.W.nsIn K mainGlobals "WrongName") (some (some (.ref 272))) && (eO (PySem.W.nsIn K mainGlobals "UnknownName") (some (some (.ref 292))) && (eO (PySem.W.nsIn K mainGlobals "InUse") (some (some (.ref 311))) && (eO (PySem.W.nsIn K mainGlobals "NotPossible") (some (some (.ref 323))) && (eO (PySem.W.nsIn K mainGlobals "Unbalanced") (some (some (.ref 343))) && (eO (PySem.W.nsIn K mainGlobals "NotThere") (some (some (.ref 362))) && (eO (PySem.W.nsIn K mainGlobals "OtherKinds") (some (some (.ref 381))) && (eO (PySem.W.nsIn K mainGlobals "TooGreat") (some (some (.ref 400))) && (eO (PySem.W.nsIn K mainGlobals "NothingToUndo") (some (some (.ref 412))) && (eO (PySem.W.nsIn K mainGlobals "Broken") (some (some (.ref 431))) && (eO (PySem.W.nsIn K mainGlobals "is_integer") (some (some (.ref 440))) && (eO (PySem.W.nsIn K mainGlobals "is_count") (some (some (.ref 447))) && (eO (PySem.W.nsIn K mainGlobals "is_name") (some (some (.ref 452))) && (eO (PySem.W.nsIn K mainGlobals "check_kinds") (some (some (.ref 464))))))))))))))))
def ck2 (K : PySem.W.Frag) : Bool :=
  eO (PySem.W.nsIn K mainGlobals "is_row") (some (some (.ref 469))) && (eO (PySem.W.nsIn K mainGlobals "check_rows") (some (some (.ref 476))) && (eO (PySem.W.nsIn K mainGlobals "lopsided") (some (some (.ref 481))) && (eO (PySem.W.nsIn K mainGlobals "Yard") (some (some (.ref 657))) && (eO (PySem.W.nsIn K mainGlobals "row_lines") (some (some (.ref 666))) && (eO (PySem.W.nsIn K mainGlobals "check_yard") (some (some (.ref 688))) && (eO (PySem.W.nsIn K mainGlobals "orders_of") (some (some (.ref 714))) && (eO (PySem.W.nsIn K mainGlobals "forward_of") (some (some (.ref 719))) && (eO (PySem.W.nsIn K mainGlobals "swaps_of") (some (some (.ref 724))) && (eO (PySem.W.nsIn K mainGlobals "WORDS") (some (some (.ref 929))) && (eO (PySem.W.nsIn K mainGlobals "is_wish") (some (some (.ref 936))) && (eO (PySem.W.nsIn K mainGlobals "keeps") (some (some (.ref 941))) && (eO (PySem.W.nsIn K mainGlobals "Shape") (some (some (.ref 958))) && (eO (PySem.W.nsIn K mainGlobals "Begun") (some (some (.ref 979))))))))))))))))
def ck3 (K : PySem.W.Frag) : Bool :=
  eO (PySem.W.nsIn K mainGlobals "Venture") (some (some (.ref 1014))) && (eO (PySem.W.nsIn K mainGlobals "check_kept") (some (some (.ref 1025))) && (eO (PySem.W.nsIn K mainGlobals "Library") (some (some (.ref 1155))) && (eO (PySem.W.nsIn K mainGlobals "_law_begun") (some (some (.ref 1166))) && (eO (PySem.W.nsIn K mainGlobals "_law_cast") (some (some (.ref 1173))) && (eO (PySem.W.nsIn K mainGlobals "_law_any_of") (some (some (.ref 1180))) && (eO (PySem.W.nsIn K mainGlobals "_law_shown") (some (some (.ref 1187))) && (eO (PySem.W.nsIn K mainGlobals "_law_class") (some (some (.ref 1192))) && (eO (PySem.W.nsIn K mainGlobals "_law_end") (some (some (.ref 1199))) && (eO (PySem.W.nsIn K mainGlobals "_law_put") (some (some (.ref 1206))) && (eO (PySem.W.nsIn K mainGlobals "_law_shelf_view") (some (some (.ref 1211))) && (eO (PySem.W.nsIn K mainGlobals "_law_deeds") (some (some (.ref 1218))) && (eO (PySem.W.nsIn K mainGlobals "_law_done") (some (some (.ref 1225))) && (eO (PySem.W.nsIn K mainGlobals "_law_ending") (some (some (.ref 1232))))))))))))))))
def ck4 (K : PySem.W.Frag) : Bool :=
  eO (PySem.W.nsIn K mainGlobals "_law_went") (some (some (.ref 1239))) && (eO (PySem.W.nsIn K mainGlobals "_law_end_due") (some (some (.ref 1246))) && (eO (PySem.W.nsIn K mainGlobals "_law_inner") (some (some (.ref 1253))) && (eO (PySem.W.nsIn K mainGlobals "_law_action") (some (some (.ref 1260))) && (eO (PySem.W.nsIn K mainGlobals "_law_twin") (some (some (.ref 1267))) && (eO (PySem.W.nsIn K mainGlobals "_law_lot_due") (some (some (.ref 1274))) && (eO (PySem.W.nsIn K mainGlobals "_law_wanted") (some (some (.ref 1281))) && (eO (PySem.W.nsIn K mainGlobals "_law_right") (some (some (.ref 1288))) && (eO (PySem.W.nsIn K mainGlobals "isinstance") (some none) && (eO (PySem.W.nsIn K mainGlobals "int") (some none) && (eO (PySem.W.nsIn K mainGlobals "bool") (some none) && (eO (PySem.W.nsIn K mainGlobals "str") (some none) && (eO (PySem.W.nsIn K mainGlobals "len") (some none) && (eO (PySem.W.nsIn K mainGlobals "all") (some none))))))))))))))
def ck5 (K : PySem.W.Frag) : Bool :=
  eO (PySem.W.nsIn K mainGlobals "enumerate") (some none) && (eO (PySem.W.nsIn K mainGlobals "tuple") (some none) && (eO (PySem.W.nsIn K mainGlobals "sum") (some none) && (eO (PySem.W.nsIn K mainGlobals "range") (some none) && (eO (PySem.W.nsIn K mainGlobals "max") (some none) && (eO (PySem.W.nsIn K mainGlobals "min") (some none) && (eO (PySem.W.nsIn K mainGlobals "zip") (some none) && (eO (PySem.W.nsIn K mainGlobals "repr") (some none) && (eO (PySem.W.nsIn K mainGlobals "sorted") (some none) && (eO (PySem.W.nsIn K mainGlobals "abs") (some none) && (eO (PySem.W.nsIn K mainGlobals "divmod") (some none) && (eO (PySem.W.nsIn K mainGlobals "KeyError") (some none) && (eO (PySem.W.nsIn K mainGlobals "ZeroDivisionError") (some none) && ((He.Fa.int "MOST_KINDS" 4).ok K)))))))))))))
def ck6 (K : PySem.W.Frag) : Bool :=
  (He.Fa.int "MOST_COUNT" 1000000000000000000000000000000).ok K && ((He.Fa.str "DIGITS" "0123456789").ok K && ((He.Fa.str "LETTERS" "abcdefghijklmnopqrstuvwxyz").ok K && (clsB K 958 && (clsB K 979 && (clsB K 1014 && (clsB K 1155 && (mkB K 657 556 && (mkB K 958 955 && (mkB K 979 976 && (mkB K 1014 997 && (mkB K 1155 1039 && (eO (PySem.W.findIn K (.ref 958) "yards") (some none) && (eO (PySem.W.findIn K (.ref 958) "pairs") (some none))))))))))))))
def ck7 (K : PySem.W.Frag) : Bool :=
  eO (PySem.W.findIn K (.ref 958) "ahead") (some none) && (eO (PySem.W.findIn K (.ref 958) "many") (some none) && (eO (PySem.W.findIn K (.ref 979) "shape") (some none) && (eO (PySem.W.findIn K (.ref 979) "outer") (some none) && (eO (PySem.W.findIn K (.ref 1014) "library") (some none) && (eO (PySem.W.findIn K (.ref 1014) "begun") (some none) && (eO (PySem.W.findIn K (.ref 1155) "shape") (some none) && (specB K 657 "__str__" 646 && (specB K 1014 "__enter__" 1004 && (specB K 1014 "__exit__" 1011 && (methB K 1155 "become" 1070 && (methB K 1155 "remove" 1075 && (methB K 1155 "wish" 1082 && (methB K 1155 "lift" 1089)))))))))))))
def ck8 (K : PySem.W.Frag) : Bool :=
  methB K 1155 "undo" 1096 && (methB K 1155 "trial" 1103 && (methB K 1155 "tried" 1110 && (specB K 1155 "__getitem__" 1117 && (specB K 1155 "__setitem__" 1124 && (specB K 1155 "__contains__" 1131 && (specB K 1155 "__len__" 1145 && (specB K 1155 "__bool__" 1152 && (PySem.W.noSeq K 1155 && (PySem.W.fnIn K 1117 && (propB K 1155 "names" 1047 1046 && (propB K 1155 "wishes" 1055 1054 && (propB K 1155 "changes" 1063 1062 && (propB K 657 "rows" 582 581)))))))))))))
def ck9 (K : PySem.W.Frag) : Bool :=
  sclsB K 657 && (slot1B K 657 "body" 658 0 && (slot1B K 657 "shape" 659 1 && (sisiB K 657 && (oexB K 292 "LookupError" "LookupError.__new__" && (eO (PySem.W.findIn K (.ref 292) "given") (some none) && (eO (PySem.W.findIn K (.ref 292) "__init__") (some (some (.ref 289))) && (decide (PySem.W.typeIn K (.ref 289) = some (.type "function")) && (xfB K 292 && (oexB K 311 "LookupError" "LookupError.__new__" && (eO (PySem.W.findIn K (.ref 311) "index") (some none) && (eO (PySem.W.findIn K (.ref 311) "__init__") (some (some (.ref 308))) && (decide (PySem.W.typeIn K (.ref 308) = some (.type "function")) && (xfB K 311)))))))))))))
def ck10 (K : PySem.W.Frag) : Bool :=
  oexB K 165 "ValueError" "ValueError.__new__" && (eO (PySem.W.findIn K (.ref 165) "given") (some none) && (eO (PySem.W.findIn K (.ref 165) "__init__") (some (some (.ref 162))) && (decide (PySem.W.typeIn K (.ref 162) = some (.type "function")) && (xfB K 165 && (oexB K 431 "ArithmeticError" "ArithmeticError.__new__" && (eO (PySem.W.findIn K (.ref 431) "index") (some none) && (eO (PySem.W.findIn K (.ref 431) "__init__") (some (some (.ref 428))) && (decide (PySem.W.typeIn K (.ref 428) = some (.type "function")) && (xfB K 431 && (oexB K 400 "ArithmeticError" "ArithmeticError.__new__" && (eO (PySem.W.findIn K (.ref 400) "given") (some none) && (eO (PySem.W.findIn K (.ref 400) "__init__") (some (some (.ref 397))) && (decide (PySem.W.typeIn K (.ref 397) = some (.type "function")))))))))))))))
def ck11 (K : PySem.W.Frag) : Bool :=
  xfB K 400 && (excCB K 292 && (excCB K 311 && (excCB K 165 && (excCB K 431 && (excCB K 400 && (excCB K 412 && (PySem.W.excIn K 412 [.type "ArithmeticError", .type "Exception", .type "BaseException", .type "object"] "ArithmeticError.__new__" && (PySem.W.hasDictIn K 412 && (decide (PySem.W.typeIn K (.ref 412) = some (.type "type")) && (decide (PySem.W.subIn K (.ref 412) (.type "BaseException") = some true) && (decide (PySem.W.subIn K (.ref 412) (.ref 412) = some true) && (decide (PySem.W.exmAny K (.ref 292) [.ref 31, .ref 272, .ref 323] = some true) && (decide (PySem.W.exmAny K (.ref 311) [.ref 31, .ref 272, .ref 323] = some true))))))))))))))
def ck12 (K : PySem.W.Frag) : Bool :=
  decide (PySem.W.exmAny K (.ref 165) [.ref 31, .ref 272, .ref 323] = some true) && (decide (PySem.W.exmAny K (.ref 431) [.ref 31, .ref 272, .ref 323] = some true) && (decide (PySem.W.exmAny K (.ref 400) [.ref 31, .ref 272, .ref 323] = some true) && (decide (PySem.W.exmAny K (.ref 412) [.ref 31, .ref 272, .ref 323] = some true) && (decide (PySem.W.exmAny K (.type "KeyError") [.ref 31, .ref 272, .ref 323] = some false) && (decide (PySem.W.exmAny K (.type "ZeroDivisionError") [.ref 31, .ref 272, .ref 323] = some false) && (decide ([51, 70, 89, 108, 127, 146, 165, 184, 203, 222, 241, 260, 292, 311, 343, 362, 381, 400, 412, 431, 31, 272, 323].map (fun D => PySem.W.kitOne K (.ref 292) (.ref D)) = [some false, some false, some false, some false, some false, some false, some false, some false, some false, some false, some false, some false, some true, some false, some false, some false, some false, some false, some false, some false, some false, some true, some false]) && (decide ([51, 70, 89, 108, 127, 146, 165, 184, 203, 222, 241, 260, 292, 311, 343, 362, 381, 400, 412, 431, 31, 272, 323].map (fun D => PySem.W.kitOne K (.ref 311) (.ref D)) = [some false, some false, some false, some false, some false, some false, some false, some false, some false, some false, some false, some false, some false, some true, some false, some false, some false, some false, some false, some false, some false, some true, some false]) && (decide ([51, 70, 89, 108, 127, 146, 165, 184, 203, 222, 241, 260, 292, 311, 343, 362, 381, 400, 412, 431, 31, 272, 323].map (fun D => PySem.W.kitOne K (.ref 165) (.ref D)) = [some false, some false, some false, some false, some false, some false, some true, some false, some false, some false, some false, some false, some false, some false, some false, some false, some false, some false, some false, some false, some true, some false, some false]) && (decide ([51, 70, 89, 108, 127, 146, 165, 184, 203, 222, 241, 260, 292, 311, 343, 362, 381, 400, 412, 431, 31, 272, 323].map (fun D => PySem.W.kitOne K (.ref 431) (.ref D)) = [some false, some false, some false, some false, some false, some false, some false, some false, some false, some false, some false, some false, some false, some false, some false, some false, some false, some false, some false, some true, some false, some false, some true]) && (decide ([51, 70, 89, 108, 127, 146, 165, 184, 203, 222, 241, 260, 292, 311, 343, 362, 381, 400, 412, 431, 31, 272, 323].map (fun D => PySem.W.kitOne K (.ref 400) (.ref D)) = [some false, some false, some false, some false, some false, some false, some false, some false, some false, some false, some false, some false, some false, some false, some false, some false, some false, some true, some false, some false, some false, some false, some true]) && (decide ([51, 70, 89, 108, 127, 146, 165, 184, 203, 222, 241, 260, 292, 311, 343, 362, 381, 400, 412, 431, 31, 272, 323].map (fun D => PySem.W.kitOne K (.ref 412) (.ref D)) = [some false, some false, some false, some false, some false, some false, some false, some false, some false, some false, some false, some false, some false, some false, some false, some false, some false, some false, some true, some false, some false, some false, some true]) && (decide (PySem.W.kitOne K (.ref 657) (.ref 657) = some true) && (decide (PySem.W.kitOne K (.type "NoneType") (.ref 657) = some false))))))))))))))
def ck13 (K : PySem.W.Frag) : Bool :=
  decide (PySem.W.kitOne K (.type "list") (.ref 657) = some false) && (decide (PySem.W.kitOne K (.type "str") (.ref 657) = some false) && (decide (PySem.W.kitOne K (.type "int") (.ref 657) = some false) && (wordsB K && (eO (PySem.W.nsIn K mainGlobals "law") (some (some (.ref 1293))) && (decide (codeOf K 1260 = some (.ref 1259)) && (hdB K 1259 1255 && ((K.lookup 1255).isNone && (decide (codeOf K 1274 = some (.ref 1273)) && (hdB K 1273 1269 && ((K.lookup 1269).isNone && (decide (codeOf K 1288 = some (.ref 1287)) && (hdB K 1287 1283 && ((K.lookup 1283).isNone)))))))))))))
def ckAll (K : PySem.W.Frag) : Bool := ck0 K && (ck1 K && (ck2 K && (ck3 K && (ck4 K && (ck5 K && (ck6 K && (ck7 K && (ck8 K && (ck9 K && (ck10 K && (ck11 K && (ck12 K && (ck13 K && (fns.all fun d => codeB K d.at_ d.qual))))))))))))))
abbrev Al : Type := Bool × List He.FnV
def obsK (K : PySem.W.Frag) (g : Addr → Option Obj) : Al := (ckAll K && (tabB (g 1255) && (tabB (g 1269) && tabB (g 1283))), fns.map fun d => fnO K d.at_)
def obsA (g : Addr → Option Obj) : Al := obsK (He.frG g AD) g
def valA : Al := (true, fns.map FD.val)
abbrev R : PySem.W.OpenRow := PySem.W.OpenLaw.row PySem.Challenge.rw_swapkinds_k68_whole_libraries_tried
def loose0 : List Str := ["_wall", "WrongValue", "InvalidText", "InvalidName", "InvalidKind", "InvalidMove", "InvalidNumber", "InvalidWish", "InvalidIndex", "NotYard", "InvalidKinds", "InvalidRows", "InvalidPlan", "InvalidChanges", "WrongName", "UnknownName", "InUse", "NotPossible", "Unbalanced", "NotThere", "OtherKinds", "TooGreat", "NothingToUndo", "Broken", "MOST_KINDS", "MOST_COUNT", "DIGITS", "LETTERS", "is_integer", "is_count"]
def loose1 : List Str := ["is_name", "written_count", "check_kinds", "is_row", "check_rows", "lopsided", "is_swap", "is_turn", "is_kind", "is_move", "places_of", "most_times", "can_make", "rows_behind", "is_block", "check_great", "Yard", "row_lines", "text_kinds", "text_row", "text_yard", "check_yard", "check_kind", "check_move", "check_times", "orders_of", "forward_of", "swaps_of", "rings_of", "all_rings"]
def loose2 : List Str := ["steps_of", "taken", "parted", "Arc", "Step", "steps_on", "distances", "way_back", "Transport", "is_upper", "Threes", "moves_of", "WORDS", "is_wish", "keeps", "Shape", "Begun", "Venture", "check_kept", "Library", "_law_begun", "_law_cast", "_law_any_of", "_law_shown", "_law_class", "_law_end", "_law_put", "_law_shelf_view", "_law_deeds", "_law_done"]
def loose3 : List Str := ["_law_ending", "_law_went", "_law_end_due", "_law_inner", "_law_action", "_law_twin", "_law_lot_due", "_law_wanted", "_law_right"]
def loose : List Str := loose0 ++ loose1 ++ loose2 ++ loose3
abbrev qv : Program := PySem.W.view R.prog [109]
noncomputable def endX (w : World) (os : OsState) : Option PySem.W.SharedT := HandSHeadRun.endF (HandSHeadRun.stepQ (HandSHeadRun.denQ HandSHeadRun.tabQ) R.prog w) 20000 R.prog w os
def ob (s : PySem.W.SharedT) : Al := obsA (HandSHeadRun.getT s)
end SK
set_option maxHeartbeats 0
namespace SK
open PySem PySem.W PySem.Calls PyProof.Rows L2
theorem run1 (w : World) (os : OsState) : (endX w os).map (fun s => HandSHeadRun.looksF R.prog (boot_heap w.params) s.abs) = some true := by kernel_rfl
end SK
set_option maxHeartbeats 0
namespace SK
open PySem PySem.W PySem.Calls PyProof.Rows L2
theorem run2 (w : World) (os : OsState) : (endX w os).map (fun s => HandSHeadRun.seenQ qv loose (importedModules R.prog.main.body) (fun s => PySem.W.xlAt qv [] s && PySem.W.recOk R.toRowW.records s) s.abs) = some (PySem.W.openGood qv loose) := by kernel_rfl
end SK
set_option maxHeartbeats 0
namespace SK
open PySem PySem.Spec PyProof.Rows L2
theorem run3 (w : World) (os : OsState) : (endX w os).map (fun s => ob s) = some valA := by kernel_rfl
end SK
set_option maxHeartbeats 4000000
/-! SkA: promises that know the guards (FnG), calls by them, own specials. -/
namespace SK
open PySem PySem.Spec PyProof.Rows L2
abbrev St := L2.St
/-! ### the promise of a function object at f, for positional arguments; nothing is being written out by repr around it -/
def FnG (P : Program) (w : World) (K : PySem.W.Frag) (mg : Str → Option Value) (base : Heap) (CX : CXT) (k : Nat) (f : Addr) (sp : Sp) : Prop :=
  ∀ (A : Around) (outer : List Env) (s : Shared) (H : Hp) (us : List Value) (vs : List V) (Q : VK) (E : XK), Room k A → A.guards = some [] → Env0 P w K mg base A outer s H → Vals vs us → sp vs H Q E →
    codeAny (model P w) A (.call (.ref f) ⟨us, []⟩) (CR CX outer P w H s Q E) s
section
variable {P : Program} {w : World} {K : PySem.W.Frag} {mg : Str → Option Value} {base : Heap} {CX : CXT} {j k : Nat} {f : Addr} {sp sp' : Sp}
theorem FnG.mono (F : FnG P w K mg base CX j f sp) (h : j ≤ k) : FnG P w K mg base CX k f sp := fun A outer s H us vs Q E hr => F A outer s H us vs Q E (hr.mono h)
theorem FnG.imp (F : FnG P w K mg base CX k f sp) (h : ∀ vs H Q E, sp' vs H Q E → sp vs H Q E) : FnG P w K mg base CX k f sp' := fun A outer s H us vs Q E hr hg e0 r hs => F A outer s H us vs Q E hr hg e0 r (h _ _ _ _ hs)
theorem FnG.of_r (F : FnR P w K mg base CX k f sp) : FnG P w K mg base CX k f sp := fun A outer s H us vs Q E hr _ e0 r hs => F A outer s H us vs Q E hr e0 r hs
/-- THE RULE for a def: its body as a term of rules, and the reading of that term -/
theorem fng_of {x qual : Str} {st : Stmt} {fd : FuncData} {N ps : List Str} (F : FunD K x qual (defArgs st) (defBody st) (defScope st) [] [] f fd) (S : FnScope N ps (defScope st)) (hb : Binds K fd ps []) (len : ∀ vs H Q E, sp vs H Q E → vs.length = ps.length)
    (hbody : ∀ (cdv : Value) (A : Around) (outer : List Env) (s : Shared) (H : Hp) (vs : List V) (Q : VK) (E : XK), Room k (A.deeper (envOfC qual (defScope st) s.heap.objs.size f cdv)) → A.guards = some [] → sp vs H Q E →
      ∃ t, PSs (cxOf CX P w K mg base N qual (defScope st) f cdv A outer s H E) (defBody st) t ∧ t { nx := fun _ H' => Q .non H', rt := Q } (L2.start N vs) H) : FnG P w K mg base CX (k + 1) f sp := by
  intro A outer s H us vs Q E hr hg e0 r hsp
  obtain ⟨oc, od, dV, kV, doc, pm, an, cdv, ct, osl, rfl, lk, hcd, _, _⟩ := F.ex
  have hl := len _ _ _ _ hsp
  have KX : K.In s.heap := e0.mod.kin.keeps fun b o e => (e0.bs b o e).1
  have hlu : us.length = ps.length := by rw [← r.length]; exact hl
  have hbt := hb s us KX (by rw [List.append_nil]; exact hlu)
  rw [List.append_nil] at hbt
  exact LamX.run_ofS lk hcd S hr e0 hbt r hl fun hr' => hbody cdv A outer s H vs Q E hr' hg hsp
end
/-! ### calls -/
theorem under_guards {A : Around} {id : String} {args : Args} (hg : A.guards = some []) (hi : (Code.builtin id args).guards = [] := by rfl) : (A.under (.builtin id args)).guards = some [] := by
  unfold Around.under
  show pushGuards _ A.guards = _
  rw [hg, hi]
  rfl
/-- where nothing is wished of an exception none comes -/
def NoX (CX : CXT) : Prop := ∀ outer H s e s', CX outer H s (fun _ _ _ => False) e s' → False
theorem noXN {P : Program} {w : World} : NoX (L2N.CX P w) := fun _ _ _ _ _ ⟨_, _, _, _, _, _, _, _, _, _, _, _, z⟩ => z
abbrev EF : St → XK := fun _ _ _ _ => False
theorem passF {X : Cx} {CX : CXT} (n : NoX CX) (σ : St) : PassesAt CX X σ (EF σ) := fun _ _ _ _ _ _ h => (n _ _ _ _ _ h).elim
section
variable {X : Cx} {CX : CXT} {k : Nat} {f C : Addr} {sp : Sp} {E : St → XK} {x m : Str} {p pos apos : Pos} {e o : Expr} {es : List Expr} {ta : TE} {t : TA}
theorem run_g {pins : List (Addr × Obj)} {σ : St} {H : Hp} {s : Shared} {Q : VK} {us : List Value} {vs : List V} (F : FnG X.prog X.w X.K X.mg X.base CX k f sp) (hr : Room k X.A) (hg : X.A.guards = some []) (hx : PassesAt CX X σ (E σ))
    (I : Inv X pins σ H s) (r : Vals vs us) (h : sp vs H Q (E σ)) : wpAny (model X.prog X.w) X.A (call (.ref f) us) (EP X pins σ Q) X.xe s := by
  refine wpAny_call (codeAny_mono (F X.A X.stack s H us vs Q (E σ) hr hg I.env0 r h) fun r s' hq => ?_)
  cases r with
  | error e => exact hx pins H s e s' I hq
  | ok fl =>
    cases fl with
    | ret u => exact I.after hq
    | next => exact False.elim hq
    | brk => exact False.elim hq
    | cont => exact False.elim hq
/-- f(e, ..), f a def of the module -/
theorem pe_g (F : FnG X.prog X.w X.K X.mg X.base CX k f sp) (hr : Room k X.A) (hg : X.A.guards = some []) (hx : ∀ σ, PassesAt CX X σ (E σ)) (hgl : Gl X x) (hm : X.mg x = some (.ref f)) (hk : PySem.W.keepIn X.K (.ref f) = true)
    (ha : PA X (e :: es) t) (hdb : (x == ("__debug__" : Str)) = false := by decide) (he : starEach (e :: es) X.env = (false, eval e X.env) :: starEach es X.env := by rfl) (hpl : (backTo pos (starEach es X.env)).any (·.1) = false := by rfl) :
    PE X (.Call (.Name x p) (e :: es) [] pos) (tCallS sp E t) := by
  refine ⟨fun pins s σ H Q I h => ?_⟩
  refine wpAny_Call_Name_kw (ld_glob I hgl hm ?_ hdb)
  refine PySem.W.callWith_K (h₀ := X.base) I.ok.mod.kin hk (thn (ha.run pos pins s σ H _ I h) fun us s1 ⟨vs, H1, I1, r, q⟩ => ⟨I1.kIn, ?_⟩) he hpl
  exact run_g F hr hg (hx σ) I1 r q
/-- o.m(e, ..), o an instance of the class at C -/
def tMethG (C : Addr) (m : Str) (sp : Sp) (E : St → XK) (ta : TE) (t : TA) : TE := fun σ H Q => ta σ H fun x H1 => ∃ a dx fs, x = .ref a ∧ H1 a = some (.ins C dx fs) ∧ fs.lookup m = none ∧ t σ H1 fun vs H2 => sp (.ref a :: vs) H2 Q (E σ)
theorem pe_mg {pl : Sem Bool} (he : PE X o ta) (c : Cls X.K C) (hm : Meth X.K C m f) (F : FnG X.prog X.w X.K X.mg X.base CX k f sp) (hr : Room k X.A) (hg : X.A.guards = some []) (hx : ∀ σ, PassesAt CX X σ (E σ)) (ha : PA X (e :: es) t)
    (hst : starEach (e :: es) X.env = (false, eval e X.env) :: starEach es X.env := by rfl) (hpl : (backTo pos (starEach es X.env)).any (·.1) = false := by rfl)
    (ht : eval (.Call (.Attribute o m apos) (e :: es) [] pos) X.env = (do
      let ov ← eval o X.env
      standAt apos.atName
      let (f, first) ← holding [ov] (getMethod ov m pl)
      callWith pos f first (backTo pos (starEach (e :: es) X.env)) (backToKw pos (keywordEach [] X.env))) := by rfl) :
    PE X (.Call (.Attribute o m apos) (e :: es) [] pos) (tMethG C m sp E ta t) := by
  refine ⟨fun pins s σ H Q I h => ?_⟩
  refine PySem.W.methodCall_KW (pl := pl) (thn (he.run pins s σ H _ I h) fun u s1 ⟨x, H1, I1, rx, a, dx, fs, ex, ea, l, q⟩ => ?_) ht
  subst ex
  obtain rfl : u = Value.ref a := rx
  refine getmeth_ok I1 ea c hm l ?_
  refine PySem.W.callWith_K (first := [.ref a]) (h₀ := X.base) I.ok.mod.kin hm.kp (thn (ha.run pos pins s1 σ H1 _ I1 q) fun us s2 ⟨vs, H2, I2, r, q2⟩ => ⟨I2.kIn, ?_⟩) hst hpl
  exact run_g (us := .ref a :: us) (vs := .ref a :: vs) F hr hg (hx σ) I2 (.cons rfl r) q2
/-- o.m() -/
theorem pe_mg0 {pl : Sem Bool} (he : PE X o ta) (c : Cls X.K C) (hm : Meth X.K C m f) (F : FnG X.prog X.w X.K X.mg X.base CX k f sp) (hr : Room k X.A) (hg : X.A.guards = some []) (hx : ∀ σ, PassesAt CX X σ (E σ))
    (ht : eval (.Call (.Attribute o m apos) [] [] pos) X.env = (do
      let ov ← eval o X.env
      standAt apos.atName
      let (f, first) ← holding [ov] (getMethod ov m pl)
      callWith pos f first (backTo pos (starEach [] X.env)) (backToKw pos (keywordEach [] X.env))) := by rfl) :
    PE X (.Call (.Attribute o m apos) [] [] pos) (tMethG C m sp E ta tNil) := by
  refine ⟨fun pins s σ H Q I h => ?_⟩
  refine PySem.W.methodCall_KW (pl := pl) (thn (he.run pins s σ H _ I h) fun u s1 ⟨x, H1, I1, rx, a, dx, fs, ex, ea, l, q⟩ => ?_) ht
  subst ex
  obtain rfl : u = Value.ref a := rx
  refine getmeth_ok I1 ea c hm l ?_
  exact PySem.W.callWith_K0 I1.kIn hm.kp (run_g (us := [.ref a]) (vs := [.ref a]) F hr hg (hx σ) I1 (.cons rfl .nil) q)
end
/-! ### C(e, ..), o.prop -/
section
variable {X : Cx} {CX : CXT} {k : Nat} {f C : Addr} {sp : Sp} {E : St → XK} {x m : Str} {p pos apos : Pos} {e o : Expr} {es : List Expr} {ta : TE} {t : TA}
/-- a new instance, then __init__'s promise at it -/
def tMakeG (C : Addr) (sp : Sp) (E : St → XK) (t : TA) : TE := fun σ H Q => t σ H fun vs H1 => ∀ x dx, H1 x = none → H1 dx = none → dx ≠ x →
  sp (.ref x :: vs) (upd (upd H1 dx (.own x)) x (.ins C dx [])) (fun v H2 => v = .non ∧ Q (.ref x) H2) (E σ)
theorem run_makeG {pins : List (Addr × Obj)} {σ : St} {H : Hp} {s : Shared} {Q : VK} {us : List Value} {vs : List V} (M : Mk X.K C f) (F : FnG X.prog X.w X.K X.mg X.base CX k f sp) (hr : Room (k + 1) X.A) (hg : X.A.guards = some []) (hx : PassesAt CX X σ (E σ)) (I : Inv X pins σ H s) (r : Vals vs us)
    (h : ∀ x dx, H x = none → H dx = none → dx ≠ x → sp (.ref x :: vs) (upd (upd H dx (.own x)) x (.ins C dx [])) (fun v H2 => v = .non ∧ Q (.ref x) H2) (E σ)) : wpAny (model X.prog X.w) X.A (call (.ref C) us) (EP X pins σ Q) X.xe s := by
  have hq := h (s.heap.objs.size + 1) s.heap.objs.size (I.hok.fresh (Nat.le_succ _)) (I.hok.fresh (Nat.le_refl _)) (Nat.ne_of_lt (Nat.lt_succ_self _))
  have I2 := Inv.made (C := C) I
  have r2 : Vals (V.ref (s.heap.objs.size + 1) :: vs) (Value.ref (s.heap.objs.size + 1) :: us) := .cons rfl r
  refine wpAny_call (make_map (f := f) I.kIn M.makes M.init (beq_iff_eq.mp M.fn) (codeAny_mono (F _ X.stack _ _ (Value.ref (s.heap.objs.size + 1) :: us) _ _ (E σ) (hr.make C us []) (under_guards hg) (I2.env0.make C us []) r2 hq) fun r s' hq' => ?_))
  cases r with
  | error e => exact hx pins _ _ e s' I2 hq'
  | ok fl =>
    cases fl with
    | ret u =>
      obtain ⟨v, H', I3, rv, ev, q3⟩ := I2.after hq'
      subst ev
      exact ⟨rv, ⟨V.ref (s.heap.objs.size + 1), H', I3, rfl, q3⟩⟩
    | next => exact False.elim hq'
    | brk => exact False.elim hq'
    | cont => exact False.elim hq'
theorem pe_makeG (M : Mk X.K C f) (F : FnG X.prog X.w X.K X.mg X.base CX k f sp) (hr : Room (k + 1) X.A) (hg : X.A.guards = some []) (hx : ∀ σ, PassesAt CX X σ (E σ)) (hgl : Gl X x) (hm : X.mg x = some (.ref C)) (ha : PA X (e :: es) t) (hdb : (x == ("__debug__" : Str)) = false := by decide)
    (he : starEach (e :: es) X.env = (false, eval e X.env) :: starEach es X.env := by rfl) (hpl : (backTo pos (starEach es X.env)).any (·.1) = false := by rfl) : PE X (.Call (.Name x p) (e :: es) [] pos) (tMakeG C sp E t) := by
  refine ⟨fun pins s σ H Q I h => ?_⟩
  refine wpAny_Call_Name_kw (ld_glob I hgl hm ?_ hdb)
  refine PySem.W.callWith_K (h₀ := X.base) I.ok.mod.kin M.kp (thn (ha.run pos pins s σ H _ I h) fun us s1 ⟨vs, H1, I1, r, q⟩ => ⟨I1.kIn, ?_⟩) he hpl
  exact run_makeG M F hr hg (hx σ) I1 r q
theorem pe_makeG0 (M : Mk X.K C f) (F : FnG X.prog X.w X.K X.mg X.base CX k f sp) (hr : Room (k + 1) X.A) (hg : X.A.guards = some []) (hx : ∀ σ, PassesAt CX X σ (E σ)) (hgl : Gl X x) (hm : X.mg x = some (.ref C)) (hdb : (x == ("__debug__" : Str)) = false := by decide) :
    PE X (.Call (.Name x p) [] [] pos) (tMakeG C sp E tNil) := by
  refine ⟨fun pins s σ H Q I h => ?_⟩
  refine wpAny_Call_Name_kw (ld_glob I hgl hm ?_ hdb)
  exact PySem.W.callWith_K0 I.kIn M.kp (run_makeG (us := []) M F hr hg (hx σ) I .nil h)
/-- o.f, a property of the class at C whose getter is the def at g -/
def tPropG (C : Addr) (sp : Sp) (ta : TE) : TE := fun σ H Q => ta σ H fun x H1 => ∃ a dx fs, x = .ref a ∧ H1 a = some (.ins C dx fs) ∧ sp [.ref a] H1 Q (EF σ)
theorem getpropG {pp g a dx : Addr} {fs : List (Str × V)} {ff : Str} {pins : List (Addr × Obj)} {σ : St} {H : Hp} {s : Shared} {Q : VK} {b : Bool} (I : Inv X pins σ H s) (ea : H a = some (.ins C dx fs)) (c : Cls X.K C) (hp : PropOf X.K C ff pp g)
    (F : FnG X.prog X.w X.K X.mg X.base CX k g sp) (hr : Room (k + 1) X.A) (hg : X.A.guards = some []) (n : NoX CX) (h : sp [.ref a] H Q (EF σ)) :
    wpAny (model X.prog X.w) X.A (getAttr (.ref a) ff b) (EP X pins σ Q) X.xe s := by
  obtain ⟨mA, O, _, _, _, _⟩ := ins_get I.hok ea
  obtain ⟨od, J, _⟩ := O.look
  obtain ⟨rest, hrec⟩ := hp.rec_
  have I1 := I.tok (s.toks + 1)
  have hc : (PySem.W.clsIn X.K C).isSome = true := by
    obtain ⟨cd, hc, _⟩ := PySem.W.any_some c.hd
    rw [hc]
    rfl
  refine PySem.W.get_bind I.kIn J (PySem.W.plainGet_of (c.get ff)).1 (PySem.W.findObj_data hc hp.at_ hp.get hp.tak) (PySem.W.plainGet_of (c.get ff)).2 (wpAny_call (PySem.W.prop_get (s := { s with toks := s.toks + 1 }) I.kIn hrec ?_))
  refine codeAny_mono (F X.A.in1 X.stack { s with toks := s.toks + 1 } H [.ref a] [.ref a] Q (EF σ) hr.in1 hg I1.env0.in1 (.cons rfl .nil) h) fun r s' hq => ?_
  cases r with
  | error er => exact (n _ _ _ _ _ hq).elim
  | ok fl =>
    cases fl with
    | ret u =>
      obtain ⟨v, H', I3, rv, q3⟩ := I1.after hq
      show wpAny _ _ (handedOut u) _ _ _
      rw [PySem.W.handedOut_of (handed_of rv)]
      exact wpAny_pure ⟨v, H', I3, rv, q3⟩
    | next => exact False.elim hq
    | brk => exact False.elim hq
    | cont => exact False.elim hq
theorem pe_propG {pp g : Addr} {ff : Str} (he : PE X o ta) (c : Cls X.K C) (hp : PropOf X.K C ff pp g) (F : FnG X.prog X.w X.K X.mg X.base CX k g sp) (hr : Room (k + 1) X.A) (hg : X.A.guards = some []) (n : NoX CX)
    (hab : attributeBase o ff X.env (eval o X.env) = eval o X.env := by rfl) : PE X (.Attribute o ff pos) (tPropG C sp ta) := by
  refine ⟨fun pins s σ H Q I h => ?_⟩
  refine attr_of hab (thn (he.run pins s σ H _ I h) fun u s1 ⟨x, H1, I1, rx, a, dx, fs, ex, ea, q⟩ => ?_)
  subst ex
  obtain rfl : u = Value.ref a := rx
  exact getpropG I1 ea c hp F hr hg n q
end
/-! ### an own class's specials: in, [], []=, len, bool -/
/-- the class at C has the def at f for the special name m -/
structure Spec (K : PySem.W.Frag) (C : Addr) (m : Str) (f : Addr) : Prop where
  at_ : PySem.W.findIn K (.ref C) m = some (some (.ref f))
  fn : PySem.W.isFn K (.ref f) = true
section
variable {X : Cx} {CX : CXT} {k : Nat} {f C : Addr} {sp : Sp} {W : WX} {pos pos' : Pos} {e o : Expr} {ta tb : TE}
theorem ins_at {pins : List (Addr × Obj)} {σ : St} {H : Hp} {s : Shared} {a dx : Addr} {fs : List (Str × V)} (I : Inv X pins σ H s) (ea : H a = some (.ins C dx fs)) : ∃ od, PySem.W.InstAt s.heap a (PySem.W.instObj C dx) C (some od) := by
  obtain ⟨mA, O, _, _, _, _⟩ := ins_get I.hok ea
  obtain ⟨od, J, _⟩ := O.look
  exact ⟨od, J⟩
/-- x in o: r tells the answer -/
def rInG (C : Addr) (sp : Sp) (neg : Bool) : R2 := fun x y H Q => ∃ a dx fs, y = .ref a ∧ H a = some (.ins C dx fs) ∧ sp [.ref a, x] H (fun z H' => ∃ b, z = .bl b ∧ Q (.bl (if neg then !b else b)) H') (fun _ _ _ => False)
theorem op_inG (hs : Spec X.K C "__contains__" f) (F : FnG X.prog X.w X.K X.mg X.base CX k f sp) (hr : Room k X.A) (hg : X.A.guards = some []) (n : NoX CX) : OpR X (compareOp .In) (rInG C sp false) := by
  intro pins s σ H x y v u Q I rx ry h
  obtain ⟨a, dx, fs, ey, ea, q⟩ := h
  subst ey
  obtain rfl : u = Value.ref a := ry
  obtain ⟨od, J⟩ := ins_at I ea
  obtain ⟨m, Fr⟩ := I.fr
  refine PySem.W.in_K Fr I.ok.mod.kin J hs.at_ hs.fn (thn (run_g (E := EF) (us := [.ref a, v]) (vs := [.ref a, x]) F hr hg (passF n σ) I (.cons rfl (.cons rx .nil)) q) fun z s1 ⟨zv, H1, I1, r1, b, eb, q1⟩ => ?_)
  subst eb
  obtain rfl : z = Value.bool b := r1
  exact wpAny_truthy_bool ⟨.bl b, H1, I1, rfl, q1⟩
theorem op_notInG (hs : Spec X.K C "__contains__" f) (F : FnG X.prog X.w X.K X.mg X.base CX k f sp) (hr : Room k X.A) (hg : X.A.guards = some []) (n : NoX CX) : OpR X (compareOp .NotIn) (rInG C sp true) := by
  intro pins s σ H x y v u Q I rx ry h
  obtain ⟨a, dx, fs, ey, ea, q⟩ := h
  subst ey
  obtain rfl : u = Value.ref a := ry
  obtain ⟨od, J⟩ := ins_at I ea
  obtain ⟨m, Fr⟩ := I.fr
  refine PySem.W.notIn_K Fr I.ok.mod.kin J hs.at_ hs.fn (thn (run_g (E := EF) (us := [.ref a, v]) (vs := [.ref a, x]) F hr hg (passF n σ) I (.cons rfl (.cons rx .nil)) q) fun z s1 ⟨zv, H1, I1, r1, b, eb, q1⟩ => ?_)
  subst eb
  obtain rfl : z = Value.bool b := r1
  exact wpAny_truthy_bool ⟨.bl (!b), H1, I1, rfl, q1⟩
end
end SK
set_option maxHeartbeats 4000000
/-! SkB: locked cells, lambdas as values, calls of a name's value. -/
namespace SK
open PySem PySem.Spec PyProof.Rows L2
/-! ### locks -/
def cellHO (a : Addr) : HO := .ext fun h => ∃ u, h.get? a = some u
def lock (L : List (Addr × Obj)) (H : Hp) : Hp := fun b => match L.lookup b with
  | some o => some (.frz o (cellHO b))
  | none => H b
def unlock (L : List (Addr × Obj)) (H : Hp) : Hp := fun b => match L.lookup b with
  | some _ => none
  | none => H b
def Lkd (L : List (Addr × Obj)) (H : Hp) : Prop := ∀ b o, L.lookup b = some o → H b = some (.frz o (cellHO b))
theorem lock_at {L : List (Addr × Obj)} {H : Hp} {b : Addr} {o : Obj} (e : L.lookup b = some o) : lock L H b = some (.frz o (cellHO b)) := by unfold lock; rw [e]
theorem lock_ne {L : List (Addr × Obj)} {H : Hp} {b : Addr} (e : L.lookup b = none) : lock L H b = H b := by unfold lock; rw [e]
theorem unlock_at {L : List (Addr × Obj)} {H : Hp} {b : Addr} {o : Obj} (e : L.lookup b = some o) : unlock L H b = none := by unfold unlock; rw [e]
theorem unlock_ne {L : List (Addr × Obj)} {H : Hp} {b : Addr} (e : L.lookup b = none) : unlock L H b = H b := by unfold unlock; rw [e]
theorem lkd_lock {L : List (Addr × Obj)} {H : Hp} : Lkd L (lock L H) := fun _ _ e => lock_at e
theorem lock_unlock {L : List (Addr × Obj)} {H : Hp} (k : Lkd L H) : lock L (unlock L H) = H := by
  funext b
  cases e : L.lookup b with
  | none => rw [lock_ne e, unlock_ne e]
  | some o => rw [lock_at e, k b o e]
theorem unlock_lock {L : List (Addr × Obj)} {H : Hp} (k : ∀ b o, L.lookup b = some o → H b = none) : unlock L (lock L H) = H := by
  funext b
  cases e : L.lookup b with
  | none => rw [unlock_ne e, lock_ne e]
  | some o => rw [unlock_at e, k b o e]
section
variable {P : Program} {w : World} {L : List (Addr × Obj)} {H H' : Hp} {h h' B : Heap} {fs : List Addr}
/-- what stands ready to be locked -/
def Ready (L : List (Addr × Obj)) (H : Hp) (h : Heap) (fs : List Addr) : Prop := ∀ b o, L.lookup b = some o → h.get? b = some o ∧ H b = none ∧ b ∉ fs
theorem hok_lock (ok : HOk P w H h) (r : ∀ b o, L.lookup b = some o → h.get? b = some o ∧ H b = none) : HOk P w (lock L H) h := fun a o e => by
  cases q : L.lookup a with
  | some ob =>
    rw [lock_at q] at e; cases e
    have g := (r a ob q).1
    exact ⟨g, ⟨_, g⟩, ⟨_, g⟩, fun h1 h2 ⟨u, z⟩ st => ⟨u, st _ z⟩⟩
  | none =>
    rw [lock_ne q] at e
    have nn : ∀ b u, H b = some u → lock L H b = some u := fun b u z => by
      cases q2 : L.lookup b with
      | some o2 => rw [(r b o2 q2).2] at z; cases z
      | none => rw [lock_ne q2]; exact z
    exact (ok a o e).stay (fun _ _ _ z => z) (fun b z => nn _ _ z) fun b xs z => nn _ _ z
theorem hok_unlock (ok : HOk P w H h) (r : Lkd L H) : HOk P w (unlock L H) h := fun a o e => by
  cases q : L.lookup a with
  | some ob => rw [unlock_at q] at e; cases e
  | none =>
    rw [unlock_ne q] at e
    have nn : ∀ b u, H b = some u → (∀ o v, u ≠ .frz o v) → unlock L H b = some u := fun b u z nf => by
      cases q2 : L.lookup b with
      | some o2 => rw [r b o2 q2] at z; cases z; exact absurd rfl (nf _ _)
      | none => rw [unlock_ne q2]; exact z
    exact (ok a o e).stay (fun _ _ _ z => z) (fun b z => nn _ _ z fun _ _ q => by cases q) fun b xs z => nn _ _ z fun _ _ q => by cases q
theorem lkd_at (ok : HOk P w H h) (r : Lkd L H) {b : Addr} {o : Obj} (e : L.lookup b = some o) : h.get? b = some o := (ok b _ (r b o e)).1
theorem un_unlock (u : Un fs [] (lock L H) H' h h') (r : Ready L H h fs) (ok : HOk P w H' h') : Un fs [] H (unlock L H') h h' := by
  have lk : Lkd L H' := fun b o e => u.frzs b _ _ (lock_at e)
  have ln : ∀ b u, H b = some u → L.lookup b = none := fun b v z => by
    cases q : L.lookup b with
    | none => rfl
    | some o => rw [(r b o q).2.1] at z; cases z
  refine ⟨fun b o e n hb hx => ?_, fun b o e n hb hx => ?_, fun b o e n hx => ?_, fun b o e hx => u.there b o e hx, fun b xs e => ?_, fun b o v e => ?_, fun b ps e => ?_⟩
  · cases q : L.lookup b with
    | some ob =>
      have g := (r b ob q).1
      rw [e] at g; cases g
      exact lkd_at ok lk q
    | none => exact u.keep b o e (by rw [lock_ne q]; exact n) hb hx
  · cases q : L.lookup b with
    | some ob => exact absurd hb (r b ob q).2.2
    | none => exact u.slot b o e (by rw [lock_ne q]; exact n) hb hx
  · cases q : L.lookup b with
    | some ob => exact unlock_at q
    | none => rw [unlock_ne q]; exact u.free b o e (by rw [lock_ne q]; exact n) hx
  · have q := ln _ _ e
    rw [unlock_ne q]; exact u.tups b xs (by rw [lock_ne q]; exact e)
  · have q := ln _ _ e
    rw [unlock_ne q]; exact u.frzs b o v (by rw [lock_ne q]; exact e)
  · have q := ln _ _ e
    rw [unlock_ne q]; exact u.tbls b ps (by rw [lock_ne q]; exact e)
theorem ub_unlock (u : UB fs (lock L H) H' h B h') (r : Ready L H h fs) (ok : HOk P w H' B) : UB fs H (unlock L H') h B h' := by
  have lk : Lkd L H' := fun b o e => u.frzs b _ _ (lock_at e)
  have ln : ∀ b u, H b = some u → L.lookup b = none := fun b v z => by
    cases q : L.lookup b with
    | none => rfl
    | some o => rw [(r b o q).2.1] at z; cases z
  refine ⟨fun b o e n hb => ?_, fun b o e hb => u.slot b o e hb, fun b o e n => ?_, fun b o e hx => u.there b o e hx, fun b xs e => ?_, fun b o v e => ?_, fun b ps e => ?_⟩
  · cases q : L.lookup b with
    | some ob =>
      have g := (r b ob q).1
      rw [e] at g; cases g
      exact lkd_at ok lk q
    | none => exact u.keep b o e (by rw [lock_ne q]; exact n) hb
  · cases q : L.lookup b with
    | some ob => exact unlock_at q
    | none => rw [unlock_ne q]; exact u.free b o e (by rw [lock_ne q]; exact n)
  · have q := ln _ _ e
    rw [unlock_ne q]; exact u.tups b xs (by rw [lock_ne q]; exact e)
  · have q := ln _ _ e
    rw [unlock_ne q]; exact u.frzs b o v (by rw [lock_ne q]; exact e)
  · have q := ln _ _ e
    rw [unlock_ne q]; exact u.tbls b ps (by rw [lock_ne q]; exact e)
/-- behind a call at the locked heap, told of the open one -/
theorem cr_unlock {outer : List Env} {s s' : Shared} {Q : VK} {E : XK} {r : Result} (rd : Ready L H s.heap (frs outer))
    (c : CR (L2N.CX P w) outer P w (lock L H) s (fun v H' => Lkd L H' → Q v (unlock L H')) (fun cls d H' => Lkd L H' → E cls d (unlock L H')) r s') : CR (L2N.CX P w) outer P w H s Q E r s' := by
  cases r with
  | error e =>
    obtain ⟨a, B, H', cls, d, ea, fl, hok, ub, na, os, ag, q⟩ := c
    have lk : Lkd L H' := fun b o e => ub.frzs b _ _ (lock_at e)
    refine ⟨a, B, unlock L H', cls, d, ea, fl, hok_unlock hok lk, ub_unlock ub rd hok, ?_, os, ag, q lk⟩
    cases q2 : L.lookup a with
    | some ob => exact unlock_at q2
    | none => rw [unlock_ne q2]; exact na
  | ok f =>
    cases f with
    | ret u =>
      obtain ⟨v, H', os, bare, un, hok, rv, q⟩ := c
      have lk : Lkd L H' := fun b o e => un.frzs b _ _ (lock_at e)
      exact ⟨v, unlock L H', os, bare, un_unlock un rd hok, hok_unlock hok lk, rv, q lk⟩
    | next => exact c
    | brk => exact c
    | cont => exact c
theorem un_lock (u : Un fs [] (unlock L H) H' h h') (lk : Lkd L H) (ok : HOk P w H h) (nf : ∀ b o, L.lookup b = some o → b ∉ fs) : Un fs [] H (lock L H') h h' := by
  refine ⟨fun b o e n hb hx => ?_, fun b o e n hb hx => ?_, fun b o e n hx => ?_, fun b o e hx => u.there b o e hx, fun b xs e => ?_, fun b o v e => ?_, fun b ps e => ?_⟩
  · have q : L.lookup b = none := by
      cases q : L.lookup b with
      | none => rfl
      | some ob => rw [lk b ob q] at n; cases n
    exact u.keep b o e (by rw [unlock_ne q]; exact n) hb hx
  · have q : L.lookup b = none := by
      cases q : L.lookup b with
      | none => rfl
      | some ob => rw [lk b ob q] at n; cases n
    exact u.slot b o e (by rw [unlock_ne q]; exact n) hb hx
  · have q : L.lookup b = none := by
      cases q : L.lookup b with
      | none => rfl
      | some ob => rw [lk b ob q] at n; cases n
    rw [lock_ne q]
    exact u.free b o e (by rw [unlock_ne q]; exact n) hx
  · cases q : L.lookup b with
    | some ob => rw [lk b ob q] at e; cases e
    | none => rw [lock_ne q]; exact u.tups b xs (by rw [unlock_ne q]; exact e)
  · cases q : L.lookup b with
    | some ob => rw [lk b ob q] at e; cases e; exact lock_at q
    | none => rw [lock_ne q]; exact u.frzs b o v (by rw [unlock_ne q]; exact e)
  · cases q : L.lookup b with
    | some ob => rw [lk b ob q] at e; cases e
    | none => rw [lock_ne q]; exact u.tbls b ps (by rw [unlock_ne q]; exact e)
theorem ub_lock (u : UB fs (unlock L H) H' h B h') (lk : Lkd L H) (ok : HOk P w H h) : UB fs H (lock L H') h B h' := by
  have qn : ∀ b, H b = none → L.lookup b = none := fun b n => by
    cases q : L.lookup b with
    | none => rfl
    | some ob => rw [lk b ob q] at n; cases n
  refine ⟨fun b o e n hb => u.keep b o e (by rw [unlock_ne (qn b n)]; exact n) hb, fun b o e hb => u.slot b o e hb, fun b o e n => ?_, fun b o e hx => u.there b o e hx, fun b xs e => ?_, fun b o v e => ?_, fun b ps e => ?_⟩
  · rw [lock_ne (qn b n)]
    exact u.free b o e (by rw [unlock_ne (qn b n)]; exact n)
  · cases q : L.lookup b with
    | some ob => rw [lk b ob q] at e; cases e
    | none => rw [lock_ne q]; exact u.tups b xs (by rw [unlock_ne q]; exact e)
  · cases q : L.lookup b with
    | some ob => rw [lk b ob q] at e; cases e; exact lock_at q
    | none => rw [lock_ne q]; exact u.frzs b o v (by rw [unlock_ne q]; exact e)
  · cases q : L.lookup b with
    | some ob => rw [lk b ob q] at e; cases e
    | none => rw [lock_ne q]; exact u.tbls b ps (by rw [unlock_ne q]; exact e)
/-- behind a body at the open heap, told of the locked one -/
theorem cr_lock {outer : List Env} {s s' : Shared} {Q : VK} {E : XK} {r : Result} (lk : Lkd L H) (ok : HOk P w H s.heap) (nf : ∀ b o, L.lookup b = some o → b ∉ frs outer)
    (c : CR (L2N.CX P w) outer P w (unlock L H) s (fun v H' => Q v (lock L H')) (fun cls d H' => E cls d (lock L H')) r s') : CR (L2N.CX P w) outer P w H s Q E r s' := by
  cases r with
  | error e =>
    obtain ⟨a, B, H', cls, d, ea, fl, hok, ub, na, os, ag, q⟩ := c
    have gB : ∀ b o, L.lookup b = some o → B.get? b = some o ∧ H' b = none := fun b o e => by
      have g := lkd_at ok lk e
      exact ⟨ub.keep b o g (unlock_at e) (nf b o e), ub.free b o g (unlock_at e)⟩
    refine ⟨a, B, lock L H', cls, d, ea, fl, hok_lock hok gB, ub_lock ub lk ok, ?_, os, ag, q⟩
    cases q2 : L.lookup a with
    | some ob =>
      have z := (gB a ob q2).1
      rw [fl.2.1] at z; cases z
    | none => rw [lock_ne q2]; exact na
  | ok f =>
    cases f with
    | ret u =>
      obtain ⟨v, H', os, bare, un, hok, rv, q⟩ := c
      have gB : ∀ b o, L.lookup b = some o → s'.heap.get? b = some o ∧ H' b = none := fun b o e => by
        have g := lkd_at ok lk e
        exact ⟨un.keep b o g (unlock_at e) (nf b o e) (by simp), un.free b o g (unlock_at e) (by simp)⟩
      exact ⟨v, lock L H', os, bare, un_lock un lk ok nf, hok_lock hok gB, rv, q⟩
    | next => exact c
    | brk => exact c
    | cont => exact c
end
theorem env0_lock {P : Program} {w : World} {K : PySem.W.Frag} {mg : Str → Option Value} {base : Heap} {A : Around} {outer : List Env} {s : Shared} {H : Hp} {L : List (Addr × Obj)} (e0 : Env0 P w K mg base A outer s H) (r : Ready L H s.heap (frs outer))
    (nb : ∀ b o, L.lookup b = some o → base.get? b = none) : Env0 P w K mg base A outer s (lock L H) :=
  ⟨e0.frames, e0.mod, fun b o e => ⟨(e0.bs b o e).1, by
    cases q : L.lookup b with
    | some ob => rw [nb b ob q] at e; cases e
    | none => rw [lock_ne q]; exact (e0.bs b o e).2⟩, e0.bsz, e0.funs, fun b hb => by
    cases q : L.lookup b with
    | some ob => exact absurd hb (r b ob q).2.2
    | none => rw [lock_ne q]; exact e0.frf b hb, hok_lock e0.hok fun b o e => ⟨(r b o e).1, (r b o e).2.1⟩, e0.bare⟩
theorem env0_unlock {P : Program} {w : World} {K : PySem.W.Frag} {mg : Str → Option Value} {base : Heap} {A : Around} {outer : List Env} {s : Shared} {H : Hp} {L : List (Addr × Obj)} (e0 : Env0 P w K mg base A outer s H) (lk : Lkd L H) : Env0 P w K mg base A outer s (unlock L H) :=
  ⟨e0.frames, e0.mod, fun b o e => ⟨(e0.bs b o e).1, by
    cases q : L.lookup b with
    | some ob => exact unlock_at q
    | none => rw [unlock_ne q]; exact (e0.bs b o e).2⟩, e0.bsz, e0.funs, fun b hb => by
    cases q : L.lookup b with
    | some ob => exact unlock_at q
    | none => rw [unlock_ne q]; exact e0.frf b hb, hok_unlock e0.hok lk, e0.bare⟩
/-! ### calls with locks -/
section
variable {X : Cx} {k : Nat} {f C : Addr} {sp : Sp} {W : WX} {x m : Str} {p pos apos : Pos} {e o : Expr} {es : List Expr} {ta : TE} {t : TA} {L : List (Addr × Obj)}
abbrev QL (L : List (Addr × Obj)) (Q : VK) : VK := fun v H' => Lkd L H' → Q v (unlock L H')
abbrev XL (L : List (Addr × Obj)) (E : XK) : XK := fun cls d H' => Lkd L H' → E cls d (unlock L H')
theorem run_gL {pins : List (Addr × Obj)} {σ : St} {H : Hp} {s : Shared} {Q : VK} {us : List Value} {vs : List V} (F : FnG X.prog X.w X.K X.mg X.base (L2N.CX X.prog X.w) k f sp) (hr : Room k X.A) (hg : X.A.guards = some []) (tk : L2N.Takes X W)
    (I : Inv X pins σ H s) (rd : Ready L H s.heap (frs X.stack)) (nb : ∀ b o, L.lookup b = some o → X.base.get? b = none) (r : Vals vs us) (h : sp vs (lock L H) (QL L Q) (XL L (WE W σ))) : wpAny (model X.prog X.w) X.A (call (.ref f) us) (EP X pins σ Q) X.xe s := by
  refine wpAny_call (codeAny_mono (F X.A X.stack s (lock L H) us vs _ _ hr hg (env0_lock I.env0 rd nb) r h) fun r s' hq => ?_)
  have hq := cr_unlock (Q := Q) (E := WE W σ) rd hq
  cases r with
  | error e => exact L2N.passAt tk σ pins H s e s' I hq
  | ok fl =>
    cases fl with
    | ret u => exact I.after hq
    | next => exact False.elim hq
    | brk => exact False.elim hq
    | cont => exact False.elim hq
/-- the running frame's cells, as they stand -/
structure CellsL (X : Cx) (σ : St) (L : List (Addr × Obj)) : Prop where
  all : ∀ y c, X.env.cells.lookup y = some c → ∃ o v, L.lookup c = some o ∧ o.data = .cell v
  has : ∀ (j : Nat) y c v, X.N[j]? = some y → σ[j]? = some (some v) → (X.env.scope.names.lookup y = some .cell ∨ X.env.scope.names.lookup y = some .free) → X.env.cells.lookup y = some c → ∃ o u, L.lookup c = some o ∧ o.data = .cell (some u) ∧ RelV v u
theorem lookup_fm {h : Heap} : ∀ {l : List (Str × Addr)} {c : Addr} {o : Obj}, (∃ y, (y, c) ∈ l) → h.get? c = some o → (l.filterMap fun p => (h.get? p.2).map fun o => (p.2, o)).lookup c = some o
  | [], _, _, ⟨y, hy⟩, _ => by cases hy
  | (z, d) :: l, c, o, ⟨y, hy⟩, e => by
    by_cases hd : d = c
    · subst hd
      rw [List.filterMap_cons, show (h.get? (z, d).2).map (fun o => ((z, d).2, o)) = some (d, o) from by show (h.get? d).map _ = _; rw [e]; rfl]
      simp [List.lookup]
    · have hy' : ∃ y, (y, c) ∈ l := by
        rcases List.mem_cons.mp hy with q | q
        · cases q; exact absurd rfl hd
        · exact ⟨y, q⟩
      have ih := lookup_fm (h := h) hy' e
      rw [List.filterMap_cons]
      cases g : h.get? d with
      | none => exact ih
      | some od =>
        show List.lookup c ((d, od) :: _) = some o
        rw [List.lookup_cons]
        have : (c == d) = false := by simpa using fun q => hd q.symm
        rw [this]
        exact ih
theorem mem_lkA {α : Type} : ∀ {l : List (Addr × α)} {b : Addr} {o : α}, l.lookup b = some o → (b, o) ∈ l
  | [], _, _, e => by cases e
  | (d, u) :: l, b, o, e => by
    rw [List.lookup_cons] at e
    split at e
    · rename_i q
      have q' : b = d := by simpa using q
      cases e
      rw [q']
      exact List.mem_cons_self
    · exact List.mem_cons_of_mem _ (mem_lkA e)
theorem of_lookup_fm {h : Heap} {l : List (Str × Addr)} {c : Addr} {o : Obj} (e : (l.filterMap fun p => (h.get? p.2).map fun o => (p.2, o)).lookup c = some o) : (∃ y, (y, c) ∈ l) ∧ h.get? c = some o := by
  have m := mem_lkA e
  obtain ⟨⟨y, d⟩, hy, q⟩ := List.mem_filterMap.mp m
  cases g : h.get? d with
  | none => rw [show (h.get? (y, d).2).map (fun o => ((y, d).2, o)) = none from by show (h.get? d).map _ = _; rw [g]; rfl] at q; cases q
  | some od =>
    rw [show (h.get? (y, d).2).map (fun o => ((y, d).2, o)) = some (d, od) from by show (h.get? d).map _ = _; rw [g]; rfl] at q
    cases q
    exact ⟨⟨y, hy⟩, g⟩
/-- the cells of the running def stand ready -/
theorem cells_ready {pins : List (Addr × Obj)} {σ : St} {H : Hp} {s : Shared} (I : Inv X pins σ H s) (hs : X.stack = X.env :: X.outer) (hf : X.env.frame = some X.env.locals) (hn : (X.env.cells.map (·.1)).Nodup) (hfn : ∀ x, X.fn x = true) :
    ∃ L : List (Addr × Obj), Ready L H s.heap (frs X.stack) ∧ (∀ b o, L.lookup b = some o → X.base.get? b = none) ∧ CellsL X σ L := by
  have lk : ∀ y c, (y, c) ∈ X.env.cells → X.env.cells.lookup y = some c := fun y c hm => by
    have : ∀ {l : List (Str × Addr)}, (l.map (·.1)).Nodup → (y, c) ∈ l → l.lookup y = some c := by
      intro l
      induction l with
      | nil => intro _ h; cases h
      | cons a l ih =>
        intro nd h
        rcases List.mem_cons.mp h with q | q
        · subst q; simp [List.lookup]
        · have nd' := List.nodup_cons.mp (show (a.1 :: l.map (·.1)).Nodup from nd)
          have hne : (y == a.1) = false := by
            simpa using fun z => nd'.1 (List.mem_map.mpr ⟨(y, c), q, z⟩)
          rw [List.lookup_cons, hne]
          exact ih nd'.2 q
    exact this hn hm
  refine ⟨X.env.cells.filterMap fun p => (s.heap.get? p.2).map fun o => (p.2, o), fun b o e => ?_, fun b o e => ?_, fun y c e => ?_, fun j y c v e1 e2 e3 e4 => ?_⟩
  · obtain ⟨⟨y, hy⟩, g⟩ := of_lookup_fm e
    have hl := lk y b hy
    refine ⟨g, I.freeC y b hl, fun hb => ?_⟩
    rcases List.mem_cons.mp (I.stkSub b hb) with z | z
    · exact I.cne y b hl z
    · have hc := I.ok.cab y b (hfn y) hl
      obtain ⟨_, o', ho', _⟩ := I.ok.funs.mem z
      exact absurd (Nat.lt_of_lt_of_le (Heap.lt_size ho') hc) (Nat.lt_irrefl _)
  · obtain ⟨⟨y, hy⟩, g⟩ := of_lookup_fm e
    exact Heap.get?_none_of_le (Nat.le_trans I.ok.bsz (I.ok.cab y b (hfn y) (lk y b hy)))
  · obtain ⟨v, o, ho, hd⟩ := I.cell y c e
    exact ⟨o, v, lookup_fm ⟨y, PySem.mem_of_lookup e⟩ ho, hd⟩
  · obtain ⟨m, hns, hl⟩ := I.loc
    obtain ⟨u, r, l⟩ := hl j y v e1 e2 (e3.elim (fun z => .inr (.inl z)) fun z => .inr (.inr z))
    rcases l with ⟨z, _⟩ | ⟨_, c', hc', o, ho, hd⟩
    · have z' : X.env.scope.names.lookup y = some .local := z
      rcases e3 with k | k <;> rw [k] at z' <;> cases z'
    · rw [e4] at hc'; cases hc'
      exact ⟨o, u, lookup_fm ⟨y, PySem.mem_of_lookup e4⟩ ho, hd, r⟩
/-- f(..) in a def that has cells: they are locked through the call -/
def tCallL (X : Cx) (sp : Sp) (W : WX) (t : TA) : TE := fun σ H Q => t σ H fun vs H1 => ∀ L, CellsL X σ L → (∀ b o, L.lookup b = some o → H1 b = none) → sp vs (lock L H1) (QL L Q) (XL L (WE W σ))
theorem pe_gL (F : FnG X.prog X.w X.K X.mg X.base (L2N.CX X.prog X.w) k f sp) (hr : Room k X.A) (hg : X.A.guards = some []) (tk : L2N.Takes X W) (hs : X.stack = X.env :: X.outer) (hf : X.env.frame = some X.env.locals) (hn : (X.env.cells.map (·.1)).Nodup) (hfn : ∀ x, X.fn x = true)
    (hgl : Gl X x) (hm : X.mg x = some (.ref f)) (hk : PySem.W.keepIn X.K (.ref f) = true)
    (ha : PA X (e :: es) t) (hdb : (x == ("__debug__" : Str)) = false := by decide) (he : starEach (e :: es) X.env = (false, eval e X.env) :: starEach es X.env := by rfl) (hpl : (backTo pos (starEach es X.env)).any (·.1) = false := by rfl) :
    PE X (.Call (.Name x p) (e :: es) [] pos) (tCallL X sp W t) := by
  refine ⟨fun pins s σ H Q I h => ?_⟩
  refine wpAny_Call_Name_kw (ld_glob I hgl hm ?_ hdb)
  refine PySem.W.callWith_K (h₀ := X.base) I.ok.mod.kin hk (thn (ha.run pos pins s σ H _ I h) fun us s1 ⟨vs, H1, I1, r, q⟩ => ⟨I1.kIn, ?_⟩) he hpl
  obtain ⟨L, rd, nb, cl⟩ := cells_ready I1 hs hf hn hfn
  exact run_gL F hr hg tk I1 rd nb r (q L cl fun b o z => (rd b o z).2.1)
/-- in a lambda's body: the cells that were locked at its entry -/
structure Ready0 (X : Cx) (L : List (Addr × Obj)) : Prop where
  ex : X.ex = []
  at_ : ∀ b o, L.lookup b = some o → X.s_0.heap.get? b = some o ∧ X.H_0 b = none ∧ b ∉ X.fs ∧ X.base.get? b = none
theorem Ready0.now {pins : List (Addr × Obj)} {σ : St} {H : Hp} {s : Shared} (r : Ready0 X L) (I : Inv X pins σ H s) : Ready L H s.heap (frs X.stack) := fun b o e => by
  obtain ⟨h1, h2, h3, _⟩ := r.at_ b o e
  have nx : b ∉ X.ex := by rw [r.ex]; simp
  refine ⟨I.base.keep b o h1 h2 h3 nx, I.base.free b o h1 h2 nx, fun hb => ?_⟩
  rcases List.mem_cons.mp (I.stkSub b hb) with z | z
  · exact absurd (Nat.lt_of_lt_of_le (Heap.lt_size h1) (z ▸ I.ok.above)) (Nat.lt_irrefl _)
  · exact h3 z
def tCallL0 (L : List (Addr × Obj)) (sp : Sp) (W : WX) (t : TA) : TE := fun σ H Q => t σ H fun vs H1 => sp vs (lock L H1) (QL L Q) (XL L (WE W σ))
theorem pe_gL0 (F : FnG X.prog X.w X.K X.mg X.base (L2N.CX X.prog X.w) k f sp) (hr : Room k X.A) (hg : X.A.guards = some []) (tk : L2N.Takes X W) (rd : Ready0 X L)
    (hgl : Gl X x) (hm : X.mg x = some (.ref f)) (hk : PySem.W.keepIn X.K (.ref f) = true)
    (ha : PA X (e :: es) t) (hdb : (x == ("__debug__" : Str)) = false := by decide) (he : starEach (e :: es) X.env = (false, eval e X.env) :: starEach es X.env := by rfl) (hpl : (backTo pos (starEach es X.env)).any (·.1) = false := by rfl) :
    PE X (.Call (.Name x p) (e :: es) [] pos) (tCallL0 L sp W t) := by
  refine ⟨fun pins s σ H Q I h => ?_⟩
  refine wpAny_Call_Name_kw (ld_glob I hgl hm ?_ hdb)
  refine PySem.W.callWith_K (h₀ := X.base) I.ok.mod.kin hk (thn (ha.run pos pins s σ H _ I h) fun us s1 ⟨vs, H1, I1, r, q⟩ => ⟨I1.kIn, ?_⟩) he hpl
  exact run_gL F hr hg tk I1 (rd.now I1) (fun b o z => (rd.at_ b o z).2.2.2) r q
def tMethL0 (L : List (Addr × Obj)) (C : Addr) (m : Str) (sp : Sp) (W : WX) (ta : TE) (t : TA) : TE := fun σ H Q => ta σ H fun x H1 => ∃ a dx fs, x = .ref a ∧ H1 a = some (.ins C dx fs) ∧ fs.lookup m = none ∧ t σ H1 fun vs H2 => sp (.ref a :: vs) (lock L H2) (QL L Q) (XL L (WE W σ))
theorem pe_mgL0 {pl : Sem Bool} (he : PE X o ta) (c : Cls X.K C) (hm : Meth X.K C m f) (F : FnG X.prog X.w X.K X.mg X.base (L2N.CX X.prog X.w) k f sp) (hr : Room k X.A) (hg : X.A.guards = some []) (tk : L2N.Takes X W) (rd : Ready0 X L) (ha : PA X (e :: es) t)
    (hst : starEach (e :: es) X.env = (false, eval e X.env) :: starEach es X.env := by rfl) (hpl : (backTo pos (starEach es X.env)).any (·.1) = false := by rfl)
    (ht : eval (.Call (.Attribute o m apos) (e :: es) [] pos) X.env = (do
      let ov ← eval o X.env
      standAt apos.atName
      let (f, first) ← holding [ov] (getMethod ov m pl)
      callWith pos f first (backTo pos (starEach (e :: es) X.env)) (backToKw pos (keywordEach [] X.env))) := by rfl) :
    PE X (.Call (.Attribute o m apos) (e :: es) [] pos) (tMethL0 L C m sp W ta t) := by
  refine ⟨fun pins s σ H Q I h => ?_⟩
  refine PySem.W.methodCall_KW (pl := pl) (thn (he.run pins s σ H _ I h) fun u s1 ⟨x, H1, I1, rx, a, dx, fs, ex, ea, l, q⟩ => ?_) ht
  subst ex
  obtain rfl : u = Value.ref a := rx
  refine getmeth_ok I1 ea c hm l ?_
  refine PySem.W.callWith_K (first := [.ref a]) (h₀ := X.base) I.ok.mod.kin hm.kp (thn (ha.run pos pins s1 σ H1 _ I1 q) fun us s2 ⟨vs, H2, I2, r, q2⟩ => ⟨I2.kIn, ?_⟩) hst hpl
  exact run_gL (us := .ref a :: us) (vs := .ref a :: vs) F hr hg tk I2 (rd.now I2) (fun b o z => (rd.at_ b o z).2.2.2) (.cons rfl r) q2
theorem pe_mgL00 {pl : Sem Bool} (he : PE X o ta) (c : Cls X.K C) (hm : Meth X.K C m f) (F : FnG X.prog X.w X.K X.mg X.base (L2N.CX X.prog X.w) k f sp) (hr : Room k X.A) (hg : X.A.guards = some []) (tk : L2N.Takes X W) (rd : Ready0 X L)
    (ht : eval (.Call (.Attribute o m apos) [] [] pos) X.env = (do
      let ov ← eval o X.env
      standAt apos.atName
      let (f, first) ← holding [ov] (getMethod ov m pl)
      callWith pos f first (backTo pos (starEach [] X.env)) (backToKw pos (keywordEach [] X.env))) := by rfl) :
    PE X (.Call (.Attribute o m apos) [] [] pos) (tMethL0 L C m sp W ta tNil) := by
  refine ⟨fun pins s σ H Q I h => ?_⟩
  refine PySem.W.methodCall_KW (pl := pl) (thn (he.run pins s σ H _ I h) fun u s1 ⟨x, H1, I1, rx, a, dx, fs, ex, ea, l, q⟩ => ?_) ht
  subst ex
  obtain rfl : u = Value.ref a := rx
  refine getmeth_ok I1 ea c hm l ?_
  exact PySem.W.callWith_K0 I1.kIn hm.kp (run_gL (us := [.ref a]) (vs := [.ref a]) F hr hg tk I1 (rd.now I1) (fun b o z => (rd.at_ b o z).2.2.2) (.cons rfl .nil) q)
end
/-! ### a call of what a name holds -/
/-- a function object is known at f -/
def Callee (H : Hp) (f : Addr) : Prop := ∃ φ : Heap → Prop, H f = some (.ext φ) ∧ ∀ h, φ h → PySem.W.FnAt f h
theorem Callee.at_ {P : Program} {w : World} {H : Hp} {h : Heap} {f : Addr} (c : Callee H f) (ok : HOk P w H h) : PySem.W.FnAt f h := by
  obtain ⟨φ, e, z⟩ := c
  exact z h (ok f _ e).1
section
variable {X : Cx} {k i : Nat} {W : WX} {x : Str} {p pos : Pos} {e : Expr} {es : List Expr} {t : TA}
def tCallV (X : Cx) (k i : Nat) (W : WX) (t : TA) : TE := fun σ H Q => ∃ f lam, σ[i]? = some (some (.ref f)) ∧ Callee H f ∧ FnG X.prog X.w X.K X.mg X.base (L2N.CX X.prog X.w) k f lam ∧ t σ H fun vs H1 => Callee H1 f ∧ lam vs H1 Q (WE W σ)
theorem pe_callV (hr : Room k X.A) (hg : X.A.guards = some []) (tk : L2N.Takes X W) (hN : X.N[i]? = some x) (hv : Vis X.env.scope x) (ha : PA X (e :: es) t)
    (hd : (x == ("__debug__" : Str)) = false := by decide) (hcd : (x == ("__classdict__" : Str)) = false := by decide)
    (he : starEach (e :: es) X.env = (false, eval e X.env) :: starEach es X.env := by rfl) (hpl : (backTo pos (starEach es X.env)).any (·.1) = false := by rfl) :
    PE X (.Call (.Name x p) (e :: es) [] pos) (tCallV X k i W t) := by
  refine ⟨fun pins s σ H Q I h => ?_⟩
  obtain ⟨f, lam, hs, hf, F, ht⟩ := h
  refine wpAny_Call_Name_kw (thn ((pe_var (pos := p) hN hv hd hcd).run pins s σ H (fun v H1 => v = .ref f ∧ H1 = H) I ⟨.ref f, hs, rfl, rfl⟩) fun u s1 ⟨v, H1, I1, r1, q1⟩ => ?_)
  obtain ⟨ev, eH⟩ := q1
  subst ev
  rw [eH] at I1
  obtain rfl : u = Value.ref f := r1
  refine PySem.W.callWith_F (first := []) (hf.at_ I1.hok) (thn (ha.run pos pins s1 σ H _ I1 ht) fun us s2 ⟨vs, H2, I2, r, h1, q⟩ => ⟨h1.at_ I2.hok, ?_⟩) he hpl
  exact run_g (E := WE W) F hr hg (L2N.passAt tk σ) I2 r q
theorem pe_callV0 (hr : Room k X.A) (hg : X.A.guards = some []) (tk : L2N.Takes X W) (hN : X.N[i]? = some x) (hv : Vis X.env.scope x)
    (hd : (x == ("__debug__" : Str)) = false := by decide) (hcd : (x == ("__classdict__" : Str)) = false := by decide) : PE X (.Call (.Name x p) [] [] pos) (tCallV X k i W tNil) := by
  refine ⟨fun pins s σ H Q I h => ?_⟩
  obtain ⟨f, lam, hs, hf, F, h1, q⟩ := h
  refine wpAny_Call_Name_kw (thn ((pe_var (pos := p) hN hv hd hcd).run pins s σ H (fun v H1 => v = .ref f ∧ H1 = H) I ⟨.ref f, hs, rfl, rfl⟩) fun u s1 ⟨v, H1, I1, r1, q1⟩ => ?_)
  obtain ⟨ev, eH⟩ := q1
  subst ev
  rw [eH] at I1
  obtain rfl : u = Value.ref f := r1
  refine PySem.W.callWith_F0 (first := []) (h1.at_ I1.hok) ?_
  exact run_g (E := WE W) (us := []) (vs := []) F hr hg (L2N.passAt tk σ) I1 .nil q
end
/-! ### lambdas -/
/-- a lambda's words, the cells that it captured, its code object -/
structure LF where
  qual : Str
  params : Arguments
  body : Expr
  scope : Scope
  cl : List (Str × Addr)
  c : Addr
/-- the object at f is the lambda F -/
def LamO (f : Addr) (F : LF) : HO := .ext fun h => ∃ pm ctv : Value, h.get? f = some (PySem.W.kla_obj "<lambda>" F.qual F.params F.body F.scope F.cl pm F.c ctv)
theorem lamO_callee {H : Hp} {f : Addr} {F : LF} (e : H f = some (LamO f F)) : Callee H f := ⟨_, e, fun h ⟨pm, ctv, z⟩ => ⟨_, _, _, _, z⟩⟩
theorem lamO_tbl {f : Addr} {F : LF} (ps : Array Value) : LamO f F ≠ .tbl ps := fun z => by unfold LamO at z; cases z
/-- the captured cells are locked, and hold ws -/
structure LkAt (cl : List (Str × Addr)) (fr : List Str) (ws : List (Option V)) (H : Hp) : Prop where
  len : ws.length = fr.length
  all : ∀ y c, cl.lookup y = some c → ∃ o v, H c = some (.frz o (cellHO c)) ∧ o.data = .cell v
  inj : ∀ x y c, cl.lookup x = some c → cl.lookup y = some c → x = y
  has : ∀ (i : Nat) (y : Str), fr[i]? = some y → ∃ c, cl.lookup y = some c ∧ ∀ v, ws[i]? = some (some v) → ∃ o u, H c = some (.frz o (cellHO c)) ∧ o.data = .cell (some u) ∧ RelV v u
theorem LkAt.ext {cl : List (Str × Addr)} {fr : List Str} {ws : List (Option V)} {H H' : Hp} (a : LkAt cl fr ws H) (e : ∀ b o u, H b = some (.frz o u) → H' b = some (.frz o u)) : LkAt cl fr ws H' :=
  ⟨a.len, fun y c h => let ⟨o, v, h1, h2⟩ := a.all y c h; ⟨o, v, e _ _ _ h1, h2⟩, a.inj, fun i y h => let ⟨c, h1, h2⟩ := a.has i y h; ⟨c, h1, fun v hv => let ⟨o, u, h3, h4, h5⟩ := h2 v hv; ⟨o, u, e _ _ _ h3, h4, h5⟩⟩⟩
/-- .. in the def that owns them -/
theorem lkAt_of {X : Cx} {σ : St} {cl : List (Str × Addr)} {fr : List Str} {js : List Nat} {L : List (Addr × Obj)} {H : Hp} (ok : X.Ok) (cp : NdefX.Caps X cl fr js) (C : CellsL X σ L) : LkAt cl fr (js.map (NdefX.slotAt σ)) (lock L H) := by
  refine ⟨?_, fun y c e => ?_, fun x y c e1 e2 => ok.inj x y c (cp.sub x c e1) (cp.sub y c e2), fun i y e => ?_⟩
  · have q := congrArg List.length cp.at_
    rw [List.length_map, List.length_map] at q
    rw [List.length_map]
    exact q
  · obtain ⟨o, v, h1, h2⟩ := C.all y c (cp.sub y c e)
    exact ⟨o, v, lock_at h1, h2⟩
  · have e2 : (js.map fun j => X.N[j]?)[i]? = some (some y) := by
      rw [cp.at_, List.getElem?_map, e] <;> rfl
    rw [List.getElem?_map] at e2
    cases ej : js[i]? with
    | none => rw [ej] at e2; cases e2
    | some j =>
      rw [ej] at e2
      have hj : X.N[j]? = some y := Option.some.inj (show some (X.N[j]?) = some (some y) from e2)
      have k := cp.kin y (List.mem_of_getElem? e)
      obtain ⟨a, ha⟩ : ∃ a, X.env.cells.lookup y = some a := k.elim (fun z => ok.has y (.inl z)) fun z => ok.has y (.inr z)
      refine ⟨a, cp.sup y (List.mem_of_getElem? e) a ha, fun v ev => ?_⟩
      rw [List.getElem?_map, ej] at ev
      have ev2 : σ[j]? = some (some v) := NdefX.slotAt_some (Option.some.inj (show some (NdefX.slotAt σ j) = some (some v) from ev))
      obtain ⟨o, u, h1, h2, h3⟩ := C.has j y a v hj ev2 k ha
      exact ⟨o, u, lock_at h1, h2, h3⟩
/-- the locks on a lambda's cells -/
def locksOf (cl : List (Str × Addr)) (H : Hp) : List (Addr × Obj) := cl.filterMap fun p => match H p.2 with
  | some (.frz o _) => some (p.2, o)
  | _ => none
theorem of_locksOf {cl : List (Str × Addr)} {H : Hp} {b : Addr} {o : Obj} (e : (locksOf cl H).lookup b = some o) : (∃ y, (y, b) ∈ cl) ∧ ∃ u, H b = some (.frz o u) := by
  have m := mem_lkA e
  unfold locksOf at m
  obtain ⟨⟨y, d⟩, hy, q⟩ := List.mem_filterMap.mp m
  simp only at q
  split at q
  · rename_i o' u hq
    cases q
    exact ⟨⟨y, hy⟩, u, hq⟩
  · cases q
theorem locksOf_at {H : Hp} {c : Addr} {o : Obj} {u : HO} : ∀ {cl : List (Str × Addr)}, (∃ y, (y, c) ∈ cl) → H c = some (.frz o u) → (locksOf cl H).lookup c = some o
  | [], ⟨y, hy⟩, _ => by cases hy
  | (z, d) :: l, ⟨y, hy⟩, e => by
    unfold locksOf
    rw [List.filterMap_cons]
    by_cases hd : d = c
    · subst hd
      simp only [e]
      simp [List.lookup]
    · have hy' : ∃ y, (y, c) ∈ l := by
        rcases List.mem_cons.mp hy with q | q
        · cases q; exact absurd rfl hd
        · exact ⟨y, q⟩
      have ih := locksOf_at (cl := l) hy' e
      unfold locksOf at ih
      simp only
      split
      · exact ih
      · rename_i p hp
        split at hp
        · cases hp
          rw [List.lookup_cons]
          have : (c == d) = false := by simpa using fun q => hd q.symm
          rw [this]
          exact ih
        · cases hp
theorem locksOf_lkd {cl : List (Str × Addr)} {fr : List Str} {ws : List (Option V)} {H : Hp} (a : LkAt cl fr ws H) (hn : (cl.map (·.1)).Nodup) : Lkd (locksOf cl H) H := fun b o e => by
  obtain ⟨⟨y, hy⟩, u, hu⟩ := of_locksOf e
  have hl : cl.lookup y = some b := by
    have : ∀ {l : List (Str × Addr)}, (l.map (·.1)).Nodup → (y, b) ∈ l → l.lookup y = some b := by
      intro l
      induction l with
      | nil => intro _ h; cases h
      | cons a l ih =>
        intro nd h
        rcases List.mem_cons.mp h with q | q
        · subst q; simp [List.lookup]
        · have nd' := List.nodup_cons.mp (show (a.1 :: l.map (·.1)).Nodup from nd)
          have hne : (y == a.1) = false := by
            simpa using fun z => nd'.1 (List.mem_map.mpr ⟨(y, b), q, z⟩)
          rw [List.lookup_cons, hne]
          exact ih nd'.2 q
    exact this hn hy
  obtain ⟨o', v, h1, _⟩ := a.all y b hl
  rw [hu] at h1
  cases h1
  exact hu
/-- what a lambda promises: sp ws, ws what its captured cells hold at the call -/
def spLam (f : Addr) (F : LF) (n : Nat) (fr : List Str) (sp : List (Option V) → Sp) : Sp := fun vs H Q E => vs.length = n ∧ H f = some (LamO f F) ∧ H F.c = some (LamX.CodeO F.c F.qual) ∧ (F.cl.map (·.1)).Nodup ∧ ∃ ws, LkAt F.cl fr ws H ∧ sp ws vs H Q E
abbrev LF.nf (F : LF) : NdefX.NF := ⟨"<lambda>", F.qual, F.params, [], F.scope, F.cl, F.c⟩
section
variable {P : Program} {w : World} {K : PySem.W.Frag} {mg : Str → Option Value} {base : Heap} {N ps fr : List Str} {k : Nat} {f : Addr} {F : LF} {sp : List (Option V) → Sp}
/-- THE RULE for a lambda -/
theorem fng_lam (S : NdefX.NScope N ps fr F.scope) (hb : ∀ (pm ctv : Value) (us : List Value), us.length = ps.length → bindArgs (PySem.W.kla_fn "<lambda>" F.qual F.params F.body F.scope F.cl pm (.ref F.c) ctv) ⟨us, []⟩ = pure (ps.zip us))
    (hbody : ∀ (A : Around) (outer : List Env) (s : Shared) (H : Hp) (L : List (Addr × Obj)) (vs : List V) (ws : List (Option V)) (Q : VK) (E : XK), Room k (A.deeper (NdefX.envF F.nf f s.heap.objs.size)) → A.guards = some [] → vs.length = ps.length → ws.length = fr.length → Lkd L H → LkAt F.cl fr ws H → sp ws vs H Q E →
      Ready0 (NdefX.ncx (L2N.CX P w) P w K mg base N F.nf f A outer s (unlock L H) fun cls d H' => E cls d (lock L H')) L →
      ∃ t, PE (NdefX.ncx (L2N.CX P w) P w K mg base N F.nf f A outer s (unlock L H) fun cls d H' => E cls d (lock L H')) F.body t ∧ t (NdefX.startF N vs ws) (unlock L H) fun v H' => Q v (lock L H')) :
    FnG P w K mg base (L2N.CX P w) (k + 1) f (spLam f F ps.length fr sp) := by
  intro A outer s H us vs Q E hr hg e0 r hsp
  obtain ⟨hl, hf, hc, hn, ws, lkat, hsp⟩ := hsp
  have lkd := locksOf_lkd lkat hn
  generalize hL : locksOf F.cl H = L at lkd
  have lim : s.heap.NoLimit := e0.mod.nolimit.keeps fun b o e => (e0.bs b o e).1
  obtain ⟨⟨pm, ctv, ho⟩, _, _⟩ := e0.hok f _ hf
  have nf : ∀ b o, L.lookup b = some o → b ∉ frs outer := fun b o e hb => by
    have z := e0.frf b hb
    rw [lkd b o e] at z; cases z
  have nb : ∀ b o, L.lookup b = some o → base.get? b = none := fun b o e => by
    cases q : base.get? b with
    | none => rfl
    | some ob =>
      have z := (e0.bs b ob q).2
      rw [lkd b o e] at z; cases z
  have rd : Ready0 (NdefX.ncx (L2N.CX P w) P w K mg base N F.nf f A outer s (unlock L H) fun cls d H' => E cls d (lock L H')) L := ⟨rfl, fun b o e => ⟨lkd_at e0.hok lkd e, unlock_at e, nf b o e, nb b o e⟩⟩
  obtain ⟨t, ht, hq⟩ := hbody A outer s H L vs ws Q E (hr.deeper _) hg hl lkat.len lkd lkat hsp rd
  have C : NdefX.CellsAt F.cl fr ws s.heap (unlock L H) := by
    have lk : ∀ c o, H c = some (.frz o (cellHO c)) → (∃ y, (y, c) ∈ F.cl) → L.lookup c = some o := fun c o e hy => by rw [← hL]; exact locksOf_at hy e
    refine ⟨lkat.len, fun y c e => ?_, lkat.inj, fun i y e => ?_⟩
    · obtain ⟨o, v, h1, h2⟩ := lkat.all y c e
      have q := lk c o h1 ⟨y, PySem.mem_of_lookup e⟩
      exact ⟨unlock_at q, v, o, lkd_at e0.hok lkd q, h2⟩
    · obtain ⟨c, h1, h2⟩ := lkat.has i y e
      refine ⟨c, h1, fun v ev => ?_⟩
      obtain ⟨o, u, h3, h4, h5⟩ := h2 v ev
      have q := lk c o h3 ⟨y, PySem.mem_of_lookup h1⟩
      exact ⟨u, h5, o, lkd_at e0.hok lkd q, h4⟩
  refine codeAny_mono (R := CR (L2N.CX P w) outer P w (unlock L H) s (fun v H' => Q v (lock L H')) (fun cls d H' => E cls d (lock L H'))) ?_ fun rr s' hq' => cr_lock lkd e0.hok nf hq'
  have e1 := env0_unlock e0 lkd
  refine PySem.W.kla_callFunE hr.depth ho rfl S.co S.gen rfl (NdefX.codeO_at e0.hok hc) ?_
  rw [hb pm ctv us (by rw [← r.length]; exact hl)]
  refine wpAny_pure (wpAny_newFunctionEnv S.nocell (fun ⟨n, _⟩ hy => S.par n (List.of_mem_zip hy).1) (fun h₁ hns hsb => ⟨lim.fresh _ hsb, ?_⟩) S.kind)
  have kp : ∀ b o, s.heap.get? b = some o → h₁.get? b = some o := fun b o e => hsb.extBut b o (Nat.ne_of_lt (Heap.lt_size e)) (Heap.get?_push_of_some _ e)
  have I : Inv (NdefX.ncx (L2N.CX P w) P w K mg base N F.nf f A outer s (unlock L H) fun cls d H' => E cls d (lock L H')) [] (NdefX.startF N vs ws) (unlock L H) { s with heap := h₁, toks := s.toks + (ps.zip us).length } := NdefX.inv_startN (F := F.nf) S hr.hd e1 hl r C hns kp
  refine PySem.W.kla_codeExpr (wpAny_mono (ht.run [] _ _ _ _ I hq) (fun v s' hq => ?_) fun e s' hq => hq)
  obtain ⟨w', H', J', rv, q⟩ := hq
  exact ⟨w', H', J'.os, J'.bare, J'.base, J'.hok, rv, q⟩
end
/-! ### a lambda is made -/
section
variable {X : Cx} {pins : List (Addr × Obj)} {σ : St} {H : Hp} {s : Shared}
/-- an object that stands there untracked is tracked from now on -/
theorem inv_track {a : Addr} {o : HO} (I : Inv X pins σ H s) (ha : H a = none) (nL : a ≠ X.env.locals) (nf : a ∉ X.fs) (nc : ∀ x c, X.env.cells.lookup x = some c → c ≠ a) (np : ∀ p ∈ X.pn ++ pins, p.1 ≠ a) (hs : X.s_0.heap.objs.size ≤ a) (new : ObjOk X.prog X.w (upd H a o) s.heap a o) : Inv X pins σ (upd H a o) s := by
  have old : ∀ b ob, X.s_0.heap.get? b = some ob → b ≠ a := fun b ob e => Nat.ne_of_lt (Nat.lt_of_lt_of_le (Heap.lt_size e) hs)
  have som : ∀ b u, H b = some u → b ≠ a := fun b u e => ne_of_none e ha
  refine ⟨I.ok, I.os, I.bare, ⟨fun b ob e n hb hx => I.base.keep b ob e n hb hx, fun b ob e n hb hx => I.base.slot b ob e n hb hx, fun b ob e n hx => ?_, fun b ob e hx => I.base.there b ob e hx, fun b xs e => ?_, fun b ob u e => ?_, fun b ps e => ?_⟩, I.loc, I.cell, ?_, fun x c e => ?_, fun p hp => ?_, fun b u e => ?_, I.len⟩
  · rw [upd_ne (old b ob e)]; exact I.base.free b ob e n hx
  · have z := I.base.tups b xs e
    rw [upd_ne (som b _ z)]; exact z
  · have z := I.base.frzs b ob u e
    rw [upd_ne (som b _ z)]; exact z
  · obtain ⟨more, z⟩ := I.base.tbls b ps e
    exact ⟨more, by rw [upd_ne (som b _ z)]; exact z⟩
  · rw [upd_ne (Ne.symm nL)]; exact I.free
  · rw [upd_ne (nc x c e)]; exact I.freeC x c e
  · obtain ⟨h1, h2, h3⟩ := I.pin p hp
    exact ⟨h1, by rw [upd_ne (np p hp)]; exact h2, h3⟩
  · by_cases hb : b = a
    · subst hb; rw [upd_same] at e; cases e; exact new
    · rw [upd_ne hb] at e
      exact (I.hok b u e).stay (fun _ _ _ z => z) (fun c z => by rw [upd_ne (som c _ z)]; exact z) fun c xs z => by rw [upd_ne (som c _ z)]; exact z
/-- a lambda's object, just laid, is known from now on -/
theorem inv_lam {F : LF} {t' : Nat} {pm ctv : Value} (I : Inv X pins σ H s) :
    Inv X pins σ (upd H s.heap.objs.size (LamO s.heap.objs.size F)) { s with heap := s.heap.push (PySem.W.kla_obj "<lambda>" F.qual F.params F.body F.scope F.cl pm F.c ctv), toks := t' } := by
  refine I.laid (a := s.heap.objs.size) (fun b u e => Heap.get?_push_of_some _ e) (Nat.le_refl _) ?_
  have e := Heap.get?_push_size s.heap (o := PySem.W.kla_obj "<lambda>" F.qual F.params F.body F.scope F.cl pm F.c ctv) rfl
  exact ⟨⟨pm, ctv, e⟩, ⟨_, e⟩, fun h1 h2 ⟨p, t, z⟩ st => ⟨p, t, st _ z⟩⟩
/-- the lambda of a def's body -/
abbrev lfOf (X : Cx) (params : Arguments) (body : Expr) (scope : Scope) (c' : Addr) : LF := ⟨X.env.qual ++ "<lambda>", params, body, scope, cloFrom X.env.cells scope.names [], c'⟩
def tLamb (X : Cx) (T : List (Addr × Str)) (params : Arguments) (body : Expr) (scope : Scope) : TE := fun _ H Q => LamX.Tabs T H ∧ ∀ (f c' : Addr) (H1 : Hp), LamX.ExtN H H1 → LamX.Tabs T H1 → H f = none → H1 f = some (LamO f (lfOf X params body scope c')) → H1 c' = some (LamX.CodeO c' (X.env.qual ++ "<lambda>")) → Q (.ref f) H1
theorem pe_lam {T : List (Addr × Str)} {c P : Addr} {params : Arguments} {body : Expr} {scope : Scope} {pos : Pos} (TB : LamX.TabB X.base X.mg c P) (hcode : X.env.code = .ref c) (hm : (P, X.env.qual ++ "<lambda>") ∈ T) (hu : ∀ p ∈ T, p.1 = P → p.2 = X.env.qual ++ "<lambda>")
    (hfree : ∀ y ∈ scope.names, y.2 = .free → X.env.scope.names.lookup y.1 = some .cell ∨ X.env.scope.names.lookup y.1 = some .free) (hdef : defaultsOf params X.env = ([], [])) : PE X (.Lambda params body scope pos) (tLamb X T params body scope) := by
  refine ⟨fun pins s σ H Q I h => ?_⟩
  obtain ⟨hT, h⟩ := h
  have hfr : ∀ y ∈ scope.names, y.2 = .free → ∃ c, X.env.cells.lookup y.1 = some c := fun y hy e => (hfree y hy e).elim (fun z => I.ok.has _ (.inl z)) fun z => I.ok.has _ (.inr z)
  obtain ⟨ps, hP, ht, ha⟩ := hT _ hm
  refine PySem.W.kla_eval hdef ?_
  have bP : s.heap.BuiltinsAt X.mg P := TB.bm.keeps I.bk
  have hP' : s.heap.get? P = some { cls := .none, data := .fields ps } := I.hok P _ hP
  cases hc : codeAmong pos ps.toList with
  | none =>
    refine PySem.W.kla_makeFunction (mg := X.mg) (c := c) (P := P) (ps := ps) (closure_ok hfr) I.ok.glob (I.mod.glob.keeps I.bk) hcode (TB.code.keeps I.bk) hP' ht hc TB.gP bP fun c' ctv h' tk hx hge hlt hrec htb => ?_
    obtain ⟨c2, oc, vs, t, e2, hoc, hd, hv⟩ := hrec
    cases e2
    have nC : H c' = none := I.hok.fresh hge
    have I1 := LamX.inv_table (t' := tk) (more := #[rawInt pos.line, rawInt pos.col, .ref c']) (h' := h') I hP (fun b o hb e => hx b o hb e) htb hge ⟨oc, vs, t, hoc, hd, hv⟩
    have hE : LamX.ExtN H (upd (upd H P (.tbl (ps ++ #[rawInt pos.line, rawInt pos.col, .ref c']))) c' (LamX.CodeO c' (X.env.qual ++ "<lambda>"))) := fun b o e n => by
      rw [upd_ne (ne_of_none e nC), upd_ne (fun z => n ps (Option.some.inj (e.symm.trans (by rw [z]; exact hP))))]
      exact e
    have eL : (ps ++ #[rawInt pos.line, rawInt pos.col, .ref c']).toList = ps.toList ++ [rawInt pos.line, rawInt pos.col, .ref c'] := by simp
    have T1 : LamX.Tabs T (upd (upd H P (.tbl (ps ++ #[rawInt pos.line, rawInt pos.col, .ref c']))) c' (LamX.CodeO c' (X.env.qual ++ "<lambda>"))) := fun p hp => by
      by_cases hb : p.1 = P
      · rw [hu p hp hb, hb]
        refine ⟨_, by rw [upd_ne (ne_of_none hP nC), upd_same], by rw [eL]; exact PySem.TriplesOk_snoc _ _ _ _ ht, fun p' cv hcv => ?_⟩
        rw [eL] at hcv
        rcases LamX.among_app _ ht hcv with z | z
        · obtain ⟨c0, e1, e2⟩ := ha p' cv z
          exact ⟨c0, e1, hE _ _ e2 LamX.codeO_ne⟩
        · exact ⟨c', z, upd_same⟩
      · obtain ⟨ps', a1, a2, a3⟩ := hT p hp
        refine ⟨ps', by rw [upd_ne (ne_of_none a1 nC), upd_ne hb]; exact a1, a2, fun p' cv hcv => ?_⟩
        obtain ⟨c0, e1, e2⟩ := a3 p' cv hcv
        exact ⟨c0, e1, hE _ _ e2 LamX.codeO_ne⟩
    have nF := I1.hok.fresh (Nat.le_refl _)
    have I2 := inv_lam (F := lfOf X params body scope c') (t' := tk) (pm := (X.mg "__name__").getD .none) (ctv := ctv) I1
    refine ⟨.ref h'.objs.size, _, I2, rfl, h h'.objs.size c' _ (fun b o e n => ?_) (T1.ext fun b o e => ?_) (I.hok.fresh (Nat.le_trans hge (Nat.le_of_lt hlt))) upd_same ?_⟩
    · have e1 := hE b o e n
      exact (upd_ne (ne_of_none e1 nF)).trans e1
    · exact (upd_ne (ne_of_none e nF)).trans e
    · exact (upd_ne (Nat.ne_of_lt hlt)).trans upd_same
  | some cv =>
    obtain ⟨c', e, hco⟩ := ha pos cv hc
    subst e
    refine PySem.W.kla_makeFunctionHit (mg := X.mg) (c := c) (P := P) (ps := ps) (closure_ok hfr) I.ok.glob (I.mod.glob.keeps I.bk) hcode (TB.code.keeps I.bk) hP' ht hc bP fun ctv h' tk hx hsz => ?_
    have I1 : Inv X pins σ H { s with heap := h', toks := tk } := I.kept hx
    have nF : H h'.objs.size = none := I1.hok.fresh (Nat.le_refl _)
    have I2 := inv_lam (F := lfOf X params body scope c') (t' := tk) (pm := (X.mg "__name__").getD .none) (ctv := ctv) I1
    refine ⟨.ref h'.objs.size, _, I2, rfl, h h'.objs.size c' _ (fun b o e n => ?_) (hT.ext fun b o e => ?_) nF upd_same ?_⟩
    · exact (upd_ne (ne_of_none e nF)).trans e
    · exact (upd_ne (ne_of_none e nF)).trans e
    · exact (upd_ne (ne_of_none hco nF)).trans hco
end
end SK
set_option maxHeartbeats 4000000
/-! SkC: hot promises, the with statement around a raise. -/
namespace PySem.W
open PySem PySem.Spec PySem.Calls PyProof.Rows
section
variable {prog : Program} {w : World} {M : Model} {A : Around} {E : Value → Shared → Prop} {s : Shared} {env : Env} {K : Frag} {x C L fe fx : Addr} {h₀ : Heap} {m : Str → Option Value} {ox : Obj} {od : Option Obj} {pos : Pos}
def KwErr (prog : Program) (w : World) (A : Around) (E : Value → Shared → Prop) (env : Env) (x fx : Addr) (Q : Flow → Shared → Prop) (e : Value) (s4 : Shared) : Prop :=
  wpAny (model prog w) A (noteFrame e env) (fun _ s5 => wpAny (model prog w) A (setFlight e none) (fun _ s6 => wpAny (model prog w) A (typeOf e) (fun c s7 => wpAny (model prog w) A (tracebackOf e) (fun tv s8 =>
    wpAny (model prog w) A (run (.call (.ref fx) ⟨[.ref x, c, e, tv], []⟩) (some e)) (fun fl s9 => fl = .ret .none ∧ wpAny (model prog w) A (passOn "with" e env) Q E s9) E s8) E s7) E s6) E s5) E s4
theorem kw_coreX {b : Value → Sem Unit} {bdy : Sem Flow} {Q : Flow → Shared → Prop} (X : K.In s.heap) (I : InstAt s.heap x ox C od) (he : findIn K (.ref C) "__enter__" = some (some (.ref fe))) (hfe : isFn K (.ref fe) = true) (hx : findIn K (.ref C) "__exit__" = some (some (.ref fx))) (hfx : isFn K (.ref fx) = true)
    (h : wpAny (model prog w) A (call (.ref fe) [.ref x]) (fun v s₂ => wpAny (model prog w) A (b v) (fun _ s₃ => wpAny (model prog w) A bdy (fun f s₄ => wpAny (model prog w) A (call (.ref fx) [.ref x, .none, .none, .none]) (fun _ s₅ => Q f s₅) E s₄) (KwErr prog w A E env x fx Q) s₃) (fun _ _ => False) s₂) E s) :
    wpAny (model prog w) A (withItem false pos env (pure (.ref x)) (some b) bdy) Q E s := by
  obtain ⟨cd, hcd, ae⟩ := kw_along he
  obtain ⟨cd', hcd', ax⟩ := kw_along hx
  cases hcd.symm.trans hcd'
  obtain ⟨hh, g, d, tt, os⟩ := s
  have L1 : Looks (model prog w) hh (specialOnItsLine (.ref x) "__enter__") (some (.ref fe), cd.mro) := kw_special X I hcd ae
  have L2 : Looks (model prog w) hh (specialOnItsLine (.ref x) "__exit__") (some (.ref fx), cd.mro) := kw_special X I hcd ax
  have L3 : Looks (model prog w) hh (bindSpecial (.ref fe) (.ref x)) (.ref fe, [.ref x]) := bind_fn X _ (beq_iff_eq.mp hfe)
  have L4 : Looks (model prog w) hh (bindSpecial (.ref fx) (.ref x)) (.ref fx, [.ref x]) := bind_fn X _ (beq_iff_eq.mp hfx)
  have L5 : Looks (model prog w) hh (aMethodOfAnotherBuiltinTypeStops (.ref fe) cd.mro) () := Looks.of_pure rfl
  have L6 : Looks (model prog w) hh (aMethodOfAnotherBuiltinTypeStops (.ref fx) cd.mro) () := Looks.of_pure rfl
  unfold withItem
  refine wpAny_bind (wpAny_pure ?_)
  refine wpAny_bind (wpAny_standAt ?_)
  simp only [Bool.false_eq_true, if_false]
  kw_lk
  refine wpAny_mono h (fun v s₂ h₂ => ?_) fun _ _ z => z
  kw_lk
  refine wpAny_attempt (kw_held ?_)
  show wpAny _ _ (b v >>= fun _ => bdy) _ _ _
  refine wpAny_bind (wpAny_mono h₂ (fun _ s₃ h₃ => wpAny_mono h₃ (fun f s₄ h₄ => ?_) fun e s₄ h₄ => ?_) fun _ _ z => z.elim)
  · kw_lk
    refine wpAny_mono h₄ (fun _ s₅ h₅ => ?_) fun _ _ z => z
    kw_lk
    exact h₅
  · show wpAny _ _ (noteFrame e env >>= _) _ _ _
    refine wpAny_bind (wpAny_mono h₄ (fun _ s5 h5 => ?_) fun _ _ z => z)
    refine wpAny_bind (wpAny_mono h5 (fun _ s6 h6 => ?_) fun _ _ z => z)
    refine wpAny_bind (wpAny_standAt ?_)
    refine wpAny_holding ?_
    refine wpAny_bind (wpAny_mono h6 (fun c s7 h7 => ?_) fun _ _ z => z)
    refine wpAny_bind (wpAny_mono h7 (fun tv s8 h8 => ?_) fun _ _ z => z)
    unfold withItem.marked
    refine wpAny_bind (wpAny_bind (wpAny_mono h8 (fun fl s9 h9 => ?_) fun _ _ z => z))
    obtain ⟨rfl, h9⟩ := h9
    refine wpAny_pure ?_
    exact h9
end
end PySem.W
namespace SK
open PySem PySem.Spec PyProof.Rows L2
/-! ### hot promises -/
def FnGH (P : Program) (w : World) (K : PySem.W.Frag) (mg : Str → Option Value) (base : Heap) (CX : CXT) (k : Nat) (f : Addr) (sp : Sp) : Prop :=
  ∀ (A : Around) (outer : List Env) (s : Shared) (H : Hp) (us : List Value) (vs : List V) (Q : VK) (E : XK) (p : Addr × Obj), L2H.RoomH k A → L2H.Hot1 A p → L2H.PinOk outer H s p → Env0 P w K mg base A outer s H → Vals vs us → sp vs H Q E →
    codeAny (model P w) A (.call (.ref f) ⟨us, []⟩) (CR CX outer P w H s Q E) s
section
variable {P : Program} {w : World} {K : PySem.W.Frag} {mg : Str → Option Value} {base : Heap} {CX : CXT} {j k : Nat} {f : Addr} {sp sp' : Sp}
theorem FnGH.mono (F : FnGH P w K mg base CX j f sp) (h : j ≤ k) : FnGH P w K mg base CX k f sp := fun A outer s H us vs Q E p hr => F A outer s H us vs Q E p (hr.mono h)
theorem fngh_of {x qual : Str} {st : Stmt} {fd : FuncData} {N ps : List Str} (F : FunD K x qual (defArgs st) (defBody st) (defScope st) [] [] f fd) (S : FnScope N ps (defScope st)) (hb : Binds K fd ps []) (len : ∀ vs H Q E, sp vs H Q E → vs.length = ps.length)
    (hbody : ∀ (cdv : Value) (A : Around) (outer : List Env) (s : Shared) (H : Hp) (vs : List V) (Q : VK) (E : XK) (p : Addr × Obj), L2H.Hot1 A p → L2H.RoomH k (A.deeper (envOfC qual (defScope st) s.heap.objs.size f cdv)) → sp vs H Q E →
      ∃ t, PSs (L2H.cxH CX P w K mg base N qual (defScope st) f cdv A outer s H E p) (defBody st) t ∧ t { nx := fun _ H' => Q .non H', rt := Q } (L2.start N vs) H) : FnGH P w K mg base CX (k + 1) f sp := by
  intro A outer s H us vs Q E p hr hot pin e0 r hsp
  obtain ⟨oc, od, dV, kV, doc, pm, an, cdv, ct, osl, rfl, lk, hcd, _, _⟩ := F.ex
  have hl := len _ _ _ _ hsp
  have KX : K.In s.heap := e0.mod.kin.keeps fun b o e => (e0.bs b o e).1
  have hlu : us.length = ps.length := by rw [← r.length]; exact hl
  have hbt := hb s us KX (by rw [List.append_nil]; exact hlu)
  rw [List.append_nil] at hbt
  exact (L2H.fn_ofH lk hcd S len fun A outer s H vs Q E p hot hr hsp => hbody cdv A outer s H vs Q E p hot hr hsp).run A outer s H _ us vs Q E p hr hot pin e0 hbt r hsp
end
section
variable {X : Cx} {CX : CXT} {k : Nat} {f C : Addr} {sp : Sp} {E : St → XK} {x m : Str} {q pos apos : Pos} {e o : Expr} {es : List Expr} {ta : TE} {t : TA}
theorem run_h {pins : List (Addr × Obj)} {σ : St} {H : Hp} {s : Shared} {Q : VK} {us : List Value} {vs : List V} (F : FnGH X.prog X.w X.K X.mg X.base CX k f sp) (hr : L2H.RoomH k X.A) (hc : L2H.HotC X) (hx : PassesAt CX X σ (E σ))
    (I : Inv X pins σ H s) (r : Vals vs us) (h : sp vs H Q (E σ)) : wpAny (model X.prog X.w) X.A (call (.ref f) us) (EP X pins σ Q) X.xe s := by
  obtain ⟨p, hot, hp⟩ := hc
  have P1 := I.pin p (List.mem_append_left _ hp)
  have hpin : L2H.PinOk X.stack H s p := ⟨P1.1, P1.2.1, fun hm => (List.mem_cons.mp (I.stkSub p.1 hm)).elim P1.2.2.1 P1.2.2.2.1, P1.2.2.2.2⟩
  refine wpAny_call (codeAny_mono (F X.A X.stack s H us vs Q (E σ) p hr hot hpin I.env0 r h) fun r s' hq => ?_)
  cases r with
  | error e => exact hx pins H s e s' I hq
  | ok fl =>
    cases fl with
    | ret u => exact I.after hq
    | next => exact False.elim hq
    | brk => exact False.elim hq
    | cont => exact False.elim hq
theorem pe_h (F : FnGH X.prog X.w X.K X.mg X.base CX k f sp) (hr : L2H.RoomH k X.A) (hc : L2H.HotC X) (hx : ∀ σ, PassesAt CX X σ (E σ)) (hgl : Gl X x) (hm : X.mg x = some (.ref f)) (hk : PySem.W.keepIn X.K (.ref f) = true)
    (ha : PA X (e :: es) t) (hdb : (x == ("__debug__" : Str)) = false := by decide) (he : starEach (e :: es) X.env = (false, eval e X.env) :: starEach es X.env := by rfl) (hpl : (backTo pos (starEach es X.env)).any (·.1) = false := by rfl) :
    PE X (.Call (.Name x q) (e :: es) [] pos) (tCallS sp E t) := by
  refine ⟨fun pins s σ H Q I h => ?_⟩
  refine wpAny_Call_Name_kw (ld_glob I hgl hm ?_ hdb)
  refine PySem.W.callWith_K (h₀ := X.base) I.ok.mod.kin hk (thn (ha.run pos pins s σ H _ I h) fun us s1 ⟨vs, H1, I1, r, q⟩ => ⟨I1.kIn, ?_⟩) he hpl
  exact run_h F hr hc (hx σ) I1 r q
end
/-! ### on it goes -/
section
variable {X : Cx} {Wout : WX}
/-- the exception at a, on the ground, is passed on -/
theorem relaunch {pins : List (Addr × Obj)} {D : Ends} {nm : String} {a T : Addr} {oe oT : Obj} {vs ts : Array Value} {cls : Value} {d : Option Addr} {σ6 : St} {H6 : Hp} {s6 : Shared} (hs : X.stack = X.env :: X.outer) (hf : X.env.frame = some X.env.locals) (tk : L2N.Takes X Wout)
    (J6 : Inv X pins σ6 H6 s6) (ga : s6.heap.get? a = some oe) (hz : L2N.Zn cls d oe) (hd : oe.data = .fields vs) (hv1 : vs[1]? = some (.ref T)) (hTe : T ≠ a) (gT : s6.heap.get? T = some oT) (hdT : oT.data = .fields ts) (ht3 : ts[3]? = some .none)
    (na6 : H6 a = none) (nT6 : H6 T = none) (far0 : ∀ b o, X.s_0.heap.get? b = some o → b ≠ a ∧ b ≠ T) (farP : ∀ p ∈ X.pn ++ pins, p.1 ≠ a ∧ p.1 ≠ T) (q6 : Wout cls d σ6 H6) :
    wpAny (model X.prog X.w) X.A (PySem.passOn nm (.ref a) X.env) (SP X pins D) X.xe s6 := by
  obtain ⟨G, g1, g2⟩ := restrict s6.heap fun b => !(decide (b = a) || decide (b = T))
  have gIn : ∀ b o, G.get? b = some o → s6.heap.get? b = some o ∧ b ≠ a ∧ b ≠ T := fun b o e => by
    cases q : (!(decide (b = a) || decide (b = T))) with
    | false =>
      rw [g2 b q] at e
      cases e
    | true =>
      rw [g1 b q] at e
      simp only [Bool.not_eq_true', Bool.or_eq_false_iff, decide_eq_false_iff_not] at q
      exact ⟨e, q.1, q.2⟩
  have gOf : ∀ b o, b ≠ a → b ≠ T → s6.heap.get? b = some o → G.get? b = some o := fun b o h1 h2 e => by
    rw [g1 b (by simp [h1, h2])]
    exact e
  have I6 : Inv X pins σ6 H6 { s6 with heap := G } := J6.less (fun b o e => (gIn b o e).1) gOf ⟨oe, vs, ga, hd⟩ ⟨oT, ts, gT, hdT⟩ na6 nT6 far0 farP
  have B6in : ∀ b o, (PySem.W.hideAll G (frs X.stack)).get? b = some o → s6.heap.get? b = some o := fun b o e => (gIn b o (PySem.W.of_hideAll _ e)).1
  have Bno : ∀ b, (b = a ∨ b = T) → (PySem.W.hideAll G (frs X.stack)).get? b = none := fun b hb => by
    cases q : (PySem.W.hideAll G (frs X.stack)).get? b with
    | none => rfl
    | some o =>
      obtain ⟨_, n1, n2⟩ := gIn b o (PySem.W.of_hideAll _ q)
      rcases hb with z | z
      · exact absurd z n1
      · exact absurd z n2
  have fl6 : HandSPX.FlyingZ (PySem.W.hideAll G (frs X.stack)) (X.env :: X.outer) a (L2N.Zn cls d) s6.heap := by
    refine ⟨B6in, Bno a (.inl rfl), ?_, oe, vs, T, oT, ts, ga, hz, hd, hv1, Bno T (.inr rfl), hTe, gT, hdT, ht3⟩
    have ff := funFrames_none (B := PySem.W.hideAll G (frs X.stack)) J6.stack fun b hb => PySem.W.hideAll_none _ hb
    rw [← hs]
    exact ff
  unfold PySem.passOn
  refine wpAny_bind (wpAny_field ga hd hv1 ?_)
  rw [if_neg (show ¬ ((Value.ref T == Value.none) = true) from by simp)]
  have goOn : wpAny (model X.prog X.w) X.A (setFlight (.ref a) X.env.frame) (fun _ s7 => wpAny (model X.prog X.w) X.A (throw (.ref a) : Sem Flow) (SP X pins D) X.xe s7) X.xe s6 := by
    rw [hf]
    refine HandSPX.setFlight_upZ fl6 fun h7 hh7 up7 => wpAny_throw (tk _ _ ?_)
    refine ⟨a, PySem.W.hideAll G (frs X.stack), { s6 with heap := G }, pins, σ6, H6, cls, d, rfl, I6, fun b o e hb => PySem.W.hideAll_get _ e hb, ?_, .inr (.inr (by rw [← hs] at hh7; exact hh7)), na6, rfl, J6.bare, q6⟩
    exact Heap.UpToSlots.trans (Heap.UpToSlots.of_keeps fun b o e => (gIn b o e).1) up7
  first
    | exact wpAny_bind (wpAny_pure (wpAny_bind goOn))
    | exact wpAny_bind goOn
end
/-! ### with o as y: body -/
def wWith (spX : Sp) (x : Addr) (Wout : WX) : WX := fun cls d σ H => ∃ cv, RelV cv cls ∧ ∀ (e : Addr) (tv : V), H e = none → spX [.ref x, cv, .ref e, tv] H (fun z H' => z = .non ∧ Wout cls d σ H') (fun _ _ _ => False)
def endsW (spX : Sp) (x : Addr) (D : Ends) : Ends :=
  { nx := fun σ H => spX [.ref x, .non, .non, .non] H (fun _ H' => D.nx σ H') (fun _ _ _ => False), rt := fun v H => spX [.ref x, .non, .non, .non] H (fun _ H' => D.rt v H') (fun _ _ _ => False),
    bk := fun σ H => spX [.ref x, .non, .non, .non] H (fun _ H' => D.bk σ H') (fun _ _ _ => False), ct := fun σ H => spX [.ref x, .non, .non, .non] H (fun _ H' => D.ct σ H') (fun _ _ _ => False) }
def tWith (C : Addr) (i : Nat) (spE spX : Sp) (Wout : WX) (tc : TE) (tb : WX → TS) : TS := fun D σ H => tc σ H fun v H1 => ∃ a dx fs, v = .ref a ∧ H1 a = some (.ins C dx fs) ∧ spE [.ref a] H1 (fun u H2 => tb (wWith spX a Wout) (endsW spX a D) (σ.set i (some u)) H2) (WE Wout σ)
section
variable {X : Cx} {C fe fx : Addr} {k i : Nat} {spE spX : Sp} {Wout : WX} {tc : TE} {tb : WX → TS} {ctx : Expr} {y : Str} {py pos : Pos} {body : List Stmt}
theorem ps_with (hs : X.stack = X.env :: X.outer) (hf : X.env.frame = some X.env.locals) (hex : X.ex = []) (hr : Room k X.A) (hg : X.A.guards = some []) (tk : L2N.Takes X Wout) (hctx : PE X ctx tc)
    (he : Spec X.K C "__enter__" fe) (hx : Spec X.K C "__exit__" fx) (FE : FnG X.prog X.w X.K X.mg X.base (L2N.CX X.prog X.w) k fe spE) (FX : FnG X.prog X.w X.K X.mg X.base (L2N.CX X.prog X.w) k fx spX) (FXH : FnGH X.prog X.w X.K X.mg X.base (L2N.CX X.prog X.w) k fx spX)
    (hN : X.N.Nodup) (hi : X.N[i]? = some y) (hl : X.env.scope.names.lookup y = some .local)
    (hb : ∀ (W : WX) (pn : List (Addr × Obj)) (xe : Value → Shared → Prop), L2N.Takes (X.tr pn xe) W → PSs (X.tr pn xe) body (tb W)) :
    PS X (.With [⟨ctx, some (.Name y py)⟩] body pos) (tWith C i spE spX Wout tc tb) := by
  refine ⟨fun pins s σ H D I h => ?_⟩
  have ok := I.ok
  have hfr : X.A.frames = some (X.env :: X.outer) := by rw [ok.frames, hs]
  refine PySem.W.kw_execN (thn (hctx.run pins s σ H _ I h) fun v s1 ⟨vv, H1, I1, rv, a, dx, fs, ev, ea, q⟩ => ?_)
  subst ev
  obtain rfl : v = Value.ref a := rv
  obtain ⟨od, J⟩ := ins_at I1 ea
  refine PySem.W.kw_coreX (b := assign (.Name y py) X.env) I1.kIn J he.at_ he.fn hx.at_ hx.fn ?_
  refine thn (run_g (E := WE Wout) (us := [.ref a]) (vs := [.ref a]) FE hr hg (L2N.passAt tk σ) I1 (.cons rfl .nil) q) fun u s2 ⟨uv, H2, I2, ru, q2⟩ => ?_
  refine wpAny_assign_Name (store_ok I2 hN hi (.inl hl) ru (fun s3 I3 => ?_) (.inr hl))
  -- the body
  refine wpAny_mono ((hb (wWith spX a Wout) (X.pn ++ pins) (PySem.W.KwErr X.prog X.w X.A X.xe X.env a fx (SP X pins D)) (fun ue s' xx => ?_)).run [] s3 _ H2 _ (I3.toTry _) q2) (fun f s4 hsp => ?_) (fun e s1 he => he)
  · -- it raised
    obtain ⟨e, B, sI, pins', σ', H', cls, d, rfl, J', nb, up, sky, na, os, ag, cv, rcv, w⟩ := xx
    have J : Inv X pins σ' H' sI := J'.ofTry ok
    have sky' : Sky B (X.env :: X.outer) e (L2N.Zn cls d) X.env.locals s'.heap := by rw [← hs]; exact sky
    show wpAny (model X.prog X.w) X.A (noteFrame (.ref e) X.env) _ _ _
    refine L2N.Sky.land L2N.Zn.steady hfr hf sky' fun h3 fl3 up3 => ?_
    have J3 : Inv X pins σ' H' { s' with heap := h3 } := J.landed nb fl3.1 (up.trans up3) os ag
    obtain ⟨k1, k2, k3, oe, vs, T, oT, ts, he3, hz, hd, hv1, hnT, hTe, hT, hdT, ht3⟩ := id fl3
    have nT : H' T = none := (J.inGround nb).gone hnT
    have notFr : ∀ (b : Addr) (o : Obj) (fv : Array Value), h3.get? b = some o → o.data = .fields fv → b ∉ frs (X.env :: X.outer) := fun b o fv e dd hm => by
      obtain ⟨_, o', e', hnf⟩ := k3.mem hm
      have eo : o = o' := Option.some.inj (e.symm.trans e')
      rw [← eo] at hnf
      exact hnf _ dd
    have fa := notFr e oe vs he3 hd
    have fT := notFr T oT ts hT hdT
    have far : ∀ b o, sI.heap.get? b = some o → b ≠ e ∧ b ≠ T := fun b o q => by
      by_cases hb : b ∈ frs X.stack
      · rw [hs] at hb
        exact ⟨fun z => fa (by rw [← z]; exact hb), fun z => fT (by rw [← z]; exact hb)⟩
      · have q := nb b o q hb
        exact ⟨fun z => by
          rw [z, k2] at q
          exact (nomatch q), fun z => by
          rw [z, hnT] at q
          cases q⟩
    have far0 : ∀ b o, X.s_0.heap.get? b = some o → b ≠ e ∧ b ≠ T := fun b o q => by
      obtain ⟨o', q⟩ := J.base.there b o q (by rw [hex]; simp)
      exact far b o' q
    have farP : ∀ p ∈ X.pn ++ pins, p.1 ≠ e ∧ p.1 ≠ T := fun p hp => far p.1 p.2 (J.pin p hp).1
    refine wpAny_typeOf_ref he3 ?_
    rw [hz.1]
    -- the traceback
    have tb_ : ∀ {Q : Value → Shared → Prop}, (∀ tv uv, RelV tv uv → Q uv { s' with heap := h3 }) → wpAny (model X.prog X.w) X.A (tracebackOf (.ref e)) Q X.xe { s' with heap := h3 } := fun {Q} hq => by
      have h1 : 1 < ts.size := by
        have := (Array.getElem?_eq_some_iff.mp ht3).1
        omega
      obtain ⟨t1, ht1⟩ : ∃ t1, ts[1]? = some t1 := ⟨_, Array.getElem?_eq_getElem h1⟩
      unfold tracebackOf
      refine wpAny_bind (wpAny_field he3 hd hv1 ?_)
      show wpAny _ _ (field (.ref T) 1 >>= _) _ _ _
      refine wpAny_bind (wpAny_field hT hdT ht1 ?_)
      by_cases hc : (t1 == Value.none) = true
      · rw [if_pos hc]
        exact wpAny_pure (hq .non _ rfl)
      · rw [if_neg hc]
        exact wpAny_pure (hq (.ref T) _ rfl)
    refine tb_ fun tv uv rtv => ?_
    have hctxN : ∃ v2 : Array Value, oe.data = .fields v2 ∧ v2[2]? = some .none := ⟨vs, hd, hz.2.2 vs hd⟩
    have hot : L2H.Hot1 (X.A.mark (some (.ref e))) (e, oe) := ⟨rfl, hctxN⟩
    have hpin : L2H.PinOk X.stack H' { s' with heap := h3 } (e, oe) := ⟨he3, na, by rw [hs]; exact fa, fun v z => by
      have z3 : oe.data = .cell v := z
      rw [hd] at z3
      cases z3⟩
    have hrH : L2H.RoomH k (X.A.mark (some (.ref e))) := ⟨hr.dp, hr.un⟩
    have e0 : Env0 X.prog X.w X.K X.mg X.base (X.A.mark (some (.ref e))) X.stack { s' with heap := h3 } H' := ⟨J3.env0.frames, J3.env0.mod, J3.env0.bs, J3.env0.bsz, J3.env0.funs, J3.env0.frf, J3.env0.hok, J3.env0.bare⟩
    refine wpAny_run (codeAny_mono (FXH _ X.stack _ H' [.ref a, cls, .ref e, uv] [.ref a, cv, .ref e, tv] _ _ (e, oe) hrH hot hpin e0 (.cons rfl (.cons rcv (.cons rfl (.cons rtv .nil)))) (w e tv na)) fun r s9 hq => ?_) (by intro q; cases q)
    cases r with
    | error e => 
      obtain ⟨_, _, _, _, _, _, _, _, _, _, _, _, z⟩ := (show L2N.CX X.prog X.w X.stack H' { s' with heap := h3 } (fun _ _ _ => False) e s9 from hq)
      exact z.elim
    | ok fl =>
      cases fl with
      | next => exact False.elim hq
      | brk => exact False.elim hq
      | cont => exact False.elim hq
      | ret u9 =>
        have un := (show CE X.stack X.prog X.w H' { s' with heap := h3 } _ u9 s9 from hq)
        obtain ⟨v9, H9, os9, bare9, un9, hok9, rv9, ev9, w9⟩ := un
        subst ev9
        obtain rfl : u9 = Value.none := rv9
        refine ⟨rfl, ?_⟩
        obtain ⟨z9, H9', J9, rz, ez, eH⟩ := J3.after (Q := fun z H => z = .non ∧ H = H9) (u := Value.none) (s' := s9) ⟨.non, H9, os9, bare9, un9, hok9, rfl, rfl, rfl⟩
        subst eH
        have st : X.stack = X.env :: X.outer := hs
        exact relaunch hs hf tk J9 (un9.keep e oe he3 na (by rw [hs]; exact fa) (by simp)) hz hd hv1 hTe (un9.keep T oT hT nT (by rw [hs]; exact fT) (by simp)) hdT ht3 (un9.free e oe he3 na (by simp)) (un9.free T oT hT nT (by simp)) far0 farP w9
  · -- it ended
    have fin : ∀ {σ4 : St} {H4 : Hp} {Q : Hp → Prop}, Inv X pins σ4 H4 s4 → spX [.ref a, .non, .non, .non] H4 (fun _ H' => Q H') (fun _ _ _ => False) → ∀ {R : Shared → Prop}, (∀ s5 H5, Inv X pins σ4 H5 s5 → Q H5 → R s5) →
        wpAny (model X.prog X.w) X.A (call (.ref fx) [.ref a, .none, .none, .none]) (fun _ s5 => R s5) X.xe s4 := fun {σ4 H4 Q} I4 q4 {R} hR => by
      refine thn (run_g (E := EF) (us := [.ref a, .none, .none, .none]) (vs := [.ref a, .non, .non, .non]) FX hr hg (passF noXN σ4) I4 (.cons rfl (.cons rfl (.cons rfl (.cons rfl .nil)))) q4) fun u s5 ⟨_, H5, I5, _, q5⟩ => hR s5 H5 I5 q5
    cases f with
    | next =>
      obtain ⟨σ4, H4, I4, q4⟩ := hsp
      exact fin (I4.ofTry ok) q4 fun s5 H5 I5 q5 => ⟨σ4, H5, I5, q5⟩
    | brk =>
      obtain ⟨σ4, H4, I4, q4⟩ := hsp
      exact fin (I4.ofTry ok) q4 fun s5 H5 I5 q5 => ⟨σ4, H5, I5, q5⟩
    | cont =>
      obtain ⟨σ4, H4, I4, q4⟩ := hsp
      exact fin (I4.ofTry ok) q4 fun s5 H5 I5 q5 => ⟨σ4, H5, I5, q5⟩
    | ret u4 =>
      obtain ⟨v4, σ4, H4, I4, r4, q4⟩ := hsp
      exact fin (I4.ofTry ok) q4 fun s5 H5 I5 q5 => ⟨v4, σ4, H5, I5, r4, q5⟩
end
end SK
set_option maxHeartbeats 4000000
/-! SkD: an own class's [], []=, len, bool, str. -/
namespace SK
open PySem PySem.Spec PyProof.Rows
section
variable {prog : Program} {w : World} {A : Around} {E : Value → Shared → Prop} {s : Shared} {K : PySem.W.Frag} {x C L f : Addr} {h₀ : Heap} {m : Str → Option Value} {ox : Obj} {odd : Option Obj}
/-- bool(x), x of an own class -/
theorem bool_own {Q : Value → Shared → Prop} (F : Fr h₀ L s.heap m) (X₀ : K.In h₀) (I : PySem.W.InstAt s.heap x ox C odd) (hs : PySem.W.findIn K (.ref C) "__bool__" = some (some (.ref f))) (hf : PySem.W.isFn K (.ref f) = true)
    (h : wpAny (model prog w) A.in1.in1 (call (.ref f) [.ref x]) (PySem.W.BoolBack fun b s₁ => Q (.bool b) s₁) E s) : wpAny (model prog w) A (call (.type "bool") [.ref x]) Q E s := by
  refine callType_codes (T := "bool") (Bi := Builtin.«object.__init__») (Q₁ := fun r s₁ => ∃ b, r = Value.bool b ∧ Q r s₁) PySem.F.called_bool (PySem.F.typeCall_bool_1 _) PySem.F.entry_object_init ?_ ?_
  · refine codeAny_of_tree ?_
    show wpAny _ A.in1.in1 (do checkBuiltinCall "bool.__new__" ⟨[.type "bool", .ref x], []⟩; again (.builtin "bool.__new__" ⟨[.type "bool", .ref x], []⟩)) _ _ s
    refine wpAny_bind (wpAny_of_eq (PySem.F.newCall_bool_1 _) (wpAny_pure ⟨plainId_quiet (by decide +kernel) _, codeAny_builtin PySem.F.entry_bool_new ?_⟩))
    rw [Around.under_plainId (by decide +kernel) _]
    unfold Builtin.«bool.__new__»
    refine wpAny_bind (wpAny_of_eq (t := isType (.type "bool")) (a := true) (by first | rfl | kernel_rfl) ?_)
    refine PySem.W.KFB.if_not rfl ?_
    refine wpAny_bind (wpAny_of_eq (a := true) PySem.F.conv_sub_bool ?_)
    refine PySem.W.KFB.if_not rfl ?_
    refine wpAny_bind (wpAny_of_eq (a := [Value.ref x]) (by first | rfl | kernel_rfl) ?_)
    refine wpAny_bind (PySem.W.truthy_K F X₀ I hs hf (wpAny_mono h (fun r s₁ hr => ?_) fun _ _ y => y))
    cases r <;> first | exact hr.elim | skip
    exact wpAny_pure ⟨_, rfl, hr⟩
  · rintro obj s₁ ⟨b, rfl, hq⟩
    exact ⟨rfl, PySem.F.args_object_init_2 _ _, object_init_meets PySem.F.called_bool.init.lookup PySem.F.called_bool.made (by decide) prog w A.in1 _ s₁ ⟨rfl, rfl, hq⟩⟩
end
open L2
section
variable {X : Cx} {CX : CXT} {k : Nat} {f C : Addr} {sp : Sp} {W : WX} {pos pos' : Pos} {e o : Expr} {ta tb : TE}
/-- a promise run below the running body -/
theorem run_gA {A' : Around} {pins : List (Addr × Obj)} {σ : St} {H : Hp} {s : Shared} {Q : VK} {us : List Value} {vs : List V} {E : XK} (F : FnG X.prog X.w X.K X.mg X.base CX k f sp) (hr : Room k A') (hg : A'.guards = some []) (e0 : Env0 X.prog X.w X.K X.mg X.base A' X.stack s H) (hx : PassesAt CX X σ E)
    (I : Inv X pins σ H s) (r : Vals vs us) (h : sp vs H Q E) : wpAny (model X.prog X.w) A' (call (.ref f) us) (EP X pins σ Q) X.xe s := by
  refine wpAny_call (codeAny_mono (F A' X.stack s H us vs Q E hr hg e0 r h) fun r s' hq => ?_)
  cases r with
  | error e => exact hx pins H s e s' I hq
  | ok fl =>
    cases fl with
    | ret u => exact I.after hq
    | next => exact False.elim hq
    | brk => exact False.elim hq
    | cont => exact False.elim hq
/-- o[k] -/
def rIxG (C : Addr) (sp : Sp) : R2 := fun x y H Q => ∃ a dx fs, x = .ref a ∧ H a = some (.ins C dx fs) ∧ sp [.ref a, y] H Q (fun _ _ _ => False)
theorem pe_ixG {a b : Expr} (hs : Spec X.K C "__getitem__" f) (hfn : PySem.W.fnIn X.K f = true) (F : FnG X.prog X.w X.K X.mg X.base CX k f sp) (hr : Room (k + 1) X.A) (hg : X.A.guards = some []) (n : NoX CX) (ha : PE X a ta) (hb : PE X b tb)
    (hsl : ∀ v u, subscripted b true v u = runValue (.builtin "lifetime.subscript" ⟨[v, u], []⟩) := by intro _ _; rfl) : PE X (.Subscript a b pos) (tOp (rIxG C sp) ta tb) := by
  refine ⟨fun pins s σ H Q I h => ?_⟩
  refine Subscript_ (binT ha hb I h fun v u s2 x y H2 I2 rx ry q => ?_)
  obtain ⟨p, dx, fs, ex, ea, q⟩ := q
  subst ex
  obtain rfl : v = Value.ref p := rx
  obtain ⟨od, J⟩ := ins_at I2 ea
  obtain ⟨m, Fr⟩ := I2.fr
  exact PySem.W.sub_K Fr I2.ok.mod.kin J hs.at_ hfn hs.fn (run_gA (us := [.ref p, u]) (vs := [.ref p, y]) F hr.in1 hg I2.env0.in1 (passF n σ) I2 (.cons rfl (.cons ry .nil)) q) (hsl _ _)
/-- o[k] = v, which may raise -/
def rSetG (C : Addr) (sp : Sp) (E : XK) : TSet := fun o i v H Q => ∃ a dx fs, o = .ref a ∧ H a = some (.ins C dx fs) ∧ sp [.ref a, i, v] H (fun _ H' => Q H') E
theorem set_ownG {E : XK} (hq : PySem.W.noSeq X.K C = true) (hs : Spec X.K C "__setitem__" f) (F : FnG X.prog X.w X.K X.mg X.base CX k f sp) (hr : Room k X.A) (hg : X.A.guards = some []) (hx : ∀ σ, PassesAt CX X σ E) : PSet X (rSetG C sp E) := by
  intro pins s σ H o i v ov iv u Q I ro ri rv h
  obtain ⟨a, dx, fs, eo, ea, q⟩ := h
  subst eo
  obtain rfl : ov = Value.ref a := ro
  obtain ⟨od, J⟩ := ins_at I ea
  obtain ⟨m, Fr⟩ := I.fr
  exact PySem.W.ksp_setItem Fr I.ok.mod.kin J hq hs.at_ hs.fn (thn (run_g (E := fun _ => E) (us := [.ref a, iv, u]) (vs := [.ref a, i, v]) F hr hg (hx σ) I (.cons rfl (.cons ri (.cons rv .nil))) q) fun _ s' ⟨_, H', I', _, q'⟩ => ⟨H', I', q'⟩)
/-- len(o) -/
def rLenG (C : Addr) (sp : Sp) : List V → Hp → VK → Prop := fun xs H Q => ∃ a dx fs, xs = [.ref a] ∧ H a = some (.ins C dx fs) ∧ sp [.ref a] H (fun z H' => ∃ i, z = .int i ∧ 0 ≤ i ∧ i < 2 ^ 63 ∧ Q (.int i) H') (fun _ _ _ => False)
theorem call_lenG (hs : Spec X.K C "__len__" f) (F : FnG X.prog X.w X.K X.mg X.base CX k f sp) (hr : Room (k + 1) X.A) (hg : X.A.guards = some []) (n : NoX CX) : CallR X (.builtin "len") (rLenG C sp) := by
  intro pins s σ H xs us Q I r h
  obtain ⟨a, dx, fs, rfl, ea, q⟩ := h
  obtain ⟨u, rfl, ru⟩ := r.one
  cases (show u = Value.ref a from ru)
  obtain ⟨od, J⟩ := ins_at I ea
  obtain ⟨m, Fr⟩ := I.fr
  refine PySem.W.len_K Fr I.ok.mod.kin J hs.at_ hs.fn (thn (run_gA (us := [.ref a]) (vs := [.ref a]) F hr.in1 hg I.env0.in1 (passF n σ) I (.cons rfl .nil) q) fun w s' ⟨z, H', I', rz, i, ez, h0, h1, q'⟩ => ?_)
  subst ez
  obtain ⟨t, rfl⟩ := (show ∃ t, w = Value.int i t from rz)
  exact ⟨⟨h0, h1⟩, .int i, H', I'.tok _, ⟨_, rfl⟩, q'⟩
/-- bool(o) -/
def rBoolG (C : Addr) (sp : Sp) : List V → Hp → VK → Prop := fun xs H Q => ∃ a dx fs, xs = [.ref a] ∧ H a = some (.ins C dx fs) ∧ sp [.ref a] H (fun z H' => ∃ b, z = .bl b ∧ Q (.bl b) H') (fun _ _ _ => False)
theorem call_boolG (hs : Spec X.K C "__bool__" f) (F : FnG X.prog X.w X.K X.mg X.base CX k f sp) (hr : Room (k + 2) X.A) (hg : X.A.guards = some []) (n : NoX CX) : CallR X (.type "bool") (rBoolG C sp) := by
  intro pins s σ H xs us Q I r h
  obtain ⟨a, dx, fs, rfl, ea, q⟩ := h
  obtain ⟨u, rfl, ru⟩ := r.one
  cases (show u = Value.ref a from ru)
  obtain ⟨od, J⟩ := ins_at I ea
  obtain ⟨m, Fr⟩ := I.fr
  have hr2 : Room k X.A.in1.in1 := (show Room (k + 1) X.A.in1 from Room.in1 hr).in1
  refine bool_own Fr I.ok.mod.kin J hs.at_ hs.fn (thn (run_gA (us := [.ref a]) (vs := [.ref a]) F hr2 hg I.env0.in1.in1 (passF n σ) I (.cons rfl .nil) q) fun w s' ⟨z, H', I', rz, b, ez, q'⟩ => ?_)
  subst ez
  cases (show w = Value.bool b from rz)
  exact ⟨.bl b, H', I', rfl, q'⟩
/-- str(o), o an instance with slots -/
def rStrSl (C : Addr) (sp : Sp) : List V → Hp → VK → Prop := fun xs H Q => ∃ a dx vs, xs = [.ref a] ∧ SlX.Slt H a C dx vs ∧ sp [.ref a] H (fun z H' => ∃ y, z = .str y ∧ Q (.str y) H') (fun _ _ _ => False)
theorem call_strSl (hs : Spec X.K C "__str__" f) (F : FnG X.prog X.w X.K X.mg X.base CX k f sp) (hr : Room (k + 2) X.A) (hg : X.A.guards = some []) (n : NoX CX) : CallR X (.type "str") (rStrSl C sp) := by
  intro pins s σ H xs us Q I r h
  obtain ⟨a, dx, vs, rfl, hsl, q⟩ := h
  obtain ⟨u, rfl, ru⟩ := r.one
  cases (show u = Value.ref a from ru)
  obtain ⟨sl, od, _, J, _⟩ := SlX.slt_inst I hsl
  have hr2 : Room k X.A.in1.in1 := (show Room (k + 1) X.A.in1 from Room.in1 hr).in1
  refine PySem.W.kso_call hr2.units0 I.kIn J hs.at_ hs.fn (thn (run_gA (us := [.ref a]) (vs := [.ref a]) F hr2 hg I.env0.in1.in1 (passF n σ) I (.cons rfl .nil) q) fun w s' ⟨z, H', I', rz, y, ez, q'⟩ => ?_)
  subst ez
  obtain ⟨t, rfl⟩ := (show ∃ t, w = Value.str y t from rz)
  exact ⟨.str y, H', I', ⟨_, rfl⟩, q'⟩
/-- o.p, a property of a class with slots -/
def tPropSlG (C : Addr) (sp : Sp) (ta : TE) : TE := fun σ H Q => ta σ H fun x H1 => ∃ a dx vs, x = .ref a ∧ SlX.Slt H1 a C dx vs ∧ sp [.ref a] H1 Q (EF σ)
theorem pe_propSlG {pp : Addr} {ff : Str} {e : Expr} (he : PE X e ta) (c : SlX.SCls X.K C) (hp : PropOf X.K C ff pp f) (F : FnG X.prog X.w X.K X.mg X.base CX k f sp) (hr : Room (k + 1) X.A) (hg : X.A.guards = some []) (n : NoX CX)
    (hab : attributeBase e ff X.env (eval e X.env) = eval e X.env := by rfl) : PE X (.Attribute e ff pos) (tPropSlG C sp ta) := by
  refine ⟨fun pins s σ H Q I h => ?_⟩
  refine attr_of hab (thn (he.run pins s σ H _ I h) fun u s1 ⟨x, H1, I1, rx, a, dx, vs, ex, hsl, q⟩ => ?_)
  subst ex
  obtain rfl : u = Value.ref a := rx
  obtain ⟨sl, od, _, J, _⟩ := SlX.slt_inst I1 hsl
  obtain ⟨rest, hrec⟩ := hp.rec_
  have I2 : Inv X pins σ H1 { s1 with toks := s1.toks + 1 } := I1.tok (s1.toks + 1)
  refine PySem.W.get_bind I1.kIn J (PySem.W.plainGet_of (c.get ff)).1 (PySem.W.findObj_data c.ic hp.at_ hp.get hp.tak) (PySem.W.plainGet_of (c.get ff)).2 (wpAny_call (PySem.W.prop_get (s := { s1 with toks := s1.toks + 1 }) I1.kIn hrec ?_))
  refine codeAny_mono (F X.A.in1 X.stack { s1 with toks := s1.toks + 1 } H1 [.ref a] [.ref a] Q (EF σ) hr.in1 hg I2.env0.in1 (.cons rfl .nil) q) fun r s' hq => ?_
  cases r with
  | error er => exact (n _ _ _ _ _ hq).elim
  | ok fl =>
    cases fl with
    | ret u =>
      obtain ⟨v, H', I3, rv, q⟩ := I2.after hq
      exact wpAny_of_eq (PySem.W.handedOut_of (handed_of rv)) ⟨v, H', I3, rv, q⟩
    | next => exact False.elim hq
    | brk => exact False.elim hq
    | cont => exact False.elim hq
/-- o.m(k=e): one keyword, no more -/
def tMethKw (C : Addr) (m : Str) (sp : Sp) (E : St → XK) (ta te : TE) : TE := fun σ H Q => ta σ H fun x H1 => ∃ a dx fs, x = .ref a ∧ H1 a = some (.ins C dx fs) ∧ fs.lookup m = none ∧ te σ H1 fun v H2 => sp [.ref a, v] H2 Q (E σ)
end
/-- the promise of a call f(v0, nm=v1) -/
def FnGK (P : Program) (w : World) (K : PySem.W.Frag) (mg : Str → Option Value) (base : Heap) (CX : CXT) (k : Nat) (f : Addr) (nm : Str) (sp : Sp) : Prop :=
  ∀ (A : Around) (outer : List Env) (s : Shared) (H : Hp) (u0 u1 : Value) (v0 v1 : V) (Q : VK) (E : XK), Room k A → A.guards = some [] → Env0 P w K mg base A outer s H → RelV v0 u0 → RelV v1 u1 → sp [v0, v1] H Q E →
    codeAny (model P w) A (.call (.ref f) ⟨[u0], [(nm, u1)]⟩) (CR CX outer P w H s Q E) s
section
variable {P : Program} {w : World} {K : PySem.W.Frag} {mg : Str → Option Value} {base : Heap} {CX : CXT} {j k : Nat} {f : Addr} {sp sp' : Sp} {nm : Str}
theorem FnGK.mono (F : FnGK P w K mg base CX j f nm sp) (h : j ≤ k) : FnGK P w K mg base CX k f nm sp := fun A outer s H u0 u1 v0 v1 Q E hr => F A outer s H u0 u1 v0 v1 Q E (hr.mono h)
theorem fngk_of {x qual : Str} {st : Stmt} {fd : FuncData} {N : List Str} {p0 p1 : Str} (F : FunD K x qual (defArgs st) (defBody st) (defScope st) [] [] f fd) (S : FnScope N [p0, p1] (defScope st))
    (hb : ∀ (s : Shared) (u0 u1 : Value), K.In s.heap → BindsTo s fd ⟨[u0], [(nm, u1)]⟩ [(p0, u0), (p1, u1)])
    (hbody : ∀ (cdv : Value) (A : Around) (outer : List Env) (s : Shared) (H : Hp) (vs : List V) (Q : VK) (E : XK), Room k (A.deeper (envOfC qual (defScope st) s.heap.objs.size f cdv)) → A.guards = some [] → sp vs H Q E →
      ∃ t, PSs (cxOf CX P w K mg base N qual (defScope st) f cdv A outer s H E) (defBody st) t ∧ t { nx := fun _ H' => Q .non H', rt := Q } (L2.start N vs) H) : FnGK P w K mg base CX (k + 1) f nm sp := by
  intro A outer s H u0 u1 v0 v1 Q E hr hg e0 r0 r1 hsp
  obtain ⟨oc, od, dV, kV, doc, pm, an, cdv, ct, osl, rfl, lk, hcd, _, _⟩ := F.ex
  have KX : K.In s.heap := e0.mod.kin.keeps fun b o e => (e0.bs b o e).1
  exact LamX.run_ofS (ps := [p0, p1]) (us := [u0, u1]) (vs := [v0, v1]) lk hcd S hr e0 (hb s u0 u1 KX) (.cons r0 (.cons r1 .nil)) rfl fun hr' => hbody cdv A outer s H [v0, v1] Q E hr' hg hsp
end
section
variable {X : Cx} {CX : CXT} {k : Nat} {f C : Addr} {sp : Sp} {E : St → XK} {m nm : Str} {pos apos kpos : Pos} {e o : Expr} {ta te : TE}
/-- o.m(nm=e) -/
theorem pe_mgKw {pl : Sem Bool} (he : PE X o ta) (c : Cls X.K C) (hm : Meth X.K C m f) (F : FnGK X.prog X.w X.K X.mg X.base CX k f nm sp) (hr : Room k X.A) (hg : X.A.guards = some []) (hx : ∀ σ, PassesAt CX X σ (E σ)) (hlen : ∀ vs H Q E, sp vs H Q E → vs.length = 2) (ha : PE X e te)
    (hall : (backToKw pos (keywordEach [⟨some nm, e, kpos⟩] X.env)).all (·.1.isSome) = true := by rfl) (hks : (backToKw pos (keywordEach [⟨some nm, e, kpos⟩] X.env)).filterMap (·.1) = [nm] := by rfl)
    (hpl : ((backTo pos (starEach [] X.env)).any (·.1) || (backToKw pos (keywordEach [⟨some nm, e, kpos⟩] X.env)).any (·.1.isNone)) = false := by rfl)
    (ht : eval (.Call (.Attribute o m apos) [] [⟨some nm, e, kpos⟩] pos) X.env = (do
      let ov ← eval o X.env
      standAt apos.atName
      let (f, first) ← holding [ov] (getMethod ov m pl)
      callWith pos f first (backTo pos (starEach [] X.env)) (backToKw pos (keywordEach [⟨some nm, e, kpos⟩] X.env))) := by rfl) :
    PE X (.Call (.Attribute o m apos) [] [⟨some nm, e, kpos⟩] pos) (tMethKw C m sp E ta te) := by
  refine ⟨fun pins s σ H Q I h => ?_⟩
  refine PySem.W.methodCall_KW (pl := pl) (thn (he.run pins s σ H _ I h) fun u s1 ⟨x, H1, I1, rx, a, dx, fs, ex, ea, l, q⟩ => ?_) ht
  subst ex
  obtain rfl : u = Value.ref a := rx
  refine getmeth_ok I1 ea c hm l ?_
  refine PySem.W.callWith_KW0 (first := [.ref a]) (h₀ := X.base) I.ok.mod.kin hm.kp hall (thn ((pk_cons (nm := some nm) (kpos := kpos) ha pk_nil).run pos pins s1 σ H1 (fun zs H2 => sp (.ref a :: zs) H2 Q (E σ)) I1 q) fun us s2 ⟨zs, H2, I2, rz, q2⟩ => ⟨I2.kIn, ?_⟩) hpl
  · rw [hks]
    obtain ⟨v, rfl⟩ : ∃ v, zs = [v] := by
      have hl := hlen _ _ _ _ q2
      match zs, hl with
      | [v], _ => exact ⟨v, rfl⟩
    obtain ⟨u, rfl, ru⟩ := rz.one
    refine wpAny_call (codeAny_mono (F X.A X.stack s2 H2 (.ref a) u (.ref a) v Q (E σ) hr hg I2.env0 rfl ru q2) fun r s' hq => ?_)
    cases r with
    | error e => exact hx σ pins H2 s2 e s' I2 hq
    | ok fl =>
      cases fl with
      | ret u => exact I2.after hq
      | next => exact False.elim hq
      | brk => exact False.elim hq
      | cont => exact False.elim hq
end
end SK
set_option maxHeartbeats 4000000
/-! SkE1: own errors with a field, over any built-in; raise of a class; except (A, B, C) as e. -/
namespace SK
open PySem PySem.Spec PyProof.Rows
theorem store_LookupError : StoreFacts "LookupError" [.type "LookupError", .type "Exception", .type "BaseException", .type "object"] "object.__setattr__" "object" where
  mro := by kernel_rfl
  slot := .of (owner := "object") (n := "__setattr__") (by rw [typeLookup_type, builtinLookup_eq_fast]; kernel_rfl) (by decide +kernel) (by decide +kernel) (by decide +kernel)
    (by first | exact .inl (by decide +kernel) | exact .inr (by decide +kernel)) (by rw [isSubtype_type]; kernel_rfl)
  entry := F.entry_object_sa
  kind := by decide +kernel
  split := by decide +kernel
  hasOwner := by decide +kernel
  args := fun a b c => by unfold argsOk; kernel_rfl
  passes := fun self => by kernel_rfl
theorem store_ArithmeticError : StoreFacts "ArithmeticError" [.type "ArithmeticError", .type "Exception", .type "BaseException", .type "object"] "object.__setattr__" "object" where
  mro := by kernel_rfl
  slot := .of (owner := "object") (n := "__setattr__") (by rw [typeLookup_type, builtinLookup_eq_fast]; kernel_rfl) (by decide +kernel) (by decide +kernel) (by decide +kernel)
    (by first | exact .inl (by decide +kernel) | exact .inr (by decide +kernel)) (by rw [isSubtype_type]; kernel_rfl)
  entry := F.entry_object_sa
  kind := by decide +kernel
  split := by decide +kernel
  hasOwner := by decide +kernel
  args := fun a b c => by unfold argsOk; kernel_rfl
  passes := fun self => by kernel_rfl
/-- the first field of an exception that has no dict yet -/
theorem exc_osaG {prog : Program} {w : World} {A : Around} {R : Result → Shared → Prop} {hp : Heap} {g : Array GenState} {d : Drawn} {tt : Nat} {os : OsState} {K : W.Frag} {name : Str} {tk : Tok} {v : Value} {x C t1 : Addr} {B : String} {bmB : List Value}
    (SF : StoreFacts B bmB "object.__setattr__" "object") (X : K.In hp) (hx : hp.get? x = some { cls := .ref C, data := .fields #[.ref t1, .none, .none, .none, .bool false, .none] }) (ov : W.excOver K C bmB = true) (hh : W.hasDictIn K C = true) (ha : W.findIn K (.ref C) name = some none)
    (hq : ∀ h' tk' dx, (∀ b o, b ≠ x → hp.get? b = some o → h'.get? b = some o) → hp.objs.size ≤ dx → dx ≠ x → h'.get? x = some { cls := .ref C, dict := some dx, data := .fields #[.ref t1, .none, .none, .none, .bool false, .none] } →
      h'.Ns1 dx (fun y => if y = name then some v else none) → R (.ok (.ret .none)) ⟨h', g, d, tk', os⟩) :
    codeAny (model prog w) A (.call (.builtin "object.__setattr__") ⟨[.ref x, .str name tk, v], []⟩) R ⟨hp, g, d, tt, os⟩ := by
  have hxs : x ≠ hp.objs.size := Nat.ne_of_lt (Heap.lt_size hx)
  have ht : W.takerIn K C name = some none := by
    unfold W.takerIn
    rw [ha]
    rfl
  refine W.osa_openX (od := none) SF X ⟨hx, rfl, rfl, trivial⟩ ov ht fun b => ?_
  obtain ⟨cd, hc, hd'⟩ := W.any_some hh
  refine wpAny_bind (wpAny_pure (wpAny_bind (W.instanceDict_exc (t := t1) (c2 := .none) hx (W.looks_clsIn X hc) hd' ?_)))
  show wpAny _ _ (Builtin.ObjectAttr.storeInDict hp.objs.size (.str name tk) name v) _ _ _
  refine HandSPX.store_in_new ?_ fun h' tk' hn' hs => ?_
  · exact ⟨_, #[], _, (Heap.get?_update_ne _ _ _ _ hxs.symm).trans (Heap.get?_push_at rfl rfl), rfl, fun e he => absurd he (by simp), fun _ => rfl⟩
  · have hx₁ : (hp.push (W.dictOf [] 0)).get? x = some { cls := .ref C, data := .fields #[.ref t1, .none, .none, .none, .bool false, .none] } := Heap.get?_push_of_some _ hx
    refine hq h' tk' hp.objs.size (fun b o hb ho => ?_) (Nat.le_refl _) hxs.symm ?_ hn'
    · exact (hs.2 b (Nat.ne_of_lt (Heap.lt_size ho))).trans ((Heap.get?_update_ne _ _ _ _ hb).trans (Heap.get?_push_of_some _ ho))
    · exact (hs.2 x hxs).trans (Heap.get?_update_self _ hx₁ rfl)
open L2
/-- what the written part says of an own error class -/
structure OexG (K : PySem.W.Frag) (C : Addr) : Prop where
  base : ∃ (B newId initId : String) (bmB : List Value), ExcBaseFacts B newId initId bmB ∧ StoreFacts B bmB "object.__setattr__" "object" ∧ PySem.W.excInitIn K C bmB newId = true ∧ PySem.W.excOver K C bmB = true
  sa : PySem.W.findIn K (.ref C) "__setattr__" = some (some (.builtin "object.__setattr__"))
  exC : PySem.W.subIn K (.ref C) (.type "BaseException") = some true
  tyC : PySem.W.typeIn K (.ref C) = some (.type "type")
  kC : PySem.W.keepIn K (.ref C) = true
  hd : PySem.W.hasDictIn K C = true
section
variable {X : Cx} {pins : List (Addr × Obj)} {σ : St} {H : Hp} {s : Shared} {a C dx : Addr} {f : Str} {y : V} {u : Value} {Q : Unit → Shared → Prop} {A : Around}
theorem ost_newG (T : OexG X.K C) (I : Inv X pins σ H s) (e : H a = some (exo a C none)) (hno : PySem.W.findIn X.K (.ref C) f = some none) (ry : RelV y u)
    (h : ∀ dx s', H dx = none → dx ≠ a → Inv X pins σ (upd (upd H dx (exd dx [(f, y)])) a (exo a C (some dx))) s' → Q () s') : wpAny (model X.prog X.w) A (setAttr (.ref a) f u) Q X.xe s := by
  obtain ⟨B, newId, initId, bmB, FB, SF, q1, q2⟩ := T.base
  obtain ⟨t1, ho⟩ := exo_at I.hok e
  obtain ⟨hp, g, d, t, os⟩ := s
  refine PySem.W.set_plain I.kIn (ox := { cls := .ref C, dict := none, data := .fields #[.ref t1, .none, .none, .none, .bool false, .none] }) (od := none) ⟨ho, rfl, rfl, trivial⟩ T.sa ?_
  refine exc_osaG SF I.kIn ho q2 T.hd hno (fun h' tk' dx k dn dne hx hn => ?_)
  have hnd : H dx = none := I.hok.fresh dn
  have nd : ∀ {b : Addr} {o : Obj}, hp.get? b = some o → b ≠ dx := fun {b o} q => Nat.ne_of_lt (Nat.lt_of_lt_of_le (Heap.lt_size q) dn)
  have na : ∀ {b : Addr}, H b = none → b ≠ a := fun {b} n z => by
    rw [z, e] at n
    cases n
  have Un1 : Un X.fs [] H (upd (upd H dx (exd dx [(f, y)])) a (exo a C (some dx))) hp h' := {
    keep := fun b o q n _ _ => k b o (na n) q
    slot := fun b o q n _ _ => ⟨o.slots, k b o (na n) q⟩
    free := fun b o q n _ => by rw [upd_ne (na n), upd_ne (nd q)]; exact n
    there := fun b o q _ => by
      by_cases hb : b = a
      · exact ⟨_, by rw [hb]; exact hx⟩
      · exact ⟨o, k b o hb q⟩
    tups := fun b xs q => by rw [upd_ne (at_ne e q exo_tup), upd_ne (ne_of_none q hnd)]; exact q
    frzs := fun b o v q => by rw [upd_ne (at_ne e q exo_frz), upd_ne (ne_of_none q hnd)]; exact q
    tbls := fun b ps q => ⟨#[], by rw [upd_ne (at_ne e q exo_tbl), upd_ne (ne_of_none q hnd), q]; simp⟩ }
  refine h dx _ hnd dne (I.un (t' := tk') Un1 fun b o q => ?_)
  by_cases hb : b = a
  · subst hb
    rw [upd_same] at q
    cases q
    exact exo_ok hx
  · rw [upd_ne hb] at q
    by_cases hd : b = dx
    · subst hd
      rw [upd_same] at q
      cases q
      exact exd_ok hn (relO_put (fs := []) ry fun g => True.intro)
    · rw [upd_ne hd] at q
      exact (I.hok b o q).stay (fun c v hc z => k c v (by
          rcases hc with hc | hc
          · rw [hc]
            exact hb
          · exact at_ne e hc exo_own) z)
        (fun c hc => by rw [upd_ne (at_ne e hc exo_own), upd_ne (ne_of_none hc hnd)]; exact hc) (fun c xs hc => by rw [upd_ne (at_ne e hc exo_tup), upd_ne (ne_of_none hc hnd)]; exact hc)
end
/-- self.f = e, self an exception just made -/
def tOsg (K : PySem.W.Frag) (f : Str) (to te : TE) : TS := fun D σ H => te σ H fun y H1 => to σ H1 fun x H2 => ∃ a C : Addr, x = .ref a ∧ OexG K C ∧ PySem.W.findIn K (.ref C) f = some none ∧
  H2 a = some (exo a C none) ∧ ∀ dx, H2 dx = none → dx ≠ a → D.nx σ (upd (upd H2 dx (exd dx [(f, y)])) a (exo a C (some dx)))
theorem ps_osg {X : Cx} {o e : Expr} {to te : TE} {f : Str} {p' pos : Pos} (ho : PE X o to) (he : PE X e te) (hs : swapsWith e (some (.Attribute o f p')) pos.line X.env = pure false := by rfl) : PS X (.Assign [.Attribute o f p'] e pos) (tOsg X.K f to te) := by
  refine ⟨fun pins s σ H D I h => ?_⟩
  refine plainObj_wpAny_Assign_Attribute (thn (he.run pins s σ H _ I h) fun v s1 ⟨y, H1, I1, r1, q1⟩ => thn (ho.run pins s1 σ H1 _ I1 q1) fun u s2 ⟨x, H2, I2, r2, a, C, ex, T, hno, ea, q⟩ => ?_) hs
  subst ex
  obtain rfl : u = Value.ref a := r2
  exact ost_newG T I2 ea hno r1 fun dx s' n ne J => ⟨σ, _, J, q dx n ne⟩
/-- what such an __init__ promises -/
def spErr (K : PySem.W.Frag) (C : Addr) (f : Str) : Sp := fun vs H Q _ => ∃ a v, vs = [.ref a, v] ∧ H a = some (exo a C none) ∧ OexG K C ∧ PySem.W.findIn K (.ref C) f = some none ∧ ∀ dx, H dx = none → dx ≠ a → Q .non (upd (upd H dx (exd dx [(f, v)])) a (exo a C (some dx)))
/-- C(e), C an own error whose __init__ stores its argument at f -/
def tMkE (C : Addr) (f : Str) (ta : TE) : St → Hp → XK → Prop := fun σ H Q => ta σ H fun v H1 => ∀ d, H1 d = none → Q (.ref C) (some d) (upd H1 d (.xd [(f, v)]))
section
variable {X : Cx} {CX : CXT} {x f : Str} {C fI : Addr} {k : Nat} {e : Expr} {te : TE} {p pos : Pos}
theorem pmk_err (T : OexG X.K C) (hno : PySem.W.findIn X.K (.ref C) f = some none) (iC : PySem.W.findIn X.K (.ref C) "__init__" = some (some (.ref fI))) (tI : PySem.W.typeIn X.K (.ref fI) = some (.type "function"))
    (F1 : FnG X.prog X.w X.K X.mg X.base CX k fI (spErr X.K C f)) (hr : Room (k + 1) X.A) (hgd : X.A.guards = some []) (hn : NoX CX) (hg : Gl X x) (hm : X.mg x = some (.ref C)) (ha : PE X e te)
    (hdb : (x == ("__debug__" : Str)) = false := by decide) (he : starEach [e] X.env = (false, eval e X.env) :: starEach [] X.env := by rfl) :
    L2N.PMk X (.Call (.Name x p) [e] [] pos) (tMkE C f te) := by
  intro pins s σ H Q I h
  obtain ⟨B, newId, initId, bmB, FB, SF, q1, q2⟩ := T.base
  refine wpAny_Call_Name_kw (ld_glob I hg hm ?_ hdb)
  refine PySem.W.callWith_K (h₀ := X.base) I.ok.mod.kin T.kC ?_ he rfl
  rw [he]
  show wpAny _ _ (spliced ((false, eval e X.env) :: backTo pos (starEach [] X.env))) _ _ s
  refine Calls.spliced_cons (thn (ha.run pins s σ H _ I h) fun u s1 ⟨v, H1, I1, r1, q1⟩ => ?_)
  refine Calls.spliced_nil ⟨I1.kIn, ?_⟩
  show wpAny _ _ (call (.ref C) [u]) _ _ _
  obtain ⟨nm, N, qn, bs, bm, hdct, sn, sub, ab, col, dd, k0, k1, k2, k3, k5, hC, hT⟩ := PySem.W.excInit_of I1.kIn (by assumption : PySem.W.excInitIn X.K C bmB newId = true)
  obtain ⟨hp, g, dr, tk, os⟩ := s1
  have hsz : hp.objs.size ≤ hp.objs.size + 1 := Nat.le_succ _
  have hn1 : H1 (hp.objs.size + 1) = none := I1.hok.fresh hsz
  have kk : ∀ b o, hp.get? b = some o → ((hp.push (PySem.W.kdv_tup [u])).push (PySem.HandSPX.excO C hp.objs.size)).get? b = some o := fun b o e => Heap.get?_push_of_some _ (Heap.get?_push_of_some _ e)
  have hget : ((hp.push (PySem.W.kdv_tup [u])).push (PySem.HandSPX.excO C hp.objs.size)).get? (hp.objs.size + 1) = some (PySem.HandSPX.excO C hp.objs.size) := by heap_get
  have I2 : Inv X pins σ (upd H1 (hp.objs.size + 1) (exo (hp.objs.size + 1) C none)) ⟨(hp.push (PySem.W.kdv_tup [u])).push (PySem.HandSPX.excO C hp.objs.size), g, dr, tk, os⟩ :=
    I1.laid (t' := tk) (a := hp.objs.size + 1) (o := exo (hp.objs.size + 1) C none) (h' := (hp.push (PySem.W.kdv_tup [u])).push (PySem.HandSPX.excO C hp.objs.size)) kk hsz (exo_ok hget)
  have hq : spErr X.K C f [V.ref (hp.objs.size + 1), v] (upd H1 (hp.objs.size + 1) (exo (hp.objs.size + 1) C none))
      (fun v' H2 => v' = .non ∧ ∃ d, H2 (hp.objs.size + 1) = some (exo (hp.objs.size + 1) C (some d)) ∧ H2 d = some (exd d [(f, v)]) ∧ H1 d = none ∧ Q (.ref C) (some d) (upd (del H2 (hp.objs.size + 1)) d (.xd [(f, v)]))) (fun _ _ _ => False) := by
    refine ⟨_, _, rfl, upd_same, T, hno, fun dx hdx hne => ⟨rfl, dx, upd_same, by rw [upd_ne hne, upd_same], by rw [upd_ne hne] at hdx; exact hdx, ?_⟩⟩
    rw [upd_ne hne] at hdx
    have z := q1 dx hdx
    have eH : upd (del (upd (upd (upd H1 (hp.objs.size + 1) (exo (hp.objs.size + 1) C none)) dx (exd dx [(f, v)])) (hp.objs.size + 1) (exo (hp.objs.size + 1) C (some dx))) (hp.objs.size + 1)) dx (.xd [(f, v)]) = upd H1 dx (.xd [(f, v)]) := by
      funext b
      by_cases hb : b = dx
      · rw [hb, upd_same, upd_same]
      · rw [upd_ne hb, upd_ne hb]
        by_cases hc : b = hp.objs.size + 1
        · rw [hc, del_same, hn1]
        · rw [del_ne hc, upd_ne hc, upd_ne hb, upd_ne hc]
    rw [eH]
    exact z
  refine wpAny_call (PySem.HandSPX.call_own FB hT hC (PySem.W.looks_findIn I1.kIn iC) (fun self => PySem.W.bind_fn I1.kIn self tI) (by show 1 ≤ sizeLine; rw [sizeLine_eq]; omega)
    (codeAny_mono (F1 _ X.stack _ _ [Value.ref (hp.objs.size + 1), u] [V.ref (hp.objs.size + 1), v] _ (fun _ _ _ => False) (hr.make C [u] []) (under_guards hgd) (I2.env0.make C [u] []) (.cons rfl (.cons r1 .nil)) hq) fun r s' hq' => ?_))
  cases r with
  | error er => exact (hn _ _ _ _ _ hq').elim
  | ok fl =>
    cases fl with
    | ret u =>
      obtain ⟨v', H2, os2, bare2, un2, hok2, rv, ev, d, ea, ed, hd1, q2⟩ := hq'
      subst ev
      obtain ⟨h2, g2, d2, t2, os'⟩ := s'
      obtain ⟨t0, G, J, kG, ge, hoe, na⟩ := mk_end0 (d2 := d2) (t2 := t2) I1 hsz kk un2 hok2 os2 bare2 ea ed hd1
      exact ⟨rv, hp.objs.size + 1, _, _, ⟨G, g2, d2, t2, os'⟩, _, .ref C, some d, rfl, J, kG, ge, hoe, ⟨rfl, rfl, fun vs hv => by cases hv; rfl⟩, rfl, rfl, na, rfl, bare2, raises_own T.exC T.tyC, q2⟩
    | next => exact False.elim hq'
    | brk => exact False.elim hq'
    | cont => exact False.elim hq'
end
/-! ### built-in errors, context None -/
section
variable {X : Cx} {T N I : String} {x : Str} {p pos : Pos} {e : Expr} {te : TE}
theorem pmk_exbN (F : ExcB T N I) (hg : Gl X x) (hm : X.mg x = none) (hv : bootBuiltins x = some (.type T)) (ha : PA X [e] (tCons te tNil)) (hn : x ≠ "__name__" := by decide) (hdb : (x == ("__debug__" : Str)) = false := by decide)
    (he : starEach [e] X.env = (false, eval e X.env) :: starEach [] X.env := by rfl) :
    L2N.PMk X (.Call (.Name x p) [e] [] pos) (fun σ H Q => te σ H fun _ H1 => Q (.type T) none H1) := by
  intro pins s σ H Q J h
  refine wpAny_Call_Name_kw (ld_blt J hg hm hv ?_ hn hdb)
  refine PyProof.Rows.callWith_type1 (thn (ha.run pos pins s σ H (fun vs H1 => vs.length ≤ sizeLine ∧ Q (.type T) none H1) J ?_) fun us s1 hh => ?_) he rfl
  · show te σ H fun x H1 => ([x] : List V).length ≤ sizeLine ∧ Q (.type T) none H1
    have e1 : ∀ x : V, ([x] : List V).length ≤ sizeLine := fun x => by show 1 ≤ sizeLine; rw [sizeLine_eq]; omega
    have e2 : (fun (x : V) (H1 : Hp) => ([x] : List V).length ≤ sizeLine ∧ Q (.type T) none H1) = fun _ H1 => Q (.type T) none H1 := by
      funext x H1
      exact propext ⟨fun z => z.2, fun z => ⟨e1 x, z⟩⟩
    rw [e2]
    exact h
  obtain ⟨vs, H1, I1, r1, q0, q1⟩ := hh
  obtain ⟨hp1, g1, d1, tk1, os1⟩ := s1
  exact wpAny_call_exc F.call (fun h' a mk => L2N.mk_of I1 (PySem.Heap.MadeExc.of mk) F.raises q1 (I1.hok.gone mk.new)) (Nat.le_trans (Nat.le_of_eq r1.length.symm) q0)
theorem pmk_excN (hc : ExcClass T N I) (ty : typeOf (.type T) = pure (.type "type")) (hg : Gl X x) (hm : X.mg x = none) (hv : bootBuiltins x = some (.type T)) (ha : PA X [e] (tCons te tNil)) (hn : x ≠ "__name__" := by decide) (hdb : (x == ("__debug__" : Str)) = false := by decide)
    (he : starEach [e] X.env = (false, eval e X.env) :: starEach [] X.env := by rfl) :
    L2N.PMk X (.Call (.Name x p) [e] [] pos) (fun σ H Q => te σ H fun _ H1 => ∀ d, Q (.type T) d H1) := by
  intro pins s σ H Q J h
  refine wpAny_Call_Name_kw (ld_blt J hg hm hv ?_ hn hdb)
  refine PyProof.Rows.callWith_type1 (thn (ha.run pos pins s σ H (fun vs H1 => vs.length ≤ sizeLine ∧ ∀ d, Q (.type T) d H1) J ?_) fun us s1 hh => ?_) he rfl
  · show te σ H fun x H1 => ([x] : List V).length ≤ sizeLine ∧ ∀ d, Q (.type T) d H1
    have e1 : ∀ x : V, ([x] : List V).length ≤ sizeLine := fun x => by show 1 ≤ sizeLine; rw [sizeLine_eq]; omega
    have e2 : (fun (x : V) (H1 : Hp) => ([x] : List V).length ≤ sizeLine ∧ ∀ d, Q (.type T) d H1) = fun _ H1 => ∀ d, Q (.type T) d H1 := by
      funext x H1
      exact propext ⟨fun z => z.2, fun z => ⟨e1 x, z⟩⟩
    rw [e2]
    exact h
  obtain ⟨vs, H1, I1, r1, q0, q1⟩ := hh
  refine PyProof.Rows.call_exc hc (fun h' a mk => ?_) (Nat.le_trans (Nat.le_of_eq r1.length.symm) q0)
  obtain ⟨ob, t0, ha', hcls, hd⟩ := mk.there
  exact ⟨a, ob, _, s1, H1, .type T, ob.dict, rfl, I1, mk.keeps, mk.new, ha', ⟨hcls, rfl, fun vs e => by rw [hd] at e; cases e; rfl⟩, hd, rfl, I1.hok.gone mk.new, rfl, I1.bare, (fun _ _ _ => ⟨PySem.W.Looks.of_pure hc.base, PySem.W.Looks.of_pure ty⟩), q1 ob.dict⟩
end
/-! ### raise C, C an own class without __init__ of its own -/
section
variable {prog : Program} {w : World} {A : Around} {E : Value → Shared → Prop} {s : Shared} {K : PySem.W.Frag} {C : Addr}
theorem issub_nestedC {Q : Fin → Shared → Prop} (X : K.In s.heap) (hc : ∃ oc od cd sl, K.lookup C = some ⟨oc, od, .cls cd, sl⟩) (ty : PySem.W.typeIn K (.ref C) = some (.type "type")) (sub : PySem.W.subIn K (.ref C) (.ref C) = some true) (h : Q (.done (.ret (.bool true))) s) :
    wpAny (model prog w) A (Builtin.«issubclass.nested» ⟨[.ref C, .ref C, rawInt 0], []⟩) Q E s := by
  obtain ⟨hh, g, dr, t, os⟩ := s
  dsimp only at X
  obtain ⟨oc, od, cd, sl, hK⟩ := hc
  have hC := X _ _ hK
  have L1 := PySem.W.looks_subIn (M := model prog w) X sub
  have L2 := PySem.W.looks_typeIn (M := model prog w) X ty
  unfold Builtin.«issubclass.nested»
  refine wpAny_bind (L2.at ?_)
  rw [if_pos (beq_self_eq_true _)]
  repeat (first | exact h | exact wpAny_pure h | lk)
theorem issub_runC {Q : Value → Shared → Prop} (X : K.In s.heap) (hc : ∃ oc od cd sl, K.lookup C = some ⟨oc, od, .cls cd, sl⟩) (ty : PySem.W.typeIn K (.ref C) = some (.type "type")) (sub : PySem.W.subIn K (.ref C) (.ref C) = some true) (h : Q (.bool true) s) :
    wpAny (model prog w) A (call (.builtin "issubclass") [.ref C, .ref C]) Q E s :=
  call_issubclass (S := fun _ R s => K.In s.heap ∧ R (.ok (.ret (.bool true))) s) (fun _ _ _ _ _ hs => issubclass_outer (issub_nestedC hs.1 hc ty sub hs.2)) ⟨X, h⟩
end
theorem raise_cls {prog : Program} {w : World} {A : Around} {E : Value → Shared → Prop} {env : Env} {s : Shared} {x : Sem Value} {Q : Flow → Shared → Prop} {C : Addr} {K : PySem.W.Frag} (hh : A.handled = none) (hd : PySem.W.hasDictIn K C = true) (ty : PySem.W.typeIn K (.ref C) = some (.type "type")) (ex : PySem.W.subIn K (.ref C) (.type "BaseException") = some true) (sub : PySem.W.subIn K (.ref C) (.ref C) = some true)
    (h : wpAny (model prog w) A x (fun v s₀ => v = .ref C ∧ K.In s₀.heap ∧
      wpAny (model prog w) A (call (.ref C) []) (fun v s₁ => ∃ a oe vs, v = .ref a ∧ s₁.heap.get? a = some oe ∧ oe.cls = .ref C ∧ oe.data = .fields vs ∧ vs[1]? = some .none ∧ K.In s₁.heap ∧ E (.ref a) s₁) E s₀) E s) :
    wpAny (model prog w) A (raiseStmt env (some x) none) Q E s := by
  have hc : ∃ oc od cd sl, K.lookup C = some ⟨oc, od, .cls cd, sl⟩ := by
    obtain ⟨cd, hc, _⟩ := PySem.W.any_some hd
    unfold PySem.W.clsIn at hc
    split at hc
    · rename_i c' d' cd' sl' ho
      exact ⟨_, _, _, _, ho⟩
    · cases hc
  unfold raiseStmt
  dsimp only
  refine wpAny_bind (wpAny_mono h (fun v s₀ h₀ => ?_) fun _ _ x => x)
  obtain ⟨rfl, X0, h₀⟩ := h₀
  refine wpAny_bind (wpAny_pure ?_)
  dsimp only
  refine wpAny_bind (wpAny_holding ?_)
  unfold excFromValue isExcClass
  refine wpAny_bind (wpAny_bind ((PySem.W.mc_isType X0 hd).here ?_))
  rw [if_pos rfl]
  refine (PySem.W.looks_subIn X0 ex).here ?_
  rw [if_pos rfl]
  refine wpAny_bind (wpAny_mono h₀ (fun v s₁ h₁ => ?_) fun _ _ x => x)
  obtain ⟨a, oe, vs, rfl, ha, hcls, hdt, h1, X1, hE⟩ := h₁
  have LT : PySem.W.Looks (model prog w) s₁.heap (typeOf (.ref a)) (.ref C) := fun A Q E s k q => wpAny_typeOf_ref (k _ _ ha) (by rw [hcls]; exact q)
  have LI : PySem.W.Looks (model prog w) s₁.heap (isInstance (.ref a) (.type "BaseException")) true := LT.andThen (PySem.W.looks_subIn X1 ex)
  refine wpAny_bind (LI.here ?_)
  simp only [Bool.not_true, Bool.false_eq_true, if_false]
  refine wpAny_pure ?_
  refine wpAny_bind ((PySem.W.mc_isType X1 hd).here ?_)
  rw [if_pos rfl]
  refine wpAny_bind (wpAny_holding ?_)
  unfold raisedFor
  simp only [Bool.false_eq_true, if_false]
  refine wpAny_bind (LT.here ?_)
  refine wpAny_bind (issub_runC X1 hc ty sub ?_)
  refine wpAny_bind (wpAny_truthy_bool ?_)
  rw [if_pos rfl]
  refine wpAny_pure ?_
  unfold setFlight raiseNew
  refine wpAny_bind (wpAny_bind (wpAny_field ha hdt h1 ?_))
  rw [if_neg (by decide)]
  refine wpAny_pure (wpAny_bind (wpAny_handled ?_))
  rw [hh]
  first
    | exact wpAny_throw hE
    | exact wpAny_bind (wpAny_pure (wpAny_throw hE))
theorem ps_raiseC {X : Cx} {W : WX} {C : Addr} {bmB : List Value} {B newId initId : String} {x : Str} {np pos : Pos} (hc : X.calm = true) (tk : L2N.Takes X W) (F : ExcBaseFacts B newId initId bmB) (q : PySem.W.excIn X.K C bmB newId = true)
    (hd : PySem.W.hasDictIn X.K C = true) (ty : PySem.W.typeIn X.K (.ref C) = some (.type "type")) (ex : PySem.W.subIn X.K (.ref C) (.type "BaseException") = some true) (sub : PySem.W.subIn X.K (.ref C) (.ref C) = some true)
    (hg : Gl X x) (gC : X.mg x = some (.ref C)) (hdb : (x == ("__debug__" : Str)) = false := by decide) : PS X (.Raise (some (.Name x np)) none pos) (fun _ σ H => W (.ref C) none σ H) := by
  refine ⟨fun pins s σ H D I h => ?_⟩
  show wpAny _ _ (do standAt pos; raiseStmt X.env (some (do let v ← eval (.Name x np) X.env; standAt pos; pure v)) none) _ _ _
  refine wpAny_bind (wpAny_standAt (raise_cls (C := C) (K := X.K) (I.ok.hd hc) hd ty ex sub (wpAny_bind (ld_glob I hg gC (wpAny_bind (wpAny_standAt (wpAny_pure ⟨rfl, I.kIn, ?_⟩))) hdb))))
  obtain ⟨bm, N, nm, qn, bs, hdct, sn, sb, ab, col, dd, k0, k1, k2, k3, k5, mN, hC, hN, hni, T⟩ := exc_obj I.kIn q
  refine wpAny_call_exc_subT F T hC hN hni (fun h' e hm => ?_) (Nat.zero_le _)
  obtain ⟨a, oe, vs, sI, H', cls, d, ea, J, k, hne, ha, hz, hdt, h1, na, os, ag, r, q'⟩ := L2N.mk_of (Q := fun c d H => W c d σ H ∧ c = .ref C) I hm (raises_own ex ty) ⟨h, rfl⟩ (I.hok.gone hm.new)
  exact ⟨a, oe, vs, ea, ha, hz.1.trans q'.2, hdt, h1, J.kIn.keeps k, tk _ _ (L2N.XE.new J k hne ha hz hdt h1 na os ag q'.1)⟩
/-! ### except (A, B, C) as e -/
def wAs3 (K : PySem.W.Frag) (cs : List Value) (i : Nat) (ts : Addr → Value → Option Addr → TS) (Wout : WX) (D : Ends) : WX := fun cls d σ H => ∃ b, PySem.W.exmAny K cls cs = some b ∧
  (b = true → ∀ a, H a = none → ts a cls d { D with nx := fun σ H => D.nx (σ.set i none) H, bk := fun σ H => D.bk (σ.set i none) H, ct := fun σ H => D.ct (σ.set i none) H } (σ.set i (some (.ref a))) H) ∧ (b = false → Wout cls d σ H)
section
variable {X : Cx} {x1 x2 x3 n : Str} {c1 c2 c3 : Value} {i : Nat} {body suite : List Stmt} {b₀ : Stmt} {np1 np2 np3 tpos pos pos' : Pos} {kk : Nat} {tb : WX → TS} {ts : Addr → Value → Option Addr → TS} {Wout : WX}
theorem flying_keepsZ {B h h' : Heap} {l : List Env} {e : Addr} {Z : Obj → Prop} (R : HandSPX.FlyingZ B l e Z h) (k : ∀ b o, h.get? b = some o → h'.get? b = some o) : HandSPX.FlyingZ B l e Z h' := by
  obtain ⟨f1, f2, f3, oe, ws, T, oT, ts, he, hc, hd, h1, hn, hne, hT, hdT, h3⟩ := R
  exact ⟨fun b o q => k b o (f1 b o q), f2, f3.of_keeps fun b o q _ => ⟨o, k b o q, rfl⟩, oe, ws, T, oT, ts, k _ _ he, hc, hd, h1, hn, hne, k _ _ hT, hdT, h3⟩
theorem ps_try_as3 (hs : X.stack = X.env :: X.outer) (hf : X.env.frame = some X.env.locals) (hN : X.N.Nodup) (hi : X.N[i]? = some n) (hln : X.env.kindOf n = some .local) (hc1 : Names X x1 c1) (hc2 : Names X x2 c2) (hc3 : Names X x3 c3) (tk : L2N.Takes X Wout)
    (hb : ∀ (W : WX) (pn : List (Addr × Obj)) (xe : Value → Shared → Prop), L2N.Takes (X.tr pn xe) W → PassesOwn (model X.prog X.w) X.A X.env xe → PSs (X.tr pn xe) body (tb W))
    (hsu : ∀ (a : Addr) (oe : Obj) (cls : Value) (d : Option Addr) (pn : List (Addr × Obj)), L2N.Zn cls d oe → (∃ vs, oe.data = .fields vs) → PSs (X.suite a ((a, oe) :: pn)) (b₀ :: suite) (ts a cls d)) :
    PS X (.Try body [.ExceptHandler (some (.Tuple [.Name x1 np1, .Name x2 np2, .Name x3 np3] kk tpos)) (some n) (b₀ :: suite) pos'] [] [] pos) (fun D σ H => tb (wAs3 X.K [c1, c2, c3] i ts Wout D) D σ H) := by
  refine ⟨fun pins s σ H D I h => ?_⟩
  have ok := I.ok
  have hfr : X.A.frames = some (X.env :: X.outer) := by rw [ok.frames, hs]
  have hloc : Loc X.env.scope n := .inl hln
  refine wpAny_Try_except ?_
  refine wpAny_mono ((hb (wAs3 X.K [c1, c2, c3] i ts Wout D) (X.pn ++ pins) (fun e s₁ => wpAny (model X.prog X.w) X.A (noteFrame e X.env) (fun _ s₂ => wpAny (model X.prog X.w) X.A (setFlight e none) (fun _ s₃ =>
    wpAny (model X.prog X.w) X.A (handleBy e X.env [.ExceptHandler (some (.Tuple [.Name x1 np1, .Name x2 np2, .Name x3 np3] kk tpos)) (some n) (b₀ :: suite) pos']) (SP X pins D) X.xe s₃) X.xe s₂) X.xe s₁) (fun u s' xx => ?_) PassesOwn.looking).run [] s σ H D (I.toTry _) h) (fun f s1 hsp => ?_) (fun e s1 he => he)
  · -- the catch
    obtain ⟨a, B, sI, pins', σ', H', cls, d, rfl, J', nb, up, sky, na, os, ag, b, hb1, hyes, hno⟩ := xx
    have J : Inv X pins σ' H' sI := J'.ofTry ok
    have sky' : Sky B (X.env :: X.outer) a (L2N.Zn cls d) X.env.locals s'.heap := by rw [← hs]; exact sky
    show wpAny (model X.prog X.w) X.A (noteFrame (.ref a) X.env) _ _ _
    refine L2N.Sky.land L2N.Zn.steady hfr hf sky' fun h3 fl3 up3 => ?_
    have J3 : Inv X pins σ' H' { s' with heap := h3 } := J.landed nb fl3.1 (up.trans up3) os ag
    obtain ⟨oe3, vs3, he3, hz3, hd3⟩ := fl3.there
    have notFr : ∀ {h : Heap} {o : Obj} {vs : Array Value}, h.FunFrames B (X.env :: X.outer) → h.get? a = some o → o.data = .fields vs → a ∉ frs (X.env :: X.outer) := fun {h o vs} ff e dd hm => by
      obtain ⟨_, o', e', hnf⟩ := ff.mem hm
      rw [e] at e'; cases e'
      exact hnf _ dd
    have nfr := notFr fl3.2.2.1 he3 hd3
    have nL : a ≠ X.env.locals := fun z => nfr (List.mem_filterMap.mpr ⟨X.env, List.mem_cons_self, by rw [hf, z]⟩)
    have nF : a ∉ X.fs := fun hm => by
      obtain ⟨e, he, q⟩ := List.mem_filterMap.mp hm
      exact nfr (List.mem_filterMap.mpr ⟨e, List.mem_cons_of_mem _ he, q⟩)
    have S3 := J3.suite he3 hd3 na nL nF
    refine wpAny_handleBy_cons (codeAny_handlers_test ?_) (by intro q; cases q)
    have test : ∀ {x : Str} {c : Value} {np : Pos} {Q : Value → Shared → Prop} {E : Value → Shared → Prop}, Names X x c → Q c { s' with heap := h3 } → wpAny (model X.prog X.w) (X.A.mark (some (.ref a))) (eval (.Name x np) X.env) Q E { s' with heap := h3 } := fun {x c np Q E} hc q => by
      obtain ⟨hg, hdbg, hm | ⟨hm, hv, hnn⟩⟩ := hc
      · exact ld_glob (X := X.suite a ((a, oe3) :: (X.pn ++ pins))) S3 hg hm q hdbg
      · exact ld_blt (X := X.suite a ((a, oe3) :: (X.pn ++ pins))) S3 hg hm hv q hnn hdbg
    refine wpAny_Tuple ?_
    refine wpAny_items_cons (test hc1 ?_)
    refine wpAny_items_cons (test hc2 ?_)
    refine wpAny_items_cons (test hc3 ?_)
    refine wpAny_items_nil ⟨by size_fits, ?_⟩
    have kp : ∀ q o, h3.get? q = some o → (h3.push { cls := .type "tuple", data := .seq [c1, c2, c3].toArray }).get? q = some o := fun _ _ z => Heap.get?_push_of_some _ z
    have LT : PySem.W.Looks (model X.prog X.w) (h3.push { cls := .type "tuple", data := .seq [c1, c2, c3].toArray }) (typeOf (.ref a)) cls := fun A Q E s k q => wpAny_typeOf_ref (k _ _ (kp _ _ he3)) (by rw [hz3.1]; exact q)
    have LM := PySem.W.exm_tup3 (M := model X.prog X.w) (J3.kIn.keeps kp) LT (Heap.get?_push_size h3 rfl) hb1
    have fl5 := flying_keepsZ fl3 kp
    have up5 : h3.UpToSlots (h3.push { cls := .type "tuple", data := .seq [c1, c2, c3].toArray }) := Heap.UpToSlots.of_keeps kp
    refine LM.here (s := { s' with heap := h3.push { cls := .type "tuple", data := .seq [c1, c2, c3].toArray } }) ?_
    cases b with
    | true =>
      refine codeAny_handlers_suite_as ?_
      refine HandSPX.lands_againZ fl5 fun h4 fl4 up4 => ?_
      have J4 : Inv X pins σ' H' { s' with heap := h4 } := J.landed nb fl4.1 (((up.trans up3).trans up5).trans up4) os ag
      obtain ⟨oe4, vs4, he4, hz4, hd4⟩ := fl4.there
      have S4 := J4.suite he4 hd4 na nL nF
      refine store_ok (X := X.suite a ((a, oe4) :: (X.pn ++ pins))) (v := .ref a) S4 hN hi hloc rfl (fun s5 S5 => ?_) (.inr hln)
      refine wpAny_mono ((hsu a oe4 cls d (X.pn ++ pins) hz4 ⟨_, hd4⟩).run [] s5 _ H' _ S5 (hyes rfl a na)) (fun f s6 hsp => ?_) (fun _ _ z => False.elim z)
      have end_ : ∀ {σ6 : St} {H6 : Hp} {Q : Shared → Prop}, Inv (X.suite a ((a, oe4) :: (X.pn ++ pins))) [] σ6 H6 s6 → (∀ s7, Inv X pins (σ6.set i none) H6 s7 → Q s7) →
          wpAny (model X.prog X.w) X.A (do bindName X.env n .none; unbindBehindTheSuite X.env n pos') (fun _ s7 => Q s7) X.xe s6 := fun {σ6 H6 Q} S6 hq => gone_ok (S6.unsuite ok) hN hi hln hq
      cases f with
      | next =>
        obtain ⟨σ6, H6, S6, q6⟩ := hsp
        exact end_ S6 fun s7 J7 => ⟨_, _, J7, q6⟩
      | brk =>
        obtain ⟨σ6, H6, S6, q6⟩ := hsp
        exact end_ S6 fun s7 J7 => ⟨_, _, J7, q6⟩
      | cont =>
        obtain ⟨σ6, H6, S6, q6⟩ := hsp
        exact end_ S6 fun s7 J7 => ⟨_, _, J7, q6⟩
      | ret u =>
        obtain ⟨v6, σ6, H6, S6, r6, q6⟩ := hsp
        exact end_ S6 fun s7 J7 => ⟨_, _, _, J7, r6, q6⟩
    | false =>
      show wpAny _ X.A (handleBy (.ref a) X.env []) _ _ _
      refine wpAny_handleBy_nil ?_
      obtain ⟨k1, k2, k3, oe, vs, T, oT, ts', he, hz, hd, h1, hr⟩ := id fl5
      unfold PySem.passOn
      refine wpAny_bind (wpAny_field he hd h1 ?_)
      rw [if_neg (show ¬ ((Value.ref T == Value.none) = true) from by simp)]
      have fin : wpAny (model X.prog X.w) X.A (setFlight (.ref a) X.env.frame) (fun _ s4 => wpAny (model X.prog X.w) X.A (throw (.ref a) : Sem Flow) (SP X pins D) X.xe s4) X.xe { s' with heap := h3.push { cls := .type "tuple", data := .seq [c1, c2, c3].toArray } } := by
        rw [hf]
        refine HandSPX.setFlight_upZ fl5 fun h4 hh4 up4 => wpAny_throw (tk _ _ ?_)
        exact ⟨a, B, sI, pins, σ', H', cls, d, rfl, J, nb, ((up.trans up3).trans up5).trans up4, .inr (.inr (by rw [hs]; exact hh4)), na, os, ag, hno rfl⟩
      first
        | exact wpAny_bind (wpAny_pure (wpAny_bind fin))
        | exact wpAny_bind fin
  · cases f with
    | next =>
      obtain ⟨σ', H', J', q⟩ := hsp
      exact wpAny_execs_nil ⟨σ', H', J'.ofTry ok, q⟩
    | brk =>
      obtain ⟨σ', H', J', q⟩ := hsp
      exact ⟨σ', H', J'.ofTry ok, q⟩
    | cont =>
      obtain ⟨σ', H', J', q⟩ := hsp
      exact ⟨σ', H', J'.ofTry ok, q⟩
    | ret u =>
      obtain ⟨v, σ', H', J', r, q⟩ := hsp
      exact ⟨v, σ', H', J'.ofTry ok, r, q⟩
end
end SK
set_option maxHeartbeats 4000000
/-! SkF: the facts of the top that the walks use. Printed by gen_facts.py. -/
namespace SK
open PySem PySem.Spec PyProof.Rows L2
structure Tx (K : PySem.W.Frag) (mg : Str → Option Value) : Prop where
  g_wall : mg "_wall" = some (.ref 21)
  gWrongValue : mg "WrongValue" = some (.ref 31)
  gInvalidText : mg "InvalidText" = some (.ref 51)
  gInvalidName : mg "InvalidName" = some (.ref 70)
  gInvalidKind : mg "InvalidKind" = some (.ref 89)
  gInvalidMove : mg "InvalidMove" = some (.ref 108)
  gInvalidNumber : mg "InvalidNumber" = some (.ref 127)
  gInvalidWish : mg "InvalidWish" = some (.ref 146)
  gInvalidIndex : mg "InvalidIndex" = some (.ref 165)
  gNotYard : mg "NotYard" = some (.ref 184)
  gInvalidKinds : mg "InvalidKinds" = some (.ref 203)
  gInvalidRows : mg "InvalidRows" = some (.ref 222)
  gInvalidPlan : mg "InvalidPlan" = some (.ref 241)
  gInvalidChanges : mg "InvalidChanges" = some (.ref 260)
  gWrongName : mg "WrongName" = some (.ref 272)
  gUnknownName : mg "UnknownName" = some (.ref 292)
  gInUse : mg "InUse" = some (.ref 311)
  gNotPossible : mg "NotPossible" = some (.ref 323)
  gUnbalanced : mg "Unbalanced" = some (.ref 343)
  gNotThere : mg "NotThere" = some (.ref 362)
  gOtherKinds : mg "OtherKinds" = some (.ref 381)
  gTooGreat : mg "TooGreat" = some (.ref 400)
  gNothingToUndo : mg "NothingToUndo" = some (.ref 412)
  gBroken : mg "Broken" = some (.ref 431)
  gis_integer : mg "is_integer" = some (.ref 440)
  gis_count : mg "is_count" = some (.ref 447)
  gis_name : mg "is_name" = some (.ref 452)
  gcheck_kinds : mg "check_kinds" = some (.ref 464)
  gis_row : mg "is_row" = some (.ref 469)
  gcheck_rows : mg "check_rows" = some (.ref 476)
  glopsided : mg "lopsided" = some (.ref 481)
  gYard : mg "Yard" = some (.ref 657)
  grow_lines : mg "row_lines" = some (.ref 666)
  gcheck_yard : mg "check_yard" = some (.ref 688)
  gorders_of : mg "orders_of" = some (.ref 714)
  gforward_of : mg "forward_of" = some (.ref 719)
  gswaps_of : mg "swaps_of" = some (.ref 724)
  gWORDS : mg "WORDS" = some (.ref 929)
  gis_wish : mg "is_wish" = some (.ref 936)
  gkeeps : mg "keeps" = some (.ref 941)
  gShape : mg "Shape" = some (.ref 958)
  gBegun : mg "Begun" = some (.ref 979)
  gVenture : mg "Venture" = some (.ref 1014)
  gcheck_kept : mg "check_kept" = some (.ref 1025)
  gLibrary : mg "Library" = some (.ref 1155)
  g_law_begun : mg "_law_begun" = some (.ref 1166)
  g_law_cast : mg "_law_cast" = some (.ref 1173)
  g_law_any_of : mg "_law_any_of" = some (.ref 1180)
  g_law_shown : mg "_law_shown" = some (.ref 1187)
  g_law_class : mg "_law_class" = some (.ref 1192)
  g_law_end : mg "_law_end" = some (.ref 1199)
  g_law_put : mg "_law_put" = some (.ref 1206)
  g_law_shelf_view : mg "_law_shelf_view" = some (.ref 1211)
  g_law_deeds : mg "_law_deeds" = some (.ref 1218)
  g_law_done : mg "_law_done" = some (.ref 1225)
  g_law_ending : mg "_law_ending" = some (.ref 1232)
  g_law_went : mg "_law_went" = some (.ref 1239)
  g_law_end_due : mg "_law_end_due" = some (.ref 1246)
  g_law_inner : mg "_law_inner" = some (.ref 1253)
  g_law_action : mg "_law_action" = some (.ref 1260)
  g_law_twin : mg "_law_twin" = some (.ref 1267)
  g_law_lot_due : mg "_law_lot_due" = some (.ref 1274)
  g_law_wanted : mg "_law_wanted" = some (.ref 1281)
  g_law_right : mg "_law_right" = some (.ref 1288)
  bisinstance : mg "isinstance" = none
  bint : mg "int" = none
  bbool : mg "bool" = none
  bstr : mg "str" = none
  blen : mg "len" = none
  ball : mg "all" = none
  benumerate : mg "enumerate" = none
  btuple : mg "tuple" = none
  bsum : mg "sum" = none
  brange : mg "range" = none
  bmax : mg "max" = none
  bmin : mg "min" = none
  bzip : mg "zip" = none
  brepr : mg "repr" = none
  bsorted : mg "sorted" = none
  babs : mg "abs" = none
  bdivmod : mg "divmod" = none
  bKeyError : mg "KeyError" = none
  bZeroDivisionError : mg "ZeroDivisionError" = none
  cMOST_KINDS : ∃ t, mg "MOST_KINDS" = some (.int 4 t)
  cMOST_COUNT : ∃ t, mg "MOST_COUNT" = some (.int 1000000000000000000000000000000 t)
  cDIGITS : ∃ t, mg "DIGITS" = some (.str "0123456789" t)
  cLETTERS : ∃ t, mg "LETTERS" = some (.str "abcdefghijklmnopqrstuvwxyz" t)
  fis_integer : ∃ fd, FunD K "is_integer" "is_integer" (defArgs (top 30)) (defBody (top 30)) (defScope (top 30)) [] [] 440 fd
  fis_count : ∃ fd, FunD K "is_count" "is_count" (defArgs (top 31)) (defBody (top 31)) (defScope (top 31)) [] [] 447 fd
  fis_name : ∃ fd, FunD K "is_name" "is_name" (defArgs (top 32)) (defBody (top 32)) (defScope (top 32)) [] [] 452 fd
  fcheck_kinds : ∃ fd, FunD K "check_kinds" "check_kinds" (defArgs (top 35)) (defBody (top 35)) (defScope (top 35)) [] [] 464 fd
  fis_row : ∃ fd, FunD K "is_row" "is_row" (defArgs (top 36)) (defBody (top 36)) (defScope (top 36)) [] [] 469 fd
  fcheck_rows : ∃ fd, FunD K "check_rows" "check_rows" (defArgs (top 37)) (defBody (top 37)) (defScope (top 37)) [] [] 476 fd
  flopsided : ∃ fd, FunD K "lopsided" "lopsided" (defArgs (top 38)) (defBody (top 38)) (defScope (top 38)) [] [] 481 fd
  frow_lines : ∃ fd, FunD K "row_lines" "row_lines" (defArgs (top 50)) (defBody (top 50)) (defScope (top 50)) [] [] 666 fd
  fcheck_yard : ∃ fd, FunD K "check_yard" "check_yard" (defArgs (top 54)) (defBody (top 54)) (defScope (top 54)) [] [] 688 fd
  forders_of : ∃ fd, FunD K "orders_of" "orders_of" (defArgs (top 59)) (defBody (top 59)) (defScope (top 59)) [] [] 714 fd
  fforward_of : ∃ fd, FunD K "forward_of" "forward_of" (defArgs (top 60)) (defBody (top 60)) (defScope (top 60)) [] [] 719 fd
  fswaps_of : ∃ fd, FunD K "swaps_of" "swaps_of" (defArgs (top 61)) (defBody (top 61)) (defScope (top 61)) [] [] 724 fd
  fis_wish : ∃ fd, FunD K "is_wish" "is_wish" (defArgs (top 81)) (defBody (top 81)) (defScope (top 81)) [] [] 936 fd
  fkeeps : ∃ fd, FunD K "keeps" "keeps" (defArgs (top 82)) (defBody (top 82)) (defScope (top 82)) [] [] 941 fd
  fcheck_kept : ∃ fd, FunD K "check_kept" "check_kept" (defArgs (top 87)) (defBody (top 87)) (defScope (top 87)) [] [] 1025 fd
  f_law_begun : ∃ fd, FunD K "_law_begun" "_law_begun" (defArgs (top 90)) (defBody (top 90)) (defScope (top 90)) [] [] 1166 fd
  f_law_cast : ∃ fd, FunD K "_law_cast" "_law_cast" (defArgs (top 91)) (defBody (top 91)) (defScope (top 91)) [] [] 1173 fd
  f_law_any_of : ∃ fd, FunD K "_law_any_of" "_law_any_of" (defArgs (top 92)) (defBody (top 92)) (defScope (top 92)) [] [] 1180 fd
  f_law_shown : ∃ fd, FunD K "_law_shown" "_law_shown" (defArgs (top 93)) (defBody (top 93)) (defScope (top 93)) [] [] 1187 fd
  f_law_class : ∃ fd, FunD K "_law_class" "_law_class" (defArgs (top 94)) (defBody (top 94)) (defScope (top 94)) [] [] 1192 fd
  f_law_end : ∃ fd, FunD K "_law_end" "_law_end" (defArgs (top 95)) (defBody (top 95)) (defScope (top 95)) [] [] 1199 fd
  f_law_put : ∃ fd, FunD K "_law_put" "_law_put" (defArgs (top 96)) (defBody (top 96)) (defScope (top 96)) [] [] 1206 fd
  f_law_shelf_view : ∃ fd, FunD K "_law_shelf_view" "_law_shelf_view" (defArgs (top 97)) (defBody (top 97)) (defScope (top 97)) [] [] 1211 fd
  f_law_deeds : ∃ fd, FunD K "_law_deeds" "_law_deeds" (defArgs (top 98)) (defBody (top 98)) (defScope (top 98)) [] [] 1218 fd
  f_law_done : ∃ fd, FunD K "_law_done" "_law_done" (defArgs (top 99)) (defBody (top 99)) (defScope (top 99)) [] [] 1225 fd
  f_law_ending : ∃ fd, FunD K "_law_ending" "_law_ending" (defArgs (top 100)) (defBody (top 100)) (defScope (top 100)) [] [] 1232 fd
  f_law_went : ∃ fd, FunD K "_law_went" "_law_went" (defArgs (top 101)) (defBody (top 101)) (defScope (top 101)) [] [] 1239 fd
  f_law_end_due : ∃ fd, FunD K "_law_end_due" "_law_end_due" (defArgs (top 102)) (defBody (top 102)) (defScope (top 102)) [] [] 1246 fd
  f_law_inner : ∃ fd, FunD K "_law_inner" "_law_inner" (defArgs (top 103)) (defBody (top 103)) (defScope (top 103)) [] [] 1253 fd
  f_law_action : ∃ fd, FunD K "_law_action" "_law_action" (defArgs (top 104)) (defBody (top 104)) (defScope (top 104)) [] [] 1260 fd
  f_law_twin : ∃ fd, FunD K "_law_twin" "_law_twin" (defArgs (top 105)) (defBody (top 105)) (defScope (top 105)) [] [] 1267 fd
  f_law_lot_due : ∃ fd, FunD K "_law_lot_due" "_law_lot_due" (defArgs (top 106)) (defBody (top 106)) (defScope (top 106)) [] [] 1274 fd
  f_law_wanted : ∃ fd, FunD K "_law_wanted" "_law_wanted" (defArgs (top 107)) (defBody (top 107)) (defScope (top 107)) [] [] 1281 fd
  f_law_right : ∃ fd, FunD K "_law_right" "_law_right" (defArgs (top 108)) (defBody (top 108)) (defScope (top 108)) [] [] 1288 fd
  fYard__init__ : ∃ fd, FunD K "__init__" "Yard.__init__" (defArgs (inClass (top 49) 1)) (defBody (inClass (top 49) 1)) (defScope (inClass (top 49) 1)) [] [] 556 fd
  fYardrows : ∃ fd, FunD K "rows" "Yard.rows" (defArgs (inClass (top 49) 4)) (defBody (inClass (top 49) 4)) (defScope (inClass (top 49) 4)) [] [] 581 fd
  fYard__str__ : ∃ fd, FunD K "__str__" "Yard.__str__" (defArgs (inClass (top 49) 14)) (defBody (inClass (top 49) 14)) (defScope (inClass (top 49) 14)) [] [] 646 fd
  fShape__init__ : ∃ fd, FunD K "__init__" "Shape.__init__" (defArgs (inClass (top 84) 0)) (defBody (inClass (top 84) 0)) (defScope (inClass (top 84) 0)) [] [] 955 fd
  fBegun__init__ : ∃ fd, FunD K "__init__" "Begun.__init__" (defArgs (inClass (top 85) 0)) (defBody (inClass (top 85) 0)) (defScope (inClass (top 85) 0)) [] [] 976 fd
  fVenture__init__ : ∃ fd, FunD K "__init__" "Venture.__init__" (defArgs (inClass (top 86) 0)) (defBody (inClass (top 86) 0)) (defScope (inClass (top 86) 0)) [] [] 997 fd
  fVenture__enter__ : ∃ fd, FunD K "__enter__" "Venture.__enter__" (defArgs (inClass (top 86) 1)) (defBody (inClass (top 86) 1)) (defScope (inClass (top 86) 1)) [] [] 1004 fd
  fVenture__exit__ : ∃ fd, FunD K "__exit__" "Venture.__exit__" (defArgs (inClass (top 86) 2)) (defBody (inClass (top 86) 2)) (defScope (inClass (top 86) 2)) [] [] 1011 fd
  fLibrary__init__ : ∃ fd, FunD K "__init__" "Library.__init__" (defArgs (inClass (top 88) 0)) (defBody (inClass (top 88) 0)) (defScope (inClass (top 88) 0)) [] [] 1039 fd
  fLibrarynames : ∃ fd, FunD K "names" "Library.names" (defArgs (inClass (top 88) 1)) (defBody (inClass (top 88) 1)) (defScope (inClass (top 88) 1)) [] [] 1046 fd
  fLibrarywishes : ∃ fd, FunD K "wishes" "Library.wishes" (defArgs (inClass (top 88) 2)) (defBody (inClass (top 88) 2)) (defScope (inClass (top 88) 2)) [] [] 1054 fd
  fLibrarychanges : ∃ fd, FunD K "changes" "Library.changes" (defArgs (inClass (top 88) 3)) (defBody (inClass (top 88) 3)) (defScope (inClass (top 88) 3)) [] [] 1062 fd
  fLibrarybecome : ∃ fd, FunD K "become" "Library.become" (defArgs (inClass (top 88) 4)) (defBody (inClass (top 88) 4)) (defScope (inClass (top 88) 4)) [] [] 1070 fd
  fLibraryremove : ∃ fd, FunD K "remove" "Library.remove" (defArgs (inClass (top 88) 5)) (defBody (inClass (top 88) 5)) (defScope (inClass (top 88) 5)) [] [] 1075 fd
  fLibrarywish : ∃ fd, FunD K "wish" "Library.wish" (defArgs (inClass (top 88) 6)) (defBody (inClass (top 88) 6)) (defScope (inClass (top 88) 6)) [] [] 1082 fd
  fLibrarylift : ∃ fd, FunD K "lift" "Library.lift" (defArgs (inClass (top 88) 7)) (defBody (inClass (top 88) 7)) (defScope (inClass (top 88) 7)) [] [] 1089 fd
  fLibraryundo : ∃ fd, FunD K "undo" "Library.undo" (defArgs (inClass (top 88) 8)) (defBody (inClass (top 88) 8)) (defScope (inClass (top 88) 8)) [] [] 1096 fd
  fLibrarytrial : ∃ fd, FunD K "trial" "Library.trial" (defArgs (inClass (top 88) 9)) (defBody (inClass (top 88) 9)) (defScope (inClass (top 88) 9)) [] [] 1103 fd
  fLibrarytried : ∃ fd, FunD K "tried" "Library.tried" (defArgs (inClass (top 88) 10)) (defBody (inClass (top 88) 10)) (defScope (inClass (top 88) 10)) [] [] 1110 fd
  fLibrary__getitem__ : ∃ fd, FunD K "__getitem__" "Library.__getitem__" (defArgs (inClass (top 88) 11)) (defBody (inClass (top 88) 11)) (defScope (inClass (top 88) 11)) [] [] 1117 fd
  fLibrary__setitem__ : ∃ fd, FunD K "__setitem__" "Library.__setitem__" (defArgs (inClass (top 88) 12)) (defBody (inClass (top 88) 12)) (defScope (inClass (top 88) 12)) [] [] 1124 fd
  fLibrary__contains__ : ∃ fd, FunD K "__contains__" "Library.__contains__" (defArgs (inClass (top 88) 13)) (defBody (inClass (top 88) 13)) (defScope (inClass (top 88) 13)) [] [] 1131 fd
  fLibrary__len__ : ∃ fd, FunD K "__len__" "Library.__len__" (defArgs (inClass (top 88) 15)) (defBody (inClass (top 88) 15)) (defScope (inClass (top 88) 15)) [] [] 1145 fd
  fLibrary__bool__ : ∃ fd, FunD K "__bool__" "Library.__bool__" (defArgs (inClass (top 88) 16)) (defBody (inClass (top 88) 16)) (defScope (inClass (top 88) 16)) [] [] 1152 fd
  fUnknownName__init__ : ∃ fd, FunD K "__init__" "UnknownName.__init__" (defArgs (inClass (top 16) 0)) (defBody (inClass (top 16) 0)) (defScope (inClass (top 16) 0)) [] [] 289 fd
  fInUse__init__ : ∃ fd, FunD K "__init__" "InUse.__init__" (defArgs (inClass (top 17) 0)) (defBody (inClass (top 17) 0)) (defScope (inClass (top 17) 0)) [] [] 308 fd
  fInvalidIndex__init__ : ∃ fd, FunD K "__init__" "InvalidIndex.__init__" (defArgs (inClass (top 9) 0)) (defBody (inClass (top 9) 0)) (defScope (inClass (top 9) 0)) [] [] 162 fd
  fBroken__init__ : ∃ fd, FunD K "__init__" "Broken.__init__" (defArgs (inClass (top 24) 0)) (defBody (inClass (top 24) 0)) (defScope (inClass (top 24) 0)) [] [] 428 fd
  fTooGreat__init__ : ∃ fd, FunD K "__init__" "TooGreat.__init__" (defArgs (inClass (top 22) 0)) (defBody (inClass (top 22) 0)) (defScope (inClass (top 22) 0)) [] [] 397 fd
  clShape : Cls K 958
  clBegun : Cls K 979
  clVenture : Cls K 1014
  clLibrary : Cls K 1155
  mkYard : Mk K 657 556
  mkShape : Mk K 958 955
  mkBegun : Mk K 979 976
  mkVenture : Mk K 1014 997
  mkLibrary : Mk K 1155 1039
  nShapeyards : NoAttr K 958 "yards"
  nShapepairs : NoAttr K 958 "pairs"
  nShapeahead : NoAttr K 958 "ahead"
  nShapemany : NoAttr K 958 "many"
  nBegunshape : NoAttr K 979 "shape"
  nBegunouter : NoAttr K 979 "outer"
  nVenturelibrary : NoAttr K 1014 "library"
  nVenturebegun : NoAttr K 1014 "begun"
  nLibraryshape : NoAttr K 1155 "shape"
  sYard__str__ : SK.Spec K 657 "__str__" 646
  sVenture__enter__ : SK.Spec K 1014 "__enter__" 1004
  sVenture__exit__ : SK.Spec K 1014 "__exit__" 1011
  mbecome : Meth K 1155 "become" 1070
  mremove : Meth K 1155 "remove" 1075
  mwish : Meth K 1155 "wish" 1082
  mlift : Meth K 1155 "lift" 1089
  mundo : Meth K 1155 "undo" 1096
  mtrial : Meth K 1155 "trial" 1103
  mtried : Meth K 1155 "tried" 1110
  sLibrary__getitem__ : SK.Spec K 1155 "__getitem__" 1117
  sLibrary__setitem__ : SK.Spec K 1155 "__setitem__" 1124
  sLibrary__contains__ : SK.Spec K 1155 "__contains__" 1131
  sLibrary__len__ : SK.Spec K 1155 "__len__" 1145
  sLibrary__bool__ : SK.Spec K 1155 "__bool__" 1152
  nsLib : PySem.W.noSeq K 1155 = true
  fnGet : PySem.W.fnIn K 1117 = true
  pnames : PropOf K 1155 "names" 1047 1046
  pwishes : PropOf K 1155 "wishes" 1055 1054
  pchanges : PropOf K 1155 "changes" 1063 1062
  prows : PropOf K 657 "rows" 582 581
  scYard : SlX.SCls K 657
  slBody : SlX.Slot1 K 657 "body" 658 0
  slShape : SlX.Slot1 K 657 "shape" 659 1
  siYard : SlX.SIsi K 657
  eUnknownName : SK.OexG K 292
  xUnknownName : PySem.W.findIn K (.ref 292) "given" = some none
  iUnknownName : PySem.W.findIn K (.ref 292) "__init__" = some (some (.ref 289))
  tUnknownName : PySem.W.typeIn K (.ref 289) = some (.type "function")
  xfUnknownName : XfC K 292
  eInUse : SK.OexG K 311
  xInUse : PySem.W.findIn K (.ref 311) "index" = some none
  iInUse : PySem.W.findIn K (.ref 311) "__init__" = some (some (.ref 308))
  tInUse : PySem.W.typeIn K (.ref 308) = some (.type "function")
  xfInUse : XfC K 311
  eInvalidIndex : SK.OexG K 165
  xInvalidIndex : PySem.W.findIn K (.ref 165) "given" = some none
  iInvalidIndex : PySem.W.findIn K (.ref 165) "__init__" = some (some (.ref 162))
  tInvalidIndex : PySem.W.typeIn K (.ref 162) = some (.type "function")
  xfInvalidIndex : XfC K 165
  eBroken : SK.OexG K 431
  xBroken : PySem.W.findIn K (.ref 431) "index" = some none
  iBroken : PySem.W.findIn K (.ref 431) "__init__" = some (some (.ref 428))
  tBroken : PySem.W.typeIn K (.ref 428) = some (.type "function")
  xfBroken : XfC K 431
  eTooGreat : SK.OexG K 400
  xTooGreat : PySem.W.findIn K (.ref 400) "given" = some none
  iTooGreat : PySem.W.findIn K (.ref 400) "__init__" = some (some (.ref 397))
  tTooGreat : PySem.W.typeIn K (.ref 397) = some (.type "function")
  xfTooGreat : XfC K 400
  ecUnknownName : ExcC K 292
  ecInUse : ExcC K 311
  ecInvalidIndex : ExcC K 165
  ecBroken : ExcC K 431
  ecTooGreat : ExcC K 400
  ecNothingToUndo : ExcC K 412
  nuExc : PySem.W.excIn K 412 [.type "ArithmeticError", .type "Exception", .type "BaseException", .type "object"] "ArithmeticError.__new__" = true
  nuHd : PySem.W.hasDictIn K 412 = true
  nuTy : PySem.W.typeIn K (.ref 412) = some (.type "type")
  nuEx : PySem.W.subIn K (.ref 412) (.type "BaseException") = some true
  nuSub : PySem.W.subIn K (.ref 412) (.ref 412) = some true
  amUnknownName : PySem.W.exmAny K (.ref 292) [.ref 31, .ref 272, .ref 323] = some true
  amInUse : PySem.W.exmAny K (.ref 311) [.ref 31, .ref 272, .ref 323] = some true
  amInvalidIndex : PySem.W.exmAny K (.ref 165) [.ref 31, .ref 272, .ref 323] = some true
  amBroken : PySem.W.exmAny K (.ref 431) [.ref 31, .ref 272, .ref 323] = some true
  amTooGreat : PySem.W.exmAny K (.ref 400) [.ref 31, .ref 272, .ref 323] = some true
  amNothingToUndo : PySem.W.exmAny K (.ref 412) [.ref 31, .ref 272, .ref 323] = some true
  amKeyError : PySem.W.exmAny K (.type "KeyError") [.ref 31, .ref 272, .ref 323] = some false
  amZeroDivisionError : PySem.W.exmAny K (.type "ZeroDivisionError") [.ref 31, .ref 272, .ref 323] = some false
  isUnknownName : [51, 70, 89, 108, 127, 146, 165, 184, 203, 222, 241, 260, 292, 311, 343, 362, 381, 400, 412, 431, 31, 272, 323].map (fun D => PySem.W.kitOne K (.ref 292) (.ref D)) = [some false, some false, some false, some false, some false, some false, some false, some false, some false, some false, some false, some false, some true, some false, some false, some false, some false, some false, some false, some false, some false, some true, some false]
  isInUse : [51, 70, 89, 108, 127, 146, 165, 184, 203, 222, 241, 260, 292, 311, 343, 362, 381, 400, 412, 431, 31, 272, 323].map (fun D => PySem.W.kitOne K (.ref 311) (.ref D)) = [some false, some false, some false, some false, some false, some false, some false, some false, some false, some false, some false, some false, some false, some true, some false, some false, some false, some false, some false, some false, some false, some true, some false]
  isInvalidIndex : [51, 70, 89, 108, 127, 146, 165, 184, 203, 222, 241, 260, 292, 311, 343, 362, 381, 400, 412, 431, 31, 272, 323].map (fun D => PySem.W.kitOne K (.ref 165) (.ref D)) = [some false, some false, some false, some false, some false, some false, some true, some false, some false, some false, some false, some false, some false, some false, some false, some false, some false, some false, some false, some false, some true, some false, some false]
  isBroken : [51, 70, 89, 108, 127, 146, 165, 184, 203, 222, 241, 260, 292, 311, 343, 362, 381, 400, 412, 431, 31, 272, 323].map (fun D => PySem.W.kitOne K (.ref 431) (.ref D)) = [some false, some false, some false, some false, some false, some false, some false, some false, some false, some false, some false, some false, some false, some false, some false, some false, some false, some false, some false, some true, some false, some false, some true]
  isTooGreat : [51, 70, 89, 108, 127, 146, 165, 184, 203, 222, 241, 260, 292, 311, 343, 362, 381, 400, 412, 431, 31, 272, 323].map (fun D => PySem.W.kitOne K (.ref 400) (.ref D)) = [some false, some false, some false, some false, some false, some false, some false, some false, some false, some false, some false, some false, some false, some false, some false, some false, some false, some true, some false, some false, some false, some false, some true]
  isNothingToUndo : [51, 70, 89, 108, 127, 146, 165, 184, 203, 222, 241, 260, 292, 311, 343, 362, 381, 400, 412, 431, 31, 272, 323].map (fun D => PySem.W.kitOne K (.ref 412) (.ref D)) = [some false, some false, some false, some false, some false, some false, some false, some false, some false, some false, some false, some false, some false, some false, some false, some false, some false, some false, some true, some false, some false, some false, some true]
  isYard : PySem.W.kitOne K (.ref 657) (.ref 657) = some true
  yNone : PySem.W.kitOne K (.type "NoneType") (.ref 657) = some false
  yList : PySem.W.kitOne K (.type "list") (.ref 657) = some false
  yStr : PySem.W.kitOne K (.type "str") (.ref 657) = some false
  yInt : PySem.W.kitOne K (.type "int") (.ref 657) = some false
  kWORDS : ∃ (its : List Value) (n : Nat), K.lookup 929 = some { cls := .type "tuple", data := .seq its.toArray n } ∧ Vals [V.str "swaps", V.str "moves", V.str "rings", V.str "out"] its
end SK
set_option maxHeartbeats 4000000
/-! SkG: what stays, what stands where; the small defs. -/
namespace SK
open PySem PySem.Spec PyProof.Rows L2
/-! ### what stays -/
/-- what is never written once it stands -/
def Imm : HO → Prop
  | .tup _ => True
  | .dK _ => True
  | .ins C _ _ => C ≠ 1155 ∧ C ≠ 1014
  | .ext _ => True
  | .xd _ => True
  | .own _ => True
  | .frz _ _ => True
  | _ => False
/-- all stands still, but the changing things at M -/
def Kp (M : Addr → Prop) (H H' : Hp) : Prop := ∀ b o, H b = some o → ((Imm o ∨ ¬ M b) → H' b = some o) ∧ ∃ o', H' b = some o'
abbrev K0 : Hp → Hp → Prop := Kp fun _ => False
section
variable {M M' : Addr → Prop} {H H1 H2 : Hp} {a b : Addr} {o o' : HO}
theorem Kp.refl (H : Hp) : Kp M H H := fun _ o e => ⟨fun _ => e, o, e⟩
theorem Kp.trans (k : Kp M H H1) (k' : Kp M H1 H2) : Kp M H H2 := fun b o e => ⟨fun h => (k' b o ((k b o e).1 h)).1 h, by
  obtain ⟨o1, e1⟩ := (k b o e).2
  exact (k' b o1 e1).2⟩
theorem Kp.mono (k : Kp M H H1) (h : ∀ b, M b → M' b) : Kp M' H H1 := fun b o e => ⟨fun z => (k b o e).1 (z.elim .inl fun z => .inr fun y => z (h b y)), (k b o e).2⟩
theorem Kp.up (k : K0 H H1) : Kp M H H1 := k.mono fun _ z => z.elim
theorem Kp.new (k : Kp M H H1) (n : H1 a = none) : Kp M H (upd H1 a o) := fun b u e => by
  obtain ⟨h1, u1, e1⟩ := k b u e
  have hb : b ≠ a := ne_of_none e1 n
  exact ⟨fun z => by rw [upd_ne hb]; exact h1 z, u1, by rw [upd_ne hb]; exact e1⟩
theorem kp_new (n : H a = none) : Kp M H (upd H a o) := (Kp.refl H).new n
/-- something that was not there at the start is written -/
theorem Kp.own (k : Kp M H H1) (n : H a = none) : Kp M H (upd H1 a o) := fun b u e => by
  obtain ⟨h1, u1, e1⟩ := k b u e
  have hb : b ≠ a := ne_of_none e n
  exact ⟨fun z => by rw [upd_ne hb]; exact h1 z, u1, by rw [upd_ne hb]; exact e1⟩
/-- something that may change is written -/
theorem Kp.put (k : Kp M H H1) (m : M a) (e0 : H a = some o') (ni : ¬ Imm o') : Kp M H (upd H1 a o) := fun b u e => by
  obtain ⟨h1, u1, e1⟩ := k b u e
  by_cases hb : b = a
  · subst hb
    rw [e0] at e
    cases e
    exact ⟨fun z => (z.elim (fun y => (ni y).elim) fun y => (y m).elim), o, upd_same⟩
  · exact ⟨fun z => by rw [upd_ne hb]; exact h1 z, u1, by rw [upd_ne hb]; exact e1⟩
theorem Kp.none (k : Kp M H H1) (n : H1 a = Option.none) : H a = Option.none := by
  cases e : H a with
  | none => rfl
  | some u =>
    obtain ⟨_, e1⟩ := (k a u e).2
    rw [n] at e1; cases e1
theorem Kp.im (k : Kp M H H1) (e : H a = some o) (i : Imm o) : H1 a = some o := (k a o e).1 (.inl i)
theorem Kp.st (k : Kp M H H1) (e : H a = some o) (i : ¬ M a) : H1 a = some o := (k a o e).1 (.inr i)
theorem Kp.at0 (k : K0 H H1) (e : H a = some o) : H1 a = some o := (k a o e).1 (.inr id)
theorem Kp.tup {xs : List V} (k : Kp M H H1) (e : H a = some (.tup xs)) : H1 a = some (.tup xs) := k.im e trivial
theorem Kp.ext' {φ : Heap → Prop} (k : Kp M H H1) (e : H a = some (.ext φ)) : H1 a = some (.ext φ) := k.im e trivial
end
/-! ### yards -/
def KindsAt (H : Hp) (p : Addr) : Prop := H p = some (.tup [.str "x", .str "y"])
def RowsAt (H : Hp) (p : Addr) (w m : Int) : Prop := ∃ r0 r1, H p = some (.tup [.ref r0, .ref r1]) ∧ H r0 = some (.tup [.int w, .int m]) ∧ H r1 = some (.tup [.int m, .int 0])
def YardAt (H : Hp) (y : Addr) (w m : Int) : Prop := ∃ dx vs ks rs, SlX.Slt H y 657 dx vs ∧ vs[0]? = some (some (V.ref rs)) ∧ vs[1]? = some (some (V.ref ks)) ∧ KindsAt H ks ∧ RowsAt H rs w m
section
variable {M : Addr → Prop} {H H1 : Hp} {p : Addr} {w m : Int}
theorem KindsAt.kp (x : KindsAt H p) (k : Kp M H H1) : KindsAt H1 p := k.tup x
theorem RowsAt.kp (x : RowsAt H p w m) (k : Kp M H H1) : RowsAt H1 p w m := by
  obtain ⟨r0, r1, h1, h2, h3⟩ := x
  exact ⟨r0, r1, k.tup h1, k.tup h2, k.tup h3⟩
theorem slt_kp {dx C : Addr} {vs : List (Option V)} (x : SlX.Slt H p C dx vs) (k : Kp M H H1) (h1 : C ≠ 1155) (h2 : C ≠ 1014) : SlX.Slt H1 p C dx vs := by
  rcases x with ⟨e, q⟩ | ⟨e, q⟩
  · exact .inl ⟨k.im e ⟨h1, h2⟩, q⟩
  · exact .inr ⟨k.im e trivial, k.im q trivial⟩
theorem YardAt.kp (x : YardAt H p w m) (k : Kp M H H1) : YardAt H1 p w m := by
  obtain ⟨dx, vs, ks, rs, h1, h2, h3, h4, h5⟩ := x
  exact ⟨dx, vs, ks, rs, slt_kp h1 k (by decide) (by decide), h2, h3, h4.kp k, h5.kp k⟩
end
/-! ### the ifs of readings -/
theorem ift {c : Bool} {A B : Prop} (hc : c = true) (h : A) : if c = true then A else B := by rw [if_pos hc]; exact h
theorem iff_ {c : Bool} {A B : Prop} (hc : c = false) (h : B) : if c = true then A else B := by rw [hc, if_neg Bool.false_ne_true]; exact h
/-! ### calls of built-ins, by the facts -/
theorem bt_isinstance : bootBuiltins "isinstance" = some (.builtin "isinstance") := by decide +kernel
theorem bt_int : bootBuiltins "int" = some (.type "int") := by decide +kernel
theorem bt_bool : bootBuiltins "bool" = some (.type "bool") := by decide +kernel
theorem bt_str : bootBuiltins "str" = some (.type "str") := by decide +kernel
theorem bt_tuple : bootBuiltins "tuple" = some (.type "tuple") := by decide +kernel
theorem bt_all : bootBuiltins "all" = some (.builtin "all") := by decide +kernel
theorem bt_sum : bootBuiltins "sum" = some (.builtin "sum") := by decide +kernel
theorem bt_max : bootBuiltins "max" = some (.builtin "max") := by decide +kernel
theorem bt_min : bootBuiltins "min" = some (.builtin "min") := by decide +kernel
theorem bt_repr : bootBuiltins "repr" = some (.builtin "repr") := by decide +kernel
theorem bt_sorted : bootBuiltins "sorted" = some (.builtin "sorted") := by decide +kernel
theorem bt_abs : bootBuiltins "abs" = some (.builtin "abs") := by decide +kernel
theorem bt_divmod : bootBuiltins "divmod" = some (.builtin "divmod") := by decide +kernel
section
variable {X : Cx} {e : Expr} {es : List Expr} {t : TA} {p pos : Pos}
theorem c_isi (T : Tx X.K X.mg) (ha : PA X (e :: es) t) (hg : Gl X "isinstance" := by rfl)
    (he : starEach (e :: es) X.env = (false, eval e X.env) :: starEach es X.env := by rfl) (hpl : (backTo pos (starEach es X.env)).any (·.1) = false := by rfl) : PE X (.Call (.Name "isinstance" p) (e :: es) [] pos) (tCB (rIsi X.K) t) :=
  pe_callB call_isi hg T.bisinstance bt_isinstance ha (by decide) (by decide) he hpl
theorem n_int (T : Tx X.K X.mg) (hg : Gl X "int" := by rfl) : PE X (.Name "int" pos) (tC (.ty "int")) := pe_bltn hg T.bint bt_int rfl
theorem n_bool (T : Tx X.K X.mg) (hg : Gl X "bool" := by rfl) : PE X (.Name "bool" pos) (tC (.ty "bool")) := pe_bltn hg T.bbool bt_bool rfl
theorem n_str (T : Tx X.K X.mg) (hg : Gl X "str" := by rfl) : PE X (.Name "str" pos) (tC (.ty "str")) := pe_bltn hg T.bstr bt_str rfl
theorem n_tuple (T : Tx X.K X.mg) (hg : Gl X "tuple" := by rfl) : PE X (.Name "tuple" pos) (tC (.ty "tuple")) := pe_bltn hg T.btuple bt_tuple rfl
end
theorem is_ii {K : PySem.W.Frag} : PySem.W.kitOne K (.type "int") (.type "int") = some true := kit_ty (by decide +kernel)
theorem is_ib {K : PySem.W.Frag} : PySem.W.kitOne K (.type "int") (.type "bool") = some false := kit_ty (by decide +kernel)
theorem is_ss {K : PySem.W.Frag} : PySem.W.kitOne K (.type "str") (.type "str") = some true := kit_ty (by decide +kernel)
theorem is_tt {K : PySem.W.Frag} : PySem.W.kitOne K (.type "tuple") (.type "tuple") = some true := kit_ty (by decide +kernel)
section
variable {P : Program} {w : World} {K : PySem.W.Frag} {mg : Str → Option Value} {base : Heap}
/-! ### is_integer, is_count -/
def spIsInt : Sp := fun vs H Q _ => ∃ i, vs = [.int i] ∧ Q (.bl true) H
def spIsCount : Sp := fun vs H Q _ => ∃ i, vs = [.int i] ∧ Q (.bl (decide (0 ≤ i))) H
theorem sc30 : FnScope ["value"] ["value"] (defScope (top 30)) := ⟨rfl, rfl, rfl, by decide +kernel, rfl, by decide +kernel, by decide +kernel⟩
theorem k_is_integer (T : Tx K mg) : FnG P w K mg base (L2N.CX P w) 1 440 spIsInt := by
  obtain ⟨fd, F⟩ := T.fis_integer
  refine fng_of F sc30 (F.bindsN fun _ _ _ _ _ _ us hl => match us, hl with | [_], _ => rfl) (fun vs H Q E h => ?_) (fun cdv A outer s H vs Q E hr hg h => ⟨_,
    pss_one (ps_ret (pe_and (c_isi T (pa_cons (pv 0) (pa_cons (n_int T) pa_nil))) (pe_one (pe_not (c_isi T (pa_cons (pv 0) (pa_cons (n_bool T) pa_nil))))))), ?_⟩)
  · obtain ⟨i, rfl, _⟩ := h
    rfl
  · obtain ⟨i, rfl, q⟩ := h
    exact ⟨_, rfl, _, _, _, _, _, rfl, .ty "int", .base (.int _), is_ii, true, rfl, ift rfl ⟨_, rfl, _, _, _, _, _, rfl, .ty "bool", .base (.int _), is_ib, false, rfl, q⟩⟩
theorem sc31 : FnScope ["value"] ["value"] (defScope (top 31)) := ⟨rfl, rfl, rfl, by decide +kernel, rfl, by decide +kernel, by decide +kernel⟩
theorem k_is_count (T : Tx K mg) : FnG P w K mg base (L2N.CX P w) 2 447 spIsCount := by
  obtain ⟨fd, F⟩ := T.fis_count
  obtain ⟨fd1, F1⟩ := T.fis_integer
  refine fng_of F sc31 (F.bindsN fun _ _ _ _ _ _ us hl => match us, hl with | [_], _ => rfl) (fun vs H Q E h => ?_) (fun cdv A outer s H vs Q E hr hg h => ⟨_,
    pss_one (ps_ret (pe_and (pe_g (E := EF) (k_is_integer T) hr hg (passF noXN) rfl T.gis_integer F1.kp (pa_cons (pv 0) pa_nil)) (pe_one (pe_cmpR op_ge (pv 0) pe_int (nomark _))))), ?_⟩)
  · obtain ⟨i, rfl, _⟩ := h
    rfl
  · obtain ⟨i, rfl, q⟩ := h
    exact ⟨_, rfl, i, rfl, true, rfl, ift rfl ⟨_, rfl, _, _, rfl, rfl, q⟩⟩
end
end SK
set_option maxHeartbeats 4000000
/-! SkH: enumerate(a tuple), walked. -/
namespace PySem
open Sem (wp)
set_option maxHeartbeats 1000000 in
theorem sk_meets_enum1 {v : Value} {o : Obj} {H : Heap → Prop} (B : Begins v o H) :
    Meets (Builtin.«enumerate.__new__» ⟨[.type "enumerate", v], []⟩) (fun _ R s => H s.heap ∧
      R (.ok (.ret (.ref (s.heap.push o).objs.size))) { s with heap := (s.heap.push o).push { cls := .type "enumerate", data := .fields #[.none, .bool false, .ref s.heap.objs.size, rawInt 0, .none, .none] } }) :=
  .of_wp fun prog w A R s h => by
    obtain ⟨hp, g, d, tk, os⟩ := s; obtain ⟨h1, h⟩ := h
    have hsub := sub_enumerate
    have q1 : ∀ {A' : Around} {E : Value → Shared → Prop} {Q : Value → Shared → Prop}, Q (.ref hp.objs.size) ⟨hp.push o, g, d, tk, os⟩ → wpAny (model prog w) A' (pyIter v) Q E ⟨hp, g, d, tk, os⟩ :=
      fun q => B.iter prog w _ _ ⟨hp, g, d, tk, os⟩ _ h1 q
    wp_walk using q1
    refine wpAny_stack_any fun st => wpAny_pure ?_
    split
    · rename_i c _ _ _ _ _
      cases (c == Value.type "enumerate")
      · wp_walk using q1
        exact ⟨_, rfl, h⟩
      · wp_walk using q1
        exact ⟨_, rfl, h⟩
    · wp_walk using q1
      exact ⟨_, rfl, h⟩
section
variable {prog : Program} {w : World} {A : Around} {E : Value → Shared → Prop} {s : Shared}
theorem sk_enum_begins {v : Value} {o : Obj} {H : Heap → Prop} {Q : Value → Shared → Prop} (B : Begins v o H) (h1 : H s.heap)
    (h : ∀ h', IsEnum h' (s.heap.objs.size + 1) s.heap.objs.size 0 .none → h'.get? s.heap.objs.size = some o → h'.objs.size = s.heap.objs.size + 2 →
      (∀ b o, s.heap.get? b = some o → h'.get? b = some o) → Q (.ref (s.heap.objs.size + 1)) { s with heap := h' }) :
    wpAny (model prog w) A (call (.type "enumerate") [v]) Q E s := by
  refine callType_new F.called_enumerate (by decide) (F.typeCall_enumerate_1 _) (F.newCall_enumerate_1 _) (fun obj => F.args_object_init_2 obj _) F.entry_enumerate_new
    (sk_meets_enum1 B) ⟨h1, ?_⟩
  have hz : (s.heap.push o).objs.size = s.heap.objs.size + 1 := Heap.size_push ..
  show _ ∧ _
  rw [hz]
  have he : IsEnum ((s.heap.push o).push { cls := .type "enumerate", data := .fields #[.none, .bool false, .ref s.heap.objs.size, rawInt 0, .none, .none] }) (s.heap.objs.size + 1) s.heap.objs.size 0 .none := by
    have := Heap.get?_push_size (s.heap.push o) (o := { cls := .type "enumerate", data := .fields #[.none, .bool false, .ref s.heap.objs.size, rawInt 0, .none, .none] }) rfl
    rw [hz] at this; exact this
  refine ⟨⟨_, he, rfl⟩, h _ he (Heap.get?_push_of_some _ (Heap.get?_push_size _ B.free)) (by rw [Heap.size_push, hz]) fun b o x => Heap.get?_push_of_some _ (Heap.get?_push_of_some _ x)⟩
end
end PySem
namespace SK
open PySem PySem.Spec PyProof.Rows L2
/-- the tuple at a, item by item, each in a new pair with its place -/
def IteT (K : PySem.W.Frag) (a : Addr) : It :=
  ⟨fun i H => ∃ (xs : List V) (x : V), SqT K H a xs ∧ xs[i]? = some x, fun i H v H' => ∃ T x, v = .ref T ∧ H T = none ∧ H' = upd H T (.tup [.int (i : Nat), x]) ∧ ∀ xs, SqT K H a xs → xs[i]? = some x, fun i H => ∃ xs : List V, SqT K H a xs ∧ xs.length ≤ i⟩
theorem turn_enumT {P : Program} {w : World} {K : PySem.W.Frag} {elts : List Expr} {kk : Nat} {tpos : Pos} (a e it : Addr) (hae : a ≠ e) (hai : a ≠ it) :
    Turn P w K (.Tuple elts kk tpos) (IteT K a) [e, it] e (fun i h => (∃ old, IsEnum h e it ((i : Nat) : Int) old) ∧ h.IsTupleIter it a i ∧ e ≠ it) where
  mem := by simp
  obj := fun i h st b hb => by
    obtain ⟨⟨old, he⟩, ⟨o, ho, hc, hd⟩, _⟩ := st
    have e' : b = e ∨ b = it := by simpa using hb
    rcases e' with z | z
    · rw [z]; exact ⟨_, he, fun v q => nomatch q⟩
    · rw [z]; exact ⟨o, ho, fun v q => by rw [hd] at q; cases q⟩
  keep := fun i h h' st k => let ⟨⟨old, he⟩, hi, hne⟩ := st; ⟨⟨old, k e (by simp) _ he⟩, hi.at fun o q => k it (by simp) o q, hne⟩
  item := by
    intro X hP hw hK hc i pins s σ H E I hf st hg
    subst hP hw hK
    obtain ⟨⟨old, he⟩, hit, hne⟩ := st
    obtain ⟨xs, x, hq, hx⟩ := hg
    obtain ⟨its, rv, p, hz⟩ := I.tuple hq
    obtain ⟨u, hu, ru⟩ := rv.get hx
    have hel : e < s.heap.objs.size := Heap.lt_size he
    have hil : it < s.heap.objs.size := by obtain ⟨_, q, _⟩ := hit; exact Heap.lt_size q
    have D := Draws.tuple (prog := X.prog) (w := X.w) (A := X.A.in1) (I.ok.hd hc) it a hai its.toArray
    have hlt : i < its.toArray.size := by
      have := (List.getElem?_eq_some_iff.mp hu).1
      simpa using this
    refine wpAny_pyNext_enum_itemD D he ⟨hit, p⟩ hlt hne (by simp [hne, Ne.symm hae]) fun x' h' tk hPx ho hst' hT hsz hk => ?_
    have ex : x' = u := by
      rw [show (its.toArray)[i]? = its[i]? from by simp, hu] at hPx
      exact (Option.some.inj hPx).symm
    subst ex
    refine ⟨_, rfl, wpAny_letOwnedTupleGo_enum (s := { s with heap := h', toks := tk + 1 }) ho fun h'' he' sb => ?_⟩
    have hT2 : h''.get? s.heap.objs.size = some { cls := .type "tuple", data := .seq #[.int i tk, x'] } := (sb.2 _ (Nat.ne_of_gt hel)).trans hT
    have new : ObjOk X.prog X.w (upd H s.heap.objs.size (.tup [.int (i : Nat), x])) h'' s.heap.objs.size (.tup [.int (i : Nat), x]) :=
      ⟨by show 2 ≤ sizeLine; decide, [.int i tk, x'], .cons ⟨_, rfl⟩ (.cons ru .nil), ⟨_, hT2, rfl, _, rfl⟩⟩
    have I1 : Inv X pins σ (upd H s.heap.objs.size (.tup [.int (i : Nat), x])) { s with heap := h'', toks := tk + 1 } :=
      I.turnedNew (t' := tk + 1) (ch := [e, it]) (fun b ob hb q => (sb.2 b (fun z => hb (by simp [z]))).trans (hk b ob (fun z => hb (by simp [z])) (fun z => hb (by simp [z])) q)) hf (Nat.le_refl _) new
    refine ⟨.ref s.heap.objs.size, _, I1, rfl, ⟨_, x, rfl, I.hok.fresh (Nat.le_refl _), rfl, fun ys hy => ?_⟩, ⟨⟨x', ?_⟩, hst'.1.at fun o q => (sb.2 it (Ne.symm hne)).trans q, hne⟩, fun b hb => ?_⟩
    · obtain ⟨its2, rv2, p2, hz2⟩ := I.tuple hy
      rw [I.tuple_inj hy hq]
      exact hx
    · have e1 : ((i + 1 : Nat) : Int) = (i : Int) + 1 := by omega
      rw [e1]; exact he'
    · have hb' : b < s.heap.objs.size := by
        have e' : b = e ∨ b = it := by simpa using hb
        rcases e' with z | z
        · rw [z]; exact hel
        · rw [z]; exact hil
      rw [upd_ne (Nat.ne_of_lt hb')]
      exact (hf b hb).1
  done := by
    intro X hP hw hK hc i pins s σ H E I hf st hg
    subst hP hw hK
    obtain ⟨⟨old, he⟩, hit, hne⟩ := st
    obtain ⟨xs, hq, hx⟩ := hg
    obtain ⟨its, rv, p, hz⟩ := I.tuple hq
    obtain ⟨f0, f1, f2, f3, f4, f5⟩ := hf it (by simp)
    have hl := rv.length
    have hT : s.TypeIs (.ref e) "enumerate" := ⟨_, he, rfl⟩
    unfold pyNext
    refine wpAny_bind (wpAny_attempt (wpAny_callSpecial?_slot (name := Str.ofString "__next__") hT F.slot_enumerate_next
      (wpAny_call_entry F.slot_enumerate_next hT F.entry_enumerate_next ?_ (F.args_enumerate_next_1 _))))
    show wpAny _ _ (field (.ref e) 2 >>= _) _ _ _
    refine wpAny_bind (wpAny_field he rfl (x := .ref it) rfl ?_)
    refine wpAny_bind (wpAny_nextOf_tuple_end (I.ok.hd hc) hit p (by simp; omega) fun h' x he' hx' => ?_)
    obtain ⟨o, ho, hcc⟩ := hx'
    refine wpAny_bind (wpAny_isInstance (T := "StopIteration") (b := true) ⟨o, ho, hcc⟩ isSubtype_stop ?_)
    exact wpAny_pure ⟨rfl, I.turned (t' := s.toks) (fun b o hb q => he' b o hb q) f0 f1 f3 f4 f5⟩
  self := fun A i s Q E st h => let ⟨⟨_, he⟩, _⟩ := st; wpAny_pyIter_enum he h
def iEnumT (K : PySem.W.Frag) (ta : TE) : TI := fun σ H R => ta σ H fun v H1 => ∃ a xs, v = .ref a ∧ SqT K H1 a xs ∧ R (IteT K a) H1
theorem pi_enumT {X : Cx} {e : Expr} {ta : TE} {p pos tpos : Pos} {elts : List Expr} {kk : Nat} (hg : Gl X "enumerate") (hm : X.mg "enumerate" = none) (ha : PE X e ta) (hs : starEach [e] X.env = [(false, eval e X.env)] := by rfl) :
    PI X (.Tuple elts kk tpos) (.Call (.Name "enumerate" p) [e] [] pos) (iEnumT X.K ta) := by
  refine ⟨fun pins s σ H R I h => ?_⟩
  refine Call_ (ld_blt I hg hm boot_enumerate (PyProof.Rows.callWith_type1 ?_ hs rfl))
  rw [hs]
  show wpAny _ _ (spliced ((false, eval e X.env) :: backTo pos (starEach [] X.env))) _ _ s
  refine Calls.spliced_cons (thn (ha.run pins s σ H _ I h) fun u s1 ⟨v, H1, I1, r1, a, xs, ex, hq, q⟩ => ?_)
  refine Calls.spliced_nil ?_
  subst ex
  obtain rfl : u = Value.ref a := r1
  obtain ⟨its, rv, p', hz⟩ := I1.tuple hq
  have hal : a < s1.heap.objs.size := by
    obtain ⟨o, ho, _⟩ := id p'
    exact Heap.lt_size ho
  refine sk_enum_begins (begins_tuple a its.toArray) p' fun h' he hit hsz hk => wpAny_pyIter_enum he ?_
  have I2 : Inv X pins σ H1 { s1 with heap := h' } := I1.kept (t' := s1.toks) hk
  refine ⟨s1.heap.objs.size + 1, [s1.heap.objs.size + 1, s1.heap.objs.size], _, _, H1, rfl, I2, turn_enumT a (s1.heap.objs.size + 1) s1.heap.objs.size (Nat.ne_of_lt (Nat.lt_succ_of_lt hal)) (Nat.ne_of_lt hal), ⟨⟨.none, he⟩, ⟨_, hit, rfl, rfl⟩, Nat.succ_ne_self _⟩, fun b hb => ?_, q⟩
  have e' : b = s1.heap.objs.size + 1 ∨ b = s1.heap.objs.size := by simpa using hb
  have hle : s1.heap.objs.size ≤ b := by
    rcases e' with z | z
    · rw [z]; exact Nat.le_add_right _ _
    · rw [z]; exact Nat.le_refl _
  exact I1.fpOk hle (I1.hok.fresh hle)
/-- over enumerate of a tuple that the body leaves as it is (it always does) -/
theorem for_enumT {K : PySem.W.Frag} {a : Addr} {xs : List V} {g : TG} {tb : TS} {D : Ends} {σ : St} {H : Hp} (Pv : Nat → St → Hp → Prop) (h0 : Pv 0 σ H) (hl : ∀ i σ H, Pv i σ H → SqT K H a xs)
    (hs : ∀ i x T σ H, xs[i]? = some x → Pv i σ H → H T = none → g (.ref T) σ (upd H T (.tup [.int (i : Nat), x])) fun σ2 H2 => tb { D with nx := Pv (i + 1), ct := Pv (i + 1), bk := D.nx } σ2 H2) (hd : ∀ σ H, Pv xs.length σ H → D.nx σ H) :
    ∃ W : Nat → Nat → St → Hp → Prop, (∃ m, W 0 m σ H) ∧ ∀ i m σ H, W i m σ H →
      ((IteT K a).stop i H ∧ D.nx σ H) ∨ ((IteT K a).go i H ∧ ∃ N : St → Hp → Prop, (∀ σ' H', N σ' H' → ∃ m', m' < m ∧ W (i + 1) m' σ' H') ∧ ∀ x H', (IteT K a).yld i H x H' → g x σ H' fun σ2 H2 => tb { D with nx := N, ct := N, bk := D.nx } σ2 H2) := by
  refine ⟨fun i m σ H => m = xs.length - i ∧ i ≤ xs.length ∧ Pv i σ H, ⟨xs.length, by simp, Nat.zero_le _, h0⟩, ?_⟩
  rintro i m σ H ⟨rfl, hi, p⟩
  have q := hl i σ H p
  by_cases hlt : i < xs.length
  · refine .inr ⟨⟨xs, xs[i], q, by simp [hlt]⟩, Pv (i + 1), fun σ' H' p' => ⟨xs.length - (i + 1), by omega, rfl, hlt, p'⟩, fun x H' y => ?_⟩
    obtain ⟨T, z, ex, hn, eH, hz⟩ := y
    subst ex eH
    exact hs i z T σ H (hz xs q) p hn
  · have e : i = xs.length := by omega
    subst e
    exact .inl ⟨⟨xs, q, Nat.le_refl _⟩, hd σ H p⟩
/-- a comprehension over it -/
theorem lc_enumT {K : PySem.W.Frag} {a : Addr} {xs : List V} {g : TG} {tt : TT} {te : TE} {vs : List Nat} {σ : St} {H1 : Hp} {D : Addr} {Qd : Hp → Prop} (Pv : Nat → Hp → Prop) (h0 : Pv 0 (upd H1 D (.lst []))) (hl : ∀ i H, Pv i H → SqT K H a xs)
    (hs : ∀ i x T H, xs[i]? = some x → Pv i H → H T = none → g (.ref T) (wipe σ vs) (upd H T (.tup [.int (i : Nat), x])) fun σ2 H2 => wipe σ2 vs = wipe σ vs ∧ tt σ2 H2 fun b H3 =>
      if b = true then te σ2 H3 fun y H4 => ∃ acc, H4 D = some (.lst acc) ∧ acc.length < sizeLine ∧ Pv (i + 1) (upd H4 D (.lst (acc ++ [y]))) else Pv (i + 1) H3) (hd : ∀ H, Pv xs.length H → Qd H) :
    ∃ W : Nat → Nat → Hp → Prop, (∃ m, W 0 m (upd H1 D (.lst []))) ∧ ∀ i m H, W i m H →
      ((IteT K a).stop i H ∧ Qd H) ∨ ((IteT K a).go i H ∧ ∃ Nx : Hp → Prop, (∀ H', Nx H' → ∃ m', m' < m ∧ W (i + 1) m' H') ∧ ∀ x H', (IteT K a).yld i H x H' → g x (wipe σ vs) H' fun σ2 H2 => wipe σ2 vs = wipe σ vs ∧ tt σ2 H2 fun b H3 =>
        if b = true then te σ2 H3 fun y H4 => ∃ acc, H4 D = some (.lst acc) ∧ acc.length < sizeLine ∧ Nx (upd H4 D (.lst (acc ++ [y]))) else Nx H3) := by
  refine ⟨fun i m H => m = xs.length - i ∧ i ≤ xs.length ∧ Pv i H, ⟨xs.length, by simp, Nat.zero_le _, h0⟩, ?_⟩
  rintro i m H ⟨rfl, hi, p⟩
  have q := hl i H p
  by_cases hlt : i < xs.length
  · refine .inr ⟨⟨xs, xs[i], q, by simp [hlt]⟩, Pv (i + 1), fun H' p' => ⟨xs.length - (i + 1), by omega, rfl, hlt, p'⟩, fun x H' y => ?_⟩
    obtain ⟨T, z, ex, hn, eH, hz⟩ := y
    subst ex eH
    exact hs i z T H (hz xs q) p hn
  · have e : i = xs.length := by omega
    subst e
    exact .inl ⟨⟨xs, q, Nat.le_refl _⟩, hd H p⟩
end SK
set_option maxHeartbeats 4000000
/-! SkI1: is_name, check_kinds. -/
namespace SK
open PySem PySem.Spec PyProof.Rows L2
theorem walk_enumT {K : PySem.W.Frag} {a : Addr} {xs : List V} : Walk (IteT K a) xs.length (fun H => SqT K H a xs) (YPair (fun i => some (.int (i : Nat))) (fun i => xs[i]?)) := by
  refine ⟨fun i _ hi q => ⟨xs, xs[i], q, by simp [hi]⟩, fun _ q => ⟨xs, q, Nat.le_refl _⟩, fun i H v H' _ q y => ?_⟩
  obtain ⟨T, x, h1, h2, h3, h4⟩ := y
  exact ⟨T, .int (i : Nat), x, h1, h2, h3, rfl, h4 xs q⟩
/-- a comprehension without an if: its items ys are known -/
theorem lc_map {J : It} {n : Nat} {G : Hp → Prop} {Y : Nat → Hp → V → Hp → Prop} (w : Walk J n G Y) {g : TG} {te : TE} {vs : List Nat} {σ : St} {H1 : Hp} {D : Addr} {Qd : Hp → Prop} (ys : List V) (hl : ys.length = n) (hz : n ≤ sizeLine) (hD : H1 D = none) (hG : ∀ H, K0 H1 H → G H)
    (hs : ∀ i x H H' (R : V → Hp → Prop), i < n → K0 H1 H → Y i H x H' → (∀ y H4, K0 H H4 → ys[i]? = some y → R y H4) → g x (wipe σ vs) H' fun σ2 H2 => wipe σ2 vs = wipe σ vs ∧ te σ2 H2 R) (hd : ∀ H, K0 H1 H → H D = some (.lst ys) → Qd H) :
    ∃ W : Nat → Nat → Hp → Prop, (∃ m, W 0 m (upd H1 D (.lst []))) ∧ ∀ i m H, W i m H →
      (J.stop i H ∧ Qd H) ∨ (J.go i H ∧ ∃ Nx : Hp → Prop, (∀ H', Nx H' → ∃ m', m' < m ∧ W (i + 1) m' H') ∧ ∀ x H', J.yld i H x H' → g x (wipe σ vs) H' fun σ2 H2 => wipe σ2 vs = wipe σ vs ∧ tYes σ2 H2 fun b H3 =>
        if b = true then te σ2 H3 fun y H4 => ∃ acc, H4 D = some (.lst acc) ∧ acc.length < sizeLine ∧ Nx (upd H4 D (.lst (acc ++ [y]))) else Nx H3) := by
  refine lc_it w (tt := tYes) (fun i H => K0 H1 H ∧ H D = some (.lst (ys.take i))) ⟨kp_new hD, by simp [upd_same]⟩ (fun i H _ p => hG H p.1) ?_ fun H p => hd H p.1 (by rw [p.2, ← hl, List.take_length])
  rintro i x H H' hi ⟨k, e⟩ y
  have hh := hs i x H H' (fun y H4 => ∃ acc, H4 D = some (.lst acc) ∧ acc.length < sizeLine ∧ (K0 H1 (upd H4 D (.lst (acc ++ [y]))) ∧ upd H4 D (.lst (acc ++ [y])) D = some (.lst (ys.take (i + 1))))) hi k y (fun y' H4 k4 ey => ⟨ys.take i, k4.at0 e, by rw [List.length_take]; omega, (k.trans k4).own hD, by
    rw [upd_same, List.take_succ, ey]
    rfl⟩)
  have eq : (fun (σ2 : St) (H2 : Hp) => wipe σ2 vs = wipe σ vs ∧ tYes σ2 H2 fun b H3 => if b = true then te σ2 H3 fun y H4 => ∃ acc, H4 D = some (.lst acc) ∧ acc.length < sizeLine ∧ (K0 H1 (upd H4 D (.lst (acc ++ [y]))) ∧ upd H4 D (.lst (acc ++ [y])) D = some (.lst (ys.take (i + 1)))) else K0 H1 H3 ∧ H3 D = some (.lst (ys.take (i + 1)))) =
      fun σ2 H2 => wipe σ2 vs = wipe σ vs ∧ te σ2 H2 fun y H4 => ∃ acc, H4 D = some (.lst acc) ∧ acc.length < sizeLine ∧ (K0 H1 (upd H4 D (.lst (acc ++ [y]))) ∧ upd H4 D (.lst (acc ++ [y])) D = some (.lst (ys.take (i + 1)))) := by
    funext σ2 H2
    unfold tYes
    dsimp only
    rw [if_pos rfl]
  rw [eq]
  exact hh
section
variable {X : Cx} {e : Expr} {es : List Expr} {t : TA} {p pos : Pos}
theorem n_LETTERS (T : Tx X.K X.mg) (hg : Gl X "LETTERS" := by rfl) : PE X (.Name "LETTERS" pos) (tC (.str "abcdefghijklmnopqrstuvwxyz")) := by
  obtain ⟨t, h⟩ := T.cLETTERS
  exact pe_glob hg h ⟨_, rfl⟩
theorem n_DIGITS (T : Tx X.K X.mg) (hg : Gl X "DIGITS" := by rfl) : PE X (.Name "DIGITS" pos) (tC (.str "0123456789")) := by
  obtain ⟨t, h⟩ := T.cDIGITS
  exact pe_glob hg h ⟨_, rfl⟩
theorem n_MOST_KINDS (T : Tx X.K X.mg) (hg : Gl X "MOST_KINDS" := by rfl) : PE X (.Name "MOST_KINDS" pos) (tC (.int 4)) := by
  obtain ⟨t, h⟩ := T.cMOST_KINDS
  exact pe_glob hg h ⟨_, rfl⟩
theorem n_MOST_COUNT (T : Tx X.K X.mg) (hg : Gl X "MOST_COUNT" := by rfl) : PE X (.Name "MOST_COUNT" pos) (tC (.int 1000000000000000000000000000000)) := by
  obtain ⟨t, h⟩ := T.cMOST_COUNT
  exact pe_glob hg h ⟨_, rfl⟩
theorem c_lenS (T : Tx X.K X.mg) (ha : PA X [e] t) (hg : Gl X "len" := by rfl) (he : starEach [e] X.env = (false, eval e X.env) :: starEach [] X.env := by rfl) : PE X (.Call (.Name "len" p) [e] [] pos) (tCB (fun xs H Q => ∃ z, xs = [.str z] ∧ z.length ≤ sizeLine ∧ Q (.int z.length) H) t) :=
  pe_callB call_len_str hg T.blen PySem.boot_len ha (by decide) (by decide) he rfl
theorem c_len (T : Tx X.K X.mg) (ha : PA X [e] t) (hg : Gl X "len" := by rfl) (he : starEach [e] X.env = (false, eval e X.env) :: starEach [] X.env := by rfl) : PE X (.Call (.Name "len" p) [e] [] pos) (tCB (fun xs H Q => ∃ p ys, xs = [.ref p] ∧ (SqL X.K H p ys ∨ SqT X.K H p ys) ∧ Q (.int ys.length) H) t) :=
  pe_callB call_len_seq hg T.blen PySem.boot_len ha (by decide) (by decide) he rfl
theorem c_all (T : Tx X.K X.mg) (hc : X.calm = true) (ha : PA X [e] t) (hg : Gl X "all" := by rfl) (he : starEach [e] X.env = (false, eval e X.env) :: starEach [] X.env := by rfl) : PE X (.Call (.Name "all" p) [e] [] pos) (tCB (rAll X.K) t) :=
  pe_callB (cr_all hc) hg T.ball bt_all ha (by decide) (by decide) he rfl
theorem c_sum (T : Tx X.K X.mg) (hc : X.calm = true) (ha : PA X [e] t) (hg : Gl X "sum" := by rfl) (he : starEach [e] X.env = (false, eval e X.env) :: starEach [] X.env := by rfl) : PE X (.Call (.Name "sum" p) [e] [] pos) (tCB (rSum X.K) t) :=
  pe_callB (cr_sum hc) hg T.bsum bt_sum ha (by decide) (by decide) he rfl
theorem c_max (T : Tx X.K X.mg) (hc : X.calm = true) (ha : PA X [e] t) (hg : Gl X "max" := by rfl) (he : starEach [e] X.env = (false, eval e X.env) :: starEach [] X.env := by rfl) : PE X (.Call (.Name "max" p) [e] [] pos) (tCB (rMax X.K) t) :=
  pe_callB (cr_max hc) hg T.bmax bt_max ha (by decide) (by decide) he rfl
end
/-- a name of one letter -/
def Nm (z : Str) : Prop := ∃ c : Nat, z = ⟨#[c]⟩ ∧ c ∈ ("abcdefghijklmnopqrstuvwxyz" : Str).cps.toList
theorem nm_a : Nm "a" := ⟨97, by decide +kernel, by decide +kernel⟩
theorem nm_b : Nm "b" := ⟨98, by decide +kernel, by decide +kernel⟩
theorem nm_x : Nm "x" := ⟨120, by decide +kernel, by decide +kernel⟩
theorem nm_y : Nm "y" := ⟨121, by decide +kernel, by decide +kernel⟩
section
variable {P : Program} {w : World} {K : PySem.W.Frag} {mg : Str → Option Value} {base : Heap}
def spIsName : Sp := fun vs H Q _ => ∃ z, vs = [.str z] ∧ Nm z ∧ ∀ H', K0 H H' → Q (.bl true) H'
theorem sc32 : FnScope ["value", "sign"] ["value"] (defScope (top 32)) := ⟨rfl, rfl, rfl, by decide +kernel, rfl, by decide +kernel, by decide +kernel⟩
theorem k_is_name (T : Tx K mg) : FnG P w K mg base (L2N.CX P w) 1 452 spIsName := by
  obtain ⟨fd, F⟩ := T.fis_name
  refine fng_of F sc32 (F.bindsN fun _ _ _ _ _ _ us hl => match us, hl with | [_], _ => rfl) (fun vs H Q E h => ?_) (fun cdv A outer s H vs Q E hr hg h => ⟨_,
    pss_cons (ps_if (PW.pt (pw_or (pt_not (pt_val (c_isi T (pa_cons (pv 0) (pa_cons (n_str T) pa_nil))))) (pw_or (pt_not (pt_chain op_le op_le pe_int (c_lenS T (pa_cons (pv 0) pa_nil)) pe_int))
      (pw_or1 (pt_cmpR op_notIn_sign (pe_ix ix_str (pv 0) pe_int (fun _ _ => rfl)) (n_LETTERS T) rfl))))) (pss_one (ps_ret pe_bl)) pss_nil)
    (pss_one (ps_ret (c_all T rfl (pa_cons (pe_lc (own := [("sign", 1)]) (g := gName 1) (tt := tYes) rfl sc32.nd (pi_str (pv 0)) (blkOk_by (N := ["value", "sign"]) (sc := defScope (top 32)) (by decide +kernel)) (fun _ _ _ _ _ => pg_name (i := 1) sc32.nd rfl (Or.inl rfl)) (fun _ _ _ _ _ => pts_nil)
      (fun _ _ _ _ _ => pe_or (pe_cmpR op_in_sign (pv 1) (n_LETTERS T) rfl) (pe_one (pe_cmpR op_in_sign (pv 1) (n_DIGITS T) rfl)))) pa_nil)))), ?_⟩)
  · obtain ⟨z, rfl, _⟩ := h
    rfl
  · obtain ⟨z, rfl, ⟨c, rfl, hc⟩, q⟩ := h
    refine ⟨_, rfl, _, _, _, _, _, rfl, .ty "str", .base (.str _), is_ss, true, rfl, iff_ rfl ?_⟩
    refine ⟨_, rfl, _, rfl, by show 1 ≤ sizeLine; rw [sizeLine_eq]; omega, _, _, rfl, rfl, true, rfl, ift rfl ⟨_, _, rfl, rfl, true, rfl, iff_ rfl ?_⟩⟩
    refine ⟨_, rfl, _, _, c, rfl, rfl, by show 1 ≤ sizeLine; rw [sizeLine_eq]; omega, rfl, c, _, rfl, rfl, false, ?_, iff_ rfl ?_⟩
    · rw [decide_eq_true hc]; rfl
    refine ⟨_, rfl, _, rfl, fun D hD => lc_map walk_str [.bl true] rfl (by show 1 ≤ sizeLine; rw [sizeLine_eq]; omega) hD (fun _ _ => trivial) (fun i x H1 H2 R hi k y hR => ?_) fun H1 k1 e1 => ?_⟩
    · obtain ⟨rfl, c', hc', rfl⟩ := y
      obtain rfl : i = 0 := by
        have : i < 1 := hi
        omega
      obtain rfl : c = c' := Option.some.inj hc'
      refine ⟨rfl, _, rfl, c, _, rfl, rfl, true, ?_, ift rfl (hR _ _ (Kp.refl _) rfl)⟩
      rw [decide_eq_true hc]
    · exact ⟨D, [true], rfl, SqL.of e1, q H1 k1⟩
end
end SK
set_option maxHeartbeats 4000000
/-! SkI2: check_kinds, is_row, check_rows, lopsided. -/
namespace SK
open PySem PySem.Spec PyProof.Rows L2
section
variable {P : Program} {w : World} {K : PySem.W.Frag} {mg : Str → Option Value} {base : Heap}
def spChkK : Sp := fun vs H Q _ => ∃ ks, vs = [.ref ks] ∧ KindsAt H ks ∧ ∀ H', K0 H H' → Q .non H'
theorem sc35 : FnScope ["value", "at", "kind"] ["value"] (defScope (top 35)) := ⟨rfl, rfl, rfl, by decide +kernel, rfl, by decide +kernel, by decide +kernel⟩
theorem two {i : Nat} (h : i < 2) : i = 0 ∨ i = 1 := by omega
theorem k_check_kinds (T : Tx K mg) : FnG P w K mg base (L2N.CX P w) 2 464 spChkK := by
  obtain ⟨fd, F⟩ := T.fcheck_kinds
  obtain ⟨fd1, F1⟩ := T.fis_name
  refine fng_of F sc35 (F.bindsN fun _ _ _ _ _ _ us hl => match us, hl with | [_], _ => rfl) (fun vs H Q E h => ?_) (fun cdv A outer s H vs Q E hr hg h => ⟨_,
    pss_cons (ps_if (PW.pt (pw_or (pt_not (pt_val (c_isi T (pa_cons (pv 0) (pa_cons (n_tuple T) pa_nil))))) (pw_or1 (pt_cmpR op_lt (c_len T (pa_cons (pv 0) pa_nil)) pe_int (nomark _))))) (pss_one ps_never) pss_nil)
    (pss_one (ps_for PassesOwn.leaving rfl (pi_enumT rfl T.benumerate (pv 0)) (pg_tup rfl (pgs_cons (pg_name (i := 1) sc35.nd rfl (Or.inl rfl)) (pgs_cons (pg_name (i := 2) sc35.nd rfl (Or.inl rfl)) pgs_nil)))
      (pss_one (ps_if (PW.pt (pw_or (pt_cmpR op_eq (pv 1) (n_MOST_KINDS T) (nomark _)) (pw_or (pt_not (pt_val (pe_g (E := EF) (k_is_name T) hr hg (passF noXN) rfl T.gis_name F1.kp (pa_cons (pv 2) pa_nil))))
        (pw_or1 (pt_cmpR op_in_seq (pv 2) (pe_slice sl_tupA (pv 0) po_none (po_some (pv 1))) rfl))))) (pss_one ps_never) pss_nil)))), ?_⟩)
  · obtain ⟨z, rfl, _⟩ := h
    rfl
  · obtain ⟨ks, rfl, hk, q⟩ := h
    refine ⟨_, rfl, _, _, _, _, _, rfl, .ty "tuple", .base (.tup hk), is_tt, true, rfl, iff_ rfl ?_⟩
    refine ⟨_, rfl, ks, _, rfl, .inr (SqT.of hk), _, _, rfl, rfl, false, rfl, iff_ rfl ?_⟩
    refine ⟨_, rfl, ks, _, rfl, SqT.of hk, for_it walk_enumT (fun i σ H' => K0 H H' ∧ ∃ a b, σ = [some (.ref ks), a, b]) ⟨Kp.refl _, _, _, rfl⟩ (fun i σ H' _ p => SqT.of (hk.kp p.1)) ?_ ?_⟩
    · rintro i x σ H1 H2 hi ⟨k, a, b, rfl⟩ ⟨t, x0, y0, rfl, hn, rfl, e1, e2⟩
      have hk1 := hk.kp k
      have hk2 : upd H1 t (.tup [x0, y0]) ks = some (.tup [.str "x", .str "y"]) := by
        rw [upd_ne (ne_of_none hk1 hn)]
        exact hk1
      refine ⟨t, [x0, y0], rfl, SqT.of upd_same, rfl, _, _, rfl, _, _, rfl, rfl, ?_⟩
      have k2 : K0 H (upd H1 t (.tup [x0, y0])) := k.new hn
      rcases two hi with rfl | rfl
      · cases e1
        cases e2
        refine ⟨_, rfl, rfl, false, rfl, iff_ rfl ⟨_, rfl, _, rfl, nm_x, fun H3 k3 => ⟨true, rfl, iff_ rfl ⟨_, rfl, _, rfl, _, rfl, _, rfl, ks, _, rfl, SqT.of ((show KindsAt _ ks from hk2).kp k3), fun z => absurd z (by decide), fun _ p hp => ?_⟩⟩⟩⟩
        exact ⟨p, _, rfl, .inr (SqT.of upd_same), rfl, rfl, false, rfl, iff_ rfl ⟨(k2.trans k3).new hp, _, _, rfl⟩⟩
      · cases e1
        cases e2
        refine ⟨_, rfl, rfl, false, rfl, iff_ rfl ⟨_, rfl, _, rfl, nm_y, fun H3 k3 => ⟨true, rfl, iff_ rfl ⟨_, rfl, _, rfl, _, rfl, _, rfl, ks, _, rfl, SqT.of ((show KindsAt _ ks from hk2).kp k3), fun z => absurd z (by decide), fun _ p hp => ?_⟩⟩⟩⟩
        exact ⟨p, _, rfl, .inr (SqT.of upd_same), rfl, rfl, false, by decide +kernel, iff_ rfl ⟨(k2.trans k3).new hp, _, _, rfl⟩⟩
    · rintro σ H' ⟨k, _⟩
      exact q H' k
end
end SK
set_option maxHeartbeats 4000000
/-! SkI3: is_row, check_rows, lopsided. -/
namespace SK
open PySem PySem.Spec PyProof.Rows L2
/-- sum(t), t a tuple of ints -/
def rSumT (K : PySem.W.Frag) : List V → Hp → VK → Prop := fun vs H Q => ∃ (a : Addr) (ns : List Int), vs = [V.ref a] ∧ SqT K H a (ns.map V.int) ∧ Q (.int ns.sum) H
theorem cr_sumT {X : Cx} (hc : X.calm = true) : CallR X (.builtin "sum") (rSumT X.K) := by
  intro pins s σ H vs us Q I r h
  obtain ⟨a, ns, rfl, hs, q⟩ := h
  obtain ⟨its, rv, hl, _⟩ := I.tuple hs
  rw [Vals.ref1 r]
  have hi := rv.ints
  obtain ⟨xs, hx⟩ := hi.allInts.items
  have hn : numsOf (intItems xs).toList = ns := by rw [← hx]; exact hi.numsOf
  rw [nums_intItems] at hn
  have hl' : s.heap.IsTuple a (intItems xs) := by rw [← hx]; exact hl
  refine PySem.W.ktm_sumG (I.ok.hd hc) hl' fun h' tk t' hk => ?_
  rw [preSum_eq, List.take_of_length_le (by simp), hn]
  exact ⟨.int _, H, I.kept hk, ⟨_, rfl⟩, q⟩
section
variable {X : Cx} {e : Expr} {t : TA} {p pos : Pos}
theorem c_sumT (T : Tx X.K X.mg) (hc : X.calm = true) (ha : PA X [e] t) (hg : Gl X "sum" := by rfl) (he : starEach [e] X.env = (false, eval e X.env) :: starEach [] X.env := by rfl) : PE X (.Call (.Name "sum" p) [e] [] pos) (tCB (rSumT X.K) t) :=
  pe_callB (cr_sumT hc) hg T.bsum bt_sum ha (by decide) (by decide) he rfl
end
theorem sz2 : 2 ≤ sizeLine := by rw [sizeLine_eq]; omega
section
variable {P : Program} {w : World} {K : PySem.W.Frag} {mg : Str → Option Value} {base : Heap}
/-- small enough -/
def Sml (i : Int) : Prop := 0 ≤ i ∧ i ≤ 1000000000000000000000000000000
def spIsRow : Sp := fun vs H Q _ => ∃ r a b, vs = [.ref r, .int 2] ∧ H r = some (.tup [.int a, .int b]) ∧ Sml a ∧ Sml b ∧ ∀ H', K0 H H' → Q (.bl true) H'
theorem sc36 : FnScope ["value", "size", "number"] ["value", "size"] (defScope (top 36)) := ⟨rfl, rfl, rfl, by decide +kernel, rfl, by decide +kernel, by decide +kernel⟩
theorem k_is_row (T : Tx K mg) : FnG P w K mg base (L2N.CX P w) 3 469 spIsRow := by
  obtain ⟨fd, F⟩ := T.fis_row
  obtain ⟨fd1, F1⟩ := T.fis_count
  refine fng_of F sc36 (F.bindsN fun _ _ _ _ _ _ us hl => match us, hl with | [_, _], _ => rfl) (fun vs H Q E h => ?_) (fun cdv A outer s H vs Q E hr hg h => ⟨_,
    pss_cons (ps_if (PW.pt (pw_or (pt_not (pt_val (c_isi T (pa_cons (pv 0) (pa_cons (n_tuple T) pa_nil))))) (pw_or1 (pt_cmpR op_ne (c_len T (pa_cons (pv 0) pa_nil)) (pv 1) (nomark _))))) (pss_one (ps_ret pe_bl)) pss_nil)
    (pss_one (ps_ret (c_all T rfl (pa_cons (pe_lc (own := [("number", 2)]) (g := gName 2) (tt := tYes) rfl sc36.nd (pi_tup (pv 0)) (blkOk_by (N := ["value", "size", "number"]) (sc := defScope (top 36)) (by decide +kernel)) (fun _ _ _ _ _ => pg_name (i := 2) sc36.nd rfl (Or.inl rfl)) (fun _ _ _ _ _ => pts_nil)
      (fun _ _ _ _ _ => pe_and (pe_g (E := EF) (k_is_count T) hr hg (passF noXN) rfl T.gis_count F1.kp (pa_cons (pv 2) pa_nil)) (pe_one (pe_cmpR op_le (pv 2) (n_MOST_COUNT T) (nomark _))))) pa_nil)))), ?_⟩)
  · obtain ⟨_, _, _, rfl, _⟩ := h
    rfl
  · obtain ⟨r, a, b, rfl, hr, ha, hb, q⟩ := h
    refine ⟨_, rfl, _, _, _, _, _, rfl, .ty "tuple", .base (.tup hr), is_tt, true, rfl, iff_ rfl ?_⟩
    refine ⟨_, rfl, r, _, rfl, .inr (SqT.of hr), _, rfl, rfl, false, rfl, iff_ rfl ?_⟩
    refine ⟨_, rfl, r, rfl, ⟨_, SqT.of hr⟩, fun D hD => lc_map (walk_tup (xs := [.int a, .int b])) [.bl true, .bl true] rfl sz2 hD (fun H1 k => SqT.of (k.tup hr)) (fun i x H1 H2 R hi k y hR => ?_) fun H1 k1 e1 => ?_⟩
    · obtain ⟨rfl, hx⟩ := y
      rcases two hi with rfl | rfl
      · cases hx
        refine ⟨rfl, _, rfl, a, rfl, true, ?_, ift rfl ⟨_, rfl, _, _, rfl, rfl, ?_⟩⟩
        · rw [decide_eq_true ha.1]
        · show R (.bl (decide (a ≤ 1000000000000000000000000000000))) _
          rw [decide_eq_true ha.2]
          exact hR _ _ (Kp.refl _) rfl
      · cases hx
        refine ⟨rfl, _, rfl, b, rfl, true, ?_, ift rfl ⟨_, rfl, _, _, rfl, rfl, ?_⟩⟩
        · rw [decide_eq_true hb.1]
        · show R (.bl (decide (b ≤ 1000000000000000000000000000000))) _
          rw [decide_eq_true hb.2]
          exact hR _ _ (Kp.refl _) rfl
    · exact ⟨D, [true, true], rfl, SqL.of e1, q H1 k1⟩
def spChkR : Sp := fun vs H Q _ => ∃ ks rs a b, vs = [.ref ks, .ref rs] ∧ KindsAt H ks ∧ RowsAt H rs a b ∧ Sml a ∧ Sml b ∧ ∀ H', K0 H H' → Q .non H'
theorem sc37 : FnScope ["kinds", "value", "at", "row"] ["kinds", "value"] (defScope (top 37)) := ⟨rfl, rfl, rfl, by decide +kernel, rfl, by decide +kernel, by decide +kernel⟩
theorem sml0 : Sml 0 := ⟨by decide, by decide⟩
theorem k_check_rows (T : Tx K mg) : FnG P w K mg base (L2N.CX P w) 4 476 spChkR := by
  obtain ⟨fd, F⟩ := T.fcheck_rows
  obtain ⟨fd1, F1⟩ := T.fis_row
  refine fng_of F sc37 (F.bindsN fun _ _ _ _ _ _ us hl => match us, hl with | [_, _], _ => rfl) (fun vs H Q E h => ?_) (fun cdv A outer s H vs Q E hr hg h => ⟨_,
    pss_cons (ps_if (PW.pt (pw_or (pt_not (pt_val (c_isi T (pa_cons (pv 1) (pa_cons (n_tuple T) pa_nil))))) (pw_or1 (pt_cmpR op_ne (c_len T (pa_cons (pv 1) pa_nil)) (c_len T (pa_cons (pv 0) pa_nil)) (nomark _))))) (pss_one ps_never) pss_nil)
    (pss_one (ps_for PassesOwn.leaving rfl (pi_enumT rfl T.benumerate (pv 1)) (pg_tup rfl (pgs_cons (pg_name (i := 2) sc37.nd rfl (Or.inl rfl)) (pgs_cons (pg_name (i := 3) sc37.nd rfl (Or.inl rfl)) pgs_nil)))
      (pss_one (ps_if (pt_not (pt_val (pe_g (E := EF) (k_is_row T) hr hg (passF noXN) rfl T.gis_row F1.kp (pa_cons (pv 3) (pa_cons (c_len T (pa_cons (pv 0) pa_nil)) pa_nil))))) (pss_one ps_never) pss_nil)))), ?_⟩)
  · obtain ⟨_, _, _, _, rfl, _⟩ := h
    rfl
  · obtain ⟨ks, rs, a, b, rfl, hk, hrs, ha, hb, q⟩ := h
    obtain ⟨r0, r1, e0, e1, e2⟩ := hrs
    refine ⟨_, rfl, _, _, _, _, _, rfl, .ty "tuple", .base (.tup e0), is_tt, true, rfl, iff_ rfl ?_⟩
    refine ⟨_, rfl, rs, _, rfl, .inr (SqT.of e0), _, rfl, ks, _, rfl, .inr (SqT.of hk), rfl, false, rfl, iff_ rfl ?_⟩
    refine ⟨_, rfl, rs, _, rfl, SqT.of e0, for_it walk_enumT (fun i σ H' => K0 H H' ∧ ∃ u v, σ = [some (.ref ks), some (.ref rs), u, v]) ⟨Kp.refl _, _, _, rfl⟩ (fun i σ H' _ p => SqT.of (p.1.tup e0)) ?_ ?_⟩
    · rintro i x σ H1 H2 hi ⟨k, u, v, rfl⟩ ⟨t, x0, y0, rfl, hn, rfl, f1, f2⟩
      have k2 : K0 H (upd H1 t (.tup [x0, y0])) := k.new hn
      refine ⟨t, [x0, y0], rfl, SqT.of upd_same, rfl, _, _, rfl, _, _, rfl, rfl, ?_⟩
      rcases two hi with rfl | rfl
      · cases f1
        cases f2
        exact ⟨_, rfl, _, rfl, ks, _, rfl, .inr (SqT.of (k2.tup hk)), r0, a, b, rfl, k2.tup e1, ha, hb, fun H3 k3 => ⟨true, rfl, iff_ rfl ⟨k2.trans k3, _, _, rfl⟩⟩⟩
      · cases f1
        cases f2
        exact ⟨_, rfl, _, rfl, ks, _, rfl, .inr (SqT.of (k2.tup hk)), r1, b, 0, rfl, k2.tup e2, hb, sml0, fun H3 k3 => ⟨true, rfl, iff_ rfl ⟨k2.trans k3, _, _, rfl⟩⟩⟩
    · rintro σ H' ⟨k, _⟩
      exact q H' k
def spLop : Sp := fun vs H Q _ => ∃ rs a b, vs = [.ref rs] ∧ RowsAt H rs a b ∧ ∀ H', K0 H H' → Q .non H'
theorem sc38 : FnScope ["rows", "at", "row", "other"] ["rows"] (defScope (top 38)) := ⟨rfl, rfl, rfl, by decide +kernel, rfl, by decide +kernel, by decide +kernel⟩
theorem k_lopsided (T : Tx K mg) : FnG P w K mg base (L2N.CX P w) 1 481 spLop := by
  obtain ⟨fd, F⟩ := T.flopsided
  refine fng_of F sc38 (F.bindsN fun _ _ _ _ _ _ us hl => match us, hl with | [_], _ => rfl) (fun vs H Q E h => ?_) (fun cdv A outer s H vs Q E hr hg h => ⟨_,
    pss_cons (ps_for PassesOwn.leaving rfl (pi_enumT rfl T.benumerate (pv 0)) (pg_tup rfl (pgs_cons (pg_name (i := 1) sc38.nd rfl (Or.inr rfl)) (pgs_cons (pg_name (i := 2) sc38.nd rfl (Or.inl rfl)) pgs_nil)))
      (pss_one (ps_if (pt_cmpR op_ne (c_sumT T rfl (pa_cons (pv 2) pa_nil)) (c_sum T rfl (pa_cons (pe_lc (own := [("other", 3)]) (g := gName 3) (tt := tYes) rfl sc38.nd (pi_tup (pv 0)) (blkOk_by (N := ["rows", "at", "row", "other"]) (sc := defScope (top 38)) (by decide +kernel))
        (fun _ _ _ _ _ => pg_name (i := 3) sc38.nd rfl (Or.inl rfl)) (fun _ _ _ _ _ => pts_nil) (fun _ _ _ _ _ => pe_ix (r := rIxT K) ix_tup (pv 3) (pv 1) (fun _ _ => rfl))) pa_nil)) (nomark _)) (pss_one ps_never) pss_nil)))
    (pss_one (ps_ret pe_non)), ?_⟩)
  · obtain ⟨_, _, _, rfl, _⟩ := h
    rfl
  · obtain ⟨rs, a, b, rfl, ⟨r0, r1, e0, e1, e2⟩, q⟩ := h
    refine ⟨_, rfl, rs, _, rfl, SqT.of e0, for_it walk_enumT (fun i σ H' => K0 H H' ∧ ∃ u v o, σ = [some (.ref rs), u, v, o]) ⟨Kp.refl _, _, _, _, rfl⟩ (fun i σ H' _ p => SqT.of (p.1.tup e0)) ?_ ?_⟩
    · rintro i x σ H1 H2 hi ⟨k, u, v, o, rfl⟩ ⟨t, x0, y0, rfl, hn, rfl, f1, f2⟩
      have k2 : K0 H (upd H1 t (.tup [x0, y0])) := k.new hn
      refine ⟨t, [x0, y0], rfl, SqT.of upd_same, rfl, _, _, rfl, _, _, rfl, rfl, ?_⟩
      rcases two hi with rfl | rfl
      · cases f1
        cases f2
        refine ⟨_, rfl, r0, [a, b], rfl, SqT.of (k2.tup e1), ?_⟩
        refine ⟨_, rfl, rs, rfl, ⟨_, SqT.of (k2.tup e0)⟩, fun D hD => lc_map (walk_tup (xs := [.ref r0, .ref r1])) [.int a, .int b] rfl sz2 hD (fun H1 k => SqT.of (k.tup (k2.tup e0))) (fun i x H1 H2 R hi k y hR => ?_) fun H1 k1 g1 => ?_⟩
        · obtain ⟨rfl, hx⟩ := y
          rcases two hi with rfl | rfl
          · cases hx
            exact ⟨rfl, _, rfl, _, rfl, r0, _, 0, _, rfl, rfl, SqT.of ((k2.trans k).tup e1), rfl, hR _ _ (Kp.refl _) rfl⟩
          · cases hx
            exact ⟨rfl, _, rfl, _, rfl, r1, _, 0, _, rfl, rfl, SqT.of ((k2.trans k).tup e2), rfl, hR _ _ (Kp.refl _) rfl⟩
        · refine ⟨D, [a, b], rfl, SqL.of g1, rfl, false, ?_, iff_ rfl ⟨k2.trans k1, _, _, _, rfl⟩⟩
          simp
      · cases f1
        cases f2
        refine ⟨_, rfl, r1, [b, 0], rfl, SqT.of (k2.tup e2), ?_⟩
        refine ⟨_, rfl, rs, rfl, ⟨_, SqT.of (k2.tup e0)⟩, fun D hD => lc_map (walk_tup (xs := [.ref r0, .ref r1])) [.int b, .int 0] rfl sz2 hD (fun H1 k => SqT.of (k.tup (k2.tup e0))) (fun i x H1 H2 R hi k y hR => ?_) fun H1 k1 g1 => ?_⟩
        · obtain ⟨rfl, hx⟩ := y
          rcases two hi with rfl | rfl
          · cases hx
            exact ⟨rfl, _, rfl, _, rfl, r0, _, 1, _, rfl, rfl, SqT.of ((k2.trans k).tup e1), rfl, hR _ _ (Kp.refl _) rfl⟩
          · cases hx
            exact ⟨rfl, _, rfl, _, rfl, r1, _, 1, _, rfl, rfl, SqT.of ((k2.trans k).tup e2), rfl, hR _ _ (Kp.refl _) rfl⟩
        · refine ⟨D, [b, 0], rfl, SqL.of g1, rfl, false, ?_, iff_ rfl ⟨k2.trans k1, _, _, _, rfl⟩⟩
          simp
    · rintro σ H' ⟨k, _⟩
      exact q H' k
end
end SK
set_option maxHeartbeats 4000000
/-! SkI4: yards. -/
namespace SK
open PySem PySem.Spec PyProof.Rows L2
theorem walk_zipT {K : PySem.W.Frag} {a b : Addr} {xs ys : List V} {n : Nat} (hn : n = min xs.length ys.length) : Walk (RZ.ItzT K a b) n (fun H => SqT K H a xs ∧ SqT K H b ys) (YPair (fun i => xs[i]?) (fun i => ys[i]?)) := by
  subst hn
  refine ⟨fun i _ hi q => ?_, fun _ q => ⟨xs, ys, q.1, q.2, by omega⟩, fun i H v H' _ q y => ?_⟩
  · have h1 : i < xs.length := by omega
    have h2 : i < ys.length := by omega
    exact ⟨xs, ys, xs[i], ys[i], q.1, q.2, by simp [h1], by simp [h2]⟩
  · obtain ⟨T, x, z, h1, h2, h3, h4, h5⟩ := y
    exact ⟨T, x, z, h1, h2, h3, h4 xs q.1, h5 ys q.2⟩
/-- below four -/
def Lil (i : Int) : Prop := i = 0 ∨ i = 1 ∨ i = 2 ∨ i = 3
theorem Lil.sml {i : Int} (h : Lil i) : Sml i := by
  rcases h with rfl | rfl | rfl | rfl <;> exact ⟨by decide, by decide⟩
theorem lil0 : Lil 0 := .inl rfl
/-- a number's text -/
def nTxt (i : Int) : Str := toString i
theorem Lil.len {i : Int} (h : Lil i) : (nTxt i).length = 1 := by
  rcases h with rfl | rfl | rfl | rfl <;> decide +kernel
theorem Lil.log {i : Int} (h : Lil i) : i.natAbs.log2 < 1920 := by
  rcases h with rfl | rfl | rfl | rfl <;> decide +kernel
def rowTxt (k : Str) (a b : Int) : Str := Txt.join " " [k, nTxt a, nTxt b]
def yardTxt (w m : Int) : Str := Txt.join "\n" [Txt.join " " ["kinds", "x", "y"], rowTxt "x" w m, rowTxt "y" m 0]
section
variable {X : Cx} {e : Expr} {t : TA} {p pos : Pos}
theorem c_strI (T : Tx X.K X.mg) (ha : PA X [e] t) (hg : Gl X "str" := by rfl) (he : starEach [e] X.env = (false, eval e X.env) :: starEach [] X.env := by rfl) : PE X (.Call (.Name "str" p) [e] [] pos) (tCB (fun xs H Q => ∃ i, xs = [.int i] ∧ i.natAbs.log2 < 1920 ∧ Q (.str (toString i)) H) t) :=
  pe_callTy call_str_int hg T.bstr bt_str ha (by decide) (by decide) he rfl
end
section
variable {P : Program} {w : World} {K : PySem.W.Frag} {mg : Str → Option Value} {base : Heap}
/-! ### Yard(kinds, rows) -/
def spYardI : Sp := fun vs H Q _ => ∃ y dx ks rs a b, vs = [.ref y, .ref ks, .ref rs] ∧ H y = some (.ins 657 dx []) ∧ H dx = some (.own y) ∧ dx ≠ y ∧ KindsAt H ks ∧ RowsAt H rs a b ∧ Sml a ∧ Sml b ∧
  ∀ H', (∀ c o, H c = some o → c ≠ y → c ≠ dx → H' c = some o) → (∃ o, H' y = some o) → (∃ o, H' dx = some o) → YardAt H' y a b → Q .non H'
theorem scYI : FnScope ["self", "kinds", "rows", "at"] ["self", "kinds", "rows"] (defScope (inClass (top 49) 1)) := ⟨rfl, rfl, rfl, by decide +kernel, rfl, by decide +kernel, by decide +kernel⟩
theorem k_Yard_init (T : Tx K mg) : FnG P w K mg base (L2N.CX P w) 5 556 spYardI := by
  obtain ⟨fd, F⟩ := T.fYard__init__
  obtain ⟨fd1, F1⟩ := T.fcheck_kinds
  obtain ⟨fd2, F2⟩ := T.fcheck_rows
  obtain ⟨fd3, F3⟩ := T.flopsided
  refine fng_of F scYI (F.bindsN fun _ _ _ _ _ _ us hl => match us, hl with | [_, _, _], _ => rfl) (fun vs H Q E h => ?_) (fun cdv A outer s H vs Q E hr hg h => ⟨_,
    pss_cons (ps_expr (pe_g (E := EF) (k_check_kinds T) (hr.mono (by decide)) hg (passF noXN) rfl T.gcheck_kinds F1.kp (pa_cons (pv 1) pa_nil)))
    (pss_cons (ps_expr (pe_g (E := EF) (k_check_rows T) hr hg (passF noXN) rfl T.gcheck_rows F2.kp (pa_cons (pv 1) (pa_cons (pv 2) pa_nil))))
    (pss_cons (ps_set (i := 3) scYI.nd rfl (Or.inl rfl) (pe_g (E := EF) (k_lopsided T) (hr.mono (by decide)) hg (passF noXN) rfl T.glopsided F3.kp (pa_cons (pv 2) pa_nil)))
    (pss_cons (ps_if (pt_cmpR op_notN (pv 3) pe_non (nomark _)) (pss_one ps_never) pss_nil)
    (pss_cons (SlX.ps_sl (pv 0) (pv 1)) (pss_one (SlX.ps_sl (pv 0) (pv 2))))))), ?_⟩)
  · obtain ⟨_, _, _, _, _, _, rfl, _⟩ := h
    rfl
  · obtain ⟨y, dx, ks, rs, a, b, rfl, hy, hdx, hne, hk, hrs, ha, hb, q⟩ := h
    refine ⟨_, rfl, ks, rfl, hk, fun H1 k1 => ?_⟩
    refine ⟨_, rfl, _, rfl, ks, rs, a, b, rfl, hk.kp k1, hrs.kp k1, ha, hb, fun H2 k2 => ?_⟩
    have k12 := k1.trans k2
    refine ⟨_, rfl, rs, a, b, rfl, hrs.kp k12, fun H3 k3 => ?_⟩
    have k := k12.trans k3
    refine ⟨_, rfl, rfl, false, rfl, iff_ rfl ?_⟩
    have hy3 := k.at0 hy
    have hdx3 := k.at0 hdx
    refine ⟨_, rfl, _, rfl, y, 657, dx, 659, [], 1, rfl, .inl ⟨hy3, rfl⟩, T.scYard, T.slShape, ?_⟩
    refine ⟨_, rfl, _, rfl, y, 657, dx, 658, _, 0, rfl, SlX.slH_slt hne, T.scYard, T.slBody, ?_⟩
    rw [SlX.slH_twice hne]
    have oth : ∀ {c : Addr} {xs : List V}, H3 c = some (.tup xs) → SlX.slH H3 y 657 dx (SlX.putS 0 (.ref rs) (SlX.putS 1 (.ref ks) [])) c = some (.tup xs) := fun {c xs} e => by
      rw [SlX.slH_ne (ne_of e hy3 (fun z => by cases z)) (ne_of e hdx3 (fun z => by cases z))]
      exact e
    refine q _ (fun c o e h1 h2 => ?_) ⟨_, by unfold SlX.slH; exact upd_same⟩ ⟨_, by unfold SlX.slH; rw [upd_ne hne]; exact upd_same⟩ ⟨dx, _, ks, rs, SlX.slH_slt hne, SlX.putS_get .., (SlX.putS_ne (by decide)).mpr (SlX.putS_get ..), oth (k.tup hk), ?_⟩
    · rw [SlX.slH_ne h1 h2]
      exact k.at0 e
    · obtain ⟨r0, r1, e0, e1, e2⟩ := hrs.kp k
      exact ⟨r0, r1, oth e0, oth e1, oth e2⟩
/-! ### .rows -/
def spRows : Sp := fun vs H Q _ => ∃ y a b, vs = [.ref y] ∧ YardAt H y a b ∧ ∀ rs, RowsAt H rs a b → Q (.ref rs) H
theorem scYR : FnScope ["self"] ["self"] (defScope (inClass (top 49) 4)) := ⟨rfl, rfl, rfl, by decide +kernel, rfl, by decide +kernel, by decide +kernel⟩
theorem k_Yard_rows (T : Tx K mg) : FnG P w K mg base (L2N.CX P w) 1 581 spRows := by
  obtain ⟨fd, F⟩ := T.fYardrows
  refine fng_of F scYR (F.bindsN fun _ _ _ _ _ _ us hl => match us, hl with | [_], _ => rfl) (fun vs H Q E h => ?_) (fun cdv A outer s H vs Q E hr hg h => ⟨_, pss_one (ps_ret (SlX.pe_sl (pv 0))), ?_⟩)
  · obtain ⟨_, _, _, rfl, _⟩ := h
    rfl
  · obtain ⟨y, a, b, rfl, ⟨dx, vs, ks, rs, h1, h2, h3, h4, h5⟩, q⟩ := h
    exact ⟨_, rfl, y, 657, dx, 658, vs, 0, _, rfl, h1, T.scYard, T.slBody, h2, q rs h5⟩
/-! ### row_lines, str -/
def spLines : Sp := fun vs H Q _ => ∃ y a b, vs = [.ref y] ∧ YardAt H y a b ∧ Lil a ∧ Lil b ∧ ∀ H' p, K0 H H' → H' p = some (.lst [.str (rowTxt "x" a b), .str (rowTxt "y" b 0)]) → Q (.ref p) H'
theorem sc50 : FnScope ["yard", "found", "kind", "row", "number"] ["yard"] (defScope (top 50)) := ⟨rfl, rfl, rfl, by decide +kernel, rfl, by decide +kernel, by decide +kernel⟩
theorem k_row_lines (T : Tx K mg) : FnG P w K mg base (L2N.CX P w) 1 666 spLines := by
  obtain ⟨fd, F⟩ := T.frow_lines
  refine fng_of F sc50 (F.bindsN fun _ _ _ _ _ _ us hl => match us, hl with | [_], _ => rfl) (fun vs H Q E h => ?_) (fun cdv A outer s H vs Q E hr hg h => ⟨_,
    pss_cons (ps_set (i := 1) sc50.nd rfl (Or.inl rfl) (pe_lst pa_nil))
    (pss_cons (ps_for PassesOwn.leaving rfl (RZ.pi_zipA rfl T.bzip (pa_cons (SlX.pe_sl (pv 0)) (pa_cons (SlX.pe_sl (pv 0)) pa_nil))) (pg_tup rfl (pgs_cons (pg_name (i := 2) sc50.nd rfl (Or.inl rfl)) (pgs_cons (pg_name (i := 3) sc50.nd rfl (Or.inl rfl)) pgs_nil)))
      (pss_one (ps_expr (pe_bm PySem.F.plainAttrs_list PySem.F.slot_list_append PySem.F.type_list_append mt_append (pv 1) (pa_cons (pe_join pe_str (pe_lst (pa_cons (pv 2) (StX.pa_star (pe_lc (own := [("number", 4)]) (g := gName 4) (tt := tYes) rfl sc50.nd (pi_tup (pv 3))
        (blkOk_by (N := ["yard", "found", "kind", "row", "number"]) (sc := defScope (top 50)) (by decide +kernel)) (fun _ _ _ _ _ => pg_name (i := 4) sc50.nd rfl (Or.inl rfl)) (fun _ _ _ _ _ => pts_nil) (fun _ _ _ _ _ => c_strI T (pa_cons (pv 4) pa_nil))) pa_nil)))) pa_nil)))))
    (pss_one (ps_ret (pv 1)))), ?_⟩)
  · obtain ⟨_, _, _, rfl, _⟩ := h
    rfl
  · obtain ⟨y, a, b, rfl, hY, ha, hb, q⟩ := h
    refine ⟨Nat.zero_le _, fun l hl => ?_⟩
    have k0 : K0 H (upd H l (.lst [])) := kp_new hl
    obtain ⟨dx, vs, ks, rs, h1, h2, h3, h4, h5⟩ := hY.kp k0
    obtain ⟨r0, r1, e0, e1, e2⟩ := id h5
    refine ⟨_, rfl, y, 657, dx, 659, vs, 1, _, rfl, h1, T.scYard, T.slShape, h3, _, rfl, y, 657, dx, 658, vs, 0, _, rfl, h1, T.scYard, T.slBody, h2, ?_⟩
    refine ⟨ks, rs, _, _, rfl, .inr ⟨SqT.of h4, SqT.of e0, for_it (walk_zipT (xs := [V.str "x", V.str "y"]) (ys := [V.ref r0, V.ref r1]) (n := 2) rfl) (fun i σ H' => K0 H H' ∧ H' l = some (.lst ([V.str (rowTxt "x" a b), V.str (rowTxt "y" b 0)].take i)) ∧ ∃ u v o, σ = [some (.ref y), some (.ref l), u, v, o]) ⟨k0, upd_same, _, _, _, rfl⟩
      (fun i σ H' _ p => ?_) ?_ ?_⟩⟩
    · have kk : Kp (fun b => b = l) (upd H l (.lst [])) H' := fun b o e => by
        by_cases hb : b = l
        · subst hb
          rw [upd_same] at e
          cases e
          exact ⟨fun z => (z.elim (fun y => y.elim) fun y => absurd rfl y), _, p.2.1⟩
        · rw [upd_ne hb] at e
          exact ⟨fun _ => p.1.at0 e, _, p.1.at0 e⟩
      exact ⟨SqT.of (kk.tup h4), SqT.of (kk.tup e0)⟩
    · rintro i x σ H1 H2 hi ⟨k, hl1, u, v, o, rfl⟩ ⟨t, x0, y0, rfl, hn, rfl, f1, f2⟩
      have k2 : K0 H (upd H1 t (.tup [x0, y0])) := k.new hn
      have hl2 : upd H1 t (.tup [x0, y0]) l = some (.lst ([V.str (rowTxt "x" a b), V.str (rowTxt "y" b 0)].take i)) := by
        rw [upd_ne (ne_of_none hl1 hn)]
        exact hl1
      have oth : ∀ {c : Addr} {xs : List V}, upd H l (.lst []) c = some (.tup xs) → H c = some (.tup xs) := fun {c xs} e => by
        rw [upd_ne (ne_of e upd_same (fun z => by cases z))] at e
        exact e
      refine ⟨t, [x0, y0], rfl, SqT.of upd_same, rfl, _, _, rfl, _, _, rfl, rfl, ?_⟩
      rcases two hi with rfl | rfl
      · cases f1
        cases f2
        refine ⟨_, rfl, .inl ⟨rfl, _, SqL.of hl2⟩, ⟨_, rfl⟩, _, rfl, _, rfl, r0, rfl, ⟨_, SqT.of (k2.tup (oth e1))⟩, fun D hD => lc_map (walk_tup (xs := [.int a, .int b])) [.str (nTxt a), .str (nTxt b)] rfl sz2 hD (fun H1 k => SqT.of (k.tup (k2.tup (oth e1)))) (fun i x H1 H2 R hi k y hR => ?_) fun H3 k3 g3 => ?_⟩
        · obtain ⟨rfl, hx⟩ := y
          rcases two hi with rfl | rfl
          · cases hx
            exact ⟨rfl, _, rfl, a, rfl, ha.log, hR _ _ (Kp.refl _) rfl⟩
          · cases hx
            exact ⟨rfl, _, rfl, b, rfl, hb.log, hR _ _ (Kp.refl _) rfl⟩
        · refine ⟨D, _, rfl, .inr (SqL.of g3), by show 3 ≤ sizeLine; rw [sizeLine_eq]; omega, fun p hp => ?_⟩
          have hl4 : upd H3 p (.lst [.str "x", .str (nTxt a), .str (nTxt b)]) l = some (.lst []) := by
            rw [upd_ne (ne_of_none (k3.at0 hl2) hp)]
            exact k3.at0 hl2
          refine ⟨_, p, ["x", nTxt a, nTxt b], rfl, rfl, .inl (SqL.of upd_same), ?_, l, _, _, rfl, rfl, hl4, by show 0 < sizeLine; rw [sizeLine_eq]; omega, ((k2.trans k3).new hp).own hl, upd_same, _, _, _, rfl⟩
          simp only [List.map_cons, List.map_nil, ha.len, hb.len, List.sum_cons, List.sum_nil, List.length_cons, List.length_nil]
          decide +kernel
      · cases f1
        cases f2
        refine ⟨_, rfl, .inl ⟨rfl, _, SqL.of hl2⟩, ⟨_, rfl⟩, _, rfl, _, rfl, r1, rfl, ⟨_, SqT.of (k2.tup (oth e2))⟩, fun D hD => lc_map (walk_tup (xs := [.int b, .int 0])) [.str (nTxt b), .str (nTxt 0)] rfl sz2 hD (fun H1 k => SqT.of (k.tup (k2.tup (oth e2)))) (fun i x H1 H2 R hi k y hR => ?_) fun H3 k3 g3 => ?_⟩
        · obtain ⟨rfl, hx⟩ := y
          rcases two hi with rfl | rfl
          · cases hx
            exact ⟨rfl, _, rfl, b, rfl, hb.log, hR _ _ (Kp.refl _) rfl⟩
          · cases hx
            exact ⟨rfl, _, rfl, 0, rfl, lil0.log, hR _ _ (Kp.refl _) rfl⟩
        · refine ⟨D, _, rfl, .inr (SqL.of g3), by show 3 ≤ sizeLine; rw [sizeLine_eq]; omega, fun p hp => ?_⟩
          have hl4 : upd H3 p (.lst [.str "y", .str (nTxt b), .str (nTxt 0)]) l = some (.lst [.str (rowTxt "x" a b)]) := by
            rw [upd_ne (ne_of_none (k3.at0 hl2) hp)]
            exact k3.at0 hl2
          refine ⟨_, p, ["y", nTxt b, nTxt 0], rfl, rfl, .inl (SqL.of upd_same), ?_, l, _, _, rfl, rfl, hl4, by show 1 < sizeLine; rw [sizeLine_eq]; omega, ((k2.trans k3).new hp).own hl, upd_same, _, _, _, rfl⟩
          simp only [List.map_cons, List.map_nil, lil0.len, hb.len, List.sum_cons, List.sum_nil, List.length_cons, List.length_nil]
          decide +kernel
    · rintro σ H' ⟨k, hl1, u, v, o, rfl⟩
      exact ⟨_, rfl, q H' l k hl1⟩
/-- str(yard) -/
def spStr : Sp := fun vs H Q _ => ∃ y a b, vs = [.ref y] ∧ YardAt H y a b ∧ Lil a ∧ Lil b ∧ ∀ H', K0 H H' → Q (.str (yardTxt a b)) H'
theorem scYS : FnScope ["self"] ["self"] (defScope (inClass (top 49) 14)) := ⟨rfl, rfl, rfl, by decide +kernel, rfl, by decide +kernel, by decide +kernel⟩
theorem Lil.rowx {a b : Int} (ha : Lil a) (hb : Lil b) : (rowTxt "x" a b).length = 5 := by
  rcases ha with rfl | rfl | rfl | rfl <;> rcases hb with rfl | rfl | rfl | rfl <;> decide +kernel
theorem Lil.rowy {a b : Int} (ha : Lil a) (hb : Lil b) : (rowTxt "y" a b).length = 5 := by
  rcases ha with rfl | rfl | rfl | rfl <;> rcases hb with rfl | rfl | rfl | rfl <;> decide +kernel
theorem k_Yard_str (T : Tx K mg) : FnG P w K mg base (L2N.CX P w) 2 646 spStr := by
  obtain ⟨fd, F⟩ := T.fYard__str__
  obtain ⟨fd1, F1⟩ := T.frow_lines
  refine fng_of F scYS (F.bindsN fun _ _ _ _ _ _ us hl => match us, hl with | [_], _ => rfl) (fun vs H Q E h => ?_) (fun cdv A outer s H vs Q E hr hg h => ⟨_,
    pss_one (ps_ret (pe_join pe_str (pe_lst (pa_cons (pe_join pe_str (pe_lst (pa_cons pe_str (StX.pa_star (SlX.pe_sl (pv 0)) pa_nil)))) (StX.pa_star (pe_g (E := EF) (k_row_lines T) hr hg (passF noXN) rfl T.grow_lines F1.kp (pa_cons (pv 0) pa_nil)) pa_nil))))), ?_⟩)
  · obtain ⟨_, _, _, rfl, _⟩ := h
    rfl
  · obtain ⟨y, a, b, rfl, hY, ha, hb, q⟩ := h
    obtain ⟨dx, vs, ks, rs, h1, h2, h3, h4, h5⟩ := id hY
    refine ⟨⟨_, rfl⟩, ⟨_, rfl⟩, _, rfl, y, 657, dx, 659, vs, 1, _, rfl, h1, T.scYard, T.slShape, h3, ks, _, rfl, .inl (SqT.of h4), by show 3 ≤ sizeLine; rw [sizeLine_eq]; omega, fun p hp => ?_⟩
    have k1 : K0 H (upd H p (.lst [.str "kinds", .str "x", .str "y"])) := kp_new hp
    refine ⟨_, p, ["kinds", "x", "y"], rfl, rfl, .inl (SqL.of upd_same), by decide +kernel, _, rfl, y, a, b, rfl, hY.kp k1, ha, hb, fun H2 l k2 hl => ⟨l, _, rfl, .inr (SqL.of hl), by show 3 ≤ sizeLine; rw [sizeLine_eq]; omega, fun p2 hp2 => ?_⟩⟩
    refine ⟨_, p2, [Txt.join " " ["kinds", "x", "y"], rowTxt "x" a b, rowTxt "y" b 0], rfl, rfl, .inl (SqL.of upd_same), ?_, q _ ((k1.trans k2).new hp2)⟩
    simp only [List.map_cons, List.map_nil, ha.rowx hb, hb.rowy lil0, List.sum_cons, List.sum_nil, List.length_cons, List.length_nil]
    decide +kernel
/-! ### check_yard -/
def spChkY : Sp := fun vs H Q _ => ∃ y a b, vs = [.ref y] ∧ YardAt H y a b ∧ Q .non H
theorem sc54 : FnScope ["value"] ["value"] (defScope (top 54)) := ⟨rfl, rfl, rfl, by decide +kernel, rfl, by decide +kernel, by decide +kernel⟩
end
section
variable {X : Cx} {e : Expr} {es : List Expr} {t : TA} {p pos : Pos}
theorem c_isSl (T : Tx X.K X.mg) (ha : PA X (e :: es) t) (hg : Gl X "isinstance" := by rfl)
    (he : starEach (e :: es) X.env = (false, eval e X.env) :: starEach es X.env := by rfl) (hpl : (backTo pos (starEach es X.env)).any (·.1) = false := by rfl) : PE X (.Call (.Name "isinstance" p) (e :: es) [] pos) (tCB (SlX.rIsiSl X.K (.ref 657)) t) :=
  pe_callB (SlX.call_isiSl (.ref 657)) hg T.bisinstance bt_isinstance ha (by decide) (by decide) he hpl
end
section
variable {P : Program} {w : World} {K : PySem.W.Frag} {mg : Str → Option Value} {base : Heap}
theorem k_check_yard (T : Tx K mg) : FnG P w K mg base (L2N.CX P w) 1 688 spChkY := by
  obtain ⟨fd, F⟩ := T.fcheck_yard
  refine fng_of F sc54 (F.bindsN fun _ _ _ _ _ _ us hl => match us, hl with | [_], _ => rfl) (fun vs H Q E h => ?_) (fun cdv A outer s H vs Q E hr hg h => ⟨_,
    pss_one (ps_if (pt_not (pt_val (c_isSl T (pa_cons (pv 0) (pa_cons (pe_glob (v := .ref 657) rfl T.gYard rfl) pa_nil))))) (pss_one ps_never) pss_nil), ?_⟩)
  · obtain ⟨_, _, _, rfl, _⟩ := h
    rfl
  · obtain ⟨y, a, b, rfl, ⟨dx, vs, ks, rs, h1, _⟩, q⟩ := h
    exact ⟨_, rfl, y, 657, dx, vs, .ref 657, true, rfl, rfl, fun w e => e, h1, T.scYard, T.siYard, T.isYard, true, rfl, iff_ rfl q⟩
end
end SK
set_option maxHeartbeats 4000000
/-! SkI5: orders_of, forward_of, swaps_of. -/
namespace SK
open PySem PySem.Spec PyProof.Rows L2
theorem inV_ints (a : Int) : ∀ o : List Int, inV (.int a) (o.map V.int) = o.contains a
  | [] => rfl
  | b :: o => by
    have ih := inV_ints a o
    unfold inV at ih ⊢
    rw [List.map_cons, List.any_cons, ih, List.contains_cons]
    congr 1
    show (b == a) = (a == b)
    exact Bool.beq_comm
theorem flat_ints : ∀ o : List Int, (o.map V.int).all flatV = true
  | [] => rfl
  | b :: o => by
    rw [List.map_cons, List.all_cons, flat_ints o]
    rfl
def PairT (H : Hp) : List Addr → List (List Int) → Prop := Paired fun p c => H p = some (.tup (c.map V.int))
theorem Paired.app {α β : Type} {R : α → β → Prop} {a : List α} {b : List β} {x : α} {y : β} (h : Paired R a b) (r : R x y) : Paired R (a ++ [x]) (b ++ [y]) := by
  induction h with
  | nil => exact .cons r .nil
  | cons r' _ ih => exact .cons r' ih
theorem Paired.mp {α β : Type} {R R' : α → β → Prop} {a : List α} {b : List β} (h : Paired R a b) (f : ∀ x y, R x y → R' x y) : Paired R' a b := by
  induction h with
  | nil => exact .nil
  | cons r' _ ih => exact .cons (f _ _ r') ih
theorem Paired.at_ {α β : Type} {R : α → β → Prop} : ∀ {a : List α} {b : List β} {i : Nat} {x : α}, Paired R a b → a[i]? = some x → ∃ y, b[i]? = some y ∧ R x y
  | _, _, _, _, .nil, e => by simp at e
  | _, _, 0, _, .cons r _, e => by simp at e; subst e; exact ⟨_, rfl, r⟩
  | _, _, i + 1, x, .cons _ t, e => by
    obtain ⟨y, h1, h2⟩ := Paired.at_ (i := i) t (by simpa using e)
    exact ⟨y, by simpa using h1, h2⟩
theorem Paired.len {α β : Type} {R : α → β → Prop} {a : List α} {b : List β} (h : Paired R a b) : a.length = b.length := by
  induction h with
  | nil => rfl
  | cons _ _ ih => simp [ih]
section
variable {H H1 : Hp} {ps : List Addr} {cs : List (List Int)}
theorem PairT.kp {M : Addr → Prop} (h : PairT H ps cs) (k : Kp M H H1) : PairT H1 ps cs := Paired.mp h fun _ _ e => k.tup e
end
def ext2 (o : List Int) (j : Nat) : List (List Int) := (([0, 1] : List Int).take j).filterMap fun a => if o.contains a then none else some (o ++ [a])
/-- the second clause's loop -/
theorem in_it {J : It} {n : Nat} {G : Hp → Prop} {Y : Nat → Hp → V → Hp → Prop} (w : Walk J n G Y) {g : TG} {tt : TT} {te : TE} {vs : List Nat} {σ : St} {H1 : Hp} {D : Addr} {Nx : Hp → Prop} (Pv : Nat → Hp → Prop) (h0 : Pv 0 H1) (hG : ∀ i H, i ≤ n → Pv i H → G H)
    (hs : ∀ i x H H', i < n → Pv i H → Y i H x H' → g x (wipe σ vs) H' fun σ2 H2 => wipe σ2 vs = wipe σ vs ∧ tt σ2 H2 fun b H3 =>
      if b = true then te σ2 H3 fun y H4 => ∃ acc, H4 D = some (.lst acc) ∧ acc.length < sizeLine ∧ Pv (i + 1) (upd H4 D (.lst (acc ++ [y]))) else Pv (i + 1) H3) (hd : ∀ H, Pv n H → Nx H) :
    ∃ W1 : Nat → Nat → Hp → Prop, (∃ m, W1 0 m H1) ∧ ∀ j k H, W1 j k H →
      (J.stop j H ∧ Nx H) ∨ (J.go j H ∧ ∃ Nx1 : Hp → Prop, (∀ H', Nx1 H' → ∃ k', k' < k ∧ W1 (j + 1) k' H') ∧ ∀ x H', J.yld j H x H' → g x (wipe σ vs) H' fun σ3 H5 => wipe σ3 vs = wipe σ vs ∧ tt σ3 H5 fun b H6 =>
        if b = true then te σ3 H6 fun y H7 => ∃ acc, H7 D = some (.lst acc) ∧ acc.length < sizeLine ∧ Nx1 (upd H7 D (.lst (acc ++ [y]))) else Nx1 H6) := by
  refine ⟨fun i m H => m = n - i ∧ i ≤ n ∧ Pv i H, ⟨n, by simp, Nat.zero_le _, h0⟩, ?_⟩
  rintro i m H ⟨rfl, hi, p⟩
  have q := hG i H hi p
  by_cases hlt : i < n
  · refine .inr ⟨w.goes i H hlt q, Pv (i + 1), fun H' p' => ⟨n - (i + 1), by omega, rfl, hlt, p'⟩, fun x H' y => hs i x H H' hlt p (w.yields i H x H' hlt q y)⟩
  · have e : i = n := by omega
    subst e
    exact .inl ⟨w.stops H q, hd H p⟩
theorem tyes {σ : St} {H : Hp} {F G : Hp → Prop} (h : F H) : tYes σ H fun b H3 => if b = true then F H3 else G H3 := by
  show if true = true then F H else G H
  rw [if_pos rfl]
  exact h
/-- an outer loop: what a turn does is told by B -/
theorem out_it {J : It} {n : Nat} {G : Hp → Prop} {Y : Nat → Hp → V → Hp → Prop} (w : Walk J n G Y) {H1 : Hp} {Qd : Hp → Prop} {B : V → Hp → (Hp → Prop) → Prop} (Pv : Nat → Hp → Prop) (h0 : Pv 0 H1) (hG : ∀ i H, i ≤ n → Pv i H → G H)
    (hs : ∀ i x H H', i < n → Pv i H → Y i H x H' → B x H' (Pv (i + 1))) (hd : ∀ H, Pv n H → Qd H) :
    ∃ W : Nat → Nat → Hp → Prop, (∃ m, W 0 m H1) ∧ ∀ i m H, W i m H →
      (J.stop i H ∧ Qd H) ∨ (J.go i H ∧ ∃ Nx : Hp → Prop, (∀ H', Nx H' → ∃ m', m' < m ∧ W (i + 1) m' H') ∧ ∀ x H', J.yld i H x H' → B x H' Nx) := by
  refine ⟨fun i m H => m = n - i ∧ i ≤ n ∧ Pv i H, ⟨n, by simp, Nat.zero_le _, h0⟩, ?_⟩
  rintro i m H ⟨rfl, hi, p⟩
  have q := hG i H hi p
  by_cases hlt : i < n
  · exact .inr ⟨w.goes i H hlt q, Pv (i + 1), fun H' p' => ⟨n - (i + 1), by omega, rfl, hlt, p'⟩, fun x H' y => hs i x H H' hlt p (w.yields i H x H' hlt q y)⟩
  · have e : i = n := by omega
    subst e
    exact .inl ⟨w.stops H q, hd H p⟩
section
variable {P : Program} {w : World} {K : PySem.W.Frag} {mg : Str → Option Value} {base : Heap}
def stage : Nat → List (List Int)
  | 0 => [[]]
  | n + 1 => (stage n).flatMap fun o => ext2 o 2
def spOrd : Sp := fun vs H Q _ => vs = [.int 2] ∧ ∀ H' p t1 t2, K0 H H' → H' p = some (.lst [.ref t1, .ref t2]) → H' t1 = some (.tup [.int 0, .int 1]) → H' t2 = some (.tup [.int 1, .int 0]) → Q (.ref p) H'
theorem sc59 : FnScope ["size", "found", "turn", "order", "at"] ["size"] (defScope (top 59)) := ⟨rfl, rfl, rfl, by decide +kernel, rfl, by decide +kernel, by decide +kernel⟩
theorem k_orders_of (T : Tx K mg) : FnG P w K mg base (L2N.CX P w) 1 714 spOrd := by
  obtain ⟨fd, F⟩ := T.forders_of
  refine fng_of F sc59 (F.bindsN fun _ _ _ _ _ _ us hl => match us, hl with | [_], _ => rfl) (fun vs H Q E h => ?_) (fun cdv A outer s H vs Q E hr hg h => ⟨_,
    pss_cons (ps_set (i := 1) sc59.nd rfl (Or.inl rfl) (pe_lst (pa_cons (pe_tup pa_nil) pa_nil)))
    (pss_cons (ps_for PassesOwn.leaving rfl (pi_range1 rfl T.brange (pa_cons (pv 0) pa_nil)) (pg_name (i := 2) sc59.nd rfl (Or.inl rfl))
      (pss_one (ps_setLc2 (i := 1) (own := [("order", 3), ("at", 4)]) (vs1 := [4]) (g := gName 3) (g1 := gName 4) (tt := tYes) rfl sc59.nd rfl rfl (sw_true rfl rfl rfl (by decide +kernel)) (pi_list (pv 1)) (blkOk_by (N := ["size", "found", "turn", "order", "at"]) (sc := defScope (top 59)) (by decide +kernel)) (by decide)
        (fun _ _ _ _ _ => pg_name (i := 3) sc59.nd rfl (Or.inl rfl)) (fun _ _ _ _ _ => pts_nil) (fun _ _ _ _ _ => pi_range1 rfl T.brange (pa_cons (pv 0) pa_nil)) (fun _ _ _ _ _ => pg_name (i := 4) sc59.nd rfl (Or.inl rfl))
        (fun _ _ _ _ _ => pts_one (pt_cmpR (r := rIn K true) op_notIn_seq (pv 4) (pv 3) rfl)) (fun _ _ _ _ _ => pe_tup (show PA _ _ (StX.tStar K (tVar 3) (tCons (tVar 4) tNil)) from StX.pa_star (pv 3) (pa_cons (pv 4) pa_nil))))))
    (pss_one (ps_ret (pv 1)))), ?_⟩)
  · obtain ⟨rfl, _⟩ := h
    rfl
  · obtain ⟨rfl, q⟩ := h
    refine ⟨Nat.zero_le _, fun t ht => ⟨by show 1 ≤ sizeLine; rw [sizeLine_eq]; omega, fun l hl => ?_⟩⟩
    have k0 : K0 H (upd (upd H t (.tup [])) l (.lst [.ref t])) := (kp_new ht).new hl
    refine ⟨_, rfl, 2, rfl, by decide, by decide, for_it walk_range (fun i σ H' => K0 H H' ∧ ∃ l ps u v x, σ = [some (.int 2), some (.ref l), u, v, x] ∧ H' l = some (.lst (ps.map V.ref)) ∧ PairT H' ps (stage i)) ⟨k0, l, [t], _, _, _, rfl, upd_same, .cons ?_ .nil⟩ (fun _ _ _ _ _ => trivial) ?_ ?_⟩
    · rw [upd_ne (ne_of_none upd_same hl), upd_same]
      rfl
    · rintro i x σ H1 H2 hi ⟨k, l, ps, u, v, x', rfl, hl, hps⟩ ⟨rfl, rfl⟩
      have small : ∀ o ∈ stage i, o.length ≤ 2 := by rcases two hi with rfl | rfl <;> decide
      have few : ps.length ≤ 2 := by
        rw [Paired.len hps]
        rcases two hi with rfl | rfl <;> decide
      refine ⟨_, rfl, l, rfl, ⟨_, SqL.of hl⟩, fun D hD => out_it (walk_list (xs := ps.map V.ref)) (fun j H' => K0 H2 H' ∧ ∃ qs, H' D = some (.lst (qs.map V.ref)) ∧ qs.length ≤ 2 * j ∧ PairT H' qs (((stage i).take j).flatMap fun o => ext2 o 2)) ⟨kp_new hD, [], upd_same, Nat.le_refl _, by rw [List.take_zero]; exact .nil⟩ (fun j H' _ p => SqL.of (p.1.at0 hl)) ?_ ?_⟩
      · rintro j x H3 H4 hj ⟨k3, qs, hD3, hlen, hqs⟩ ⟨rfl, hx⟩
        rw [List.length_map] at hj
        rw [List.getElem?_map] at hx
        obtain ⟨p, hp, rfl⟩ := Option.map_eq_some_iff.mp hx
        obtain ⟨o, ho, hpo⟩ := Paired.at_ hps hp
        have hol := small o (List.mem_of_getElem? ho)
        refine ⟨rfl, tyes ⟨_, rfl, 2, rfl, by decide, by decide, in_it walk_range (fun j2 H' => K0 H2 H' ∧ ∃ qs', H' D = some (.lst (qs'.map V.ref)) ∧ qs'.length ≤ 2 * j + j2 ∧ PairT H' qs' ((((stage i).take j).flatMap fun o => ext2 o 2) ++ ext2 o j2)) ⟨k3, qs, hD3, hlen, by show PairT _ _ (_ ++ []); rw [List.append_nil]; exact hqs⟩ (fun _ _ _ _ => trivial) ?_ ?_⟩⟩
        · rintro j2 x2 H5 H6 hj2 ⟨k5, qs', hD5, hlen5, hqs5⟩ ⟨rfl, rfl⟩
          have hp5 := (k5.at0 hpo)
          refine ⟨rfl, _, rfl, _, rfl, p, _, rfl, .inr (SqT.of hp5), rfl, flat_ints o, _, rfl, ?_⟩
          show if (!inV (.int (0 + (j2 : Int))) (o.map V.int)) = true then _ else _
          rw [inV_ints]
          have e2 : ext2 o (j2 + 1) = ext2 o j2 ++ (if o.contains (0 + (j2 : Int)) then [] else [o ++ [(0 + (j2 : Int))]]) := by
            unfold ext2
            have hj3 : j2 < 2 := hj2
            rcases two hj3 with rfl | rfl
            · cases hc : o.contains (0 + ((0 : Nat) : Int)) <;> simp_all
            · cases hc : o.contains (0 + ((1 : Nat) : Int)) <;> simp_all [List.filterMap_cons] <;> (split <;> rfl)
          cases hc : o.contains (0 + (j2 : Int)) with
          | true =>
            rw [hc, if_pos rfl, List.append_nil] at e2
            refine iff_ rfl ⟨k5, qs', hD5, Nat.le_succ_of_le hlen5, ?_⟩
            rw [e2]
            exact hqs5
          | false =>
            rw [hc, if_neg Bool.false_ne_true] at e2
            refine ift rfl ⟨_, rfl, p, _, rfl, .inl (SqT.of hp5), _, rfl, ?_, fun pn hpn => ⟨qs'.map V.ref, ?_, ?_, (k5.new hpn).own hD, qs' ++ [pn], ?_, ?_, ?_⟩⟩
            · rw [List.length_append, List.length_map, sizeLine_eq]
              show o.length + 1 ≤ _
              omega
            · rw [upd_ne (ne_of_none hD5 hpn)]
              exact hD5
            · rw [List.length_map, sizeLine_eq]
              have : j2 < 2 := hj2
              omega
            · rw [upd_same, List.map_append]
              rfl
            · rw [List.length_append]
              show qs'.length + 1 ≤ _
              omega
            · rw [e2, ← List.append_assoc]
              have nD : ∀ {c : Addr} {xs : List V}, H6 c = some (.tup xs) → upd (upd H6 pn (.tup ((o.map V.int) ++ [V.int (0 + (j2 : Int))]))) D (.lst (qs'.map V.ref ++ [V.ref pn])) c = some (.tup xs) := fun {c xs} e => by
                rw [upd_ne (ne_of e hD5 (fun z => by cases z)), upd_ne (ne_of_none e hpn)]
                exact e
              refine Paired.app (Paired.mp hqs5 fun _ _ e => nD e) ?_
              show upd _ D _ pn = _
              rw [upd_ne (Ne.symm (ne_of_none hD5 hpn)), upd_same, List.map_append]
              rfl
        · rintro H5 ⟨k5, qs', hD5, hlen5, hqs5⟩
          refine ⟨k5, qs', hD5, by omega, ?_⟩
          have et : (stage i).take (j + 1) = (stage i).take j ++ [o] := by
            rw [List.take_succ, ho]
            rfl
          rw [et, List.flatMap_append]
          show PairT H5 qs' (_ ++ (ext2 o 2 ++ []))
          rw [List.append_nil]
          exact hqs5
      · rintro H3 ⟨k3, qs, hD3, hlen, hqs⟩
        rw [List.length_map, Paired.len hps, List.take_length] at hqs
        exact ⟨k.trans k3, D, qs, _, _, _, rfl, hD3, hqs⟩
    · rintro σ H' ⟨k, l, ps, u, v, x', rfl, hl, hps⟩
      cases hps with
      | cons h1 hps =>
        cases hps with
        | cons h2 hps =>
          cases hps
          exact ⟨_, rfl, q H' l _ _ k hl h1 h2⟩
end
end SK
set_option maxHeartbeats 4000000
/-! SkI6: forward_of, swaps_of, is_wish, keeps. -/
namespace SK
open PySem PySem.Spec PyProof.Rows L2
section
variable {P : Program} {w : World} {K : PySem.W.Frag} {mg : Str → Option Value} {base : Heap}
def spFwd : Sp := fun vs H Q _ => ∃ rs t a b p q, vs = [.ref rs, .ref t] ∧ RowsAt H rs a b ∧ H t = some (.tup [.int p, .int q]) ∧ ((p = 0 ∧ q = 1) ∨ (p = 1 ∧ q = 0)) ∧ ∀ H', K0 H H' → Q (.int b) H'
theorem sc60 : FnScope ["rows", "order", "found", "at", "place", "thing"] ["rows", "order"] (defScope (top 60)) := ⟨rfl, rfl, rfl, by decide +kernel, rfl, by decide +kernel, by decide +kernel⟩
theorem k_forward_of (T : Tx K mg) : FnG P w K mg base (L2N.CX P w) 1 719 spFwd := by
  obtain ⟨fd, F⟩ := T.fforward_of
  refine fng_of F sc60 (F.bindsN fun _ _ _ _ _ _ us hl => match us, hl with | [_, _], _ => rfl) (fun vs H Q E h => ?_) (fun cdv A outer s H vs Q E hr hg h => ⟨_,
    pss_cons (ps_set (i := 2) sc60.nd rfl (Or.inl rfl) pe_int)
    (pss_cons (ps_for PassesOwn.leaving rfl (pi_enumT rfl T.benumerate (pv 1)) (pg_tup rfl (pgs_cons (pg_name (i := 3) sc60.nd rfl (Or.inl rfl)) (pgs_cons (pg_name (i := 4) sc60.nd rfl (Or.inr rfl)) pgs_nil)))
      (pss_one (ps_aug (i := 2) sc60.nd rfl (Or.inl rfl) (c_sum T rfl (pa_cons (pe_lc (own := [("thing", 5)]) (g := gName 5) (tt := tYes) rfl sc60.nd (pi_tup (pe_slice sl_tupA (pv 1) (po_some (pe_op op_add (pv 3) pe_int)) po_none)) (blkOk_by (N := ["rows", "order", "found", "at", "place", "thing"]) (sc := defScope (top 60)) (by decide +kernel))
        (fun _ _ _ _ _ => pg_name (i := 5) sc60.nd rfl (Or.inl rfl)) (fun _ _ _ _ _ => pts_nil) (fun _ _ _ _ _ => pe_ix (r := rIxT K) ix_tup (pe_ix (r := rIxT K) ix_tup (pv 0) (pv 4) (fun _ _ => rfl)) (pv 5) (fun _ _ => rfl))) pa_nil)) ip_add)))
    (pss_one (ps_ret (pv 2)))), ?_⟩)
  · obtain ⟨_, _, _, _, _, _, rfl, _⟩ := h
    rfl
  · obtain ⟨rs, t, a, b, p, q', rfl, ⟨r0, r1, e0, e1, e2⟩, ht, hpq, q⟩ := h
    refine ⟨_, rfl, t, _, rfl, SqT.of ht, for_it walk_enumT (fun i σ H' => K0 H H' ∧ ∃ u v o, σ = [some (.ref rs), some (.ref t), some (.int (if i = 0 then 0 else b)), u, v, o]) ⟨Kp.refl _, _, _, _, rfl⟩ (fun i σ H' _ p => SqT.of (p.1.tup ht)) ?_ ?_⟩
    · rintro i x σ H1 H2 hi ⟨k, u, v, o, rfl⟩ ⟨tt, x0, y0, rfl, hn, rfl, f1, f2⟩
      have k2 : K0 H (upd H1 tt (.tup [x0, y0])) := k.new hn
      refine ⟨tt, [x0, y0], rfl, SqT.of upd_same, rfl, _, _, rfl, _, _, rfl, rfl, _, rfl, ?_⟩
      rcases two hi with rfl | rfl
      · cases f1
        cases f2
        refine ⟨_, rfl, _, rfl, _, _, rfl, rfl, _, rfl, t, _, rfl, SqT.of (k2.tup ht), fun z => absurd z.1 (by show ¬ HT.sIx 2 0 (some 1) = 0; decide), fun _ c hc => ⟨c, rfl, ⟨[.int q'], SqT.of upd_same⟩, fun D hD => ?_⟩⟩
        have k3 := k2.new (o := .tup (cutV [V.int p, V.int q'] (some (((0 : Nat) : Int) + 1)) none)) hc
        refine lc_map (walk_tup (xs := [.int q'])) [.int b] rfl (by show 1 ≤ sizeLine; rw [sizeLine_eq]; omega) hD (fun H3 k => SqT.of (k.tup upd_same)) (fun i x H3 H4 R hi k y hR => ?_) fun H3 k4 g3 => ?_
        · obtain ⟨rfl, hx⟩ := y
          obtain rfl : i = 0 := by
            have : i < 1 := hi
            omega
          cases hx
          have kk := k3.trans k
          rcases hpq with ⟨rfl, rfl⟩ | ⟨rfl, rfl⟩
          · exact ⟨rfl, _, rfl, _, rfl, rs, _, 0, _, rfl, rfl, SqT.of (kk.tup e0), rfl, _, rfl, r0, _, 1, _, rfl, rfl, SqT.of (kk.tup e1), rfl, hR _ _ (Kp.refl _) rfl⟩
          · exact ⟨rfl, _, rfl, _, rfl, rs, _, 1, _, rfl, rfl, SqT.of (kk.tup e0), rfl, _, rfl, r1, _, 0, _, rfl, rfl, SqT.of (kk.tup e2), rfl, hR _ _ (Kp.refl _) rfl⟩
        · exact ⟨D, [b], rfl, SqL.of g3, 0, b, rfl, by simp, k3.trans k4, some (.int ((0 : Nat) : Int)), some (.int p), o, by simp⟩
      · cases f1
        cases f2
        refine ⟨_, rfl, _, rfl, _, _, rfl, rfl, _, rfl, t, _, rfl, SqT.of (k2.tup ht), fun z => absurd z.1 (by show ¬ HT.sIx 2 0 (some 2) = 0; decide), fun _ c hc => ⟨c, rfl, ⟨[], SqT.of upd_same⟩, fun D hD => ?_⟩⟩
        have k3 := k2.new (o := .tup (cutV [V.int p, V.int q'] (some (((1 : Nat) : Int) + 1)) none)) hc
        refine lc_map (walk_tup (xs := [])) [] rfl (by show 0 ≤ sizeLine; omega) hD (fun H3 k => SqT.of (k.tup upd_same)) (fun i x H3 H4 R hi k y hR => absurd hi (by show ¬ i < 0; omega)) fun H3 k4 g3 => ?_
        exact ⟨D, [], rfl, SqL.of g3, b, 0, rfl, by simp, k3.trans k4, some (.int ((1 : Nat) : Int)), some (.int q'), o, by simp⟩
    · rintro σ H' ⟨k, u, v, o, rfl⟩
      exact ⟨_, rfl, q H' k⟩
def spSwaps : Sp := fun vs H Q _ => ∃ rs a b, vs = [.ref rs] ∧ RowsAt H rs a b ∧ ∀ H', K0 H H' → Q (.int b) H'
theorem sc61 : FnScope ["rows", "order"] ["rows"] (defScope (top 61)) := ⟨rfl, rfl, rfl, by decide +kernel, rfl, by decide +kernel, by decide +kernel⟩
theorem k_swaps_of (T : Tx K mg) : FnG P w K mg base (L2N.CX P w) 2 724 spSwaps := by
  obtain ⟨fd, F⟩ := T.fswaps_of
  obtain ⟨fd1, F1⟩ := T.forders_of
  obtain ⟨fd2, F2⟩ := T.fforward_of
  refine fng_of F sc61 (F.bindsN fun _ _ _ _ _ _ us hl => match us, hl with | [_], _ => rfl) (fun vs H Q E h => ?_) (fun cdv A outer s H vs Q E hr hg h => ⟨_,
    pss_one (ps_ret (c_max T rfl (pa_cons (pe_lc (own := [("order", 1)]) (g := gName 1) (tt := tYes) rfl sc61.nd (pi_list (pe_g (E := EF) (k_orders_of T) hr hg (passF noXN) rfl T.gorders_of F1.kp (pa_cons (c_len T (pa_cons (pv 0) pa_nil)) pa_nil))) (blkOk_by (N := ["rows", "order"]) (sc := defScope (top 61)) (by decide +kernel))
        (fun _ _ _ _ _ => pg_name (i := 1) sc61.nd rfl (Or.inl rfl)) (fun _ _ _ _ _ => pts_nil) (fun _ _ _ _ _ => pe_g (E := EF) (k_forward_of T) hr hg (passF noXN) rfl T.gforward_of F2.kp (pa_cons (pv 0) (pa_cons (pv 1) pa_nil)))) pa_nil))), ?_⟩)
  · obtain ⟨_, _, _, rfl, _⟩ := h
    rfl
  · obtain ⟨rs, a, b, rfl, hR, q⟩ := h
    obtain ⟨r0, r1, e0, e1, e2⟩ := id hR
    refine ⟨_, rfl, rs, _, rfl, .inr (SqT.of e0), rfl, fun H1 p t1 t2 k1 hp h1 h2 => ⟨p, rfl, ⟨_, SqL.of hp⟩, fun D hD => lc_map (walk_list (xs := [.ref t1, .ref t2])) [.int b, .int b] rfl sz2 hD (fun H3 k => SqL.of (k.at0 hp)) (fun i x H3 H4 R hi k y hR' => ?_) fun H3 k3 g3 => ?_⟩⟩
    · obtain ⟨rfl, hx⟩ := y
      rcases two hi with rfl | rfl
      · cases hx
        exact ⟨rfl, _, rfl, _, rfl, rs, t1, a, b, 0, 1, rfl, hR.kp (k1.trans k), k.tup h1, .inl ⟨rfl, rfl⟩, fun H' k' => hR' _ _ k' rfl⟩
      · cases hx
        exact ⟨rfl, _, rfl, _, rfl, rs, t2, a, b, 1, 0, rfl, hR.kp (k1.trans k), k.tup h2, .inr ⟨rfl, rfl⟩, fun H' k' => hR' _ _ k' rfl⟩
    · refine ⟨D, [b, b], rfl, SqL.of g3, by simp, fun m hm _ => ?_⟩
      have : m = b := by simpa using hm
      subst this
      exact q H3 (k1.trans k3)
def WishAt (H : Hp) (t : Addr) (n : Int) : Prop := H t = some (.tup [.str "swaps", .int n])
theorem WishAt.kp {M : Addr → Prop} {H H1 : Hp} {t : Addr} {n : Int} (x : WishAt H t n) (k : Kp M H H1) : WishAt H1 t n := k.tup x
def spIsWish : Sp := fun vs H Q _ => ∃ t n, vs = [.ref t] ∧ WishAt H t n ∧ 0 ≤ n ∧ Q (.bl true) H
theorem sc81 : FnScope ["value"] ["value"] (defScope (top 81)) := ⟨rfl, rfl, rfl, by decide +kernel, rfl, by decide +kernel, by decide +kernel⟩
theorem sq_WORDS (T : Tx K mg) (H : Hp) : SqT K H 929 [.str "swaps", .str "moves", .str "rings", .str "out"] := by
  obtain ⟨its, n, h1, h2⟩ := T.kWORDS
  have hl : its.length = 4 := h2.length.symm
  exact .inr ⟨_, its.toArray, n, h1, rfl, rfl, by rw [List.size_toArray, hl, sizeLine_eq]; omega, h2⟩
theorem k_is_wish (T : Tx K mg) : FnG P w K mg base (L2N.CX P w) 3 936 spIsWish := by
  obtain ⟨fd, F⟩ := T.fis_wish
  obtain ⟨fd1, F1⟩ := T.fis_count
  refine fng_of F sc81 (F.bindsN fun _ _ _ _ _ _ us hl => match us, hl with | [_], _ => rfl) (fun vs H Q E h => ?_) (fun cdv A outer s H vs Q E hr hg h => ⟨_,
    pss_cons (ps_if (PW.pt (pw_or (pt_not (pt_val (c_isi T (pa_cons (pv 0) (pa_cons (n_tuple T) pa_nil))))) (pw_or (pt_cmpR op_ne (c_len T (pa_cons (pv 0) pa_nil)) pe_int (nomark _))
      (pw_or1 (pt_not (pt_val (c_isi T (pa_cons (pe_ix ix_tup (pv 0) pe_int (fun _ _ => rfl)) (pa_cons (n_str T) pa_nil))))))))) (pss_one (ps_ret pe_bl)) pss_nil)
    (pss_one (ps_ret (pe_and (pe_cmpR op_in_seq (pe_ix ix_tup (pv 0) pe_int (fun _ _ => rfl)) (pe_glob (v := .ref 929) rfl T.gWORDS rfl) rfl) (pe_one (pe_g (E := EF) (k_is_count T) hr hg (passF noXN) rfl T.gis_count F1.kp (pa_cons (pe_ix ix_tup (pv 0) pe_int (fun _ _ => rfl)) pa_nil)))))), ?_⟩)
  · obtain ⟨_, _, rfl, _⟩ := h
    rfl
  · obtain ⟨t, n, rfl, ht, hn, q⟩ := h
    refine ⟨_, rfl, _, _, _, _, _, rfl, .ty "tuple", .base (.tup ht), is_tt, true, rfl, iff_ rfl ?_⟩
    refine ⟨_, rfl, t, _, rfl, .inr (SqT.of ht), rfl, false, rfl, iff_ rfl ?_⟩
    refine ⟨_, rfl, t, _, 0, _, rfl, rfl, SqT.of ht, rfl, _, _, _, _, _, rfl, .ty "str", .base (.str _), is_ss, true, rfl, iff_ rfl ?_⟩
    refine ⟨_, rfl, t, _, 0, _, rfl, rfl, SqT.of ht, rfl, 929, _, rfl, .inr (sq_WORDS T _), rfl, rfl, true, rfl, ift rfl ?_⟩
    refine ⟨_, rfl, t, _, 1, _, rfl, rfl, SqT.of ht, rfl, n, rfl, ?_⟩
    rw [decide_eq_true hn]
    exact q
def spKeeps : Sp := fun vs H Q _ => ∃ y t a b n, vs = [.ref y, .ref t] ∧ YardAt H y a b ∧ WishAt H t n ∧ ∀ H', K0 H H' → Q (.bl (decide (b ≤ n))) H'
theorem sc82 : FnScope ["yard", "wish", "number", "ring"] ["yard", "wish"] (defScope (top 82)) := ⟨rfl, rfl, rfl, by decide +kernel, rfl, by decide +kernel, by decide +kernel⟩
theorem k_keeps (T : Tx K mg) : FnG P w K mg base (L2N.CX P w) 4 941 spKeeps := by
  obtain ⟨fd, F⟩ := T.fkeeps
  obtain ⟨fd1, F1⟩ := T.fswaps_of
  refine fng_of F sc82 (F.bindsN fun _ _ _ _ _ _ us hl => match us, hl with | [_, _], _ => rfl) (fun vs H Q E h => ?_) (fun cdv A outer s H vs Q E hr hg h => ⟨_,
    pss_cons (ps_if (pt_cmpR op_eq (pe_ix ix_tup (pv 1) pe_int (fun _ _ => rfl)) pe_str (nomark _))
      (pss_one (ps_ret (pe_cmpR op_le (pe_g (E := EF) (k_swaps_of T) (hr.mono (by omega)) hg (passF noXN) rfl T.gswaps_of F1.kp (pa_cons (pe_propSlG (pv 0) T.scYard T.prows (k_Yard_rows T) (hr.mono (by omega)) hg noXN) pa_nil)) (pe_ix ix_tup (pv 1) pe_int (fun _ _ => rfl)) (nomark _)))) pss_nil)
    pss_never, ?_⟩)
  · obtain ⟨_, _, _, _, _, rfl, _⟩ := h
    rfl
  · obtain ⟨y, t, a, b, n, rfl, hY, ht, q⟩ := h
    obtain ⟨dx, vs0, ks, rs, h1, h2, h3, h4, h5⟩ := id hY
    refine ⟨_, rfl, t, _, 0, _, rfl, rfl, SqT.of ht, rfl, rfl, true, rfl, ift rfl ?_⟩
    refine ⟨_, rfl, y, dx, vs0, rfl, h1, y, a, b, rfl, hY, fun rs2 hrs => ⟨rs2, a, b, rfl, hrs, fun H' k => ?_⟩⟩
    exact ⟨_, rfl, t, _, 1, _, rfl, rfl, SqT.of (ht.kp k), rfl, _, _, rfl, rfl, q H' k⟩
end
end SK
set_option maxHeartbeats 4000000
/-! SkJ1: the __init__s; libraries on the heap. -/
namespace SK
open PySem PySem.Spec PyProof.Rows L2
section
variable {P : Program} {w : World} {K : PySem.W.Frag} {mg : Str → Option Value} {base : Heap}
/-! ### the errors' __init__ -/
theorem scE (st : Stmt) (f : Str) (h : FnScope ["self", f] ["self", f] (defScope st)) : FnScope ["self", f] ["self", f] (defScope st) := h
theorem k_iUnknown (T : Tx K mg) : FnG P w K mg base (L2N.CX P w) 1 289 (spErr K 292 "given") := by
  obtain ⟨fd, F⟩ := T.fUnknownName__init__
  have S : FnScope ["self", "given"] ["self", "given"] (defScope (inClass (top 16) 0)) := ⟨rfl, rfl, rfl, by decide +kernel, rfl, by decide +kernel, by decide +kernel⟩
  refine fng_of F S (F.bindsN fun _ _ _ _ _ _ us hl => match us, hl with | [_, _], _ => rfl) (fun vs H Q E h => ?_) (fun cdv A outer s H vs Q E hr hg h => ⟨_, pss_one (ps_osg (pv 0) (pv 1)), ?_⟩)
  · obtain ⟨_, _, rfl, _⟩ := h
    rfl
  · obtain ⟨a, v, rfl, ea, T1, hno, q⟩ := h
    exact ⟨_, rfl, _, rfl, a, 292, rfl, T1, hno, ea, q⟩
theorem k_iInUse (T : Tx K mg) : FnG P w K mg base (L2N.CX P w) 1 308 (spErr K 311 "index") := by
  obtain ⟨fd, F⟩ := T.fInUse__init__
  have S : FnScope ["self", "index"] ["self", "index"] (defScope (inClass (top 17) 0)) := ⟨rfl, rfl, rfl, by decide +kernel, rfl, by decide +kernel, by decide +kernel⟩
  refine fng_of F S (F.bindsN fun _ _ _ _ _ _ us hl => match us, hl with | [_, _], _ => rfl) (fun vs H Q E h => ?_) (fun cdv A outer s H vs Q E hr hg h => ⟨_, pss_one (ps_osg (pv 0) (pv 1)), ?_⟩)
  · obtain ⟨_, _, rfl, _⟩ := h
    rfl
  · obtain ⟨a, v, rfl, ea, T1, hno, q⟩ := h
    exact ⟨_, rfl, _, rfl, a, 311, rfl, T1, hno, ea, q⟩
theorem k_iIndex (T : Tx K mg) : FnG P w K mg base (L2N.CX P w) 1 162 (spErr K 165 "given") := by
  obtain ⟨fd, F⟩ := T.fInvalidIndex__init__
  have S : FnScope ["self", "given"] ["self", "given"] (defScope (inClass (top 9) 0)) := ⟨rfl, rfl, rfl, by decide +kernel, rfl, by decide +kernel, by decide +kernel⟩
  refine fng_of F S (F.bindsN fun _ _ _ _ _ _ us hl => match us, hl with | [_, _], _ => rfl) (fun vs H Q E h => ?_) (fun cdv A outer s H vs Q E hr hg h => ⟨_, pss_one (ps_osg (pv 0) (pv 1)), ?_⟩)
  · obtain ⟨_, _, rfl, _⟩ := h
    rfl
  · obtain ⟨a, v, rfl, ea, T1, hno, q⟩ := h
    exact ⟨_, rfl, _, rfl, a, 165, rfl, T1, hno, ea, q⟩
theorem k_iBroken (T : Tx K mg) : FnG P w K mg base (L2N.CX P w) 1 428 (spErr K 431 "index") := by
  obtain ⟨fd, F⟩ := T.fBroken__init__
  have S : FnScope ["self", "index"] ["self", "index"] (defScope (inClass (top 24) 0)) := ⟨rfl, rfl, rfl, by decide +kernel, rfl, by decide +kernel, by decide +kernel⟩
  refine fng_of F S (F.bindsN fun _ _ _ _ _ _ us hl => match us, hl with | [_, _], _ => rfl) (fun vs H Q E h => ?_) (fun cdv A outer s H vs Q E hr hg h => ⟨_, pss_one (ps_osg (pv 0) (pv 1)), ?_⟩)
  · obtain ⟨_, _, rfl, _⟩ := h
    rfl
  · obtain ⟨a, v, rfl, ea, T1, hno, q⟩ := h
    exact ⟨_, rfl, _, rfl, a, 431, rfl, T1, hno, ea, q⟩
theorem k_iGreat (T : Tx K mg) : FnG P w K mg base (L2N.CX P w) 1 397 (spErr K 400 "given") := by
  obtain ⟨fd, F⟩ := T.fTooGreat__init__
  have S : FnScope ["self", "given"] ["self", "given"] (defScope (inClass (top 22) 0)) := ⟨rfl, rfl, rfl, by decide +kernel, rfl, by decide +kernel, by decide +kernel⟩
  refine fng_of F S (F.bindsN fun _ _ _ _ _ _ us hl => match us, hl with | [_, _], _ => rfl) (fun vs H Q E h => ?_) (fun cdv A outer s H vs Q E hr hg h => ⟨_, pss_one (ps_osg (pv 0) (pv 1)), ?_⟩)
  · obtain ⟨_, _, rfl, _⟩ := h
    rfl
  · obtain ⟨a, v, rfl, ea, T1, hno, q⟩ := h
    exact ⟨_, rfl, _, rfl, a, 400, rfl, T1, hno, ea, q⟩
/-! ### libraries on the heap -/
structure Snap where
  ys : List (Str × Int × Int)
  ps : List (Str × Int)
def Ys (H : Hp) : List (Str × Int × Int) → List (Key × V) → Prop
  | [], [] => True
  | (n, w, m) :: r, kv :: r' => (∃ y, kv = (Sum.inr n, V.ref y) ∧ YardAt H y w m) ∧ Ys H r r'
  | _, _ => False
def YardsAt (H : Hp) (d : Addr) (ys : List (Str × Int × Int)) : Prop := ∃ kvs : List (Key × V), H d = some (.dK kvs) ∧ Ys H ys kvs
def PairAt (H : Hp) (t : Addr) (n : Str) (m : Int) : Prop := ∃ t', H t = some (.tup [.str n, .ref t']) ∧ WishAt H t' m
def Pz (H : Hp) : List (Str × Int) → List V → Prop
  | [], [] => True
  | (n, m) :: r, x :: r' => (∃ t, x = V.ref t ∧ PairAt H t n m) ∧ Pz H r r'
  | _, _ => False
def PairsAt (H : Hp) (t : Addr) (ps : List (Str × Int)) : Prop := ∃ xs : List V, H t = some (.tup xs) ∧ Pz H ps xs
def ShapeAt (H : Hp) : Addr → List Snap → Prop
  | _, [] => False
  | p, s :: r => ∃ dx d t ah, H p = some (.ins 958 dx [("yards", .ref d), ("pairs", .ref t), ("ahead", ah), ("many", .int r.length)]) ∧ YardsAt H d s.ys ∧ PairsAt H t s.ps ∧ match r with
    | [] => ah = .non
    | _ :: _ => ∃ p', ah = .ref p' ∧ ShapeAt H p' r
def LibAt (H : Hp) (L : Addr) (l : List Snap) : Prop := ∃ dx p, H L = some (.ins 1155 dx [("shape", .ref p)]) ∧ ShapeAt H p l
section
variable {M : Addr → Prop} {H H1 : Hp}
theorem Ys.kp (k : Kp M H H1) : ∀ {ys : List (Str × Int × Int)} {kvs : List (Key × V)}, Ys H ys kvs → Ys H1 ys kvs
  | [], [], _ => True.intro
  | (_, _, _) :: _, _ :: _, ⟨⟨y, e, h⟩, t⟩ => ⟨⟨y, e, h.kp k⟩, Ys.kp k t⟩
  | [], _ :: _, h => h.elim
  | _ :: _, [], h => h.elim
theorem YardsAt.kp {d : Addr} {ys : List (Str × Int × Int)} (x : YardsAt H d ys) (k : Kp M H H1) : YardsAt H1 d ys := by
  obtain ⟨kvs, h1, h2⟩ := x
  exact ⟨kvs, k.im h1 trivial, h2.kp k⟩
theorem PairAt.kp {t : Addr} {n : Str} {m : Int} (x : PairAt H t n m) (k : Kp M H H1) : PairAt H1 t n m := by
  obtain ⟨t', h1, h2⟩ := x
  exact ⟨t', k.tup h1, h2.kp k⟩
theorem Pz.kp (k : Kp M H H1) : ∀ {ps : List (Str × Int)} {xs : List V}, Pz H ps xs → Pz H1 ps xs
  | [], [], _ => True.intro
  | (_, _) :: _, _ :: _, ⟨⟨t, e, h⟩, r⟩ => ⟨⟨t, e, h.kp k⟩, Pz.kp k r⟩
  | [], _ :: _, h => h.elim
  | _ :: _, [], h => h.elim
theorem PairsAt.kp {t : Addr} {ps : List (Str × Int)} (x : PairsAt H t ps) (k : Kp M H H1) : PairsAt H1 t ps := by
  obtain ⟨xs, h1, h2⟩ := x
  exact ⟨xs, k.tup h1, h2.kp k⟩
theorem ShapeAt.kp (k : Kp M H H1) : ∀ {l : List Snap} {p : Addr}, ShapeAt H p l → ShapeAt H1 p l
  | [], _, x => x
  | s :: r, p, ⟨dx, d, t, ah, h1, h2, h3, h4⟩ => ⟨dx, d, t, ah, k.im h1 ⟨by decide, by decide⟩, h2.kp k, h3.kp k, by
    cases r with
    | nil => exact h4
    | cons s' r' =>
      obtain ⟨p', e, h5⟩ := h4
      exact ⟨p', e, ShapeAt.kp k h5⟩⟩
/-- a library that isn't touched -/
theorem LibAt.st {L : Addr} {l : List Snap} (x : LibAt H L l) (k : Kp M H H1) (n : ¬ M L) : LibAt H1 L l := by
  obtain ⟨dx, p, h1, h2⟩ := x
  exact ⟨dx, p, k.st h1 n, ShapeAt.kp k h2⟩
theorem LibAt.k0 {L : Addr} {l : List Snap} (x : LibAt H L l) (k : K0 H H1) : LibAt H1 L l := x.st k id
end
section
variable {H : Hp}
theorem Ys.len : ∀ {ys : List (Str × Int × Int)} {kvs : List (Key × V)}, Ys H ys kvs → kvs.length = ys.length
  | [], [], _ => rfl
  | (_, _, _) :: _, _ :: _, ⟨_, t⟩ => congrArg Nat.succ (Ys.len t)
  | [], _ :: _, h => h.elim
  | _ :: _, [], h => h.elim
theorem Ys.keys : ∀ {ys : List (Str × Int × Int)} {kvs : List (Key × V)}, Ys H ys kvs → kvs.map (·.1) = (ys.map (·.1)).map Sum.inr
  | [], [], _ => rfl
  | (_, _, _) :: _, _ :: _, ⟨⟨y, e, _⟩, t⟩ => by
    rw [List.map_cons, List.map_cons, List.map_cons, Ys.keys t, e]
  | [], _ :: _, h => h.elim
  | _ :: _, [], h => h.elim
theorem Ys.look {n : Str} : ∀ {ys : List (Str × Int × Int)} {kvs : List (Key × V)}, Ys H ys kvs → match ys.lookup n with
    | some v => ∃ y, valV kvs (Sum.inr n) = some (V.ref y) ∧ YardAt H y v.1 v.2
    | none => valV kvs (Sum.inr n) = none
  | [], [], _ => rfl
  | (k, w, m) :: r, _ :: r', ⟨⟨y, e, h⟩, t⟩ => by
    subst e
    by_cases hn : n = k
    · subst hn
      rw [show List.lookup n ((n, w, m) :: r) = some (w, m) by simp [List.lookup]]
      exact ⟨y, valV_pos rfl, h⟩
    · rw [show List.lookup n ((k, w, m) :: r) = List.lookup n r by simp [List.lookup, beq_eq_false_iff_ne.mpr hn]]
      rw [valV_neg (fun z => hn (Sum.inr.inj z).symm)]
      exact Ys.look t
  | [], _ :: _, h => h.elim
  | _ :: _, [], h => h.elim
def putY (ys : List (Str × Int × Int)) (n : Str) (v : Int × Int) : List (Str × Int × Int) := if (ys.lookup n).isSome = true then ys.map (fun kv => if kv.1 = n then (kv.1, v) else kv) else ys ++ [(n, v)]
theorem Ys.app : ∀ {ys zs : List (Str × Int × Int)} {kvs lvs : List (Key × V)}, Ys H ys kvs → Ys H zs lvs → Ys H (ys ++ zs) (kvs ++ lvs)
  | [], _, [], _, _, h => h
  | (_, _, _) :: _, _, _ :: _, _, ⟨e, t⟩, h => ⟨e, Ys.app t h⟩
  | [], _, _ :: _, _, h, _ => h.elim
  | _ :: _, _, [], _, h, _ => h.elim
theorem Ys.mapP {n : Str} {y : Addr} {v : Int × Int} (hy : YardAt H y v.1 v.2) : ∀ {ys : List (Str × Int × Int)} {kvs : List (Key × V)}, Ys H ys kvs →
    Ys H (ys.map (fun kv => if kv.1 = n then (kv.1, v) else kv)) (kvs.map fun kv => if kv.1 = Sum.inr n then (kv.1, V.ref y) else kv)
  | [], [], _ => True.intro
  | (k, w, m) :: r, _ :: r', ⟨⟨y', e, h⟩, t⟩ => by
    subst e
    rw [List.map_cons, List.map_cons]
    by_cases hn : k = n
    · subst hn
      rw [if_pos rfl, if_pos rfl]
      exact ⟨⟨y, rfl, hy⟩, Ys.mapP hy t⟩
    · rw [if_neg hn, if_neg (fun z => hn (Sum.inr.inj z))]
      exact ⟨⟨y', rfl, h⟩, Ys.mapP hy t⟩
  | [], _ :: _, h => h.elim
  | _ :: _, [], h => h.elim
theorem Ys.put {n : Str} {y : Addr} {v : Int × Int} {ys : List (Str × Int × Int)} {kvs : List (Key × V)} (x : Ys H ys kvs) (hy : YardAt H y v.1 v.2) : Ys H (putY ys n v) (putK kvs (Sum.inr n) (V.ref y)) := by
  have l := x.look (n := n)
  unfold putY putK
  rw [valV_any]
  cases e : ys.lookup n with
  | none =>
    rw [e] at l
    rw [show valV kvs (Sum.inr n) = none from l, if_neg (by simp), if_neg (by simp)]
    exact x.app ⟨⟨y, rfl, hy⟩, True.intro⟩
  | some u =>
    rw [e] at l
    obtain ⟨y', l, _⟩ := l
    rw [l, if_pos (show (some u).isSome = true from rfl), if_pos (show (some (V.ref y')).isSome = true from rfl)]
    exact x.mapP hy
theorem Pz.len : ∀ {ps : List (Str × Int)} {xs : List V}, Pz H ps xs → xs.length = ps.length
  | [], [], _ => rfl
  | (_, _) :: _, _ :: _, ⟨_, t⟩ => congrArg Nat.succ (Pz.len t)
  | [], _ :: _, h => h.elim
  | _ :: _, [], h => h.elim
theorem Pz.get {i : Nat} {x : V} : ∀ {ps : List (Str × Int)} {xs : List V} {i : Nat} {x : V}, Pz H ps xs → xs[i]? = some x → ∃ n m t, ps[i]? = some (n, m) ∧ x = V.ref t ∧ PairAt H t n m
  | (n, m) :: _, _ :: _, 0, _, ⟨⟨t, e, h⟩, _⟩, hx => by
    cases hx
    exact ⟨n, m, t, rfl, e, h⟩
  | (_, _) :: r, _ :: _, i + 1, _, ⟨_, t⟩, hx => Pz.get (i := 0) (x := V.non) (ps := r) t hx
  | [], [], _, _, _, hx => by cases hx
  | [], _ :: _, _, _, h, _ => h.elim
  | _ :: _, [], _, _, h, _ => h.elim
theorem Pz.app : ∀ {ps qs : List (Str × Int)} {xs ys : List V}, Pz H ps xs → Pz H qs ys → Pz H (ps ++ qs) (xs ++ ys)
  | [], _, [], _, _, h => h
  | (_, _) :: _, _, _ :: _, _, ⟨e, t⟩, h => ⟨e, Pz.app t h⟩
  | [], _, _ :: _, _, h, _ => h.elim
  | _ :: _, _, [], _, h, _ => h.elim
theorem Pz.take : ∀ (i : Nat) {ps : List (Str × Int)} {xs : List V}, Pz H ps xs → Pz H (ps.take i) (xs.take i)
  | 0, _, _, _ => by rw [List.take_zero, List.take_zero]; exact True.intro
  | _ + 1, [], [], _ => True.intro
  | i + 1, (_, _) :: _, _ :: _, ⟨e, t⟩ => ⟨e, Pz.take i t⟩
  | _ + 1, [], _ :: _, h => h.elim
  | _ + 1, _ :: _, [], h => h.elim
theorem Pz.drop : ∀ (i : Nat) {ps : List (Str × Int)} {xs : List V}, Pz H ps xs → Pz H (ps.drop i) (xs.drop i)
  | 0, _, _, h => h
  | _ + 1, [], [], _ => True.intro
  | i + 1, (_, _) :: _, _ :: _, ⟨_, t⟩ => Pz.drop i t
  | _ + 1, [], _ :: _, h => h.elim
  | _ + 1, _ :: _, [], h => h.elim
end
/-! ### Shape(..), Begun(..), Venture(..), Library() -/
def spShape : Sp := fun vs H Q _ => ∃ a dx d t ah r, vs = [.ref a, .ref d, .ref t, ah] ∧ H a = some (.ins 958 dx []) ∧
  ((ah = .non ∧ r = 0) ∨ ∃ p dx' d' t' ah' n, ah = .ref p ∧ H p = some (.ins 958 dx' [("yards", d'), ("pairs", t'), ("ahead", ah'), ("many", .int n)]) ∧ r = n + 1) ∧
  ∀ H', (∀ c o, H c = some o → c ≠ a → H' c = some o) → H' a = some (.ins 958 dx [("yards", .ref d), ("pairs", .ref t), ("ahead", ah), ("many", .int r)]) → Q .non H'
theorem lt_putF {f : Str} {v : V} {n : Nat} : ∀ {fs : List (Str × V)}, fs.length < n → (putF f v fs).length < n + 1
  | [], h => by show 1 < n + 1; simp at h; omega
  | (g, x) :: r, h => by
    show (if g = f then (g, v) :: r else (g, x) :: putF f v r).length < n + 1
    have h' : r.length + 1 < n := h
    split
    · show r.length + 1 < n + 1
      omega
    · have := lt_putF (f := f) (v := v) (n := n - 1) (fs := r) (by omega)
      show (putF f v r).length + 1 < n + 1
      omega
theorem k_Shape (T : Tx K mg) : FnG P w K mg base (L2N.CX P w) 1 955 spShape := by
  obtain ⟨fd, F⟩ := T.fShape__init__
  have S : FnScope ["self", "yards", "pairs", "ahead"] ["self", "yards", "pairs", "ahead"] (defScope (inClass (top 84) 0)) := ⟨rfl, rfl, rfl, by decide +kernel, rfl, by decide +kernel, by decide +kernel⟩
  refine fng_of F S (F.bindsN fun _ _ _ _ _ _ us hl => match us, hl with | [_, _, _, _], _ => rfl) (fun vs H Q E h => ?_) (fun cdv A outer s H vs Q E hr hg h => ⟨_,
    pss_cons (ps_fld (pv 0) (pv 1) rfl) (pss_cons (ps_fld (pv 0) (pv 2) rfl) (pss_cons (ps_fld (pv 0) (pv 3) rfl)
    (pss_one (ps_fld (pv 0) (pe_ifExp (pt_cmpR op_isN (pv 3) pe_non (nomark _)) pe_int (pe_op op_add (pe_fld (pv 3) rfl) pe_int)) rfl)))), ?_⟩)
  · obtain ⟨_, _, _, _, _, _, rfl, _⟩ := h
    rfl
  · obtain ⟨a, dx, d, t, ah, r, rfl, ea, hah, q⟩ := h
    refine ⟨_, rfl, _, rfl, a, 958, dx, _, rfl, ea, T.clShape, T.nShapeyards, by decide, ?_⟩
    refine ⟨_, rfl, _, rfl, a, 958, dx, _, rfl, upd_same, T.clShape, T.nShapepairs, lt_putF (by decide), ?_⟩
    refine ⟨_, rfl, _, rfl, a, 958, dx, _, rfl, upd_same, T.clShape, T.nShapeahead, lt_putF (lt_putF (by decide)), ?_⟩
    rcases hah with ⟨rfl, rfl⟩ | ⟨p, dx', d', t', ah', n, rfl, ep, rfl⟩
    · refine ⟨_, rfl, rfl, true, rfl, ift rfl ?_⟩
      refine ⟨_, rfl, a, 958, dx, _, rfl, upd_same, T.clShape, T.nShapemany, lt_putF (lt_putF (lt_putF (by decide))), q _ (fun c o e n => ?_) upd_same⟩
      rw [upd_ne n, upd_ne n, upd_ne n, upd_ne n]
      exact e
    · have hpa : p ≠ a := fun z => by
        subst z
        rw [ea] at ep
        cases ep
      refine ⟨_, rfl, rfl, false, rfl, iff_ rfl ?_⟩
      refine ⟨_, rfl, p, 958, dx', _, _, rfl, by rw [upd_ne hpa, upd_ne hpa, upd_ne hpa]; exact ep, T.clShape, T.nShapemany, rfl, _, _, rfl, rfl, ?_⟩
      refine ⟨_, rfl, a, 958, dx, _, rfl, upd_same, T.clShape, T.nShapemany, lt_putF (lt_putF (lt_putF (by decide))), q _ (fun c o e n => ?_) upd_same⟩
      rw [upd_ne n, upd_ne n, upd_ne n, upd_ne n]
      exact e
end
end SK
set_option maxHeartbeats 4000000
/-! SkJ2: Begun, Venture. -/
namespace SK
open PySem PySem.Spec PyProof.Rows L2
section
variable {P : Program} {w : World} {K : PySem.W.Frag} {mg : Str → Option Value} {base : Heap}
def spBegun : Sp := fun vs H Q _ => ∃ a dx x y, vs = [.ref a, x, y] ∧ H a = some (.ins 979 dx []) ∧
  ∀ H', (∀ c o, H c = some o → c ≠ a → H' c = some o) → H' a = some (.ins 979 dx [("shape", x), ("outer", y)]) → Q .non H'
theorem k_Begun (T : Tx K mg) : FnG P w K mg base (L2N.CX P w) 1 976 spBegun := by
  obtain ⟨fd, F⟩ := T.fBegun__init__
  have S : FnScope ["self", "shape", "outer"] ["self", "shape", "outer"] (defScope (inClass (top 85) 0)) := ⟨rfl, rfl, rfl, by decide +kernel, rfl, by decide +kernel, by decide +kernel⟩
  refine fng_of F S (F.bindsN fun _ _ _ _ _ _ us hl => match us, hl with | [_, _, _], _ => rfl) (fun vs H Q E h => ?_) (fun cdv A outer s H vs Q E hr hg h => ⟨_,
    pss_cons (ps_fld (pv 0) (pv 1) rfl) (pss_one (ps_fld (pv 0) (pv 2) rfl)), ?_⟩)
  · obtain ⟨_, _, _, _, rfl, _⟩ := h
    rfl
  · obtain ⟨a, dx, x, y, rfl, ea, q⟩ := h
    refine ⟨_, rfl, _, rfl, a, 979, dx, _, rfl, ea, T.clBegun, T.nBegunshape, by decide, ?_⟩
    refine ⟨_, rfl, _, rfl, a, 979, dx, _, rfl, upd_same, T.clBegun, T.nBegunouter, lt_putF (by decide), q _ (fun c o e n => ?_) upd_same⟩
    rw [upd_ne n, upd_ne n]
    exact e
def spVent : Sp := fun vs H Q _ => ∃ a dx x, vs = [.ref a, x] ∧ H a = some (.ins 1014 dx []) ∧
  ∀ H', (∀ c o, H c = some o → c ≠ a → H' c = some o) → H' a = some (.ins 1014 dx [("library", x), ("begun", .non)]) → Q .non H'
theorem k_Venture (T : Tx K mg) : FnG P w K mg base (L2N.CX P w) 1 997 spVent := by
  obtain ⟨fd, F⟩ := T.fVenture__init__
  have S : FnScope ["self", "library"] ["self", "library"] (defScope (inClass (top 86) 0)) := ⟨rfl, rfl, rfl, by decide +kernel, rfl, by decide +kernel, by decide +kernel⟩
  refine fng_of F S (F.bindsN fun _ _ _ _ _ _ us hl => match us, hl with | [_, _], _ => rfl) (fun vs H Q E h => ?_) (fun cdv A outer s H vs Q E hr hg h => ⟨_,
    pss_cons (ps_fld (pv 0) (pv 1) rfl) (pss_one (ps_fld (pv 0) pe_non rfl)), ?_⟩)
  · obtain ⟨_, _, _, rfl, _⟩ := h
    rfl
  · obtain ⟨a, dx, x, rfl, ea, q⟩ := h
    refine ⟨_, rfl, _, rfl, a, 1014, dx, _, rfl, ea, T.clVenture, T.nVenturelibrary, by decide, ?_⟩
    refine ⟨_, rfl, a, 1014, dx, _, rfl, upd_same, T.clVenture, T.nVenturebegun, lt_putF (by decide), q _ (fun c o e n => ?_) upd_same⟩
    rw [upd_ne n, upd_ne n]
    exact e
/-- a new object by an __init__ that leaves all the rest as it is -/
theorem made_kp {M : Addr → Prop} {H H' : Hp} {x dx : Addr} {C : Addr} (n1 : H x = none) (n2 : H dx = none) (ne : dx ≠ x) (h : ∀ c o, (upd (upd H dx (.own x)) x (.ins C dx [])) c = some o → c ≠ x → H' c = some o) (hx : ∃ o, H' x = some o) : Kp M H H' := fun b o e => by
  have e1 : H' b = some o := h b o (by rw [upd_ne (ne_of_none e n1), upd_ne (ne_of_none e n2)]; exact e) (ne_of_none e n1)
  exact ⟨fun _ => e1, o, e1⟩
def VentAt (H : Hp) (v L : Addr) (bg : V) : Prop := ∃ dx, H v = some (.ins 1014 dx [("library", .ref L), ("begun", bg)])
def BegAt (H : Hp) (b p : Addr) : Prop := ∃ dx, H b = some (.ins 979 dx [("shape", .ref p), ("outer", .non)])
def SelfAt (H : Hp) (L p : Addr) : Prop := ∃ dx, H L = some (.ins 1155 dx [("shape", .ref p)])
def spEnter : Sp := fun vs H Q _ => ∃ v L p, vs = [.ref v] ∧ VentAt H v L .non ∧ SelfAt H L p ∧
  ∀ H' b, Kp (· = v) H H' → VentAt H' v L (.ref b) → BegAt H' b p → H b = none → Q (.ref L) H'
theorem k_enter (T : Tx K mg) : FnG P w K mg base (L2N.CX P w) 3 1004 spEnter := by
  obtain ⟨fd, F⟩ := T.fVenture__enter__
  have S : FnScope ["self"] ["self"] (defScope (inClass (top 86) 1)) := ⟨rfl, rfl, rfl, by decide +kernel, rfl, by decide +kernel, by decide +kernel⟩
  refine fng_of F S (F.bindsN fun _ _ _ _ _ _ us hl => match us, hl with | [_], _ => rfl) (fun vs H Q E h => ?_) (fun cdv A outer s H vs Q E hr hg h => ⟨_,
    pss_cons (ps_fld (pv 0) (pe_makeG (E := EF) T.mkBegun (k_Begun T) hr hg (passF noXN) rfl T.gBegun (pa_cons (pe_fld (pe_fld (pv 0) rfl) rfl) (pa_cons (pe_fld (pv 0) rfl) pa_nil))) rfl) (pss_one (ps_ret (pe_fld (pv 0) rfl))), ?_⟩)
  · obtain ⟨_, _, _, rfl, _⟩ := h
    rfl
  · obtain ⟨v, L, p, rfl, ⟨dv, ev⟩, ⟨dl, el⟩, q⟩ := h
    refine ⟨_, rfl, v, 1014, dv, _, _, rfl, ev, T.clVenture, T.nVenturelibrary, rfl, L, 1155, dl, _, _, rfl, el, T.clLibrary, T.nLibraryshape, rfl, _, rfl, v, 1014, dv, _, _, rfl, ev, T.clVenture, T.nVenturebegun, rfl, fun x dx n1 n2 ne => ?_⟩
    refine ⟨x, dx, _, _, rfl, upd_same, fun H' h1 h2 => ⟨rfl, ?_⟩⟩
    have k : K0 H H' := made_kp n1 n2 ne h1 ⟨_, h2⟩
    have ev' := k.at0 ev
    have hxv : x ≠ v := (ne_of_none ev n1).symm
    refine ⟨_, rfl, v, 1014, dv, _, rfl, ev', T.clVenture, T.nVenturebegun, by simp, ?_⟩
    refine ⟨_, rfl, v, 1014, dv, _, _, rfl, upd_same, T.clVenture, T.nVenturelibrary, rfl, q _ x ?_ ⟨dv, upd_same⟩ ⟨dx, by rw [upd_ne hxv]; exact h2⟩ n1⟩
    exact k.up.put rfl ev (fun z => z.2 rfl)
def spExit : Sp := fun vs H Q _ => ∃ v k e t L b p q, vs = [.ref v, k, e, t] ∧ VentAt H v L (.ref b) ∧ BegAt H b p ∧ SelfAt H L q ∧
  ((k = .non ∧ ∀ H', Kp (· = v) H H' → VentAt H' v L .non → Q .non H') ∨ (k ≠ .non ∧ ∀ H', Kp (fun a => a = v ∨ a = L) H H' → VentAt H' v L .non → SelfAt H' L p → Q .non H'))
theorem scEx : FnScope ["self", "kind", "value", "trace"] ["self", "kind", "value", "trace"] (defScope (inClass (top 86) 2)) := ⟨rfl, rfl, rfl, by decide +kernel, rfl, by decide +kernel, by decide +kernel⟩
theorem k_exit (T : Tx K mg) : FnG P w K mg base (L2N.CX P w) 1 1011 spExit := by
  obtain ⟨fd, F⟩ := T.fVenture__exit__
  refine fng_of F scEx (F.bindsN fun _ _ _ _ _ _ us hl => match us, hl with | [_, _, _, _], _ => rfl) (fun vs H Q E h => ?_) (fun cdv A outer s H vs Q E hr hg h => ⟨_,
    pss_cons (ps_if (pt_cmpR op_notN (pv 1) pe_non (nomark _)) (pss_one (ps_fld (pe_fld (pv 0) rfl) (pe_fld (pe_fld (pv 0) rfl) rfl) rfl)) pss_nil) (pss_one (ps_fld (pv 0) (pe_fld (pe_fld (pv 0) rfl) rfl) rfl)), ?_⟩)
  · obtain ⟨_, _, _, _, _, _, _, _, rfl, _⟩ := h
    rfl
  · obtain ⟨v, k, e, t, L, b, p, q, rfl, ⟨dv, ev⟩, ⟨db, eb⟩, ⟨dl, el⟩, hq⟩ := h
    have hbv : b ≠ v := ne_of eb ev (by intro z; cases z)
    have hLv : L ≠ v := ne_of el ev (by intro z; cases z)
    have hbL : b ≠ L := ne_of eb el (by intro z; cases z)
    rcases hq with ⟨rfl, hq⟩ | ⟨hk, hq⟩
    · refine ⟨_, rfl, rfl, false, rfl, iff_ rfl ?_⟩
      refine ⟨_, rfl, v, 1014, dv, _, _, rfl, ev, T.clVenture, T.nVenturebegun, rfl, b, 979, db, _, _, rfl, eb, T.clBegun, T.nBegunouter, rfl, _, rfl, v, 1014, dv, _, rfl, ev, T.clVenture, T.nVenturebegun, by simp, ?_⟩
      exact hq _ ((Kp.refl H).put rfl ev (fun z => z.2 rfl)) ⟨dv, upd_same⟩
    · refine ⟨_, rfl, rfl, true, by simp [hk], ift rfl ?_⟩
      refine ⟨_, rfl, v, 1014, dv, _, _, rfl, ev, T.clVenture, T.nVenturebegun, rfl, b, 979, db, _, _, rfl, eb, T.clBegun, T.nBegunshape, rfl, _, rfl, v, 1014, dv, _, _, rfl, ev, T.clVenture, T.nVenturelibrary, rfl, L, 1155, dl, _, rfl, el, T.clLibrary, T.nLibraryshape, by simp, ?_⟩
      have ev' : (upd H L (.ins 1155 dl (putF "shape" (.ref p) [("shape", .ref q)]))) v = some (.ins 1014 dv [("library", .ref L), ("begun", .ref b)]) := by rw [upd_ne hLv.symm]; exact ev
      have eb' : (upd H L (.ins 1155 dl (putF "shape" (.ref p) [("shape", .ref q)]))) b = some (.ins 979 db [("shape", .ref p), ("outer", .non)]) := by rw [upd_ne hbL]; exact eb
      refine ⟨_, rfl, v, 1014, dv, _, _, rfl, ev', T.clVenture, T.nVenturebegun, rfl, b, 979, db, _, _, rfl, eb', T.clBegun, T.nBegunouter, rfl, _, rfl, v, 1014, dv, _, rfl, ev', T.clVenture, T.nVenturebegun, by simp, ?_⟩
      refine hq _ (((Kp.refl H).put (.inr rfl) el (fun z => z.1 rfl)).put (.inl rfl) ev (fun z => z.2 rfl)) ⟨dv, upd_same⟩ ⟨dl, ?_⟩
      rw [upd_ne hLv]
      exact upd_same
theorem k_exitH (T : Tx K mg) : FnGH P w K mg base (L2N.CX P w) 1 1011 spExit := by
  obtain ⟨fd, F⟩ := T.fVenture__exit__
  refine fngh_of F scEx (F.bindsN fun _ _ _ _ _ _ us hl => match us, hl with | [_, _, _, _], _ => rfl) (fun vs H Q E h => ?_) (fun cdv A outer s H vs Q E pp hot hr h => ⟨_,
    pss_cons (ps_if (pt_cmpR op_notN (pv 1) pe_non (nomark _)) (pss_one (ps_fld (pe_fld (pv 0) rfl) (pe_fld (pe_fld (pv 0) rfl) rfl) rfl)) pss_nil) (pss_one (ps_fld (pv 0) (pe_fld (pe_fld (pv 0) rfl) rfl) rfl)), ?_⟩)
  · obtain ⟨_, _, _, _, _, _, _, _, rfl, _⟩ := h
    rfl
  · obtain ⟨v, k, e, t, L, b, p, q, rfl, ⟨dv, ev⟩, ⟨db, eb⟩, ⟨dl, el⟩, hq⟩ := h
    have hbv : b ≠ v := ne_of eb ev (by intro z; cases z)
    have hLv : L ≠ v := ne_of el ev (by intro z; cases z)
    have hbL : b ≠ L := ne_of eb el (by intro z; cases z)
    rcases hq with ⟨rfl, hq⟩ | ⟨hk, hq⟩
    · refine ⟨_, rfl, rfl, false, rfl, iff_ rfl ?_⟩
      refine ⟨_, rfl, v, 1014, dv, _, _, rfl, ev, T.clVenture, T.nVenturebegun, rfl, b, 979, db, _, _, rfl, eb, T.clBegun, T.nBegunouter, rfl, _, rfl, v, 1014, dv, _, rfl, ev, T.clVenture, T.nVenturebegun, by simp, ?_⟩
      exact hq _ ((Kp.refl H).put rfl ev (fun z => z.2 rfl)) ⟨dv, upd_same⟩
    · refine ⟨_, rfl, rfl, true, by simp [hk], ift rfl ?_⟩
      refine ⟨_, rfl, v, 1014, dv, _, _, rfl, ev, T.clVenture, T.nVenturebegun, rfl, b, 979, db, _, _, rfl, eb, T.clBegun, T.nBegunshape, rfl, _, rfl, v, 1014, dv, _, _, rfl, ev, T.clVenture, T.nVenturelibrary, rfl, L, 1155, dl, _, rfl, el, T.clLibrary, T.nLibraryshape, by simp, ?_⟩
      have ev' : (upd H L (.ins 1155 dl (putF "shape" (.ref p) [("shape", .ref q)]))) v = some (.ins 1014 dv [("library", .ref L), ("begun", .ref b)]) := by rw [upd_ne hLv.symm]; exact ev
      have eb' : (upd H L (.ins 1155 dl (putF "shape" (.ref p) [("shape", .ref q)]))) b = some (.ins 979 db [("shape", .ref p), ("outer", .non)]) := by rw [upd_ne hbL]; exact eb
      refine ⟨_, rfl, v, 1014, dv, _, _, rfl, ev', T.clVenture, T.nVenturebegun, rfl, b, 979, db, _, _, rfl, eb', T.clBegun, T.nBegunouter, rfl, _, rfl, v, 1014, dv, _, rfl, ev', T.clVenture, T.nVenturebegun, by simp, ?_⟩
      refine hq _ (((Kp.refl H).put (.inr rfl) el (fun z => z.1 rfl)).put (.inl rfl) ev (fun z => z.2 rfl)) ⟨dv, upd_same⟩ ⟨dl, ?_⟩
      rw [upd_ne hLv]
      exact upd_same
end
end SK
set_option maxHeartbeats 4000000
/-! SkJ3: check_kept, become. -/
namespace SK
open PySem PySem.Spec PyProof.Rows L2
section
variable {P : Program} {w : World} {K : PySem.W.Frag} {mg : Str → Option Value} {base : Heap}
def mOf (ys : List (Str × Int × Int)) (n : Str) : Int := match ys.lookup n with
  | some v => v.2
  | none => 0
def kept (ys : List (Str × Int × Int)) : List (Str × Int) → Nat → Option Nat
  | [], _ => none
  | (n, m) :: r, i => if mOf ys n ≤ m then kept ys r (i + 1) else some i
def spKept : Sp := fun vs H Q E => ∃ d t ys ps, vs = [.ref d, .ref t] ∧ YardsAt H d ys ∧ PairsAt H t ps ∧ (∀ p ∈ ps, (ys.lookup p.1).isSome = true) ∧ ps.length < 1000 ∧
  ∀ H', K0 H H' → match kept ys ps 0 with
    | none => Q .non H'
    | some i => ∀ cd, H' cd = some (.xd [("index", .int i)]) → E (.ref 431) (some cd) H'
theorem k_check_kept (T : Tx K mg) : FnG P w K mg base (L2N.CX P w) 5 1025 spKept := by
  obtain ⟨fd, F⟩ := T.fcheck_kept
  obtain ⟨fd1, F1⟩ := T.fkeeps
  have S : FnScope ["yards", "pairs", "index", "name", "wish"] ["yards", "pairs"] (defScope (top 87)) := ⟨rfl, rfl, rfl, by decide +kernel, rfl, by decide +kernel, by decide +kernel⟩
  refine fng_of F S (F.bindsN fun _ _ _ _ _ _ us hl => match us, hl with | [_, _], _ => rfl) (fun vs H Q E h => ?_) (fun cdv A outer s H vs Q E hr hg h => ⟨_,
    pss_one (ps_for PassesOwn.leaving rfl (pi_enumT rfl T.benumerate (pv 1)) (pg_tup rfl (pgs_cons (pg_name (i := 2) S.nd rfl (Or.inl rfl)) (pgs_cons (pg_tup rfl (pgs_cons (pg_name (i := 3) S.nd rfl (Or.inl rfl)) (pgs_cons (pg_name (i := 4) S.nd rfl (Or.inl rfl)) pgs_nil))) pgs_nil)))
      (pss_one (ps_if (pt_not (pt_val (pe_g (E := EF) (k_keeps T) hr hg (passF noXN) rfl T.gkeeps F1.kp (pa_cons (pe_dget (hu_of hr) (pv 0) (pv 3) (fun _ _ => rfl)) (pa_cons (pv 4) pa_nil)))))
        (pss_one (L2N.ps_raise rfl (L2N.takes_of rfl rfl rfl rfl) (pmk_err T.eBroken T.xBroken T.iBroken T.tBroken (k_iBroken T) (hr.mono (by decide)) hg noXN rfl T.gBroken (pv 2)))) pss_nil))), ?_⟩)
  · obtain ⟨_, _, _, _, rfl, _⟩ := h
    rfl
  · obtain ⟨d, t, ys, ps, rfl, ⟨kvs, hd, hys⟩, ⟨xs, ht, hps⟩, hall, hlen, q⟩ := h
    refine ⟨_, rfl, t, _, rfl, SqT.of ht, for_it walk_enumT (fun i σ H' => K0 H H' ∧ kept ys ps 0 = kept ys (ps.drop i) i ∧ ∃ u v o, σ = [some (.ref d), some (.ref t), u, v, o]) ⟨Kp.refl _, rfl, _, _, _, rfl⟩ (fun i σ H' _ p => SqT.of (p.1.tup ht)) ?_ ?_⟩
    · rintro i x σ H1 H2 hi ⟨k, hk, u, v, o, rfl⟩ ⟨tt, x0, y0, rfl, hn, rfl, f1, f2⟩
      cases f1
      obtain ⟨n, m, t', e1, rfl, ep⟩ := hps.get (i := 0) (x := .non) f2
      obtain ⟨t2, e2, e3⟩ := id ep
      have k2 : K0 H (upd H1 tt (.tup [.int (i : Nat), .ref t'])) := k.new hn
      refine ⟨tt, _, rfl, SqT.of upd_same, rfl, _, _, rfl, _, _, rfl, ⟨t', _, rfl, SqT.of (k2.tup e2), rfl, _, _, rfl, _, _, rfl, rfl, rfl, ?_⟩⟩
      have hmem : (n, m) ∈ ps := List.mem_of_getElem? e1
      have hl := hall _ hmem
      have hlook := hys.look (n := n)
      cases eL : ys.lookup n with
      | none => rw [eL] at hl; cases hl
      | some v =>
        rw [eL] at hlook
        obtain ⟨y, hv, hY⟩ := hlook
        have hm : mOf ys n = v.2 := by unfold mOf; rw [eL]
        have hlt : i < ps.length := by
          have := hps.len
          omega
        have hdrop : ps.drop i = (n, m) :: ps.drop (i + 1) := by
          rw [List.drop_eq_getElem_cons hlt]
          rw [List.getElem?_eq_getElem hlt] at e1
          rw [Option.some.inj e1]
        have hg : DGet (upd H1 tt (.tup [.int (i : Nat), .ref t'])) d (kV (Sum.inr n)) (some (.ref y)) := by
          have z := DGet.k (k := Sum.inr n) (k2.im hd trivial)
          rw [hv] at z
          exact z
        refine ⟨_, rfl, _, rfl, d, _, rfl, hg, _, rfl, y, t2, v.1, v.2, m, rfl, hY.kp k2, e3.kp k2, fun H' k' => ?_⟩
        rw [hdrop, kept, hm] at hk
        have k3 := k2.trans k'
        by_cases hc : v.2 ≤ m
        · rw [if_pos hc] at hk
          rw [decide_eq_true hc]
          refine ⟨true, rfl, ?_⟩
          exact iff_ rfl ⟨k3, hk, _, _, _, rfl⟩
        · rw [if_neg hc] at hk
          rw [decide_eq_false hc]
          refine ⟨false, rfl, ?_⟩
          refine ift rfl ⟨_, rfl, fun cd n1 => ?_⟩
          have z := q (upd H' cd (.xd [("index", .int (i : Nat))])) (k3.new n1)
          rw [hk] at z
          exact z cd upd_same
    · rintro σ H' ⟨k, hk, u, v, o, rfl⟩
      have z := q H' k
      have e : ps.drop xs.length = [] := by rw [hps.len, List.drop_length]
      rw [hk, e] at z
      exact z
end
end SK
set_option maxHeartbeats 4000000
/-! SkJ4: become, undo, trial, the small readers. -/
namespace SK
open PySem PySem.Spec PyProof.Rows L2
inductive Err where
  | unknown (n : Str)
  | use (i : Nat)
  | index (m : Int)
  | nothing
  | broken (i : Nat)
  | great
  | key
  | zero
def ErrAt (H : Hp) : Err → Value → Option Addr → Prop
  | .unknown n, c, d => c = .ref 292 ∧ ∃ x, d = some x ∧ H x = some (.xd [("given", .str n)])
  | .use i, c, d => c = .ref 311 ∧ ∃ x, d = some x ∧ H x = some (.xd [("index", .int i)])
  | .index m, c, d => c = .ref 165 ∧ ∃ x, d = some x ∧ H x = some (.xd [("given", .int m)])
  | .nothing, c, d => c = .ref 412 ∧ d = none
  | .broken i, c, d => c = .ref 431 ∧ ∃ x, d = some x ∧ H x = some (.xd [("index", .int i)])
  | .great, c, d => c = .ref 400 ∧ ∃ x, d = some x ∧ H x = some (.xd [("given", .int 99)])
  | .key, c, _ => c = .type "KeyError"
  | .zero, c, _ => c = .type "ZeroDivisionError"
theorem ErrAt.kp {M : Addr → Prop} {H H1 : Hp} {e : Err} {c : Value} {d : Option Addr} (x : ErrAt H e c d) (k : Kp M H H1) : ErrAt H1 e c d := by
  cases e <;> first | exact x | exact ⟨x.1, x.2.choose, x.2.choose_spec.1, k.im x.2.choose_spec.2 trivial⟩
abbrev Lib := List Snap
abbrev Res := Lib × Option Err
/-- what a deed on the library at L leaves -/
def Out (M : Addr → Prop) (L : Addr) (r : Res) (H : Hp) (Q : VK) (E : XK) : Prop := ∀ H', Kp M H H' → LibAt H' L r.1 → match r.2 with
  | none => Q .non H'
  | some e => ∀ c d, ErrAt H' e c d → E c d H'
def become (l : Lib) (ys : List (Str × Int × Int)) (ps : List (Str × Int)) : Res := match kept ys ps 0 with
  | none => (⟨ys, ps⟩ :: l, none)
  | some i => (l, some (.broken i))
section
variable {P : Program} {w : World} {K : PySem.W.Frag} {mg : Str → Option Value} {base : Heap}
def spBecome : Sp := fun vs H Q E => ∃ L d t l ys ps, vs = [.ref L, .ref d, .ref t] ∧ LibAt H L l ∧ YardsAt H d ys ∧ PairsAt H t ps ∧ (∀ p ∈ ps, (ys.lookup p.1).isSome = true) ∧ ps.length < 1000 ∧ Out (· = L) L (become l ys ps) H Q E
theorem k_become (T : Tx K mg) : FnG P w K mg base (L2N.CX P w) 6 1070 spBecome := by
  obtain ⟨fd, F⟩ := T.fLibrarybecome
  obtain ⟨fd1, F1⟩ := T.fcheck_kept
  have S : FnScope ["self", "yards", "pairs"] ["self", "yards", "pairs"] (defScope (inClass (top 88) 4)) := ⟨rfl, rfl, rfl, by decide +kernel, rfl, by decide +kernel, by decide +kernel⟩
  refine fng_of F S (F.bindsN fun _ _ _ _ _ _ us hl => match us, hl with | [_, _, _], _ => rfl) (fun vs H Q E h => ?_) (fun cdv A outer s H vs Q E hr hg h => ⟨_,
    pss_cons (ps_expr (pe_g (E := WE fun c d _ H => E c d H) (k_check_kept T) hr hg (L2N.passAt (L2N.takes_of rfl rfl rfl rfl)) rfl T.gcheck_kept F1.kp (pa_cons (pv 1) (pa_cons (pv 2) pa_nil))))
    (pss_one (ps_fld (pv 0) (pe_makeG (E := EF) T.mkShape (k_Shape T) (hr.mono (by decide)) hg (passF noXN) rfl T.gShape (pa_cons (pv 1) (pa_cons (pv 2) (pa_cons (pe_fld (pv 0) rfl) pa_nil)))) rfl)), ?_⟩)
  · obtain ⟨_, _, _, _, _, _, rfl, _⟩ := h
    rfl
  · obtain ⟨L, d, t, l, ys, ps, rfl, ⟨dl, p, el, hS⟩, hd, ht, hall, hlen, q⟩ := h
    refine ⟨_, rfl, _, rfl, d, t, ys, ps, rfl, hd, ht, hall, hlen, fun H' k => ?_⟩
    have el' := k.at0 el
    unfold become at q
    cases eK : kept ys ps 0 with
    | some i =>
      rw [eK] at q
      exact fun cd hcd => q H' k.up ⟨dl, p, el', ShapeAt.kp k hS⟩ _ _ ⟨rfl, cd, rfl, hcd⟩
    | none =>
      rw [eK] at q
      have hS' := ShapeAt.kp k hS
      match l, hS' with
      | s :: r, hS' =>
        obtain ⟨dx', d', t', ah', e1, e2, e3, e4⟩ := id hS'
        refine ⟨_, rfl, _, rfl, _, rfl, L, 1155, dl, _, _, rfl, el', T.clLibrary, T.nLibraryshape, rfl, fun x dx n1 n2 ne => ?_⟩
        have hxL : ∀ {c o}, H' c = some o → c ≠ x := fun e => ne_of_none e n1
        refine ⟨x, dx, d, t, .ref p, ((r.length : Nat) : Int) + 1, rfl, upd_same, .inr ⟨p, dx', .ref d', .ref t', ah', ((r.length : Nat) : Int), rfl, ?_, rfl⟩, fun H2 h1 h2 => ⟨rfl, ?_⟩⟩
        · rw [upd_ne (hxL e1), upd_ne (ne_of_none e1 n2)]
          exact e1
        · have k2 : K0 H' H2 := made_kp n1 n2 ne h1 ⟨_, h2⟩
          have el2 := k2.at0 el'
          refine ⟨_, rfl, L, 1155, dl, _, rfl, el2, T.clLibrary, T.nLibraryshape, by simp, ?_⟩
          have k3 : Kp (· = L) H' (upd H2 L (.ins 1155 dl (putF "shape" (.ref x) [("shape", .ref p)]))) := k2.up.put rfl el' (fun z => z.1 rfl)
          have k4 := k.up.trans k3
          refine q _ k4 ⟨dl, x, upd_same, ?_⟩
          have hxL' : x ≠ L := (hxL el').symm
          exact ⟨dx, d, t, .ref p, by rw [upd_ne hxL', h2]; rfl, hd.kp k4, ht.kp k4, p, rfl, ShapeAt.kp k3 hS'⟩
end
end SK
set_option maxHeartbeats 4000000
/-! SkJ5: {**d, k: v}. -/
namespace PySem
open Sem (wp)
section
variable {prog : Program} {w : World} {K : Type} [DecidableEq K] {knd : KeyKind prog w K} {A : Around} {E : Value → Shared → Prop} {s : Shared}
theorem sk_dictPut {d : Addr} {kvs : List (K × Value)} {k : K} {key v : Value} {Q : Unit → Shared → Prop} (hkey : knd.is k key = true) (hm : s.heap.DictOf knd d kvs)
    (hQ : ∀ h', h'.DictOf knd d (stored kvs k v) → Heap.SameBut d s.heap h' → Q () { s with heap := h' })
    (hsz : kvs.length ≤ sizeLine := by size_fits) :
    wpAny (model prog w) A (dictPut d (knd.hash k) key v) Q E s := by
  obtain ⟨o, es, ep, ho, hc, hd, hk, hp, hn⟩ := hm
  have hes : es.size ≤ sizeLine := by have e1 := hp.length; have e2 : es.toList.length = es.size := by simp
                                      omega
  unfold dictPut
  refine wpAny_bind (wpAny_dictFind_of hkey ho hd hk ?_)
  have hidx : (es.findIdx? fun e => knd.is k e.key) = kvs.findIdx? fun kv => decide (kv.1 = k) := by
    rw [← hp.findIdx k]; obtain ⟨l⟩ := es; simp
  cases hi : es.findIdx? fun e => knd.is k e.key with
  | some i =>
    refine wpAny_updateDict ho hd (hQ _ ⟨_, _, ep, Heap.get?_update_self _ ho (Obj.isFreed_of_dict (Obj.data_mapDict hd _)),
      hc.mapDict _, Obj.data_mapDict hd _, hk.modify _ _, ?_, ?_⟩ (Heap.SameBut.update ..))
    · rw [stored, if_pos (any_of_findIdx_some (hidx ▸ hi))]
      have hl : (es.toList.findIdx? fun e => knd.is k e.key) = some i := by rw [← hi]; obtain ⟨l⟩ := es; simp
      have := hp.modify hn hl v
      obtain ⟨l⟩ := es
      simpa using this
    · rw [stored, if_pos (any_of_findIdx_some (hidx ▸ hi)), keys_map_store]; exact hn
  | none =>
    have hnot : k ∉ kvs.map (·.1) := not_mem_of_findIdx_none (hidx ▸ hi)
    have hany : ¬ (kvs.any fun kv => decide (kv.1 = k)) = true := by
      rw [List.any_eq_true]; rintro ⟨kv, hkv, he⟩
      exact hnot (List.mem_map.mpr ⟨kv, hkv, of_decide_eq_true he⟩)
    refine wpAny_updateDictKeys (hz := hes) ho hd (hQ _ ⟨_, _, ep + 1, Heap.get?_update_self _ ho (Obj.isFreed_of_dict (Obj.data_mapDictKeys hd _)),
      hc.mapDictKeys _, Obj.data_mapDictKeys hd _, hk.push hkey _, ?_, ?_⟩ (Heap.SameBut.update ..))
    · rw [stored, if_neg hany]
      have := hp.append hkey (knd.hash k) v
      obtain ⟨l⟩ := es
      simpa using this
    · rw [stored, if_neg hany, List.map_append, List.nodup_append]
      refine ⟨hn, by simp, ?_⟩
      intro a ha b hb
      simp only [List.map_cons, List.map_nil, List.mem_singleton] at hb
      subst hb
      exact fun e => hnot (e ▸ ha)
theorem sk_merge {d o : Addr} {kvs more : List (K × Value)} {Q : Unit → Shared → Prop} (hdo : d ≠ o) (hoS : (o == sysModules) = false)
    (hd : s.heap.DictOf knd d kvs) (ho : s.heap.DictOf knd o more)
    (hQ : ∀ h', h'.DictOf knd d (merged kvs more) → h'.DictOf knd o more → Heap.SameBut d s.heap h' → Q () { s with heap := h' })
    (hsz : kvs.length + more.length ≤ sizeLine := by size_fits) :
    wpAny (model prog w) A (mergeMapping d (.ref o) false) Q E s := by
  obtain ⟨od, esd, epd, hod, hcd, hdd, hkd, hpd, hnd⟩ := id hd
  obtain ⟨oo, eso, epo, hoo, hco, hdo', hko, hpo, hno⟩ := id ho
  have hT : s.TypeIs (.ref o) "dict" := ⟨oo, hoo, hco.1⟩
  have hlen : more.length = eso.size := by rw [← hpo.length]; simp
  unfold mergeMapping
  refine wpAny_bind (m := isInstance (.ref o) (.type "dict")) (wpAny_isInstance hT F.sub_dict_dict ?_)
  dsimp only
  rw [if_pos rfl]
  refine wpAny_bind (m := specialOf (.ref o) "__iter__") (wpAny_specialOf hT F.slot_dict_iter.lookup ?_)
  refine wpAny_bind (wpAny_pure ?_)
  rw [show ((some (Value.builtin "dict.__iter__") == some (Value.builtin "dict.__iter__")) = true) from by rfl]
  dsimp only
  rw [if_neg (by rw [hoS]; exact Bool.false_ne_true)]
  have loop : wpAny (model prog w) A (do
      let es ← dictEntries o
      let epoch ← dictEpoch o
      forIn (List.range es.size) PUnit.unit fun i (_ : PUnit) => (do
          let l' ← dictEntries o
          match l'[i]? with
            | some e => do
              holding [e.key, e.val] (if false = true then do
                        let r ← dictFind d e.key e.hash
                        if r.isSome = true then do
                            rule "dict.merge.duplicate-key"
                            let x ← newExc (Value.type "KeyError") [e.key]
                            raiseNew x
                            dictPut d e.hash e.key e.val
                          else dictPut d e.hash e.key e.val
                      else dictPut d e.hash e.key e.val)
              let ep' ← dictEpoch o
              if (ep' != epoch) = true then do
                  (unsupported "dict.changed-during-merge" : Sem PUnit)
                  pure (ForInStep.yield PUnit.unit)
                else pure (ForInStep.yield PUnit.unit)
            | _ => do
              (unsupported "dict.changed-during-merge" : Sem PUnit)
              pure (ForInStep.yield PUnit.unit) : Sem (ForInStep PUnit))
      pure ()) Q E s := by
    refine wpAny_bind (wpAny_dictEntries hoo hdo' ?_)
    refine wpAny_bind (wpAny_dictEpoch hoo hdo' ?_)
    refine wpAny_bind ?_
    refine wpAny_forIn_list _
      (fun rest _ s' => ∃ h' i, s' = { s with heap := h' } ∧ rest = (List.range eso.size).drop i ∧ i ≤ eso.size ∧ h'.DictOf knd d (merged kvs (more.take i)) ∧ h'.get? o = some oo ∧ Heap.SameBut d s.heap h')
      _ ?_ ?_ _ _ ⟨s.heap, 0, rfl, rfl, Nat.zero_le _, by simpa [merged] using hd, hoo, Heap.SameBut.refl _ _⟩
    · rintro x rest b s' ⟨h', i, rfl, hr, hi, hd', hoo', hs'⟩
      have hlt : i < eso.size := by
        rcases Nat.lt_or_ge i eso.size with h | h
        · exact h
        · rw [List.drop_of_length_le (by rw [List.length_range]; exact h)] at hr; simp at hr
      obtain ⟨rfl, hrest⟩ : x = i ∧ rest = (List.range eso.size).drop (i + 1) := by
        rw [List.drop_eq_getElem_cons (by rw [List.length_range]; exact hlt)] at hr
        injection hr with h1 h2
        exact ⟨h1.trans (List.getElem_range _), h2⟩
      refine wpAny_bind (wpAny_dictEntries hoo' hdo' ?_)
      rw [Array.getElem?_eq_getElem hlt]
      obtain ⟨kv, hkv⟩ : ∃ kv, more[x]? = some kv := ⟨more[x]'(by rw [hlen]; exact hlt), List.getElem?_eq_getElem _⟩
      obtain ⟨k, v⟩ := kv
      obtain ⟨hkey, hval⟩ := hpo.get? (e := eso[x]) (by simp [hlt]) hkv
      obtain ⟨k', hkey', hhash⟩ := hko eso[x] (Array.getElem_mem hlt)
      obtain rfl : k' = k := knd.inj _ _ _ hkey' hkey
      dsimp only
      rw [if_neg Bool.false_ne_true]
      rw [hhash, hval]
      have hmx : (merged kvs (more.take x)).length ≤ sizeLine := by
        have e1 := merged_length_le kvs (more.take x)
        have e2 : (more.take x).length ≤ more.length := by rw [List.length_take]; omega
        omega
      refine wpAny_bind (wpAny_holding (sk_dictPut (hsz := hmx) hkey hd' fun h'' hd'' hs'' => ?_))
      have hoo'' : h''.get? o = some oo := (hs''.2 o (Ne.symm hdo)).trans hoo'
      refine wpAny_bind (wpAny_dictEpoch hoo'' hdo' ?_)
      rw [if_neg (by simp)]
      exact wpAny_pure ⟨h'', x + 1, rfl, hrest, hlt, by rw [merged_take_succ kvs more x (k', v) hkv]; exact hd'', hoo'', hs'.trans hs''⟩
    · rintro b s' ⟨h', i, rfl, hr, hi, hd', hoo', hs'⟩
      have hin : i = eso.size := by
        rcases Nat.lt_or_ge i eso.size with h | h
        · rw [List.drop_eq_getElem_cons (by rw [List.length_range]; exact h)] at hr
          exact nomatch hr
        · exact Nat.le_antisymm hi h
      refine wpAny_pure (hQ h' ?_ ⟨oo, eso, epo, hoo', hco, hdo', hko, hpo, hno⟩ hs')
      rw [hin, ← hlen, List.take_length] at hd'; exact hd'
  refine wpAny_bind (wpAny_dictEntries hod hdd ?_)
  split
  · refine wpAny_bind (wpAny_dictEntries hoo hdo' ?_)
    refine wpAny_bind ?_
    rw [← Array.forIn_toList]
    refine wpAny_forIn_list _ (fun rest _ s' => s' = s ∧ ∀ e ∈ rest, carriedByValue e.key = true) _ ?_ ?_ _ _ ⟨rfl, fun e he => ?_⟩
    · rintro e rest b s' ⟨rfl, hall⟩
      have hv := hall e List.mem_cons_self
      split
      · rename_i hk
        rw [hk] at hv
        exact absurd hv (by simp [carriedByValue])
      · exact wpAny_pure ⟨rfl, fun x hx => hall x (List.mem_cons_of_mem _ hx)⟩
    · rintro b s' ⟨rfl, _⟩
      exact loop
    · obtain ⟨k, hkey, _⟩ := hko e (Array.mem_toList_iff.mp he)
      exact knd.byValue k _ hkey
  · exact loop
end
end PySem
namespace SK
open PySem PySem.Spec PyProof.Rows L2
section
variable {X : Cx} {pins : List (Addr × Obj)} {σ : St} {H : Hp} {s : Shared} {E : Value → Shared → Prop}
/-- d.update(a), by a display -/
theorem d_merge {A : Around} {D a : Addr} {ks kvs : List (Key × V)} {Q : Unit → Shared → Prop} (I : Inv X pins σ H s) (hne : D ≠ a) (hD : H D = some (.dK ks)) (ha : H a = some (.dK kvs)) (hz : ks.length + kvs.length ≤ sizeLine)
    (h : ∀ s', Inv X pins σ (upd H D (.dK (mergeK ks kvs))) s' → Q () s') : wpAny (model X.prog X.w) A (mergeMapping D (.ref a) false) Q E s := by
  obtain ⟨z, hd, vs, rel, dd⟩ := dk_of I.hok hD
  obtain ⟨z2, hd2, vs2, rel2, dd2⟩ := dk_of I.hok ha
  refine sk_merge hne hd2 dd dd2 (fun h' dd' _ hs => h _ ?_) (by rw [← rel.length, ← rel2.length]; exact hz)
  have he : ∃ q, h'.get? D = some q := let ⟨q, _, _, hq, _⟩ := dd'; ⟨q, hq⟩
  exact d_write I (by rw [hD]; exact True.intro) hs he (dk_new (Nat.le_trans (length_mergeK kvs ks) hz) hd (rel2.merge rel) dd')
/-- {**m, k: v} -/
def tDispStar (tm tk tv : TE) : TE := fun σ H Q => ∀ D, H D = none → tm σ (upd H D (.dK [])) fun x H1 => H1 D = some (.dK []) ∧ ∃ a kvs, x = .ref a ∧ D ≠ a ∧ H1 a = some (.dK kvs) ∧ kvs.length < 1000 ∧
  ∀ S, upd H1 D (.dK (mergeK [] kvs)) S = none → tk σ (upd (upd H1 D (.dK (mergeK [] kvs))) S (.dK [])) fun y H2 => tv σ H2 fun z H3 => ∃ key, y = kV key ∧ H3 S = some (.dK []) ∧ H3 D = some (.dK (mergeK [] kvs)) ∧
    Q (.ref D) (upd (upd H3 S (.dK [(key, z)])) D (.dK (putK (mergeK [] kvs) key z)))
theorem pe_dispStar {m k v : Expr} {tm tk tv : TE} {pos : Pos} (hm : PE X m tm) (hk : PE X k tk) (hv : PE X v tv) : PE X (.Dict [none, some k] [m, v] pos) (tDispStar tm tk tv) := by
  refine ⟨fun pins s σ H Q I q => ?_⟩
  rw [arm_eval_Dict]
  refine wpAny_bind (wpAny_standAt ?_)
  show wpAny _ _ (dictDisplay [(none, do let x ← eval m X.env; standAt pos; pure x), (some (eval k X.env), do let x ← eval v X.env; standAt pos; pure x)]) _ _ _
  unfold dictDisplay
  simp only [List.forIn_cons, List.forIn_nil, List.isEmpty_nil, if_true, pure_bind, bind_assoc]
  have hn := I.hok.fresh (Nat.le_refl s.heap.objs.size)
  have I1 := I.laid (a := s.heap.objs.size) (o := .dK []) (h' := s.heap.push { cls := .type "dict", data := .dict #[] }) (t' := s.toks) (fun _ _ q => Heap.get?_push_of_some _ q) (Nat.le_refl _) (dk_empty s.heap I.big)
  refine wpAny_bind (wpAny_alloc ?_)
  generalize hDD : s.heap.objs.size = D at *
  refine wpAny_bind (wpAny_holding (wpAny_bind (thn (hm.run pins _ σ _ _ I1 (q D hn)) fun mv s1 ⟨x, H1, I2, rx, hD1, a, kvs, ex, hne, ha, hlen, q2⟩ => wpAny_bind (wpAny_standAt (wpAny_pure ?_)))))
  subst ex
  obtain rfl : mv = Value.ref a := rx
  have hz1 : ([] : List (Key × V)).length + kvs.length ≤ sizeLine := by rw [sizeLine_eq, List.length_nil]; omega
  refine wpAny_bind (wpAny_onRaise (wpAny_tryCatch (wpAny_onRaise (wpAny_holding (d_merge I2 hne hD1 ha hz1 fun s2 I3 => ?_)))))
  rw [if_neg (by simp)]
  simp only [pure_bind, List.nil_append, List.isEmpty_cons, Bool.false_eq_true, if_false]
  -- the pair's own dict
  generalize hS : s2.heap.objs.size = S
  have hSn := I3.hok.fresh (Nat.le_of_eq hS)
  have I4 := I3.laid (a := s2.heap.objs.size) (o := .dK []) (h' := s2.heap.push { cls := .type "dict", data := .dict #[] }) (t' := s2.toks) (fun _ _ q => Heap.get?_push_of_some _ q) (Nat.le_refl _) (dk_empty s2.heap I3.big)
  rw [hS] at I4
  simp only [bind_assoc, pure_bind]
  refine wpAny_bind (wpAny_holding (wpAny_subDict (knd := mixKind X.prog X.w) (by simp) ?_))
  rw [hS]
  refine evalPairs_cons (thn (hk.run pins _ σ _ _ I4 (q2 S hSn)) fun kv s3 ⟨y, H2, I5, ry, q3⟩ => wpAny_bind (thn (hv.run pins s3 σ H2 _ I5 q3) fun vv s4 ⟨zz, H3, I6, rz, key, ek, hS3, hD3, q4⟩ => wpAny_bind (wpAny_standAt (wpAny_pure (wpAny_pure ?_)))))
  subst ek
  obtain ⟨z, hd, vs0, r0, dd⟩ := dk_of I6.hok hS3
  cases r0
  refine ⟨[(key, vv)], ⟨kV_is ry, rfl, True.intro⟩, dd, fun h' dd' hs => ?_⟩
  have he : ∃ q, h'.get? S = some q := let ⟨q, _, _, hq, _⟩ := dd'; ⟨q, hq⟩
  have I7 : Inv X pins σ (upd H3 S (.dK [(key, zz)])) { s4 with heap := h', toks := s4.toks + 1 } := d_write I6 (by rw [hS3]; exact True.intro) hs he (dk_new (by rw [sizeLine_eq]; simp) hd (.cons ⟨rfl, rz⟩ .nil) dd')
  have hDS : D ≠ S := fun z => by
    subst z
    rw [upd_same] at hSn
    cases hSn
  have hD4 : (upd H3 S (.dK [(key, zz)])) D = some (.dK (mergeK [] kvs)) := by rw [upd_ne hDS]; exact hD3
  have hz2 : (mergeK [] kvs).length + [(key, zz)].length ≤ sizeLine := by
    have := length_mergeK kvs []
    rw [List.length_nil] at this
    rw [sizeLine_eq]
    show _ + 1 ≤ _
    omega
  refine wpAny_bind (wpAny_onRaise (wpAny_holding (d_merge I7 hDS hD4 upd_same hz2 fun s5 I8 => ?_)))
  exact wpAny_pure ⟨.ref D, _, I8, rfl, q4⟩
end
theorem mergeK_nil : ∀ (kvs ks : List (Key × V)), ((ks ++ kvs).map (·.1)).Nodup → mergeK ks kvs = ks ++ kvs
  | [], ks, _ => by rw [List.append_nil]; rfl
  | p :: r, ks, h => by
    have hv : valV ks p.1 = none := by
      have h2 : p.1 ∉ ks.map (·.1) := by
        rw [List.map_append, List.nodup_append] at h
        exact fun z => h.2.2 _ z _ (by simp) rfl
      cases e : valV ks p.1 with
      | none => rfl
      | some v =>
        have ha := valV_any p.1 ks
        rw [e] at ha
        obtain ⟨x, hx, hx2⟩ := List.any_eq_true.mp ha
        exact absurd (List.mem_map.mpr ⟨x, hx, of_decide_eq_true hx2⟩) h2
    have e : mergeK ks (p :: r) = mergeK (putK ks p.1 p.2) r := rfl
    rw [e, putK_new p.2 hv, mergeK_nil r (ks ++ [(p.1, p.2)]) (by simpa using h)]
    simp
end SK
set_option maxHeartbeats 4000000
/-! SkJ6: the library's readers, undo, trial. -/
namespace SK
open PySem PySem.Spec PyProof.Rows L2
section
variable {X : Cx} {e : Expr} {t : TA} {p pos : Pos}
theorem c_lenD (T : Tx X.K X.mg) (ha : PA X [e] t) (hg : Gl X "len" := by rfl) (he : starEach [e] X.env = (false, eval e X.env) :: starEach [] X.env := by rfl) : PE X (.Call (.Name "len" p) [e] [] pos) (tCB (fun xs H Q => ∃ a kvs, xs = [V.ref a] ∧ H a = some (.dK kvs) ∧ Q (.int kvs.length) H) t) :=
  pe_callB call_lenD hg T.blen PySem.boot_len ha (by decide) (by decide) he rfl
theorem c_sortedD (T : Tx X.K X.mg) (hc : X.calm = true) (ha : PA X [e] t) (hg : Gl X "sorted" := by rfl) (he : starEach [e] X.env = (false, eval e X.env) :: starEach [] X.env := by rfl) : PE X (.Call (.Name "sorted" p) [e] [] pos) (tCB (fun xs H Q => ∃ (a : Addr) (kvs : List (Key × V)) (ks : List Str), xs = [.ref a] ∧ Rd H a (.dK kvs) ∧ kvs.map (·.1) = ks.map Sum.inr ∧ ks.length < 64 ∧
    ∀ ys p, ys.Perm ks → sortedS ys = true → H p = none → Q (.ref p) (upd H p (.lst (ys.map V.str)))) t) :=
  pe_callB (call_sortedD hc) hg T.bsorted bt_sorted ha (by decide) (by decide) he rfl
theorem c_tupleL (T : Tx X.K X.mg) (ha : PA X [e] t) (hg : Gl X "tuple" := by rfl) (he : starEach [e] X.env = (false, eval e X.env) :: starEach [] X.env := by rfl) : PE X (.Call (.Name "tuple" p) [e] [] pos) (tCB (fun xs H Q => ∃ p ys, xs = [.ref p] ∧ ((SqL X.K H p ys ∧ ∀ l, H l = none → Q (.ref l) (upd H l (.tup ys))) ∨ (SqT X.K H p ys ∧ Q (.ref p) H))) t) :=
  pe_callTy call_tuple_of hg T.btuple bt_tuple ha (by decide) (by decide) he rfl
end
section
variable {P : Program} {w : World} {K : PySem.W.Frag} {mg : Str → Option Value} {base : Heap}
theorem sc1 {st : Stmt} (h : FnScope ["self"] ["self"] (defScope st)) : FnScope ["self"] ["self"] (defScope st) := h
def spWishes : Sp := fun vs H Q _ => ∃ L s r, vs = [.ref L] ∧ LibAt H L (s :: r) ∧ ∀ t, PairsAt H t s.ps → Q (.ref t) H
theorem k_wishes (T : Tx K mg) : FnG P w K mg base (L2N.CX P w) 1 1054 spWishes := by
  obtain ⟨fd, F⟩ := T.fLibrarywishes
  have S : FnScope ["self"] ["self"] (defScope (inClass (top 88) 2)) := ⟨rfl, rfl, rfl, by decide +kernel, rfl, by decide +kernel, by decide +kernel⟩
  refine fng_of F S (F.bindsN fun _ _ _ _ _ _ us hl => match us, hl with | [_], _ => rfl) (fun vs H Q E h => ?_) (fun cdv A outer s H vs Q E hr hg h => ⟨_, pss_one (ps_ret (pe_fld (pe_fld (pv 0) rfl) rfl)), ?_⟩)
  · obtain ⟨_, _, _, rfl, _⟩ := h
    rfl
  · obtain ⟨L, s, r, rfl, ⟨dl, p, el, dx, d, t, ah, ep, hy, ht, _⟩, q⟩ := h
    exact ⟨_, rfl, L, 1155, dl, _, _, rfl, el, T.clLibrary, T.nLibraryshape, rfl, p, 958, dx, _, _, rfl, ep, T.clShape, T.nShapepairs, rfl, q t ht⟩
def spChanges : Sp := fun vs H Q _ => ∃ L s r, vs = [.ref L] ∧ LibAt H L (s :: r) ∧ Q (.int (r.length : Nat)) H
theorem k_changes (T : Tx K mg) : FnG P w K mg base (L2N.CX P w) 1 1062 spChanges := by
  obtain ⟨fd, F⟩ := T.fLibrarychanges
  have S : FnScope ["self"] ["self"] (defScope (inClass (top 88) 3)) := ⟨rfl, rfl, rfl, by decide +kernel, rfl, by decide +kernel, by decide +kernel⟩
  refine fng_of F S (F.bindsN fun _ _ _ _ _ _ us hl => match us, hl with | [_], _ => rfl) (fun vs H Q E h => ?_) (fun cdv A outer s H vs Q E hr hg h => ⟨_, pss_one (ps_ret (pe_fld (pe_fld (pv 0) rfl) rfl)), ?_⟩)
  · obtain ⟨_, _, _, rfl, _⟩ := h
    rfl
  · obtain ⟨L, s, r, rfl, ⟨dl, p, el, dx, d, t, ah, ep, hy, ht, _⟩, q⟩ := h
    exact ⟨_, rfl, L, 1155, dl, _, _, rfl, el, T.clLibrary, T.nLibraryshape, rfl, p, 958, dx, _, _, rfl, ep, T.clShape, T.nShapemany, rfl, q⟩
def spLLen : Sp := fun vs H Q _ => ∃ L s r, vs = [.ref L] ∧ LibAt H L (s :: r) ∧ Q (.int (s.ys.length : Nat)) H
theorem k_llen (T : Tx K mg) : FnG P w K mg base (L2N.CX P w) 1 1145 spLLen := by
  obtain ⟨fd, F⟩ := T.fLibrary__len__
  have S : FnScope ["self"] ["self"] (defScope (inClass (top 88) 15)) := ⟨rfl, rfl, rfl, by decide +kernel, rfl, by decide +kernel, by decide +kernel⟩
  refine fng_of F S (F.bindsN fun _ _ _ _ _ _ us hl => match us, hl with | [_], _ => rfl) (fun vs H Q E h => ?_) (fun cdv A outer s H vs Q E hr hg h => ⟨_, pss_one (ps_ret (c_lenD T (pa_cons (pe_fld (pe_fld (pv 0) rfl) rfl) pa_nil))), ?_⟩)
  · obtain ⟨_, _, _, rfl, _⟩ := h
    rfl
  · obtain ⟨L, s, r, rfl, ⟨dl, p, el, dx, d, t, ah, ep, ⟨kvs, ed, hy⟩, ht, _⟩, q⟩ := h
    refine ⟨_, rfl, L, 1155, dl, _, _, rfl, el, T.clLibrary, T.nLibraryshape, rfl, p, 958, dx, _, _, rfl, ep, T.clShape, T.nShapeyards, rfl, d, kvs, rfl, ed, ?_⟩
    rw [hy.len]
    exact q
def spLBool : Sp := fun vs H Q _ => ∃ L, vs = [.ref L] ∧ Q (.bl true) H
theorem k_lbool (T : Tx K mg) : FnG P w K mg base (L2N.CX P w) 1 1152 spLBool := by
  obtain ⟨fd, F⟩ := T.fLibrary__bool__
  have S : FnScope ["self"] ["self"] (defScope (inClass (top 88) 16)) := ⟨rfl, rfl, rfl, by decide +kernel, rfl, by decide +kernel, by decide +kernel⟩
  refine fng_of F S (F.bindsN fun _ _ _ _ _ _ us hl => match us, hl with | [_], _ => rfl) (fun vs H Q E h => ?_) (fun cdv A outer s H vs Q E hr hg h => ⟨_, pss_one (ps_ret pe_bl), ?_⟩)
  · obtain ⟨_, rfl, _⟩ := h
    rfl
  · obtain ⟨L, rfl, q⟩ := h
    exact q
abbrev sA : Str := "a"
abbrev sB : Str := "b"
theorem sAB : sA ≠ sB := by decide +kernel
theorem sBA : sB ≠ sA := by decide +kernel
/-- the names, sorted -/
def nms (ys : List (Str × Int × Int)) : List Str := (if (ys.lookup sA).isSome = true then [sA] else []) ++ (if (ys.lookup sB).isSome = true then [sB] else [])
/-- names of a, b, each once -/
def Okn (ys : List (Str × Int × Int)) : Prop := (∀ x ∈ ys.map (·.1), x = sA ∨ x = sB) ∧ (ys.map (·.1)).Nodup
theorem okn_shapes {l : List Str} (h1 : ∀ x ∈ l, x = sA ∨ x = sB) (h2 : l.Nodup) : l = [] ∨ l = [sA] ∨ l = [sB] ∨ l = [sA, sB] ∨ l = [sB, sA] := by
  match l, h1, h2 with
  | [], _, _ => exact .inl rfl
  | [x], h1, _ => rcases h1 x (by simp) with rfl | rfl <;> simp
  | [x, y], h1, h2 =>
    rcases h1 x (by simp) with rfl | rfl <;> rcases h1 y (by simp) with rfl | rfl
    · exact absurd h2 (by decide +kernel)
    · simp
    · simp
    · exact absurd h2 (by decide +kernel)
  | x :: y :: z :: r, h1, h2 =>
    exfalso
    have n1 : x ≠ y := fun e => by subst e; simp at h2
    have n2 : x ≠ z := fun e => by subst e; simp at h2
    have n3 : y ≠ z := fun e => by subst e; simp at h2
    rcases h1 x (by simp) with rfl | rfl <;> rcases h1 y (by simp) with rfl | rfl <;> rcases h1 z (by simp) with rfl | rfl <;> first | exact n1 rfl | exact n2 rfl | exact n3 rfl
theorem lookup_names (ys : List (Str × Int × Int)) (n : Str) : (ys.lookup n).isSome = true ↔ n ∈ ys.map (·.1) := by
  induction ys with
  | nil => simp
  | cons p r ih =>
    obtain ⟨k, v⟩ := p
    by_cases h : n = k
    · subst h
      simp [List.lookup]
    · rw [show List.lookup n ((k, v) :: r) = List.lookup n r by simp [List.lookup, beq_eq_false_iff_ne.mpr h], ih]
      simp [h]
theorem nms_sorted {ys : List (Str × Int × Int)} (h : Okn ys) {l : List Str} (p : l.Perm (ys.map (·.1))) (s : sortedS l = true) : l = nms ys := by
  have hm : ∀ x ∈ l, x = sA ∨ x = sB := fun x hx => h.1 x (p.mem_iff.mp hx)
  have hn : l.Nodup := p.nodup_iff.mpr h.2
  have ka : (ys.lookup sA).isSome = true ↔ sA ∈ l := (lookup_names ys sA).trans p.mem_iff.symm
  have kb : (ys.lookup sB).isSome = true ↔ sB ∈ l := (lookup_names ys sB).trans p.mem_iff.symm
  unfold nms
  rcases okn_shapes hm hn with rfl | rfl | rfl | rfl | rfl
  · rw [if_neg (by rw [ka]; exact List.not_mem_nil), if_neg (by rw [kb]; exact List.not_mem_nil)]
    rfl
  · rw [if_pos (ka.mpr (by simp)), if_neg (by rw [kb]; decide +kernel)]
    rfl
  · rw [if_neg (by rw [ka]; decide +kernel), if_pos (kb.mpr (by simp))]
    rfl
  · rw [if_pos (ka.mpr (by simp)), if_pos (kb.mpr (by simp))]
    rfl
  · exact absurd s (by decide +kernel)
def spNames : Sp := fun vs H Q _ => ∃ L s r, vs = [.ref L] ∧ LibAt H L (s :: r) ∧ Okn s.ys ∧ ∀ H' t, K0 H H' → H' t = some (.tup ((nms s.ys).map V.str)) → Q (.ref t) H'
theorem k_names (T : Tx K mg) : FnG P w K mg base (L2N.CX P w) 1 1046 spNames := by
  obtain ⟨fd, F⟩ := T.fLibrarynames
  have S : FnScope ["self"] ["self"] (defScope (inClass (top 88) 1)) := ⟨rfl, rfl, rfl, by decide +kernel, rfl, by decide +kernel, by decide +kernel⟩
  refine fng_of F S (F.bindsN fun _ _ _ _ _ _ us hl => match us, hl with | [_], _ => rfl) (fun vs H Q E h => ?_) (fun cdv A outer s H vs Q E hr hg h => ⟨_, pss_one (ps_ret (c_tupleL T (pa_cons (c_sortedD T rfl (pa_cons (pe_fld (pe_fld (pv 0) rfl) rfl) pa_nil)) pa_nil))), ?_⟩)
  · obtain ⟨_, _, _, rfl, _⟩ := h
    rfl
  · obtain ⟨L, s, r, rfl, ⟨dl, p, el, dx, d, t, ah, ep, ⟨kvs, ed, hy⟩, ht, _⟩, ok, q⟩ := h
    have hlen : (s.ys.map (·.1)).length < 64 := by
      rcases okn_shapes ok.1 ok.2 with h | h | h | h | h <;> rw [h] <;> decide
    refine ⟨_, rfl, L, 1155, dl, _, _, rfl, el, T.clLibrary, T.nLibraryshape, rfl, p, 958, dx, _, _, rfl, ep, T.clShape, T.nShapeyards, rfl, d, kvs, s.ys.map (·.1), rfl, .inl ed, hy.keys, hlen, fun l c pm st n1 => ?_⟩
    refine ⟨c, _, rfl, .inl ⟨SqL.of upd_same, fun t2 n2 => ?_⟩⟩
    exact q _ t2 ((kp_new n1).new n2) (by rw [upd_same, nms_sorted ok pm st])
def spHas : Sp := fun vs H Q _ => ∃ L s r n, vs = [.ref L, .str n] ∧ LibAt H L (s :: r) ∧ Q (.bl (s.ys.lookup n).isSome) H
theorem k_has (T : Tx K mg) : FnG P w K mg base (L2N.CX P w) 1 1131 spHas := by
  obtain ⟨fd, F⟩ := T.fLibrary__contains__
  have S : FnScope ["self", "value"] ["self", "value"] (defScope (inClass (top 88) 13)) := ⟨rfl, rfl, rfl, by decide +kernel, rfl, by decide +kernel, by decide +kernel⟩
  refine fng_of F S (F.bindsN fun _ _ _ _ _ _ us hl => match us, hl with | [_, _], _ => rfl) (fun vs H Q E h => ?_) (fun cdv A outer s H vs Q E hr hg h => ⟨_,
    pss_one (ps_ret (pe_and (c_isi T (pa_cons (pv 1) (pa_cons (n_str T) pa_nil))) (pe_one (pe_cmp (pc_din (hu_of hr) (pv 1) (pe_fld (pe_fld (pv 0) rfl) rfl)) rfl)))), ?_⟩)
  · obtain ⟨_, _, _, _, rfl, _⟩ := h
    rfl
  · obtain ⟨L, s, r, n, rfl, ⟨dl, p, el, dx, d, t, ah, ep, ⟨kvs, ed, hy⟩, ht, _⟩, q⟩ := h
    have hl := hy.look (n := n)
    have e : (valV kvs (Sum.inr n)).isSome = (s.ys.lookup n).isSome := by
      cases eL : s.ys.lookup n with
      | none => rw [eL] at hl; rw [show valV kvs (Sum.inr n) = none from hl]; rfl
      | some v => rw [eL] at hl; obtain ⟨y, hl, _⟩ := hl; rw [hl]; rfl
    refine ⟨_, rfl, _, _, _, _, _, rfl, .ty "str", .base (.str _), is_ss, true, rfl, ift rfl ?_⟩
    refine ⟨_, rfl, _, rfl, L, 1155, dl, _, _, rfl, el, T.clLibrary, T.nLibraryshape, rfl, p, 958, dx, _, _, rfl, ep, T.clShape, T.nShapeyards, rfl, d, _, rfl, DGet.k (k := Sum.inr n) ed, ?_⟩
    rw [e]
    exact q
def spGet : Sp := fun vs H Q _ => ∃ L s r n v, vs = [.ref L, .str n] ∧ LibAt H L (s :: r) ∧ s.ys.lookup n = some v ∧ ∀ y, YardAt H y v.1 v.2 → Q (.ref y) H
theorem k_get (T : Tx K mg) : FnG P w K mg base (L2N.CX P w) 2 1117 spGet := by
  obtain ⟨fd, F⟩ := T.fLibrary__getitem__
  have S : FnScope ["self", "name"] ["self", "name"] (defScope (inClass (top 88) 11)) := ⟨rfl, rfl, rfl, by decide +kernel, rfl, by decide +kernel, by decide +kernel⟩
  refine fng_of F S (F.bindsN fun _ _ _ _ _ _ us hl => match us, hl with | [_, _], _ => rfl) (fun vs H Q E h => ?_) (fun cdv A outer s H vs Q E hr hg h => ⟨_,
    pss_cons (ps_if (pt_cmpR (op_notInG T.sLibrary__contains__ (k_has T) hr hg noXN) (pv 1) (pv 0) rfl) (pss_one ps_never) pss_nil)
    (pss_one (ps_ret (pe_dget (hu_of hr) (pe_fld (pe_fld (pv 0) rfl) rfl) (pv 1) (fun _ _ => rfl)))), ?_⟩)
  · obtain ⟨_, _, _, _, _, rfl, _⟩ := h
    rfl
  · obtain ⟨L, s, r, n, v, rfl, hL, eL, q⟩ := h
    obtain ⟨dl, p, el, dx, d, t, ah, ep, ⟨kvs, ed, hy⟩, ht, _⟩ := id hL
    have hl := hy.look (n := n)
    rw [eL] at hl
    obtain ⟨y, hv, hY⟩ := hl
    have hg : DGet H d (kV (Sum.inr n)) (some (.ref y)) := by
      have z := DGet.k (k := Sum.inr n) ed
      rw [hv] at z
      exact z
    refine ⟨_, rfl, _, rfl, L, dl, _, rfl, el, ⟨L, s, r, n, rfl, hL, true, by rw [eL]; rfl, false, rfl, iff_ rfl ?_⟩⟩
    exact ⟨_, rfl, L, 1155, dl, _, _, rfl, el, T.clLibrary, T.nLibraryshape, rfl, p, 958, dx, _, _, rfl, ep, T.clShape, T.nShapeyards, rfl, _, rfl, d, _, rfl, hg, q y hY⟩
def undoD : Lib → Res
  | _ :: s :: r => (s :: r, none)
  | l => (l, some .nothing)
def spUndo : Sp := fun vs H Q E => ∃ L l, vs = [.ref L] ∧ LibAt H L l ∧ Out (· = L) L (undoD l) H Q E
theorem k_undo (T : Tx K mg) : FnG P w K mg base (L2N.CX P w) 1 1096 spUndo := by
  obtain ⟨fd, F⟩ := T.fLibraryundo
  have S : FnScope ["self"] ["self"] (defScope (inClass (top 88) 8)) := ⟨rfl, rfl, rfl, by decide +kernel, rfl, by decide +kernel, by decide +kernel⟩
  refine fng_of F S (F.bindsN fun _ _ _ _ _ _ us hl => match us, hl with | [_], _ => rfl) (fun vs H Q E h => ?_) (fun cdv A outer s H vs Q E hr hg h => ⟨_,
    pss_cons (ps_if (pt_cmpR op_isN (pe_fld (pe_fld (pv 0) rfl) rfl) pe_non (nomark _)) (pss_one (ps_raiseC rfl (L2N.takes_of rfl rfl rfl rfl) PySem.F.excBase_ArithmeticError T.nuExc T.nuHd T.nuTy T.nuEx T.nuSub rfl T.gNothingToUndo)) pss_nil)
    (pss_one (ps_fld (pv 0) (pe_fld (pe_fld (pv 0) rfl) rfl) rfl)), ?_⟩)
  · obtain ⟨_, _, rfl, _⟩ := h
    rfl
  · obtain ⟨L, l, rfl, hL, q⟩ := h
    match l, hL, q with
    | [], ⟨_, _, _, z⟩, _ => exact z.elim
    | [s], hL, q =>
      obtain ⟨dl, p, el, dx, d, t, ah, ep, hy, ht, rfl⟩ := id hL
      refine ⟨_, rfl, L, 1155, dl, _, _, rfl, el, T.clLibrary, T.nLibraryshape, rfl, p, 958, dx, _, _, rfl, ep, T.clShape, T.nShapeahead, rfl, rfl, true, rfl, ift rfl ?_⟩
      exact q H (Kp.refl H) hL _ _ ⟨rfl, rfl⟩
    | s :: s2 :: r, hL, q =>
      obtain ⟨dl, p, el, dx, d, t, ah, ep, hy, ht, p', rfl, hS⟩ := id hL
      refine ⟨_, rfl, L, 1155, dl, _, _, rfl, el, T.clLibrary, T.nLibraryshape, rfl, p, 958, dx, _, _, rfl, ep, T.clShape, T.nShapeahead, rfl, rfl, false, rfl, iff_ rfl ?_⟩
      refine ⟨_, rfl, L, 1155, dl, _, _, rfl, el, T.clLibrary, T.nLibraryshape, rfl, p, 958, dx, _, _, rfl, ep, T.clShape, T.nShapeahead, rfl, _, rfl, L, 1155, dl, _, rfl, el, T.clLibrary, T.nLibraryshape, by simp, ?_⟩
      have k : Kp (· = L) H (upd H L (.ins 1155 dl (putF "shape" (.ref p') [("shape", .ref p)]))) := (Kp.refl H).put rfl el (fun z => z.1 rfl)
      exact q _ k ⟨dl, p', upd_same, ShapeAt.kp k hS⟩
def spTrial : Sp := fun vs H Q _ => ∃ L, vs = [.ref L] ∧ ∀ H' v, K0 H H' → VentAt H' v L .non → H v = none → Q (.ref v) H'
theorem k_trial (T : Tx K mg) : FnG P w K mg base (L2N.CX P w) 3 1103 spTrial := by
  obtain ⟨fd, F⟩ := T.fLibrarytrial
  have S : FnScope ["self"] ["self"] (defScope (inClass (top 88) 9)) := ⟨rfl, rfl, rfl, by decide +kernel, rfl, by decide +kernel, by decide +kernel⟩
  refine fng_of F S (F.bindsN fun _ _ _ _ _ _ us hl => match us, hl with | [_], _ => rfl) (fun vs H Q E h => ?_) (fun cdv A outer s H vs Q E hr hg h => ⟨_,
    pss_one (ps_ret (pe_makeG (E := EF) T.mkVenture (k_Venture T) hr hg (passF noXN) rfl T.gVenture (pa_cons (pv 0) pa_nil))), ?_⟩)
  · obtain ⟨_, rfl, _⟩ := h
    rfl
  · obtain ⟨L, rfl, q⟩ := h
    refine ⟨_, rfl, fun x dx n1 n2 ne => ⟨x, dx, _, rfl, upd_same, fun H' h1 h2 => ⟨rfl, ?_⟩⟩⟩
    exact q H' x (made_kp n1 n2 ne h1 ⟨_, h2⟩) ⟨dx, h2⟩ n1
def spNew : Sp := fun vs H Q _ => ∃ L dx, vs = [.ref L] ∧ H L = some (.ins 1155 dx []) ∧ ∀ H', (∀ c o, H c = some o → c ≠ L → H' c = some o) → LibAt H' L [⟨[], []⟩] → Q .non H'
theorem k_libinit (T : Tx K mg) : FnG P w K mg base (L2N.CX P w) 3 1039 spNew := by
  obtain ⟨fd, F⟩ := T.fLibrary__init__
  have S : FnScope ["self"] ["self"] (defScope (inClass (top 88) 0)) := ⟨rfl, rfl, rfl, by decide +kernel, rfl, by decide +kernel, by decide +kernel⟩
  refine fng_of F S (F.bindsN fun _ _ _ _ _ _ us hl => match us, hl with | [_], _ => rfl) (fun vs H Q E h => ?_) (fun cdv A outer s H vs Q E hr hg h => ⟨_,
    pss_one (ps_fld (pv 0) (pe_makeG (E := EF) T.mkShape (k_Shape T) hr hg (passF noXN) rfl T.gShape (pa_cons pe_dnewK (pa_cons (pe_tup pa_nil) (pa_cons pe_non pa_nil)))) rfl), ?_⟩)
  · obtain ⟨_, _, rfl, _⟩ := h
    rfl
  · obtain ⟨L, dL, rfl, eL, q⟩ := h
    refine fun d nd => ⟨Nat.zero_le _, fun t nt => fun x dx n1 n2 ne => ⟨x, dx, d, t, .non, 0, rfl, upd_same, .inl ⟨rfl, rfl⟩, fun H2 h1 h2 => ⟨rfl, ?_⟩⟩⟩
    have k0 : K0 H (upd (upd H d (.dK [])) t (.tup [])) := (kp_new nd).new nt
    have k1 : K0 (upd (upd H d (.dK [])) t (.tup [])) H2 := made_kp n1 n2 ne h1 ⟨_, h2⟩
    have k := k0.trans k1
    have eL2 := k.at0 eL
    have ed : H2 d = some (.dK []) := k1.at0 (by rw [upd_ne (ne_of_none upd_same nt)]; exact upd_same)
    have et : H2 t = some (.tup []) := k1.at0 upd_same
    refine ⟨_, rfl, L, 1155, dL, _, rfl, eL2, T.clLibrary, T.nLibraryshape, by decide, ?_⟩
    have hne : ∀ {c o}, H2 c = some o → (∀ y z, o ≠ .ins 1155 y z) → c ≠ L := fun e hz => ne_of e eL2 (hz _ _)
    refine q _ (fun c o e n => by rw [upd_ne n]; exact k.at0 e) ⟨dL, x, upd_same, dx, d, t, .non, ?_, ⟨[], ?_, True.intro⟩, ⟨[], ?_, True.intro⟩, rfl⟩
    · rw [upd_ne (hne h2 (fun _ _ z => by cases z))]
      exact h2
    · rw [upd_ne (hne ed (fun _ _ z => by cases z))]
      exact ed
    · rw [upd_ne (hne et (fun _ _ z => by cases z))]
      exact et
end
end SK
set_option maxHeartbeats 4000000
/-! SkJ7: wish, lift, __setitem__. -/
namespace SK
open PySem PySem.Spec PyProof.Rows L2
/-- a library of at most k snaps, each of at most k wishes -/
def WfS (k : Nat) (s : Snap) : Prop := Okn s.ys ∧ (∀ p ∈ s.ps, (s.ys.lookup p.1).isSome = true) ∧ s.ps.length ≤ k ∧ (∀ v ∈ s.ys, Lil v.2.1 ∧ Lil v.2.2) ∧ ∀ p ∈ s.ps, Lil p.2
def WfL (k : Nat) (l : Lib) : Prop := l.length ≤ k ∧ ∀ s ∈ l, WfS k s
def wishD (l : Lib) (n : Str) (m : Int) : Res := match l with
  | [] => ([], none)
  | s :: r => if (s.ys.lookup n).isSome = true then become (s :: r) s.ys (s.ps ++ [(n, m)]) else (s :: r, some (.unknown n))
def liftD (l : Lib) (m : Nat) : Res := match l with
  | [] => ([], none)
  | s :: r => if m < s.ps.length then become (s :: r) s.ys (s.ps.take m ++ s.ps.drop (m + 1)) else (s :: r, some (.index m))
def putD (l : Lib) (n : Str) (v : Int × Int) : Res := match l with
  | [] => ([], none)
  | s :: r => become (s :: r) (putY s.ys n v) s.ps
section
variable {P : Program} {w : World} {K : PySem.W.Frag} {mg : Str → Option Value} {base : Heap}
theorem Out.of {M : Addr → Prop} {L : Addr} {r : Res} {H H1 : Hp} {Q : VK} {E : XK} (q : Out M L r H Q E) (k : Kp M H H1) : Out M L r H1 Q E := fun H' k' => q H' (k.trans k')
theorem Out.mono {M M' : Addr → Prop} {L : Addr} {r : Res} {H : Hp} {Q : VK} {E : XK} (q : Out M L r H Q E) (h : ∀ b, M' b → M b) : Out M' L r H Q E := fun H' k' => q H' (k'.mono h)
def spWish : Sp := fun vs H Q E => ∃ L l k n t m, vs = [.ref L, .str n, .ref t] ∧ LibAt H L l ∧ WishAt H t m ∧ 0 ≤ m ∧ WfL k l ∧ k < 900 ∧ Out (· = L) L (wishD l n m) H Q E
theorem k_wish (T : Tx K mg) : FnG P w K mg base (L2N.CX P w) 7 1082 spWish := by
  obtain ⟨fd, F⟩ := T.fLibrarywish
  obtain ⟨fd1, F1⟩ := T.fis_wish
  have S : FnScope ["self", "name", "wish"] ["self", "name", "wish"] (defScope (inClass (top 88) 6)) := ⟨rfl, rfl, rfl, by decide +kernel, rfl, by decide +kernel, by decide +kernel⟩
  refine fng_of F S (F.bindsN fun _ _ _ _ _ _ us hl => match us, hl with | [_, _, _], _ => rfl) (fun vs H Q E h => ?_) (fun cdv A outer s H vs Q E hr hg h => ⟨_,
    pss_cons (ps_if (pt_cmpR (op_notInG T.sLibrary__contains__ (k_has T) (hr.mono (by decide)) hg noXN) (pv 1) (pv 0) rfl) (pss_one (L2N.ps_raise rfl (L2N.takes_of rfl rfl rfl rfl) (pmk_err T.eUnknownName T.xUnknownName T.iUnknownName T.tUnknownName (k_iUnknown T) (hr.mono (by decide)) hg noXN rfl T.gUnknownName (pv 1)))) pss_nil)
    (pss_cons (ps_if (pt_not (pt_val (pe_g (E := EF) (k_is_wish T) (hr.mono (by decide)) hg (passF noXN) rfl T.gis_wish F1.kp (pa_cons (pv 2) pa_nil)))) (pss_one ps_never) pss_nil)
    (pss_one (ps_expr (pe_mg (E := WE fun c d _ H => E c d H) (pv 0) T.clLibrary T.mbecome (k_become T) hr hg (L2N.passAt (L2N.takes_of rfl rfl rfl rfl))
      (pa_cons (pe_fld (pe_fld (pv 0) rfl) rfl) (pa_cons (pe_tup (StX.pa_star (pe_fld (pe_fld (pv 0) rfl) rfl) (pa_cons (pe_tup (pa_cons (pv 1) (pa_cons (pv 2) pa_nil))) pa_nil))) pa_nil)))))), ?_⟩)
  · obtain ⟨_, _, _, _, _, _, rfl, _⟩ := h
    rfl
  · obtain ⟨L, l, kk, n, tw, m, rfl, hL, hw, hm, wf, hk, q⟩ := h
    match l, hL, wf, q with
    | [], ⟨_, _, _, z⟩, _, _ => exact z.elim
    | s :: r, hL, wf, q =>
      obtain ⟨dl, p, el, dx, d, t, ah, ep, hy, ⟨xs, et, hps⟩, _⟩ := id hL
      obtain ⟨w1, w2, w3, w4, w5⟩ := wf.2 s (by simp)
      refine ⟨_, rfl, _, rfl, L, dl, _, rfl, el, ⟨L, s, r, n, rfl, hL, (s.ys.lookup n).isSome, rfl, !(s.ys.lookup n).isSome, rfl, ?_⟩⟩
      cases hc : (s.ys.lookup n).isSome with
      | false =>
        rw [show wishD (s :: r) n m = (s :: r, some (.unknown n)) from if_neg (by rw [hc]; exact Bool.false_ne_true)] at q
        refine ift rfl ⟨_, rfl, fun cd n1 => ?_⟩
        exact q _ (kp_new n1) (hL.k0 (kp_new n1)) _ _ ⟨rfl, cd, rfl, upd_same⟩
      | true =>
        rw [show wishD (s :: r) n m = become (s :: r) s.ys (s.ps ++ [(n, m)]) from if_pos hc] at q
        refine iff_ rfl ⟨_, rfl, tw, m, rfl, hw, hm, ?_⟩
        refine ⟨true, rfl, iff_ rfl ?_⟩
        refine ⟨_, rfl, L, dl, _, rfl, el, rfl, ?_⟩
        have hxl := hps.len
        refine ⟨_, rfl, L, 1155, dl, _, _, rfl, el, T.clLibrary, T.nLibraryshape, rfl, p, 958, dx, _, _, rfl, ep, T.clShape, T.nShapeyards, rfl, ?_⟩
        refine ⟨_, rfl, L, 1155, dl, _, _, rfl, el, T.clLibrary, T.nLibraryshape, rfl, p, 958, dx, _, _, rfl, ep, T.clShape, T.nShapepairs, rfl, t, xs, rfl, .inl (SqT.of et), ?_⟩
        refine ⟨_, rfl, _, rfl, by show 2 ≤ sizeLine; rw [sizeLine_eq]; omega, fun a1 n1 => ⟨by rw [sizeLine_eq, List.length_append]; show xs.length + 1 ≤ _; omega, fun a2 n2 => ?_⟩⟩
        have k : K0 H (upd (upd H a1 (.tup [.str n, .ref tw])) a2 (.tup (xs ++ [.ref a1]))) := (kp_new n1).new n2
        have e1 : (upd (upd H a1 (.tup [.str n, .ref tw])) a2 (.tup (xs ++ [.ref a1]))) a1 = some (.tup [.str n, .ref tw]) := by rw [upd_ne (ne_of_none upd_same n2)]; exact upd_same
        refine ⟨L, d, a2, s :: r, s.ys, s.ps ++ [(n, m)], rfl, hL.k0 k, hy.kp k, ⟨_, upd_same, (hps.kp k).app ⟨⟨a1, rfl, tw, e1, hw.kp k⟩, True.intro⟩⟩, fun x hx => ?_, ?_, q.of k.up⟩
        · rcases List.mem_append.mp hx with h | h
          · exact w2 x h
          · rw [List.mem_singleton.mp h]
            exact hc
        · rw [List.length_append]
          show s.ps.length + 1 < _
          omega
def spLift : Sp := fun vs H Q E => ∃ L l k m, vs = [.ref L, .int (m : Nat)] ∧ LibAt H L l ∧ WfL k l ∧ k < 900 ∧ Out (· = L) L (liftD l m) H Q E
theorem k_lift (T : Tx K mg) : FnG P w K mg base (L2N.CX P w) 7 1089 spLift := by
  obtain ⟨fd, F⟩ := T.fLibrarylift
  obtain ⟨fd1, F1⟩ := T.fis_integer
  have S : FnScope ["self", "index", "pairs"] ["self", "index"] (defScope (inClass (top 88) 7)) := ⟨rfl, rfl, rfl, by decide +kernel, rfl, by decide +kernel, by decide +kernel⟩
  refine fng_of F S (F.bindsN fun _ _ _ _ _ _ us hl => match us, hl with | [_, _], _ => rfl) (fun vs H Q E h => ?_) (fun cdv A outer s H vs Q E hr hg h => ⟨_,
    pss_cons (ps_set (i := 2) S.nd rfl (Or.inl rfl) (pe_fld (pe_fld (pv 0) rfl) rfl))
    (pss_cons (ps_if (PW.pt (pw_or (pt_not (pt_val (pe_g (E := EF) (k_is_integer T) (hr.mono (by decide)) hg (passF noXN) rfl T.gis_integer F1.kp (pa_cons (pv 1) pa_nil)))) (pw_or1 (pt_not (pt_chain op_le op_lt pe_int (pv 1) (c_len T (pa_cons (pv 2) pa_nil)))))))
      (pss_one (L2N.ps_raise rfl (L2N.takes_of rfl rfl rfl rfl) (pmk_err T.eInvalidIndex T.xInvalidIndex T.iInvalidIndex T.tInvalidIndex (k_iIndex T) (hr.mono (by decide)) hg noXN rfl T.gInvalidIndex (pv 1)))) pss_nil)
    (pss_one (ps_expr (pe_mg (E := WE fun c d _ H => E c d H) (pv 0) T.clLibrary T.mbecome (k_become T) hr hg (L2N.passAt (L2N.takes_of rfl rfl rfl rfl))
      (pa_cons (pe_fld (pe_fld (pv 0) rfl) rfl) (pa_cons (pe_op op_catA (pe_slice sl_tupA (pv 2) po_none (po_some (pv 1))) (pe_slice sl_tupA (pv 2) (po_some (pe_op op_add (pv 1) pe_int)) po_none)) pa_nil)))))), ?_⟩)
  · obtain ⟨_, _, _, _, rfl, _⟩ := h
    rfl
  · obtain ⟨L, l, kk, m, rfl, hL, wf, hk, q⟩ := h
    match l, hL, wf, q with
    | [], ⟨_, _, _, z⟩, _, _ => exact z.elim
    | s :: r, hL, wf, q =>
      obtain ⟨dl, p, el, dx, d, t, ah, ep, hy, ⟨xs, et, hps⟩, _⟩ := id hL
      obtain ⟨w1, w2, w3, w4, w5⟩ := wf.2 s (by simp)
      have hxl := hps.len
      refine ⟨_, rfl, L, 1155, dl, _, _, rfl, el, T.clLibrary, T.nLibraryshape, rfl, p, 958, dx, _, _, rfl, ep, T.clShape, T.nShapepairs, rfl, ?_⟩
      refine ⟨_, rfl, (m : Int), rfl, true, rfl, iff_ rfl ?_⟩
      refine ⟨_, rfl, _, _, rfl, rfl, true, ?_, ift rfl ⟨_, rfl, t, xs, rfl, .inr (SqT.of et), _, _, rfl, rfl, ?_⟩⟩
      · exact congrArg V.bl (decide_eq_true (by omega))
      by_cases hc : m < s.ps.length
      · rw [show liftD (s :: r) m = become (s :: r) s.ys (s.ps.take m ++ s.ps.drop (m + 1)) from if_pos hc] at q
        refine ⟨true, congrArg V.bl (decide_eq_true (by omega)), iff_ rfl ?_⟩
        refine ⟨_, rfl, L, dl, _, rfl, el, rfl, ?_⟩
        refine ⟨_, rfl, L, 1155, dl, _, _, rfl, el, T.clLibrary, T.nLibraryshape, rfl, p, 958, dx, _, _, rfl, ep, T.clShape, T.nShapeyards, rfl, ?_⟩
        have i1 : HT.sIx xs.length 0 (some ((m : Nat) : Int)) = m := by rw [HT.sIx_nat]; omega
        have i1' : HT.sIx xs.length xs.length (some ((m : Nat) : Int)) = m := by rw [HT.sIx_nat]; omega
        have i2 : HT.sIx xs.length 0 (some (((m : Nat) : Int) + 1)) = m + 1 := by
          show HT.sIx xs.length 0 (some (((m + 1 : Nat)) : Int)) = m + 1
          rw [HT.sIx_nat]; omega
        have c1 : cutV xs none (some ((m : Nat) : Int)) = xs.take m := by
          unfold cutV
          rw [i1', HT.sIx_none, List.drop_zero, Nat.sub_zero]
        have c2 : cutV xs (some (((m : Nat) : Int) + 1)) none = xs.drop (m + 1) := by
          unfold cutV
          rw [i2, HT.sIx_none, List.take_of_length_le (by rw [List.length_drop]; omega)]
        have fin : ∀ (H2 : Hp) (c : Addr), K0 H H2 → H2 c = some (.tup (xs.take m ++ xs.drop (m + 1))) → spBecome [.ref L, .ref d, .ref c] H2 (fun v H' => Q .non H') (fun c d H' => E c d H') := fun H2 c k e => by
          refine ⟨L, d, c, s :: r, s.ys, _, rfl, hL.k0 k, hy.kp k, ⟨_, e, ((hps.take m).app (hps.drop (m + 1))).kp k⟩, fun x hx => ?_, ?_, ?_⟩
          · rcases List.mem_append.mp hx with h | h
            · exact w2 x (List.mem_of_mem_take h)
            · exact w2 x (List.mem_of_mem_drop h)
          · rw [List.length_append, List.length_take, List.length_drop]
            omega
          · exact fun H' k' => q H' (k.up.trans k')
        refine ⟨_, rfl, _, rfl, _, rfl, t, xs, rfl, SqT.of et, fun z => absurd z.2 (by rw [i1']; omega), fun _ p1 n1 => ?_⟩
        rw [c1]
        have k1 : K0 H (upd H p1 (.tup (xs.take m))) := kp_new n1
        refine ⟨_, rfl, _, rfl, _, _, rfl, rfl, _, rfl, t, xs, rfl, SqT.of (k1.tup et), fun z => absurd z.1 (by rw [i2]; omega), fun _ p2 n2 => ?_⟩
        rw [c2]
        have k2 := k1.new (o := .tup (xs.drop (m + 1))) n2
        have e1 : (upd (upd H p1 (.tup (xs.take m))) p2 (.tup (xs.drop (m + 1)))) p1 = some (.tup (xs.take m)) := by rw [upd_ne (ne_of_none upd_same n2)]; exact upd_same
        refine ⟨p1, p2, _, _, rfl, rfl, SqT.of e1, SqT.of upd_same, by rw [List.length_take, List.length_drop, sizeLine_eq]; omega, fun z => ?_, fun _ z => ?_, fun _ _ p3 n3 => ?_⟩
        · exact fin _ p2 k2 (by rw [z]; exact upd_same)
        · exact fin _ p1 k2 (by rw [show xs.take m ++ xs.drop (m + 1) = xs.take m by rw [z, List.append_nil]]; exact e1)
        · exact fin _ p3 (k2.new n3) upd_same
      · rw [show liftD (s :: r) m = (s :: r, some (.index m)) from if_neg hc] at q
        refine ⟨false, congrArg V.bl (decide_eq_false (by omega)), ift rfl ⟨_, rfl, fun cd n1 => ?_⟩⟩
        exact q _ (kp_new n1) (hL.k0 (kp_new n1)) _ _ ⟨rfl, cd, rfl, upd_same⟩
theorem look_map (n k : Str) (v : Int × Int) : ∀ ys : List (Str × Int × Int), (ys.map (fun kv => if kv.1 = n then (kv.1, v) else kv)).map (·.1) = ys.map (·.1)
  | [] => rfl
  | (x, u) :: r => by
    rw [List.map_cons, List.map_cons, List.map_cons, look_map n k v r]
    by_cases h : x = n
    · rw [if_pos h]
    · rw [if_neg h]
theorem putY_names (ys : List (Str × Int × Int)) (n : Str) (v : Int × Int) : (putY ys n v).map (·.1) = if n ∈ ys.map (·.1) then ys.map (·.1) else ys.map (·.1) ++ [n] := by
  unfold putY
  by_cases h : n ∈ ys.map (·.1)
  · rw [if_pos ((lookup_names ys n).mpr h), if_pos h, look_map n n]
  · rw [if_neg (fun z => h ((lookup_names ys n).mp z)), if_neg h, List.map_append]
    rfl
theorem putY_okn {ys : List (Str × Int × Int)} {n : Str} {v : Int × Int} (h : Okn ys) (hn : n = sA ∨ n = sB) : Okn (putY ys n v) := by
  unfold Okn
  rw [putY_names]
  by_cases hm : n ∈ ys.map (·.1)
  · rw [if_pos hm]
    exact h
  · rw [if_neg hm]
    refine ⟨fun x hx => ?_, ?_⟩
    · rcases List.mem_append.mp hx with z | z
      · exact h.1 x z
      · rw [List.mem_singleton.mp z]
        exact hn
    · rw [List.nodup_append]
      refine ⟨h.2, by simp, fun a ha b hb => ?_⟩
      rw [List.mem_singleton.mp hb]
      exact fun e => hm (e ▸ ha)
theorem putY_some {ys : List (Str × Int × Int)} {n k : Str} {v : Int × Int} (h : (ys.lookup k).isSome = true) : ((putY ys n v).lookup k).isSome = true := by
  rw [lookup_names] at h ⊢
  rw [putY_names]
  split
  · exact h
  · exact List.mem_append_left _ h
theorem putY_mem {ys : List (Str × Int × Int)} {n : Str} {v : Int × Int} {x : Str × Int × Int} (h : x ∈ putY ys n v) : x ∈ ys ∨ x.2 = v := by
  unfold putY at h
  split at h
  · obtain ⟨y, h1, h2⟩ := List.mem_map.mp h
    split at h2
    · exact .inr (by rw [← h2])
    · exact .inl (h2 ▸ h1)
  · rcases List.mem_append.mp h with z | z
    · exact .inl z
    · rw [List.mem_singleton.mp z]
      exact .inr rfl
theorem okn_keys {H : Hp} {ys : List (Str × Int × Int)} {kvs : List (Key × V)} (hy : Ys H ys kvs) (ok : Okn ys) : (kvs.map (·.1)).Nodup := by
  rw [hy.keys]
  exact List.Pairwise.map _ (fun a b h e => h (Sum.inr.inj e)) ok.2
theorem okn_len {ys : List (Str × Int × Int)} (ok : Okn ys) : ys.length ≤ 2 := by
  have e : ys.length = (ys.map (·.1)).length := by rw [List.length_map]
  rw [e]
  rcases okn_shapes ok.1 ok.2 with h | h | h | h | h <;> rw [h] <;> decide
def spSet : Sp := fun vs H Q E => ∃ L l k n y v, vs = [.ref L, .str n, .ref y] ∧ (n = sA ∨ n = sB) ∧ LibAt H L l ∧ YardAt H y v.1 v.2 ∧ WfL k l ∧ k < 900 ∧ Out (· = L) L (putD l n v) H Q E
theorem nm_ab {n : Str} (h : n = sA ∨ n = sB) : Nm n := by
  rcases h with rfl | rfl
  · exact ⟨_, rfl, by decide +kernel⟩
  · exact ⟨_, rfl, by decide +kernel⟩
theorem k_set (T : Tx K mg) : FnG P w K mg base (L2N.CX P w) 7 1124 spSet := by
  obtain ⟨fd, F⟩ := T.fLibrary__setitem__
  obtain ⟨fd1, F1⟩ := T.fis_name
  obtain ⟨fd2, F2⟩ := T.fcheck_yard
  have S : FnScope ["self", "name", "yard"] ["self", "name", "yard"] (defScope (inClass (top 88) 12)) := ⟨rfl, rfl, rfl, by decide +kernel, rfl, by decide +kernel, by decide +kernel⟩
  refine fng_of F S (F.bindsN fun _ _ _ _ _ _ us hl => match us, hl with | [_, _, _], _ => rfl) (fun vs H Q E h => ?_) (fun cdv A outer s H vs Q E hr hg h => ⟨_,
    pss_cons (ps_if (pt_not (pt_val (pe_g (E := EF) (k_is_name T) (hr.mono (by decide)) hg (passF noXN) rfl T.gis_name F1.kp (pa_cons (pv 1) pa_nil)))) (pss_one ps_never) pss_nil)
    (pss_cons (ps_expr (pe_g (E := EF) (k_check_yard T) (hr.mono (by decide)) hg (passF noXN) rfl T.gcheck_yard F2.kp (pa_cons (pv 2) pa_nil)))
    (pss_one (ps_expr (pe_mg (E := WE fun c d _ H => E c d H) (pv 0) T.clLibrary T.mbecome (k_become T) hr hg (L2N.passAt (L2N.takes_of rfl rfl rfl rfl))
      (pa_cons (pe_dispStar (pe_fld (pe_fld (pv 0) rfl) rfl) (pv 1) (pv 2)) (pa_cons (pe_fld (pe_fld (pv 0) rfl) rfl) pa_nil)))))), ?_⟩)
  · obtain ⟨_, _, _, _, _, _, rfl, _⟩ := h
    rfl
  · obtain ⟨L, l, kk, n, y, v, rfl, hn, hL, hY, wf, hk, q⟩ := h
    match l, hL, wf, q with
    | [], ⟨_, _, _, z⟩, _, _ => exact z.elim
    | s :: r, hL, wf, q =>
      obtain ⟨dl, p, el, dx, d, t, ah, ep, ⟨kvs, ed, hy⟩, ht, _⟩ := id hL
      obtain ⟨w1, w2, w3, w4, w5⟩ := wf.2 s (by simp)
      have hkl := hy.len
      have hol := okn_len w1
      have em : mergeK [] kvs = kvs := mergeK_nil kvs [] (okn_keys hy w1)
      refine ⟨_, rfl, n, rfl, nm_ab hn, fun H0 k0 => ⟨true, rfl, iff_ rfl ?_⟩⟩
      have el0 := k0.at0 el
      refine ⟨_, rfl, y, v.1, v.2, rfl, hY.kp k0, ?_⟩
      refine ⟨_, rfl, L, dl, _, rfl, el0, rfl, fun D nD => ?_⟩
      have k1 : K0 H (upd H0 D (.dK [])) := k0.new nD
      refine ⟨_, rfl, L, 1155, dl, _, _, rfl, k1.at0 el, T.clLibrary, T.nLibraryshape, rfl, p, 958, dx, _, _, rfl, k1.at0 ep, T.clShape, T.nShapeyards, rfl, ?_⟩
      have hDd : D ≠ d := (ne_of_none (k0.at0 ed) nD).symm
      refine ⟨upd_same, d, kvs, rfl, hDd, k1.at0 ed, by omega, fun S' nS => ⟨_, rfl, _, rfl, Sum.inr n, rfl, upd_same, ?_, ?_⟩⟩
      · have hDS : D ≠ S' := ne_of_none (upd_same (H := upd H0 D (.dK []))) nS
        rw [upd_ne hDS]
        exact upd_same
      · have hDS : S' ≠ D := (ne_of_none (upd_same (H := upd H0 D (.dK []))) nS).symm
        have nS0 : H0 S' = none := by
          rw [upd_ne hDS, upd_ne hDS] at nS
          exact nS
        rw [em]
        have k2 : K0 H (upd (upd (upd (upd (upd H0 D (.dK [])) D (.dK kvs)) S' (.dK [])) S' (.dK [(Sum.inr n, .ref y)])) D (.dK (putK kvs (Sum.inr n) (.ref y)))) :=
          ((((k1.own (k0.none nD)).own (k0.none nS0)).own (k0.none nS0)).own (k0.none nD))
        refine ⟨_, rfl, L, 1155, dl, _, _, rfl, k2.at0 el, T.clLibrary, T.nLibraryshape, rfl, p, 958, dx, _, _, rfl, k2.at0 ep, T.clShape, T.nShapepairs, rfl, ?_⟩
        refine ⟨L, D, t, s :: r, putY s.ys n v, s.ps, rfl, hL.k0 k2, ⟨_, upd_same, (hy.kp k2).put (hY.kp k2)⟩, ht.kp k2, fun x hx => putY_some (w2 x hx), by omega, q.of k2.up⟩
end
end SK
set_option maxHeartbeats 4000000
/-! SkJ8: remove. -/
namespace SK
open PySem PySem.Spec PyProof.Rows L2
theorem dc_it {J : It} {n : Nat} {G : Hp → Prop} {Y : Nat → Hp → V → Hp → Prop} (w : Walk J n G Y) {g : TG} {tt : TT} {tk tv : TE} {vs : List Nat} {σ : St} {H1 : Hp} {D : Addr} {Qd : Hp → Prop} (Pv : Nat → Hp → Prop) (h0 : Pv 0 (upd H1 D (.dK []))) (hG : ∀ i H, i ≤ n → Pv i H → G H)
    (hs : ∀ i x H H', i < n → Pv i H → Y i H x H' → g x (wipe σ vs) H' fun σ2 H2 => wipe σ2 vs = wipe σ vs ∧ tt σ2 H2 fun b H3 =>
      if b = true then tk σ2 H3 fun y H4 => tv σ2 H4 fun z H5 => ∃ kvs k, y = kV k ∧ H5 D = some (.dK kvs) ∧ kvs.length < sizeLine ∧ Pv (i + 1) (upd H5 D (.dK (putK kvs k z))) else Pv (i + 1) H3) (hd : ∀ H, Pv n H → Qd H) :
    ∃ W : Nat → Nat → Hp → Prop, (∃ m, W 0 m (upd H1 D (.dK []))) ∧ ∀ i m H, W i m H →
      (J.stop i H ∧ Qd H) ∨ (J.go i H ∧ ∃ Nx : Hp → Prop, (∀ H', Nx H' → ∃ m', m' < m ∧ W (i + 1) m' H') ∧ ∀ x H', J.yld i H x H' → g x (wipe σ vs) H' fun σ2 H2 => wipe σ2 vs = wipe σ vs ∧ tt σ2 H2 fun b H3 =>
        if b = true then tk σ2 H3 fun y H4 => tv σ2 H4 fun z H5 => ∃ kvs k, y = kV k ∧ H5 D = some (.dK kvs) ∧ kvs.length < sizeLine ∧ Nx (upd H5 D (.dK (putK kvs k z))) else Nx H3) := by
  refine ⟨fun i m H => m = n - i ∧ i ≤ n ∧ Pv i H, ⟨n, by simp, Nat.zero_le _, h0⟩, ?_⟩
  rintro i m H ⟨rfl, hi, p⟩
  have q := hG i H hi p
  by_cases hlt : i < n
  · exact .inr ⟨w.goes i H hlt q, Pv (i + 1), fun H' p' => ⟨n - (i + 1), by omega, rfl, hlt, p'⟩, fun x H' y => hs i x H H' hlt p (w.yields i H x H' hlt q y)⟩
  · have e : i = n := by omega
    subst e
    exact .inl ⟨w.stops H q, hd H p⟩
theorem atI0 {α : Type} {x : α} {xs : List α} : atI (x :: xs) 0 = some x := by
  unfold atI ixN
  simp
def uses : List (Str × Int) → Str → Nat → List Nat
  | [], _, _ => []
  | (k, _) :: r, n, o => if k = n then o :: uses r n (o + 1) else uses r n (o + 1)
theorem uses_app (n : Str) : ∀ (ps qs : List (Str × Int)) (o : Nat), uses (ps ++ qs) n o = uses ps n o ++ uses qs n (o + ps.length)
  | [], qs, o => rfl
  | (k, m) :: r, qs, o => by
    show (if k = n then o :: uses (r ++ qs) n (o + 1) else uses (r ++ qs) n (o + 1)) = (if k = n then o :: uses r n (o + 1) else uses r n (o + 1)) ++ uses qs n (o + (r.length + 1))
    rw [uses_app n r qs (o + 1), show o + 1 + r.length = o + (r.length + 1) by omega]
    split <;> rfl
theorem uses_nil (n : Str) : ∀ (ps : List (Str × Int)) (o : Nat), uses ps n o = [] → ∀ p ∈ ps, p.1 ≠ n
  | [], _, _, _, h => nomatch h
  | (k, m) :: r, o, e, p, h => by
    have e' : (if k = n then o :: uses r n (o + 1) else uses r n (o + 1)) = [] := e
    by_cases hk : k = n
    · rw [if_pos hk] at e'
      cases e'
    · rw [if_neg hk] at e'
      rcases List.mem_cons.mp h with rfl | h
      · exact hk
      · exact uses_nil n r _ e' p h
theorem uses_len (n : Str) : ∀ (ps : List (Str × Int)) (o : Nat), (uses ps n o).length ≤ ps.length
  | [], _ => Nat.le_refl _
  | (k, m) :: r, o => by
    show (if k = n then o :: uses r n (o + 1) else uses r n (o + 1)).length ≤ r.length + 1
    have := uses_len n r (o + 1)
    split
    · rw [List.length_cons]; omega
    · omega
def delY (ys : List (Str × Int × Int)) (n : Str) : List (Str × Int × Int) := ys.filter fun v => decide (v.1 ≠ n)
def removeD (l : Lib) (n : Str) : Res := match l with
  | [] => ([], none)
  | s :: r => if (s.ys.lookup n).isSome = true then (match uses s.ps n 0 with
    | [] => become (s :: r) (delY s.ys n) s.ps
    | i :: _ => (s :: r, some (.use i))) else (s :: r, some (.unknown n))
theorem Ys.del {H : Hp} {n : Str} : ∀ {ys : List (Str × Int × Int)} {kvs : List (Key × V)}, Ys H ys kvs → Ys H (delY ys n) (kvs.filter fun kv => decide (kv.1 ≠ Sum.inr n))
  | [], [], _ => True.intro
  | (k, w, m) :: r, _ :: r', ⟨⟨y, e, h⟩, t⟩ => by
    subst e
    unfold delY
    have ih := Ys.del (n := n) t
    by_cases hk : k = n
    · rw [List.filter_cons_of_neg (by simp [hk]), List.filter_cons_of_neg (by simp [hk])]
      exact ih
    · rw [List.filter_cons_of_pos (by simp [hk]), List.filter_cons_of_pos (by simp [hk])]
      exact ⟨⟨y, rfl, h⟩, ih⟩
  | [], _ :: _, h => h.elim
  | _ :: _, [], h => h.elim
theorem delY_names (ys : List (Str × Int × Int)) (n : Str) : (delY ys n).map (·.1) = (ys.map (·.1)).filter fun k => decide (k ≠ n) := by
  unfold delY
  induction ys with
  | nil => rfl
  | cons p r ih =>
    by_cases hk : p.1 = n
    · rw [List.map_cons, List.filter_cons_of_neg (by simp [hk]), List.filter_cons_of_neg (by simp [hk])]
      exact ih
    · rw [List.map_cons, List.filter_cons_of_pos (by simp [hk]), List.filter_cons_of_pos (by simp [hk]), List.map_cons, ih]
theorem delY_okn {ys : List (Str × Int × Int)} {n : Str} (h : Okn ys) : Okn (delY ys n) := by
  unfold Okn
  rw [delY_names]
  exact ⟨fun x hx => h.1 x (List.mem_filter.mp hx).1, h.2.sublist List.filter_sublist⟩
theorem delY_some {ys : List (Str × Int × Int)} {n k : Str} (h : (ys.lookup k).isSome = true) (hk : k ≠ n) : ((delY ys n).lookup k).isSome = true := by
  rw [lookup_names] at h ⊢
  rw [delY_names]
  exact List.mem_filter.mpr ⟨h, by simp [hk]⟩
/-- unlocked again -/
theorem k0_unlock {H H' : Hp} {d : Addr} {o : Obj} {u : HO} (e : H d = some u) (k : K0 (upd H d (.frz o u)) H') : K0 H (upd H' d u) := fun b z eb => by
  by_cases hb : b = d
  · subst hb
    rw [e] at eb
    cases eb
    exact ⟨fun _ => upd_same, u, upd_same⟩
  · have h := k.at0 (show upd H d (.frz o u) b = some z by rw [upd_ne hb]; exact eb)
    exact ⟨fun _ => by rw [upd_ne hb]; exact h, z, by rw [upd_ne hb]; exact h⟩
section
variable {P : Program} {w : World} {K : PySem.W.Frag} {mg : Str → Option Value} {base : Heap}
def spRemove : Sp := fun vs H Q E => ∃ L l k n, vs = [.ref L, .str n] ∧ LibAt H L l ∧ WfL k l ∧ k < 900 ∧ Out (· = L) L (removeD l n) H Q E
theorem k_remove (T : Tx K mg) : FnG P w K mg base (L2N.CX P w) 7 1075 spRemove := by
  obtain ⟨fd, F⟩ := T.fLibraryremove
  have S : FnScope ["self", "name", "uses", "index", "pair", "own", "yard"] ["self", "name"] (defScope (inClass (top 88) 5)) := ⟨rfl, rfl, rfl, by decide +kernel, rfl, by decide +kernel, by decide +kernel⟩
  refine fng_of F S (F.bindsN fun _ _ _ _ _ _ us hl => match us, hl with | [_, _], _ => rfl) (fun vs H Q E h => ?_) (fun cdv A outer s H vs Q E hr hg h => ⟨_,
    pss_cons (ps_if (pt_cmpR (op_notInG T.sLibrary__contains__ (k_has T) (hr.mono (by decide)) hg noXN) (pv 1) (pv 0) rfl) (pss_one (L2N.ps_raise rfl (L2N.takes_of rfl rfl rfl rfl) (pmk_err T.eUnknownName T.xUnknownName T.iUnknownName T.tUnknownName (k_iUnknown T) (hr.mono (by decide)) hg noXN rfl T.gUnknownName (pv 1)))) pss_nil)
    (pss_cons (ps_setLc (i := 2) (own := [("index", 3), ("pair", 4)]) (g := gTup K 2 (gCons (gName 3) (gCons (gName 4) gNil))) rfl S.nd rfl rfl (sw_true rfl rfl rfl (by decide +kernel)) (pi_enumT rfl T.benumerate (pe_fld (pe_fld (pv 0) rfl) rfl)) (blkOk_by (N := ["self", "name", "uses", "index", "pair", "own", "yard"]) (sc := defScope (inClass (top 88) 5)) (by decide +kernel))
        (fun _ _ _ _ _ => pg_tup (n := 2) rfl (pgs_cons (pg_name (i := 3) S.nd rfl (Or.inl rfl)) (pgs_cons (pg_name (i := 4) S.nd rfl (Or.inl rfl)) pgs_nil))) (fun _ _ _ _ _ => pts_one (pt_cmpR op_eq (pe_ix (r := rIxT K) ix_tup (pv 4) pe_int (fun _ _ => rfl)) (pv 1) (nomark _))) (fun _ _ _ _ _ => pv 3))
    (pss_cons (ps_if (pt_cmpR op_gt (c_len T (pa_cons (pv 2) pa_nil)) pe_int (nomark _)) (pss_one (L2N.ps_raise rfl (L2N.takes_of rfl rfl rfl rfl) (pmk_err T.eInUse T.xInUse T.iInUse T.tInUse (k_iInUse T) (hr.mono (by decide)) hg noXN rfl T.gInUse (pe_ix ix_list (pv 2) pe_int (fun _ _ => rfl))))) pss_nil)
    (pss_one (ps_expr (pe_mg (E := WE fun c d _ H => E c d H) (pv 0) T.clLibrary T.mbecome (k_become T) hr hg (L2N.passAt (L2N.takes_of rfl rfl rfl rfl))
      (pa_cons (pe_lock (pe_dc (own := [("own", 5), ("yard", 6)]) (g := gTup K 2 (gCons (gName 5) (gCons (gName 6) gNil))) rfl S.nd (pi_items (pe_fld (pe_fld (pv 0) rfl) rfl)) (blkOk_by (N := ["self", "name", "uses", "index", "pair", "own", "yard"]) (sc := defScope (inClass (top 88) 5)) (by decide +kernel))
        (fun _ _ _ _ _ => pg_tup (n := 2) rfl (pgs_cons (pg_name (i := 5) S.nd rfl (Or.inl rfl)) (pgs_cons (pg_name (i := 6) S.nd rfl (Or.inl rfl)) pgs_nil))) (fun _ _ _ _ _ => pts_one (pt_cmpR op_ne (pv 5) (pv 1) (nomark _))) (fun _ _ _ _ _ => pv 5) (fun _ _ _ _ _ => pv 6))) (pa_cons (pe_fld (pe_fld (pv 0) rfl) rfl) pa_nil))))))), ?_⟩)
  · obtain ⟨_, _, _, _, rfl, _⟩ := h
    rfl
  · obtain ⟨L, l, kk, n, rfl, hL, wf, hk, q⟩ := h
    match l, hL, wf, q with
    | [], ⟨_, _, _, z⟩, _, _ => exact z.elim
    | s :: r, hL, wf, q =>
      obtain ⟨dl, p, el, dx, d, t, ah, ep, ⟨kvs, ed, hy⟩, ⟨xs, et, hps⟩, _⟩ := id hL
      obtain ⟨w1, w2, w3, w4, w5⟩ := wf.2 s (by simp)
      have hxl := hps.len
      have hkl := hy.len
      have hol := okn_len w1
      refine ⟨_, rfl, _, rfl, L, dl, _, rfl, el, ⟨L, s, r, n, rfl, hL, (s.ys.lookup n).isSome, rfl, !(s.ys.lookup n).isSome, rfl, ?_⟩⟩
      cases hc : (s.ys.lookup n).isSome with
      | false =>
        rw [show removeD (s :: r) n = (s :: r, some (.unknown n)) from if_neg (by rw [hc]; exact Bool.false_ne_true)] at q
        refine ift rfl ⟨_, rfl, fun cd n1 => ?_⟩
        exact q _ (kp_new n1) (hL.k0 (kp_new n1)) _ _ ⟨rfl, cd, rfl, upd_same⟩
      | true =>
        rw [show removeD (s :: r) n = (match uses s.ps n 0 with
          | [] => become (s :: r) (delY s.ys n) s.ps
          | i :: _ => (s :: r, some (.use i))) from if_pos hc] at q
        refine iff_ rfl ?_
        refine ⟨_, rfl, L, 1155, dl, _, _, rfl, el, T.clLibrary, T.nLibraryshape, rfl, p, 958, dx, _, _, rfl, ep, T.clShape, T.nShapepairs, rfl, t, xs, rfl, SqT.of et, fun D hD => ?_⟩
        refine lc_it walk_enumT (fun i H' => K0 H H' ∧ H' D = some (.lst ((uses (s.ps.take i) n 0).map fun j => V.int (j : Nat)))) ⟨kp_new hD, upd_same⟩ (fun i H' _ z => SqT.of (z.1.tup et)) ?_ ?_
        · rintro i x H1 H2 hi ⟨k, eD⟩ ⟨tt, x0, y0, rfl, hn, rfl, f1, f2⟩
          cases f1
          obtain ⟨nm, m, t', e1, rfl, ep'⟩ := hps.get (i := 0) (x := .non) f2
          obtain ⟨t2, e2, e3⟩ := id ep'
          have k2 : K0 H (upd H1 tt (.tup [.int (i : Nat), .ref t'])) := k.new hn
          have hDt : D ≠ tt := ne_of_none eD hn
          have eD2 : (upd H1 tt (.tup [.int (i : Nat), .ref t'])) D = some (.lst ((uses (s.ps.take i) n 0).map fun j => V.int (j : Nat))) := by rw [upd_ne hDt]; exact eD
          have hlt : i < s.ps.length := by omega
          have etk : s.ps.take (i + 1) = s.ps.take i ++ [(nm, m)] := by rw [List.take_succ, e1]; rfl
          have eu : uses (s.ps.take (i + 1)) n 0 = uses (s.ps.take i) n 0 ++ (if nm = n then [i] else []) := by
            rw [etk, uses_app, List.length_take, Nat.min_eq_left (Nat.le_of_lt hlt), Nat.zero_add]
            show _ ++ (if nm = n then [i] else []) = _
            rfl
          refine ⟨tt, _, rfl, SqT.of upd_same, rfl, _, _, rfl, _, _, rfl, rfl, rfl, ?_⟩
          refine ⟨_, rfl, t', _, 0, _, rfl, rfl, SqT.of (k2.tup e2), rfl, _, rfl, rfl, decide (nm = n), ?_, ?_⟩
          · first
              | rfl
              | simp
          · by_cases he : nm = n
            · refine ift (decide_eq_true he) ⟨_, rfl, _, eD2, ?_, k2.own hD, ?_⟩
              · rw [List.length_map]
                have := uses_len n (s.ps.take i) 0
                rw [List.length_take] at this
                rw [sizeLine_eq]
                omega
              · rw [upd_same, eu, if_pos he, List.map_append]
                rfl
            · refine iff_ (decide_eq_false he) ⟨k2, ?_⟩
              rw [eu, if_neg he, List.append_nil]
              exact eD2
        · rintro H' ⟨k, eD⟩
          rw [hxl, List.take_length] at eD
          refine ⟨_, rfl, D, _, rfl, .inl (SqL.of eD), _, _, rfl, rfl, ?_⟩
          cases eu : uses s.ps n 0 with
          | cons i us =>
            rw [eu] at q eD
            refine ⟨true, ?_, ift rfl ⟨_, rfl, D, _, 0, V.int (i : Nat), rfl, rfl, SqL.of eD, atI0, fun cd n1 => ?_⟩⟩
            · rw [List.length_map]
              exact congrArg V.bl (decide_eq_true (by show (0 : Int) < ((us.length + 1 : Nat) : Int); omega))
            · have k2 : K0 H (upd H' cd (.xd [("index", .int (i : Nat))])) := k.new n1
              exact q _ k2.up (hL.k0 k2) _ _ ⟨rfl, cd, rfl, upd_same⟩
          | nil =>
            rw [eu] at q
            refine ⟨false, ?_, iff_ rfl ?_⟩
            · rw [List.length_map]
              rfl
            have hnu := uses_nil n s.ps 0 eu
            have eL := k.at0 el
            have ed' := k.at0 ed
            refine ⟨_, rfl, L, dl, _, rfl, eL, rfl, d, _, ed', True.intro, fun od => ?_⟩
            have hLd : L ≠ d := ne_of el ed (fun z => by cases z)
            have hpd : p ≠ d := ne_of ep ed (fun z => by cases z)
            refine ⟨_, rfl, L, 1155, dl, _, _, rfl, by rw [upd_ne hLd]; exact eL, T.clLibrary, T.nLibraryshape, rfl, p, 958, dx, _, _, rfl, by rw [upd_ne hpd]; exact k.at0 ep, T.clShape, T.nShapeyards, rfl, d, od, kvs, rfl, upd_same, fun D2 hD2 => ?_⟩
            refine dc_it walk_items (fun i H2 => K0 (upd H' d (.frz od (.dK kvs))) H2 ∧ H2 D2 = some (.dK ((kvs.take i).filter fun kv => decide (kv.1 ≠ Sum.inr n)))) ⟨kp_new hD2, upd_same⟩ (fun i H2 _ z => z.1.at0 upd_same) ?_ ?_
            · rintro i x H1 H2 hi ⟨k1, e1⟩ ⟨tt, x0, y0, rfl, hn, rfl, f1, f2⟩
              obtain ⟨kv, ekv, rfl⟩ := Option.map_eq_some_iff.mp f1
              obtain ⟨kv', ekv', rfl⟩ := Option.map_eq_some_iff.mp f2
              rw [ekv] at ekv'
              obtain rfl : kv = kv' := Option.some.inj ekv'
              obtain ⟨nm, enm⟩ : ∃ nm : Str, kv.1 = Sum.inr nm := by
                have z : (kvs.map (·.1))[i]? = some kv.1 := by rw [List.getElem?_map, ekv]; rfl
                rw [hy.keys, List.getElem?_map] at z
                obtain ⟨nm, _, e⟩ := Option.map_eq_some_iff.mp z
                exact ⟨nm, e.symm⟩
              rw [enm]
              have hDt : D2 ≠ tt := ne_of_none e1 hn
              have e2 : (upd H1 tt (.tup [kV (Sum.inr nm), kv.2])) D2 = some (.dK ((kvs.take i).filter fun kv => decide (kv.1 ≠ Sum.inr n))) := by rw [upd_ne hDt]; exact e1
              have k2 : K0 (upd H' d (.frz od (.dK kvs))) (upd H1 tt (.tup [kV (Sum.inr nm), kv.2])) := k1.new hn
              have etk : kvs.take (i + 1) = kvs.take i ++ [kv] := by rw [List.take_succ, ekv]; rfl
              refine ⟨tt, _, rfl, SqT.of upd_same, rfl, _, _, rfl, _, _, rfl, rfl, rfl, ?_⟩
              refine ⟨_, rfl, _, rfl, rfl, !decide (nm = n), ?_, ?_⟩
              · first
                  | rfl
                  | simp [kV]
              · by_cases he : nm = n
                · refine iff_ (by simp [he]) ⟨k2, ?_⟩
                  rw [etk, List.filter_append, List.filter_cons_of_neg (by simp [enm, he]), List.filter_nil, List.append_nil]
                  exact e2
                · refine ift (by simp [he]) ⟨_, rfl, _, rfl, _, Sum.inr nm, rfl, e2, ?_, k2.own hD2, ?_⟩
                  · have := List.length_filter_le (fun kv : Key × V => decide (kv.1 ≠ Sum.inr n)) (kvs.take i)
                    rw [List.length_take] at this
                    rw [sizeLine_eq]
                    omega
                  · rw [upd_same, etk, List.filter_append, List.filter_cons_of_pos (by simp [enm, he]), List.filter_nil, putK_new]
                    · rw [← enm]
                    · have nd := okn_keys hy w1
                      cases ev : valV ((kvs.take i).filter fun kv => decide (kv.1 ≠ Sum.inr n)) (Sum.inr nm) with
                      | none => rfl
                      | some v =>
                        exfalso
                        have ha := valV_any (Sum.inr nm) ((kvs.take i).filter fun kv => decide (kv.1 ≠ Sum.inr n))
                        rw [ev] at ha
                        obtain ⟨x, hx, hx2⟩ := List.any_eq_true.mp ha
                        have hx3 : x.1 = Sum.inr nm := of_decide_eq_true hx2
                        have hx4 := (List.mem_filter.mp hx).1
                        have nd2 : ((kvs.take i).map (·.1) ++ [kv.1]).Nodup := by
                          have z : ((kvs.take (i + 1)).map (·.1)).Nodup := by rw [List.map_take]; exact nd.sublist (List.take_sublist _ _)
                          rw [etk, List.map_append] at z
                          exact z
                        rw [List.nodup_append] at nd2
                        exact nd2.2.2 x.1 (List.mem_map_of_mem hx4) kv.1 (by simp) (by rw [hx3, enm])
            · rintro H2 ⟨k1, e1⟩
              rw [List.take_length] at e1
              have hDd : D2 ≠ d := ne_of_none (upd_same (H := H')) hD2 |>.symm
              have k3 : K0 H' (upd H2 d (.dK kvs)) := k0_unlock ed' k1
              have k4 := k.trans k3
              refine ⟨k1.at0 upd_same, ?_⟩
              refine ⟨_, rfl, L, 1155, dl, _, _, rfl, k4.at0 el, T.clLibrary, T.nLibraryshape, rfl, p, 958, dx, _, _, rfl, k4.at0 ep, T.clShape, T.nShapepairs, rfl, ?_⟩
              refine ⟨L, D2, t, s :: r, delY s.ys n, s.ps, rfl, hL.k0 k4, ⟨_, by rw [upd_ne hDd]; exact e1, (hy.kp k4).del⟩, ⟨xs, k4.tup et, hps.kp k4⟩, fun x hx => delY_some (w2 x hx) (hnu x hx), by omega, q.of k4.up⟩
end
end SK
set_option maxHeartbeats 4000000
/-! SkK1: tried. -/
namespace SK
open PySem PySem.Spec PyProof.Rows L2
section
variable {P : Program} {w : World} {K : PySem.W.Frag} {mg : Str → Option Value} {base : Heap}
/-- what tried asks of the def that it calls -/
def spTried (P : Program) (w : World) (K : PySem.W.Frag) (mg : Str → Option Value) (base : Heap) (k : Nat) : Sp := fun vs H Q E => ∃ L f lam p, vs = [.ref L, .ref f] ∧ Callee H f ∧ FnG P w K mg base (L2N.CX P w) k f lam ∧ SelfAt H L p ∧
  ∀ H2 v b, K0 H H2 → H v = none → H b = none → VentAt H2 v L (.ref b) → BegAt H2 b p → SelfAt H2 L p →
    ∀ (Q' : VK) (E' : XK), (∀ r H3, VentAt H3 v L (.ref b) → BegAt H3 b p → (∃ q, SelfAt H3 L q) → (∀ H4, Kp (· = v) H3 H4 → Q r H4) → Q' r H3) →
      (∀ cls d H3, VentAt H3 v L (.ref b) → BegAt H3 b p → (∃ q, SelfAt H3 L q) → (∃ cv, RelV cv cls ∧ cv ≠ .non) → (∀ H4, Kp (fun a => a = v ∨ a = L) H3 H4 → SelfAt H4 L p → E cls d H4) → E' cls d H3) → lam [.ref L] H2 Q' E'
theorem callee_kp {M : Addr → Prop} {H H1 : Hp} {f : Addr} (x : Callee H f) (k : Kp M H H1) : Callee H1 f := by
  obtain ⟨φ, e, z⟩ := x
  exact ⟨φ, k.ext' e, z⟩
theorem scTr : FnScope ["self", "action", "library"] ["self", "action"] (defScope (inClass (top 88) 10)) := ⟨rfl, rfl, rfl, by decide +kernel, rfl, by decide +kernel, by decide +kernel⟩
theorem tried_body (T : Tx K mg) {k : Nat} (h3 : 3 ≤ k) (cdv : Value) (A : Around) (outer : List Env) (s : Shared) (H : Hp) (vs : List V) (Q : VK) (E : XK) (hr : Room k (A.deeper (envOfC "Library.tried" (defScope (inClass (top 88) 10)) s.heap.objs.size 1110 cdv))) (hg : A.guards = some [])
    (h : spTried P w K mg base k vs H Q E) : ∃ t, PSs (cxOf (L2N.CX P w) P w K mg base ["self", "action", "library"] "Library.tried" (defScope (inClass (top 88) 10)) 1110 cdv A outer s H E) (defBody (inClass (top 88) 10)) t ∧ t { nx := fun _ H' => Q .non H', rt := Q } (L2.start ["self", "action", "library"] vs) H := by
  refine ⟨_, pss_one (ps_with (k := k) (i := 2) (tb := fun W => tRet (tCallV (cxOf (L2N.CX P w) P w K mg base ["self", "action", "library"] "Library.tried" (defScope (inClass (top 88) 10)) 1110 cdv A outer s H E) k 1 W (tCons (tVar 2) tNil))) (Wout := fun c d _ H => E c d H) rfl rfl rfl hr hg (L2N.takes_of rfl rfl rfl rfl) (pe_mg0 (E := EF) (pv 0) T.clLibrary T.mtrial (k_trial T) (hr.mono h3) hg (passF noXN))
    T.sVenture__enter__ T.sVenture__exit__ ((k_enter T).mono h3) ((k_exit T).mono (by omega)) ((k_exitH T).mono (by omega)) scTr.nd rfl rfl (fun W pn xe tk => pss_one (ps_ret (pe_callV (i := 1) hr hg tk rfl (Or.inl rfl) (pa_cons (pv 2) pa_nil))))), ?_⟩
  obtain ⟨L, f, lam, p, rfl, hf, F, hS, q⟩ := h
  obtain ⟨dl, el⟩ := id hS
  refine ⟨_, rfl, L, dl, _, rfl, el, rfl, L, rfl, fun H1 v k1 hv nv => ?_⟩
  obtain ⟨dv, ev⟩ := id hv
  have hLv : L ≠ v := ne_of_none el nv
  refine ⟨v, dv, _, rfl, ev, v, L, p, rfl, hv, ⟨dl, k1.at0 el⟩, fun H2 b k2 hv2 hb nb => ?_⟩
  have k12 : K0 H H2 := fun c o e => by
    have e1 := k1.at0 e
    have e2 := k2.st e1 (ne_of_none e nv)
    exact ⟨fun _ => e2, _, e2⟩
  have hS2 : SelfAt H2 L p := ⟨dl, k12.at0 el⟩
  refine ⟨f, lam, rfl, callee_kp hf k12, F, _, rfl, callee_kp hf k12, ?_⟩
  refine q H2 v b k12 nv (k1.none nb) hv2 hb hS2 _ _ (fun r H3 h1 h2 ⟨q3, h3⟩ h4 => ?_) (fun cls d H3 h1 h2 ⟨q3, h3⟩ ⟨cv, r1, r2⟩ h4 => ?_)
  · exact ⟨v, .non, .non, .non, L, b, p, q3, rfl, h1, h2, h3, .inl ⟨rfl, fun H' k' _ => h4 H' k'⟩⟩
  · exact ⟨cv, r1, fun e tv _ => ⟨v, cv, .ref e, tv, L, b, p, q3, rfl, h1, h2, h3, .inr ⟨r2, fun H' k' _ hs => ⟨rfl, h4 H' k' hs⟩⟩⟩⟩
theorem spTried_len {k : Nat} {vs : List V} {H : Hp} {Q : VK} {E : XK} (h : spTried P w K mg base k vs H Q E) : vs.length = 2 := by
  obtain ⟨_, _, _, _, rfl, _⟩ := h
  rfl
theorem k_tried (T : Tx K mg) {k : Nat} (h3 : 3 ≤ k) : FnG P w K mg base (L2N.CX P w) (k + 1) 1110 (spTried P w K mg base k) := by
  obtain ⟨fd, F⟩ := T.fLibrarytried
  exact fng_of F scTr (F.bindsN fun _ _ _ _ _ _ us hl => match us, hl with | [_, _], _ => rfl) (fun vs H Q E h => spTried_len h) (fun cdv A outer s H vs Q E hr hg h => tried_body T h3 cdv A outer s H vs Q E hr hg h)
theorem k_triedK (T : Tx K mg) {k : Nat} (h3 : 3 ≤ k) : FnGK P w K mg base (L2N.CX P w) (k + 1) 1110 "action" (spTried P w K mg base k) := by
  obtain ⟨fd, F⟩ := T.fLibrarytried
  refine fngk_of (p0 := "self") (p1 := "action") F scTr (fun s u0 u1 hk => ?_) (fun cdv A outer s H vs Q E hr hg h => tried_body T h3 cdv A outer s H vs Q E hr hg h)
  obtain ⟨oc, od, dV, kV, doc, pm, an, cdv, ct, osl, rfl, lk, hcd, hD, hK⟩ := F.ex
  rcases hD with ⟨_, rfl⟩ | ⟨e, _⟩
  · exact BindsTo.of_eq rfl
  · exact absurd rfl e
end
end SK
set_option maxHeartbeats 4000000
/-! SkL1: the law's dice. -/
namespace SK
open PySem PySem.Spec PyProof.Rows L2
section
variable {X : Cx} {e : Expr} {es : List Expr} {t : TA} {p pos : Pos}
theorem c_int (T : Tx X.K X.mg) (ha : PA X [e] t) (hg : Gl X "int" := by rfl) (he : starEach [e] X.env = (false, eval e X.env) :: starEach [] X.env := by rfl) : PE X (.Call (.Name "int" p) [e] [] pos) (tCB (fun xs H Q => (∃ i, xs = [.int i] ∧ Q (.int i) H) ∨ ∃ k, xs = [.bl k] ∧ Q (.int (if k then 1 else 0)) H) t) :=
  pe_callTy call_int1 hg T.bint bt_int ha (by decide) (by decide) he rfl
theorem c_abs (T : Tx X.K X.mg) (ha : PA X [e] t) (hg : Gl X "abs" := by rfl) (he : starEach [e] X.env = (false, eval e X.env) :: starEach [] X.env := by rfl) : PE X (.Call (.Name "abs" p) [e] [] pos) (tCB (fun xs H Q => ∃ i, xs = [.int i] ∧ Q (.int (if i < 0 then -i else i)) H) t) :=
  pe_callB call_abs hg T.babs bt_abs ha (by decide) (by decide) he rfl
theorem c_divmod (T : Tx X.K X.mg) (ha : PA X (e :: es) t) (hg : Gl X "divmod" := by rfl) (he : starEach (e :: es) X.env = (false, eval e X.env) :: starEach es X.env := by rfl) (hpl : (backTo pos (starEach es X.env)).any (·.1) = false := by rfl) : PE X (.Call (.Name "divmod" p) (e :: es) [] pos) (tCB (fun xs H Q => ∃ i j, xs = [.int i, .int j] ∧ CDiv i j ∧ ∀ p, H p = none → Q (.ref p) (upd H p (.tup [.int (i / j), .int (i % j)]))) t) :=
  pe_callB call_divmod hg T.bdivmod bt_divmod ha (by decide) (by decide) he hpl
end
section
variable {P : Program} {w : World} {K : PySem.W.Frag} {mg : Str → Option Value} {base : Heap}
def PailAt (H : Hp) (p : Addr) : Prop := ∃ p0 p1 p2 : Int, H p = some (.lst [.int p0, .int p1, .int p2]) ∧ 0 ≤ p0 ∧ 0 ≤ p1 ∧ p1 < 2147483629
def spCast : Sp := fun vs H Q _ => ∃ p m, vs = [.ref p, .int m] ∧ PailAt H p ∧ 0 < m ∧ m < 100 ∧ ∀ H' f, Kp (· = p) H H' → PailAt H' p → 0 ≤ f → f < m → Q (.int f) H'
theorem sc91 : FnScope ["_law_pail", "_law_many", "_law_figure", "_law_state"] ["_law_pail", "_law_many"] (defScope (top 91)) := ⟨rfl, rfl, rfl, by decide +kernel, rfl, by decide +kernel, by decide +kernel⟩
theorem k_cast (T : Tx K mg) : FnG P w K mg base (L2N.CX P w) 1 1173 spCast := by
  obtain ⟨fd, F⟩ := T.f_law_cast
  refine fng_of F sc91 (F.bindsN fun _ _ _ _ _ _ us hl => match us, hl with | [_, _], _ => rfl) (fun vs H Q E h => ?_) (fun cdv A outer s H vs Q E hr hg h => ⟨_,
    pss_cons (ps_if (pt_cmpR op_gt (pe_ix ix_list (pv 0) pe_int (fun _ _ => rfl)) pe_int (nomark _))
      (pss_cons (ps_asg (c_divmod T (pa_cons (pe_ix ix_list (pv 0) pe_int (fun _ _ => rfl)) (pa_cons (pv 1) pa_nil))) (pg_tup rfl (pgs_cons (pg_sub (pv 0) pe_int set_list) (pgs_cons (pg_name (i := 2) sc91.nd rfl (Or.inl rfl)) pgs_nil)))) (pss_one (ps_ret (pv 2)))) pss_nil)
    (pss_cons (ps_asg (pe_op op_add (pe_ix ix_list (pv 0) pe_int (fun _ _ => rfl)) pe_int) (pg_sub (pv 0) pe_int set_list))
    (pss_cons (ps_set (i := 3) sc91.nd rfl (Or.inl rfl) (pe_op op_mod (c_int T (pa_cons (pe_op op_add (pe_op op_add (pe_op op_mul (pe_ix ix_list (pv 0) pe_int (fun _ _ => rfl)) (pe_op op_add pe_int (pe_op op_mul pe_int (pe_ix ix_list (pv 0) pe_int (fun _ _ => rfl))))) (pe_op op_mul pe_int (pe_ix ix_list (pv 0) pe_int (fun _ _ => rfl)))) pe_int) pa_nil)) pe_int))
    (pss_cons (ps_asg (pe_op op_mod (c_int T (pa_cons (pe_op op_add (pe_op op_add (pe_op op_mul (pv 3) pe_int) (pe_op op_mul pe_int (pe_ix ix_list (pv 0) pe_int (fun _ _ => rfl)))) pe_int) pa_nil)) pe_int) (pg_sub (pv 0) pe_int set_list))
    (pss_one (ps_ret (pe_op op_mod (c_int T (pa_cons (pe_op op_fdiv (pe_ix ix_list (pv 0) pe_int (fun _ _ => rfl)) pe_int) pa_nil)) (pv 1))))))), ?_⟩)
  · obtain ⟨_, _, rfl, _⟩ := h
    rfl
  · obtain ⟨p, m, rfl, ⟨p0, p1, p2, hp, h0, h1, h2⟩, hm, hm2, q⟩ := h
    have ni : ∀ {xs : List V}, ¬ Imm (.lst xs) := fun z => z
    refine ⟨_, rfl, p, _, 0, _, rfl, rfl, SqL.of hp, rfl, p0, 0, rfl, rfl, decide (0 < p0), rfl, ?_⟩
    by_cases hc : 0 < p0
    · refine ift (decide_eq_true hc) ?_
      refine ⟨_, rfl, p, _, 0, _, rfl, rfl, SqL.of hp, rfl, _, rfl, p0, m, rfl, ⟨hm, by omega⟩, fun t nt => ?_⟩
      have k1 : Kp (· = p) H (upd H t (.tup [.int (p0 / m), .int (p0 % m)])) := kp_new nt
      have hpt : p ≠ t := ne_of_none hp nt
      refine ⟨t, _, rfl, SqT.of upd_same, rfl, _, _, rfl, ⟨_, rfl, p, _, 0, 0, rfl, rfl, by rw [upd_ne hpt]; exact hp, rfl, ?_⟩⟩
      refine ⟨_, _, rfl, rfl, _, rfl, ?_⟩
      refine q _ _ (k1.put rfl hp ni) ⟨p0 / m, p1, p2, upd_same, Int.ediv_nonneg h0 (by omega), h1, h2⟩ (Int.emod_nonneg _ (by omega)) (Int.emod_lt_of_pos _ hm)
    · refine iff_ (decide_eq_false hc) ?_
      refine ⟨_, rfl, p, _, 2, _, rfl, rfl, SqL.of hp, rfl, p2, 1, rfl, rfl, _, rfl, p, _, 2, 2, rfl, rfl, hp, rfl, ?_⟩
      have k1 : Kp (· = p) H (upd H p (.lst [.int p0, .int p1, .int (p2 + 1)])) := (Kp.refl H).put rfl hp ni
      refine ⟨_, rfl, p, _, 1, _, rfl, rfl, SqL.of upd_same, rfl, _, rfl, p, _, 2, _, rfl, rfl, SqL.of upd_same, rfl, _, _, rfl, rfl, .inl ⟨by decide, by decide⟩, _, _, rfl, rfl, _, _, rfl, rfl, .inl ⟨by omega, by omega⟩, ?_⟩
      refine ⟨_, rfl, p, _, 2, _, rfl, rfl, SqL.of upd_same, rfl, _, _, rfl, rfl, .inl ⟨by decide, by decide⟩, _, _, rfl, rfl, _, _, rfl, rfl, .inl ⟨_, rfl, _, _, rfl, rfl, (by show (0 : Int) < 2147483629; decide), ?_⟩⟩
      refine ⟨_, rfl, _, _, rfl, rfl, .inr ⟨by decide, by decide⟩, _, rfl, p, _, 2, _, rfl, rfl, SqL.of upd_same, rfl, _, _, rfl, rfl, .inl ⟨by decide, by decide⟩, _, _, rfl, rfl, _, _, rfl, rfl, .inl ⟨_, rfl, _, _, rfl, rfl, (by show (0 : Int) < 2147483587; decide), ?_⟩⟩
      refine ⟨_, rfl, p, _, 1, 1, rfl, rfl, upd_same, rfl, ?_⟩
      refine ⟨_, rfl, p, _, 1, _, rfl, rfl, SqL.of upd_same, rfl, _, _, rfl, rfl, ⟨by decide, by decide⟩, .inl ⟨_, rfl, _, rfl, _, _, rfl, rfl, hm, ?_⟩⟩
      refine q _ _ (k1.put rfl hp ni) ⟨p0, _, p2 + 1, upd_same, h0, Int.emod_nonneg _ (by decide), ?_⟩ (Int.emod_nonneg _ (by omega)) (Int.emod_lt_of_pos _ hm)
      exact Int.lt_trans (Int.emod_lt_of_pos _ (by decide)) (by decide)
def spBegin (K : PySem.W.Frag) : Sp := fun vs H Q _ => ∃ (a : Addr) (ns : List Int) (i : Nat), vs = [.ref a, .int (i : Nat)] ∧ ns.length ≤ 63 ∧ i < 63 ∧ SqL K H a (ns.map V.int) ∧ (∀ z ∈ ns, Builtin.Int.intBits z ≤ 1048576) ∧ ∀ H' p, K0 H H' → PailAt H' p → H p = none → Q (.ref p) H'
theorem sc90 : FnScope ["_law_script", "_law_turn", "_law_own", "_law_state", "_law_cell"] ["_law_script", "_law_turn"] (defScope (top 90)) := ⟨rfl, rfl, rfl, by decide +kernel, rfl, by decide +kernel, by decide +kernel⟩
theorem k_begun (T : Tx K mg) : FnG P w K mg base (L2N.CX P w) 1 1166 (spBegin K) := by
  obtain ⟨fd, F⟩ := T.f_law_begun
  refine fng_of F sc90 (F.bindsN fun _ _ _ _ _ _ us hl => match us, hl with | [_, _], _ => rfl) (fun vs H Q E h => ?_) (fun cdv A outer s H vs Q E hr hg h => ⟨_,
    pss_cons (ps_set (i := 2) sc90.nd rfl (Or.inl rfl) (pe_ifExp (pt_cmpR op_lt (pv 1) (c_len T (pa_cons (pv 0) pa_nil)) (nomark _)) (pe_ix ix_list (pv 0) (pv 1) (fun _ _ => rfl)) pe_int))
    (pss_cons (ps_set (i := 3) sc90.nd rfl (Or.inl rfl) (pe_op op_add pe_int (pe_op op_mul pe_int (pv 1))))
    (pss_cons (ps_for PassesOwn.leaving rfl (pi_list (pe_slice sl_list (pv 0) po_none (po_some pe_int))) (pg_name (i := 4) sc90.nd rfl (Or.inl rfl))
      (pss_one (ps_set (i := 3) sc90.nd rfl (Or.inl rfl) (pe_op op_mod (c_int T (pa_cons (pe_op op_add (pe_op op_add (pe_op op_mul (pv 3) pe_int) (pe_op op_mul (pv 4) pe_int)) pe_int) pa_nil)) pe_int))))
    (pss_one (ps_ret (pe_lst (pa_cons (pe_ifExp (PW.pt (pw_or (pt_cmpR op_lt (pv 2) pe_int (nomark _)) (pw_or1 (pt_cmpR op_ge (pv 2) (pe_op op_pow pe_int pe_int) (nomark _))))) (c_abs T (pa_cons (pv 2) pa_nil)) pe_int)
      (pa_cons (pe_op op_mod (c_int T (pa_cons (pe_op op_add (pe_op op_add (pe_op op_mul (pv 3) pe_int) (pe_op op_mulX (pv 2) (pv 2))) (pe_op op_mul pe_int (pv 1))) pa_nil)) pe_int) (pa_cons pe_int pa_nil)))))))), ?_⟩)
  · obtain ⟨_, _, _, rfl, _⟩ := h
    rfl
  · obtain ⟨a, ns, i, rfl, hl, hi, ha, hb, q⟩ := h
    have own : ∃ own : Int, Builtin.Int.intBits own ≤ 1048576 ∧ (∀ QQ : V → Hp → Prop, QQ (.int own) H → tIf (tTest (tOp (rI0 fun i j => .bl (decide (i < j))) (tVar 1) (tCB (fun xs H Q => ∃ p ys, xs = [.ref p] ∧ (SqL K H p ys ∨ SqT K H p ys) ∧ Q (.int ys.length) H) (tCons (tVar 0) tNil)))) (tOp (rIxL K) (tVar 0) (tVar 1)) (tC (.int 0)) [some (.ref a), some (.int (i : Nat)), none, none, none] H QQ) := by
      by_cases hc : i < ns.length
      · have hz : (ns.map V.int)[i]? = some (.int ns[i]) := by rw [List.getElem?_map, List.getElem?_eq_getElem hc]; rfl
        refine ⟨ns[i], hb _ (List.getElem_mem hc), fun QQ hQ => ?_⟩
        refine ⟨_, rfl, _, rfl, a, _, rfl, .inl ha, _, _, rfl, rfl, true, congrArg V.bl (decide_eq_true (by rw [List.length_map]; omega)), ift rfl ?_⟩
        refine ⟨_, rfl, _, rfl, a, _, _, _, rfl, rfl, ha, ?_, hQ⟩
        unfold atI ixN
        rw [if_pos (by omega), if_pos (by rw [List.length_map]; omega)]
        exact hz
      · refine ⟨0, by decide, fun QQ hQ => ?_⟩
        exact ⟨_, rfl, _, rfl, a, _, rfl, .inl ha, _, _, rfl, rfl, false, congrArg V.bl (decide_eq_false (by rw [List.length_map]; omega)), iff_ rfl hQ⟩
    obtain ⟨own, hob, hown⟩ := own
    refine hown _ ?_
    refine ⟨_, rfl, _, _, rfl, rfl, .inl ⟨by decide, by decide⟩, _, _, rfl, rfl, ?_⟩
    refine ⟨_, rfl, _, rfl, a, _, rfl, ha, fun p1 n1 => ⟨p1, rfl, ⟨_, SqL.of upd_same⟩, for_it (walk_list (xs := cutV (ns.map V.int) none (some 6))) (fun j σ H' => K0 H H' ∧ H' p1 = some (.lst (cutV (ns.map V.int) none (some 6))) ∧ ∃ (st : Int) (c : Option V), 0 ≤ st ∧ st < 2147483629 ∧ σ = [some (.ref a), some (.int (i : Nat)), some (.int own), some (.int st), c])
      ⟨kp_new n1, upd_same, _, _, by omega, by omega, rfl⟩ (fun j σ H' _ z => SqL.of z.2.1) ?_ ?_⟩⟩
    · rintro j x σ H1 H2 hj ⟨k, ep, st, c, h0, h1, rfl⟩ ⟨rfl, hx⟩
      have hm : x ∈ ns.map V.int := List.mem_of_mem_drop (List.mem_of_mem_take (List.mem_of_getElem? hx))
      obtain ⟨z, _, rfl⟩ := List.mem_map.mp hm
      refine ⟨_, rfl, _, _, rfl, rfl, .inr ⟨by decide, by decide⟩, _, rfl, _, _, rfl, rfl, .inr ⟨by decide, by decide⟩, _, _, rfl, rfl, _, _, rfl, rfl, .inl ⟨_, rfl, _, _, rfl, rfl, (by show (0 : Int) < 2147483629; decide), ?_⟩⟩
      exact ⟨k, ep, _, _, Int.emod_nonneg _ (by decide), Int.emod_lt_of_pos _ (by decide), rfl⟩
    · rintro σ H1 ⟨k, ep, st, c, h0, h1, rfl⟩
      have fin : ∀ v0 : Int, 0 ≤ v0 → (tCons (tOp (rI (fun x j => 0 < j) fun i j => V.int (i % j)) (tCB (fun xs H Q => (∃ i, xs = [.int i] ∧ Q (.int i) H) ∨ ∃ k, xs = [.bl k] ∧ Q (.int (if k then 1 else 0)) H) (tCons (tOp (rI0 fun i j => .int (i + j)) (tOp (rI0 fun i j => .int (i + j)) (tOp (rI CMul fun i j => .int (i * j)) (tVar 3) (tC (.int 53))) (tOp (rI CMulX fun i j => .int (i * j)) (tVar 2) (tVar 2))) (tOp (rI CMul fun i j => .int (i * j)) (tC (.int 17)) (tVar 1))) tNil)) (tC (.int 2147483629))) (tCons (tC (.int 0)) tNil)) [some (.ref a), some (.int (i : Nat)), some (.int own), some (.int st), c] H1 fun xs H2 => (V.int v0 :: xs).length ≤ sizeLine ∧ ∀ p, H2 p = none → Q (.ref p) (upd H2 p (.lst (V.int v0 :: xs))) := fun v0 hv => by
        refine ⟨_, rfl, _, _, rfl, rfl, .inr ⟨by decide, by decide⟩, _, rfl, _, rfl, _, _, rfl, rfl, ?_, _, _, rfl, rfl, _, rfl, _, _, rfl, rfl, .inl ⟨by decide, by decide⟩, _, _, rfl, rfl, .inl ⟨_, rfl, _, _, rfl, rfl, (by show (0 : Int) < 2147483629; decide), ?_⟩⟩
        · show (Builtin.Int.intBits own : Int) + (Builtin.Int.intBits own : Int) ≤ 134217728
          omega
        · refine ⟨by show 3 ≤ sizeLine; rw [sizeLine_eq]; omega, fun p2 n2 => q _ p2 (k.new n2) ⟨v0, _, 0, upd_same, hv, Int.emod_nonneg _ (by decide), Int.emod_lt_of_pos _ (by decide)⟩ (k.none n2)⟩
      by_cases hc : own < 0
      · refine ⟨_, rfl, _, _, rfl, rfl, true, congrArg V.bl (decide_eq_true hc), ift rfl ⟨_, rfl, own, rfl, ?_⟩⟩
        rw [if_pos hc]
        exact fin _ (by omega)
      · refine ⟨_, rfl, _, _, rfl, rfl, false, congrArg V.bl (decide_eq_false hc), iff_ rfl ?_⟩
        by_cases hd : (10 : Int) ^ 18 ≤ own
        · refine ⟨_, rfl, _, _, rfl, rfl, ⟨by decide, by decide, by decide⟩, _, _, rfl, rfl, true, congrArg V.bl (decide_eq_true hd), ift rfl ⟨_, rfl, own, rfl, ?_⟩⟩
          rw [if_neg hc]
          exact fin _ (by omega)
        · exact ⟨_, rfl, _, _, rfl, rfl, ⟨by decide, by decide, by decide⟩, _, _, rfl, rfl, false, congrArg V.bl (decide_eq_false hd), iff_ rfl (fin 0 (Int.le_refl _))⟩
def spAny : Sp := fun vs H Q _ => ∃ p l xs, vs = [.ref p, .ref l] ∧ PailAt H p ∧ p ≠ l ∧ H l = some (.lst xs) ∧ 0 < xs.length ∧ xs.length < 100 ∧ ∀ H' x, Kp (· = p) H H' → PailAt H' p → x ∈ xs → Q x H'
theorem k_any (T : Tx K mg) : FnG P w K mg base (L2N.CX P w) 2 1180 spAny := by
  obtain ⟨fd, F⟩ := T.f_law_any_of
  obtain ⟨fd1, F1⟩ := T.f_law_cast
  have S : FnScope ["_law_pail", "_law_some"] ["_law_pail", "_law_some"] (defScope (top 92)) := ⟨rfl, rfl, rfl, by decide +kernel, rfl, by decide +kernel, by decide +kernel⟩
  refine fng_of F S (F.bindsN fun _ _ _ _ _ _ us hl => match us, hl with | [_, _], _ => rfl) (fun vs H Q E h => ?_) (fun cdv A outer s H vs Q E hr hg h => ⟨_,
    pss_one (ps_ret (pe_ix ix_list (pv 1) (pe_g (E := EF) (k_cast T) hr hg (passF noXN) rfl T.g_law_cast F1.kp (pa_cons (pv 0) (pa_cons (c_len T (pa_cons (pv 1) pa_nil)) pa_nil))) (fun _ _ => rfl))), ?_⟩)
  · obtain ⟨_, _, _, rfl, _⟩ := h
    rfl
  · obtain ⟨p, l, xs, rfl, hp, hpl, hl, h0, h1, q⟩ := h
    refine ⟨_, rfl, _, rfl, _, rfl, l, xs, rfl, .inl (SqL.of hl), p, _, rfl, hp, by omega, by omega, fun H' f k hp' f0 f1 => ?_⟩
    have hlt : f.toNat < xs.length := by omega
    refine ⟨l, xs, f, xs[f.toNat], rfl, rfl, SqL.of (k.st hl (fun z => hpl z.symm)), ?_, q H' _ k hp' (List.getElem_mem hlt)⟩
    unfold atI ixN
    rw [if_pos f0, if_pos f1]
    exact List.getElem?_eq_getElem hlt
end
end SK
set_option maxHeartbeats 4000000
/-! SkL2: deeds drawn. -/
namespace SK
open PySem PySem.Spec PyProof.Rows L2
structure Deed where
  way : Nat
  outer : Bool
  tag : Str
  many : Nat
def OkD (d : Deed) : Prop := d.way < 9 ∧ (d.tag = sA ∨ d.tag = sB) ∧ d.many < 4
def DeedAt (H : Hp) (t : Addr) (d : Deed) : Prop := H t = some (.tup [.int (d.way : Nat), .bl d.outer, .str d.tag, .int (d.many : Nat)])
def Dz (H : Hp) : List Deed → List V → Prop
  | [], [] => True
  | d :: r, x :: r' => (∃ t, x = V.ref t ∧ DeedAt H t d) ∧ Dz H r r'
  | _, _ => False
def LotAt (H : Hp) (l : Addr) (ds : List Deed) : Prop := ∃ xs, H l = some (.lst xs) ∧ Dz H ds xs
def OkLot (ds : List Deed) : Prop := ds.length ≤ 4 ∧ ∀ d ∈ ds, OkD d
section
variable {M : Addr → Prop} {H H1 : Hp}
theorem Dz.kp (k : Kp M H H1) : ∀ {ds : List Deed} {xs : List V}, Dz H ds xs → Dz H1 ds xs
  | [], [], _ => True.intro
  | _ :: _, _ :: _, ⟨⟨t, e, h⟩, r⟩ => ⟨⟨t, e, k.tup h⟩, Dz.kp k r⟩
  | [], _ :: _, h => h.elim
  | _ :: _, [], h => h.elim
theorem Dz.len : ∀ {ds : List Deed} {xs : List V}, Dz H ds xs → xs.length = ds.length
  | [], [], _ => rfl
  | _ :: _, _ :: _, ⟨_, r⟩ => congrArg Nat.succ (Dz.len r)
  | [], _ :: _, h => h.elim
  | _ :: _, [], h => h.elim
theorem Dz.get : ∀ {ds : List Deed} {xs : List V} {i : Nat} {x : V}, Dz H ds xs → xs[i]? = some x → ∃ d t, ds[i]? = some d ∧ x = V.ref t ∧ DeedAt H t d
  | d :: _, _ :: _, 0, _, ⟨⟨t, e, h⟩, _⟩, hx => by
    cases hx
    exact ⟨d, t, rfl, e, h⟩
  | _ :: r, _ :: _, i + 1, _, ⟨_, t⟩, hx => Dz.get (ds := r) t hx
  | [], [], _, _, _, hx => by cases hx
  | [], _ :: _, _, _, h, _ => h.elim
  | _ :: _, [], _, _, h, _ => h.elim
theorem Dz.app : ∀ {ps qs : List Deed} {xs ys : List V}, Dz H ps xs → Dz H qs ys → Dz H (ps ++ qs) (xs ++ ys)
  | [], _, [], _, _, h => h
  | _ :: _, _, _ :: _, _, ⟨e, t⟩, h => ⟨e, Dz.app t h⟩
  | [], _, _ :: _, _, h, _ => h.elim
  | _ :: _, _, [], _, h, _ => h.elim
theorem LotAt.st {l : Addr} {ds : List Deed} (x : LotAt H l ds) (k : Kp M H H1) (n : ¬ M l) : LotAt H1 l ds := by
  obtain ⟨xs, h1, h2⟩ := x
  exact ⟨xs, k.st h1 n, h2.kp k⟩
theorem PailAt.st {p : Addr} (x : PailAt H p) (k : Kp M H H1) (n : ¬ M p) : PailAt H1 p := by
  obtain ⟨p0, p1, p2, h1, h2⟩ := x
  exact ⟨p0, p1, p2, k.st h1 n, h2⟩
end
section
variable {P : Program} {w : World} {K : PySem.W.Frag} {mg : Str → Option Value} {base : Heap}
def spDeeds : Sp := fun vs H Q _ => ∃ p, vs = [.ref p] ∧ PailAt H p ∧ ∀ H' l ds, Kp (· = p) H H' → PailAt H' p → LotAt H' l ds → OkLot ds → H l = none → Q (.ref l) H'
theorem sc98 : FnScope ["_law_pail", "_law_found", "_law_turn", "_law_tag", "_law_many"] ["_law_pail"] (defScope (top 98)) := ⟨rfl, rfl, rfl, by decide +kernel, rfl, by decide +kernel, by decide +kernel⟩
theorem k_deeds (T : Tx K mg) : FnG P w K mg base (L2N.CX P w) 3 1218 spDeeds := by
  obtain ⟨fd, F⟩ := T.f_law_deeds
  obtain ⟨fd1, F1⟩ := T.f_law_cast
  obtain ⟨fd2, F2⟩ := T.f_law_any_of
  refine fng_of F sc98 (F.bindsN fun _ _ _ _ _ _ us hl => match us, hl with | [_], _ => rfl) (fun vs H Q E h => ?_) (fun cdv A outer s H vs Q E hr hg h => ⟨_,
    pss_cons (ps_set (i := 1) sc98.nd rfl (Or.inl rfl) (pe_lst pa_nil))
    (pss_cons (ps_for PassesOwn.leaving rfl (pi_range1 rfl T.brange (pa_cons (pe_g (E := EF) (k_cast T) (hr.mono (by decide)) hg (passF noXN) rfl T.g_law_cast F1.kp (pa_cons (pv 0) (pa_cons pe_int pa_nil))) pa_nil)) (pg_name (i := 2) sc98.nd rfl (Or.inl rfl))
      (pss_cons (ps_par (i := 3) (j := 4) rfl sc98.nd rfl rfl (by decide) rfl rfl (pa_cons (pe_g (E := EF) (k_any T) hr hg (passF noXN) rfl T.g_law_any_of F2.kp (pa_cons (pv 0) (pa_cons (pe_lst (pa_cons pe_str (pa_cons pe_str (pa_cons pe_str pa_nil)))) pa_nil))) (pa_cons (pe_g (E := EF) (k_cast T) (hr.mono (by decide)) hg (passF noXN) rfl T.g_law_cast F1.kp (pa_cons (pv 0) (pa_cons pe_int pa_nil))) pa_nil)) rfl)
      (pss_one (ps_expr (pe_bm PySem.F.plainAttrs_list PySem.F.slot_list_append PySem.F.type_list_append mt_append (pv 1) (pa_cons (pe_tup (pa_cons (pe_g (E := EF) (k_cast T) (hr.mono (by decide)) hg (passF noXN) rfl T.g_law_cast F1.kp (pa_cons (pv 0) (pa_cons pe_int pa_nil)))
        (pa_cons (pe_cmpR op_eq (pe_g (E := EF) (k_cast T) (hr.mono (by decide)) hg (passF noXN) rfl T.g_law_cast F1.kp (pa_cons (pv 0) (pa_cons pe_int pa_nil))) pe_int (nomark _)) (pa_cons (pv 3) (pa_cons (pv 4) pa_nil))))) pa_nil))))))
    (pss_one (ps_ret (pv 1)))), ?_⟩)
  · obtain ⟨_, rfl, _⟩ := h
    rfl
  · obtain ⟨p, rfl, hp, q⟩ := h
    obtain ⟨p0, p1, p2, ep, _⟩ := id hp
    have ni : ∀ {xs : List V}, ¬ Imm (.lst xs) := fun z => z
    refine ⟨Nat.zero_le _, fun D nD => ?_⟩
    have hpD : p ≠ D := ne_of_none ep nD
    have k0 : Kp (· = p) H (upd H D (.lst [])) := kp_new nD
    refine ⟨_, rfl, p, 5, rfl, hp.st (M := fun _ => False) (kp_new nD) id, by decide, by decide, fun H1 f k1 hp1 f0 f1 => ?_⟩
    have eD1 : H1 D = some (.lst []) := k1.st upd_same (Ne.symm hpD)
    refine ⟨f, rfl, by omega, by omega, for_it walk_range (fun i σ H' => Kp (· = p) H H' ∧ PailAt H' p ∧ ∃ (xs : List V) (ds : List Deed) (u v o : Option V), H' D = some (.lst xs) ∧ Dz H' ds xs ∧ ds.length = i ∧ (∀ d ∈ ds, OkD d) ∧ σ = [some (.ref p), some (.ref D), u, v, o])
      ⟨k0.trans k1, hp1, [], [], _, _, _, eD1, True.intro, rfl, (fun _ z => nomatch z), rfl⟩ (fun _ _ _ _ _ => trivial) ?_ ?_⟩
    · rintro i x σ H2 H3 hi ⟨k2, hp2, xs, ds, u, v, o, eD, hds, hlen, hok, rfl⟩ ⟨e3, rfl⟩
      obtain rfl : H2 = H3 := e3.symm
      refine ⟨_, rfl, by show 3 ≤ sizeLine; rw [sizeLine_eq]; omega, fun a na => ?_⟩
      have k3 : Kp (· = p) H2 (upd H2 a (.lst [.str "a", .str "b", .str "a"])) := kp_new na
      obtain ⟨_, _, _, ep2, _⟩ := id hp2
      have hpa : p ≠ a := ne_of_none ep2 na
      refine ⟨p, a, _, rfl, hp2.st (M := fun _ => False) (kp_new na) id, hpa, upd_same, by decide, by decide, fun H4 tag k4 hp4 htag => ?_⟩
      refine ⟨_, rfl, p, 4, rfl, hp4, by decide, by decide, fun H5 many k5 hp5 m0 m1 => ?_⟩
      refine ⟨_, _, rfl, ?_⟩
      have k35 := (k3.trans k4).trans k5
      have eD5 : H5 D = some (.lst xs) := k35.st eD (Ne.symm hpD)
      refine ⟨_, rfl, .inl ⟨rfl, _, SqL.of eD5⟩, ?_⟩
      refine ⟨_, rfl, p, 9, rfl, hp5, by decide, by decide, fun H6 way k6 hp6 w0 w1 => ?_⟩
      refine ⟨_, rfl, p, 2, rfl, hp6, by decide, by decide, fun H7 side k7 hp7 s0 s1 => ⟨rfl, ?_⟩⟩
      have k57 := (k35.trans k6).trans k7
      have eD7 : H7 D = some (.lst xs) := k57.st eD (Ne.symm hpD)
      refine ⟨_, rfl, _, rfl, by show 4 ≤ sizeLine; rw [sizeLine_eq]; omega, fun t nt => ?_⟩
      obtain ⟨tg, rfl, htg⟩ : ∃ tg : Str, tag = .str tg ∧ (tg = sA ∨ tg = sB) := by
        simp only [List.mem_cons, List.not_mem_nil, or_false] at htag
        rcases htag with rfl | rfl | rfl
        · exact ⟨_, rfl, .inl rfl⟩
        · exact ⟨_, rfl, .inr rfl⟩
        · exact ⟨_, rfl, .inl rfl⟩
      have hDt : D ≠ t := ne_of_none eD7 nt
      have eD8 : (upd H7 t (.tup [V.int way, V.bl (decide (V.int side = V.int 0)), .str tg, .int many])) D = some (.lst xs) := by rw [upd_ne hDt]; exact eD7
      have hxl := hds.len
      refine ⟨D, xs, _, rfl, rfl, eD8, by rw [sizeLine_eq]; omega, ?_⟩
      have k8 : Kp (· = p) H2 (upd H7 t (.tup [V.int way, V.bl (decide (V.int side = V.int 0)), .str tg, .int many])) := k57.new nt
      have k9 : Kp (fun b => b = D) (upd H7 t (.tup [V.int way, V.bl (decide (V.int side = V.int 0)), .str tg, .int many])) (upd (upd H7 t (.tup [V.int way, V.bl (decide (V.int side = V.int 0)), .str tg, .int many])) D (.lst (xs ++ [.ref t]))) := (Kp.refl _).put rfl eD8 ni
      have hp8 : PailAt (upd H7 t (.tup [V.int way, V.bl (decide (V.int side = V.int 0)), .str tg, .int many])) p := hp7.st (M := fun _ => False) (kp_new nt) id
      refine ⟨(k2.trans k8).own nD, hp8.st k9 hpD, xs ++ [.ref t], ds ++ [⟨way.toNat, decide (V.int side = V.int 0), tg, many.toNat⟩], _, _, _, upd_same, ?_, ?_, ?_, rfl⟩
      · refine Dz.app ((hds.kp k8).kp k9) ⟨⟨t, rfl, ?_⟩, True.intro⟩
        show upd _ D _ t = _
        rw [upd_ne (Ne.symm hDt), upd_same]
        show some (HO.tup [V.int way, V.bl (decide (V.int side = V.int 0)), .str tg, .int many]) = some (.tup [.int ((way.toNat : Nat) : Int), .bl (decide (V.int side = V.int 0)), .str tg, .int ((many.toNat : Nat) : Int)])
        rw [Int.toNat_of_nonneg w0, Int.toNat_of_nonneg m0]
      · rw [List.length_append, hlen]
        rfl
      · intro d hd
        rcases List.mem_append.mp hd with z | z
        · exact hok d z
        · rw [List.mem_singleton.mp z]
          exact ⟨by show way.toNat < 9; omega, htg, by show many.toNat < 4; omega⟩
    · rintro σ H2 ⟨k2, hp2, xs, ds, u, v, o, eD, hds, hlen, hok, rfl⟩
      exact ⟨_, rfl, q H2 D ds k2 hp2 ⟨xs, eD, hds⟩ ⟨by omega, hok⟩ nD⟩
end
end SK
set_option maxHeartbeats 4000000
/-! SkL3: deeds done. -/
namespace SK
open PySem PySem.Spec PyProof.Rows L2
def deedD (l : Lib) (d : Deed) : Res :=
  if d.way < 4 then putD l d.tag ((d.way : Nat), (d.many : Nat)) else if d.way < 6 then wishD l d.tag (d.many : Nat) else if d.way = 6 then removeD l d.tag else if d.way = 7 then liftD l d.many else undoD l
def doneD : Lib → List Deed → Res
  | l, [] => (l, none)
  | l, d :: r => match deedD l d with
    | (l', none) => doneD l' r
    | (l', some e) => (l', some e)
theorem lil_nat {n : Nat} (h : n < 4) : Lil (n : Nat) := by
  unfold Lil
  omega
theorem WfS.up {k : Nat} {s : Snap} (h : WfS k s) : WfS (k + 1) s := ⟨h.1, h.2.1, Nat.le_succ_of_le h.2.2.1, h.2.2.2⟩
theorem WfL.up {k : Nat} {l : Lib} (h : WfL k l) : WfL (k + 1) l := ⟨Nat.le_succ_of_le h.1, fun s hs => (h.2 s hs).up⟩
theorem become_wf {k : Nat} {l : Lib} {ys : List (Str × Int × Int)} {ps : List (Str × Int)} (h : WfL k l) (hs : WfS (k + 1) ⟨ys, ps⟩) : WfL (k + 1) (become l ys ps).1 := by
  unfold become
  split
  · exact ⟨Nat.succ_le_succ h.1, fun s hm => by
      rcases List.mem_cons.mp hm with rfl | hm
      · exact hs
      · exact (h.2 s hm).up⟩
  · exact h.up
theorem wishD_cons {s : Snap} {r : Lib} {n : Str} {m : Int} : wishD (s :: r) n m = if (s.ys.lookup n).isSome = true then become (s :: r) s.ys (s.ps ++ [(n, m)]) else (s :: r, some (.unknown n)) := rfl
theorem liftD_cons {s : Snap} {r : Lib} {m : Nat} : liftD (s :: r) m = if m < s.ps.length then become (s :: r) s.ys (s.ps.take m ++ s.ps.drop (m + 1)) else (s :: r, some (.index m)) := rfl
theorem removeD_cons {s : Snap} {r : Lib} {n : Str} : removeD (s :: r) n = if (s.ys.lookup n).isSome = true then (match uses s.ps n 0 with
    | [] => become (s :: r) (delY s.ys n) s.ps
    | i :: _ => (s :: r, some (.use i))) else (s :: r, some (.unknown n)) := rfl
theorem deed_wf {k : Nat} {l : Lib} {d : Deed} (h : WfL k l) (hd : OkD d) : WfL (k + 1) (deedD l d).1 := by
  obtain ⟨hw, ht, hm⟩ := hd
  match l, h with
  | [], h =>
    unfold deedD
    split
    · exact h.up
    · split
      · exact h.up
      · split
        · exact h.up
        · split <;> exact h.up
  | s :: r, h =>
    obtain ⟨w1, w2, w3, w4, w5⟩ := h.2 s (by simp)
    unfold deedD
    split
    · rename_i h4
      refine become_wf h ⟨putY_okn w1 ht, fun p hp => putY_some (w2 p hp), Nat.le_succ_of_le w3, fun v hv => ?_, w5⟩
      rcases putY_mem hv with z | z
      · exact w4 v z
      · rw [z]
        exact ⟨lil_nat h4, lil_nat hm⟩
    · split
      · rw [wishD_cons]
        split
        · rename_i hc
          refine become_wf h ⟨w1, fun p hp => ?_, ?_, w4, fun p hp => ?_⟩
          · rcases List.mem_append.mp hp with z | z
            · exact w2 p z
            · rw [List.mem_singleton.mp z]
              exact hc
          · show (s.ps ++ [_]).length ≤ _
            rw [List.length_append]
            exact Nat.succ_le_succ w3
          · rcases List.mem_append.mp hp with z | z
            · exact w5 p z
            · rw [List.mem_singleton.mp z]
              exact lil_nat hm
        · exact h.up
      · split
        · rw [removeD_cons]
          split
          · split
            · rename_i hu
              have hn := uses_nil d.tag s.ps 0 hu
              exact become_wf h ⟨delY_okn w1, fun p hp => delY_some (w2 p hp) (hn p hp), Nat.le_succ_of_le w3, fun v hv => w4 v (List.mem_filter.mp hv).1, w5⟩
            · exact h.up
          · exact h.up
        · split
          · rw [liftD_cons]
            split
            · have hsub : ∀ p ∈ s.ps.take d.many ++ s.ps.drop (d.many + 1), p ∈ s.ps := fun p hp => by
                rcases List.mem_append.mp hp with z | z
                · exact List.mem_of_mem_take z
                · exact List.mem_of_mem_drop z
              refine become_wf h ⟨w1, fun p hp => w2 p (hsub p hp), ?_, w4, fun p hp => w5 p (hsub p hp)⟩
              show (s.ps.take d.many ++ s.ps.drop (d.many + 1)).length ≤ _
              rw [List.length_append, List.length_take, List.length_drop]
              omega
            · exact h.up
          · match r, h with
            | [], h => exact h.up
            | s2 :: r, h => exact ⟨Nat.le_trans (Nat.le_succ _) (Nat.le_succ_of_le h.1), fun x hx => (h.2 x (List.mem_cons_of_mem _ hx)).up⟩
theorem done_wf : ∀ {ds : List Deed} {k : Nat} {l : Lib}, WfL k l → (∀ d ∈ ds, OkD d) → WfL (k + ds.length) (doneD l ds).1
  | [], _, _, h, _ => h
  | d :: r, k, l, h, hd => by
    have h1 := deed_wf h (hd d (by simp))
    unfold doneD
    split
    · rename_i l' e
      rw [e] at h1
      have z := done_wf (ds := r) h1 (fun x hx => hd x (List.mem_cons_of_mem _ hx))
      rw [show k + (d :: r).length = k + 1 + r.length by rw [List.length_cons]; omega]
      exact z
    · rename_i l' e2 e
      rw [e] at h1
      refine ⟨Nat.le_trans h1.1 (by rw [List.length_cons]; omega), fun s hs => ?_⟩
      obtain ⟨a, b, c, d⟩ := h1.2 s hs
      exact ⟨a, b, Nat.le_trans c (by rw [List.length_cons]; omega), d⟩
theorem WfL.mono {j k : Nat} {l : Lib} (h : WfL j l) (hjk : j ≤ k) : WfL k l := ⟨Nat.le_trans h.1 hjk, fun s hs => by
  obtain ⟨a, b, c, d⟩ := h.2 s hs
  exact ⟨a, b, Nat.le_trans c hjk, d⟩⟩
section
variable {P : Program} {w : World} {K : PySem.W.Frag} {mg : Str → Option Value} {base : Heap}
theorem k_put (T : Tx K mg) : FnG P w K mg base (L2N.CX P w) 8 1206 spSet := by
  obtain ⟨fd, F⟩ := T.f_law_put
  have S : FnScope ["_law_shelf", "_law_tag", "_law_thing"] ["_law_shelf", "_law_tag", "_law_thing"] (defScope (top 96)) := ⟨rfl, rfl, rfl, by decide +kernel, rfl, by decide +kernel, by decide +kernel⟩
  refine fng_of F S (F.bindsN fun _ _ _ _ _ _ us hl => match us, hl with | [_, _, _], _ => rfl) (fun vs H Q E h => ?_) (fun cdv A outer s H vs Q E hr hg h => ⟨_,
    pss_one (ps_asg (pv 2) (pg_sub (pv 0) (pv 1) (set_ownG (E := fun c d H => E c d H) T.nsLib T.sLibrary__setitem__ (k_set T) hr hg (fun σ => L2N.passAt (L2N.takes_of rfl rfl rfl rfl) σ)))), ?_⟩)
  · obtain ⟨_, _, _, _, _, _, rfl, _⟩ := h
    rfl
  · obtain ⟨L, l, kk, n, y, v, rfl, hn, hL, hY, wf, hk, q⟩ := h
    obtain ⟨dl, p, el, _⟩ := id hL
    refine ⟨_, rfl, _, rfl, _, rfl, L, dl, _, rfl, el, L, l, kk, n, y, v, rfl, hn, hL, hY, wf, hk, fun H' k hL' => ?_⟩
    exact q H' k hL'
end
end SK
set_option maxHeartbeats 4000000
/-! SkL4: _law_done. -/
namespace SK
open PySem PySem.Spec PyProof.Rows L2
theorem doneD_cons {l : Lib} {d : Deed} {r : List Deed} : doneD l (d :: r) = match deedD l d with
    | (l', none) => doneD l' r
    | (l', some e) => (l', some e) := rfl
theorem sel {b : Bool} {σ : St} {H : Hp} {QQ : VK} {v : V} {i j : Nat} (hi : σ[i]? = some (some v)) (hj : σ[j]? = some (some v)) (q : QQ v H) : if b = true then tVar i σ H QQ else tVar j σ H QQ := by
  cases b
  · exact ⟨v, hj, q⟩
  · exact ⟨v, hi, q⟩
section
variable {P : Program} {w : World} {K : PySem.W.Frag} {mg : Str → Option Value} {base : Heap}
def spDone : Sp := fun vs H Q E => ∃ L p l k ds, vs = [.ref L, .ref L, .ref p] ∧ LibAt H L l ∧ LotAt H p ds ∧ OkLot ds ∧ WfL k l ∧ k < 800 ∧ Out (· = L) L (doneD l ds) H Q E
theorem sc99 : FnScope ["_law_held", "_law_shelf", "_law_deeds_here", "_law_way", "_law_is_outer", "_law_tag", "_law_many", "_law_here"] ["_law_held", "_law_shelf", "_law_deeds_here"] (defScope (top 99)) := ⟨rfl, rfl, rfl, by decide +kernel, rfl, by decide +kernel, by decide +kernel⟩
theorem k_done (T : Tx K mg) : FnG P w K mg base (L2N.CX P w) 9 1225 spDone := by
  obtain ⟨fd, F⟩ := T.f_law_done
  obtain ⟨fd1, F1⟩ := T.f_law_put
  refine fng_of F sc99 (F.bindsN fun _ _ _ _ _ _ us hl => match us, hl with | [_, _, _], _ => rfl) (fun vs H Q E h => ?_) (fun cdv A outer s H vs Q E hr hg h => ⟨_,
    pss_one (ps_for PassesOwn.leaving rfl (pi_list (pv 2)) (pg_tup rfl (pgs_cons (pg_name (i := 3) sc99.nd rfl (Or.inl rfl)) (pgs_cons (pg_name (i := 4) sc99.nd rfl (Or.inl rfl)) (pgs_cons (pg_name (i := 5) sc99.nd rfl (Or.inl rfl)) (pgs_cons (pg_name (i := 6) sc99.nd rfl (Or.inl rfl)) pgs_nil)))))
      (pss_cons (ps_set (i := 7) sc99.nd rfl (Or.inl rfl) (pe_ifExp (pt_val (pv 4)) (pv 1) (pv 0)))
      (pss_one (ps_if (pt_cmpR op_lt (pv 3) pe_int (nomark _))
        (pss_one (ps_expr (pe_g (E := WE fun c d _ H => E c d H) (k_put T) hr hg (L2N.passAt (L2N.takes_of rfl rfl rfl rfl)) rfl T.g_law_put F1.kp (pa_cons (pv 7) (pa_cons (pv 5) (pa_cons (pe_makeG (E := EF) T.mkYard (k_Yard_init T) (hr.mono (by decide)) hg (passF noXN) rfl T.gYard
          (pa_cons (pe_tup (pa_cons pe_str (pa_cons pe_str pa_nil))) (pa_cons (pe_tup (pa_cons (pe_tup (pa_cons (pv 3) (pa_cons (pv 6) pa_nil))) (pa_cons (pe_tup (pa_cons (pv 6) (pa_cons pe_int pa_nil))) pa_nil))) pa_nil))) pa_nil))))))
        (pss_one (ps_if (pt_cmpR op_lt (pv 3) pe_int (nomark _))
          (pss_one (ps_expr (pe_mg (E := WE fun c d _ H => E c d H) (pv 7) T.clLibrary T.mwish (k_wish T) (hr.mono (by decide)) hg (L2N.passAt (L2N.takes_of rfl rfl rfl rfl)) (pa_cons (pv 5) (pa_cons (pe_tup (pa_cons pe_str (pa_cons (pv 6) pa_nil))) pa_nil)))))
          (pss_one (ps_if (pt_cmpR op_eq (pv 3) pe_int (nomark _))
            (pss_one (ps_expr (pe_mg (E := WE fun c d _ H => E c d H) (pv 7) T.clLibrary T.mremove (k_remove T) (hr.mono (by decide)) hg (L2N.passAt (L2N.takes_of rfl rfl rfl rfl)) (pa_cons (pv 5) pa_nil))))
            (pss_one (ps_if (pt_cmpR op_eq (pv 3) pe_int (nomark _))
              (pss_one (ps_expr (pe_mg (E := WE fun c d _ H => E c d H) (pv 7) T.clLibrary T.mlift (k_lift T) (hr.mono (by decide)) hg (L2N.passAt (L2N.takes_of rfl rfl rfl rfl)) (pa_cons (pv 6) pa_nil))))
              (pss_one (ps_expr (pe_mg0 (E := WE fun c d _ H => E c d H) (pv 7) T.clLibrary T.mundo (k_undo T) (hr.mono (by decide)) hg (L2N.passAt (L2N.takes_of rfl rfl rfl rfl))))))))))))))), ?_⟩)
  · obtain ⟨_, _, _, _, _, rfl, _⟩ := h
    rfl
  · obtain ⟨L, p, l, k, ds, rfl, hL, ⟨xs, ep, hds⟩, hok, wf, hk, q⟩ := h
    have hpL : p ≠ L := by
      obtain ⟨dl, _, el, _⟩ := hL
      exact ne_of ep el (fun z => by cases z)
    have hxl := hds.len
    have ho1 := hok.1
    let Pv : Nat → St → Hp → Prop := fun i σ H' => Kp (· = L) H H' ∧ ∃ (l' : Lib) (u v x y z : Option V), LibAt H' L l' ∧ WfL (k + i) l' ∧ doneD l ds = doneD l' (ds.drop i) ∧ σ = [some (.ref L), some (.ref L), some (.ref p), u, v, x, y, z]
    refine ⟨_, rfl, p, rfl, ⟨_, SqL.of ep⟩, for_it (walk_list (xs := xs)) Pv ⟨Kp.refl _, l, none, none, none, none, none, hL, wf, rfl, rfl⟩ (fun i σ H' _ z => SqL.of (z.1.st ep hpL)) ?_ ?_⟩
    · rintro i x σ H2 H3 hi ⟨k2, l', u, v, x', y, z, hL2, wf2, hd2, rfl⟩ ⟨e3, hx⟩
      obtain rfl : H2 = H3 := e3.symm
      obtain ⟨d, t, e1, rfl, ht⟩ := hds.get hx
      have hlt : i < ds.length := by omega
      have hdrop : ds.drop i = d :: ds.drop (i + 1) := by
        rw [List.drop_eq_getElem_cons hlt]
        rw [List.getElem?_eq_getElem hlt] at e1
        rw [Option.some.inj e1]
      obtain ⟨d1, d2, d3⟩ := hok.2 d (List.mem_of_getElem? e1)
      rw [hdrop, doneD_cons] at hd2
      obtain ⟨dl, pp, el, _⟩ := id hL2
      have fin : ∀ H4 : Hp, Kp (· = L) H H4 → Out (· = L) L (deedD l' d) H4 (fun _ H5 => Pv (i + 1) [some (.ref L), some (.ref L), some (.ref p), some (.int (d.way : Nat)), some (.bl d.outer), some (.str d.tag), some (.int (d.many : Nat)), some (.ref L)] H5) (fun c dd H5 => E c dd H5) := fun H4 k4 H5 k5 hL5 => by
        have wf5 := deed_wf wf2 (hok.2 d (List.mem_of_getElem? e1))
        cases e : deedD l' d with
        | mk l2 oe =>
          rw [e] at hd2 hL5 wf5
          cases oe with
          | none => exact ⟨k4.trans k5, l2, _, _, _, _, _, hL5, wf5, hd2, rfl⟩
          | some err =>
            have z := q H5 (k4.trans k5)
            rw [hd2] at z
            exact z hL5
      have ht2 : DeedAt H2 t d := k2.tup ht
      refine ⟨t, _, rfl, SqT.of ht2, rfl, _, _, rfl, _, _, rfl, _, _, rfl, _, _, rfl, rfl, ?_⟩
      refine ⟨_, rfl, d.outer, rfl, sel rfl rfl ?_⟩
      refine ⟨_, rfl, _, _, rfl, rfl, decide ((d.way : Int) < 4), rfl, ?_⟩
      by_cases h4 : d.way < 4
      · refine ift (decide_eq_true (by omega)) ?_
        have ed : deedD l' d = putD l' d.tag ((d.way : Nat), (d.many : Nat)) := if_pos h4
        refine ⟨_, rfl, _, rfl, by show 2 ≤ sizeLine; rw [sizeLine_eq]; omega, fun a1 n1 => ⟨_, rfl, _, rfl, by show 2 ≤ sizeLine; rw [sizeLine_eq]; omega, fun a2 n2 => ⟨_, rfl, by show 2 ≤ sizeLine; rw [sizeLine_eq]; omega, fun a3 n3 => ⟨by show 2 ≤ sizeLine; rw [sizeLine_eq]; omega, fun a4 n4 => ?_⟩⟩⟩⟩
        have k4 : K0 H2 _ := (((kp_new (o := .tup [.str "x", .str "y"]) n1).new (o := .tup [.int (d.way : Nat), .int (d.many : Nat)]) n2).new (o := .tup [.int (d.many : Nat), .int 0]) n3).new (o := .tup [.ref a2, .ref a3]) n4
        have b3 : (upd (upd (upd (upd H2 a1 (.tup [.str "x", .str "y"])) a2 (.tup [.int (d.way : Nat), .int (d.many : Nat)])) a3 (.tup [.int (d.many : Nat), .int 0])) a4 (.tup [.ref a2, .ref a3])) a3 = some (.tup [.int (d.many : Nat), .int 0]) := by
          rw [upd_ne (ne_of_none upd_same n4)]; exact upd_same
        have c2 : (upd (upd (upd H2 a1 (.tup [.str "x", .str "y"])) a2 (.tup [.int (d.way : Nat), .int (d.many : Nat)])) a3 (.tup [.int (d.many : Nat), .int 0])) a2 = some (.tup [.int (d.way : Nat), .int (d.many : Nat)]) := by
          rw [upd_ne (ne_of_none upd_same n3)]; exact upd_same
        have b2 : (upd (upd (upd (upd H2 a1 (.tup [.str "x", .str "y"])) a2 (.tup [.int (d.way : Nat), .int (d.many : Nat)])) a3 (.tup [.int (d.many : Nat), .int 0])) a4 (.tup [.ref a2, .ref a3])) a2 = some (.tup [.int (d.way : Nat), .int (d.many : Nat)]) := by
          rw [upd_ne (ne_of_none c2 n4)]; exact c2
        have c1 : (upd (upd H2 a1 (.tup [.str "x", .str "y"])) a2 (.tup [.int (d.way : Nat), .int (d.many : Nat)])) a1 = some (.tup [.str "x", .str "y"]) := by
          rw [upd_ne (ne_of_none upd_same n2)]; exact upd_same
        have c1' : (upd (upd (upd H2 a1 (.tup [.str "x", .str "y"])) a2 (.tup [.int (d.way : Nat), .int (d.many : Nat)])) a3 (.tup [.int (d.many : Nat), .int 0])) a1 = some (.tup [.str "x", .str "y"]) := by
          rw [upd_ne (ne_of_none c1 n3)]; exact c1
        have b1 : (upd (upd (upd (upd H2 a1 (.tup [.str "x", .str "y"])) a2 (.tup [.int (d.way : Nat), .int (d.many : Nat)])) a3 (.tup [.int (d.many : Nat), .int 0])) a4 (.tup [.ref a2, .ref a3])) a1 = some (.tup [.str "x", .str "y"]) := by
          rw [upd_ne (ne_of_none c1' n4)]; exact c1'
        generalize hG : (upd (upd (upd (upd H2 a1 (.tup [.str "x", .str "y"])) a2 (.tup [.int (d.way : Nat), .int (d.many : Nat)])) a3 (.tup [.int (d.many : Nat), .int 0])) a4 (.tup [.ref a2, .ref a3])) = G at k4 b1 b2 b3 ⊢
        have b4 : G a4 = some (.tup [.ref a2, .ref a3]) := by rw [← hG]; exact upd_same
        intro x dx n5 n6 ne
        have kG : K0 G (upd (upd G dx (.own x)) x (.ins 657 dx [])) := by
          refine (kp_new n6).new ?_
          rw [upd_ne (Ne.symm ne)]
          exact n5
        refine ⟨x, dx, a1, a4, (d.way : Nat), (d.many : Nat), rfl, upd_same, by rw [upd_ne ne]; exact upd_same, ne, kG.tup b1, ⟨a2, a3, kG.tup b4, kG.tup b2, kG.tup b3⟩, (lil_nat h4).sml, (lil_nat d3).sml, fun H5 h5 h6 h7 hY => ⟨rfl, ?_⟩⟩
        have kH : K0 G H5 := fun c o e => by
          have e1 := kG.at0 e
          have e2 := h5 c o e1 (ne_of_none e n5) (ne_of_none e n6)
          exact ⟨fun _ => e2, o, e2⟩
        have k5 := k4.trans kH
        refine ⟨L, l', k + i, d.tag, x, ((d.way : Nat), (d.many : Nat)), rfl, d2, hL2.k0 k5, hY, wf2, by omega, ?_⟩
        rw [← ed]
        exact fin _ (k2.trans k5.up)
      · refine iff_ (decide_eq_false (by omega)) ?_
        refine ⟨_, rfl, _, _, rfl, rfl, decide ((d.way : Int) < 6), rfl, ?_⟩
        by_cases h6 : d.way < 6
        · refine ift (decide_eq_true (by omega)) ?_
          have ed : deedD l' d = wishD l' d.tag (d.many : Nat) := by unfold deedD; rw [if_neg h4, if_pos h6]
          refine ⟨_, rfl, L, dl, _, rfl, el, rfl, _, rfl, _, rfl, by show 2 ≤ sizeLine; rw [sizeLine_eq]; omega, fun a1 n1 => ?_⟩
          refine ⟨L, l', k + i, d.tag, a1, (d.many : Nat), rfl, hL2.k0 (kp_new n1), upd_same, by omega, wf2, by omega, ?_⟩
          rw [← ed]
          exact fin _ (k2.new n1)
        · refine iff_ (decide_eq_false (by omega)) ?_
          refine ⟨_, rfl, rfl, decide (d.way = 6), congrArg V.bl (decide_eq_decide.mpr ⟨fun z => by have := V.int.inj z; omega, fun z => by rw [z]; rfl⟩), ?_⟩
          by_cases e6 : d.way = 6
          · refine ift (decide_eq_true e6) ?_
            have ed : deedD l' d = removeD l' d.tag := by unfold deedD; rw [if_neg h4, if_neg h6, if_pos e6]
            refine ⟨_, rfl, L, dl, _, rfl, el, rfl, _, rfl, L, l', k + i, d.tag, rfl, hL2, wf2, by omega, ?_⟩
            rw [← ed]
            exact fin _ k2
          · refine iff_ (decide_eq_false e6) ?_
            refine ⟨_, rfl, rfl, decide (d.way = 7), congrArg V.bl (decide_eq_decide.mpr ⟨fun z => by have := V.int.inj z; omega, fun z => by rw [z]; rfl⟩), ?_⟩
            by_cases e7 : d.way = 7
            · refine ift (decide_eq_true e7) ?_
              have ed : deedD l' d = liftD l' d.many := by unfold deedD; rw [if_neg h4, if_neg h6, if_neg e6, if_pos e7]
              refine ⟨_, rfl, L, dl, _, rfl, el, rfl, _, rfl, L, l', k + i, d.many, rfl, hL2, wf2, by omega, ?_⟩
              rw [← ed]
              exact fin _ k2
            · refine iff_ (decide_eq_false e7) ?_
              have ed : deedD l' d = undoD l' := by unfold deedD; rw [if_neg h4, if_neg h6, if_neg e6, if_neg e7]
              refine ⟨_, rfl, L, dl, _, rfl, el, rfl, L, l', rfl, hL2, ?_⟩
              rw [← ed]
              exact fin _ k2
    · rintro σ H2 ⟨k2, l', u, v, x', y, z, hL2, wf2, hd2, rfl⟩
      have z := q H2 k2
      rw [hd2, hxl, List.drop_length] at z
      exact z hL2
end
end SK
set_option maxHeartbeats 4000000
/-! SkM1: repr of data. -/
namespace SK
open PySem PySem.Spec PyProof.Rows L2
mutual
inductive RV (H : Hp) : V → PyData → Prop
  | non : RV H .non .none
  | bl (b) : RV H (.bl b) (.bool b)
  | int (i) : RV H (.int i) (.int i)
  | str (x) : RV H (.str x) (.str x)
  | lst {a xs ds} : H a = some (.lst xs) → RVs H xs ds → RV H (.ref a) (.list ds)
  | tup {a xs ds} : H a = some (.tup xs) → RVs H xs ds → RV H (.ref a) (.tuple ds)
inductive RVs (H : Hp) : List V → List PyData → Prop
  | nil : RVs H [] []
  | cons {x xs d ds} : RV H x d → RVs H xs ds → RVs H (x :: xs) (d :: ds)
end
mutual
theorem RV.reads {P : Program} {w : World} {H : Hp} {h : Heap} (ok : HOk P w H h) : ∀ {x : V} {d : PyData} {u : Value}, RV H x d → RelV x u → ∃ as, Reads h u d as
  | _, _, u, .non, r => by
    cases (show u = .none from r)
    exact ⟨_, .none⟩
  | _, _, u, .bl b, r => by
    cases (show u = .bool b from r)
    exact ⟨_, .bool b⟩
  | _, _, u, .int i, r => by
    obtain ⟨t, rfl⟩ := r
    exact ⟨_, .int i t⟩
  | _, _, u, .str x, r => by
    obtain ⟨t, rfl⟩ := r
    exact ⟨_, .str x t⟩
  | _, _, u, .lst (a := a) e rs, r => by
    cases (show u = .ref a from r)
    obtain ⟨_, its, n, rel, eh⟩ := ok a _ e
    obtain ⟨as, z⟩ := RVs.reads ok rs rel
    exact ⟨_, .list eh rfl rfl (by simpa using z)⟩
  | _, _, u, .tup (a := a) e rs, r => by
    cases (show u = .ref a from r)
    obtain ⟨_, its, rel, o, eh, h1, n, h2⟩ := ok a _ e
    obtain ⟨as, z⟩ := RVs.reads ok rs rel
    exact ⟨_, .tuple eh h1 h2 (by simpa using z)⟩
theorem RVs.reads {P : Program} {w : World} {H : Hp} {h : Heap} (ok : HOk P w H h) : ∀ {xs : List V} {ds : List PyData} {us : List Value}, RVs H xs ds → Vals xs us → ∃ as, ReadsAll h us ds as
  | _, _, _, .nil, r => by
    cases r
    exact ⟨_, .nil⟩
  | _, _, _, .cons h1 h2, r => by
    cases r with
    | cons ra rb =>
      obtain ⟨as, z1⟩ := RV.reads ok h1 ra
      obtain ⟨bs, z2⟩ := RVs.reads ok h2 rb
      exact ⟨_, .cons z1 z2⟩
end
mutual
theorem RV.kp {M : Addr → Prop} {H H1 : Hp} (k : Kp M H H1) (n : ∀ a, ¬ M a) : ∀ {x : V} {d : PyData}, RV H x d → RV H1 x d
  | _, _, .non => .non
  | _, _, .bl b => .bl b
  | _, _, .int i => .int i
  | _, _, .str x => .str x
  | _, _, .lst (a := a) e r => .lst (k.st e (n a)) (RVs.kp k n r)
  | _, _, .tup e r => .tup (k.tup e) (RVs.kp k n r)
theorem RVs.kp {M : Addr → Prop} {H H1 : Hp} (k : Kp M H H1) (n : ∀ a, ¬ M a) : ∀ {xs : List V} {ds : List PyData}, RVs H xs ds → RVs H1 xs ds
  | _, _, .nil => .nil
  | _, _, .cons a b => .cons (RV.kp k n a) (RVs.kp k n b)
end
theorem RVs.app {H : Hp} : ∀ {xs ys : List V} {ds es : List PyData}, RVs H xs ds → RVs H ys es → RVs H (xs ++ ys) (ds ++ es)
  | _, _, _, _, .nil, h => h
  | _, _, _, _, .cons a b, h => .cons a (RVs.app b h)
def rRepr : List V → Hp → VK → Prop := fun xs H Q => ∃ x d, xs = [x] ∧ RV H x d ∧ d.showable = true ∧ d.hasDict = false ∧ d.depth < 20 ∧ d.shown.length ≤ sizeLine ∧ Q (.str d.shown) H
theorem call_reprR {X : Cx} (hu : X.A.units + 30 < cLine) (hg : X.A.guards = some []) : CallR X (.builtin "repr") rRepr := by
  intro pins s σ H xs us Q I r h
  obtain ⟨x, d, rfl, hr, hs, hd, hp, hz, q⟩ := h
  obtain ⟨u, rfl, ru⟩ := r.one
  cases hr with
  | non =>
    cases (show u = .none from ru)
    exact PySem.P.repr_of_none ⟨.str _, H, I.tok _, ⟨_, rfl⟩, q⟩
  | bl b =>
    cases (show u = .bool b from ru)
    exact PySem.P.repr_of_bool ⟨.str _, H, I.tok _, ⟨_, rfl⟩, q⟩
  | int i =>
    obtain ⟨t, rfl⟩ := ru
    exact PySem.P.repr_of_int (of_decide_eq_true hs) ⟨.str _, H, I.tok _, ⟨_, rfl⟩, q⟩
  | str x =>
    obtain ⟨t, rfl⟩ := ru
    exact PySem.P.repr_of_str ⟨.str _, H, I.tok _, ⟨_, rfl⟩, q⟩ hz
  | lst e rs =>
    rename_i a xs ds
    cases (show u = .ref a from ru)
    obtain ⟨as, z⟩ := RV.reads I.hok (.lst e rs) (show RelV (.ref a) (.ref a) from rfl)
    exact repr_of_reads' z hs (PyData.noDict_hsm hd) hg (by omega) (fun _ _ e => e) (fun h' u tk hk => ⟨.str _, H, I.kept (t' := tk) hk, ⟨_, rfl⟩, q⟩) hz
  | tup e rs =>
    rename_i a xs ds
    cases (show u = .ref a from ru)
    obtain ⟨as, z⟩ := RV.reads I.hok (.tup e rs) (show RelV (.ref a) (.ref a) from rfl)
    exact repr_of_reads' z hs (PyData.noDict_hsm hd) hg (by omega) (fun _ _ e => e) (fun h' u tk hk => ⟨.str _, H, I.kept (t' := tk) hk, ⟨_, rfl⟩, q⟩) hz
section
variable {X : Cx} {e : Expr} {t : TA} {p pos : Pos}
theorem c_repr (T : Tx X.K X.mg) (hu : X.A.units + 30 < cLine) (hgd : X.A.guards = some []) (ha : PA X [e] t) (hg : Gl X "repr" := by rfl) (he : starEach [e] X.env = (false, eval e X.env) :: starEach [] X.env := by rfl) : PE X (.Call (.Name "repr" p) [e] [] pos) (tCB rRepr t) :=
  pe_callB (call_reprR hu hgd) hg T.brepr bt_repr ha (by decide) (by decide) he rfl
theorem hu30 {k : Nat} {A : Around} (hr : Room k A) : A.units + 30 < cLine := by
  have := hr.un
  omega
end
end SK
set_option maxHeartbeats 4000000
/-! SkM2: what a view shows; it isn't long. -/
namespace SK
open PySem PySem.Spec PyProof.Rows L2
mutual
def wgt : PyData → Nat
  | .none => 5
  | .bool _ => 5
  | .int _ => 2000
  | .str x => (reprText x).length
  | .list xs => 3 + wgts xs
  | .tuple xs => 4 + wgts xs
  | .dict _ => 0
def wgts : List PyData → Nat
  | [] => 0
  | x :: r => wgt x + 2 + wgts r
end
theorem textFrom_le : ∀ (ts : List Str) (k : Nat) (acc : Str), (textFrom k acc ts).length ≤ acc.length + piled ts
  | [], k, acc => Nat.le_refl _
  | t :: r, k, acc => by
    have h := textFrom_le r (k + 1) (acc ++ (if k > 0 then ", " else "" : String) ++ t)
    have e : (acc ++ (if k > 0 then ", " else "" : String) ++ t).length = acc.length + (if k > 0 then 2 else 0) + t.length := by
      rw [strLen_append, strLen_append]
      split <;> rfl
    rw [e] at h
    rw [piled_cons]
    show (textFrom (k + 1) _ r).length ≤ _
    have : (if k > 0 then 2 else 0 : Nat) ≤ 2 := by split <;> omega
    omega
theorem listText_le (ts : List Str) : (listText ts).length ≤ 2 + piled ts := by
  unfold listText
  rw [strLen_append]
  have h := textFrom_le ts 0 "["
  have e1 : (Str.ofString "[").length = 1 := by decide +kernel
  have e2 : (Str.ofString "]").length = 1 := by decide +kernel
  omega
theorem tupleText_le (ts : List Str) : (tupleText ts).length ≤ 3 + piled ts := by
  unfold tupleText
  rw [strLen_append, strLen_append]
  have e1 : (Str.ofString "(").length = 1 := by decide +kernel
  have e2 : (Str.ofString (if ts.length == 1 then ",)" else ")" : String)).length ≤ 2 := by split <;> decide +kernel
  by_cases h : ts = []
  · subst h
    have e3 : (Str.join ", " []).length = 0 := by decide +kernel
    omega
  · have := join_length_add ts h
    omega
mutual
theorem shown_le : ∀ d : PyData, d.showable = true → d.hasDict = false → d.shown.length ≤ wgt d
  | .none, _, _ => by
    show (Str.ofString "None").length ≤ 5
    decide +kernel
  | .bool b, _, _ => by
    cases b <;> (show (Str.ofString _).length ≤ 5; decide +kernel)
  | .int i, h, _ => by
    have e := int_text_length_le (k := 1920) (by decide) (of_decide_eq_true h)
    show (Str.ofString (toString i)).length ≤ 2000
    rw [PySem.ofString_length]
    omega
  | .str x, _, _ => Nat.le_refl _
  | .list xs, h, hd => by
    have e := shownAll_le xs (by simpa [PyData.showable] using h) (by simpa [PyData.hasDict] using hd)
    have := listText_le (PyData.shownAll xs)
    show (listText (PyData.shownAll xs)).length ≤ 3 + wgts xs
    omega
  | .tuple xs, h, hd => by
    have e := shownAll_le xs (by simpa [PyData.showable] using h) (by simpa [PyData.hasDict] using hd)
    have := tupleText_le (PyData.shownAll xs)
    show (tupleText (PyData.shownAll xs)).length ≤ 4 + wgts xs
    omega
  | .dict _, _, hd => by simp [PyData.hasDict] at hd
theorem shownAll_le : ∀ ds : List PyData, PyData.showableAll ds = true → PyData.hasDictAll ds = false → piled (PyData.shownAll ds) ≤ wgts ds
  | [], _, _ => Nat.le_refl _
  | d :: r, h, hd => by
    have h1 : d.showable = true ∧ PyData.showableAll r = true := by simpa [PyData.showableAll] using h
    have h2 : d.hasDict = false ∧ PyData.hasDictAll r = false := by simpa [PyData.hasDictAll] using hd
    have e1 := shown_le d h1.1 h2.1
    have e2 := shownAll_le r h1.2 h2.2
    show piled (d.shown :: PyData.shownAll r) ≤ wgt d + 2 + wgts r
    rw [piled_cons]
    omega
end
def pageD (ys : List (Str × Int × Int)) (n : Str) : PyData := .list [.str n, .str (match ys.lookup n with | some v => yardTxt v.1 v.2 | none => "")]
def pairD (p : Str × Int) : PyData := .tuple [.str p.1, .tuple [.str "swaps", .int p.2]]
def viewD (s : Snap) (many : Nat) : PyData := .list [.list ((nms s.ys).map (pageD s.ys)), .tuple (s.ps.map pairD), .int (many : Nat), .int (s.ys.length : Nat), .bool true]
def viewT : Lib → Str
  | [] => ""
  | s :: r => (viewD s r.length).shown
theorem yard_le {w m : Int} (hw : Lil w) (hm : Lil m) : (reprText (yardTxt w m)).length ≤ 300 := by
  rcases hw with rfl | rfl | rfl | rfl <;> rcases hm with rfl | rfl | rfl | rfl <;> decide +kernel
theorem lil_show {i : Int} (h : Lil i) : i.natAbs.log2 < 1920 := h.log
theorem nat_show {n : Nat} (h : n < 1000) : ((n : Nat) : Int).natAbs.log2 < 1920 := by
  rw [Int.natAbs_natCast]
  by_cases h0 : n = 0
  · subst h0
    decide
  · have h1 := (Nat.log2_lt h0 (k := 10)).mpr (by omega)
    omega
theorem nms_len (ys : List (Str × Int × Int)) : (nms ys).length ≤ 2 := by
  unfold nms
  split <;> split <;> decide
theorem nms_mem {ys : List (Str × Int × Int)} {n : Str} (h : n ∈ nms ys) : (n = sA ∨ n = sB) ∧ (ys.lookup n).isSome = true := by
  unfold nms at h
  rcases List.mem_append.mp h with z | z
  · split at z
    · rename_i c
      rw [List.mem_singleton.mp z]
      exact ⟨.inl rfl, c⟩
    · cases z
  · split at z
    · rename_i c
      rw [List.mem_singleton.mp z]
      exact ⟨.inr rfl, c⟩
    · cases z
theorem look_mem {n : Str} {v : Int × Int} : ∀ {ys : List (Str × Int × Int)}, ys.lookup n = some v → (n, v) ∈ ys
  | [], h => by cases h
  | (k, u) :: r, h => by
    by_cases hk : n = k
    · subst hk
      rw [show List.lookup n ((n, u) :: r) = some u by simp [List.lookup]] at h
      cases h
      exact List.mem_cons_self
    · rw [show List.lookup n ((k, u) :: r) = List.lookup n r by simp [List.lookup, beq_eq_false_iff_ne.mpr hk]] at h
      exact List.mem_cons_of_mem _ (look_mem h)
theorem wgts_le {B : Nat} : ∀ {ds : List PyData}, (∀ d ∈ ds, wgt d ≤ B) → wgts ds ≤ ds.length * (B + 2)
  | [], _ => Nat.zero_le _
  | d :: r, h => by
    have h1 := h d (by simp)
    have h2 := wgts_le (ds := r) (fun x hx => h x (List.mem_cons_of_mem _ hx))
    show wgt d + 2 + wgts r ≤ (r.length + 1) * (B + 2)
    rw [Nat.add_mul]
    omega
theorem ab_le {n : Str} (h : n = sA ∨ n = sB) : (reprText n).length ≤ 10 := by
  rcases h with rfl | rfl <;> decide +kernel
theorem showAll_of {ds : List PyData} (h : ∀ d ∈ ds, d.showable = true) : PyData.showableAll ds = true := by
  induction ds with
  | nil => rfl
  | cons d r ih => simp [PyData.showableAll, h d (by simp), ih (fun x hx => h x (List.mem_cons_of_mem _ hx))]
theorem noDictAll_of {ds : List PyData} (h : ∀ d ∈ ds, d.hasDict = false) : PyData.hasDictAll ds = false := by
  induction ds with
  | nil => rfl
  | cons d r ih => simp [PyData.hasDictAll, h d (by simp), ih (fun x hx => h x (List.mem_cons_of_mem _ hx))]
theorem depthAll_of {n : Nat} {ds : List PyData} (h : ∀ d ∈ ds, d.depth ≤ n) : PyData.depthAll ds ≤ n := by
  induction ds with
  | nil => exact Nat.zero_le _
  | cons d r ih =>
    show max d.depth (PyData.depthAll r) ≤ n
    have := h d (by simp)
    have := ih (fun x hx => h x (List.mem_cons_of_mem _ hx))
    omega
theorem page_ok (ys : List (Str × Int × Int)) (n : Str) : (pageD ys n).showable = true ∧ (pageD ys n).hasDict = false ∧ (pageD ys n).depth ≤ 1 := by
  refine ⟨by simp [pageD, PyData.showable, PyData.showableAll], by simp [pageD, PyData.hasDict, PyData.hasDictAll], by simp [pageD, PyData.depth, PyData.depthAll]⟩
theorem pair_ok {p : Str × Int} (h : Lil p.2) : (pairD p).showable = true ∧ (pairD p).hasDict = false ∧ (pairD p).depth ≤ 2 := by
  refine ⟨by simp [pairD, PyData.showable, PyData.showableAll, lil_show h], by simp [pairD, PyData.hasDict, PyData.hasDictAll], by simp [pairD, PyData.depth, PyData.depthAll]⟩
theorem view_ok {k : Nat} {s : Snap} {r : Lib} (wf : WfL k (s :: r)) (hk : k < 900) : (viewD s r.length).showable = true ∧ (viewD s r.length).hasDict = false ∧ (viewD s r.length).depth < 20 ∧ (viewD s r.length).shown.length ≤ sizeLine := by
  obtain ⟨w1, w2, w3, w4, w5⟩ := wf.2 s (by simp)
  have hl := wf.1
  rw [List.length_cons] at hl
  have ol := okn_len w1
  have a1 : PyData.showableAll ((nms s.ys).map (pageD s.ys)) = true := showAll_of fun d hd => by
    obtain ⟨n, _, rfl⟩ := List.mem_map.mp hd
    exact (page_ok s.ys n).1
  have a2 : PyData.showableAll (s.ps.map pairD) = true := showAll_of fun d hd => by
    obtain ⟨n, hn, rfl⟩ := List.mem_map.mp hd
    exact (pair_ok (w5 n hn)).1
  have b1 : PyData.hasDictAll ((nms s.ys).map (pageD s.ys)) = false := noDictAll_of fun d hd => by
    obtain ⟨n, _, rfl⟩ := List.mem_map.mp hd
    exact (page_ok s.ys n).2.1
  have b2 : PyData.hasDictAll (s.ps.map pairD) = false := noDictAll_of fun d hd => by
    obtain ⟨n, hn, rfl⟩ := List.mem_map.mp hd
    exact (pair_ok (w5 n hn)).2.1
  have c1 : PyData.depthAll ((nms s.ys).map (pageD s.ys)) ≤ 1 := depthAll_of fun d hd => by
    obtain ⟨n, _, rfl⟩ := List.mem_map.mp hd
    exact (page_ok s.ys n).2.2
  have c2 : PyData.depthAll (s.ps.map pairD) ≤ 2 := depthAll_of fun d hd => by
    obtain ⟨n, hn, rfl⟩ := List.mem_map.mp hd
    exact (pair_ok (w5 n hn)).2.2
  have e1 : (viewD s r.length).showable = true := by
    have h1 := nat_show (n := r.length) (by omega)
    have h2 := nat_show (n := s.ys.length) (by omega)
    simp only [viewD, PyData.showable, PyData.showableAll, a1, a2, decide_eq_true h1, decide_eq_true h2, Bool.and_self]
  have e2 : (viewD s r.length).hasDict = false := by
    simp only [viewD, PyData.hasDict, PyData.hasDictAll, b1, b2, Bool.or_self]
  refine ⟨e1, e2, ?_, ?_⟩
  · simp only [viewD, PyData.depth, PyData.depthAll]
    omega
  · refine Nat.le_trans (shown_le _ e1 e2) ?_
    have g1 : wgts ((nms s.ys).map (pageD s.ys)) ≤ ((nms s.ys).map (pageD s.ys)).length * (1000 + 2) := wgts_le fun d hd => by
      obtain ⟨n, hn, rfl⟩ := List.mem_map.mp hd
      obtain ⟨hn1, hn2⟩ := nms_mem hn
      have := ab_le hn1
      cases e : s.ys.lookup n with
      | none => rw [e] at hn2; cases hn2
      | some v =>
        have hv := w4 _ (look_mem e)
        have hy := yard_le (w := v.1) (m := v.2) hv.1 hv.2
        simp only [pageD, e, wgt, wgts]
        omega
    have g2 : wgts (s.ps.map pairD) ≤ (s.ps.map pairD).length * (3000 + 2) := wgts_le fun d hd => by
      obtain ⟨p, hp, rfl⟩ := List.mem_map.mp hd
      have hn := w2 p hp
      rw [lookup_names] at hn
      have := ab_le (w1.1 _ hn)
      have hs : (reprText (Str.ofString "swaps")).length = 7 := by decide +kernel
      simp only [pairD, wgt, wgts, hs]
      omega
    have l1 := nms_len s.ys
    rw [List.length_map] at g1 g2
    simp only [viewD, wgt, wgts]
    rw [sizeLine_eq]
    have g3 : (nms s.ys).length * (1000 + 2) ≤ 2 * 1002 := Nat.mul_le_mul l1 (Nat.le_refl _)
    have g4 : s.ps.length * (3000 + 2) ≤ 900 * 3002 := Nat.mul_le_mul (by omega) (Nat.le_refl _)
    omega
end SK
set_option maxHeartbeats 4000000
/-! SkM3: _law_shelf_view. -/
namespace SK
open PySem PySem.Spec PyProof.Rows L2
section
variable {P : Program} {w : World} {K : PySem.W.Frag} {mg : Str → Option Value} {base : Heap}
def lookT (ys : List (Str × Int × Int)) (n : Str) : Str := match ys.lookup n with | some v => yardTxt v.1 v.2 | none => ""
def Pg (D : Addr) (ys : List (Str × Int × Int)) (H : Hp) : List Str → List V → Prop
  | [], [] => True
  | n :: r, x :: r' => (∃ p, x = V.ref p ∧ p ≠ D ∧ H p = some (.lst [.str n, .str (lookT ys n)])) ∧ Pg D ys H r r'
  | _, _ => False
section
variable {D : Addr} {ys : List (Str × Int × Int)} {H H1 : Hp}
theorem Pg.kp {M : Addr → Prop} (k : Kp M H H1) (hM : ∀ a, M a → a = D) : ∀ {ns : List Str} {xs : List V}, Pg D ys H ns xs → Pg D ys H1 ns xs
  | [], [], _ => True.intro
  | _ :: _, _ :: _, ⟨⟨p, e, n, h⟩, r⟩ => ⟨⟨p, e, n, k.st h (fun z => n (hM p z))⟩, Pg.kp k hM r⟩
  | [], _ :: _, h => h.elim
  | _ :: _, [], h => h.elim
theorem Pg.app : ∀ {ns ms : List Str} {xs zs : List V}, Pg D ys H ns xs → Pg D ys H ms zs → Pg D ys H (ns ++ ms) (xs ++ zs)
  | [], _, [], _, _, h => h
  | _ :: _, _, _ :: _, _, ⟨e, t⟩, h => ⟨e, Pg.app t h⟩
  | [], _, _ :: _, _, h, _ => h.elim
  | _ :: _, _, [], _, h, _ => h.elim
theorem Pg.len : ∀ {ns : List Str} {xs : List V}, Pg D ys H ns xs → xs.length = ns.length
  | [], [], _ => rfl
  | _ :: _, _ :: _, ⟨_, r⟩ => congrArg Nat.succ (Pg.len r)
  | [], _ :: _, h => h.elim
  | _ :: _, [], h => h.elim
theorem Pg.rv : ∀ {ns : List Str} {xs : List V}, Pg D ys H ns xs → RVs H xs (ns.map (pageD ys))
  | [], [], _ => .nil
  | _ :: _, _ :: _, ⟨⟨p, e, _, h⟩, r⟩ => by
    subst e
    exact .cons (.lst h (.cons (.str _) (.cons (.str _) .nil))) (Pg.rv r)
  | [], _ :: _, h => h.elim
  | _ :: _, [], h => h.elim
theorem Pz.rv : ∀ {ps : List (Str × Int)} {xs : List V}, Pz H ps xs → RVs H xs (ps.map pairD)
  | [], [], _ => .nil
  | (_, _) :: _, _ :: _, ⟨⟨t, e, t', h1, h2⟩, r⟩ => by
    subst e
    exact .cons (.tup h1 (.cons (.str _) (.cons (.tup h2 (.cons (.str _) (.cons (.int _) .nil))) .nil))) (Pz.rv r)
  | [], _ :: _, h => h.elim
  | _ :: _, [], h => h.elim
end
def spView : Sp := fun vs H Q _ => ∃ L l k, vs = [.ref L] ∧ LibAt H L l ∧ WfL k l ∧ k < 900 ∧ ∀ H', K0 H H' → Q (.str (viewT l)) H'
theorem sc97 : FnScope ["_law_shelf", "_law_pages", "_law_tag"] ["_law_shelf"] (defScope (top 97)) := ⟨rfl, rfl, rfl, by decide +kernel, rfl, by decide +kernel, by decide +kernel⟩
theorem k_view (T : Tx K mg) : FnG P w K mg base (L2N.CX P w) 6 1211 spView := by
  obtain ⟨fd, F⟩ := T.f_law_shelf_view
  refine fng_of F sc97 (F.bindsN fun _ _ _ _ _ _ us hl => match us, hl with | [_], _ => rfl) (fun vs H Q E h => ?_) (fun cdv A outer s H vs Q E hr hg h => ⟨_,
    pss_cons (ps_setLc (i := 1) (own := [("_law_tag", 2)]) (g := gName 2) (tt := tYes) rfl sc97.nd rfl rfl (sw_true rfl rfl rfl (by decide +kernel)) (pi_tup (pe_propG (pv 0) T.clLibrary T.pnames (k_names T) (hr.mono (by decide)) hg noXN)) (blkOk_by (N := ["_law_shelf", "_law_pages", "_law_tag"]) (sc := defScope (top 97)) (by decide +kernel))
        (fun _ _ _ _ _ => pg_name (i := 2) sc97.nd rfl (Or.inl rfl)) (fun _ _ _ _ _ => pts_nil) (fun _ _ _ _ _ => pe_lst (pa_cons (pv 2) (pa_cons (pe_callTy (call_strSl T.sYard__str__ (k_Yard_str T) (hr.mono (by decide)) hg noXN) rfl T.bstr bt_str
          (pa_cons (pe_ixG T.sLibrary__getitem__ T.fnGet (k_get T) (hr.mono (by decide)) hg noXN (pv 0) (pv 2) (fun _ _ => rfl)) pa_nil) (by decide) (by decide) rfl rfl) pa_nil))))
    (pss_one (ps_ret (c_repr T (hu30 hr) hg (pa_cons (pe_lst (pa_cons (pv 1) (pa_cons (pe_propG (pv 0) T.clLibrary T.pwishes (k_wishes T) (hr.mono (by decide)) hg noXN) (pa_cons (pe_propG (pv 0) T.clLibrary T.pchanges (k_changes T) (hr.mono (by decide)) hg noXN)
      (pa_cons (pe_callB (call_lenG T.sLibrary__len__ (k_llen T) (hr.mono (by decide)) hg noXN) rfl T.blen PySem.boot_len (pa_cons (pv 0) pa_nil) (by decide) (by decide) rfl rfl)
      (pa_cons (pe_callTy (call_boolG T.sLibrary__bool__ (k_lbool T) (hr.mono (by decide)) hg noXN) rfl T.bbool bt_bool (pa_cons (pv 0) pa_nil) (by decide) (by decide) rfl rfl) pa_nil)))))) pa_nil)))), ?_⟩)
  · obtain ⟨_, _, _, rfl, _⟩ := h
    rfl
  · obtain ⟨L, l, k, rfl, hL, wf, hk, q⟩ := h
    match l, hL, wf, q with
    | [], ⟨_, _, _, z⟩, _, _ => exact z.elim
    | s :: r, hL, wf, q =>
      obtain ⟨dl, p, el, _⟩ := id hL
      obtain ⟨w1, w2, w3, w4, w5⟩ := wf.2 s (by simp)
      obtain ⟨o1, o2, o3, o4⟩ := view_ok wf hk
      refine ⟨_, rfl, L, dl, _, rfl, el, L, s, r, rfl, hL, w1, fun H1 t k1 et => ⟨t, rfl, ⟨_, SqT.of et⟩, fun D hD => ?_⟩⟩
      refine lc_it (walk_tup (xs := (nms s.ys).map V.str)) (fun i H' => K0 H1 H' ∧ ∃ xs, H' D = some (.lst xs) ∧ Pg D s.ys H' ((nms s.ys).take i) xs) ⟨kp_new hD, [], upd_same, by rw [List.take_zero]; exact True.intro⟩ (fun i H' _ z => SqT.of (z.1.tup et)) ?_ ?_
      · rintro i x H2 H3 hi ⟨k2, xs, eD, hp⟩ ⟨e3, hx⟩
        obtain rfl : H2 = H3 := e3.symm
        rw [List.getElem?_map] at hx
        obtain ⟨n, en, rfl⟩ := Option.map_eq_some_iff.mp hx
        have hnm := nms_mem (List.mem_of_getElem? en)
        have k02 := k1.trans k2
        cases eL : s.ys.lookup n with
        | none => rw [eL] at hnm; cases hnm.2
        | some v =>
          have hv := w4 _ (look_mem eL)
          refine ⟨rfl, tyes ⟨_, rfl, _, rfl, _, rfl, L, dl, _, rfl, k02.at0 el, L, s, r, n, v, rfl, hL.k0 k02, eL, fun y hY => ?_⟩⟩
          obtain ⟨dy, vs, ks, rs, hsl, hr'⟩ := id hY
          refine ⟨y, dy, vs, rfl, hsl, y, v.1, v.2, rfl, hY, hv.1, hv.2, fun H3 k3 => ⟨_, rfl, by show 2 ≤ sizeLine; rw [sizeLine_eq]; omega, fun p np => ?_⟩⟩
          have eD3 := k3.at0 eD
          have hDp : D ≠ p := ne_of_none eD3 np
          have hlen := hp.len
          have hnl := nms_len s.ys
          have k4 : K0 H2 (upd H3 p (.lst [.str n, .str (yardTxt v.1 v.2)])) := k3.new np
          have eD4 : (upd H3 p (.lst [.str n, .str (yardTxt v.1 v.2)])) D = some (.lst xs) := k4.at0 eD
          have k5 : Kp (fun b => b = D) (upd H3 p (.lst [.str n, .str (yardTxt v.1 v.2)])) (upd (upd H3 p (.lst [.str n, .str (yardTxt v.1 v.2)])) D (.lst (xs ++ [.ref p]))) := (Kp.refl _).put rfl eD4 (fun z => z)
          refine ⟨xs, eD4, ?_, (k2.trans k4).own hD, xs ++ [.ref p], upd_same, ?_⟩
          · rw [hlen, List.length_take, sizeLine_eq]
            omega
          · rw [show (nms s.ys).take (i + 1) = (nms s.ys).take i ++ [n] by rw [List.take_succ, en]; rfl]
            refine Pg.app ((hp.kp k4 (fun a z => z.elim)).kp k5 (fun a z => z)) ⟨⟨p, rfl, Ne.symm hDp, ?_⟩, True.intro⟩
            rw [upd_ne (Ne.symm hDp), upd_same]
            unfold lookT
            rw [eL]
      · rintro H2 ⟨k2, xs, eD, hp⟩
        rw [List.length_map, List.take_length] at hp
        have k02 := k1.trans k2
        have el2 := k02.at0 el
        have hL2 := hL.k0 k02
        refine ⟨_, rfl, _, rfl, L, dl, _, rfl, el2, L, s, r, rfl, hL2, fun t2 ht2 => ?_⟩
        refine ⟨_, rfl, L, dl, _, rfl, el2, L, s, r, rfl, hL2, ?_⟩
        refine ⟨_, rfl, L, dl, _, rfl, el2, L, s, r, rfl, hL2, _, rfl, by omega, by have := okn_len w1; omega, ?_⟩
        refine ⟨_, rfl, L, dl, _, rfl, el2, L, rfl, true, rfl, ?_⟩
        obtain ⟨ws, ew, hw⟩ := ht2
        refine ⟨by show 5 ≤ sizeLine; rw [sizeLine_eq]; omega, fun top nt => ?_⟩
        have k3 : K0 H2 (upd H2 top (.lst [.ref D, .ref t2, .int (r.length : Nat), .int (s.ys.length : Nat), .bl true])) := kp_new nt
        refine ⟨.ref top, viewD s r.length, rfl, ?_, o1, o2, o3, o4, q _ (k02.trans k3)⟩
        refine .lst upd_same (.cons (.lst (k3.at0 eD) ((hp.kp k3 (fun a z => z.elim)).rv)) (.cons (.tup (k3.tup ew) ((hw.kp k3).rv)) (.cons (.int _) (.cons (.int _) (.cons (.bl _) .nil)))))
end
end SK
set_option maxHeartbeats 4000000
/-! SkN1: _law_ending, _law_end_due, _law_twin. -/
namespace SK
open PySem PySem.Spec PyProof.Rows L2
def endE : Nat → Option Err
  | 0 => some .key
  | 1 => some .zero
  | 2 => some .great
  | _ => none
section
variable {P : Program} {w : World} {K : PySem.W.Frag} {mg : Str → Option Value} {base : Heap}
def spEnding : Sp := fun vs H Q E => ∃ (m : Nat), vs = [.int (m : Nat)] ∧ m < 5 ∧ ∀ H', K0 H H' → match endE m with
  | none => ∀ p, H' p = some (.lst [.str "done", .int (m : Nat)]) → H p = none → Q (.ref p) H'
  | some e => ∀ c d, ErrAt H' e c d → E c d H'
theorem k_ending (T : Tx K mg) : FnG P w K mg base (L2N.CX P w) 3 1232 spEnding := by
  obtain ⟨fd, F⟩ := T.f_law_ending
  have S : FnScope ["_law_way"] ["_law_way"] (defScope (top 100)) := ⟨rfl, rfl, rfl, by decide +kernel, rfl, by decide +kernel, by decide +kernel⟩
  refine fng_of F S (F.bindsN fun _ _ _ _ _ _ us hl => match us, hl with | [_], _ => rfl) (fun vs H Q E h => ?_) (fun cdv A outer s H vs Q E hr hg h => ⟨_,
    pss_cons (ps_if (pt_cmpR op_eq (pv 0) pe_int (nomark _)) (pss_one (L2N.ps_raise rfl (L2N.takes_of rfl rfl rfl rfl) (pmk_excN excClass_KeyError ty_KeyError rfl T.bKeyError boot_KeyError (pa_cons pe_str pa_nil)))) pss_nil)
    (pss_cons (ps_if (pt_cmpR op_eq (pv 0) pe_int (nomark _)) (pss_one (L2N.ps_raise rfl (L2N.takes_of rfl rfl rfl rfl) (pmk_exbN exb_ZeroDivisionError rfl T.bZeroDivisionError boot_ZeroDivisionError (pa_cons pe_str pa_nil)))) pss_nil)
    (pss_cons (ps_if (pt_cmpR op_eq (pv 0) pe_int (nomark _)) (pss_one (L2N.ps_raise rfl (L2N.takes_of rfl rfl rfl rfl) (pmk_err T.eTooGreat T.xTooGreat T.iTooGreat T.tTooGreat (k_iGreat T) hr hg noXN rfl T.gTooGreat pe_int))) pss_nil)
    (pss_one (ps_ret (pe_lst (pa_cons pe_str (pa_cons (pv 0) pa_nil))))))), ?_⟩)
  · obtain ⟨_, rfl, _⟩ := h
    rfl
  · obtain ⟨m, rfl, hm, q⟩ := h
    have key : ∀ j : Int, decide (V.int (m : Nat) = V.int j) = decide ((m : Int) = j) := fun j => decide_eq_decide.mpr ⟨fun z => V.int.inj z, fun z => by rw [z]⟩
    refine ⟨_, rfl, rfl, decide ((m : Int) = 0), congrArg V.bl (key 0), ?_⟩
    by_cases h0 : m = 0
    · subst h0
      exact ift rfl fun d => q H (Kp.refl H) _ _ rfl
    refine iff_ (decide_eq_false (by omega)) ⟨_, rfl, rfl, decide ((m : Int) = 1), congrArg V.bl (key 1), ?_⟩
    by_cases h1 : m = 1
    · subst h1
      exact ift rfl (q H (Kp.refl H) _ _ rfl)
    refine iff_ (decide_eq_false (by omega)) ⟨_, rfl, rfl, decide ((m : Int) = 2), congrArg V.bl (key 2), ?_⟩
    by_cases h2 : m = 2
    · subst h2
      exact ift rfl fun d nd => q _ (kp_new nd) _ _ ⟨rfl, d, rfl, upd_same⟩
    refine iff_ (decide_eq_false (by omega)) ⟨_, rfl, by show 2 ≤ sizeLine; rw [sizeLine_eq]; omega, fun p np => ?_⟩
    have e : endE m = none := by
      match m, h0, h1, h2 with
      | m + 3, _, _, _ => rfl
    have z := q _ (kp_new (o := .lst [.str "done", .int (m : Nat)]) np)
    rw [e] at z
    exact z p upd_same np
/-- what a call of it is told as -/
def doneD' (m : Nat) : PyData := .list [.str "done", .int (m : Nat)]
def endT (m : Nat) : Str × Str := match endE m with
  | some .key => ("key", "")
  | some .zero => ("zero", "")
  | some _ => ("great", "99")
  | none => ("back", (doneD' m).shown)
theorem endE_ge {m : Nat} (h : 3 ≤ m) : endE m = none := by
  match m, h with
  | m + 3, _ => rfl
theorem endT_ge {m : Nat} (h : 3 ≤ m) : endT m = (Str.ofString "back", (doneD' m).shown) := by
  unfold endT
  rw [endE_ge h]
def ToldAt (H : Hp) (p : Addr) (t : Str × Str) : Prop := H p = some (.lst [.str t.1, .str t.2])
def spEndDue : Sp := fun vs H Q _ => ∃ (m : Nat), vs = [.int (m : Nat)] ∧ m < 5 ∧ ∀ H' p, K0 H H' → ToldAt H' p (endT m) → H p = none → Q (.ref p) H'
theorem k_end_due (T : Tx K mg) : FnG P w K mg base (L2N.CX P w) 1 1246 spEndDue := by
  obtain ⟨fd, F⟩ := T.f_law_end_due
  have S : FnScope ["_law_way"] ["_law_way"] (defScope (top 102)) := ⟨rfl, rfl, rfl, by decide +kernel, rfl, by decide +kernel, by decide +kernel⟩
  refine fng_of F S (F.bindsN fun _ _ _ _ _ _ us hl => match us, hl with | [_], _ => rfl) (fun vs H Q E h => ?_) (fun cdv A outer s H vs Q E hr hg h => ⟨_,
    pss_one (ps_ret (pe_ifExp (pt_cmpR op_lt (pv 0) pe_int (nomark _)) (pe_ix ix_list (pe_lst (pa_cons (pe_lst (pa_cons pe_str (pa_cons pe_str pa_nil))) (pa_cons (pe_lst (pa_cons pe_str (pa_cons pe_str pa_nil))) (pa_cons (pe_lst (pa_cons pe_str (pa_cons pe_str pa_nil))) pa_nil)))) (pv 0) (fun _ _ => rfl))
      (pe_lst (pa_cons pe_str (pa_cons (c_repr T (hu30 hr) hg (pa_cons (pe_lst (pa_cons pe_str (pa_cons (pv 0) pa_nil))) pa_nil)) pa_nil))))), ?_⟩)
  · obtain ⟨_, rfl, _⟩ := h
    rfl
  · obtain ⟨m, rfl, hm, q⟩ := h
    have s2 : 2 ≤ sizeLine := by rw [sizeLine_eq]; omega
    refine ⟨_, rfl, _, _, rfl, rfl, decide ((m : Int) < 3), rfl, ?_⟩
    by_cases h3 : m < 3
    · refine ift (decide_eq_true (by omega)) ⟨s2, fun a na => ⟨s2, fun b nb => ⟨s2, fun c nc => ⟨by show 3 ≤ sizeLine; rw [sizeLine_eq]; omega, fun l nl => ?_⟩⟩⟩⟩
      have k : K0 H (upd (upd (upd (upd H a (.lst [.str "key", .str ""])) b (.lst [.str "zero", .str ""])) c (.lst [.str "great", .str "99"])) l (.lst [.ref a, .ref b, .ref c])) := (((kp_new na).new nb).new nc).new nl
      have c1 : (upd (upd (upd H a (.lst [.str "key", .str ""])) b (.lst [.str "zero", .str ""])) c (.lst [.str "great", .str "99"])) b = some (.lst [.str "zero", .str ""]) := by rw [upd_ne (ne_of_none upd_same nc)]; exact upd_same
      have a1 : (upd (upd H a (.lst [.str "key", .str ""])) b (.lst [.str "zero", .str ""])) a = some (.lst [.str "key", .str ""]) := by rw [upd_ne (ne_of_none upd_same nb)]; exact upd_same
      have a2 : (upd (upd (upd H a (.lst [.str "key", .str ""])) b (.lst [.str "zero", .str ""])) c (.lst [.str "great", .str "99"])) a = some (.lst [.str "key", .str ""]) := by rw [upd_ne (ne_of_none a1 nc)]; exact a1
      have nb' : H b = none := (kp_new (M := fun _ => False) na).none nb
      have nc' : H c = none := ((kp_new (M := fun _ => False) na).new nb).none nc
      match m, h3, q with
      | 0, _, q => exact ⟨_, rfl, l, _, 0, V.ref a, rfl, rfl, SqL.of upd_same, rfl, q _ a k (by show upd _ l _ a = _; rw [upd_ne (ne_of_none a2 nl)]; exact a2) na⟩
      | 1, _, q => exact ⟨_, rfl, l, _, 1, V.ref b, rfl, rfl, SqL.of upd_same, rfl, q _ b k (by show upd _ l _ b = _; rw [upd_ne (ne_of_none c1 nl)]; exact c1) nb'⟩
      | 2, _, q => exact ⟨_, rfl, l, _, 2, V.ref c, rfl, rfl, SqL.of upd_same, rfl, q _ c k (by show upd _ l _ c = _; rw [upd_ne (ne_of_none upd_same nl)]; exact upd_same) nc'⟩
    · refine iff_ (decide_eq_false (by omega)) ⟨_, rfl, s2, fun a na => ?_⟩
      have hs := nat_show (n := m) (by omega)
      have e1 : (doneD' m).showable = true := by simp only [doneD', PyData.showable, PyData.showableAll, decide_eq_true hs, Bool.and_self]
      have e2 : (doneD' m).hasDict = false := by simp [doneD', PyData.hasDict, PyData.hasDictAll]
      have e3 : (doneD' m).shown.length ≤ sizeLine := by
        refine Nat.le_trans (shown_le _ e1 e2) ?_
        have hs : (reprText (Str.ofString "done")).length = 6 := by decide +kernel
        simp only [doneD', wgt, wgts, hs]
        rw [sizeLine_eq]
        omega
      refine ⟨.ref a, doneD' m, rfl, .lst upd_same (.cons (.str _) (.cons (.int _) .nil)), e1, e2, by simp [doneD', PyData.depth, PyData.depthAll], e3, s2, fun p np => ?_⟩
      have e := endT_ge (m := m) (by omega)
      refine q _ p ((kp_new na).new np) ?_ ((kp_new (M := fun _ => False) na).none np)
      unfold ToldAt
      rw [e]
      exact upd_same
end
end SK
set_option maxHeartbeats 4000000
/-! SkN2: isinstance of a handled exception, whether it has a dict or not; hot promises that name the exception. -/
namespace SK
open PySem PySem.Spec PySem.Calls PyProof.Rows L2
section
variable {prog : Program} {w : World} {A : Around} {E : Value → Shared → Prop} {s : Shared} {K : PySem.W.Frag} {x D : Addr} {ox : Obj} {od : Option Obj}
/-- e.__class__, asked as isinstance asks it -/
theorem exc_class {Q : Option Value → Shared → Prop} (C : ExcC K D) (X : K.In s.heap) (I : PySem.W.InstAt s.heap x ox D od) (h : Q (some (.ref D)) { s with toks := s.toks + 1 }) : wpAny (model prog w) A (getAttr? (.ref x) "__class__") Q E s := by
  have hcl : (PySem.W.clsIn K D).isSome = true := by
    obtain ⟨cd, hc, _⟩ := PySem.W.any_some C.hd
    rw [hc]
    rfl
  have hf : PySem.W.findObj K D od "__class__" = some (.bind (.builtin "getset_descriptor.__get__") (.builtin "object.__class__")) := by
    obtain ⟨cd, hc⟩ := Option.isSome_iff_exists.mp hcl
    unfold PySem.W.findObj
    rw [hc, Option.bind_some, C.ha, Option.bind_some]
    simp [C.hn, C.ht]
  obtain ⟨hp, g, d, t, os⟩ := s
  have L0 := I.type (M := model prog w)
  have L1 := PySem.W.looks_findIn (M := model prog w) X C.hg
  have L2 := PySem.W.looks_findIn (M := model prog w) X C.hk
  have L3 := PySem.W.looks_find (M := model prog w) X I hf
  have sub : PySem.W.Looks (model prog w) hp (isInstance (.ref x) (.type "BaseException")) true := L0.andThen (PySem.W.looks_subIn X C.hs)
  have hx0 : (false && onTheHeap (Value.builtin "BaseException.__getattribute__")) = false := rfl
  have hx1 : (onTheHeap (Value.ref D) && Value.builtin "BaseException.__getattribute__" == Value.builtin "object.__getattribute__") = false := by
    rw [show (Value.builtin "BaseException.__getattribute__" == Value.builtin "object.__getattribute__") = false by decide +kernel]
    rfl
  unfold getAttr? getAttrBy? getAttrBy
  refine wpAny_bind (wpAny_mkText (wpAny_bind (wpAny_attempt (wpAny_holding (wpAny_bind (L0.at (wpAny_bind (L1.at ?_))))))))
  show wpAny _ _ (if (onTheHeap (Value.ref D) && Value.builtin "BaseException.__getattribute__" == Value.builtin "object.__getattribute__") = true then _ else _) _ _ _
  rw [hx1, if_neg Bool.false_ne_true]
  unfold getAttrByItsOwn hookBefore
  refine wpAny_bind ?_
  rw [if_pos (show onTheHeap (Value.ref D) = true from rfl)]
  refine L2.at ?_
  refine wpAny_bind (wpAny_attempt (wpAny_holding ?_))
  unfold callGetattribute
  rw [hx0, if_neg Bool.false_ne_true]
  unfold boundAndCalled
  rw [PySem.F.excAttr_ValueError.ga.bind (.ref x)]
  refine wpAny_bind (wpAny_pure ?_)
  show wpAny _ _ (call (.builtin "BaseException.__getattribute__") [.ref x, .str "__class__" t]) _ _ _
  refine wpAny_call (codeAny_call_builtin PySem.F.excAttr_ValueError.ga.plain PySem.F.entry_bexc_ga ?_)
  refine @PySem.W.check_slot (model prog w) _ _ ⟨hp, g, d, t + 1, os⟩ "BaseException.__getattribute__" "BaseException" "__getattribute__" (.ref x) [.str "__class__" t] [] _ (by decide +kernel) (by decide +kernel) sub (PySem.F.args_bexc_ga (.ref x) (.str "__class__" t)) ?_
  unfold Builtin.«object.__getattribute__»
  refine wpAny_bind (wpAny_of_eq (a := ((Value.ref x : Value), [Value.str "__class__" t])) (by first | rfl | (simp only [slotArgs]; rfl)) ?_)
  refine wpAny_bind (wpAny_pure (wpAny_bind (L0.at (wpAny_bind (L3.at ?_)))))
  show wpAny _ _ (holding [Value.builtin "object.__class__"] (call (.builtin "getset_descriptor.__get__") [.builtin "object.__class__", .ref x, .ref D]) >>= ret) _ _ _
  refine wpAny_bind (wpAny_holding (wpAny_call (PySem.W.class_get (s := ⟨hp, g, d, t + 1, os⟩) (ox := ox) (od := od) X I C.hm ?_)))
  refine wpAny_pure ?_
  show wpAny _ _ (handedOut (.ref D)) _ _ _
  rw [PySem.W.handedOut_of (v := .ref D) rfl]
  first
    | exact wpAny_pure (wpAny_pure h)
    | exact wpAny_pure h
    | exact wpAny_pure (wpAny_bind (wpAny_pure (wpAny_pure h)))
theorem kit_exc (C : ExcC K D) : PySem.W.KitX K (.ref x) (.ref D) (fun h => PySem.W.InstAt h x ox D od) where
  ty := fun _ _ _ I => I.type
  it := fun _ _ X _ => by
    obtain ⟨cdD, hcD, _⟩ := PySem.W.any_some C.hd
    unfold PySem.W.clsIn at hcD
    split at hcD
    · rename_i c' d' cd' sl' ho
      intro A' Q' E' s' k q
      unfold isType loadHead
      exact wpAny_bind (wpAny_loadPart (k _ _ (X _ _ ho)) (wpAny_pure q))
    · cases hcD
  ne := fun h tp dd its n sl X htp => by
    obtain ⟨cdD, hcD, _⟩ := PySem.W.any_some C.hd
    refine Bool.eq_false_iff.mpr fun q => ?_
    have e : D = tp := Value.ref.inj (beq_iff_eq.mp q)
    subst e
    unfold PySem.W.clsIn at hcD
    split at hcD
    · rename_i c' d' cd' sl' ho
      have z := (X _ _ ho).symm.trans htp
      cases z
    · cases hcD
  ca := fun X I k => exc_class C X I k
end
/-- the handled exception p: its class and its dict -/
structure ExP (K : PySem.W.Frag) (p : Addr × Obj) (D : Addr) (d : Option Addr) (H : Hp) : Prop where
  C : ExcC K D
  cls : p.2.cls = .ref D
  fl : ∃ vs, p.2.data = .fields vs
  dct : p.2.dict = d
  at_ : ∀ x, d = some x → ∃ fs, H x = some (.xd fs)
theorem ExP.kp {M : Addr → Prop} {K : PySem.W.Frag} {p : Addr × Obj} {D : Addr} {d : Option Addr} {H H1 : Hp} (e : ExP K p D d H) (k : Kp M H H1) : ExP K p D d H1 := ⟨e.C, e.cls, e.fl, e.dct, fun x hx => by
  obtain ⟨fs, h⟩ := e.at_ x hx
  exact ⟨fs, k.im h trivial⟩⟩
/-- isinstance(e, c), e the handled exception -/
def rIsP (K : PySem.W.Frag) (p : Addr × Obj) : List V → Hp → VK → Prop := fun xs H Q => ∃ (D : Addr) (d : Option Addr) (c : V) (cv : Value) (b : Bool), xs = [.ref p.1, c] ∧ ExP K p D d H ∧ ClsV c cv ∧ PySem.W.kitOne K (.ref D) cv = some b ∧ Q (.bl b) H
theorem call_isP {X : Cx} {p : Addr × Obj} (hp : p ∈ X.pn) : CallR X (.builtin "isinstance") (rIsP X.K p) := by
  intro pins s σ H xs us Q I r h
  obtain ⟨D, d, c, cv, b, rfl, e, hcv, ek, q⟩ := h
  cases r with
  | cons rx rr =>
    cases rr with
    | cons rt rr =>
      cases rr
      cases rx
      have ec := hcv.eq rt
      subst ec
      obtain ⟨hget, _⟩ := I.pin p (List.mem_append.mpr (.inl hp))
      have J : ∃ od, PySem.W.InstAt s.heap p.1 p.2 D od := by
        obtain ⟨C, cls, ⟨vs, hv⟩, dct, at_⟩ := e
        obtain ⟨a, oc, odi, oda, osl⟩ := p
        dsimp only at cls hv dct hget
        subst cls hv dct
        cases odi with
        | none => exact ⟨none, hget, rfl, rfl, trivial⟩
        | some x =>
          obtain ⟨fs, hx⟩ := at_ x rfl
          obtain ⟨mA, ⟨o, _, _, ho, _⟩, _⟩ := (show ObjOk X.prog X.w H s.heap x (.xd fs) from I.hok x _ hx)
          exact ⟨some o, hget, rfl, rfl, ho⟩
      obtain ⟨od, J⟩ := J
      exact PySem.W.kia_one (kit_exc e.C) I.kIn J ek (fun z => nomatch z) fun tk => ⟨.bl b, H, I.kept (t' := tk) fun _ _ z => z, rfl, q⟩
/-! ### hot promises that name the exception -/
def FnGP (P : Program) (w : World) (K : PySem.W.Frag) (mg : Str → Option Value) (base : Heap) (CX : CXT) (k : Nat) (f : Addr) (sp : Addr × Obj → Sp) : Prop :=
  ∀ (A : Around) (outer : List Env) (s : Shared) (H : Hp) (us : List Value) (vs : List V) (Q : VK) (E : XK) (p : Addr × Obj), L2H.RoomH k A → L2H.Hot1 A p → A.guards = some [] → L2H.PinOk outer H s p → Env0 P w K mg base A outer s H → Vals vs us → sp p vs H Q E →
    codeAny (model P w) A (.call (.ref f) ⟨us, []⟩) (CR CX outer P w H s Q E) s
section
variable {P : Program} {w : World} {K : PySem.W.Frag} {mg : Str → Option Value} {base : Heap} {CX : CXT} {j k : Nat} {f : Addr} {sp : Addr × Obj → Sp}
theorem FnGP.mono (F : FnGP P w K mg base CX j f sp) (h : j ≤ k) : FnGP P w K mg base CX k f sp := fun A outer s H us vs Q E p hr => F A outer s H us vs Q E p (hr.mono h)
theorem fngp_of {x qual : Str} {st : Stmt} {fd : FuncData} {N ps : List Str} (F : FunD K x qual (defArgs st) (defBody st) (defScope st) [] [] f fd) (S : FnScope N ps (defScope st)) (hb : Binds K fd ps []) (len : ∀ p vs H Q E, sp p vs H Q E → vs.length = ps.length)
    (hbody : ∀ (cdv : Value) (A : Around) (outer : List Env) (s : Shared) (H : Hp) (vs : List V) (Q : VK) (E : XK) (p : Addr × Obj), L2H.Hot1 A p → A.guards = some [] → L2H.RoomH k (A.deeper (envOfC qual (defScope st) s.heap.objs.size f cdv)) → sp p vs H Q E →
      ∃ t, PSs (L2H.cxH CX P w K mg base N qual (defScope st) f cdv A outer s H E p) (defBody st) t ∧ t { nx := fun _ H' => Q .non H', rt := Q } (L2.start N vs) H) : FnGP P w K mg base CX (k + 1) f sp := by
  intro A outer s H us vs Q E p hr hot hg pin e0 r hsp
  obtain ⟨oc, od, dV, kV, doc, pm, an, cdv, ct, osl, rfl, lk, hcd, _, _⟩ := F.ex
  have hl := len _ _ _ _ _ hsp
  have KX : K.In s.heap := e0.mod.kin.keeps fun b o e => (e0.bs b o e).1
  have hlu : us.length = ps.length := by rw [← r.length]; exact hl
  have hbt := hb s us KX (by rw [List.append_nil]; exact hlu)
  rw [List.append_nil] at hbt
  have lim : s.heap.NoLimit := e0.mod.nolimit.keeps fun b o e => (e0.bs b o e).1
  have hkind : ∀ y ∈ ps.zip us, (defScope st).names.lookup y.1 = some .local ∨ ((defScope st).names.lookup y.1 = some .cell ∧ ((cellsFrom (s.heap.objs.size + 1) (defScope st).names []).lookup y.1).isSome = true) := fun ⟨n, v⟩ hy => by
    rcases S.par n (List.of_mem_zip hy).1 with q | q
    · exact .inl q
    · exact .inr ⟨q, PySem.W.cellsFrom_some _ _ _ (.inl q)⟩
  refine codeAny_call_function hr.depth (KX _ _ lk) rfl S.co S.gen rfl (PySem.W.codeRec_of KX hcd) (hbt _ _ _ _ ?_)
  refine wpAny_newFunctionEnv_cells S.kind hkind fun env he s1 x => ?_
  subst he
  refine ⟨lim.keeps x.toInCall.keep, codeAny_func ?_⟩
  obtain ⟨t, ht, hq⟩ := hbody cdv A outer s H vs Q E p hot hg (hr.deeper _) hsp
  have I := L2H.inv_startH (CX := CX) (E := E) S pin e0 hl r x
  refine wpAny_mono (ht.run [] s1 (L2.start N vs) H _ I hq) (fun fl s' hs => ?_) fun e s' hs => hs
  have fin : ∀ {σ' : St} {H' : Hp} {v : V} {u : Value}, Inv (L2H.cxH CX P w K mg base N qual (defScope st) f cdv A outer s H E p) [] σ' H' s' → RelV v u → Q v H' → CE outer P w H s Q u s' :=
    fun {σ' H' v u} J rv q => ⟨v, H', J.os, J.bare, J.base, J.hok, rv, q⟩
  cases fl with
  | ret u =>
    obtain ⟨v, σ', H', J, rv, q⟩ := hs
    exact fin J rv q
  | next =>
    obtain ⟨σ', H', J, q⟩ := hs
    exact fin (v := V.non) (u := Value.none) J rfl q
  | brk =>
    obtain ⟨_, _, _, q⟩ := hs
    exact False.elim q
  | cont =>
    obtain ⟨_, _, _, q⟩ := hs
    exact False.elim q
end
section
variable {X : Cx} {CX : CXT} {k : Nat} {f : Addr} {sp : Addr × Obj → Sp} {E : St → XK} {x : Str} {q pos : Pos} {e : Expr} {es : List Expr} {t : TA}
/-- f(..) in a suite that handles p -/
theorem pe_hp {p : Addr × Obj} (F : FnGP X.prog X.w X.K X.mg X.base CX k f sp) (hr : L2H.RoomH k X.A) (hot : L2H.Hot1 X.A p) (hp : p ∈ X.pn) (hg : X.A.guards = some []) (hx : ∀ σ, PassesAt CX X σ (E σ)) (hgl : Gl X x) (hm : X.mg x = some (.ref f)) (hk : PySem.W.keepIn X.K (.ref f) = true)
    (ha : PA X (e :: es) t) (hdb : (x == ("__debug__" : Str)) = false := by decide) (he : starEach (e :: es) X.env = (false, eval e X.env) :: starEach es X.env := by rfl) (hpl : (backTo pos (starEach es X.env)).any (·.1) = false := by rfl) :
    PE X (.Call (.Name x q) (e :: es) [] pos) (tCallS (sp p) E t) := by
  refine ⟨fun pins s σ H Q I h => ?_⟩
  refine wpAny_Call_Name_kw (ld_glob I hgl hm ?_ hdb)
  refine PySem.W.callWith_K (h₀ := X.base) I.ok.mod.kin hk (thn (ha.run pos pins s σ H _ I h) fun us s1 ⟨vs, H1, I1, r, q⟩ => ⟨I1.kIn, ?_⟩) he hpl
  have P1 := I1.pin p (List.mem_append_left _ hp)
  have hpin : L2H.PinOk X.stack H1 s1 p := ⟨P1.1, P1.2.1, fun hm => (List.mem_cons.mp (I1.stkSub p.1 hm)).elim P1.2.2.1 P1.2.2.2.1, P1.2.2.2.2⟩
  refine wpAny_call (codeAny_mono (F X.A X.stack s1 H1 us vs Q (E σ) p hr hot hg hpin I1.env0 r q) fun r s' hq => ?_)
  cases r with
  | error e => exact hx σ pins H1 s1 e s' I1 hq
  | ok fl =>
    cases fl with
    | ret u => exact I1.after hq
    | next => exact False.elim hq
    | brk => exact False.elim hq
    | cont => exact False.elim hq
end
end SK
set_option maxHeartbeats 4000000
/-! SkN3: _law_shown (cold and hot). -/
namespace SK
open PySem PySem.Spec PyProof.Rows L2
section
variable {P : Program} {w : World} {K : PySem.W.Frag} {mg : Str → Option Value} {base : Heap}
/-- what _law_shown is asked for: a None, a list, an int, a text -/
inductive Plain (H : Hp) : V → PyData → Prop
  | non : Plain H .non .none
  | int (i : Int) (h : i.natAbs.log2 < 1920) : Plain H (.int i) (.int i)
  | str (x : Str) (h : (reprText x).length ≤ sizeLine) : Plain H (.str x) (.str x)
  | done (p : Addr) (m : Nat) (h : H p = some (.lst [.str "done", .int (m : Nat)])) (hm : m < 1000) : Plain H (.ref p) (doneD' m)
theorem done_ok {m : Nat} (hm : m < 1000) : (doneD' m).showable = true ∧ (doneD' m).hasDict = false ∧ (doneD' m).depth < 20 ∧ (doneD' m).shown.length ≤ sizeLine := by
  have hs := nat_show (n := m) hm
  have e1 : (doneD' m).showable = true := by simp only [doneD', PyData.showable, PyData.showableAll, decide_eq_true hs, Bool.and_self]
  have e2 : (doneD' m).hasDict = false := by simp [doneD', PyData.hasDict, PyData.hasDictAll]
  refine ⟨e1, e2, by simp [doneD', PyData.depth, PyData.depthAll], Nat.le_trans (shown_le _ e1 e2) ?_⟩
  have hs : (reprText (Str.ofString "done")).length = 6 := by decide +kernel
  simp only [doneD', wgt, wgts, hs]
  rw [sizeLine_eq]
  omega
theorem Plain.ok {H : Hp} {x : V} {d : PyData} (h : Plain H x d) : RV H x d ∧ d.showable = true ∧ d.hasDict = false ∧ d.depth < 20 ∧ d.shown.length ≤ sizeLine := by
  cases h with
  | non => exact ⟨.non, rfl, rfl, by decide, by rw [sizeLine_eq]; decide +kernel⟩
  | int i h => exact ⟨.int i, decide_eq_true h, rfl, by simp [PyData.depth], int_text_fits h⟩
  | str x h => exact ⟨.str x, rfl, rfl, by simp [PyData.depth], h⟩
  | done p m h hm => exact ⟨.lst h (.cons (.str _) (.cons (.int _) .nil)), done_ok hm⟩
theorem Plain.noYard (T : Tx K mg) {H : Hp} {x : V} {d : PyData} (h : Plain H x d) : ∃ t, TyX K H x t ∧ PySem.W.kitOne K t (.ref 657) = some false := by
  cases h with
  | non => exact ⟨_, .base .non, T.yNone⟩
  | int i h => exact ⟨_, .base (.int i), T.yInt⟩
  | str x h => exact ⟨_, .base (.str x), T.yStr⟩
  | done p m h hm => exact ⟨_, .base (.lst h), T.yList⟩
theorem pe_never {X : Cx} {e : Expr} : PE X e (fun _ _ _ => False) := ⟨fun _ _ _ _ _ _ h => h.elim⟩
def spShown : Sp := fun vs H Q _ => ∃ x d, vs = [x] ∧ Plain H x d ∧ Q (.str d.shown) H
theorem sc93 : FnScope ["_law_thing"] ["_law_thing"] (defScope (top 93)) := ⟨rfl, rfl, rfl, by decide +kernel, rfl, by decide +kernel, by decide +kernel⟩
theorem k_shown (T : Tx K mg) : FnG P w K mg base (L2N.CX P w) 1 1187 spShown := by
  obtain ⟨fd, F⟩ := T.f_law_shown
  refine fng_of F sc93 (F.bindsN fun _ _ _ _ _ _ us hl => match us, hl with | [_], _ => rfl) (fun vs H Q E h => ?_) (fun cdv A outer s H vs Q E hr hg h => ⟨_,
    pss_one (ps_ret (pe_ifExp (pt_val (c_isi T (pa_cons (pv 0) (pa_cons (pe_glob (v := .ref 657) rfl T.gYard rfl) pa_nil)))) pe_never (c_repr T (hu30 hr) hg (pa_cons (pv 0) pa_nil)))), ?_⟩)
  · obtain ⟨_, _, rfl, _⟩ := h
    rfl
  · obtain ⟨x, d, rfl, hp, q⟩ := h
    obtain ⟨t, h1, h2⟩ := hp.noYard T
    obtain ⟨o1, o2, o3, o4, o5⟩ := hp.ok
    exact ⟨_, rfl, _, _, _, _, _, rfl, .own 657, h1, h2, false, rfl, iff_ rfl ⟨_, rfl, x, d, rfl, o1, o2, o3, o4, o5, q⟩⟩
theorem hu30H {k : Nat} {A : Around} (hr : L2H.RoomH k A) : A.units + 30 < cLine := by
  have := hr.un
  omega
theorem k_shownH (T : Tx K mg) : FnGP P w K mg base (L2N.CX P w) 1 1187 (fun _ => spShown) := by
  obtain ⟨fd, F⟩ := T.f_law_shown
  refine fngp_of F sc93 (F.bindsN fun _ _ _ _ _ _ us hl => match us, hl with | [_], _ => rfl) (fun p vs H Q E h => ?_) (fun cdv A outer s H vs Q E p hot hg hr h => ⟨_,
    pss_one (ps_ret (pe_ifExp (pt_val (c_isi T (pa_cons (pv 0) (pa_cons (pe_glob (v := .ref 657) rfl T.gYard rfl) pa_nil)))) pe_never (c_repr T (hu30H hr) hg (pa_cons (pv 0) pa_nil)))), ?_⟩)
  · obtain ⟨_, _, rfl, _⟩ := h
    rfl
  · obtain ⟨x, d, rfl, hp, q⟩ := h
    obtain ⟨t, h1, h2⟩ := hp.noYard T
    obtain ⟨o1, o2, o3, o4, o5⟩ := hp.ok
    exact ⟨_, rfl, _, _, _, _, _, rfl, .own 657, h1, h2, false, rfl, iff_ rfl ⟨_, rfl, x, d, rfl, o1, o2, o3, o4, o5, q⟩⟩
end
end SK
set_option maxHeartbeats 4000000
/-! SkN4: list.count of flat items; _law_class. -/
namespace SK
open PySem PySem.Spec PyProof.Rows L2
section
variable {X : Cx}
def rFCount (K : PySem.W.Frag) : V → List V → Hp → VK → Prop := fun x xs H Q => ∃ (a : Addr) (ys : List V) (y : V), x = V.ref a ∧ xs = [y] ∧ SqL K H a ys ∧ flatV y = true ∧ ys.all flatV = true ∧ Q (.int (ys.countP fun z => eqV z y : Nat)) H
theorem count_vals {y : V} : ∀ {ys : List V} {its : List Value}, Vals ys its → ys.all flatV = true → its.countP (eqU y) = ys.countP fun z => eqV z y
  | _, _, .nil, _ => rfl
  | _, _, .cons (a := z) (b := u) r t, h => by
    rw [List.all_cons, Bool.and_eq_true] at h
    rw [List.countP_cons, List.countP_cons, count_vals t h.2, eqU_of r h.1]
theorem mt_fcount : MtR X "list.count" (rFCount X.K) := by
  intro pins s σ H x xs v us Q I rx rxs h
  obtain ⟨a, ys, y, rfl, rfl, hs, fy, fys, q⟩ := h
  cases rx
  obtain ⟨uy, rfl, ry⟩ := rxs.one
  obtain ⟨its, rv, ⟨⟨cls, dd, data, sl⟩, n, ho, hc, hdn, hd⟩, hlen⟩ := I.list hs
  simp only at hc hd
  subst hc hd
  refine call_meets PySem.F.slot_list_count ⟨_, ho, rfl⟩ PySem.F.entry_list_count (PySem.F.args_list_count_2 _ _)
    (SeqAt.list_countAt a its.toArray n dd sl uy (eqU y)) ⟨ho, fun u' hu' => mem_eqAt ry fy rv fys u' (by simpa using hu'), ?_⟩
  have ec : its.toArray.toList.countP (eqU y) = ys.countP fun z => eqV z y := count_vals rv fys
  refine ⟨.int (ys.countP fun z => eqV z y : Nat), H, I.tok _, ⟨s.toks, ?_⟩, q⟩
  show Value.int ((its.toArray.toList.countP (eqU y) : Nat) : Int) s.toks = _
  rw [ec]
end
end SK
set_option maxHeartbeats 4000000
/-! SkN5: a list comprehension over range in a suite that handles an exception (the steps follow HandS.HotCalls and HandS.Comp). -/
namespace SK
open PySem PySem.Spec PyProof.Rows L2 L2H HotX
structure TurnP (P : Program) (w : World) (K : PySem.W.Frag) (tg : Expr) (J : It) (fp : List Addr) (it : Addr) (tn : Nat → Heap → Prop) : Prop where
  mem : it ∈ fp
  obj : ∀ i h, tn i h → ∀ b ∈ fp, ∃ o, h.get? b = some o ∧ ∀ v, o.data ≠ .cell v
  keep : ∀ i h h', tn i h → (∀ b ∈ fp, ∀ o, h.get? b = some o → h'.get? b = some o) → tn i h'
  item : ∀ (X : Cx), X.prog = P → X.w = w → X.K = K → ∀ (i : Nat) (pins : List (Addr × Obj)) (s : Shared) (σ : St) (H : Hp) (E : Value → Shared → Prop), Inv X pins σ H s → (∀ b ∈ fp, FpOk X pins H b) → tn i s.heap → J.go i H →
    wpAny (model P w) X.A (pyNext (.ref it)) (fun r s1 => ∃ u, r = some u ∧
      wpAny (model P w) X.A (letOwnedTupleGo tg (.ref it) u) (fun _ s2 => ∃ x H', Inv X pins σ H' s2 ∧ RelV x u ∧ J.yld i H x H' ∧ tn (i + 1) s2.heap ∧ ∀ b ∈ fp, H' b = none) E s1) E s
  done : ∀ (X : Cx), X.prog = P → X.w = w → X.K = K → ∀ (i : Nat) (pins : List (Addr × Obj)) (s : Shared) (σ : St) (H : Hp) (E : Value → Shared → Prop), Inv X pins σ H s → (∃ x1, HotAt X.A x1 s.heap) → (∀ b ∈ fp, FpOk X pins H b) → tn i s.heap → J.stop i H →
    wpAny (model P w) X.A (pyNext (.ref it)) (fun r s1 => r = none ∧ Inv X pins σ H s1) E s
  self : ∀ (A : Around) (i : Nat) (s : Shared) (Q : Value → Shared → Prop) (E : Value → Shared → Prop), tn i s.heap → Q (.ref it) s → wpAny (model P w) A (pyIter (.ref it)) Q E s
theorem turn_rangeP {P : Program} {w : World} {K : PySem.W.Frag} {tg : Expr} (it : Addr) (lo : Int) (n : Nat) : TurnP P w K tg (Itr lo n) [it] it (fun i h => IsRangeIter h it (lo + (i : Nat) * 1) ((n : Int) - (i : Nat)) 1) where
  mem := by simp
  obj := fun i h st b hb => by
    have e : b = it := by simpa using hb
    subst e
    exact ⟨_, st, fun v z => by
      have z' : Data.fields _ = Data.cell v := z
      cases z'⟩
  keep := fun i h h' st k => k it (by simp) _ st
  item := by
    intro X hP hw hK i pins s σ H E I hf st hg
    subst hP hw hK
    obtain ⟨f0, f1, f2, f3, f4, f5⟩ := hf it (by simp)
    have hlt : i < n := hg
    refine wpAny_pyNext_range_item st (by omega) fun h' st' sb => ?_
    have st2 : IsRangeIter h' it (lo + ((i + 1 : Nat) : Int) * 1) ((n : Int) - ((i + 1 : Nat) : Int)) 1 := by
      have e1 : lo + ((i : Nat) : Int) * 1 + 1 = lo + ((i + 1 : Nat) : Int) * 1 := by omega
      have e2 : (n : Int) - ((i : Nat) : Int) - 1 = (n : Int) - ((i + 1 : Nat) : Int) := by omega
      rw [← e1, ← e2]
      exact st'
    have I1 : Inv X pins σ H { s with heap := h', toks := s.toks + 1 } := I.turned (fun b o hb e => (sb.2 b hb).trans e) f0 f1 f3 f4 f5
    refine ⟨_, rfl, go_of (s := { s with heap := h', toks := s.toks + 1 }) (n := "range_iterator") st2 rfl rfl (by decide) ⟨.int (lo + i), H, I1, ⟨s.toks, ?_⟩, ⟨rfl, rfl⟩, st2, fun b hb => (hf b hb).1⟩⟩
    rw [Int.mul_one]
  done := by
    intro X hP hw hK i pins s σ H E I hc hf st hg
    subst hP hw hK
    obtain ⟨f0, f1, f2, f3, f4, f5⟩ := hf it (by simp)
    obtain ⟨x1, hot⟩ := hc
    exact pyNext_range_end_hot hot st (by have : n ≤ i := hg; omega) fun h' eb => ⟨rfl, I.turned (t' := s.toks) (fun b o _ e => eb b o e) f0 f1 f3 f4 f5⟩
  self := fun _ _ _ _ _ st h => wpAny_pyIter_rangeiter st h
def PIEP (X : Cx) (pins : List (Addr × Obj)) (σ : St) (tg : Expr) (R : It → Hp → Prop) (itv : Value) (s2 : Shared) : Prop :=
  ∃ (it : Addr) (fp : List Addr) (tn : Nat → Heap → Prop) (J : It) (H' : Hp), itv = .ref it ∧ Inv X pins σ H' s2 ∧ TurnP X.prog X.w X.K tg J fp it tn ∧ tn 0 s2.heap ∧ (∀ b ∈ fp, FpOk X pins H' b) ∧ R J H'
structure PIP (X : Cx) (tg iter : Expr) (wi : TI) : Prop where
  run : ∀ (pins : List (Addr × Obj)) (s : Shared) (σ : St) (H : Hp) (R : It → Hp → Prop), Inv X pins σ H s → wi σ H R →
    wpAny (model X.prog X.w) X.A (eval iter X.env) (fun v s1 => wpAny (model X.prog X.w) X.A (pyIter v) (PIEP X pins σ tg R) X.xe s1) X.xe s
section
variable {X : Cx} {tg : Expr}
theorem range_itP {pins : List (Addr × Obj)} {σ : St} {H : Hp} {s : Shared} {R : It → Hp → Prop} {E : Value → Shared → Prop} {lo hi : Int} {t u v : Tok} {tk : Nat} (I : Inv X pins σ H s) (h1 : -(2 ^ 62) ≤ lo) (h2 : lo < 2 ^ 62) (h3 : -(2 ^ 62) ≤ hi) (h4 : hi < 2 ^ 62)
    (q : R (Itr lo (hi - lo).toNat) H) : wpAny (model X.prog X.w) X.A (pyIter (.ref s.heap.objs.size)) (PIEP X pins σ tg R) E { s with heap := s.heap.push { cls := .type "range", data := .fields #[.int lo t, .int hi u, .int 1 v] }, toks := tk } := by
  refine wpAny_pyIter_range (IsRange.new ..) (small_one h1 h2 h3 h4) ?_
  have I1 : Inv X pins σ H { s with heap := s.heap.push { cls := .type "range", data := .fields #[.int lo t, .int hi u, .int 1 v] }, toks := tk } := I.kept fun b o e => Heap.get?_push_of_some _ e
  refine ⟨(s.heap.push { cls := .type "range", data := .fields #[.int lo t, .int hi u, .int 1 v] }).objs.size, [(s.heap.push { cls := .type "range", data := .fields #[.int lo t, .int hi u, .int 1 v] }).objs.size], _, _, H, rfl,
    I1.kept (t' := tk) fun b o e => Heap.get?_push_of_some _ e, turn_rangeP _ lo (hi - lo).toNat, ?_, fun b hb => ?_, q⟩
  · have e1 : lo + ((0 : Nat) : Int) * 1 = lo := by simp
    have e2 : (((hi - lo).toNat : Nat) : Int) - ((0 : Nat) : Int) = Builtin.Range.rangeSize lo hi 1 := by rw [rangeSize_one]; split <;> omega
    show IsRangeIter _ _ (lo + ((0 : Nat) : Int) * 1) ((((hi - lo).toNat : Nat) : Int) - ((0 : Nat) : Int)) 1
    rw [e1, e2]
    exact Heap.get?_push_size _ rfl
  · have e : b = (s.heap.push { cls := .type "range", data := .fields #[.int lo t, .int hi u, .int 1 v] }).objs.size := by simpa using hb
    subst e
    exact I1.fpOk (Nat.le_refl _) (I1.hok.fresh (Nat.le_refl _))
theorem pi_range1P {a : Expr} {ta : TA} {p pos : Pos} (hg : Gl X "range") (hm : X.mg "range" = none) (ha : PA X [a] ta) (hs : starEach [a] X.env = [(false, eval a X.env)] := by rfl) : PIP X tg (.Call (.Name "range" p) [a] [] pos) (iRng1 ta) := by
  refine ⟨fun pins s σ H R I h => ?_⟩
  refine Call_ (ld_blt I hg hm boot_range (PyProof.Rows.callWith_type1 (thn (ha.run pos pins s σ H _ I h) fun us s1 ⟨vs, H1, I1, r1, q1⟩ => ?_) hs rfl))
  obtain ⟨j, e, q1, q2, q⟩ := q1
  subst e
  cases r1 with
  | cons r rr =>
    cases rr
    obtain ⟨t, rfl⟩ := r
    exact call_range_1 (range_itP I1 (by omega) (by omega) q1 q2 (by simpa using q))
end
section
variable {X : Cx}
theorem lc_coreP {pins : List (Addr × Obj)} {s : Shared} {σ : St} {H : Hp} {Q : VK} {elt tg iter : Expr} {ifs : List Expr} {scope : Scope} {own : List (Str × Nat)} {pos pos' : Pos} {wi : TI} {g : TG} {tt : TT} {te : TE} {use : Option (Value → Sem Unit)} {Qf : Value → Shared → Prop}
    {p : Addr × Obj} (hp : p ∈ X.pn) (hot : L2H.Hot1 X.A p) (hN : X.N.Nodup) (I : Inv X pins σ H s) (hi : PIP X tg iter wi) (ok : BlkOk X.N X.env.scope scope own)
    (hg : ∀ (s : Shared) (H : Hp) (C : Addr) (cl : List (Str × Addr)) (fp : List Addr), PG (X.blk s H scope (compEnvC scope cl C X.env) fp) tg g) (ht : ∀ (s : Shared) (H : Hp) (C : Addr) (cl : List (Str × Addr)) (fp : List Addr), PTs (X.blk s H scope (compEnvC scope cl C X.env) fp) ifs tt)
    (he : ∀ (s : Shared) (H : Hp) (C : Addr) (cl : List (Str × Addr)) (fp : List Addr), PE (X.blk s H scope (compEnvC scope cl C X.env) fp) elt te) (hs : ∀ x, foldedSetIterable iter X.env x = pure x)
    (h : tLc wi g tt te (own.map (·.2)) σ H Q)
    (hRR : ∀ D C s' m H', Inv X pins σ H' s' → Q (.ref D) H' → s'.heap.Ns C m → FpOk X pins H' C → compPost (model X.prog X.w) X.A X.xe use Qf (.ref D) C (.ok .next) s') :
    wpAny (model X.prog X.w) X.A (comprehension (.ListComp elt [⟨tg, iter, ifs, 0⟩] scope pos) scope X.env pos' (newList []) false (eval iter X.env) use) Qf X.xe s := by
  have hfree : ∀ y ∈ scope.names, y.2 = .free → ∃ c, X.env.cells.lookup y.1 = some c := fun y hy e => by
    rcases ok.free y hy e with k | k
    · exact I.ok.has _ (.inl k)
    · exact I.ok.has _ (.inr k)
  refine wpAny_comprehension_free (use := use) rfl hs (closure_ok hfree) ok.kind (fun y hy e => by rw [ok.uniq y hy, e])
    (thn (hi.run pins s σ H _ I h) fun xv s1 hx => thn hx fun itv s2 h2 => ?_)
  obtain ⟨it, fp, tn, J, H2, e, I2, T, st2, f2, q⟩ := h2
  subst e
  refine wpAny_newObj_type (newEnv_comp ?_) (by show 0 ≤ sizeLine; decide)
  generalize hD : s2.heap.objs.size = D
  have hDn : H2 D = none := I2.hok.fresh (Nat.le_of_eq hD)
  obtain ⟨W, ⟨m0, w0⟩, turn⟩ := q D hDn
  -- the new list
  generalize hs3 : ({ s2 with heap := s2.heap.push { cls := .type "list", data := .seq ([] : List Value).toArray } } : Shared) = s3
  have I3 : Inv X pins σ (upd H2 D (.lst [])) s3 := by
    rw [← hs3]
    refine I2.laid (t' := s2.toks) (fun b o e => Heap.get?_push_of_some _ e) (Nat.le_of_eq hD) ⟨Nat.zero_le _, [], 0, .nil, ?_⟩
    rw [← hD]
    exact Heap.get?_push_size _ rfl
  have h3 : s3.heap = s2.heap.push { cls := .type "list", data := .seq ([] : List Value).toArray } := by rw [← hs3]
  have sz : ∀ b ∈ fp, b < s2.heap.objs.size := fun b hb => by
    obtain ⟨o, e, _⟩ := T.obj _ _ st2 b hb
    exact Heap.lt_size e
  have f3 : ∀ b ∈ fp, FpOk X pins (upd H2 D (.lst [])) b ∧ b < s3.heap.objs.size := fun b hb => by
    have hlt := sz b hb
    refine ⟨⟨?_, (f2 b hb).2⟩, by rw [h3, Heap.size_push]; exact Nat.lt_succ_of_lt hlt⟩
    rw [upd_ne (by rw [← hD]; exact Nat.ne_of_lt hlt)]
    exact (f2 b hb).1
  have st3 : tn 0 s3.heap := T.keep _ _ _ st2 fun b _ o e => by rw [h3]; exact Heap.get?_push_of_some _ e
  have I4 := block_start I3 ok hN f3
  have pg := hg s3 (upd H2 D (.lst [])) s3.heap.objs.size (cellsFrom (s3.heap.objs.size + 1) scope.names (cloFrom X.env.cells scope.names [])) fp
  have pt := ht s3 (upd H2 D (.lst [])) s3.heap.objs.size (cellsFrom (s3.heap.objs.size + 1) scope.names (cloFrom X.env.cells scope.names [])) fp
  have pe := he s3 (upd H2 D (.lst [])) s3.heap.objs.size (cellsFrom (s3.heap.objs.size + 1) scope.names (cloFrom X.env.cells scope.names [])) fp
  show codeAny _ _ (.compStart (.ListComp elt [⟨tg, iter, ifs, 0⟩] scope pos) 0 (.ref it) (.ref D) (compEnvC scope (cellsFrom (s3.heap.objs.size + 1) scope.names (cloFrom X.env.cells scope.names [])) s3.heap.objs.size X.env)) (compPost (model X.prog X.w) X.A X.xe use Qf (.ref D) s3.heap.objs.size) { s3 with heap := pushCells (s3.heap.push { cls := .type "dict", data := .dict #[] }) scope.names }
  have nfp : ∀ b ∈ fp, (upd H2 D (.lst [])) b = none := fun b hb => (f3 b hb).1.1
  generalize hce : compEnvC scope (cellsFrom (s3.heap.objs.size + 1) scope.names (cloFrom X.env.cells scope.names [])) s3.heap.objs.size X.env = ce at I4 pg pt pe ⊢
  have cL : ce.locals = s3.heap.objs.size := by subst hce; rfl
  generalize hH3 : upd H2 D (.lst []) = H3 at I3 I4 pg pt pe w0 nfp f3
  generalize hs4 : ({ s3 with heap := pushCells (s3.heap.push { cls := .type "dict", data := .dict #[] }) scope.names } : Shared) = s4 at I4 ⊢
  have st4 : tn 0 s4.heap := T.keep _ _ _ st3 fun b _ o e => by rw [← hs4]; exact pushCells_keeps _ _ _ _ (Heap.get?_push_of_some _ e)
  have stat : ∀ {σ' : St} {H' : Hp} {s' : Shared}, Inv (X.blk s3 H3 scope ce fp) [] σ' H' s' → (∀ b ∈ fp, H' b = none) → ∀ b ∈ fp, FpOk (X.blk s3 H3 scope ce fp) [] H' b := fun {σ' H' s'} I' hn b hb =>
    ⟨hn b hb, (I'.ok.exf b hb).1, I'.ok.exfs b hb, .inl hb, fun x c e => (I'.ok.exf b hb).2 x c e, fun p hp => absurd (show p ∈ ([] : List (Addr × Obj)) ++ [] from hp) (by simp)⟩
  have hotb : ∀ {σ' : St} {H' : Hp} {s' : Shared}, Inv (X.blk s3 H3 scope ce fp) [] σ' H' s' → ∃ x1, HotAt X.A x1 s'.heap := fun {σ' H' s'} I' => by
    have P1 := I3.pin p (List.mem_append_left _ hp)
    obtain ⟨hh, vs, hv, h2⟩ := hot
    refine ⟨p.1, hh, p.2, vs, I'.base.keep p.1 p.2 P1.1 P1.2.1 (fun hm => (List.mem_cons.mp (I3.stkSub p.1 hm)).elim P1.2.2.1 P1.2.2.2.1) (fun hm => ?_), hv, h2⟩
    exact (f3 p.1 hm).1.2.2.2.2.2 p (List.mem_append_left _ hp) rfl
  have loop : codeAny (model X.prog X.w) X.A (.compLoop (.ListComp elt [⟨tg, iter, ifs, 0⟩] scope pos) 0 (.ref it) (.ref D) ce) (compPost (model X.prog X.w) X.A X.xe use Qf (.ref D) s3.heap.objs.size) s4 := by
    refine compLoop_any (fun n s' => ∃ i H', Inv (X.blk s3 H3 scope ce fp) [] (wipe σ (own.map (·.2))) H' s' ∧ tn i s'.heap ∧ (∀ b ∈ fp, H' b = none) ∧ W i n H') ?_ m0 ⟨0, H3, I4, st4, nfp, w0⟩
    rintro n s5 ⟨i, H5, I5, st5, n5, w5⟩
    rcases turn i n H5 w5 with ⟨stop, qq⟩ | ⟨go, Nx, hNx, step⟩
    · have td := T.done (X.blk s3 H3 scope ce fp) rfl rfl rfl i [] s5 _ H5 (fun _ _ => False) I5 (hotb I5) (stat I5 n5) st5 stop
      refine thnF td fun r s6 ⟨hr, I6⟩ => ?_
      subst hr
      -- back in the def's context
      have I7 : Inv X pins σ H5 s6 := I3.call' (ch := fp) I6.os I6.base I6.hok I6.bare fun b hb => ⟨(f3 b hb).1.2.2.2.1, (f3 b hb).1.2.1, (f3 b hb).1.2.2.2.2.1, (f3 b hb).1.2.2.2.2.2⟩
      have nC : H5 s3.heap.objs.size = none := by
        have z : H5 ce.locals = none := I6.free
        rw [cL] at z
        exact z
      obtain ⟨m, hn, _⟩ := I6.loc
      have hn : s6.heap.Ns ce.locals m := hn
      rw [cL] at hn
      exact hRR D s3.heap.objs.size s6 m H5 I7 qq hn (I3.fpOk (Nat.le_refl _) nC)
    · have ti := T.item (X.blk s3 H3 scope ce fp) rfl rfl rfl i [] s5 _ H5 (fun _ _ => False) I5 (stat I5 n5) st5 go
      refine thnF ti fun r s6 ⟨u, hr, h6⟩ => ?_
      subst hr
      refine thnF h6 fun _ s7 ⟨x, H7, I7, r7, y7, st7, n7⟩ => ?_
      have I7' := I7.pinned (stat I7 n7) (T.obj _ _ st7)
      refine thnF (pg.run _ s7 _ H7 x u _ I7' r7 (step x H7 y7)) fun _ s8 ⟨σ8, H8, I8, hw8, q8⟩ => ?_
      refine thnF (pt.run _ s8 σ8 H8 _ I8 q8) fun b s9 ⟨H9, I9, q9⟩ => ?_
      -- the turn's end
      have fin : ∀ {s' : Shared} {H' : Hp}, Inv (X.blk s3 H3 scope ce fp) ([] ++ pinsAt fp s7.heap) σ8 H' s' → Nx H' → ∃ m, m < n ∧ ∃ i H', Inv (X.blk s3 H3 scope ce fp) [] (wipe σ (own.map (·.2))) H' s' ∧ tn i s'.heap ∧ (∀ b ∈ fp, H' b = none) ∧ W i m H' := fun {s' H'} I' nx => by
        obtain ⟨m', hm, w'⟩ := hNx H' nx
        have pin' : ∀ b ∈ fp, ∀ o, s7.heap.get? b = some o → s'.heap.get? b = some o ∧ H' b = none := fun b hb o e =>
          let z := I'.pin (b, o) (List.mem_append_right _ (List.mem_append_right _ (mem_pinsAt hb e)))
          ⟨z.1, z.2.1⟩
        have hl : (wipe σ (own.map (·.2))).length = σ8.length := by rw [← hw8, wipe_length]
        refine ⟨m', hm, i + 1, H', (I'.unpinned (pins := [])).weak hl (fun j v e => ?_), T.keep _ _ _ st7 fun b hb o e => (pin' b hb o e).1, fun b hb => ?_, w'⟩
        · rw [← hw8] at e
          exact (wipe_some e).1
        · obtain ⟨o, e, _⟩ := T.obj _ _ st7 b hb
          exact (pin' b hb o e).2
      cases b with
      | false =>
        simp only [Bool.false_eq_true, if_false] at q9 ⊢
        exact fin I9 q9
      | true =>
        simp only [if_true] at q9 ⊢
        refine thnF (pe.run _ s9 σ8 H9 _ I9 q9) fun z s10 ⟨yv, H10, I10, r10, acc, hD10, hz10, nx⟩ => ?_
        exact app_ok (X := X.blk s3 H3 scope ce fp) I10 hD10 hz10 r10 fun s11 I11 => fin I11 nx
  exact codeAny_compStart_list loop (T.self X.A 0 _ _ _ st4 loop)
/-- as a value -/
theorem pe_lcP {elt tg iter : Expr} {ifs : List Expr} {scope : Scope} {own : List (Str × Nat)} {pos : Pos} {wi : TI} {g : TG} {tt : TT} {te : TE} {p : Addr × Obj} (hp : p ∈ X.pn) (hot : L2H.Hot1 X.A p) (hN : X.N.Nodup) (hi : PIP X tg iter wi) (ok : BlkOk X.N X.env.scope scope own)
    (hg : ∀ (s : Shared) (H : Hp) (C : Addr) (cl : List (Str × Addr)) (fp : List Addr), PG (X.blk s H scope (compEnvC scope cl C X.env) fp) tg g) (ht : ∀ (s : Shared) (H : Hp) (C : Addr) (cl : List (Str × Addr)) (fp : List Addr), PTs (X.blk s H scope (compEnvC scope cl C X.env) fp) ifs tt)
    (he : ∀ (s : Shared) (H : Hp) (C : Addr) (cl : List (Str × Addr)) (fp : List Addr), PE (X.blk s H scope (compEnvC scope cl C X.env) fp) elt te) (hs : ∀ x, foldedSetIterable iter X.env x = pure x := by intro _; rfl) :
    PE X (.ListComp elt [⟨tg, iter, ifs, 0⟩] scope pos) (tLc wi g tt te (own.map (·.2))) := by
  refine ⟨fun pins s σ H Q I h => ?_⟩
  rw [eval_ListComp]
  refine lc_coreP hp hot hN I hi ok hg ht he hs h fun D C s' m H' I' q hn f => ⟨m, hn, fun h'' sb => ?_⟩
  obtain ⟨f0, f1, f2, f3, f4, f5⟩ := f
  exact ⟨.ref D, H', I'.turned (t' := s'.toks) (fun b o hb e => (sb.2 b hb).trans e) f0 f1 f3 f4 f5, rfl, q⟩
end
end SK
set_option maxHeartbeats 8000000
/-! SkN6: _law_class. Printed by gen_class.py. -/
namespace SK
open PySem PySem.Spec PyProof.Rows L2 L2H HotX
/-- the answers of the isinstances, and the word -/
inductive ClsW : Addr → List Bool → Str → Prop
  | cUnknownName : ClsW 292 [false, false, false, false, false, false, false, false, false, false, false, false, true, false, false, false, false, false, false, false, false, true, false] "unknown"
  | cInUse : ClsW 311 [false, false, false, false, false, false, false, false, false, false, false, false, false, true, false, false, false, false, false, false, false, true, false] "use"
  | cInvalidIndex : ClsW 165 [false, false, false, false, false, false, true, false, false, false, false, false, false, false, false, false, false, false, false, false, true, false, false] "index"
  | cBroken : ClsW 431 [false, false, false, false, false, false, false, false, false, false, false, false, false, false, false, false, false, false, false, true, false, false, true] "broken"
  | cTooGreat : ClsW 400 [false, false, false, false, false, false, false, false, false, false, false, false, false, false, false, false, false, true, false, false, false, false, true] "great"
  | cNothingToUndo : ClsW 412 [false, false, false, false, false, false, false, false, false, false, false, false, false, false, false, false, false, false, true, false, false, false, true] "nothing"
abbrev chs : List Addr := [51, 70, 89, 108, 127, 146, 165, 184, 203, 222, 241, 260, 292, 311, 343, 362, 381, 400, 412, 431, 31, 272, 323]
section
variable {P : Program} {w : World} {K : PySem.W.Frag} {mg : Str → Option Value} {base : Heap}
def spClass (K : PySem.W.Frag) : Addr × Obj → Sp := fun p vs H Q _ => ∃ D d bs word, vs = [.ref p.1] ∧ ExP K p D d H ∧ chs.map (fun C => PySem.W.kitOne K (.ref D) (.ref C)) = bs.map some ∧ ClsW D bs word ∧ ∀ H', K0 H H' → Q (.str word) H'
theorem sc94 : FnScope ["_law_e", "_law_sorts", "_law_words", "_law_bases", "_law_at", "_law_base", "_law_k"] ["_law_e"] (defScope (top 94)) := ⟨rfl, rfl, rfl, by decide +kernel, rfl, by decide +kernel, by decide +kernel⟩
theorem c_isP {X : Cx} {e : Expr} {es : List Expr} {t : TA} {p' pos : Pos} {p : Addr × Obj} (T : Tx X.K X.mg) (hp : p ∈ X.pn) (ha : PA X (e :: es) t) (hg : Gl X "isinstance" := by rfl)
    (he : starEach (e :: es) X.env = (false, eval e X.env) :: starEach es X.env := by rfl) (hpl : (backTo pos (starEach es X.env)).any (·.1) = false := by rfl) : PE X (.Call (.Name "isinstance" p') (e :: es) [] pos) (tCB (rIsP X.K p) t) :=
  pe_callB (call_isP hp) hg T.bisinstance bt_isinstance ha (by decide) (by decide) he hpl
theorem three {i : Nat} (h : i < 3) : i = 0 ∨ i = 1 ∨ i = 2 := by omega
theorem no_ahead {ys : List V} {y : V} {j : Nat} (h : ((ys.take j).all fun z => !eqV z y) = true) : ∀ (m : Nat) (z : V), m < j → ys[m]? = some z → eqV z y = false := fun m z hm hz => by
  have hz2 : (ys.take j)[m]? = some z := by rw [List.getElem?_take_of_lt hm]; exact hz
  have := List.all_eq_true.mp h z (List.mem_of_getElem? hz2)
  simpa using this
theorem cls_el {σ : St} {b i : Int} {H : Hp} {R : V → Hp → Prop} (hl : σ.length = 7) (h5 : σ[5]? = some (some (.int b))) (hR : R (.bl (decide (V.int i = V.int b))) H) :
    gName 6 (.int i) (wipe σ [6]) H fun σ2 H2 => wipe σ2 [6] = wipe σ [6] ∧ tOp rEq (tVar 6) (tVar 5) σ2 H2 R := by
  have e : ((σ.set 6 none).set 6 (some (V.int i))) = σ.set 6 (some (V.int i)) := List.set_set ..
  refine ⟨?_, .int i, ?_, .int b, ?_, rfl, hR⟩
  · show (((σ.set 6 none).set 6 (some (V.int i))).set 6 none) = σ.set 6 none
    rw [List.set_set, List.set_set]
  · show ((σ.set 6 none).set 6 (some (V.int i)))[6]? = _
    rw [e, List.getElem?_set_self (by omega)]
  · show ((σ.set 6 none).set 6 (some (V.int i)))[5]? = _
    rw [e, List.getElem?_set_ne (by omega)]
    exact h5
theorem cls_eqt : eqV (V.bl true) (V.bl true) = true := by decide +kernel
theorem cls_base {σ : St} {H : Hp} {Q : VK} {j bs : Nat} (hσ : σ[4]? = some (some (.int (j : Nat)))) (h : (j < 12 ∧ bs = 0) ∨ (¬ j < 12 ∧ j < 14 ∧ bs = 1) ∨ (¬ j < 12 ∧ ¬ j < 14 ∧ bs = 2)) (q : Q (.int (bs : Nat)) H) :
    tIf (tTest (tOp (rI0 fun i j => .bl (decide (i < j))) (tVar 4) (tC (.int 12)))) (tC (.int 0)) (tIf (tTest (tOp (rI0 fun i j => .bl (decide (i < j))) (tVar 4) (tC (.int 14)))) (tC (.int 1)) (tC (.int 2))) σ H Q := by
  rcases h with ⟨h1, rfl⟩ | ⟨h1, h2, rfl⟩ | ⟨h1, h2, rfl⟩
  · exact ⟨_, hσ, _, _, rfl, rfl, true, congrArg V.bl (decide_eq_true (by omega)), ift rfl q⟩
  · exact ⟨_, hσ, _, _, rfl, rfl, false, congrArg V.bl (decide_eq_false (by omega)), iff_ rfl ⟨_, hσ, _, _, rfl, rfl, true, congrArg V.bl (decide_eq_true (by omega)), ift rfl q⟩⟩
  · exact ⟨_, hσ, _, _, rfl, rfl, false, congrArg V.bl (decide_eq_false (by omega)), iff_ rfl ⟨_, hσ, _, _, rfl, rfl, false, congrArg V.bl (decide_eq_false (by omega)), iff_ rfl q⟩⟩
theorem cls_ret {K : PySem.W.Frag} {σ : St} {H : Hp} {Q : VK} {a2 a3 : Addr} {ws : List V} {j bs : Nat} {word : Str} (hl : σ.length = 7) (h2 : σ[2]? = some (some (.ref a2))) (h3 : σ[3]? = some (some (.ref a3))) (h4 : σ[4]? = some (some (.int (j : Nat)))) (h5 : σ[5]? = some (some (.int (bs : Nat))))
    (ew : H a2 = some (.lst ws)) (e3 : H a3 = some (.lst [.bl (decide (0 = bs)), .bl (decide (1 = bs)), .bl (decide (2 = bs))])) (hw : ws[j]? = some (.str word)) (h : (j < 12 ∧ bs = 0) ∨ (¬ j < 12 ∧ j < 14 ∧ bs = 1) ∨ (¬ j < 12 ∧ ¬ j < 14 ∧ bs = 2)) (q : ∀ H', K0 H H' → Q (.str word) H') :
    tIf (tTest (tOp (rEqD K) (tVar 3) (tLc (iRng1 (tCons (tC (.int 3)) tNil)) (gName 6) tYes (tOp rEq (tVar 6) (tVar 5)) [6]))) (tOp (rIxL K) (tVar 2) (tVar 4)) (fun _ _ _ => False) σ H Q := by
  have hb : bs = 0 ∨ bs = 1 ∨ bs = 2 := by omega
  refine ⟨_, h3, 3, rfl, by omega, by omega, fun D2 hD2 => lc_map walk_range [.bl (decide (0 = bs)), .bl (decide (1 = bs)), .bl (decide (2 = bs))] rfl (by rw [sizeLine_eq]; decide) hD2 (fun _ _ => trivial) (fun i x Ha Hb R hi kk y hR => ?_) fun Hc kc ec => ?_⟩
  · obtain ⟨eh, rfl⟩ := y
    obtain rfl : Ha = Hb := eh.symm
    refine cls_el hl h5 (hR _ _ (Kp.refl _) ?_)
    have hi3 : i < 3 := hi
    have key : ∀ m : Nat, decide (m = bs) = decide (V.int (0 + (m : Nat)) = V.int (bs : Nat)) := fun m => decide_eq_decide.mpr ⟨fun z => by rw [z, Int.zero_add], fun z => by have := V.int.inj z; omega⟩
    rcases three hi3 with rfl | rfl | rfl
    · exact congrArg (fun b => some (V.bl b)) (key 0)
    · exact congrArg (fun b => some (V.bl b)) (key 1)
    · exact congrArg (fun b => some (V.bl b)) (key 2)
  · refine ⟨.list [.bool (decide (0 = bs)), .bool (decide (1 = bs)), .bool (decide (2 = bs))], .list [.bool (decide (0 = bs)), .bool (decide (1 = bs)), .bool (decide (2 = bs))], .lst (SqL.of (kc.at0 e3)) (.cons (.bl _) (.cons (.bl _) (.cons (.bl _) .nil))), .lst (SqL.of ec) (.cons (.bl _) (.cons (.bl _) (.cons (.bl _) .nil))), rfl, rfl, true, congrArg V.bl ?_, ift rfl ?_⟩
    · rcases hb with rfl | rfl | rfl <;> decide +kernel
    · refine ⟨_, h2, _, h4, a2, ws, (j : Nat), .str word, rfl, rfl, SqL.of (kc.at0 ew), atI_nat hw, q _ kc⟩
theorem hu64H {k : Nat} {A : Around} (hr : L2H.RoomH k A) : A.units + 64 < cLine := by
  have := hr.un
  omega
theorem k_class (T : Tx K mg) : FnGP P w K mg base (L2N.CX P w) 1 1192 (spClass K) := by
  obtain ⟨fd, F⟩ := T.f_law_class
  refine fngp_of F sc94 (F.bindsN fun _ _ _ _ _ _ us hl => match us, hl with | [_], _ => rfl) (fun p vs H Q E h => ?_) (fun cdv A outer s H vs Q E p hot hg hr h => ?_)
  · obtain ⟨_, _, _, _, rfl, _⟩ := h
    rfl
  refine ⟨_, pss_cons (ps_set (i := 1) sc94.nd rfl (Or.inl rfl) (pe_lst (pa_cons (c_isP (p := p) T (List.mem_cons_self) (pa_cons (pv 0) (pa_cons (pe_glob (v := .ref 51) rfl T.gInvalidText rfl) pa_nil))) (pa_cons (c_isP (p := p) T (List.mem_cons_self) (pa_cons (pv 0) (pa_cons (pe_glob (v := .ref 70) rfl T.gInvalidName rfl) pa_nil))) (pa_cons (c_isP (p := p) T (List.mem_cons_self) (pa_cons (pv 0) (pa_cons (pe_glob (v := .ref 89) rfl T.gInvalidKind rfl) pa_nil))) pa_nil)))))
    (pss_cons (ps_set (i := 1) sc94.nd rfl (Or.inl rfl) (pe_op op_cat (pv 1) (pe_lst (pa_cons (c_isP (p := p) T (List.mem_cons_self) (pa_cons (pv 0) (pa_cons (pe_glob (v := .ref 108) rfl T.gInvalidMove rfl) pa_nil))) (pa_cons (c_isP (p := p) T (List.mem_cons_self) (pa_cons (pv 0) (pa_cons (pe_glob (v := .ref 127) rfl T.gInvalidNumber rfl) pa_nil))) (pa_cons (c_isP (p := p) T (List.mem_cons_self) (pa_cons (pv 0) (pa_cons (pe_glob (v := .ref 146) rfl T.gInvalidWish rfl) pa_nil))) pa_nil))))))
    (pss_cons (ps_set (i := 1) sc94.nd rfl (Or.inl rfl) (pe_op op_cat (pv 1) (pe_lst (pa_cons (c_isP (p := p) T (List.mem_cons_self) (pa_cons (pv 0) (pa_cons (pe_glob (v := .ref 165) rfl T.gInvalidIndex rfl) pa_nil))) (pa_cons (c_isP (p := p) T (List.mem_cons_self) (pa_cons (pv 0) (pa_cons (pe_glob (v := .ref 184) rfl T.gNotYard rfl) pa_nil))) (pa_cons (c_isP (p := p) T (List.mem_cons_self) (pa_cons (pv 0) (pa_cons (pe_glob (v := .ref 203) rfl T.gInvalidKinds rfl) pa_nil))) pa_nil))))))
    (pss_cons (ps_set (i := 1) sc94.nd rfl (Or.inl rfl) (pe_op op_cat (pv 1) (pe_lst (pa_cons (c_isP (p := p) T (List.mem_cons_self) (pa_cons (pv 0) (pa_cons (pe_glob (v := .ref 222) rfl T.gInvalidRows rfl) pa_nil))) (pa_cons (c_isP (p := p) T (List.mem_cons_self) (pa_cons (pv 0) (pa_cons (pe_glob (v := .ref 241) rfl T.gInvalidPlan rfl) pa_nil))) (pa_cons (c_isP (p := p) T (List.mem_cons_self) (pa_cons (pv 0) (pa_cons (pe_glob (v := .ref 260) rfl T.gInvalidChanges rfl) pa_nil))) pa_nil))))))
    (pss_cons (ps_set (i := 1) sc94.nd rfl (Or.inl rfl) (pe_op op_cat (pv 1) (pe_lst (pa_cons (c_isP (p := p) T (List.mem_cons_self) (pa_cons (pv 0) (pa_cons (pe_glob (v := .ref 292) rfl T.gUnknownName rfl) pa_nil))) (pa_cons (c_isP (p := p) T (List.mem_cons_self) (pa_cons (pv 0) (pa_cons (pe_glob (v := .ref 311) rfl T.gInUse rfl) pa_nil))) (pa_cons (c_isP (p := p) T (List.mem_cons_self) (pa_cons (pv 0) (pa_cons (pe_glob (v := .ref 343) rfl T.gUnbalanced rfl) pa_nil))) pa_nil))))))
    (pss_cons (ps_set (i := 1) sc94.nd rfl (Or.inl rfl) (pe_op op_cat (pv 1) (pe_lst (pa_cons (c_isP (p := p) T (List.mem_cons_self) (pa_cons (pv 0) (pa_cons (pe_glob (v := .ref 362) rfl T.gNotThere rfl) pa_nil))) (pa_cons (c_isP (p := p) T (List.mem_cons_self) (pa_cons (pv 0) (pa_cons (pe_glob (v := .ref 381) rfl T.gOtherKinds rfl) pa_nil))) (pa_cons (c_isP (p := p) T (List.mem_cons_self) (pa_cons (pv 0) (pa_cons (pe_glob (v := .ref 400) rfl T.gTooGreat rfl) pa_nil))) pa_nil))))))
    (pss_cons (ps_set (i := 1) sc94.nd rfl (Or.inl rfl) (pe_op op_cat (pv 1) (pe_lst (pa_cons (c_isP (p := p) T (List.mem_cons_self) (pa_cons (pv 0) (pa_cons (pe_glob (v := .ref 412) rfl T.gNothingToUndo rfl) pa_nil))) (pa_cons (c_isP (p := p) T (List.mem_cons_self) (pa_cons (pv 0) (pa_cons (pe_glob (v := .ref 431) rfl T.gBroken rfl) pa_nil))) pa_nil)))))
    (pss_cons (ps_set (i := 2) sc94.nd rfl (Or.inl rfl) (pe_lst (pa_cons pe_str (pa_cons pe_str (pa_cons pe_str (pa_cons pe_str (pa_cons pe_str (pa_cons pe_str (pa_cons pe_str (pa_cons pe_str (pa_cons pe_str (pa_cons pe_str (pa_cons pe_str (pa_cons pe_str pa_nil))))))))))))))
    (pss_cons (ps_set (i := 2) sc94.nd rfl (Or.inl rfl) (pe_op op_cat (pv 2) (pe_lst (pa_cons pe_str (pa_cons pe_str (pa_cons pe_str (pa_cons pe_str (pa_cons pe_str (pa_cons pe_str (pa_cons pe_str (pa_cons pe_str pa_nil)))))))))))
    (pss_cons (ps_set (i := 3) sc94.nd rfl (Or.inl rfl) (pe_lst (pa_cons (c_isP (p := p) T (List.mem_cons_self) (pa_cons (pv 0) (pa_cons (pe_glob (v := .ref 31) rfl T.gWrongValue rfl) pa_nil))) (pa_cons (c_isP (p := p) T (List.mem_cons_self) (pa_cons (pv 0) (pa_cons (pe_glob (v := .ref 272) rfl T.gWrongName rfl) pa_nil))) (pa_cons (c_isP (p := p) T (List.mem_cons_self) (pa_cons (pv 0) (pa_cons (pe_glob (v := .ref 323) rfl T.gNotPossible rfl) pa_nil))) pa_nil)))))
    (pss_cons (ps_if (pt_cmpR op_ne (pe_bm PySem.F.plainAttrs_list PySem.F.slot_list_count PySem.F.type_list_count mt_fcount (pv 1) (pa_cons pe_bl pa_nil)) pe_int (nomark _)) (pss_one ps_never) pss_nil)
    (pss_cons (ps_set (i := 4) sc94.nd rfl (Or.inl rfl) (pe_bm PySem.F.plainAttrs_list PySem.F.slot_list_index PySem.F.type_list_index mt_index (pv 1) (pa_cons pe_bl pa_nil)))
    (pss_cons (ps_set (i := 5) sc94.nd rfl (Or.inr rfl) (pe_ifExp (pt_cmpR op_lt (pv 4) pe_int (nomark _)) pe_int (pe_ifExp (pt_cmpR op_lt (pv 4) pe_int (nomark _)) pe_int pe_int)))
    (pss_one (ps_ret (pe_ifExp (pt_cmpR (op_eqD (hu64H hr)) (pv 3) (pe_lcP (own := [("_law_k", 6)]) (g := gName 6) (tt := tYes) (p := p) List.mem_cons_self hot sc94.nd (pi_range1P rfl T.brange (pa_cons pe_int pa_nil)) (blkOk_by (N := ["_law_e", "_law_sorts", "_law_words", "_law_bases", "_law_at", "_law_base", "_law_k"]) (sc := defScope (top 94)) (by decide +kernel)) (fun _ _ _ _ _ => pg_name (i := 6) sc94.nd rfl (Or.inl rfl)) (fun _ _ _ _ _ => pts_nil) (fun _ _ _ _ _ => pe_cmpR op_eq (pv 6) (pv 5) (nomark _))) (nomark _)) (pe_ix ix_list (pv 2) (pv 4) (fun _ _ => rfl)) pe_never))))))))))))))), ?_⟩
  obtain ⟨D, d, bs, word, rfl, hE, hk, hw, q⟩ := h
  obtain ⟨b0, b1, b2, b3, b4, b5, b6, b7, b8, b9, b10, b11, b12, b13, b14, b15, b16, b17, b18, b19, b20, b21, b22, rfl⟩ : ∃ b0 b1 b2 b3 b4 b5 b6 b7 b8 b9 b10 b11 b12 b13 b14 b15 b16 b17 b18 b19 b20 b21 b22 : Bool, bs = [b0, b1, b2, b3, b4, b5, b6, b7, b8, b9, b10, b11, b12, b13, b14, b15, b16, b17, b18, b19, b20, b21, b22] := by cases hw <;> exact ⟨_, _, _, _, _, _, _, _, _, _, _, _, _, _, _, _, _, _, _, _, _, _, _, rfl⟩
  simp only [chs, List.map_cons, List.map_nil, List.cons.injEq] at hk
  obtain ⟨f0, f1, f2, f3, f4, f5, f6, f7, f8, f9, f10, f11, f12, f13, f14, f15, f16, f17, f18, f19, f20, f21, f22, _⟩ := hk
  have sz : ∀ n : Nat, n ≤ 100 → n ≤ sizeLine := fun n h => by rw [sizeLine_eq]; omega
  refine ⟨_, rfl, D, d, _, _, b0, rfl, hE, .own _, f0, _, rfl, D, d, _, _, b1, rfl, hE, .own _, f1, _, rfl, D, d, _, _, b2, rfl, hE, .own _, f2, sz _ (Nat.le_of_ble_eq_true rfl), fun a1 n1 => ?_⟩
  have e1 : upd H a1 (.lst [V.bl b0, V.bl b1, V.bl b2]) a1 = some (.lst [V.bl b0, V.bl b1, V.bl b2]) := upd_same
  have k1 : K0 H (upd H a1 (.lst [V.bl b0, V.bl b1, V.bl b2])) := kp_new n1
  generalize upd H a1 (.lst [V.bl b0, V.bl b1, V.bl b2]) = H1 at e1 k1 ⊢
  have K1 := (Kp.refl H).trans k1
  refine ⟨_, rfl, _, rfl, D, d, _, _, b3, rfl, hE.kp (K1), .own _, f3, _, rfl, D, d, _, _, b4, rfl, hE.kp (K1), .own _, f4, _, rfl, D, d, _, _, b5, rfl, hE.kp (K1), .own _, f5, sz _ (Nat.le_of_ble_eq_true rfl), fun a2 n2 => ?_⟩
  have e2 : upd H1 a2 (.lst [V.bl b3, V.bl b4, V.bl b5]) a2 = some (.lst [V.bl b3, V.bl b4, V.bl b5]) := upd_same
  have k2 : K0 H1 (upd H1 a2 (.lst [V.bl b3, V.bl b4, V.bl b5])) := kp_new n2
  generalize upd H1 a2 (.lst [V.bl b3, V.bl b4, V.bl b5]) = H2 at e2 k2 ⊢
  have K2 := (K1).trans k2
  refine ⟨a1, a2, _, _, rfl, rfl, k2.at0 e1, e2, sz _ (Nat.le_of_ble_eq_true rfl), fun a3 n3 => ?_⟩
  have e3 : upd H2 a3 (.lst ([V.bl b0, V.bl b1, V.bl b2] ++ [V.bl b3, V.bl b4, V.bl b5])) a3 = some (.lst [V.bl b0, V.bl b1, V.bl b2, V.bl b3, V.bl b4, V.bl b5]) := upd_same
  have k3 : K0 H2 (upd H2 a3 (.lst ([V.bl b0, V.bl b1, V.bl b2] ++ [V.bl b3, V.bl b4, V.bl b5]))) := kp_new n3
  generalize upd H2 a3 (.lst ([V.bl b0, V.bl b1, V.bl b2] ++ [V.bl b3, V.bl b4, V.bl b5])) = H3 at e3 k3 ⊢
  have K3 := (K2).trans k3
  refine ⟨_, rfl, _, rfl, D, d, _, _, b6, rfl, hE.kp (K3), .own _, f6, _, rfl, D, d, _, _, b7, rfl, hE.kp (K3), .own _, f7, _, rfl, D, d, _, _, b8, rfl, hE.kp (K3), .own _, f8, sz _ (Nat.le_of_ble_eq_true rfl), fun a4 n4 => ?_⟩
  have e4 : upd H3 a4 (.lst [V.bl b6, V.bl b7, V.bl b8]) a4 = some (.lst [V.bl b6, V.bl b7, V.bl b8]) := upd_same
  have k4 : K0 H3 (upd H3 a4 (.lst [V.bl b6, V.bl b7, V.bl b8])) := kp_new n4
  generalize upd H3 a4 (.lst [V.bl b6, V.bl b7, V.bl b8]) = H4 at e4 k4 ⊢
  have K4 := (K3).trans k4
  refine ⟨a3, a4, _, _, rfl, rfl, k4.at0 e3, e4, sz _ (Nat.le_of_ble_eq_true rfl), fun a5 n5 => ?_⟩
  have e5 : upd H4 a5 (.lst ([V.bl b0, V.bl b1, V.bl b2, V.bl b3, V.bl b4, V.bl b5] ++ [V.bl b6, V.bl b7, V.bl b8])) a5 = some (.lst [V.bl b0, V.bl b1, V.bl b2, V.bl b3, V.bl b4, V.bl b5, V.bl b6, V.bl b7, V.bl b8]) := upd_same
  have k5 : K0 H4 (upd H4 a5 (.lst ([V.bl b0, V.bl b1, V.bl b2, V.bl b3, V.bl b4, V.bl b5] ++ [V.bl b6, V.bl b7, V.bl b8]))) := kp_new n5
  generalize upd H4 a5 (.lst ([V.bl b0, V.bl b1, V.bl b2, V.bl b3, V.bl b4, V.bl b5] ++ [V.bl b6, V.bl b7, V.bl b8])) = H5 at e5 k5 ⊢
  have K5 := (K4).trans k5
  refine ⟨_, rfl, _, rfl, D, d, _, _, b9, rfl, hE.kp (K5), .own _, f9, _, rfl, D, d, _, _, b10, rfl, hE.kp (K5), .own _, f10, _, rfl, D, d, _, _, b11, rfl, hE.kp (K5), .own _, f11, sz _ (Nat.le_of_ble_eq_true rfl), fun a6 n6 => ?_⟩
  have e6 : upd H5 a6 (.lst [V.bl b9, V.bl b10, V.bl b11]) a6 = some (.lst [V.bl b9, V.bl b10, V.bl b11]) := upd_same
  have k6 : K0 H5 (upd H5 a6 (.lst [V.bl b9, V.bl b10, V.bl b11])) := kp_new n6
  generalize upd H5 a6 (.lst [V.bl b9, V.bl b10, V.bl b11]) = H6 at e6 k6 ⊢
  have K6 := (K5).trans k6
  refine ⟨a5, a6, _, _, rfl, rfl, k6.at0 e5, e6, sz _ (Nat.le_of_ble_eq_true rfl), fun a7 n7 => ?_⟩
  have e7 : upd H6 a7 (.lst ([V.bl b0, V.bl b1, V.bl b2, V.bl b3, V.bl b4, V.bl b5, V.bl b6, V.bl b7, V.bl b8] ++ [V.bl b9, V.bl b10, V.bl b11])) a7 = some (.lst [V.bl b0, V.bl b1, V.bl b2, V.bl b3, V.bl b4, V.bl b5, V.bl b6, V.bl b7, V.bl b8, V.bl b9, V.bl b10, V.bl b11]) := upd_same
  have k7 : K0 H6 (upd H6 a7 (.lst ([V.bl b0, V.bl b1, V.bl b2, V.bl b3, V.bl b4, V.bl b5, V.bl b6, V.bl b7, V.bl b8] ++ [V.bl b9, V.bl b10, V.bl b11]))) := kp_new n7
  generalize upd H6 a7 (.lst ([V.bl b0, V.bl b1, V.bl b2, V.bl b3, V.bl b4, V.bl b5, V.bl b6, V.bl b7, V.bl b8] ++ [V.bl b9, V.bl b10, V.bl b11])) = H7 at e7 k7 ⊢
  have K7 := (K6).trans k7
  refine ⟨_, rfl, _, rfl, D, d, _, _, b12, rfl, hE.kp (K7), .own _, f12, _, rfl, D, d, _, _, b13, rfl, hE.kp (K7), .own _, f13, _, rfl, D, d, _, _, b14, rfl, hE.kp (K7), .own _, f14, sz _ (Nat.le_of_ble_eq_true rfl), fun a8 n8 => ?_⟩
  have e8 : upd H7 a8 (.lst [V.bl b12, V.bl b13, V.bl b14]) a8 = some (.lst [V.bl b12, V.bl b13, V.bl b14]) := upd_same
  have k8 : K0 H7 (upd H7 a8 (.lst [V.bl b12, V.bl b13, V.bl b14])) := kp_new n8
  generalize upd H7 a8 (.lst [V.bl b12, V.bl b13, V.bl b14]) = H8 at e8 k8 ⊢
  have K8 := (K7).trans k8
  refine ⟨a7, a8, _, _, rfl, rfl, k8.at0 e7, e8, sz _ (Nat.le_of_ble_eq_true rfl), fun a9 n9 => ?_⟩
  have e9 : upd H8 a9 (.lst ([V.bl b0, V.bl b1, V.bl b2, V.bl b3, V.bl b4, V.bl b5, V.bl b6, V.bl b7, V.bl b8, V.bl b9, V.bl b10, V.bl b11] ++ [V.bl b12, V.bl b13, V.bl b14])) a9 = some (.lst [V.bl b0, V.bl b1, V.bl b2, V.bl b3, V.bl b4, V.bl b5, V.bl b6, V.bl b7, V.bl b8, V.bl b9, V.bl b10, V.bl b11, V.bl b12, V.bl b13, V.bl b14]) := upd_same
  have k9 : K0 H8 (upd H8 a9 (.lst ([V.bl b0, V.bl b1, V.bl b2, V.bl b3, V.bl b4, V.bl b5, V.bl b6, V.bl b7, V.bl b8, V.bl b9, V.bl b10, V.bl b11] ++ [V.bl b12, V.bl b13, V.bl b14]))) := kp_new n9
  generalize upd H8 a9 (.lst ([V.bl b0, V.bl b1, V.bl b2, V.bl b3, V.bl b4, V.bl b5, V.bl b6, V.bl b7, V.bl b8, V.bl b9, V.bl b10, V.bl b11] ++ [V.bl b12, V.bl b13, V.bl b14])) = H9 at e9 k9 ⊢
  have K9 := (K8).trans k9
  refine ⟨_, rfl, _, rfl, D, d, _, _, b15, rfl, hE.kp (K9), .own _, f15, _, rfl, D, d, _, _, b16, rfl, hE.kp (K9), .own _, f16, _, rfl, D, d, _, _, b17, rfl, hE.kp (K9), .own _, f17, sz _ (Nat.le_of_ble_eq_true rfl), fun a10 n10 => ?_⟩
  have e10 : upd H9 a10 (.lst [V.bl b15, V.bl b16, V.bl b17]) a10 = some (.lst [V.bl b15, V.bl b16, V.bl b17]) := upd_same
  have k10 : K0 H9 (upd H9 a10 (.lst [V.bl b15, V.bl b16, V.bl b17])) := kp_new n10
  generalize upd H9 a10 (.lst [V.bl b15, V.bl b16, V.bl b17]) = H10 at e10 k10 ⊢
  have K10 := (K9).trans k10
  refine ⟨a9, a10, _, _, rfl, rfl, k10.at0 e9, e10, sz _ (Nat.le_of_ble_eq_true rfl), fun a11 n11 => ?_⟩
  have e11 : upd H10 a11 (.lst ([V.bl b0, V.bl b1, V.bl b2, V.bl b3, V.bl b4, V.bl b5, V.bl b6, V.bl b7, V.bl b8, V.bl b9, V.bl b10, V.bl b11, V.bl b12, V.bl b13, V.bl b14] ++ [V.bl b15, V.bl b16, V.bl b17])) a11 = some (.lst [V.bl b0, V.bl b1, V.bl b2, V.bl b3, V.bl b4, V.bl b5, V.bl b6, V.bl b7, V.bl b8, V.bl b9, V.bl b10, V.bl b11, V.bl b12, V.bl b13, V.bl b14, V.bl b15, V.bl b16, V.bl b17]) := upd_same
  have k11 : K0 H10 (upd H10 a11 (.lst ([V.bl b0, V.bl b1, V.bl b2, V.bl b3, V.bl b4, V.bl b5, V.bl b6, V.bl b7, V.bl b8, V.bl b9, V.bl b10, V.bl b11, V.bl b12, V.bl b13, V.bl b14] ++ [V.bl b15, V.bl b16, V.bl b17]))) := kp_new n11
  generalize upd H10 a11 (.lst ([V.bl b0, V.bl b1, V.bl b2, V.bl b3, V.bl b4, V.bl b5, V.bl b6, V.bl b7, V.bl b8, V.bl b9, V.bl b10, V.bl b11, V.bl b12, V.bl b13, V.bl b14] ++ [V.bl b15, V.bl b16, V.bl b17])) = H11 at e11 k11 ⊢
  have K11 := (K10).trans k11
  refine ⟨_, rfl, _, rfl, D, d, _, _, b18, rfl, hE.kp (K11), .own _, f18, _, rfl, D, d, _, _, b19, rfl, hE.kp (K11), .own _, f19, sz _ (Nat.le_of_ble_eq_true rfl), fun a12 n12 => ?_⟩
  have e12 : upd H11 a12 (.lst [V.bl b18, V.bl b19]) a12 = some (.lst [V.bl b18, V.bl b19]) := upd_same
  have k12 : K0 H11 (upd H11 a12 (.lst [V.bl b18, V.bl b19])) := kp_new n12
  generalize upd H11 a12 (.lst [V.bl b18, V.bl b19]) = H12 at e12 k12 ⊢
  have K12 := (K11).trans k12
  refine ⟨a11, a12, _, _, rfl, rfl, k12.at0 e11, e12, sz _ (Nat.le_of_ble_eq_true rfl), fun a13 n13 => ?_⟩
  have e13 : upd H12 a13 (.lst ([V.bl b0, V.bl b1, V.bl b2, V.bl b3, V.bl b4, V.bl b5, V.bl b6, V.bl b7, V.bl b8, V.bl b9, V.bl b10, V.bl b11, V.bl b12, V.bl b13, V.bl b14, V.bl b15, V.bl b16, V.bl b17] ++ [V.bl b18, V.bl b19])) a13 = some (.lst [V.bl b0, V.bl b1, V.bl b2, V.bl b3, V.bl b4, V.bl b5, V.bl b6, V.bl b7, V.bl b8, V.bl b9, V.bl b10, V.bl b11, V.bl b12, V.bl b13, V.bl b14, V.bl b15, V.bl b16, V.bl b17, V.bl b18, V.bl b19]) := upd_same
  have k13 : K0 H12 (upd H12 a13 (.lst ([V.bl b0, V.bl b1, V.bl b2, V.bl b3, V.bl b4, V.bl b5, V.bl b6, V.bl b7, V.bl b8, V.bl b9, V.bl b10, V.bl b11, V.bl b12, V.bl b13, V.bl b14, V.bl b15, V.bl b16, V.bl b17] ++ [V.bl b18, V.bl b19]))) := kp_new n13
  generalize upd H12 a13 (.lst ([V.bl b0, V.bl b1, V.bl b2, V.bl b3, V.bl b4, V.bl b5, V.bl b6, V.bl b7, V.bl b8, V.bl b9, V.bl b10, V.bl b11, V.bl b12, V.bl b13, V.bl b14, V.bl b15, V.bl b16, V.bl b17] ++ [V.bl b18, V.bl b19])) = H13 at e13 k13 ⊢
  have K13 := (K12).trans k13
  refine ⟨sz _ (Nat.le_of_ble_eq_true rfl), fun a14 n14 => ?_⟩
  have e14 : upd H13 a14 (.lst [V.str "text", V.str "name", V.str "kind", V.str "move", V.str "number", V.str "wish", V.str "index", V.str "yard", V.str "kinds", V.str "rows", V.str "plan", V.str "changes"]) a14 = some (.lst [V.str "text", V.str "name", V.str "kind", V.str "move", V.str "number", V.str "wish", V.str "index", V.str "yard", V.str "kinds", V.str "rows", V.str "plan", V.str "changes"]) := upd_same
  have k14 : K0 H13 (upd H13 a14 (.lst [V.str "text", V.str "name", V.str "kind", V.str "move", V.str "number", V.str "wish", V.str "index", V.str "yard", V.str "kinds", V.str "rows", V.str "plan", V.str "changes"])) := kp_new n14
  generalize upd H13 a14 (.lst [V.str "text", V.str "name", V.str "kind", V.str "move", V.str "number", V.str "wish", V.str "index", V.str "yard", V.str "kinds", V.str "rows", V.str "plan", V.str "changes"]) = H14 at e14 k14 ⊢
  have K14 := (K13).trans k14
  refine ⟨_, rfl, sz _ (Nat.le_of_ble_eq_true rfl), fun a15 n15 => ?_⟩
  have e15 : upd H14 a15 (.lst [V.str "unknown", V.str "use", V.str "unbalanced", V.str "there", V.str "other", V.str "great", V.str "nothing", V.str "broken"]) a15 = some (.lst [V.str "unknown", V.str "use", V.str "unbalanced", V.str "there", V.str "other", V.str "great", V.str "nothing", V.str "broken"]) := upd_same
  have k15 : K0 H14 (upd H14 a15 (.lst [V.str "unknown", V.str "use", V.str "unbalanced", V.str "there", V.str "other", V.str "great", V.str "nothing", V.str "broken"])) := kp_new n15
  generalize upd H14 a15 (.lst [V.str "unknown", V.str "use", V.str "unbalanced", V.str "there", V.str "other", V.str "great", V.str "nothing", V.str "broken"]) = H15 at e15 k15 ⊢
  have K15 := (K14).trans k15
  refine ⟨a14, a15, _, _, rfl, rfl, k15.at0 e14, e15, sz _ (Nat.le_of_ble_eq_true rfl), fun a16 n16 => ?_⟩
  have e16 : upd H15 a16 (.lst ([V.str "text", V.str "name", V.str "kind", V.str "move", V.str "number", V.str "wish", V.str "index", V.str "yard", V.str "kinds", V.str "rows", V.str "plan", V.str "changes"] ++ [V.str "unknown", V.str "use", V.str "unbalanced", V.str "there", V.str "other", V.str "great", V.str "nothing", V.str "broken"])) a16 = some (.lst [V.str "text", V.str "name", V.str "kind", V.str "move", V.str "number", V.str "wish", V.str "index", V.str "yard", V.str "kinds", V.str "rows", V.str "plan", V.str "changes", V.str "unknown", V.str "use", V.str "unbalanced", V.str "there", V.str "other", V.str "great", V.str "nothing", V.str "broken"]) := upd_same
  have k16 : K0 H15 (upd H15 a16 (.lst ([V.str "text", V.str "name", V.str "kind", V.str "move", V.str "number", V.str "wish", V.str "index", V.str "yard", V.str "kinds", V.str "rows", V.str "plan", V.str "changes"] ++ [V.str "unknown", V.str "use", V.str "unbalanced", V.str "there", V.str "other", V.str "great", V.str "nothing", V.str "broken"]))) := kp_new n16
  generalize upd H15 a16 (.lst ([V.str "text", V.str "name", V.str "kind", V.str "move", V.str "number", V.str "wish", V.str "index", V.str "yard", V.str "kinds", V.str "rows", V.str "plan", V.str "changes"] ++ [V.str "unknown", V.str "use", V.str "unbalanced", V.str "there", V.str "other", V.str "great", V.str "nothing", V.str "broken"])) = H16 at e16 k16 ⊢
  have K16 := (K15).trans k16
  refine ⟨_, rfl, D, d, _, _, b20, rfl, hE.kp (K16), .own _, f20, _, rfl, D, d, _, _, b21, rfl, hE.kp (K16), .own _, f21, _, rfl, D, d, _, _, b22, rfl, hE.kp (K16), .own _, f22, sz _ (Nat.le_of_ble_eq_true rfl), fun a17 n17 => ?_⟩
  have e17 : upd H16 a17 (.lst [V.bl b20, V.bl b21, V.bl b22]) a17 = some (.lst [V.bl b20, V.bl b21, V.bl b22]) := upd_same
  have k17 : K0 H16 (upd H16 a17 (.lst [V.bl b20, V.bl b21, V.bl b22])) := kp_new n17
  generalize upd H16 a17 (.lst [V.bl b20, V.bl b21, V.bl b22]) = H17 at e17 k17 ⊢
  have K17 := (K16).trans k17
  have es := (((k14.trans k15).trans k16).trans k17).at0 e13
  have ew := k17.at0 e16
  obtain ⟨j, bs, hc1, hj1, hj2, hwj, hb3⟩ : ∃ (j : Nat) (bs : Nat), ([V.bl b0, V.bl b1, V.bl b2, V.bl b3, V.bl b4, V.bl b5, V.bl b6, V.bl b7, V.bl b8, V.bl b9, V.bl b10, V.bl b11, V.bl b12, V.bl b13, V.bl b14, V.bl b15, V.bl b16, V.bl b17, V.bl b18, V.bl b19] : List V).countP (fun z => eqV z (V.bl true)) = 1 ∧ ([V.bl b0, V.bl b1, V.bl b2, V.bl b3, V.bl b4, V.bl b5, V.bl b6, V.bl b7, V.bl b8, V.bl b9, V.bl b10, V.bl b11, V.bl b12, V.bl b13, V.bl b14, V.bl b15, V.bl b16, V.bl b17, V.bl b18, V.bl b19] : List V)[j]? = some (V.bl true) ∧ (([V.bl b0, V.bl b1, V.bl b2, V.bl b3, V.bl b4, V.bl b5, V.bl b6, V.bl b7, V.bl b8, V.bl b9, V.bl b10, V.bl b11, V.bl b12, V.bl b13, V.bl b14, V.bl b15, V.bl b16, V.bl b17, V.bl b18, V.bl b19] : List V).take j).all (fun z => !eqV z (V.bl true)) = true ∧ ([V.str "text", V.str "name", V.str "kind", V.str "move", V.str "number", V.str "wish", V.str "index", V.str "yard", V.str "kinds", V.str "rows", V.str "plan", V.str "changes", V.str "unknown", V.str "use", V.str "unbalanced", V.str "there", V.str "other", V.str "great", V.str "nothing", V.str "broken"] : List V)[j]? = some (V.str word) ∧ ((j < 12 ∧ bs = 0) ∨ (¬ j < 12 ∧ j < 14 ∧ bs = 1) ∨ (¬ j < 12 ∧ ¬ j < 14 ∧ bs = 2)) ∧ b20 = decide (0 = bs) ∧ b21 = decide (1 = bs) ∧ b22 = decide (2 = bs) := by
    cases hw
    · exact ⟨12, 1, by decide +kernel, rfl, by decide +kernel, rfl, by decide, rfl, rfl, rfl⟩
    · exact ⟨13, 1, by decide +kernel, rfl, by decide +kernel, rfl, by decide, rfl, rfl, rfl⟩
    · exact ⟨6, 0, by decide +kernel, rfl, by decide +kernel, rfl, by decide, rfl, rfl, rfl⟩
    · exact ⟨19, 2, by decide +kernel, rfl, by decide +kernel, rfl, by decide, rfl, rfl, rfl⟩
    · exact ⟨17, 2, by decide +kernel, rfl, by decide +kernel, rfl, by decide, rfl, rfl, rfl⟩
    · exact ⟨18, 2, by decide +kernel, rfl, by decide +kernel, rfl, by decide, rfl, rfl, rfl⟩
  obtain ⟨hb3, hb20, hb21, hb22⟩ := hb3
  clear hw
  subst hb20 hb21 hb22
  have fl1 : ([V.bl b0, V.bl b1, V.bl b2, V.bl b3, V.bl b4, V.bl b5, V.bl b6, V.bl b7, V.bl b8, V.bl b9, V.bl b10, V.bl b11, V.bl b12, V.bl b13, V.bl b14, V.bl b15, V.bl b16, V.bl b17, V.bl b18, V.bl b19] : List V).all flatV = true := rfl
  have fl2 : flatV (V.bl true) = true := rfl
  generalize hys : ([V.bl b0, V.bl b1, V.bl b2, V.bl b3, V.bl b4, V.bl b5, V.bl b6, V.bl b7, V.bl b8, V.bl b9, V.bl b10, V.bl b11, V.bl b12, V.bl b13, V.bl b14, V.bl b15, V.bl b16, V.bl b17, V.bl b18, V.bl b19] : List V) = ys at hc1 hj1 hj2 fl1 es ⊢
  generalize hws : ([V.str "text", V.str "name", V.str "kind", V.str "move", V.str "number", V.str "wish", V.str "index", V.str "yard", V.str "kinds", V.str "rows", V.str "plan", V.str "changes", V.str "unknown", V.str "use", V.str "unbalanced", V.str "there", V.str "other", V.str "great", V.str "nothing", V.str "broken"] : List V) = ws at hwj ew ⊢
  refine ⟨_, rfl, .inl ⟨rfl, _, SqL.of es⟩, a13, _, _, rfl, rfl, SqL.of es, fl2, fl1, rfl, false, congrArg V.bl (by rw [hc1]; rfl), iff_ rfl ?_⟩
  refine ⟨_, rfl, .inl ⟨rfl, _, SqL.of es⟩, a13, _, _, j, _, rfl, rfl, SqL.of es, fl2, fl1, hj1, cls_eqt, no_ahead hj2, ?_⟩
  refine cls_base (bs := bs) rfl hb3 ?_
  exact cls_ret (a2 := a16) (a3 := a17) (j := j) (bs := bs) rfl rfl rfl rfl rfl ew e17 hwj hb3 fun H' k' => q H' (K17.trans k')
end
end SK
set_option maxHeartbeats 4000000
/-! SkO1: _law_end, _law_went. -/
namespace SK
open PySem PySem.Spec PyProof.Rows L2 L2H
/-- what an error is told as -/
def errT : Err → Str × Str
  | .unknown n => ("unknown", reprText n)
  | .use i => ("use", (PyData.int (i : Nat)).shown)
  | .index m => ("index", (PyData.int m).shown)
  | .nothing => ("nothing", "")
  | .broken i => ("broken", (PyData.int (i : Nat)).shown)
  | .great => ("great", (PyData.int 99).shown)
  | .key => ("key", "")
  | .zero => ("zero", "")
def OkE : Err → Prop
  | .unknown n => n = sA ∨ n = sB
  | .use i => i < 1000
  | .index m => 0 ≤ m ∧ m < 1000
  | .broken i => i < 1000
  | _ => True
theorem int_show {m : Int} (h0 : 0 ≤ m) (h : m < 1000) : m.natAbs.log2 < 1920 := by
  obtain ⟨n, rfl⟩ := Int.eq_ofNat_of_zero_le h0
  exact nat_show (n := n) (by omega)
/-- the attribute of the handled exception, whatever its class -/
def tXfA (K : PySem.W.Frag) (a : Addr) (cls : Value) (d : Option Addr) (f : Str) (te : TE) : TE := fun σ H Q => te σ H fun x H1 => x = .ref a ∧ ∃ C, cls = .ref C ∧ XfC K C ∧ PySem.W.findIn K (.ref C) f = some none ∧ ∃ (dd : Addr) (fs : List (Str × V)) (v : V), d = some dd ∧ H1 dd = some (.xd fs) ∧ fs.lookup f = some v ∧ Q v H1
theorem pe_xfA {X : Cx} {a : Addr} {oe : Obj} {cls : Value} {d : Option Addr} {pn : List (Addr × Obj)} {e : Expr} {te : TE} {pos : Pos} {n : Str} (hz : L2N.Zn cls d oe) (hf : ∃ vs, oe.data = .fields vs) (he : PE (X.suite a ((a, oe) :: pn)) e te)
    (hb : attributeBase e n X.env (eval e X.env) = eval e X.env := by rfl) : PE (X.suite a ((a, oe) :: pn)) (.Attribute e n pos) (tXfA X.K a cls d n te) := by
  refine ⟨fun pins s σ H Q I h => attr_of hb (thn (he.run pins s σ H _ I h) fun u s1 hh => ?_)⟩
  obtain ⟨x, H1, I1, rx, ex, C, ec, T, hno, dd, fs, v, ed, ea, l, q⟩ := hh
  subst ex ec ed
  obtain rfl : u = Value.ref a := rx
  obtain ⟨mA, hns, hr⟩ := (show ObjOk X.prog X.w H1 s1.heap dd (.xd fs) from I1.hok dd _ ea)
  obtain ⟨od, ho, hl⟩ := lookIn_ns hns
  obtain ⟨w, hw, rw_⟩ := RelO.some_of (v := v) (o := mA n) (by rw [← l]; exact hr n)
  obtain ⟨vs, hd⟩ := hf
  have J : PySem.W.InstAt s1.heap a oe C (some od) := ⟨(I1.pin (a, oe) (List.mem_append_left _ List.mem_cons_self)).1, hz.1, by unfold PySem.W.notCls; rw [hd] <;> rfl, by rw [hz.2.1]; exact ho⟩
  exact HandSPX.exc_get I1.kIn J T.ga T.gg T.exC (PySem.W.findObj_own T.hdC hno rfl (by rw [hl, hw])) (handed_of rw_) ⟨v, H1, I1.tok _, rw_, q⟩
/-- a call of what a name holds, within a try -/
def tCallW (P : Program) (w : World) (K : PySem.W.Frag) (mg : Str → Option Value) (base : Heap) (k i : Nat) (W : WX) : TE := fun σ H Q => ∃ f lam, σ[i]? = some (some (.ref f)) ∧ Callee H f ∧ FnG P w K mg base (L2N.CX P w) k f lam ∧ lam [] H Q (WE W σ)
theorem pe_callW0 {P : Program} {w : World} {K : PySem.W.Frag} {mg : Str → Option Value} {base : Heap} {X : Cx} {k i : Nat} {W : WX} {x : Str} {p pos : Pos} (e1 : X.prog = P) (e2 : X.w = w) (e3 : X.K = K) (e4 : X.mg = mg) (e5 : X.base = base) (hr : Room k X.A) (hg : X.A.guards = some []) (tk : L2N.Takes X W) (hN : X.N[i]? = some x) (hv : Vis X.env.scope x)
    (hd : (x == ("__debug__" : Str)) = false := by decide) (hcd : (x == ("__classdict__" : Str)) = false := by decide) : PE X (.Call (.Name x p) [] [] pos) (tCallW P w K mg base k i W) := by
  subst e1 e2 e3 e4 e5
  refine ⟨fun pins s σ H Q I h => (pe_callV0 hr hg tk hN hv hd hcd).run pins s σ H Q I ?_⟩
  obtain ⟨f, lam, h1, h2, h3, h4⟩ := h
  exact ⟨f, lam, h1, h2, h3, h2, h4⟩
section
variable {P : Program} {w : World} {K : PySem.W.Frag} {mg : Str → Option Value} {base : Heap}
def toldQ (t : Str × Str) (Q : VK) (H : Hp) : Prop := ∀ H' p, K0 H H' → H p = none → ToldAt H' p t → Q (.ref p) H'
theorem toldQ.kp {t : Str × Str} {Q : VK} {H H1 : Hp} (h : toldQ t Q H) (k : K0 H H1) : toldQ t Q H1 := fun H' p k' n => h H' p (k.trans k') (k.none n)
def endXK (Q : VK) (E : XK) : XK := fun c dd H => ∃ e, ErrAt H e c dd ∧ OkE e ∧ match e with
  | .key => E c dd H
  | .zero => E c dd H
  | e => toldQ (errT e) Q H
def spEnd (P : Program) (w : World) (K : PySem.W.Frag) (mg : Str → Option Value) (base : Heap) (k : Nat) : Sp := fun vs H Q E => ∃ f lam, vs = [.ref f] ∧ Callee H f ∧ FnG P w K mg base (L2N.CX P w) k f lam ∧
  ∀ (Q' : VK) (E' : XK), (∀ v H1 d, Plain H1 v d → toldQ ("back", d.shown) Q H1 → Q' v H1) → (∀ c dd H1, endXK Q E c dd H1 → E' c dd H1) → lam [] H Q' E'
theorem sc95 : FnScope ["_law_act", "_law_back", "_law_e", "_law_word"] ["_law_act"] (defScope (top 95)) := ⟨rfl, rfl, rfl, by decide +kernel, rfl, by decide +kernel, by decide +kernel⟩
def Caught : Err → Prop
  | .key => False
  | .zero => False
  | _ => True
def tsEnd (a : Addr) (cls : Value) (d : Option Addr) : TS := fun D σ H => ∃ e x, ErrAt H e cls d ∧ OkE e ∧ Caught e ∧ σ = [some x, none, some (.ref a), none] ∧ toldQ (errT e) (fun v H' => D.rt v H') H
abbrev endSuite : List Stmt := match defBody (top 95) with
  | .Try _ [.ExceptHandler _ _ b _] _ _ _ :: _ => b
  | _ => []
abbrev N95 : List Str := ["_law_act", "_law_back", "_law_e", "_law_word"]
theorem end_suite (T : Tx K mg) {k : Nat} (h1 : 1 ≤ k) {cdv : Value} {A : Around} {outer : List Env} {s : Shared} {H : Hp} {E : XK} (hr : Room k (A.deeper (envOfC "_law_end" (defScope (top 95)) s.heap.objs.size 1199 cdv))) (hg : A.guards = some []) {a : Addr} {oe : Obj} {cls : Value} {d : Option Addr} {pn : List (Addr × Obj)}
    (hz : L2N.Zn cls d oe) (hf : ∃ vs, oe.data = .fields vs) : PSs ((cxOf (L2N.CX P w) P w K mg base N95 "_law_end" (defScope (top 95)) 1199 cdv A outer s H E).suite a ((a, oe) :: pn)) endSuite (tsEnd a cls d) := by
  obtain ⟨fdc, Fc⟩ := T.f_law_class
  obtain ⟨fds, Fs⟩ := T.f_law_shown
  have hrH : RoomH 1 ((A.deeper (envOfC "_law_end" (defScope (top 95)) s.heap.objs.size 1199 cdv)).mark (some (.ref a))) := by
    have := hr.mono h1
    exact ⟨this.dp, this.un⟩
  have hot : Hot1 ((A.deeper (envOfC "_law_end" (defScope (top 95)) s.heap.objs.size 1199 cdv)).mark (some (.ref a))) (a, oe) := ⟨rfl, hf.elim fun vs hd => ⟨vs, hd, hz.2.2 vs hd⟩⟩
  refine ⟨fun pins st σ H' D I h => PSs.run (X := (cxOf (L2N.CX P w) P w K mg base N95 "_law_end" (defScope (top 95)) 1199 cdv A outer s H E).suite a ((a, oe) :: pn)) (st := endSuite) (pss_cons (ps_set (i := 3) sc95.nd rfl (Or.inl rfl) (pe_hp (p := (a, oe)) (E := EF) (k_class T) hrH hot List.mem_cons_self hg (passF noXN) rfl T.g_law_class Fc.kp (pa_cons (pv 2) pa_nil)))
    (pss_cons (ps_if (pt_cmpR op_in_seq (pv 3) (pe_lst (pa_cons pe_str (pa_cons pe_str (pa_cons pe_str (pa_cons pe_str (pa_cons pe_str (pa_cons pe_str pa_nil))))))) rfl)
      (pss_one (ps_ret (pe_lst (pa_cons (pv 3) (pa_cons (c_repr T (hu30H hrH) hg (pa_cons (pe_xfA hz hf (pv 2)) pa_nil)) pa_nil))))) pss_nil)
    (pss_one (ps_ret (pe_lst (pa_cons (pv 3) (pa_cons (pe_ifExp (pt_cmpR op_in_seq (pv 3) (pe_lst (pa_cons pe_str (pa_cons pe_str (pa_cons pe_str pa_nil)))) rfl) pe_str
      (pe_hp (p := (a, oe)) (E := EF) (k_shownH T) hrH hot List.mem_cons_self hg (passF noXN) rfl T.g_law_shown Fs.kp (pa_cons (pe_xfA hz hf (pv 2)) pa_nil))) pa_nil))))))) pins st σ H' D I ?_⟩
  obtain ⟨e, x, he, hok, hc, rfl, q⟩ := h
  have sz : ∀ n : Nat, n ≤ 100 → n ≤ sizeLine := fun n h => by rw [sizeLine_eq]; omega
  cases e with
  | key => exact hc.elim
  | zero => exact hc.elim
  | unknown n =>
    obtain ⟨rfl, dd, rfl, hd⟩ := he
    refine ⟨_, rfl, 292, _, _, _, rfl, ⟨T.ecUnknownName, hz.1, hf, hz.2.1, fun x hx => by cases hx; exact ⟨_, hd⟩⟩, (by exact T.isUnknownName), .cUnknownName, fun H1 k1 => ?_⟩
    refine ⟨_, rfl, sz _ (by decide), fun l nl => ⟨l, _, rfl, .inl (SqL.of upd_same), rfl, rfl, false, congrArg V.bl (by decide +kernel), iff_ rfl ?_⟩⟩
    have k2 := k1.new (o := .lst [.str "kinds", .str "rows", .str "plan", .str "changes", .str "use", .str "broken"]) nl
    refine ⟨_, rfl, _, rfl, sz _ (by decide), fun l2 nl2 => ⟨l2, _, rfl, .inl (SqL.of upd_same), rfl, rfl, false, congrArg V.bl (by decide +kernel), iff_ rfl ?_⟩⟩
    have k3 := k2.new (o := .lst [.str "nothing", .str "another error", .str "another base"]) nl2
    exact ⟨_, rfl, rfl, 292, rfl, T.xfUnknownName, T.xUnknownName, dd, _, .str n, rfl, k3.im hd trivial, rfl, _, .str n, rfl, Plain.str n (Nat.le_trans (ab_le hok) (sz _ (by decide))), sz _ (Nat.le_of_ble_eq_true rfl), fun p np => q _ p (k3.new np) (k3.none np) upd_same⟩
  | use i =>
    obtain ⟨rfl, dd, rfl, hd⟩ := he
    refine ⟨_, rfl, 311, _, _, _, rfl, ⟨T.ecInUse, hz.1, hf, hz.2.1, fun x hx => by cases hx; exact ⟨_, hd⟩⟩, (by exact T.isInUse), .cInUse, fun H1 k1 => ?_⟩
    refine ⟨_, rfl, sz _ (by decide), fun l nl => ⟨l, _, rfl, .inl (SqL.of upd_same), rfl, rfl, true, congrArg V.bl (by decide +kernel), ift rfl ?_⟩⟩
    have k2 := k1.new (o := .lst [.str "kinds", .str "rows", .str "plan", .str "changes", .str "use", .str "broken"]) nl
    have hs : (PyData.int (i : Nat)).showable = true := decide_eq_true (nat_show hok)
    exact ⟨_, rfl, _, rfl, rfl, 311, rfl, T.xfInUse, T.xInUse, dd, _, .int (i : Nat), rfl, k2.im hd trivial, rfl, _, .int (i : Nat), rfl, .int _, hs, rfl, by simp [PyData.depth], int_text_fits (nat_show hok), sz _ (Nat.le_of_ble_eq_true rfl), fun p np => q _ p (k2.new np) (k2.none np) upd_same⟩
  | index m =>
    obtain ⟨rfl, dd, rfl, hd⟩ := he
    refine ⟨_, rfl, 165, _, _, _, rfl, ⟨T.ecInvalidIndex, hz.1, hf, hz.2.1, fun x hx => by cases hx; exact ⟨_, hd⟩⟩, (by exact T.isInvalidIndex), .cInvalidIndex, fun H1 k1 => ?_⟩
    refine ⟨_, rfl, sz _ (by decide), fun l nl => ⟨l, _, rfl, .inl (SqL.of upd_same), rfl, rfl, false, congrArg V.bl (by decide +kernel), iff_ rfl ?_⟩⟩
    have k2 := k1.new (o := .lst [.str "kinds", .str "rows", .str "plan", .str "changes", .str "use", .str "broken"]) nl
    refine ⟨_, rfl, _, rfl, sz _ (by decide), fun l2 nl2 => ⟨l2, _, rfl, .inl (SqL.of upd_same), rfl, rfl, false, congrArg V.bl (by decide +kernel), iff_ rfl ?_⟩⟩
    have k3 := k2.new (o := .lst [.str "nothing", .str "another error", .str "another base"]) nl2
    exact ⟨_, rfl, rfl, 165, rfl, T.xfInvalidIndex, T.xInvalidIndex, dd, _, .int m, rfl, k3.im hd trivial, rfl, _, .int m, rfl, Plain.int m (int_show hok.1 hok.2), sz _ (Nat.le_of_ble_eq_true rfl), fun p np => q _ p (k3.new np) (k3.none np) upd_same⟩
  | broken i =>
    obtain ⟨rfl, dd, rfl, hd⟩ := he
    refine ⟨_, rfl, 431, _, _, _, rfl, ⟨T.ecBroken, hz.1, hf, hz.2.1, fun x hx => by cases hx; exact ⟨_, hd⟩⟩, (by exact T.isBroken), .cBroken, fun H1 k1 => ?_⟩
    refine ⟨_, rfl, sz _ (by decide), fun l nl => ⟨l, _, rfl, .inl (SqL.of upd_same), rfl, rfl, true, congrArg V.bl (by decide +kernel), ift rfl ?_⟩⟩
    have k2 := k1.new (o := .lst [.str "kinds", .str "rows", .str "plan", .str "changes", .str "use", .str "broken"]) nl
    have hs : (PyData.int (i : Nat)).showable = true := decide_eq_true (nat_show hok)
    exact ⟨_, rfl, _, rfl, rfl, 431, rfl, T.xfBroken, T.xBroken, dd, _, .int (i : Nat), rfl, k2.im hd trivial, rfl, _, .int (i : Nat), rfl, .int _, hs, rfl, by simp [PyData.depth], int_text_fits (nat_show hok), sz _ (Nat.le_of_ble_eq_true rfl), fun p np => q _ p (k2.new np) (k2.none np) upd_same⟩
  | great =>
    obtain ⟨rfl, dd, rfl, hd⟩ := he
    refine ⟨_, rfl, 400, _, _, _, rfl, ⟨T.ecTooGreat, hz.1, hf, hz.2.1, fun x hx => by cases hx; exact ⟨_, hd⟩⟩, (by exact T.isTooGreat), .cTooGreat, fun H1 k1 => ?_⟩
    refine ⟨_, rfl, sz _ (by decide), fun l nl => ⟨l, _, rfl, .inl (SqL.of upd_same), rfl, rfl, false, congrArg V.bl (by decide +kernel), iff_ rfl ?_⟩⟩
    have k2 := k1.new (o := .lst [.str "kinds", .str "rows", .str "plan", .str "changes", .str "use", .str "broken"]) nl
    refine ⟨_, rfl, _, rfl, sz _ (by decide), fun l2 nl2 => ⟨l2, _, rfl, .inl (SqL.of upd_same), rfl, rfl, false, congrArg V.bl (by decide +kernel), iff_ rfl ?_⟩⟩
    have k3 := k2.new (o := .lst [.str "nothing", .str "another error", .str "another base"]) nl2
    exact ⟨_, rfl, rfl, 400, rfl, T.xfTooGreat, T.xTooGreat, dd, _, .int 99, rfl, k3.im hd trivial, rfl, _, .int 99, rfl, Plain.int 99 (by decide), sz _ (Nat.le_of_ble_eq_true rfl), fun p np => q _ p (k3.new np) (k3.none np) upd_same⟩
  | nothing =>
    obtain ⟨rfl, rfl⟩ := he
    refine ⟨_, rfl, 412, _, _, _, rfl, ⟨T.ecNothingToUndo, hz.1, hf, hz.2.1, fun x hx => by cases hx⟩, (by exact T.isNothingToUndo), .cNothingToUndo, fun H1 k1 => ?_⟩
    refine ⟨_, rfl, sz _ (by decide), fun l nl => ⟨l, _, rfl, .inl (SqL.of upd_same), rfl, rfl, false, congrArg V.bl (by decide +kernel), iff_ rfl ?_⟩⟩
    have k2 := k1.new (o := .lst [.str "kinds", .str "rows", .str "plan", .str "changes", .str "use", .str "broken"]) nl
    exact ⟨_, rfl, _, rfl, sz _ (by decide), fun l2 nl2 => ⟨l2, _, rfl, .inl (SqL.of upd_same), rfl, rfl, true, congrArg V.bl (by decide +kernel), ift rfl ⟨sz _ (Nat.le_of_ble_eq_true rfl), fun p np => q _ p ((k2.new (o := .lst [.str "nothing", .str "another error", .str "another base"]) nl2).new np) ((k2.new (o := .lst [.str "nothing", .str "another error", .str "another base"]) nl2).none np) upd_same⟩⟩⟩
theorem k_end (T : Tx K mg) {k : Nat} (h1 : 1 ≤ k) : FnG P w K mg base (L2N.CX P w) (k + 1) 1199 (spEnd P w K mg base k) := by
  obtain ⟨fd, F⟩ := T.f_law_end
  obtain ⟨fds, Fs⟩ := T.f_law_shown
  refine fng_of F sc95 (F.bindsN fun _ _ _ _ _ _ us hl => match us, hl with | [_], _ => rfl) (fun vs H Q E h => ?_) (fun cdv A outer s H vs Q E hr hg h => ⟨_,
    pss_cons (ps_try_as3 (i := 2) (Wout := fun c d _ H => E c d H) rfl rfl sc95.nd rfl rfl (c1 := .ref 31) (c2 := .ref 272) (c3 := .ref 323) ⟨rfl, by decide, .inl T.gWrongValue⟩ ⟨rfl, by decide, .inl T.gWrongName⟩ ⟨rfl, by decide, .inl T.gNotPossible⟩ (L2N.takes_of rfl rfl rfl rfl)
      (fun W pn xe tk _ => pss_one (ps_set (i := 1) sc95.nd rfl (Or.inl rfl) (pe_callW0 (P := P) (w := w) (K := K) (mg := mg) (base := base) (k := k) (i := 0) rfl rfl rfl rfl rfl hr hg tk rfl (Or.inl rfl))))
      (fun a oe cls d pn hz hf => end_suite T h1 hr hg hz hf))
    (pss_one (ps_ret (pe_lst (pa_cons pe_str (pa_cons (pe_g (E := EF) (k_shown T) (hr.mono h1) hg (passF noXN) rfl T.g_law_shown Fs.kp (pa_cons (pv 1) pa_nil)) pa_nil))))), ?_⟩)
  · obtain ⟨_, _, rfl, _⟩ := h
    rfl
  · obtain ⟨f, lam, rfl, hf, F1, hl⟩ := h
    refine ⟨f, lam, rfl, hf, F1, hl _ _ (fun v H1 d hp q => ?_) (fun c dd H1 ⟨e, he, hok, q⟩ => ?_)⟩
    · refine ⟨_, rfl, v, d, rfl, hp, by show 2 ≤ sizeLine; rw [sizeLine_eq]; omega, fun p np => q _ p (kp_new np) np upd_same⟩
    · cases e with
      | key =>
        obtain rfl : c = .type "KeyError" := he
        exact ⟨false, T.amKeyError, fun z => (by cases z), fun _ => q⟩
      | zero =>
        obtain rfl : c = .type "ZeroDivisionError" := he
        exact ⟨false, T.amZeroDivisionError, fun z => (by cases z), fun _ => q⟩
      | unknown n => exact ⟨true, by rw [he.1]; exact T.amUnknownName, fun _ a na => ⟨.unknown n, .ref f, he, hok, trivial, rfl, q⟩, fun z => (by cases z)⟩
      | use i => exact ⟨true, by rw [he.1]; exact T.amInUse, fun _ a na => ⟨.use i, .ref f, he, hok, trivial, rfl, q⟩, fun z => (by cases z)⟩
      | index m => exact ⟨true, by rw [he.1]; exact T.amInvalidIndex, fun _ a na => ⟨.index m, .ref f, he, hok, trivial, rfl, q⟩, fun z => (by cases z)⟩
      | broken i => exact ⟨true, by rw [he.1]; exact T.amBroken, fun _ a na => ⟨.broken i, .ref f, he, hok, trivial, rfl, q⟩, fun z => (by cases z)⟩
      | great => exact ⟨true, by rw [he.1]; exact T.amTooGreat, fun _ a na => ⟨.great, .ref f, he, hok, trivial, rfl, q⟩, fun z => (by cases z)⟩
      | nothing => exact ⟨true, by rw [he.1]; exact T.amNothingToUndo, fun _ a na => ⟨.nothing, .ref f, he, hok, trivial, rfl, q⟩, fun z => (by cases z)⟩
def spWent (P : Program) (w : World) (K : PySem.W.Frag) (mg : Str → Option Value) (base : Heap) (k : Nat) : Sp := fun vs H Q _ => ∃ f lam, vs = [.ref f] ∧ Callee H f ∧ FnG P w K mg base (L2N.CX P w) k f lam ∧
  ∀ (Q' : VK) (E' : XK), (∀ v H1 d, Plain H1 v d → toldQ ("back", d.shown) Q H1 → Q' v H1) → (∀ c dd H1 e, ErrAt H1 e c dd → OkE e → toldQ (errT e) Q H1 → E' c dd H1) → lam [] H Q' E'
theorem sc101 : FnScope ["_law_act", "_law_told"] ["_law_act"] (defScope (top 101)) := ⟨rfl, rfl, rfl, by decide +kernel, rfl, by decide +kernel, by decide +kernel⟩
theorem exm_ZZ {K : PySem.W.Frag} : PySem.W.exmOne K (.type "ZeroDivisionError") (.type "ZeroDivisionError") = some true := by kernel_rfl
theorem exm_ZK {K : PySem.W.Frag} : PySem.W.exmOne K (.type "ZeroDivisionError") (.type "KeyError") = some false := by kernel_rfl
theorem k_went (T : Tx K mg) {k : Nat} (h1 : 1 ≤ k) : FnG P w K mg base (L2N.CX P w) (k + 2) 1239 (spWent P w K mg base k) := by
  obtain ⟨fd, F⟩ := T.f_law_went
  obtain ⟨fde, Fe⟩ := T.f_law_end
  refine fng_of F sc101 (F.bindsN fun _ _ _ _ _ _ us hl => match us, hl with | [_], _ => rfl) (fun vs H Q E h => ?_) (fun cdv A outer s H vs Q E hr hg h => ⟨_,
    pss_cons (L2N.ps_try_many (Wout := fun c d _ H => E c d H) rfl rfl (L2N.takes_of rfl rfl rfl rfl)
      (fun W pn xe tk _ => pss_one (ps_set (i := 1) sc101.nd rfl (Or.inl rfl) (pe_g (E := WE W) (k_end (P := P) (w := w) (base := base) T h1) hr hg (L2N.passAt tk) rfl T.g_law_end Fe.kp (pa_cons (pv 0) pa_nil))))
      (.cons (c := .type "KeyError") ⟨rfl, by decide, .inr ⟨T.bKeyError, boot_KeyError, by decide⟩⟩ (fun a oe cls d pn _ _ => pss_one (ps_ret (pe_lst (pa_cons pe_str (pa_cons pe_str pa_nil)))))
      (.cons (c := .type "ZeroDivisionError") ⟨rfl, by decide, .inr ⟨T.bZeroDivisionError, boot_ZeroDivisionError, by decide⟩⟩ (fun a oe cls d pn _ _ => pss_one (ps_ret (pe_lst (pa_cons pe_str (pa_cons pe_str pa_nil))))) .nil)))
    (pss_one (ps_ret (pv 1))), ?_⟩)
  · obtain ⟨_, _, rfl, _⟩ := h
    rfl
  · obtain ⟨f, lam, rfl, hf, F1, hl⟩ := h
    have s2 : 2 ≤ sizeLine := by rw [sizeLine_eq]; omega
    refine ⟨_, rfl, f, lam, rfl, hf, F1, fun Q' E' h1 h2 => hl Q' E' (fun v H1 d hp q => h1 v H1 d hp fun H' p k' n ht => ?_) (fun c dd H1 e he hok q => h2 c dd H1 ⟨e, he, hok, ?_⟩)⟩
    · exact ⟨_, rfl, q H' p k' n ht⟩
    · cases e with
      | key =>
        obtain rfl : c = .type "KeyError" := he
        exact ⟨true, exm_KE, fun _ a na => ⟨s2, fun p np => q _ p (kp_new np) np upd_same⟩, fun z => (by cases z)⟩
      | zero =>
        obtain rfl : c = .type "ZeroDivisionError" := he
        exact ⟨false, exm_ZK, fun z => (by cases z), fun _ => ⟨true, exm_ZZ, fun _ a na => ⟨s2, fun p np => q _ p (kp_new np) np upd_same⟩, fun z => (by cases z)⟩⟩
      | _ => exact fun H' p k' n ht => ⟨_, rfl, q H' p k' n ht⟩
end
end SK
set_option maxHeartbeats 4000000
/-! SkO2: across locks; notes, plans, lots. -/
namespace SK
open PySem PySem.Spec PyProof.Rows L2 L2H
/-- all that isn't locked stays -/
def Kn (H H' : Hp) : Prop := ∀ b o, H b = some o → (∀ x u, o ≠ .frz x u) → H' b = some o
section
variable {L : List (Addr × Obj)} {H H1 H' : Hp}
theorem unlock_kn (k : Lkd L H) : Kn H (unlock L H) := fun b o e n => by
  cases q : L.lookup b with
  | none => rw [unlock_ne q]; exact e
  | some ob => exact absurd (Option.some.inj (e.symm.trans (k b ob q))) (n _ _)
theorem lock_k0 (fr : ∀ b o, L.lookup b = some o → H b = none) : K0 H (lock L H) := fun b o e => by
  cases q : L.lookup b with
  | none => exact ⟨fun _ => by rw [lock_ne q]; exact e, o, by rw [lock_ne q]; exact e⟩
  | some ob => rw [fr b ob q] at e; cases e
theorem kp_unl {M : Addr → Prop} (fr : ∀ b o, L.lookup b = some o → H b = none) (k : Kp M (lock L H) H') (lk : Lkd L H') : Kp M H (unlock L H') := fun b o e => by
  cases q : L.lookup b with
  | none =>
    have e' : lock L H b = some o := by rw [lock_ne q]; exact e
    obtain ⟨h1, o', h2⟩ := k b o e'
    exact ⟨fun z => by rw [unlock_ne q]; exact h1 z, o', by rw [unlock_ne q]; exact h2⟩
  | some ob => rw [fr b ob q] at e; cases e
theorem unl_none {b : Addr} (lk : Lkd L H) (n : H b = none) : unlock L H b = none := by
  cases q : L.lookup b with
  | none => rw [unlock_ne q]; exact n
  | some ob => exact unlock_at q
variable (k : Kn H H1)
include k
theorem Kn.tup {a : Addr} {xs : List V} (e : H a = some (.tup xs)) : H1 a = some (.tup xs) := k a _ e fun _ _ z => (by cases z)
theorem Kn.lst {a : Addr} {xs : List V} (e : H a = some (.lst xs)) : H1 a = some (.lst xs) := k a _ e fun _ _ z => (by cases z)
theorem Kn.ins {a C dx : Addr} {fs : List (Str × V)} (e : H a = some (.ins C dx fs)) : H1 a = some (.ins C dx fs) := k a _ e fun _ _ z => (by cases z)
theorem Kn.ext' {a : Addr} {φ : Heap → Prop} (e : H a = some (.ext φ)) : H1 a = some (.ext φ) := k a _ e fun _ _ z => (by cases z)
theorem KindsAt.kn {p : Addr} (x : KindsAt H p) : KindsAt H1 p := k.tup x
theorem RowsAt.kn {p : Addr} {w m : Int} (x : RowsAt H p w m) : RowsAt H1 p w m := by
  obtain ⟨r0, r1, h1, h2, h3⟩ := x
  exact ⟨r0, r1, k.tup h1, k.tup h2, k.tup h3⟩
theorem slt_kn {p dx C : Addr} {vs : List (Option V)} (x : SlX.Slt H p C dx vs) : SlX.Slt H1 p C dx vs := by
  rcases x with ⟨e, q⟩ | ⟨e, q⟩
  · exact .inl ⟨k.ins e, q⟩
  · exact .inr ⟨k _ _ e fun _ _ z => (by unfold SlX.SlO at z; cases z), k _ _ q fun _ _ z => (by cases z)⟩
theorem YardAt.kn {p : Addr} {w m : Int} (x : YardAt H p w m) : YardAt H1 p w m := by
  obtain ⟨dx, vs, ks, rs, h1, h2, h3, h4, h5⟩ := x
  exact ⟨dx, vs, ks, rs, slt_kn k h1, h2, h3, h4.kn k, h5.kn k⟩
theorem Ys.kn : ∀ {ys : List (Str × Int × Int)} {kvs : List (Key × V)}, Ys H ys kvs → Ys H1 ys kvs
  | [], [], _ => True.intro
  | (_, _, _) :: _, _ :: _, ⟨⟨y, e, h⟩, t⟩ => ⟨⟨y, e, h.kn k⟩, Ys.kn t⟩
  | [], _ :: _, h => h.elim
  | _ :: _, [], h => h.elim
theorem YardsAt.kn {d : Addr} {ys : List (Str × Int × Int)} (x : YardsAt H d ys) : YardsAt H1 d ys := by
  obtain ⟨kvs, h1, h2⟩ := x
  exact ⟨kvs, k _ _ h1 fun _ _ z => (by cases z), Ys.kn k h2⟩
theorem PairAt.kn {t : Addr} {n : Str} {m : Int} (x : PairAt H t n m) : PairAt H1 t n m := by
  obtain ⟨t', h1, h2⟩ := x
  exact ⟨t', k.tup h1, k.tup h2⟩
theorem Pz.kn : ∀ {ps : List (Str × Int)} {xs : List V}, Pz H ps xs → Pz H1 ps xs
  | [], [], _ => True.intro
  | (_, _) :: _, _ :: _, ⟨⟨t, e, h⟩, r⟩ => ⟨⟨t, e, h.kn k⟩, Pz.kn r⟩
  | [], _ :: _, h => h.elim
  | _ :: _, [], h => h.elim
theorem PairsAt.kn {t : Addr} {ps : List (Str × Int)} (x : PairsAt H t ps) : PairsAt H1 t ps := by
  obtain ⟨xs, h1, h2⟩ := x
  exact ⟨xs, k.tup h1, Pz.kn k h2⟩
theorem ShapeAt.kn : ∀ {l : List Snap} {p : Addr}, ShapeAt H p l → ShapeAt H1 p l
  | [], _, x => x
  | s :: r, p, ⟨dx, d, t, ah, h1, h2, h3, h4⟩ => ⟨dx, d, t, ah, k.ins h1, h2.kn k, h3.kn k, by
    cases r with
    | nil => exact h4
    | cons s' r' =>
      obtain ⟨p', e, h5⟩ := h4
      exact ⟨p', e, ShapeAt.kn h5⟩⟩
theorem LibAt.kn {L : Addr} {l : List Snap} (x : LibAt H L l) : LibAt H1 L l := by
  obtain ⟨dx, p, h1, h2⟩ := x
  exact ⟨dx, p, k.ins h1, ShapeAt.kn k h2⟩
theorem ErrAt.kn {e : Err} {c : Value} {d : Option Addr} (x : ErrAt H e c d) : ErrAt H1 e c d := by
  cases e <;> first | exact x | exact ⟨x.1, x.2.choose, x.2.choose_spec.1, k _ _ x.2.choose_spec.2 fun _ _ z => (by cases z)⟩
end
/-! ### notes -/
inductive Note where
  | lv (n : Nat) (t : Str)
  | v (t : Str)
  | told (t : Str × Str)
def NoteAt (M : Addr → Prop) (H : Hp) : Note → V → Prop
  | .lv n t, x => ∃ p, x = .ref p ∧ ¬ M p ∧ H p = some (.lst [.int (n : Nat), .str t])
  | .v t, x => x = .str t
  | .told t, x => ∃ p, x = .ref p ∧ ¬ M p ∧ ToldAt H p t
def Nz (M : Addr → Prop) (H : Hp) : List Note → List V → Prop
  | [], [] => True
  | n :: r, x :: r' => NoteAt M H n x ∧ Nz M H r r'
  | _, _ => False
def NotesAt (M : Addr → Prop) (H : Hp) (nt : Addr) (ns : List Note) : Prop := ∃ xs, H nt = some (.lst xs) ∧ Nz M H ns xs
section
variable {M M' : Addr → Prop} {H H1 : Hp}
theorem NoteAt.kp {n : Note} {x : V} (h : NoteAt M H n x) (k : Kp M H H1) : NoteAt M H1 n x := by
  cases n with
  | lv n t => obtain ⟨p, e, m, h⟩ := h; exact ⟨p, e, m, k.st h m⟩
  | v t => exact h
  | told t => obtain ⟨p, e, m, h⟩ := h; exact ⟨p, e, m, k.st h m⟩
theorem NoteAt.kn {n : Note} {x : V} (h : NoteAt M H n x) (k : Kn H H1) : NoteAt M H1 n x := by
  cases n with
  | lv n t => obtain ⟨p, e, m, h⟩ := h; exact ⟨p, e, m, k.lst h⟩
  | v t => exact h
  | told t => obtain ⟨p, e, m, h⟩ := h; exact ⟨p, e, m, k.lst h⟩
theorem NoteAt.mono {n : Note} {x : V} (h : NoteAt M H n x) (m : ∀ b, M' b → M b) : NoteAt M' H n x := by
  cases n with
  | lv n t => obtain ⟨p, e, m', h⟩ := h; exact ⟨p, e, fun z => m' (m _ z), h⟩
  | v t => exact h
  | told t => obtain ⟨p, e, m', h⟩ := h; exact ⟨p, e, fun z => m' (m _ z), h⟩
theorem Nz.kp (k : Kp M H H1) : ∀ {ns : List Note} {xs : List V}, Nz M H ns xs → Nz M H1 ns xs
  | [], [], _ => True.intro
  | _ :: _, _ :: _, ⟨h, t⟩ => ⟨h.kp k, Nz.kp k t⟩
  | [], _ :: _, h => h.elim
  | _ :: _, [], h => h.elim
theorem Nz.kn (k : Kn H H1) : ∀ {ns : List Note} {xs : List V}, Nz M H ns xs → Nz M H1 ns xs
  | [], [], _ => True.intro
  | _ :: _, _ :: _, ⟨h, t⟩ => ⟨h.kn k, Nz.kn k t⟩
  | [], _ :: _, h => h.elim
  | _ :: _, [], h => h.elim
theorem Nz.mono (m : ∀ b, M' b → M b) : ∀ {ns : List Note} {xs : List V}, Nz M H ns xs → Nz M' H ns xs
  | [], [], _ => True.intro
  | _ :: _, _ :: _, ⟨h, t⟩ => ⟨h.mono m, Nz.mono m t⟩
  | [], _ :: _, h => h.elim
  | _ :: _, [], h => h.elim
theorem Nz.len : ∀ {ns : List Note} {xs : List V}, Nz M H ns xs → xs.length = ns.length
  | [], [], _ => rfl
  | _ :: _, _ :: _, ⟨_, t⟩ => congrArg Nat.succ (Nz.len t)
  | [], _ :: _, h => h.elim
  | _ :: _, [], h => h.elim
theorem Nz.app : ∀ {ps qs : List Note} {xs ys : List V}, Nz M H ps xs → Nz M H qs ys → Nz M H (ps ++ qs) (xs ++ ys)
  | [], _, [], _, _, h => h
  | _ :: _, _, _ :: _, _, ⟨e, t⟩, h => ⟨e, Nz.app t h⟩
  | [], _, _ :: _, _, h, _ => h.elim
  | _ :: _, _, [], _, h, _ => h.elim
/-- the notes stay where their list isn't touched -/
theorem NotesAt.st {nt : Addr} {ns : List Note} (h : NotesAt M H nt ns) (k : Kp M H H1) (n : ¬ M nt) : NotesAt M H1 nt ns := by
  obtain ⟨xs, h1, h2⟩ := h
  exact ⟨xs, k.st h1 n, h2.kp k⟩
theorem NotesAt.kn {nt : Addr} {ns : List Note} (h : NotesAt M H nt ns) (k : Kn H H1) : NotesAt M H1 nt ns := by
  obtain ⟨xs, h1, h2⟩ := h
  exact ⟨xs, k.lst h1, h2.kn k⟩
theorem NotesAt.k0 {nt : Addr} {ns : List Note} (h : NotesAt M H nt ns) (k : K0 H H1) : NotesAt M H1 nt ns := by
  obtain ⟨xs, h1, h2⟩ := h
  exact ⟨xs, k.at0 h1, h2.kp k.up⟩
theorem NotesAt.mono {nt : Addr} {ns : List Note} (h : NotesAt M H nt ns) (m : ∀ b, M' b → M b) : NotesAt M' H nt ns := by
  obtain ⟨xs, h1, h2⟩ := h
  exact ⟨xs, h1, h2.mono m⟩
/-- a part of what may change is touched, but not the list -/
theorem NotesAt.kx {M1 : Addr → Prop} {nt : Addr} {ns : List Note} (h : NotesAt M H nt ns) (k : Kp M1 H H1) (m : ∀ b, M1 b → M b) (n : ¬ M1 nt) : NotesAt M H1 nt ns := by
  obtain ⟨xs, h1, h2⟩ := h
  exact ⟨xs, k.st h1 n, h2.kp (k.mono m)⟩
end
/-! ### plans, lots -/
abbrev Plan := List Deed × Nat
def PlanAt (M : Addr → Prop) (H : Hp) (t : Addr) (pl : Plan) : Prop := ∃ l, H t = some (.tup [.ref l, .int (pl.2 : Nat)]) ∧ ¬ M l ∧ LotAt H l pl.1
def OkPlan (pl : Plan) : Prop := OkLot pl.1 ∧ pl.2 < 5
def Lz (M : Addr → Prop) (H : Hp) : List (List Deed) → List V → Prop
  | [], [] => True
  | n :: r, x :: r' => (∃ l, x = V.ref l ∧ ¬ M l ∧ LotAt H l n) ∧ Lz M H r r'
  | _, _ => False
def LotsAt (M : Addr → Prop) (H : Hp) (a : Addr) (ls : List (List Deed)) : Prop := ∃ xs, H a = some (.lst xs) ∧ ¬ M a ∧ Lz M H ls xs
section
variable {M M' : Addr → Prop} {H H1 : Hp}
theorem Dz.kn (k : Kn H H1) : ∀ {ds : List Deed} {xs : List V}, Dz H ds xs → Dz H1 ds xs
  | [], [], _ => True.intro
  | _ :: _, _ :: _, ⟨⟨t, e, h⟩, r⟩ => ⟨⟨t, e, k.tup h⟩, Dz.kn k r⟩
  | [], _ :: _, h => h.elim
  | _ :: _, [], h => h.elim
theorem LotAt.kn {l : Addr} {ds : List Deed} (x : LotAt H l ds) (k : Kn H H1) : LotAt H1 l ds := by
  obtain ⟨xs, h1, h2⟩ := x
  exact ⟨xs, k.lst h1, h2.kn k⟩
theorem PlanAt.kp {t : Addr} {pl : Plan} (x : PlanAt M H t pl) (k : Kp M H H1) : PlanAt M H1 t pl := by
  obtain ⟨l, h1, h2, h3⟩ := x
  exact ⟨l, k.tup h1, h2, h3.st k h2⟩
theorem PlanAt.kn {t : Addr} {pl : Plan} (x : PlanAt M H t pl) (k : Kn H H1) : PlanAt M H1 t pl := by
  obtain ⟨l, h1, h2, h3⟩ := x
  exact ⟨l, k.tup h1, h2, h3.kn k⟩
theorem PlanAt.mono {t : Addr} {pl : Plan} (x : PlanAt M H t pl) (m : ∀ b, M' b → M b) : PlanAt M' H t pl := by
  obtain ⟨l, h1, h2, h3⟩ := x
  exact ⟨l, h1, fun z => h2 (m _ z), h3⟩
theorem Lz.kp (k : Kp M H H1) : ∀ {ls : List (List Deed)} {xs : List V}, Lz M H ls xs → Lz M H1 ls xs
  | [], [], _ => True.intro
  | _ :: _, _ :: _, ⟨⟨l, e, m, h⟩, t⟩ => ⟨⟨l, e, m, h.st k m⟩, Lz.kp k t⟩
  | [], _ :: _, h => h.elim
  | _ :: _, [], h => h.elim
theorem Lz.kn (k : Kn H H1) : ∀ {ls : List (List Deed)} {xs : List V}, Lz M H ls xs → Lz M H1 ls xs
  | [], [], _ => True.intro
  | _ :: _, _ :: _, ⟨⟨l, e, m, h⟩, t⟩ => ⟨⟨l, e, m, h.kn k⟩, Lz.kn k t⟩
  | [], _ :: _, h => h.elim
  | _ :: _, [], h => h.elim
theorem Lz.mono (m : ∀ b, M' b → M b) : ∀ {ls : List (List Deed)} {xs : List V}, Lz M H ls xs → Lz M' H ls xs
  | [], [], _ => True.intro
  | _ :: _, _ :: _, ⟨⟨l, e, m', h⟩, t⟩ => ⟨⟨l, e, fun z => m' (m _ z), h⟩, Lz.mono m t⟩
  | [], _ :: _, h => h.elim
  | _ :: _, [], h => h.elim
theorem Lz.len : ∀ {ls : List (List Deed)} {xs : List V}, Lz M H ls xs → xs.length = ls.length
  | [], [], _ => rfl
  | _ :: _, _ :: _, ⟨_, t⟩ => congrArg Nat.succ (Lz.len t)
  | [], _ :: _, h => h.elim
  | _ :: _, [], h => h.elim
theorem Lz.app : ∀ {ps qs : List (List Deed)} {xs ys : List V}, Lz M H ps xs → Lz M H qs ys → Lz M H (ps ++ qs) (xs ++ ys)
  | [], _, [], _, _, h => h
  | _ :: _, _, _ :: _, _, ⟨e, t⟩, h => ⟨e, Lz.app t h⟩
  | [], _, _ :: _, _, h, _ => h.elim
  | _ :: _, _, [], _, h, _ => h.elim
theorem Lz.get : ∀ {ls : List (List Deed)} {xs : List V} {i : Nat} {x : V}, Lz M H ls xs → xs[i]? = some x → ∃ ds l, ls[i]? = some ds ∧ x = V.ref l ∧ ¬ M l ∧ LotAt H l ds
  | d :: _, _ :: _, 0, _, ⟨⟨l, e, m, h⟩, _⟩, hx => by
    cases hx
    exact ⟨d, l, rfl, e, m, h⟩
  | _ :: r, _ :: _, i + 1, _, ⟨_, t⟩, hx => Lz.get (ls := r) t hx
  | [], [], _, _, _, hx => by cases hx
  | [], _ :: _, _, _, h, _ => h.elim
  | _ :: _, [], _, _, h, _ => h.elim
theorem LotsAt.kp {a : Addr} {ls : List (List Deed)} (x : LotsAt M H a ls) (k : Kp M H H1) : LotsAt M H1 a ls := by
  obtain ⟨xs, h1, h2, h3⟩ := x
  exact ⟨xs, k.st h1 h2, h2, h3.kp k⟩
theorem LotsAt.kn {a : Addr} {ls : List (List Deed)} (x : LotsAt M H a ls) (k : Kn H H1) : LotsAt M H1 a ls := by
  obtain ⟨xs, h1, h2, h3⟩ := x
  exact ⟨xs, k.lst h1, h2, h3.kn k⟩
theorem LotsAt.mono {a : Addr} {ls : List (List Deed)} (x : LotsAt M H a ls) (m : ∀ b, M' b → M b) : LotsAt M' H a ls := by
  obtain ⟨xs, h1, h2, h3⟩ := x
  exact ⟨xs, h1, fun z => h2 (m _ z), h3.mono m⟩
end
/-! ### what may change -/
/-- the tables of code objects -/
def Tb (b : Addr) : Prop := b = 1255 ∨ b = 1269 ∨ b = 1283
/-- .. and a library and its notes -/
def Mx (L nt : Addr) (b : Addr) : Prop := b = L ∨ b = nt ∨ Tb b
/-- all these stand there -/
def Std (H : Hp) (M : Addr → Prop) : Prop := ∀ b, M b → ∃ o, H b = some o
theorem Std.new {H : Hp} {M : Addr → Prop} {p : Addr} (s : Std H M) (n : H p = none) : ¬ M p := fun z => by
  obtain ⟨o, e⟩ := s p z
  rw [n] at e; cases e
theorem Std.kp {M M' : Addr → Prop} {H H1 : Hp} (s : Std H M) (k : Kp M' H H1) : Std H1 M := fun b z => by
  obtain ⟨o, e⟩ := s b z
  exact (k b o e).2
/-! ### the law in the plain -/
def lenL : Lib → Nat
  | [] => 0
  | s :: _ => s.ys.length
def innerD (l : Lib) (pl : Plan) : Lib × List Note × Option Err := match doneD l pl.1 with
  | (l', some e) => (l', [.lv (lenL l) (viewT l)], some e)
  | (l', none) => (l', [.lv (lenL l) (viewT l), .v (viewT l')], endE pl.2)
/-- how it ends, told -/
def wentT (m : Nat) : Option Err → Str × Str
  | none => ("back", (doneD' m).shown)
  | some e => errT e
def afterD (l : Lib) (r : Lib × List Note × Option Err) : Lib := match r.2.2 with
  | none => r.1
  | some _ => l
def actionD (l : Lib) (pl dp : Plan) : Lib × List Note × Option Err := match doneD l pl.1 with
  | (l', some e) => (l', [.lv (lenL l) (viewT l)], some e)
  | (l', none) => (afterD l' (innerD l' dp), [.lv (lenL l) (viewT l), .v (viewT l')] ++ (innerD l' dp).2.1 ++ [.told (wentT dp.2 (innerD l' dp).2.2), .v (viewT (afterD l' (innerD l' dp)))], endE pl.2)
end SK
set_option maxHeartbeats 4000000
/-! SkO3: _law_inner, _law_twin. -/
namespace SK
open PySem PySem.Spec PyProof.Rows L2 L2H
theorem kept_lt {ys : List (Str × Int × Int)} : ∀ {ps : List (Str × Int)} {o i : Nat}, kept ys ps o = some i → i < o + ps.length
  | [], _, _, h => by cases h
  | (n, m) :: r, o, i, h => by
    rw [List.length_cons]
    unfold kept at h
    split at h
    · have := kept_lt h
      omega
    · cases h
      omega
theorem uses_lt {n : Str} : ∀ {ps : List (Str × Int)} {o i : Nat}, i ∈ uses ps n o → i < o + ps.length
  | [], _, _, h => by cases h
  | (k, m) :: r, o, i, h => by
    rw [List.length_cons]
    unfold uses at h
    split at h
    · rcases List.mem_cons.mp h with z | z
      · omega
      · have := uses_lt z
        omega
    · have := uses_lt h
      omega
theorem become_okE {l l' : Lib} {ys : List (Str × Int × Int)} {ps : List (Str × Int)} {e : Err} (hp : ps.length < 1000) (h : become l ys ps = (l', some e)) : OkE e := by
  unfold become at h
  cases eK : kept ys ps 0 with
  | none => rw [eK] at h; cases h
  | some i =>
    rw [eK] at h
    cases h
    have := kept_lt eK
    show i < 1000
    omega
theorem deed_okE {k : Nat} {l l' : Lib} {d : Deed} {e : Err} (h : WfL k l) (hk : k < 900) (hd : OkD d) (he : deedD l d = (l', some e)) : OkE e := by
  obtain ⟨hw, ht, hm⟩ := hd
  unfold deedD at he
  match l, h with
  | [], h =>
    split at he
    · cases he
    · split at he
      · cases he
      · split at he
        · cases he
        · split at he
          · cases he
          · cases he; trivial
  | s :: r, h =>
    obtain ⟨w1, w2, w3, w4, w5⟩ := h.2 s (by simp)
    split at he
    · exact become_okE (by omega) he
    · split at he
      · rw [wishD_cons] at he
        split at he
        · refine become_okE ?_ he
          rw [List.length_append]
          show _ + 1 < _
          omega
        · cases he
          exact ht
      · split at he
        · rw [removeD_cons] at he
          split at he
          · split at he
            · exact become_okE (by omega) he
            · rename_i i t hu
              cases he
              have := uses_lt (n := d.tag) (ps := s.ps) (o := 0) (i := i) (by rw [hu]; simp)
              show i < 1000
              omega
          · cases he
            exact ht
        · split at he
          · rw [liftD_cons] at he
            split at he
            · refine become_okE ?_ he
              rw [List.length_append, List.length_take, List.length_drop]
              omega
            · cases he
              show 0 ≤ ((d.many : Nat) : Int) ∧ ((d.many : Nat) : Int) < 1000
              omega
          · match r, he with
            | [], he => cases he; trivial
            | _ :: _, he => cases he
theorem done_okE : ∀ {ds : List Deed} {k : Nat} {l l' : Lib} {e : Err}, WfL k l → k + ds.length < 900 → (∀ d ∈ ds, OkD d) → doneD l ds = (l', some e) → OkE e
  | [], _, _, _, _, _, _, _, h => by cases h
  | d :: r, k, l, l', e, wf, hk, hd, h => by
    rw [List.length_cons] at hk
    rw [doneD_cons] at h
    have w1 := deed_wf wf (hd d (by simp))
    cases eD : deedD l d with
    | mk l1 oe =>
      rw [eD] at h w1
      cases oe with
      | none => exact done_okE (ds := r) w1 (by omega) (fun x hx => hd x (List.mem_cons_of_mem _ hx)) h
      | some e1 =>
        cases h
        exact deed_okE wf (by omega) (hd d (by simp)) eD
theorem innerD_err {l l' : Lib} {pl : Plan} {e : Err} (h : doneD l pl.1 = (l', some e)) : innerD l pl = (l', [.lv (lenL l) (viewT l)], some e) := by
  unfold innerD
  rw [h]
theorem innerD_ok {l l' : Lib} {pl : Plan} (h : doneD l pl.1 = (l', none)) : innerD l pl = (l', [.lv (lenL l) (viewT l), .v (viewT l')], endE pl.2) := by
  unfold innerD
  rw [h]
theorem endE_ok {m : Nat} {e : Err} (h : endE m = some e) : OkE e := by
  match m, h with
  | 0, h => cases h; trivial
  | 1, h => cases h; trivial
  | 2, h => cases h; trivial
  | m + 3, h => cases h
section
variable {P : Program} {w : World} {K : PySem.W.Frag} {mg : Str → Option Value} {base : Heap}
/-- a note more -/
theorem NotesAt.app {M : Addr → Prop} {H : Hp} {nt : Addr} {ns : List Note} {xs : List V} {n : Note} {x : V} (hm : M nt) (e : H nt = some (.lst xs)) (z : Nz M H ns xs) (h : NoteAt M H n x) : Kp (· = nt) H (upd H nt (.lst (xs ++ [x]))) ∧ NotesAt M (upd H nt (.lst (xs ++ [x]))) nt (ns ++ [n]) := by
  have k : Kp (· = nt) H (upd H nt (.lst (xs ++ [x]))) := (Kp.refl H).put rfl e fun z => z
  have k' : Kp M H (upd H nt (.lst (xs ++ [x]))) := k.mono fun b z => by rw [z]; exact hm
  exact ⟨k, _, upd_same, Nz.app (z.kp k') ⟨h.kp k', True.intro⟩⟩
def spInner : Sp := fun vs H Q E => ∃ L pl nt l k pd ns M, vs = [.ref L, .ref L, .ref pl, .ref nt] ∧ LibAt H L l ∧ WfL k l ∧ k < 700 ∧ PlanAt M H pl pd ∧ OkPlan pd ∧ NotesAt M H nt ns ∧ ns.length < 100 ∧ L ≠ nt ∧ M L ∧ M nt ∧ Std H M ∧
  ∀ H', Kp (fun b => b = L ∨ b = nt) H H' → LibAt H' L (innerD l pd).1 → NotesAt M H' nt (ns ++ (innerD l pd).2.1) → match (innerD l pd).2.2 with
    | none => ∀ p, H' p = some (.lst [.str "done", .int (pd.2 : Nat)]) → Q (.ref p) H'
    | some e => OkE e → ∀ c d, ErrAt H' e c d → E c d H'
theorem sc103 : FnScope ["_law_deep", "_law_shelf", "_law_plan_here", "_law_notes"] ["_law_deep", "_law_shelf", "_law_plan_here", "_law_notes"] (defScope (top 103)) := ⟨rfl, rfl, rfl, by decide +kernel, rfl, by decide +kernel, by decide +kernel⟩
theorem k_inner (T : Tx K mg) : FnG P w K mg base (L2N.CX P w) 10 1253 spInner := by
  obtain ⟨fd, F⟩ := T.f_law_inner
  obtain ⟨fdv, Fv⟩ := T.f_law_shelf_view
  obtain ⟨fdd, Fd⟩ := T.f_law_done
  obtain ⟨fde, Fe⟩ := T.f_law_ending
  refine fng_of F sc103 (F.bindsN fun _ _ _ _ _ _ us hl => match us, hl with | [_, _, _, _], _ => rfl) (fun vs H Q E h => ?_) (fun cdv A outer s H vs Q E hr hg h => ⟨_,
    pss_cons (ps_expr (pe_bm PySem.F.plainAttrs_list PySem.F.slot_list_append PySem.F.type_list_append mt_append (pv 3) (pa_cons (pe_lst (pa_cons (pe_callB (call_lenG T.sLibrary__len__ (k_llen T) (hr.mono (by decide)) hg noXN) rfl T.blen PySem.boot_len (pa_cons (pv 0) pa_nil) (by decide) (by decide) rfl rfl)
      (pa_cons (pe_g (E := EF) (k_view T) (hr.mono (by decide)) hg (passF noXN) rfl T.g_law_shelf_view Fv.kp (pa_cons (pv 1) pa_nil)) pa_nil))) pa_nil)))
    (pss_cons (ps_expr (pe_g (E := WE fun c d _ H => E c d H) (k_done T) hr hg (L2N.passAt (L2N.takes_of rfl rfl rfl rfl)) rfl T.g_law_done Fd.kp (pa_cons (pv 0) (pa_cons (pv 1) (pa_cons (pe_ix ix_tup (pv 2) pe_int (fun _ _ => rfl)) pa_nil)))))
    (pss_cons (ps_expr (pe_bm PySem.F.plainAttrs_list PySem.F.slot_list_append PySem.F.type_list_append mt_append (pv 3) (pa_cons (pe_g (E := EF) (k_view T) (hr.mono (by decide)) hg (passF noXN) rfl T.g_law_shelf_view Fv.kp (pa_cons (pv 1) pa_nil)) pa_nil)))
    (pss_one (ps_ret (pe_g (E := WE fun c d _ H => E c d H) (k_ending T) (hr.mono (by decide)) hg (L2N.passAt (L2N.takes_of rfl rfl rfl rfl)) rfl T.g_law_ending Fe.kp (pa_cons (pe_ix ix_tup (pv 2) pe_int (fun _ _ => rfl)) pa_nil)))))), ?_⟩)
  · obtain ⟨_, _, _, _, _, _, _, _, rfl, _⟩ := h
    rfl
  · obtain ⟨L, pl, nt, l, k, pd, ns, M, rfl, hL, wf, hk, hpl, hok, hnt, hns, hLn, hML, hMn, hstd, q⟩ := h
    match l, hL, wf, q with
    | [], ⟨_, _, _, z⟩, _, _ => exact z.elim
    | s :: r, hL, wf, q =>
      obtain ⟨dl, p, el, _⟩ := id hL
      obtain ⟨xs, en, hz⟩ := id hnt
      obtain ⟨lt, ep, hlt, hlot⟩ := id hpl
      have ol := okn_len (wf.2 s (by simp)).1
      have hxl := hz.len
      refine ⟨_, rfl, .inl ⟨rfl, _, SqL.of en⟩, ?_⟩
      refine ⟨_, rfl, L, dl, _, rfl, el, L, s, r, rfl, hL, _, rfl, by omega, by omega, ?_⟩
      refine ⟨_, rfl, L, s :: r, k, rfl, hL, wf, by omega, fun H1 k1 => ?_⟩
      refine ⟨by show 2 ≤ sizeLine; rw [sizeLine_eq]; omega, fun p1 n1 => ?_⟩
      have k2 := k1.new (o := .lst [.int (s.ys.length : Nat), .str (viewT (s :: r))]) n1
      have en2 := k2.at0 en
      refine ⟨nt, xs, _, rfl, rfl, en2, by rw [sizeLine_eq]; omega, ?_⟩
      have std2 := hstd.kp k2
      obtain ⟨k3, hn3⟩ := NotesAt.app (M := M) (n := .lv (lenL (s :: r)) (viewT (s :: r))) (x := .ref p1) hMn en2 (hz.kp k2.up) ⟨p1, rfl, hstd.new (k1.none n1), upd_same⟩
      generalize hH3 : upd (upd H1 p1 (.lst [.int (s.ys.length : Nat), .str (viewT (s :: r))])) nt (.lst (xs ++ [.ref p1])) = H3 at k3 hn3 ⊢
      have mM : ∀ b, (b = L ∨ b = nt) → M b := fun b z => z.elim (fun z => by rw [z]; exact hML) fun z => by rw [z]; exact hMn
      have mn : ∀ b, b = nt → (b = L ∨ b = nt) := fun b z => .inr z
      have mL : ∀ b, b = L → (b = L ∨ b = nt) := fun b z => .inl z
      have k03 := (k2.up (M := fun b => b = L ∨ b = nt)).trans (k3.mono mn)
      have hL3 : LibAt H3 L (s :: r) := (hL.k0 k2).st k3 hLn
      have hpl3 := hpl.kp (k03.mono mM)
      obtain ⟨lt', ep', _, hlot'⟩ := id hpl3
      refine ⟨_, rfl, _, rfl, _, rfl, pl, _, 0, .ref lt', rfl, rfl, SqT.of ep', rfl, ?_⟩
      refine ⟨L, lt', s :: r, k, pd.1, rfl, hL3, hlot', hok.1, wf, by omega, fun H4 k4 hL4 => ?_⟩
      have k04 := k03.trans (k4.mono mL)
      have hn4 := hn3.kx k4 (fun b z => mM b (mL b z)) (fun z => hLn z.symm)
      cases eD : doneD (s :: r) pd.1 with
      | mk l' oe =>
        rw [eD] at hL4
        cases oe with
        | some e =>
          rw [innerD_err eD] at q
          exact fun c d he => q H4 k04 hL4 hn4 (done_okE wf (by have := hok.1.1; omega) hok.1.2 eD) c d he
        | none =>
          rw [innerD_ok eD] at q
          have wf' : WfL (k + pd.1.length) l' := by
            have := done_wf (ds := pd.1) wf hok.1.2
            rw [eD] at this
            exact this
          obtain ⟨ys, en4, hz4⟩ := id hn4
          have hyl := hz4.len
          rw [List.length_append] at hyl
          have hyl2 : ys.length = ns.length + 1 := hyl
          refine ⟨_, rfl, .inl ⟨rfl, _, SqL.of en4⟩, ?_⟩
          refine ⟨_, rfl, L, l', k + pd.1.length, rfl, hL4, wf', by have := hok.1.1; omega, fun H5 k5 => ?_⟩
          have en5 := k5.at0 en4
          refine ⟨nt, ys, _, rfl, rfl, en5, by rw [sizeLine_eq]; omega, ?_⟩
          obtain ⟨k6, hn6⟩ := NotesAt.app (M := M) (n := .v (viewT l')) (x := .str (viewT l')) hMn en5 (hz4.kp k5.up) rfl
          generalize hH6 : upd H5 nt (.lst (ys ++ [.str (viewT l')])) = H6 at k6 hn6 ⊢
          have k06 := (k04.trans k5.up).trans (k6.mono mn)
          have hL6 : LibAt H6 L l' := (hL4.k0 k5).st k6 hLn
          obtain ⟨lt6, ep6, _, _⟩ := hpl.kp (k06.mono mM)
          refine ⟨_, rfl, pl, _, 1, .int (pd.2 : Nat), rfl, rfl, SqT.of ep6, rfl, ?_⟩
          refine ⟨pd.2, rfl, hok.2, fun H7 k7 => ?_⟩
          have z := q H7 (k06.trans k7.up) (hL6.k0 k7) (by rw [show ns ++ [Note.lv (lenL (s :: r)) (viewT (s :: r)), Note.v (viewT l')] = (ns ++ [Note.lv (lenL (s :: r)) (viewT (s :: r))]) ++ [Note.v (viewT l')] by simp]; exact hn6.k0 k7)
          cases ee : endE pd.2 with
          | none =>
            rw [ee] at z
            exact fun p hp _ => z p hp
          | some e =>
            rw [ee] at z
            exact fun c d he => z (endE_ok ee) c d he
/-- another library on which all lots were done -/
def twinFrom : Lib → List (List Deed) → Lib
  | l, [] => l
  | l, ds :: r => twinFrom (doneD l ds).1 r
def l0 : Lib := [⟨[], []⟩]
abbrev twinD (ls : List (List Deed)) : Lib := twinFrom l0 ls
/-- all lots go through -/
def Thru : Lib → List (List Deed) → Prop
  | _, [] => True
  | l, ds :: r => (doneD l ds).2 = none ∧ Thru (doneD l ds).1 r
theorem twinFrom_app : ∀ {l : Lib} {a b : List (List Deed)}, twinFrom l (a ++ b) = twinFrom (twinFrom l a) b
  | _, [], _ => rfl
  | _, _ :: r, _ => twinFrom_app (a := r)
theorem thru_app : ∀ {l : Lib} {a b : List (List Deed)}, Thru l a → Thru (twinFrom l a) b → Thru l (a ++ b)
  | _, [], _, _, h => h
  | _, _ :: r, _, ⟨h1, h2⟩, h => ⟨h1, thru_app (a := r) h2 h⟩
theorem l0_wf : WfL 1 l0 := ⟨Nat.le_refl _, fun s hs => by
  rw [List.mem_singleton.mp hs]
  exact ⟨⟨(fun _ z => nomatch z), List.nodup_nil⟩, (fun _ z => nomatch z), Nat.zero_le _, (fun _ z => nomatch z), (fun _ z => nomatch z)⟩⟩
theorem twin_wf : ∀ {ls : List (List Deed)} {k : Nat} {l : Lib}, WfL k l → (∀ ds ∈ ls, OkLot ds) → WfL (k + 4 * ls.length) (twinFrom l ls)
  | [], _, _, h, _ => h
  | ds :: r, k, l, h, ho => by
    have h1 := done_wf h (ho ds (by simp)).2
    have h2 : WfL (k + 4) (doneD l ds).1 := h1.mono (by have := (ho ds (by simp)).1; omega)
    have z := twin_wf (ls := r) h2 (fun x hx => ho x (List.mem_cons_of_mem _ hx))
    rw [List.length_cons, show k + 4 * (r.length + 1) = k + 4 + 4 * r.length by omega]
    exact z
def spTwin : Sp := fun vs H Q _ => ∃ a ls, vs = [.ref a] ∧ LotsAt (fun b => H b = none) H a ls ∧ (∀ ds ∈ ls, OkLot ds) ∧ ls.length < 50 ∧ Thru l0 ls ∧ ∀ H' L, K0 H H' → LibAt H' L (twinD ls) → H L = none → Q (.ref L) H'
end
end SK
set_option maxHeartbeats 4000000
/-! SkO4: _law_twin, _law_lot_due. -/
namespace SK
open PySem PySem.Spec PyProof.Rows L2 L2H
theorem k0_own {H H1 H2 : Hp} {L : Addr} (k : K0 H H1) (k2 : Kp (· = L) H1 H2) (n : H L = none) : K0 H H2 := fun b o e => by
  have e2 := k2.st (k.at0 e) (ne_of_none e n)
  exact ⟨fun _ => e2, o, e2⟩
theorem LotAt.k0 {H H1 : Hp} {l : Addr} {ds : List Deed} (x : LotAt H l ds) (k : K0 H H1) : LotAt H1 l ds := x.st k id
theorem twinFrom_take {l : Lib} {ls : List (List Deed)} {i : Nat} {ds : List Deed} (h : ls[i]? = some ds) : twinFrom l (ls.take (i + 1)) = (doneD (twinFrom l (ls.take i)) ds).1 := by
  rw [List.take_succ, h, twinFrom_app]
  rfl
theorem thru_at : ∀ {ls : List (List Deed)} {l : Lib} {i : Nat} {ds : List Deed}, Thru l ls → ls[i]? = some ds → (doneD (twinFrom l (ls.take i)) ds).2 = none
  | _ :: _, _, 0, _, h, e => by cases e; exact h.1
  | _ :: r, _, i + 1, _, h, e => thru_at (ls := r) h.2 e
  | [], _, _, _, _, e => by cases e
section
variable {P : Program} {w : World} {K : PySem.W.Frag} {mg : Str → Option Value} {base : Heap}
def spTwin' : Sp := fun vs H Q _ => ∃ M a ls, vs = [.ref a] ∧ LotsAt M H a ls ∧ (∀ ds ∈ ls, OkLot ds) ∧ ls.length < 50 ∧ Thru l0 ls ∧ ∀ H' L, K0 H H' → LibAt H' L (twinD ls) → H L = none → Q (.ref L) H'
theorem sc105 : FnScope ["_law_kept_lots", "_law_mate", "_law_deeds_here"] ["_law_kept_lots"] (defScope (top 105)) := ⟨rfl, rfl, rfl, by decide +kernel, rfl, by decide +kernel, by decide +kernel⟩
theorem k_twin (T : Tx K mg) : FnG P w K mg base (L2N.CX P w) 10 1267 spTwin' := by
  obtain ⟨fd, F⟩ := T.f_law_twin
  obtain ⟨fdd, Fd⟩ := T.f_law_done
  refine fng_of F sc105 (F.bindsN fun _ _ _ _ _ _ us hl => match us, hl with | [_], _ => rfl) (fun vs H Q E h => ?_) (fun cdv A outer s H vs Q E hr hg h => ⟨_,
    pss_cons (ps_set (i := 1) sc105.nd rfl (Or.inl rfl) (pe_makeG0 (E := EF) T.mkLibrary (k_libinit T) (hr.mono (by decide)) hg (passF noXN) rfl T.gLibrary))
    (pss_cons (ps_for PassesOwn.leaving rfl (pi_list (pv 0)) (pg_name (i := 2) sc105.nd rfl (Or.inl rfl))
      (pss_one (ps_expr (pe_g (E := WE fun c d _ H => E c d H) (k_done T) hr hg (L2N.passAt (L2N.takes_of rfl rfl rfl rfl)) rfl T.g_law_done Fd.kp (pa_cons (pv 1) (pa_cons (pv 1) (pa_cons (pv 2) pa_nil)))))))
    (pss_one (ps_ret (pv 1)))), ?_⟩)
  · obtain ⟨_, _, _, rfl, _⟩ := h
    rfl
  · obtain ⟨M, a, ls, rfl, hls, hok, hlen, hth, q⟩ := h
    intro x dx n1 n2 ne
    refine ⟨x, dx, rfl, upd_same, fun H1 h1 hL => ⟨rfl, ?_⟩⟩
    have k1 : K0 H H1 := by
      obtain ⟨dl, p, el, _⟩ := id hL
      exact made_kp n1 n2 ne h1 ⟨_, el⟩
    obtain ⟨xs, ea, _, hz⟩ := hls
    have hxl := hz.len
    refine ⟨_, rfl, a, rfl, ⟨_, SqL.of (k1.at0 ea)⟩, for_it (walk_list (xs := xs)) (fun i σ H' => K0 H H' ∧ LibAt H' x (twinFrom l0 (ls.take i)) ∧ ∃ u : Option V, σ = [some (.ref a), some (.ref x), u]) ⟨k1, hL, none, rfl⟩ (fun i σ H' _ z => SqL.of (z.1.at0 ea)) ?_ ?_⟩
    · rintro i y σ H2 H3 hi ⟨k2, hL2, u, rfl⟩ ⟨e3, hy⟩
      obtain rfl : H2 = H3 := e3.symm
      obtain ⟨ds, l, e1, rfl, _, hl⟩ := hz.get hy
      have wf := twin_wf (ls := ls.take i) l0_wf (fun d hd => hok d (List.mem_of_mem_take hd))
      have hlt : (ls.take i).length ≤ i := by rw [List.length_take]; omega
      refine ⟨_, rfl, _, rfl, _, rfl, x, l, twinFrom l0 (ls.take i), _, ds, rfl, hL2, hl.k0 k2, hok ds (List.mem_of_getElem? e1), wf, by omega, fun H4 k4 hL4 => ?_⟩
      have ed := thru_at hth e1
      rw [ed]
      exact ⟨k0_own k2 k4 n1, by rw [twinFrom_take e1]; exact hL4, _, rfl⟩
    · rintro σ H2 ⟨k2, hL2, u, rfl⟩
      rw [hxl, List.take_length] at hL2
      exact ⟨_, rfl, q H2 x k2 hL2 n1⟩
end
end SK
set_option maxHeartbeats 4000000
/-! SkO5: lambdas made (all but their table stays), calls with locked cells told with the context's facts; what calls ask may be weakened. -/
namespace SK
open PySem PySem.Spec PyProof.Rows L2 L2H
section
variable {X : Cx} {k : Nat} {f : Addr} {sp : Sp} {W : WX} {x : Str} {p pos : Pos} {e : Expr} {es : List Expr} {t : TA}
def tCallLk (X : Cx) (sp : Sp) (W : WX) (t : TA) : TE := fun σ H Q => t σ H fun vs H1 => ∀ L, X.Ok → CellsL X σ L → (∀ b o, L.lookup b = some o → H1 b = none) → sp vs (lock L H1) (QL L Q) (XL L (WE W σ))
theorem pe_gLk (F : FnG X.prog X.w X.K X.mg X.base (L2N.CX X.prog X.w) k f sp) (hr : Room k X.A) (hg : X.A.guards = some []) (tk : L2N.Takes X W) (hs : X.stack = X.env :: X.outer) (hf : X.env.frame = some X.env.locals) (hn : (X.env.cells.map (·.1)).Nodup) (hfn : ∀ x, X.fn x = true)
    (hgl : Gl X x) (hm : X.mg x = some (.ref f)) (hk : PySem.W.keepIn X.K (.ref f) = true)
    (ha : PA X (e :: es) t) (hdb : (x == ("__debug__" : Str)) = false := by decide) (he : starEach (e :: es) X.env = (false, eval e X.env) :: starEach es X.env := by rfl) (hpl : (backTo pos (starEach es X.env)).any (·.1) = false := by rfl) :
    PE X (.Call (.Name x p) (e :: es) [] pos) (tCallLk X sp W t) := by
  refine ⟨fun pins s σ H Q I h => wpAny_Call_Name_kw (ld_glob I hgl hm ?_ hdb)⟩
  refine PySem.W.callWith_K (h₀ := X.base) I.ok.mod.kin hk (thn (ha.run pos pins s σ H _ I h) fun us s1 ⟨vs, H1, I1, r, q⟩ => ⟨I1.kIn, ?_⟩) he hpl
  obtain ⟨L, rd, nb, cl⟩ := cells_ready I1 hs hf hn hfn
  exact run_gL F hr hg tk I1 rd nb r (q L I1.ok cl fun b o z => (rd b o z).2.1)
/-- the object at f is new, the table at P may have grown, all else stays -/
def tLamb2 (X : Cx) (T : List (Addr × Str)) (P : Addr) (params : Arguments) (body : Expr) (scope : Scope) : TE := fun _ H Q => LamX.Tabs T H ∧ ∀ (f c' : Addr) (H1 : Hp), Kp (· = P) H H1 → LamX.Tabs T H1 → H f = none → H1 f = some (LamO f (lfOf X params body scope c')) → H1 c' = some (LamX.CodeO c' (X.env.qual ++ "<lambda>")) → Q (.ref f) H1
theorem pe_lam2 {T : List (Addr × Str)} {c P : Addr} {params : Arguments} {body : Expr} {scope : Scope} {pos : Pos} (TB : LamX.TabB X.base X.mg c P) (hcode : X.env.code = .ref c) (hm : (P, X.env.qual ++ "<lambda>") ∈ T) (hu : ∀ p ∈ T, p.1 = P → p.2 = X.env.qual ++ "<lambda>")
    (hfree : ∀ y ∈ scope.names, y.2 = .free → X.env.scope.names.lookup y.1 = some .cell ∨ X.env.scope.names.lookup y.1 = some .free) (hdef : defaultsOf params X.env = ([], [])) : PE X (.Lambda params body scope pos) (tLamb2 X T P params body scope) := by
  refine ⟨fun pins s σ H Q I h => ?_⟩
  obtain ⟨hT, h⟩ := h
  have hfr : ∀ y ∈ scope.names, y.2 = .free → ∃ c, X.env.cells.lookup y.1 = some c := fun y hy e => (hfree y hy e).elim (fun z => I.ok.has _ (.inl z)) fun z => I.ok.has _ (.inr z)
  obtain ⟨ps, hP, ht, ha⟩ := hT _ hm
  refine PySem.W.kla_eval hdef ?_
  have bP : s.heap.BuiltinsAt X.mg P := TB.bm.keeps I.bk
  have hP' : s.heap.get? P = some { cls := .none, data := .fields ps } := I.hok P _ hP
  cases hc : codeAmong pos ps.toList with
  | none =>
    refine PySem.W.kla_makeFunction (mg := X.mg) (c := c) (P := P) (ps := ps) (closure_ok hfr) I.ok.glob (I.mod.glob.keeps I.bk) hcode (TB.code.keeps I.bk) hP' ht hc TB.gP bP fun c' ctv h' tk hx hge hlt hrec htb => ?_
    obtain ⟨c2, oc, vs, t, e2, hoc, hd, hv⟩ := hrec
    cases e2
    have nC : H c' = none := I.hok.fresh hge
    have I1 := LamX.inv_table (t' := tk) (more := #[rawInt pos.line, rawInt pos.col, .ref c']) (h' := h') I hP (fun b o hb e => hx b o hb e) htb hge ⟨oc, vs, t, hoc, hd, hv⟩
    have hK : Kp (· = P) H (upd (upd H P (.tbl (ps ++ #[rawInt pos.line, rawInt pos.col, .ref c']))) c' (LamX.CodeO c' (X.env.qual ++ "<lambda>"))) := by
      have h0 : Kp (· = P) H (upd H P (.tbl (ps ++ #[rawInt pos.line, rawInt pos.col, .ref c']))) := (Kp.refl H).put (a := P) (o' := .tbl ps) rfl hP (fun z => z)
      exact h0.new (by rw [upd_ne (Ne.symm (ne_of_none hP nC))]; exact nC)
    have hE : LamX.ExtN H (upd (upd H P (.tbl (ps ++ #[rawInt pos.line, rawInt pos.col, .ref c']))) c' (LamX.CodeO c' (X.env.qual ++ "<lambda>"))) := fun b o e n => hK.st e fun z => n ps (Option.some.inj (e.symm.trans (by rw [z]; exact hP)))
    have eL : (ps ++ #[rawInt pos.line, rawInt pos.col, .ref c']).toList = ps.toList ++ [rawInt pos.line, rawInt pos.col, .ref c'] := by simp
    have T1 : LamX.Tabs T (upd (upd H P (.tbl (ps ++ #[rawInt pos.line, rawInt pos.col, .ref c']))) c' (LamX.CodeO c' (X.env.qual ++ "<lambda>"))) := fun p hp => by
      by_cases hb : p.1 = P
      · rw [hu p hp hb, hb]
        refine ⟨_, by rw [upd_ne (ne_of_none hP nC), upd_same], by rw [eL]; exact PySem.TriplesOk_snoc _ _ _ _ ht, fun p' cv hcv => ?_⟩
        rw [eL] at hcv
        rcases LamX.among_app _ ht hcv with z | z
        · obtain ⟨c0, e1, e2⟩ := ha p' cv z
          exact ⟨c0, e1, hE _ _ e2 LamX.codeO_ne⟩
        · exact ⟨c', z, upd_same⟩
      · obtain ⟨ps', a1, a2, a3⟩ := hT p hp
        refine ⟨ps', by rw [upd_ne (ne_of_none a1 nC), upd_ne hb]; exact a1, a2, fun p' cv hcv => ?_⟩
        obtain ⟨c0, e1, e2⟩ := a3 p' cv hcv
        exact ⟨c0, e1, hE _ _ e2 LamX.codeO_ne⟩
    have nF := I1.hok.fresh (Nat.le_refl _)
    have I2 := inv_lam (F := lfOf X params body scope c') (t' := tk) (pm := (X.mg "__name__").getD .none) (ctv := ctv) I1
    exact ⟨.ref h'.objs.size, _, I2, rfl, h h'.objs.size c' _ (hK.new nF) (T1.ext fun b o e => (upd_ne (ne_of_none e nF)).trans e) (I.hok.fresh (Nat.le_trans hge (Nat.le_of_lt hlt))) upd_same ((upd_ne (Nat.ne_of_lt hlt)).trans upd_same)⟩
  | some cv =>
    obtain ⟨c', e, hco⟩ := ha pos cv hc
    subst e
    refine PySem.W.kla_makeFunctionHit (mg := X.mg) (c := c) (P := P) (ps := ps) (closure_ok hfr) I.ok.glob (I.mod.glob.keeps I.bk) hcode (TB.code.keeps I.bk) hP' ht hc bP fun ctv h' tk hx hsz => ?_
    have I1 : Inv X pins σ H { s with heap := h', toks := tk } := I.kept hx
    have nF : H h'.objs.size = none := I1.hok.fresh (Nat.le_refl _)
    have I2 := inv_lam (F := lfOf X params body scope c') (t' := tk) (pm := (X.mg "__name__").getD .none) (ctv := ctv) I1
    exact ⟨.ref h'.objs.size, _, I2, rfl, h h'.objs.size c' _ (kp_new nF) (hT.ext fun b o e => (upd_ne (ne_of_none e nF)).trans e) nF upd_same ((upd_ne (ne_of_none hco nF)).trans hco)⟩
end
/-- what is wanted may be weakened -/
def Mono (sp : Sp) : Prop := ∀ vs H Q Q2 E E2, (∀ v H, Q v H → Q2 v H) → (∀ c d H, E c d H → E2 c d H) → sp vs H Q E → sp vs H Q2 E2
/-- a lambda's call, its own locks on the cells kept -/
theorem mono_lock {sp : Sp} (m : Mono sp) {L : List (Addr × Obj)} {H : Hp} {vs : List V} {Q : VK} {E : XK} (lk : Lkd L H) (h : sp vs H Q E) : sp vs (lock L (unlock L H)) (QL L fun v H' => Q v (lock L H')) (XL L fun c d H' => E c d (lock L H')) := by
  rw [lock_unlock lk]
  exact m _ _ _ _ _ _ (fun v H' q z => by show Q v (lock L (unlock L H')); rw [lock_unlock z]; exact q) (fun c d H' q z => by show E c d (lock L (unlock L H')); rw [lock_unlock z]; exact q) h
/-! ### the tables -/
def qAct : Str := (envOfC "_law_action" (defScope (top 104)) 0 0 .none).qual ++ "<lambda>"
def qLot : Str := (envOfC "_law_lot_due" (defScope (top 106)) 0 0 .none).qual ++ "<lambda>"
def qRig : Str := (envOfC "_law_right" (defScope (top 108)) 0 0 .none).qual ++ "<lambda>"
def T3 : List (Addr × Str) := [(1255, qAct), (1269, qLot), (1283, qRig)]
theorem t3_act : (1255, qAct) ∈ T3 := by simp [T3]
theorem t3_lot : (1269, qLot) ∈ T3 := by simp [T3]
theorem t3_rig : (1283, qRig) ∈ T3 := by simp [T3]
theorem t3_actU : ∀ p ∈ T3, p.1 = 1255 → p.2 = qAct := fun p hp e => by
  simp only [T3, List.mem_cons, List.not_mem_nil, or_false] at hp
  rcases hp with rfl | rfl | rfl
  · rfl
  · exact absurd e (by decide)
  · exact absurd e (by decide)
theorem t3_lotU : ∀ p ∈ T3, p.1 = 1269 → p.2 = qLot := fun p hp e => by
  simp only [T3, List.mem_cons, List.not_mem_nil, or_false] at hp
  rcases hp with rfl | rfl | rfl
  · exact absurd e (by decide)
  · rfl
  · exact absurd e (by decide)
theorem t3_rigU : ∀ p ∈ T3, p.1 = 1283 → p.2 = qRig := fun p hp e => by
  simp only [T3, List.mem_cons, List.not_mem_nil, or_false] at hp
  rcases hp with rfl | rfl | rfl
  · exact absurd e (by decide)
  · exact absurd e (by decide)
  · rfl
theorem tabs_kp {M : Addr → Prop} {H H1 : Hp} (t : LamX.Tabs T3 H) (k : Kp M H H1) (n : ∀ b, Tb b → ¬ M b) : LamX.Tabs T3 H1 := fun p hp => by
  obtain ⟨ps, h1, h2, h3⟩ := t p hp
  have hb : Tb p.1 := by
    simp only [T3, List.mem_cons, List.not_mem_nil, or_false] at hp
    rcases hp with rfl | rfl | rfl
    · exact .inl rfl
    · exact .inr (.inl rfl)
    · exact .inr (.inr rfl)
  refine ⟨ps, k.st h1 (n _ hb), h2, fun pos cv hc => ?_⟩
  obtain ⟨c, e1, e2⟩ := h3 pos cv hc
  exact ⟨c, e1, k.ext' e2⟩
theorem tabs_kn {H H1 : Hp} (t : LamX.Tabs T3 H) (k : Kn H H1) : LamX.Tabs T3 H1 := fun p hp => by
  obtain ⟨ps, h1, h2, h3⟩ := t p hp
  refine ⟨ps, k _ _ h1 fun _ _ z => (by cases z), h2, fun pos cv hc => ?_⟩
  obtain ⟨c, e1, e2⟩ := h3 pos cv hc
  exact ⟨c, e1, k.ext' e2⟩
theorem tabs_at {H : Hp} (t : LamX.Tabs T3 H) {b : Addr} (h : Tb b) : ∃ ps, H b = some (.tbl ps) := by
  rcases h with rfl | rfl | rfl
  · obtain ⟨ps, h1, _⟩ := t (1255, qAct) (by simp [T3])
    exact ⟨ps, h1⟩
  · obtain ⟨ps, h1, _⟩ := t (1269, qLot) (by simp [T3])
    exact ⟨ps, h1⟩
  · obtain ⟨ps, h1, _⟩ := t (1283, qRig) (by simp [T3])
    exact ⟨ps, h1⟩
theorem tb_ne {H : Hp} (t : LamX.Tabs T3 H) {b : Addr} {o : HO} (e : H b = some o) (n : ∀ ps, o ≠ .tbl ps) : ¬ Tb b := fun z => by
  obtain ⟨ps, h⟩ := tabs_at t z
  exact n ps (Option.some.inj (e.symm.trans h))
/-- the code objects of the defs that make lambdas -/
structure Ty (K : PySem.W.Frag) (mg : Str → Option Value) (base : Heap) : Prop where
  cA : codeOf K 1260 = some (.ref 1259)
  cL : codeOf K 1274 = some (.ref 1273)
  cR : codeOf K 1288 = some (.ref 1287)
  tA : LamX.TabB base mg 1259 1255
  tL : LamX.TabB base mg 1273 1269
  tR : LamX.TabB base mg 1287 1283
section
variable {P : Program} {w : World} {K : PySem.W.Frag} {mg : Str → Option Value} {base : Heap} {CX : CXT} {k : Nat} {f : Addr} {sp : Sp}
/-- a def's promise; its code object is told -/
theorem fng_ofC {x qual : Str} {st : Stmt} {fd : FuncData} {N ps : List Str} {c : Value} (F : FunD K x qual (defArgs st) (defBody st) (defScope st) [] [] f fd) (hc : codeOf K f = some c) (S : FnScope N ps (defScope st)) (hb : Binds K fd ps []) (len : ∀ vs H Q E, sp vs H Q E → vs.length = ps.length)
    (hbody : ∀ (A : Around) (outer : List Env) (s : Shared) (H : Hp) (vs : List V) (Q : VK) (E : XK), Room k (A.deeper (envOfC qual (defScope st) s.heap.objs.size f c)) → A.guards = some [] → sp vs H Q E →
      ∃ t, PSs (cxOf CX P w K mg base N qual (defScope st) f c A outer s H E) (defBody st) t ∧ t { nx := fun _ H' => Q .non H', rt := Q } (L2.start N vs) H) : FnG P w K mg base CX (k + 1) f sp := by
  intro A outer s H us vs Q E hr hg e0 r hsp
  obtain ⟨oc, od, dV, kV, doc, pm, an, cdv, ct, osl, rfl, lk, hcd, _, _⟩ := F.ex
  have ec : cdv = c := by
    unfold codeOf at hc
    rw [lk] at hc
    exact Option.some.inj hc
  subst ec
  have hl := len _ _ _ _ hsp
  have KX : K.In s.heap := e0.mod.kin.keeps fun b o e => (e0.bs b o e).1
  have hlu : us.length = ps.length := by rw [← r.length]; exact hl
  have hbt := hb s us KX (by rw [List.append_nil]; exact hlu)
  rw [List.append_nil] at hbt
  exact LamX.run_ofS lk hcd S hr e0 hbt r hl fun hr' => hbody A outer s H vs Q E hr' hg hsp
end
end SK
set_option maxHeartbeats 4000000
/-! SkO6: the lambdas of _law_action; the trial within the trial. -/
namespace SK
open PySem PySem.Spec PyProof.Rows L2 L2H
theorem inner_mono : Mono spInner := by
  intro vs H Q Q2 E E2 hq he h
  obtain ⟨L, pl, nt, l, k, pd, ns, M, h1, h2, h3, h4, h5, h6, h7, h8, h9, h10, h11, h12, q⟩ := h
  refine ⟨L, pl, nt, l, k, pd, ns, M, h1, h2, h3, h4, h5, h6, h7, h8, h9, h10, h11, h12, fun H' k' hL hn => ?_⟩
  have z := q H' k' hL hn
  cases e : (innerD l pd).2.2 with
  | none => rw [e] at z; exact fun p hp => hq _ _ (z p hp)
  | some e1 => rw [e] at z; exact fun ho c d hc => he _ _ _ (z ho c d hc)
section
variable {P : Program} {w : World} {K : PySem.W.Frag} {mg : Str → Option Value} {base : Heap}
theorem tried_mono {k : Nat} : Mono (spTried P w K mg base k) := by
  intro vs H Q Q2 E E2 hq he h
  obtain ⟨L, f, lam, p, h1, h2, h3, h4, q⟩ := h
  exact ⟨L, f, lam, p, h1, h2, h3, h4, fun H2 v b a1 a2 a3 a4 a5 a6 Q' E' b1 b2 => q H2 v b a1 a2 a3 a4 a5 a6 Q' E' (fun r H3 c1 c2 c3 c4 => b1 r H3 c1 c2 c3 fun H4 kk => hq _ _ (c4 H4 kk)) fun cls d H3 c1 c2 c3 c4 c5 => b2 cls d H3 c1 c2 c3 c4 fun H4 kk ss => he _ _ _ (c5 H4 kk ss)⟩
/-! ### the lambdas' words -/
def lamP : Expr → Arguments
  | .Lambda p _ _ _ => p
  | _ => ⟨[], [], none, [], [], none, []⟩
def lamB : Expr → Expr
  | .Lambda _ b _ _ => b
  | e => e
def lamS : Expr → Scope
  | .Lambda _ _ s _ => s
  | _ => ⟨.function, [], false, false, []⟩
def noE : Expr := .Constant .none 0 ⟨0, 0, 0, 0⟩
def asgE : Stmt → Expr
  | .Assign _ e _ => e
  | _ => noE
def exprE : Stmt → Expr
  | .Expr e _ => e
  | _ => noE
def argE : Expr → Nat → Expr
  | .Call _ as _ _, i => as.getD i noE
  | .Tuple as _ _, i => as.getD i noE
  | _, _ => noE
abbrev st (i j : Nat) : Stmt := (defBody (top i)).getD j (.Pass ⟨0, 0, 0, 0⟩)
/-- the lambda of the expression e -/
abbrev lfE (q : Str) (e : Expr) (cl : List (Str × Addr)) (c : Addr) : LF := ⟨q, lamP e, lamB e, lamS e, cl, c⟩
abbrev eIn : Expr := asgE (st 104 3)
abbrev eTr : Expr := argE (argE (exprE (st 104 4)) 0) 0
theorem sIn : NdefX.NScope ["_law_deep", "_law_deep_plan", "_law_notes", "_law_shelf"] ["_law_deep"] ["_law_deep_plan", "_law_notes", "_law_shelf"] (lamS eIn) := NdefX.nscope_by (by decide +kernel)
theorem sTr : NdefX.NScope ["_law_act", "_law_held"] [] ["_law_act", "_law_held"] (lamS eTr) := NdefX.nscope_by (by decide +kernel)
def spLIn : List (Option V) → Sp := fun ws vs H Q E => ∃ x dp nt sh, vs = [x] ∧ ws = [some dp, some nt, some sh] ∧ spInner [x, sh, dp, nt] H Q E
def spLTr (P : Program) (w : World) (K : PySem.W.Frag) (mg : Str → Option Value) (base : Heap) (k : Nat) : List (Option V) → Sp := fun ws vs H Q E => ∃ L f dx fs, vs = [] ∧ ws = [some (.ref f), some (.ref L)] ∧ H L = some (.ins 1155 dx fs) ∧ fs.lookup ("tried" : Str) = none ∧ spTried P w K mg base k [.ref L, .ref f] H Q E
theorem k_lIn (T : Tx K mg) (f : Addr) (cl : List (Str × Addr)) (c : Addr) : FnG P w K mg base (L2N.CX P w) 11 f (spLam f (lfE qAct eIn cl c) 1 ["_law_deep_plan", "_law_notes", "_law_shelf"] spLIn) := by
  obtain ⟨fdi, Fi⟩ := T.f_law_inner
  refine fng_lam (N := ["_law_deep", "_law_deep_plan", "_law_notes", "_law_shelf"]) (ps := ["_law_deep"]) (F := lfE qAct eIn cl c) (sp := spLIn) sIn (fun pm ctv us hl => match us, hl with | [_], _ => rfl) (fun A outer s H L vs ws Q E hr hg hv hw lk la h rd => ⟨_,
    pe_gL0 (W := fun c d _ H' => E c d (lock L H')) (L := L) (k_inner T) hr hg (L2N.takes_of rfl rfl rfl rfl) rd rfl T.g_law_inner Fi.kp (pa_cons (pv 0) (pa_cons (pv 3) (pa_cons (pv 1) (pa_cons (pv 2) pa_nil)))), ?_⟩)
  obtain ⟨x, dp, nt, sh, rfl, rfl, h⟩ := h
  exact ⟨_, rfl, _, rfl, _, rfl, _, rfl, mono_lock inner_mono lk h⟩
theorem k_lTr (T : Tx K mg) {k : Nat} (h3 : 3 ≤ k) (f : Addr) (cl : List (Str × Addr)) (c : Addr) : FnG P w K mg base (L2N.CX P w) (k + 2) f (spLam f (lfE qAct eTr cl c) 0 ["_law_act", "_law_held"] (spLTr P w K mg base k)) := by
  refine fng_lam (N := ["_law_act", "_law_held"]) (ps := []) (F := lfE qAct eTr cl c) (sp := spLTr P w K mg base k) sTr (fun pm ctv us hl => match us, hl with | [], _ => rfl) (fun A outer s H L vs ws Q E hr hg hv hw lk la h rd => ⟨_,
    pe_mgL0 (W := fun c d _ H' => E c d (lock L H')) (L := L) (pv 1) T.clLibrary T.mtried (k_tried T h3) hr hg (L2N.takes_of rfl rfl rfl rfl) rd (pa_cons (pv 0) pa_nil), ?_⟩)
  obtain ⟨Lb, f1, dx, fs, rfl, rfl, eL, hl, h⟩ := h
  exact ⟨_, rfl, Lb, dx, fs, rfl, (unlock_kn lk).ins eL, hl, _, rfl, mono_lock tried_mono lk h⟩
end
end SK
set_option maxHeartbeats 4000000
/-! SkO7: a trial, told. -/
namespace SK
open PySem PySem.Spec PyProof.Rows L2 L2H
theorem kp_trans {M M' : Addr → Prop} {H H1 H2 : Hp} (k : Kp M H H1) (k2 : Kp M' H1 H2) (h : ∀ b, M' b → M b ∨ H b = none) : Kp M H H2 := fun b o e => by
  obtain ⟨h1, o1, e1⟩ := k b o e
  refine ⟨fun z => ?_, (k2 b o1 e1).2⟩
  have e2 := h1 z
  refine (k2 b o e2).1 ?_
  rcases z with z | z
  · exact .inl z
  · exact .inr fun y => (h b y).elim z fun n => by rw [n] at e; cases e
/-- lists stay -/
def Kl (H H1 : Hp) : Prop := ∀ b xs, H b = some (.lst xs) → H1 b = some (.lst xs)
theorem kl_of {M : Addr → Prop} {H H1 : Hp} (k : Kp M H H1) (h : ∀ b, M b → ∀ xs, H b ≠ some (.lst xs)) : Kl H H1 := fun b xs e => k.st e fun z => h b z xs e
theorem NoteAt.kl {M : Addr → Prop} {H H1 : Hp} {n : Note} {x : V} (h : NoteAt M H n x) (k : Kl H H1) : NoteAt M H1 n x := by
  cases n with
  | lv n t => obtain ⟨p, e, m, h⟩ := h; exact ⟨p, e, m, k _ _ h⟩
  | v t => exact h
  | told t => obtain ⟨p, e, m, h⟩ := h; exact ⟨p, e, m, k _ _ h⟩
theorem Nz.kl {M : Addr → Prop} {H H1 : Hp} (k : Kl H H1) : ∀ {ns : List Note} {xs : List V}, Nz M H ns xs → Nz M H1 ns xs
  | [], [], _ => True.intro
  | _ :: _, _ :: _, ⟨h, t⟩ => ⟨h.kl k, Nz.kl k t⟩
  | [], _ :: _, h => h.elim
  | _ :: _, [], h => h.elim
theorem NotesAt.kl {M : Addr → Prop} {H H1 : Hp} {nt : Addr} {ns : List Note} (h : NotesAt M H nt ns) (k : Kl H H1) : NotesAt M H1 nt ns := by
  obtain ⟨xs, h1, h2⟩ := h
  exact ⟨xs, k _ _ h1, h2.kl k⟩
/-- how a body ends -/
def Rz (oe : Option Err) (m : Nat) (Q : VK) (E : XK) (H : Hp) : Prop := match oe with
  | none => ∀ p, H p = some (.lst [.str "done", .int (m : Nat)]) → Q (.ref p) H
  | some e => OkE e → ∀ c d, ErrAt H e c d → E c d H
theorem err_rel {H : Hp} {e : Err} {c : Value} {d : Option Addr} (h : ErrAt H e c d) : ∃ cv, RelV cv c ∧ cv ≠ .non := by
  cases e with
  | key => obtain rfl : c = .type "KeyError" := h; exact ⟨.ty "KeyError", rfl, fun z => by cases z⟩
  | zero => obtain rfl : c = .type "ZeroDivisionError" := h; exact ⟨.ty "ZeroDivisionError", rfl, fun z => by cases z⟩
  | unknown n => exact ⟨.ref 292, h.1.symm ▸ rfl, fun z => by cases z⟩
  | use i => exact ⟨.ref 311, h.1.symm ▸ rfl, fun z => by cases z⟩
  | index m => exact ⟨.ref 165, h.1.symm ▸ rfl, fun z => by cases z⟩
  | nothing => exact ⟨.ref 412, h.1.symm ▸ rfl, fun z => by cases z⟩
  | broken i => exact ⟨.ref 431, h.1.symm ▸ rfl, fun z => by cases z⟩
  | great => exact ⟨.ref 400, h.1.symm ▸ rfl, fun z => by cases z⟩
section
variable {P : Program} {w : World} {K : PySem.W.Frag} {mg : Str → Option Value} {base : Heap} {k : Nat} {Hk : Hp} {L nt f1 : Addr} {lam1 : Sp} {l : Lib} {r : Lib × List Note × Option Err} {m : Nat} {ns : List Note} {M Mc : Addr → Prop}
/-- what the body does with the library that it is handed -/
def BodyOk (lam1 : Sp) (Hk : Hp) (L nt : Addr) (r : Lib × List Note × Option Err) (m : Nat) (ns : List Note) (M Mc : Addr → Prop) : Prop := ∀ H2 Q E, K0 Hk H2 →
  (∀ H', Kp Mc H2 H' → LibAt H' L r.1 → NotesAt M H' nt (ns ++ r.2.1) → LamX.Tabs T3 H' → Rz r.2.2 m Q E H') → lam1 [.ref L] H2 Q E
theorem tried_use (F1 : FnG P w K mg base (L2N.CX P w) k f1 lam1) (hc : Callee Hk f1) (hL : LibAt Hk L l) (hML : Mc L) (hstd : Std Hk Mc) (hB : BodyOk lam1 Hk L nt r m ns M Mc) {Q : VK} {E : XK}
    (h : ∀ H4, Kp Mc Hk H4 → LibAt H4 L (afterD l r) → NotesAt M H4 nt (ns ++ r.2.1) → LamX.Tabs T3 H4 → Rz r.2.2 m Q E H4) : spTried P w K mg base k [.ref L, .ref f1] Hk Q E := by
  obtain ⟨dl, p, el, hS⟩ := id hL
  refine ⟨L, f1, lam1, p, rfl, hc, F1, ⟨dl, el⟩, fun H2 v b k2 nv nb hv hb hs Q' E' hQ hE => hB H2 Q' E' k2 (fun H' k' hL' hn ht => ?_)⟩
  have hvM : ¬ Mc v := hstd.new nv
  obtain ⟨dv, ev⟩ := hv
  obtain ⟨db, eb⟩ := hb
  have ev' := k'.st ev hvM
  have hv' : VentAt H' v L (.ref b) := ⟨dv, ev'⟩
  have hb' : BegAt H' b p := ⟨db, k'.im eb ⟨by decide, by decide⟩⟩
  have hLv : L ≠ v := ne_of_none el nv
  have k0 : Kp Mc Hk H' := (k2.up (M := Mc)).trans k'
  obtain ⟨dl', p', el', hS'⟩ := id hL'
  have hs' : ∃ q, SelfAt H' L q := ⟨p', dl', el'⟩
  have ed : r.2.2 = none → afterD l r = r.1 := fun z => by unfold afterD; rw [z]
  have ee : ∀ e, r.2.2 = some e → afterD l r = l := fun e z => by unfold afterD; rw [z]
  cases er : r.2.2 with
  | none =>
    rw [er] at h
    have ed := ed er
    intro pp hpp
    refine hQ (.ref pp) H' hv' hb' hs' fun H4 k4 => ?_
    have kl : Kl H' H4 := kl_of k4 fun b z xs e => by
      subst z
      rw [ev'] at e; cases e
    exact h H4 (kp_trans k0 k4 fun b z => .inr (by rw [z]; exact nv)) (by rw [ed]; exact hL'.st k4 hLv) (hn.kl kl) (tabs_kp ht k4 fun b z y => tb_ne ht ev' (fun _ z => by cases z) (y ▸ z)) pp (kl _ _ hpp)
  | some e =>
    rw [er] at h
    have ee := ee e er
    intro ho c d he
    refine hE c d H' hv' hb' hs' (err_rel he) fun H4 k4 hs4 => ?_
    obtain ⟨dl4, el4⟩ := hs4
    have kl : Kl H' H4 := kl_of k4 fun b z xs e => by
      rcases z with z | z
      · subst z
        rw [ev'] at e; cases e
      · subst z
        rw [el'] at e; cases e
    refine h H4 (kp_trans k0 k4 fun b z => ?_) ?_ (hn.kl kl) (tabs_kp ht k4 fun b z y => ?_) ho c d (he.kp k4)
    · rcases z with z | z
      · exact .inr (by rw [z]; exact nv)
      · exact .inl (by rw [z]; exact hML)
    · rw [ee]
      exact ⟨dl4, p, el4, ShapeAt.kp k4 (ShapeAt.kp k0 hS)⟩
    · rcases y with y | y
      · exact tb_ne ht ev' (fun _ z => by cases z) (y ▸ z)
      · exact tb_ne ht el' (fun _ z => by cases z) (y ▸ z)
theorem trial_told {f2 : Addr} {lam2 : Sp} (F1 : FnG P w K mg base (L2N.CX P w) k f1 lam1) (hc : Callee Hk f1) (F2 : FnG P w K mg base (L2N.CX P w) (k + 2) f2 lam2) (hc2 : Callee Hk f2) (h2 : ∀ Q E, spTried P w K mg base k [.ref L, .ref f1] Hk Q E → lam2 [] Hk Q E)
    (hL : LibAt Hk L l) (hML : Mc L) (hstd : Std Hk Mc) (hstd2 : Std Hk M) (hm : m < 5) (hB : BodyOk lam1 Hk L nt r m ns M Mc) {Q : VK} {E : XK}
    (h : ∀ H4 p, Kp Mc Hk H4 → LibAt H4 L (afterD l r) → NotesAt M H4 nt (ns ++ r.2.1) → LamX.Tabs T3 H4 → ToldAt H4 p (wentT m r.2.2) → ¬ M p → Hk p = none → Q (.ref p) H4) : spWent P w K mg base (k + 2) [.ref f2] Hk Q E := by
  refine ⟨f2, lam2, rfl, hc2, F2, fun Q' E' hQ hE => h2 Q' E' (tried_use F1 hc hL hML hstd hB fun H4 k4 hL4 hn4 ht4 => ?_)⟩
  have fin : ∀ t, t = wentT m r.2.2 → toldQ t Q H4 := fun t et H5 p k5 np hp => by
    have n0 : Hk p = none := k4.none np
    exact h H5 p (k4.trans k5.up) (hL4.k0 k5) (hn4.k0 k5) (tabs_kp ht4 k5 fun _ _ z => z) (by rw [← et]; exact hp) (hstd2.new n0) n0
  cases er : r.2.2 with
  | none =>
    rw [er] at fin
    intro p hp
    exact hQ (.ref p) H4 (doneD' m) (.done p m hp (by omega)) (fin _ rfl)
  | some e =>
    rw [er] at fin
    intro ho c d he
    exact hE c d H4 e he ho (fin _ rfl)
end
end SK
set_option maxHeartbeats 4000000
/-! SkO8: _law_action. -/
namespace SK
open PySem PySem.Spec PyProof.Rows L2 L2H
theorem hfIn : ∀ y ∈ (lamS eIn).names, y.2 = .free → (defScope (top 104)).names.lookup y.1 = some .cell ∨ (defScope (top 104)).names.lookup y.1 = some .free := by decide +kernel
theorem hfTr : ∀ y ∈ (lamS eTr).names, y.2 = .free → (defScope (top 104)).names.lookup y.1 = some .cell ∨ (defScope (top 104)).names.lookup y.1 = some .free := by decide +kernel
section
variable {P : Program} {w : World} {K : PySem.W.Frag} {mg : Str → Option Value} {base : Heap}
abbrev N104 : List Str := ["_law_held", "_law_shelf", "_law_plan_here", "_law_deep_plan", "_law_notes", "_law_act"]
theorem sc104 : FnScope N104 ["_law_held", "_law_shelf", "_law_plan_here", "_law_deep_plan", "_law_notes"] (defScope (top 104)) := ⟨rfl, rfl, rfl, by decide +kernel, rfl, by decide +kernel, by decide +kernel⟩
abbrev XAct (P : Program) (w : World) (K : PySem.W.Frag) (mg : Str → Option Value) (base : Heap) (A : Around) (outer : List Env) (s : Shared) (H : Hp) (E : XK) : Cx := cxOf (L2N.CX P w) P w K mg base N104 "_law_action" (defScope (top 104)) 1260 (.ref 1259) A outer s H E
/-- the trial within: told -/
theorem act_trial (T : Tx K mg) {A : Around} {outer : List Env} {s : Shared} {H0 : Hp} {E0 : XK} {W : WX} {H : Hp} {Q : VK} {L pl dp nt f1 c1 : Addr} {l : Lib} {k : Nat} {dd : Plan} {ns : List Note} (hL : LibAt H L l) (wf : WfL k l) (hk : k < 700) (hdp : PlanAt (Mx L nt) H dp dd) (hok : OkPlan dd) (hn : NotesAt (Mx L nt) H nt ns) (hns : ns.length < 100) (hLn : L ≠ nt)
    (hstd : Std H (Mx L nt)) (ht : LamX.Tabs T3 H) (hf1 : H f1 = some (LamO f1 (lfOf (XAct P w K mg base A outer s H0 E0) (lamP eIn) (lamB eIn) (lamS eIn) c1))) (hc1 : H c1 = some (LamX.CodeO c1 qAct))
    (h : ∀ H4 p, Kp (Mx L nt) H H4 → LibAt H4 L (afterD l (innerD l dd)) → NotesAt (Mx L nt) H4 nt (ns ++ (innerD l dd).2.1) → LamX.Tabs T3 H4 → ToldAt H4 p (wentT dd.2 (innerD l dd).2.2) → ¬ Mx L nt p → Q (.ref p) H4) :
    tCallLk (XAct P w K mg base A outer s H0 E0) (spWent P w K mg base 13) W (tCons (tLamb2 (XAct P w K mg base A outer s H0 E0) T3 1255 (lamP eTr) (lamB eTr) (lamS eTr)) tNil) [some (.ref L), some (.ref L), some (.ref pl), some (.ref dp), some (.ref nt), some (.ref f1)] H Q := by
  refine ⟨ht, fun f2 c2 H8 k8 ht8 nf hf2 hc2 => fun L0 ok cl fr => ?_⟩
  have hn8 : Kp (Mx L nt) H H8 := k8.mono fun b z => .inr (.inr (.inl z))
  have klock := lock_k0 fr
  obtain ⟨dl, p0, el, _⟩ := id hL
  obtain ⟨xs, en, _⟩ := id hn
  have nL : ¬ L = 1255 := fun z => tb_ne ht el (fun _ z => by cases z) (.inl z)
  have nN : ¬ nt = 1255 := fun z => tb_ne ht en (fun _ z => by cases z) (.inl z)
  have hLk : LibAt (lock L0 H8) L l := (hL.st k8 nL).k0 klock
  obtain ⟨dlk, plk, elk, _⟩ := id hLk
  have hdk : PlanAt (Mx L nt) (lock L0 H8) dp dd := (hdp.kp hn8).kp klock.up
  have hnk : NotesAt (Mx L nt) (lock L0 H8) nt ns := (hn.kx k8 (fun b z => .inr (.inr (.inl z))) nN).k0 klock
  have htk : LamX.Tabs T3 (lock L0 H8) := tabs_kp ht8 klock fun _ _ z => z
  have f1k := klock.im (k8.im hf1 trivial) trivial
  have c1k := klock.im (k8.im hc1 trivial) trivial
  have f2k := klock.im hf2 trivial
  have c2k := klock.im hc2 trivial
  have std8 := hstd.kp k8
  have stdk := std8.kp klock
  have std1 : Std (lock L0 H8) (fun b => b = L ∨ b = nt) := fun b z => stdk b (z.elim .inl fun z => .inr (.inl z))
  have A1 := lkAt_of (js := [3, 4, 1]) (fr := ["_law_deep_plan", "_law_notes", "_law_shelf"]) (H := H8) ok (NdefX.Caps.made ok hfIn (by decide +kernel) rfl) cl
  have A2 := lkAt_of (js := [5, 0]) (fr := ["_law_act", "_law_held"]) (H := H8) ok (NdefX.Caps.made ok hfTr (by decide +kernel) rfl) cl
  refine trial_told (k := 11) (L := L) (nt := nt) (l := l) (r := innerD l dd) (m := dd.2) (ns := ns) (M := Mx L nt) (Mc := fun b => b = L ∨ b = nt) (k_lIn T f1 (cloFrom (XAct P w K mg base A outer s H0 E0).env.cells (lamS eIn).names []) c1) (lamO_callee f1k) (k_lTr T (by decide) f2 (cloFrom (XAct P w K mg base A outer s H0 E0).env.cells (lamS eTr).names []) c2) (lamO_callee f2k) (fun Q' E' hs => ?_) hLk (.inl rfl) std1 stdk hok.2 (fun H2 Q' E' k2 hq => ?_) (fun H4 p k4 hL4 hn4 ht4 hp4 np _ lk4 => ?_)
  · exact ⟨rfl, f2k, c2k, (show (["_law_held", "_law_act"] : List Str).Nodup by decide +kernel), _, A2, L, f1, dlk, _, rfl, rfl, elk, rfl, hs⟩
  · refine ⟨rfl, k2.im f1k trivial, k2.im c1k trivial, (show (["_law_shelf", "_law_notes", "_law_deep_plan"] : List Str).Nodup by decide +kernel), _, A1.ext (fun b o u e => k2.im e trivial), .ref L, .ref dp, .ref nt, .ref L, rfl, rfl, ?_⟩
    refine ⟨L, dp, nt, l, k, dd, ns, Mx L nt, rfl, hLk.k0 k2, wf, hk, hdk.kp k2.up, hok, hnk.k0 k2, hns, hLn, .inl rfl, .inr (.inl rfl), stdk.kp k2, fun H' k' hL' hn' => ?_⟩
    have ht' : LamX.Tabs T3 H' := tabs_kp (tabs_kp htk k2 fun _ _ z => z) k' fun b z y => by
      rcases y with y | y
      · exact tb_ne ht el (fun _ z => by cases z) (y ▸ z)
      · exact tb_ne ht en (fun _ z => by cases z) (y ▸ z)
    exact hq H' k' hL' hn' ht'
  · exact h (unlock L0 H4) p (hn8.trans (kp_unl fr (k4.mono fun b z => z.elim .inl fun z => .inr (.inl z)) lk4)) (hL4.kn (unlock_kn lk4)) (hn4.kn (unlock_kn lk4)) (tabs_kn ht4 (unlock_kn lk4)) ((unlock_kn lk4).lst hp4) np
theorem actionD_err {l l' : Lib} {pl dp : Plan} {e : Err} (h : doneD l pl.1 = (l', some e)) : actionD l pl dp = (l', [.lv (lenL l) (viewT l)], some e) := by
  unfold actionD
  rw [h]
theorem actionD_ok {l l' : Lib} {pl dp : Plan} (h : doneD l pl.1 = (l', none)) : actionD l pl dp = (afterD l' (innerD l' dp), [.lv (lenL l) (viewT l), .v (viewT l')] ++ (innerD l' dp).2.1 ++ [.told (wentT dp.2 (innerD l' dp).2.2), .v (viewT (afterD l' (innerD l' dp)))], endE pl.2) := by
  unfold actionD
  rw [h]
theorem inner_len {l : Lib} {pl : Plan} : (innerD l pl).2.1.length ≤ 2 := by
  unfold innerD
  split <;> simp
theorem inner_wf {k : Nat} {l : Lib} {pl : Plan} (h : WfL k l) (ho : OkPlan pl) : WfL (k + 4) (innerD l pl).1 := by
  have z := (done_wf (ds := pl.1) h ho.1.2).mono (show k + pl.1.length ≤ k + 4 by have := ho.1.1; omega)
  unfold innerD
  split <;> rename_i l' _ e <;> (rw [e] at z; exact z)
theorem after_wf {k : Nat} {l : Lib} {pl : Plan} (h : WfL k l) (ho : OkPlan pl) : WfL (k + 4) (afterD l (innerD l pl)) := by
  unfold afterD
  split
  · exact inner_wf h ho
  · exact h.mono (Nat.le_add_right _ _)
def spAction : Sp := fun vs H Q E => ∃ L pl dp nt l k pd dd ns, vs = [.ref L, .ref L, .ref pl, .ref dp, .ref nt] ∧ LibAt H L l ∧ WfL k l ∧ k < 600 ∧ PlanAt (Mx L nt) H pl pd ∧ OkPlan pd ∧ PlanAt (Mx L nt) H dp dd ∧ OkPlan dd ∧ NotesAt (Mx L nt) H nt ns ∧ ns.length < 90 ∧ L ≠ nt ∧ Std H (Mx L nt) ∧ LamX.Tabs T3 H ∧
  ∀ H', Kp (Mx L nt) H H' → LibAt H' L (actionD l pd dd).1 → NotesAt (Mx L nt) H' nt (ns ++ (actionD l pd dd).2.1) → LamX.Tabs T3 H' → Rz (actionD l pd dd).2.2 pd.2 Q E H'
theorem k_action (T : Tx K mg) (ty : Ty K mg base) : FnG P w K mg base (L2N.CX P w) 16 1260 spAction := by
  obtain ⟨fd, F⟩ := T.f_law_action
  obtain ⟨fdv, Fv⟩ := T.f_law_shelf_view
  obtain ⟨fdd, Fd⟩ := T.f_law_done
  obtain ⟨fde, Fe⟩ := T.f_law_ending
  obtain ⟨fdw, Fw⟩ := T.f_law_went
  refine fng_ofC F ty.cA sc104 (F.bindsN fun _ _ _ _ _ _ us hl => match us, hl with | [_, _, _, _, _], _ => rfl) (fun vs H Q E h => ?_) (fun A outer s H vs Q E hr hg h => ⟨_,
    pss_cons (ps_expr (pe_bm PySem.F.plainAttrs_list PySem.F.slot_list_append PySem.F.type_list_append mt_append (pv 4) (pa_cons (pe_lst (pa_cons (pe_callB (call_lenG T.sLibrary__len__ (k_llen T) (hr.mono (by decide)) hg noXN) rfl T.blen PySem.boot_len (pa_cons (pv 1) pa_nil) (by decide) (by decide) rfl rfl)
      (pa_cons (pe_g (E := EF) (k_view T) (hr.mono (by decide)) hg (passF noXN) rfl T.g_law_shelf_view Fv.kp (pa_cons (pv 0) pa_nil)) pa_nil))) pa_nil)))
    (pss_cons (ps_expr (pe_g (E := WE fun c d _ H => E c d H) (k_done T) (hr.mono (by decide)) hg (L2N.passAt (L2N.takes_of rfl rfl rfl rfl)) rfl T.g_law_done Fd.kp (pa_cons (pv 0) (pa_cons (pv 1) (pa_cons (pe_ix ix_tup (pv 2) pe_int (fun _ _ => rfl)) pa_nil)))))
    (pss_cons (ps_expr (pe_bm PySem.F.plainAttrs_list PySem.F.slot_list_append PySem.F.type_list_append mt_append (pv 4) (pa_cons (pe_g (E := EF) (k_view T) (hr.mono (by decide)) hg (passF noXN) rfl T.g_law_shelf_view Fv.kp (pa_cons (pv 0) pa_nil)) pa_nil)))
    (pss_cons (ps_set (i := 5) sc104.nd rfl (Or.inr rfl) (pe_lam2 (T := T3) (c := 1259) (P := 1255) ty.tA rfl t3_act t3_actU hfIn rfl))
    (pss_cons (ps_expr (pe_bm PySem.F.plainAttrs_list PySem.F.slot_list_append PySem.F.type_list_append mt_append (pv 4) (pa_cons (pe_gLk (W := fun c d _ H => E c d H) (k_went (k := 13) T (by decide)) hr hg (L2N.takes_of rfl rfl rfl rfl) rfl rfl (show (["_law_act", "_law_notes", "_law_deep_plan", "_law_shelf", "_law_held"] : List Str).Nodup by decide +kernel) (fun _ => rfl) rfl T.g_law_went Fw.kp
      (pa_cons (pe_lam2 (T := T3) (c := 1259) (P := 1255) ty.tA rfl t3_act t3_actU hfTr rfl) pa_nil)) pa_nil)))
    (pss_cons (ps_expr (pe_bm PySem.F.plainAttrs_list PySem.F.slot_list_append PySem.F.type_list_append mt_append (pv 4) (pa_cons (pe_g (E := EF) (k_view T) (hr.mono (by decide)) hg (passF noXN) rfl T.g_law_shelf_view Fv.kp (pa_cons (pv 1) pa_nil)) pa_nil)))
    (pss_one (ps_ret (pe_g (E := WE fun c d _ H => E c d H) (k_ending T) (hr.mono (by decide)) hg (L2N.passAt (L2N.takes_of rfl rfl rfl rfl)) rfl T.g_law_ending Fe.kp (pa_cons (pe_ix ix_tup (pv 2) pe_int (fun _ _ => rfl)) pa_nil))))))))), ?_⟩)
  · obtain ⟨_, _, _, _, _, _, _, _, _, rfl, _⟩ := h
    rfl
  · obtain ⟨L, pl, dp, nt, l, k, pd, dd, ns, rfl, hL, wf, hk, hpl, hok, hdp, hok2, hnt, hns, hLn, hstd, ht, q⟩ := h
    have mn : ∀ b, b = nt → Mx L nt b := fun b z => .inr (.inl z)
    have mL : ∀ b, b = L → Mx L nt b := fun b z => .inl z
    match l, hL, wf, q with
    | [], ⟨_, _, _, z⟩, _, _ => exact z.elim
    | s0 :: r0, hL, wf, q =>
      obtain ⟨dl, p, el, _⟩ := id hL
      obtain ⟨xs, en, hz⟩ := id hnt
      have ol := okn_len (wf.2 s0 (by simp)).1
      have hxl := hz.len
      have nTL : ∀ b, Tb b → ¬ b = L := fun b z y => tb_ne ht el (fun _ z => by cases z) (y ▸ z)
      have nTN : ∀ b, Tb b → ¬ b = nt := fun b z y => tb_ne ht en (fun _ z => by cases z) (y ▸ z)
      have s2 : 2 ≤ sizeLine := by rw [sizeLine_eq]; omega
      refine ⟨_, rfl, .inl ⟨rfl, _, SqL.of en⟩, ?_⟩
      refine ⟨_, rfl, L, dl, _, rfl, el, L, s0, r0, rfl, hL, _, rfl, by omega, by omega, ?_⟩
      refine ⟨_, rfl, L, s0 :: r0, k, rfl, hL, wf, by omega, fun H1 k1 => ?_⟩
      refine ⟨s2, fun p1 n1 => ?_⟩
      have k2 := k1.new (o := .lst [.int (s0.ys.length : Nat), .str (viewT (s0 :: r0))]) n1
      have en2 := k2.at0 en
      refine ⟨nt, xs, _, rfl, rfl, en2, by rw [sizeLine_eq]; omega, ?_⟩
      obtain ⟨k3, hn3⟩ := NotesAt.app (M := Mx L nt) (n := .lv (lenL (s0 :: r0)) (viewT (s0 :: r0))) (x := .ref p1) (.inr (.inl rfl)) en2 (hz.kp k2.up) ⟨p1, rfl, hstd.new (k1.none n1), upd_same⟩
      generalize hH3 : upd (upd H1 p1 (.lst [.int (s0.ys.length : Nat), .str (viewT (s0 :: r0))])) nt (.lst (xs ++ [.ref p1])) = H3 at k3 hn3 ⊢
      have k03 := (k2.up (M := Mx L nt)).trans (k3.mono mn)
      have hL3 : LibAt H3 L (s0 :: r0) := (hL.k0 k2).st k3 hLn
      have ht3 : LamX.Tabs T3 H3 := tabs_kp (tabs_kp ht k2 fun _ _ z => z) k3 nTN
      obtain ⟨lt', ep', _, hlot'⟩ := hpl.kp k03
      refine ⟨_, rfl, _, rfl, _, rfl, pl, _, 0, .ref lt', rfl, rfl, SqT.of ep', rfl, ?_⟩
      refine ⟨L, lt', s0 :: r0, k, pd.1, rfl, hL3, hlot', hok.1, wf, by omega, fun H4 k4 hL4 => ?_⟩
      have k04 := k03.trans (k4.mono mL)
      have hn4 := hn3.kx k4 mL (fun z => hLn z.symm)
      have ht4 : LamX.Tabs T3 H4 := tabs_kp ht3 k4 nTL
      cases eD : doneD (s0 :: r0) pd.1 with
      | mk l' oe =>
        rw [eD] at hL4
        cases oe with
        | some e =>
          rw [actionD_err eD] at q
          exact fun c d he => q H4 k04 hL4 hn4 ht4 (done_okE wf (by have := hok.1.1; omega) hok.1.2 eD) c d he
        | none =>
          rw [actionD_ok eD] at q
          have wf' : WfL (k + 4) l' := by
            have := done_wf (ds := pd.1) wf hok.1.2
            rw [eD] at this
            exact this.mono (by have := hok.1.1; omega)
          obtain ⟨ys, en4, hz4⟩ := id hn4
          have hyl : ys.length = ns.length + 1 := by
            have := hz4.len
            rw [List.length_append] at this
            exact this
          refine ⟨_, rfl, .inl ⟨rfl, _, SqL.of en4⟩, ?_⟩
          refine ⟨_, rfl, L, l', k + 4, rfl, hL4, wf', by omega, fun H5 k5 => ?_⟩
          have en5 := k5.at0 en4
          refine ⟨nt, ys, _, rfl, rfl, en5, by rw [sizeLine_eq]; omega, ?_⟩
          obtain ⟨k6, hn6⟩ := NotesAt.app (M := Mx L nt) (n := .v (viewT l')) (x := .str (viewT l')) (.inr (.inl rfl)) en5 (hz4.kp k5.up) rfl
          generalize hH6 : upd H5 nt (.lst (ys ++ [.str (viewT l')])) = H6 at k6 hn6 ⊢
          have k06 := (k04.trans k5.up).trans (k6.mono mn)
          have hL6 : LibAt H6 L l' := (hL4.k0 k5).st k6 hLn
          have ht6 : LamX.Tabs T3 H6 := tabs_kp (tabs_kp ht4 k5 fun _ _ z => z) k6 nTN
          refine ⟨ht6, fun f1 c1 H7 k7 ht7 nf1 hf1 hc1 => ?_⟩
          have mA : ∀ b, b = 1255 → Mx L nt b := fun b z => .inr (.inr (.inl z))
          have k07 := k06.trans (k7.mono mA)
          have hL7 : LibAt H7 L l' := hL6.st k7 (fun z => nTL 1255 (.inl rfl) z.symm)
          have hn7 := hn6.kx k7 mA (fun z => nTN 1255 (.inl rfl) z.symm)
          obtain ⟨zs, en7, hz7⟩ := id hn7
          have hn6l : (ns ++ [Note.lv (lenL (s0 :: r0)) (viewT (s0 :: r0))] ++ [Note.v (viewT l')]).length = ns.length + 2 := by simp
          refine ⟨_, rfl, .inl ⟨rfl, _, SqL.of en7⟩, ?_⟩
          refine act_trial T (k := k + 4) (dd := dd) (ns := ns ++ [Note.lv (lenL (s0 :: r0)) (viewT (s0 :: r0))] ++ [Note.v (viewT l')]) hL7 wf' (by omega) (hdp.kp k07) hok2 hn7 (by omega) hLn (hstd.kp k07) ht7 hf1 hc1 fun H8 p8 k8 hL8 hn8 ht8 hp8 np8 => ?_
          have il := inner_len (l := l') (pl := dd)
          obtain ⟨us, en8, hz8⟩ := id hn8
          have hul := hz8.len
          rw [List.length_append, hn6l] at hul
          refine ⟨nt, us, _, rfl, rfl, en8, by rw [sizeLine_eq]; omega, ?_⟩
          obtain ⟨k9, hn9⟩ := NotesAt.app (M := Mx L nt) (n := .told (wentT dd.2 (innerD l' dd).2.2)) (x := .ref p8) (.inr (.inl rfl)) en8 hz8 ⟨p8, rfl, np8, hp8⟩
          generalize hH9 : upd H8 nt (.lst (us ++ [.ref p8])) = H9 at k9 hn9 ⊢
          have hL9 := hL8.st k9 hLn
          have ht9 : LamX.Tabs T3 H9 := tabs_kp ht8 k9 nTN
          have k09 := (k07.trans k8).trans (k9.mono mn)
          obtain ⟨ws, en9, hz9⟩ := id hn9
          have hwl := hz9.len
          rw [List.length_append, List.length_append, hn6l] at hwl
          have hwl2 : ws.length ≤ ns.length + 5 := by
            have : ([Note.told (wentT dd.2 (innerD l' dd).2.2)] : List Note).length = 1 := rfl
            omega
          refine ⟨_, rfl, .inl ⟨rfl, _, SqL.of en9⟩, ?_⟩
          refine ⟨_, rfl, L, _, k + 8, rfl, hL9, (after_wf wf' hok2).mono (by omega), by omega, fun H10 k10 => ?_⟩
          have en10 := k10.at0 en9
          refine ⟨nt, ws, _, rfl, rfl, en10, by rw [sizeLine_eq]; omega, ?_⟩
          obtain ⟨k11, hn11⟩ := NotesAt.app (M := Mx L nt) (n := .v (viewT (afterD l' (innerD l' dd)))) (x := .str (viewT (afterD l' (innerD l' dd)))) (.inr (.inl rfl)) en10 (hz9.kp k10.up) rfl
          generalize hH11 : upd H10 nt (.lst (ws ++ [.str (viewT (afterD l' (innerD l' dd)))])) = H11 at k11 hn11 ⊢
          have k011 := (k09.trans k10.up).trans (k11.mono mn)
          have hL11 := (hL9.k0 k10).st k11 hLn
          have ht11 : LamX.Tabs T3 H11 := tabs_kp (tabs_kp ht9 k10 fun _ _ z => z) k11 nTN
          obtain ⟨lt11, ep11, _, _⟩ := hpl.kp k011
          refine ⟨_, rfl, pl, _, 1, .int (pd.2 : Nat), rfl, rfl, SqT.of ep11, rfl, ?_⟩
          refine ⟨pd.2, rfl, hok.2, fun H12 k12 => ?_⟩
          have z := q H12 (k011.trans k12.up) (hL11.k0 k12) (by
            rw [show ns ++ ([Note.lv (lenL (s0 :: r0)) (viewT (s0 :: r0)), Note.v (viewT l')] ++ (innerD l' dd).2.1 ++ [Note.told (wentT dd.2 (innerD l' dd).2.2), Note.v (viewT (afterD l' (innerD l' dd)))]) = (ns ++ [Note.lv (lenL (s0 :: r0)) (viewT (s0 :: r0))] ++ [Note.v (viewT l')] ++ (innerD l' dd).2.1 ++ [Note.told (wentT dd.2 (innerD l' dd).2.2)]) ++ [Note.v (viewT (afterD l' (innerD l' dd)))] by simp]
            exact hn11.k0 k12) (tabs_kp ht11 k12 fun _ _ z => z)
          cases ee : endE pd.2 with
          | none =>
            rw [ee] at z
            exact fun p hp _ => z p hp
          | some e =>
            rw [ee] at z
            exact fun c d he => z (endE_ok ee) c d he
end
end SK
set_option maxHeartbeats 4000000
/-! SkP1: all texts that are compared are of proper signs. -/
namespace SK
open PySem PySem.Spec PyProof.Rows L2 L2H
abbrev sok (x : Str) : Prop := PyData.strOk x = true
theorem sok_app {x y : Str} (h : sok x) (k : sok y) : sok (x ++ y) := by
  show ((x.cps ++ y.cps).all (· < 0x110000)) = true
  rw [Array.all_append]
  simp only [Bool.and_eq_true]
  exact ⟨h, k⟩
theorem sok_of (s : String) : sok (s : Str) := by
  show ((Str.ofString s).cps.all (· < 0x110000)) = true
  rw [Str.ofString_eq_toList]
  simp only [List.all_toArray, List.all_eq_true, List.mem_map]
  rintro c ⟨a, _, rfl⟩
  have := a.valid
  simp only [decide_eq_true_eq]
  rcases this with h | ⟨_, h⟩
  · have h' : a.toNat < 0xd800 := h
    omega
  · have h' : a.toNat < 0x110000 := h
    omega
theorem sok_from : ∀ (ts : List Str) (k : Nat) (acc : Str), sok acc → (∀ t ∈ ts, sok t) → sok (textFrom k acc ts)
  | [], _, _, h, _ => h
  | t :: r, k, acc, h, ht => sok_from r (k + 1) _ (sok_app (sok_app h (sok_of _)) (ht t (by simp))) fun x hx => ht x (List.mem_cons_of_mem _ hx)
theorem sok_list {ts : List Str} (h : ∀ t ∈ ts, sok t) : sok (listText ts) := sok_app (sok_from ts 0 _ (sok_of _) h) (sok_of _)
theorem sok_join : ∀ {ts : List Str}, (∀ t ∈ ts, sok t) → sok (Str.join ", " ts)
  | [], _ => by decide +kernel
  | [x], h => h x (by simp)
  | x :: y :: r, h => sok_app (sok_app (h x (by simp)) (sok_of _)) (sok_join (ts := y :: r) fun z hz => h z (List.mem_cons_of_mem _ hz))
theorem sok_tup {ts : List Str} (h : ∀ t ∈ ts, sok t) : sok (tupleText ts) := sok_app (sok_app (sok_of _) (sok_join h)) (sok_of _)
mutual
def RepOk : PyData → Prop
  | .str x => sok (reprText x)
  | .list xs => RepAll xs
  | .tuple xs => RepAll xs
  | .dict _ => False
  | _ => True
def RepAll : List PyData → Prop
  | [] => True
  | x :: r => RepOk x ∧ RepAll r
end
mutual
theorem sok_shown : ∀ d : PyData, RepOk d → sok d.shown
  | .none, _ => sok_of _
  | .bool b, _ => by cases b <;> exact sok_of _
  | .int i, _ => sok_of _
  | .str x, h => h
  | .list xs, h => sok_list (sok_shownAll xs h)
  | .tuple xs, h => sok_tup (sok_shownAll xs h)
  | .dict _, h => h.elim
theorem sok_shownAll : ∀ ds : List PyData, RepAll ds → ∀ t ∈ PyData.shownAll ds, sok t
  | [], _, _, h => by cases h
  | d :: r, h, t, ht => by
    rcases List.mem_cons.mp (show t ∈ d.shown :: PyData.shownAll r from ht) with z | z
    · rw [z]; exact sok_shown d h.1
    · exact sok_shownAll r h.2 t z
end
theorem repAll_of {ds : List PyData} (h : ∀ d ∈ ds, RepOk d) : RepAll ds := by
  induction ds with
  | nil => exact True.intro
  | cons d r ih => exact ⟨h d (by simp), ih fun x hx => h x (List.mem_cons_of_mem _ hx)⟩
theorem sok_ab {n : Str} (h : n = sA ∨ n = sB) : sok (reprText n) := by
  rcases h with rfl | rfl <;> (show PyData.strOk _ = true; decide +kernel)
theorem sok_yard {w m : Int} (hw : Lil w) (hm : Lil m) : sok (reprText (yardTxt w m)) := by
  rcases hw with rfl | rfl | rfl | rfl <;> rcases hm with rfl | rfl | rfl | rfl <;> (show PyData.strOk _ = true; decide +kernel)
theorem sok_view {k : Nat} {l : Lib} (wf : WfL k l) : sok (viewT l) := by
  match l, wf with
  | [], _ => exact (by decide +kernel : PyData.strOk "" = true)
  | s :: r, wf =>
    obtain ⟨w1, w2, w3, w4, w5⟩ := wf.2 s (by simp)
    refine sok_shown _ ⟨repAll_of fun d hd => ?_, repAll_of fun d hd => ?_, True.intro, True.intro, True.intro, True.intro⟩
    · obtain ⟨n, hn, rfl⟩ := List.mem_map.mp hd
      obtain ⟨hn1, hn2⟩ := nms_mem hn
      cases e : s.ys.lookup n with
      | none => rw [e] at hn2; cases hn2
      | some v =>
        have hv := w4 _ (look_mem e)
        have hp : pageD s.ys n = .list [.str n, .str (yardTxt v.1 v.2)] := by simp only [pageD, e]
        rw [hp]
        exact ⟨sok_ab hn1, sok_yard hv.1 hv.2, True.intro⟩
    · obtain ⟨p, hp, rfl⟩ := List.mem_map.mp hd
      have hn := w2 p hp
      rw [lookup_names] at hn
      exact ⟨sok_ab (w1.1 _ hn), ⟨(by decide +kernel : PyData.strOk (reprText "swaps") = true), True.intro, True.intro⟩, True.intro⟩
def TokT (t : Str × Str) : Prop := sok t.1 ∧ sok t.2
theorem tok_err {e : Err} (h : OkE e) : TokT (errT e) := by
  cases e with
  | unknown n => exact ⟨sok_of _, sok_ab h⟩
  | use i => exact ⟨sok_of _, sok_shown _ True.intro⟩
  | index m => exact ⟨sok_of _, sok_shown _ True.intro⟩
  | nothing => exact ⟨sok_of _, sok_of _⟩
  | broken i => exact ⟨sok_of _, sok_shown _ True.intro⟩
  | great => exact ⟨sok_of _, sok_shown _ True.intro⟩
  | key => exact ⟨sok_of _, sok_of _⟩
  | zero => exact ⟨sok_of _, sok_of _⟩
theorem sok_doneD (m : Nat) : sok (doneD' m).shown := sok_shown _ ⟨(by decide +kernel : PyData.strOk (reprText "done") = true), True.intro, True.intro⟩
theorem tok_went {m : Nat} {oe : Option Err} (h : ∀ e, oe = some e → OkE e) : TokT (wentT m oe) := by
  cases oe with
  | none => exact ⟨sok_of _, sok_doneD m⟩
  | some e => exact tok_err (h e rfl)
end SK
set_option maxHeartbeats 4000000
/-! SkO9: _law_lot_due. -/
namespace SK
open PySem PySem.Spec PyProof.Rows L2 L2H
def toldP (t : Str × Str) : PyData := .list [.str t.1, .str t.2]
theorem shaped_told {t : Str × Str} (h : TokT t) : SeqAt.shaped (toldP t) = true := by
  unfold SeqAt.shaped
  rw [Bool.and_eq_true]
  refine ⟨?_, decide_eq_true (by simp [toldP, PyData.depth, PyData.depthAll])⟩
  have h1 : PyData.strOk t.1 = true := h.1
  have h2 : PyData.strOk t.2 = true := h.2
  simp only [toldP, PyData.canLay0, PyData.canLayAll0, h1, h2, Bool.and_self]
theorem toldP_eqv (a b : Str × Str) : PyData.eqv (toldP a) (toldP b) = (a.1 == b.1 && (a.2 == b.2 && true)) := by
  simp only [toldP, PyData.eqv, PyData.eqvAll]
theorem toldP_refl (a : Str × Str) : PyData.eqv (toldP a) (toldP a) = true := by
  rw [toldP_eqv]
  simp
theorem errT_back (e : Err) : ((errT e).1 == ("back" : Str)) = false := by
  cases e with
  | unknown n => show (("unknown" : Str) == "back") = false; decide +kernel
  | use i => show (("use" : Str) == "back") = false; decide +kernel
  | index m => show (("index" : Str) == "back") = false; decide +kernel
  | nothing => show (("nothing" : Str) == "back") = false; decide +kernel
  | broken i => show (("broken" : Str) == "back") = false; decide +kernel
  | great => show (("great" : Str) == "back") = false; decide +kernel
  | key => show (("key" : Str) == "back") = false; decide +kernel
  | zero => show (("zero" : Str) == "back") = false; decide +kernel
/-- how the deeds end, told -/
def goT : Option Err → Str × Str
  | none => ("back", PyData.none.shown)
  | some e => errT e
theorem goT_none : goT none = ((("back" : Str), ("None" : Str)) : Str × Str) := by
  have : PyData.none.shown = ("None" : Str) := by decide +kernel
  unfold goT
  rw [this]
theorem tok_go {oe : Option Err} (h : ∀ e, oe = some e → OkE e) : TokT (goT oe) := by
  cases oe with
  | none => exact ⟨sok_of _, sok_of _⟩
  | some e => exact tok_err (h e rfl)
def lotD (ls : List (List Deed)) (pl : Plan) : List (List Deed) × (Str × Str) × List Note := match doneD (twinD ls) pl.1 with
  | (_, some e) => ([], errT e, [.lv (lenL (twinD ls)) (viewT (twinD ls))])
  | (l', none) => (ls ++ [pl.1], endT pl.2, [.lv (lenL (twinD ls)) (viewT (twinD ls)), .v (viewT l')])
theorem lotD_err {ls : List (List Deed)} {pl : Plan} {l' : Lib} {e : Err} (h : doneD (twinD ls) pl.1 = (l', some e)) : lotD ls pl = ([], errT e, [.lv (lenL (twinD ls)) (viewT (twinD ls))]) := by
  unfold lotD
  rw [h]
theorem lotD_ok {ls : List (List Deed)} {pl : Plan} {l' : Lib} (h : doneD (twinD ls) pl.1 = (l', none)) : lotD ls pl = (ls ++ [pl.1], endT pl.2, [.lv (lenL (twinD ls)) (viewT (twinD ls)), .v (viewT l')]) := by
  unfold lotD
  rw [h]
theorem done_mono : Mono spDone := by
  intro vs H Q Q2 E E2 hq he h
  obtain ⟨L, p, l, k, ds, h1, h2, h3, h4, h5, h6, q⟩ := h
  refine ⟨L, p, l, k, ds, h1, h2, h3, h4, h5, h6, fun H' k' hL => ?_⟩
  have z := q H' k' hL
  cases e : (doneD l ds).2 with
  | none => rw [e] at z; exact hq _ _ z
  | some e1 => rw [e] at z; exact fun c d hc => he _ _ _ (z c d hc)
abbrev eDu : Expr := argE (asgE (st 106 2)) 0
theorem sDu : NdefX.NScope ["_law_mate", "_law_plan_here"] [] ["_law_mate", "_law_plan_here"] (lamS eDu) := NdefX.nscope_by (by decide +kernel)
theorem hfDu : ∀ y ∈ (lamS eDu).names, y.2 = .free → (defScope (top 106)).names.lookup y.1 = some .cell ∨ (defScope (top 106)).names.lookup y.1 = some .free := by decide +kernel
def spLDu : List (Option V) → Sp := fun ws vs H Q E => ∃ x pl lt m, vs = [] ∧ ws = [some x, some (.ref pl)] ∧ H pl = some (.tup [.ref lt, .int m]) ∧ spDone [x, x, .ref lt] H Q E
section
variable {P : Program} {w : World} {K : PySem.W.Frag} {mg : Str → Option Value} {base : Heap}
theorem k_lDu (T : Tx K mg) (f : Addr) (cl : List (Str × Addr)) (c : Addr) : FnG P w K mg base (L2N.CX P w) 10 f (spLam f (lfE qLot eDu cl c) 0 ["_law_mate", "_law_plan_here"] spLDu) := by
  obtain ⟨fdi, Fi⟩ := T.f_law_done
  refine fng_lam (N := ["_law_mate", "_law_plan_here"]) (ps := []) (F := lfE qLot eDu cl c) (sp := spLDu) sDu (fun pm ctv us hl => match us, hl with | [], _ => rfl) (fun A outer s H L vs ws Q E hr hg hv hw lk la h rd => ⟨_,
    pe_gL0 (W := fun c d _ H' => E c d (lock L H')) (L := L) (k_done T) hr hg (L2N.takes_of rfl rfl rfl rfl) rd rfl T.g_law_done Fi.kp (pa_cons (pv 0) (pa_cons (pv 0) (pa_cons (pe_ix ix_tup (pv 1) pe_int (fun _ _ => rfl)) pa_nil))), ?_⟩)
  obtain ⟨x, pl, lt, m, rfl, rfl, hp, h⟩ := h
  exact ⟨_, rfl, _, rfl, _, rfl, pl, _, 0, .ref lt, rfl, rfl, SqT.of ((unlock_kn lk).tup hp), rfl, mono_lock done_mono lk h⟩
abbrev N106 : List Str := ["_law_kept_lots", "_law_plan_here", "_law_notes", "_law_told", "_law_mate"]
theorem sc106 : FnScope N106 ["_law_kept_lots", "_law_plan_here", "_law_notes"] (defScope (top 106)) := ⟨rfl, rfl, rfl, by decide +kernel, rfl, by decide +kernel, by decide +kernel⟩
abbrev XLot (P : Program) (w : World) (K : PySem.W.Frag) (mg : Str → Option Value) (base : Heap) (A : Around) (outer : List Env) (s : Shared) (H : Hp) (E : XK) : Cx := cxOf (L2N.CX P w) P w K mg base N106 "_law_lot_due" (defScope (top 106)) 1274 (.ref 1273) A outer s H E
/-- the deeds on the mate, told -/
theorem lot_went (T : Tx K mg) {A : Around} {outer : List Env} {s : Shared} {H0 : Hp} {E0 : XK} {W : WX} {H : Hp} {Q : VK} {L pl lt : Addr} {x0 x2 : Option V} {m : Int} {l : Lib} {k : Nat} {ds : List Deed} (hL : LibAt H L l) (wf : WfL k l) (hk : k < 700) (hpl : H pl = some (.tup [.ref lt, .int m])) (hlt : LotAt H lt ds) (nlt : ¬ Tb lt) (hok : OkLot ds) (ht : LamX.Tabs T3 H)
    (h : ∀ H4 p, Kp (fun b => b = L ∨ Tb b) H H4 → LibAt H4 L (doneD l ds).1 → LamX.Tabs T3 H4 → ToldAt H4 p (goT (doneD l ds).2) → H p = none → Q (.ref p) H4) :
    tCallLk (XLot P w K mg base A outer s H0 E0) (spWent P w K mg base 10) W (tCons (tLamb2 (XLot P w K mg base A outer s H0 E0) T3 1269 (lamP eDu) (lamB eDu) (lamS eDu)) tNil) [x0, some (.ref pl), x2, none, some (.ref L)] H Q := by
  refine ⟨ht, fun f2 c2 H8 k8 ht8 nf hf2 hc2 => fun L0 ok cl fr => ?_⟩
  have klock := lock_k0 fr
  obtain ⟨dl, p0, el, _⟩ := id hL
  have mT : ∀ b, b = 1269 → Tb b := fun b z => .inr (.inl z)
  have nL : ¬ L = 1269 := fun z => tb_ne ht el (fun _ z => by cases z) (mT _ z)
  have hLk : LibAt (lock L0 H8) L l := (hL.st k8 nL).k0 klock
  have hlk : LotAt (lock L0 H8) lt ds := (hlt.st k8 (fun z => nlt (mT _ z))).k0 klock
  have htk : LamX.Tabs T3 (lock L0 H8) := tabs_kp ht8 klock fun _ _ z => z
  have f2k := klock.im hf2 trivial
  have c2k := klock.im hc2 trivial
  have A2 := lkAt_of (js := [4, 1]) (fr := ["_law_mate", "_law_plan_here"]) (H := H8) ok (NdefX.Caps.made ok hfDu (by decide +kernel) rfl) cl
  have hplk := klock.tup (k8.tup hpl)
  refine ⟨f2, _, rfl, lamO_callee f2k, k_lDu T f2 (cloFrom (XLot P w K mg base A outer s H0 E0).env.cells (lamS eDu).names []) c2, fun Q' E' hQ hE => ?_⟩
  refine ⟨rfl, f2k, c2k, (show (["_law_plan_here", "_law_mate"] : List Str).Nodup by decide +kernel), _, A2, .ref L, pl, lt, m, rfl, rfl, hplk, ?_⟩
  refine ⟨L, lt, l, k, ds, rfl, hLk, hlk, hok, wf, by omega, fun H4 k4 hL4 => ?_⟩
  have ht4 : LamX.Tabs T3 H4 := tabs_kp htk k4 fun b z y => tb_ne ht el (fun _ z => by cases z) (y ▸ z)
  have fin : toldQ (goT (doneD l ds).2) (QL L0 Q) H4 := fun H5 p k5 np hp lk5 => by
    have lk := unlock_kn lk5
    have k45 : Kp (· = L) (lock L0 H8) H5 := k4.trans k5.up
    have ku := kp_unl fr k45 lk5
    have n8 : H8 p = none := klock.none (k4.none np)
    exact h (unlock L0 H5) p ((k8.mono fun b z => .inr (mT b z)).trans (ku.mono fun b z => .inl z)) ((hL4.k0 k5).kn lk) (tabs_kn (tabs_kp ht4 k5 fun _ _ z => z) lk) (lk.lst hp) (k8.none n8)
  cases eo : (doneD l ds).2 with
  | none =>
    rw [eo] at fin
    exact hQ .non H4 .none .non fin
  | some e =>
    rw [eo] at fin
    exact fun c d he => hE c d H4 e he (done_okE wf (by have := hok.1; omega) hok.2 (Prod.ext rfl eo)) fin
def spLot : Sp := fun vs H Q _ => ∃ a pl nt ls pd ns M, vs = [.ref a, .ref pl, .ref nt] ∧ LotsAt M H a ls ∧ (∀ ds ∈ ls, OkLot ds) ∧ ls.length < 40 ∧ Thru l0 ls ∧ PlanAt M H pl pd ∧ OkPlan pd ∧ NotesAt M H nt ns ∧ ns.length < 90 ∧ M nt ∧ (∀ b, Tb b → M b) ∧ Std H M ∧ LamX.Tabs T3 H ∧
  ∀ H' t a' p', Kp (fun b => b = nt ∨ Tb b) H H' → H' t = some (.tup [.ref a', .ref p']) → LotsAt M H' a' (lotD ls pd).1 → ToldAt H' p' (lotD ls pd).2.1 → ¬ M p' → NotesAt M H' nt (ns ++ (lotD ls pd).2.2) → LamX.Tabs T3 H' → Q (.ref t) H'
theorem k_lot (T : Tx K mg) (ty : Ty K mg base) : FnG P w K mg base (L2N.CX P w) 13 1274 spLot := by
  obtain ⟨fd, F⟩ := T.f_law_lot_due
  obtain ⟨fdv, Fv⟩ := T.f_law_shelf_view
  obtain ⟨fdt, Ft⟩ := T.f_law_twin
  obtain ⟨fde, Fe⟩ := T.f_law_end_due
  obtain ⟨fdw, Fw⟩ := T.f_law_went
  refine fng_ofC F ty.cL sc106 (F.bindsN fun _ _ _ _ _ _ us hl => match us, hl with | [_, _, _], _ => rfl) (fun vs H Q E h => ?_) (fun A outer s H vs Q E hr hg h => ⟨_,
    pss_cons (ps_set (i := 4) sc106.nd rfl (Or.inr rfl) (pe_g (E := EF) (k_twin T) (hr.mono (by decide)) hg (passF noXN) rfl T.g_law_twin Ft.kp (pa_cons (pv 0) pa_nil)))
    (pss_cons (ps_expr (pe_bm PySem.F.plainAttrs_list PySem.F.slot_list_append PySem.F.type_list_append mt_append (pv 2) (pa_cons (pe_lst (pa_cons (pe_callB (call_lenG T.sLibrary__len__ (k_llen T) (hr.mono (by decide)) hg noXN) rfl T.blen PySem.boot_len (pa_cons (pv 4) pa_nil) (by decide) (by decide) rfl rfl)
      (pa_cons (pe_g (E := EF) (k_view T) (hr.mono (by decide)) hg (passF noXN) rfl T.g_law_shelf_view Fv.kp (pa_cons (pv 4) pa_nil)) pa_nil))) pa_nil)))
    (pss_cons (ps_set (i := 3) sc106.nd rfl (Or.inl rfl) (pe_gLk (W := fun c d _ H => E c d H) (k_went (k := 10) T (by decide)) hr hg (L2N.takes_of rfl rfl rfl rfl) rfl rfl (show (["_law_mate", "_law_plan_here"] : List Str).Nodup by decide +kernel) (fun _ => rfl) rfl T.g_law_went Fw.kp
      (pa_cons (pe_lam2 (T := T3) (c := 1273) (P := 1269) ty.tL rfl t3_lot t3_lotU hfDu rfl) pa_nil)))
    (pss_cons (ps_if (pt_cmpR (op_neD hr.units) (pv 3) (pe_lst (pa_cons pe_str (pa_cons pe_str pa_nil))) (nomark _)) (pss_one (ps_ret (pe_tup (pa_cons (pe_lst pa_nil) (pa_cons (pv 3) pa_nil))))) pss_nil)
    (pss_cons (ps_expr (pe_bm PySem.F.plainAttrs_list PySem.F.slot_list_append PySem.F.type_list_append mt_append (pv 2) (pa_cons (pe_g (E := EF) (k_view T) (hr.mono (by decide)) hg (passF noXN) rfl T.g_law_shelf_view Fv.kp (pa_cons (pv 4) pa_nil)) pa_nil)))
    (pss_one (ps_ret (pe_tup (pa_cons (pe_op op_cat (pv 0) (pe_lst (pa_cons (pe_ix ix_tup (pv 1) pe_int (fun _ _ => rfl)) pa_nil))) (pa_cons (pe_g (E := EF) (k_end_due T) (hr.mono (by decide)) hg (passF noXN) rfl T.g_law_end_due Fe.kp (pa_cons (pe_ix ix_tup (pv 1) pe_int (fun _ _ => rfl)) pa_nil)) pa_nil))))))))), ?_⟩)
  · obtain ⟨_, _, _, _, _, _, _, rfl, _⟩ := h
    rfl
  · obtain ⟨a, pl, nt, ls, pd, ns, M, rfl, hls, hok, hlen, hth, hpl, hpo, hnt, hns, hMn, hMT, hstd, ht, q⟩ := h
    have s2 : 2 ≤ sizeLine := by rw [sizeLine_eq]; omega
    have mM : ∀ b, (b = nt ∨ Tb b) → M b := fun b z => z.elim (fun z => by rw [z]; exact hMn) (hMT b)
    have mn : ∀ b, b = nt → (b = nt ∨ Tb b) := fun b z => .inl z
    refine ⟨_, rfl, M, a, ls, rfl, hls, hok, by omega, hth, fun H1 L k1 hL nL => ?_⟩
    have wf := twin_wf (ls := ls) l0_wf hok
    cases eT : twinD ls with
    | nil =>
      rw [eT] at hL
      obtain ⟨_, _, _, z⟩ := hL
      exact z.elim
    | cons s0 r0 =>
      rw [show twinFrom l0 ls = s0 :: r0 from eT] at wf
      rw [eT] at hL
      obtain ⟨dl, p, el, _⟩ := id hL
      have hn1 := hnt.k0 k1
      obtain ⟨xs, en, hz⟩ := id hn1
      have ol := okn_len (wf.2 s0 (by simp)).1
      have hxl := hz.len
      have ht1 := tabs_kp ht k1 fun _ _ z => z
      have hLn : L ≠ nt := ne_of el en fun z => by cases z
      have nTL : ∀ b, Tb b → ¬ b = L := fun b z y => tb_ne ht1 el (fun _ z => by cases z) (y ▸ z)
      have nTN : ∀ b, Tb b → ¬ b = nt := fun b z y => tb_ne ht1 en (fun _ z => by cases z) (y ▸ z)
      refine ⟨_, rfl, .inl ⟨rfl, _, SqL.of en⟩, ?_⟩
      refine ⟨_, rfl, L, dl, _, rfl, el, L, s0, r0, rfl, hL, _, rfl, by omega, by omega, ?_⟩
      refine ⟨_, rfl, L, s0 :: r0, _, rfl, hL, wf, by omega, fun H2 k2' => ?_⟩
      refine ⟨s2, fun p1 n1 => ?_⟩
      have k2 := k2'.new (o := .lst [.int (s0.ys.length : Nat), .str (viewT (s0 :: r0))]) n1
      have en2 := k2.at0 en
      refine ⟨nt, xs, _, rfl, rfl, en2, by rw [sizeLine_eq]; omega, ?_⟩
      have std1 := hstd.kp k1
      obtain ⟨k3, hn3⟩ := NotesAt.app (M := M) (n := .lv (lenL (s0 :: r0)) (viewT (s0 :: r0))) (x := .ref p1) hMn en2 (hz.kp k2.up) ⟨p1, rfl, std1.new (k2'.none n1), upd_same⟩
      generalize hH3 : upd (upd H2 p1 (.lst [.int (s0.ys.length : Nat), .str (viewT (s0 :: r0))])) nt (.lst (xs ++ [.ref p1])) = H3 at k3 hn3 ⊢
      have k13 : Kp (fun b => b = nt ∨ Tb b) H1 H3 := (k2.up).trans (k3.mono mn)
      have k03 : Kp (fun b => b = nt ∨ Tb b) H H3 := (k1.up).trans k13
      have hL3 : LibAt H3 L (s0 :: r0) := (hL.k0 k2).st k3 hLn
      have ht3 : LamX.Tabs T3 H3 := tabs_kp (tabs_kp ht1 k2 fun _ _ z => z) k3 nTN
      have hpl3 := hpl.kp (k03.mono mM)
      obtain ⟨lt, ep, hlt, hlot⟩ := id hpl3
      refine lot_went T hL3 wf (by omega) ep hlot (fun z => hlt (hMT _ z)) hpo.1 ht3 fun H4 p4 k4 hL4 ht4 hp4 n4 => ?_
      have el3 : ∃ dx q, H3 L = some (.ins 1155 dx q) := by
        obtain ⟨dx, q, e, _⟩ := id hL3
        exact ⟨dx, _, e⟩
      have kl4 : Kl H3 H4 := kl_of k4 fun b z xs e => by
        rcases z with z | z
        · obtain ⟨dx, q, e3⟩ := el3
          rw [z, e3] at e; cases e
        · exact tb_ne ht3 e (fun _ z => by cases z) z
      have k04 : Kp (fun b => b = nt ∨ Tb b) H H4 := kp_trans k03 k4 fun b z => z.elim (fun z => .inr (by rw [z]; exact nL)) fun z => .inl (.inr z)
      have hn4 := hn3.kl kl4
      have np4 : ¬ M p4 := hstd.new (k03.none n4)
      refine ⟨_, rfl, s2, fun p5 n5 => ?_⟩
      have k5 : K0 H4 (upd H4 p5 (.lst [.str "back", .str "None"])) := kp_new n5
      have hp5 : ToldAt (upd H4 p5 (.lst [.str "back", .str "None"])) p4 (goT (doneD (s0 :: r0) pd.1).2) := k5.at0 hp4
      refine ⟨toldP (goT (doneD (s0 :: r0) pd.1).2), toldP ("back", "None"), .lst (SqL.of hp5) (.cons (.str _) (.cons (.str _) .nil)), .lst (SqL.of upd_same) (.cons (.str _) (.cons (.str _) .nil)), shaped_told (tok_go fun e he => done_okE wf (by have := hpo.1.1; omega) hpo.1.2 (Prod.ext rfl he)), shaped_told ⟨sok_of _, sok_of _⟩, ?_⟩
      cases eD : doneD (s0 :: r0) pd.1 with
      | mk l' oe =>
        rw [eD] at hp4 hL4 hp5
        cases oe with
        | some e =>
          rw [lotD_err (by rw [eT]; exact eD), eT] at q
          refine ⟨true, congrArg V.bl (by rw [toldP_eqv]; show (!((errT e).1 == ("back" : Str) && _)) = true; rw [errT_back]; rfl), ift rfl ?_⟩
          refine ⟨Nat.zero_le _, fun p6 n6 => ⟨_, rfl, s2, fun t n7 => ?_⟩⟩
          have k6 := k5.new (o := .lst []) n6
          have k7 := k6.new (o := .tup [.ref p6, .ref p4]) n7
          have k07 := k04.trans k7.up
          have n6H : H p6 = none := (k04.trans k5.up).none n6
          refine q _ t p6 p4 k07 upd_same ⟨[], ?_, hstd.new n6H, True.intro⟩ (k7.at0 hp4) np4 (hn4.k0 k7) (tabs_kp ht4 k7 fun _ _ z => z)
          rw [upd_ne (ne_of_none upd_same n7)]
          exact upd_same
        | none =>
          rw [lotD_ok (by rw [eT]; exact eD), eT] at q
          have wf' : WfL (1 + 4 * ls.length + 4) l' := by
            have := done_wf (ds := pd.1) wf hpo.1.2
            rw [eD] at this
            exact this.mono (by have := hpo.1.1; omega)
          refine ⟨false, congrArg V.bl (by rw [goT_none, toldP_refl]; rfl), iff_ rfl ?_⟩
          have hL5 := hL4.k0 k5
          have hn5 := hn4.k0 k5
          have k05 := k04.trans k5.up
          have ht5 := tabs_kp ht4 k5 fun _ _ z => z
          generalize upd H4 p5 (.lst [.str "back", .str "None"]) = H5 at k5 hL5 hn5 k05 ht5 ⊢
          obtain ⟨ys, en5, hz5⟩ := id hn5
          have hyl : ys.length = ns.length + 1 := by
            have := hz5.len
            rw [List.length_append] at this
            exact this
          refine ⟨_, rfl, .inl ⟨rfl, _, SqL.of en5⟩, ?_⟩
          refine ⟨_, rfl, L, l', _, rfl, hL5, wf', by omega, fun H6 k6 => ?_⟩
          have en6 := k6.at0 en5
          refine ⟨nt, ys, _, rfl, rfl, en6, by rw [sizeLine_eq]; omega, ?_⟩
          obtain ⟨k7, hn7⟩ := NotesAt.app (M := M) (n := .v (viewT l')) (x := .str (viewT l')) hMn en6 (hz5.kp k6.up) rfl
          generalize upd H6 nt (.lst (ys ++ [.str (viewT l')])) = H7 at k7 hn7 ⊢
          have k07 : Kp (fun b => b = nt ∨ Tb b) H H7 := (k05.trans k6.up).trans (k7.mono mn)
          have ht7 := tabs_kp (tabs_kp ht5 k6 fun _ _ z => z) k7 nTN
          obtain ⟨zs, ea7, na7, hz7⟩ := hls.kp (k07.mono mM)
          have hzl := hz7.len
          obtain ⟨lt7, ep7, hlt7, hlot7⟩ := id (hpl.kp (k07.mono mM))
          refine ⟨_, rfl, _, rfl, pl, _, 0, .ref lt7, rfl, rfl, SqT.of ep7, rfl, by show 1 ≤ sizeLine; rw [sizeLine_eq]; omega, fun p8 n8 => ?_⟩
          have k8 : K0 H7 (upd H7 p8 (.lst [.ref lt7])) := kp_new n8
          refine ⟨a, p8, zs, _, rfl, rfl, k8.at0 ea7, upd_same, by rw [sizeLine_eq]; show zs.length + 1 ≤ _; omega, fun p9 n9 => ?_⟩
          have k9 := k8.new (o := .lst (zs ++ [.ref lt7])) n9
          have e9 : upd (upd H7 p8 (.lst [.ref lt7])) p9 (.lst (zs ++ [.ref lt7])) p9 = some (.lst (zs ++ [.ref lt7])) := upd_same
          generalize upd (upd H7 p8 (.lst [.ref lt7])) p9 (.lst (zs ++ [.ref lt7])) = H9 at k9 e9 ⊢
          refine ⟨_, rfl, pl, _, 1, .int (pd.2 : Nat), rfl, rfl, SqT.of (k9.tup ep7), rfl, ?_⟩
          refine ⟨pd.2, rfl, hpo.2, fun H10 p10 k10 hp10 n10 => ⟨s2, fun t n11 => ?_⟩⟩
          have k11 := k10.new (o := .tup [.ref p9, .ref p10]) n11
          have k79 := k9.trans k11
          refine q _ t p9 p10 (k07.trans k79.up) upd_same ⟨zs ++ [.ref lt7], k11.at0 e9, hstd.new (k07.none (k8.none n9)), ?_⟩ ?_ (hstd.new (k07.none (k9.none n10))) (by
            rw [show ns ++ [Note.lv (lenL (s0 :: r0)) (viewT (s0 :: r0)), Note.v (viewT l')] = (ns ++ [Note.lv (lenL (s0 :: r0)) (viewT (s0 :: r0))]) ++ [Note.v (viewT l')] by simp]
            exact hn7.k0 k79) (tabs_kp ht7 k79 fun _ _ z => z)
          · exact Lz.app (hz7.kp k79.up) ⟨⟨lt7, rfl, hlt7, hlot7.k0 k79⟩, True.intro⟩
          · have k12 : K0 H10 (upd H10 t (.tup [.ref p9, .ref p10])) := kp_new n11
            exact k12.at0 hp10
end
end SK
set_option maxHeartbeats 4000000
/-! SkP2: _law_wanted. -/
namespace SK
open PySem PySem.Spec PyProof.Rows L2 L2H
section
variable {M : Addr → Prop} {H : Hp} {nt : Addr}
theorem Lz.more (n : H nt = none) : ∀ {ls : List (List Deed)} {xs : List V}, Lz M H ls xs → Lz (fun b => b = nt ∨ M b) H ls xs
  | [], [], _ => True.intro
  | _ :: _, _ :: _, ⟨⟨l, e, m, h⟩, t⟩ => ⟨⟨l, e, fun z => z.elim (fun z => by obtain ⟨xs, h1, _⟩ := h; exact ne_of_none h1 n z) m, h⟩, Lz.more n t⟩
  | [], _ :: _, h => h.elim
  | _ :: _, [], h => h.elim
theorem LotsAt.more {a : Addr} {ls : List (List Deed)} (h : LotsAt M H a ls) (n : H nt = none) : LotsAt (fun b => b = nt ∨ M b) H a ls := by
  obtain ⟨xs, h1, h2, h3⟩ := h
  exact ⟨xs, h1, fun z => z.elim (ne_of_none h1 n) h2, h3.more n⟩
theorem PlanAt.more {t : Addr} {pl : Plan} (h : PlanAt M H t pl) (n : H nt = none) : PlanAt (fun b => b = nt ∨ M b) H t pl := by
  obtain ⟨l, h1, h2, h3⟩ := h
  exact ⟨l, h1, fun z => z.elim (fun z => by obtain ⟨xs, h1, _⟩ := h3; exact ne_of_none h1 n z) h2, h3⟩
end
/-! ### lots as data -/
def deedP (d : Deed) : PyData := .tuple [.int (d.way : Nat), .bool d.outer, .str d.tag, .int (d.many : Nat)]
def lotP (ds : List Deed) : PyData := .list (ds.map deedP)
def lotsP (ls : List (List Deed)) : PyData := .list (ls.map lotP)
theorem Dz.dp {K : PySem.W.Frag} {H : Hp} : ∀ {ds : List Deed} {xs : List V}, Dz H ds xs → DpAll K H xs (ds.map deedP)
  | [], [], _ => .nil
  | _ :: _, _ :: _, ⟨⟨t, e, h⟩, r⟩ => by
    subst e
    exact .cons (.tup (SqT.of h) (.cons (.int _) (.cons (.bl _) (.cons (.str _) (.cons (.int _) .nil))))) (Dz.dp r)
  | [], _ :: _, h => h.elim
  | _ :: _, [], h => h.elim
theorem Lz.dp {K : PySem.W.Frag} {M : Addr → Prop} {H : Hp} : ∀ {ls : List (List Deed)} {xs : List V}, Lz M H ls xs → DpAll K H xs (ls.map lotP)
  | [], [], _ => .nil
  | _ :: _, _ :: _, ⟨⟨l, e, _, ys, h1, h2⟩, r⟩ => by
    subst e
    exact .cons (.lst (SqL.of h1) h2.dp) (Lz.dp r)
  | [], _ :: _, h => h.elim
  | _ :: _, [], h => h.elim
theorem LotsAt.dp {K : PySem.W.Frag} {M : Addr → Prop} {H : Hp} {a : Addr} {ls : List (List Deed)} (h : LotsAt M H a ls) : Dp K H (.ref a) (lotsP ls) := by
  obtain ⟨xs, h1, _, h3⟩ := h
  exact .lst (SqL.of h1) h3.dp
theorem canAll_of {ds : List PyData} (h : ∀ d ∈ ds, PyData.canLay0 d = true) : PyData.canLayAll0 ds = true := by
  induction ds with
  | nil => rfl
  | cons d r ih => simp [PyData.canLayAll0, h d (by simp), ih (fun x hx => h x (List.mem_cons_of_mem _ hx))]
theorem sok_tag {n : Str} (h : n = sA ∨ n = sB) : sok n := by
  rcases h with rfl | rfl <;> (show PyData.strOk _ = true; decide +kernel)
theorem shaped_lots {ls : List (List Deed)} (h : ∀ ds ∈ ls, OkLot ds) : SeqAt.shaped (lotsP ls) = true := by
  unfold SeqAt.shaped
  rw [Bool.and_eq_true]
  have hd : ∀ d : Deed, (deedP d).depth ≤ 1 := fun d => by simp [deedP, PyData.depth, PyData.depthAll]
  have hl : ∀ ds : List Deed, (lotP ds).depth ≤ 2 := fun ds => by
    have : PyData.depthAll (ds.map deedP) ≤ 1 := depthAll_of fun x hx => by
      obtain ⟨d, _, rfl⟩ := List.mem_map.mp hx
      exact hd d
    show PyData.depthAll (ds.map deedP) + 1 ≤ 2
    omega
  refine ⟨canAll_of fun x hx => ?_, decide_eq_true ?_⟩
  · obtain ⟨ds, hds, rfl⟩ := List.mem_map.mp hx
    refine canAll_of fun y hy => ?_
    obtain ⟨d, hdd, rfl⟩ := List.mem_map.mp hy
    have e : PyData.strOk d.tag = true := sok_tag ((h ds hds).2 d hdd).2.1
    simp only [deedP, PyData.canLay0, PyData.canLayAll0, e, Bool.and_self]
  · have : PyData.depthAll (ls.map lotP) ≤ 2 := depthAll_of fun x hx => by
      obtain ⟨ds, _, rfl⟩ := List.mem_map.mp hx
      exact hl ds
    show PyData.depthAll (ls.map lotP) + 1 ≤ 64
    omega
theorem lots_nil {ls : List (List Deed)} : PyData.eqv (lotsP ls) (.list []) = ls.isEmpty := by
  cases ls <;> simp [lotsP, PyData.eqv, PyData.eqvAll]
/-! ### in the plain -/
def wantD (ls : List (List Deed)) (pd dd : Plan) : List Note × (Str × Str) × List (List Deed) := match (lotD ls pd).1 with
  | [] => ((lotD ls pd).2.2, (lotD ls pd).2.1, ls)
  | x :: r => ((lotD ls pd).2.2 ++ (lotD (x :: r) dd).2.2 ++ [.told (lotD (x :: r) dd).2.1] ++ [.v (viewT (twinD (if ((lotD (x :: r) dd).2.1.1 == ("back" : Str)) = true then (lotD (x :: r) dd).1 else x :: r)))], (lotD ls pd).2.1,
      if ((lotD ls pd).2.1.1 == ("back" : Str)) = true then (if ((lotD (x :: r) dd).2.1.1 == ("back" : Str)) = true then (lotD (x :: r) dd).1 else x :: r) else ls)
theorem sel2 {b : Bool} {σ : St} {H : Hp} {QQ : VK} {v1 v2 : V} {i j : Nat} (hi : σ[i]? = some (some v1)) (hj : σ[j]? = some (some v2)) (q : QQ (if b = true then v1 else v2) H) : if b = true then tVar i σ H QQ else tVar j σ H QQ := by
  cases b
  · exact ⟨v2, hj, q⟩
  · exact ⟨v1, hi, q⟩
theorem str_dec (x y : Str) : decide (V.str x = V.str y) = (x == y) := by
  by_cases h : x = y
  · subst h
    simp
  · rw [decide_eq_false (fun z => h (V.str.inj z)), beq_eq_false_iff_ne.mpr h]
theorem wantD_nil {ls : List (List Deed)} {pd dd : Plan} (h : (lotD ls pd).1 = []) : wantD ls pd dd = ((lotD ls pd).2.2, (lotD ls pd).2.1, ls) := by
  unfold wantD
  rw [h]
theorem wantD_cons {ls : List (List Deed)} {pd dd : Plan} {x : List Deed} {r : List (List Deed)} (h : (lotD ls pd).1 = x :: r) : wantD ls pd dd = ((lotD ls pd).2.2 ++ (lotD (x :: r) dd).2.2 ++ [.told (lotD (x :: r) dd).2.1] ++ [.v (viewT (twinD (if ((lotD (x :: r) dd).2.1.1 == ("back" : Str)) = true then (lotD (x :: r) dd).1 else x :: r)))], (lotD ls pd).2.1,
      if ((lotD ls pd).2.1.1 == ("back" : Str)) = true then (if ((lotD (x :: r) dd).2.1.1 == ("back" : Str)) = true then (lotD (x :: r) dd).1 else x :: r) else ls) := by
  unfold wantD
  rw [h]
theorem lotD_good {ls : List (List Deed)} {pd : Plan} (h : ∀ ds ∈ ls, OkLot ds) (ht : Thru l0 ls) (hp : OkPlan pd) : (∀ ds ∈ (lotD ls pd).1, OkLot ds) ∧ Thru l0 (lotD ls pd).1 ∧ (lotD ls pd).1.length ≤ ls.length + 1 ∧ (lotD ls pd).2.2.length ≤ 2 := by
  cases e : doneD (twinD ls) pd.1 with
  | mk l' oe =>
    cases oe with
    | none =>
      rw [lotD_ok e]
      refine ⟨fun ds hd => ?_, thru_app ht ⟨by rw [show twinFrom l0 ls = twinD ls from rfl, e], True.intro⟩, by simp, by simp⟩
      rcases List.mem_append.mp hd with z | z
      · exact h ds z
      · rw [List.mem_singleton.mp z]
        exact hp.1
    | some e1 =>
      rw [lotD_err e]
      exact ⟨fun _ z => (nomatch z), True.intro, Nat.zero_le _, by simp⟩
section
variable {P : Program} {w : World} {K : PySem.W.Frag} {mg : Str → Option Value} {base : Heap}
abbrev N107 : List Str := ["_law_kept_lots", "_law_plan_here", "_law_deep_plan", "_law_notes", "_law_later", "_law_end_here", "_law_deeper", "_law_deep_end"]
theorem sc107 : FnScope N107 ["_law_kept_lots", "_law_plan_here", "_law_deep_plan"] (defScope (top 107)) := ⟨rfl, rfl, rfl, by decide +kernel, rfl, by decide +kernel, by decide +kernel⟩
def spWanted : Sp := fun vs H Q _ => ∃ a pl dp ls pd dd M, vs = [.ref a, .ref pl, .ref dp] ∧ LotsAt M H a ls ∧ (∀ ds ∈ ls, OkLot ds) ∧ ls.length < 30 ∧ Thru l0 ls ∧ PlanAt M H pl pd ∧ OkPlan pd ∧ PlanAt M H dp dd ∧ OkPlan dd ∧ (∀ b, Tb b → M b) ∧ Std H M ∧ LamX.Tabs T3 H ∧
  ∀ H' t nt p' a', Kp Tb H H' → H' t = some (.tup [.ref nt, .ref p', .ref a']) → NotesAt M H' nt (wantD ls pd dd).1 → H nt = none → ToldAt H' p' (wantD ls pd dd).2.1 → ¬ M p' → LotsAt M H' a' (wantD ls pd dd).2.2 → LamX.Tabs T3 H' → Q (.ref t) H'
theorem k_wanted (T : Tx K mg) (ty : Ty K mg base) : FnG P w K mg base (L2N.CX P w) 14 1281 spWanted := by
  obtain ⟨fd, F⟩ := T.f_law_wanted
  obtain ⟨fdv, Fv⟩ := T.f_law_shelf_view
  obtain ⟨fdt, Ft⟩ := T.f_law_twin
  obtain ⟨fdl, Fl⟩ := T.f_law_lot_due
  refine fng_of F sc107 (F.bindsN fun _ _ _ _ _ _ us hl => match us, hl with | [_, _, _], _ => rfl) (fun vs H Q E h => ?_) (fun cdv A outer s H vs Q E hr hg h => ⟨_,
    pss_cons (ps_set (i := 3) sc107.nd rfl (Or.inl rfl) (pe_lst pa_nil))
    (pss_cons (ps_asg (pe_g (E := EF) (k_lot T ty) hr hg (passF noXN) rfl T.g_law_lot_due Fl.kp (pa_cons (pv 0) (pa_cons (pv 1) (pa_cons (pv 3) pa_nil)))) (pg_tup rfl (pgs_cons (pg_name (i := 4) sc107.nd rfl (Or.inl rfl)) (pgs_cons (pg_name (i := 5) sc107.nd rfl (Or.inl rfl)) pgs_nil))))
    (pss_cons (ps_if (pt_cmpR (op_eqD hr.units) (pv 4) (pe_lst pa_nil) (nomark _)) (pss_one (ps_ret (pe_tup (pa_cons (pv 3) (pa_cons (pv 5) (pa_cons (pv 0) pa_nil)))))) pss_nil)
    (pss_cons (ps_asg (pe_g (E := EF) (k_lot T ty) hr hg (passF noXN) rfl T.g_law_lot_due Fl.kp (pa_cons (pv 4) (pa_cons (pv 2) (pa_cons (pv 3) pa_nil)))) (pg_tup rfl (pgs_cons (pg_name (i := 6) sc107.nd rfl (Or.inl rfl)) (pgs_cons (pg_name (i := 7) sc107.nd rfl (Or.inl rfl)) pgs_nil))))
    (pss_cons (ps_expr (pe_bm PySem.F.plainAttrs_list PySem.F.slot_list_append PySem.F.type_list_append mt_append (pv 3) (pa_cons (pv 7) pa_nil)))
    (pss_cons (ps_set (i := 4) sc107.nd rfl (Or.inl rfl) (pe_ifExp (pt_cmpR op_eq (pe_ix ix_list (pv 7) pe_int (fun _ _ => rfl)) pe_str (nomark _)) (pv 6) (pv 4)))
    (pss_cons (ps_expr (pe_bm PySem.F.plainAttrs_list PySem.F.slot_list_append PySem.F.type_list_append mt_append (pv 3) (pa_cons (pe_g (E := EF) (k_view T) (hr.mono (by decide)) hg (passF noXN) rfl T.g_law_shelf_view Fv.kp (pa_cons (pe_g (E := EF) (k_twin T) (hr.mono (by decide)) hg (passF noXN) rfl T.g_law_twin Ft.kp (pa_cons (pv 4) pa_nil)) pa_nil)) pa_nil)))
    (pss_one (ps_ret (pe_tup (pa_cons (pv 3) (pa_cons (pv 5) (pa_cons (pe_ifExp (pt_cmpR op_eq (pe_ix ix_list (pv 5) pe_int (fun _ _ => rfl)) pe_str (nomark _)) (pv 4) (pv 0)) pa_nil)))))))))))), ?_⟩)
  · obtain ⟨_, _, _, _, _, _, _, rfl, _⟩ := h
    rfl
  · obtain ⟨a, pl, dp, ls, pd, dd, M, rfl, hls, hok, hlen, hth, hpl, hpo, hdp, hdo, hMT, hstd, ht, q⟩ := h
    have s3 : 3 ≤ sizeLine := by rw [sizeLine_eq]; omega
    refine ⟨Nat.zero_le _, fun nt nn => ?_⟩
    have k1 : K0 H (upd H nt (.lst [])) := kp_new nn
    have en1 : upd H nt (.lst []) nt = some (.lst []) := upd_same
    generalize upd H nt (.lst []) = H1 at k1 en1 ⊢
    have ht1 := tabs_kp ht k1 fun _ _ z => z
    have std1 : Std H1 (fun b => b = nt ∨ M b) := fun b z => z.elim (fun z => ⟨.lst [], by rw [z]; exact en1⟩) (hstd.kp k1 b)
    have hls1 := (hls.more nn).kp k1.up
    have hpl1 := (hpl.more nn).kp k1.up
    have hdp1 := (hdp.more nn).kp k1.up
    obtain ⟨g1, g2, g3, g4⟩ := lotD_good hok hth hpo
    have mM : ∀ b, (b = nt ∨ Tb b) → (b = nt ∨ M b) := fun b z => z.elim .inl fun z => .inr (hMT b z)
    have back : ∀ {H' : Hp}, Kp (fun b => b = nt ∨ Tb b) H1 H' → Kp Tb H H' := fun kk => kp_trans k1.up kk fun b z => z.elim (fun z => .inr (by rw [z]; exact nn)) .inl
    refine ⟨_, rfl, _, rfl, _, rfl, a, pl, nt, ls, pd, [], (fun b => b = nt ∨ M b), rfl, hls1, hok, by omega, hth, hpl1, hpo, ⟨[], en1, True.intro⟩, by decide, .inl rfl, fun b z => .inr (hMT b z), std1, ht1, fun H2 t2 a2 p2 k2 et2 hl2 hp2 np2 hn2 ht2 => ?_⟩
    rw [List.nil_append] at hn2
    refine ⟨t2, _, rfl, SqT.of et2, rfl, _, _, rfl, _, _, rfl, rfl, ?_⟩
    refine ⟨_, rfl, Nat.zero_le _, fun p3 n3 => ?_⟩
    have k3 : K0 H2 (upd H2 p3 (.lst [])) := kp_new n3
    have hl3 := hl2.kp k3.up
    refine ⟨lotsP (lotD ls pd).1, .list [], hl3.dp, .lst (SqL.of upd_same) .nil, shaped_lots g1, by decide +kernel, (lotD ls pd).1.isEmpty, congrArg V.bl lots_nil, ?_⟩
    have hn3 := hn2.k0 k3
    have ht3 := tabs_kp ht2 k3 fun _ _ z => z
    have k13 := k2.trans k3.up
    have hp3 : ToldAt (upd H2 p3 (.lst [])) p2 (lotD ls pd).2.1 := k3.at0 hp2
    generalize upd H2 p3 (.lst []) = H3 at k3 hl3 hn3 ht3 k13 hp3 ⊢
    have hls3 := hls1.kp (k13.mono mM)
    cases eL : (lotD ls pd).1 with
    | nil =>
      rw [wantD_nil eL] at q
      refine ift rfl ⟨_, rfl, _, rfl, _, rfl, s3, fun t4 n4 => ?_⟩
      have k4 : K0 H3 (upd H3 t4 (.tup [.ref nt, .ref p2, .ref a])) := kp_new n4
      exact q _ t4 nt p2 a (back (k13.trans k4.up)) upd_same ((hn3.k0 k4).mono fun b z => .inr z) nn (k4.at0 hp3) (fun z => np2 (.inr z)) ((hls3.kp k4.up).mono fun b z => .inr z) (tabs_kp ht3 k4 fun _ _ z => z)
    | cons x r =>
      rw [wantD_cons eL] at q
      rw [eL] at hl3 g1 g2 g3
      obtain ⟨f1, f2, f3, f4⟩ := lotD_good g1 g2 hdo
      refine iff_ rfl ?_
      refine ⟨_, rfl, _, rfl, _, rfl, a2, dp, nt, x :: r, dd, (lotD ls pd).2.2, (fun b => b = nt ∨ M b), rfl, hl3, g1, by omega, g2, hdp1.kp (k13.mono mM), hdo, hn3, by omega, .inl rfl, fun b z => .inr (hMT b z), (std1.kp k13), ht3, fun H4 t4 a4 p4 k4 et4 hl4 hp4 np4 hn4 ht4 => ?_⟩
      refine ⟨t4, _, rfl, SqT.of et4, rfl, _, _, rfl, _, _, rfl, rfl, ?_⟩
      have k14 := k13.trans k4
      obtain ⟨xs, en4, hz4⟩ := id hn4
      have hxl := hz4.len
      rw [List.length_append] at hxl
      refine ⟨_, rfl, .inl ⟨rfl, _, SqL.of en4⟩, _, rfl, nt, xs, _, rfl, rfl, en4, by rw [sizeLine_eq]; omega, ?_⟩
      obtain ⟨k5, hn5⟩ := NotesAt.app (M := fun b => b = nt ∨ M b) (n := .told (lotD (x :: r) dd).2.1) (x := .ref p4) (.inl rfl) en4 hz4 ⟨p4, rfl, np4, hp4⟩
      have hl2' := (hl3.kp (k4.mono mM)).kp (k5.mono fun b z => .inl z)
      have hl4' := hl4.kp (k5.mono fun b z => .inl z)
      have hp4' : ToldAt (upd H4 nt (.lst (xs ++ [.ref p4]))) p4 (lotD (x :: r) dd).2.1 := k5.st hp4 fun z => np4 (.inl z)
      have hp2' : ToldAt (upd H4 nt (.lst (xs ++ [.ref p4]))) p2 (lotD ls pd).2.1 := k5.st ((k4.mono mM).st hp3 np2) fun z => np2 (.inl z)
      have ht5 : LamX.Tabs T3 (upd H4 nt (.lst (xs ++ [.ref p4]))) := tabs_kp ht4 k5 fun b z y => tb_ne ht4 en4 (fun _ z => by cases z) (y ▸ z)
      have k15 : Kp (fun b => b = nt ∨ Tb b) H1 (upd H4 nt (.lst (xs ++ [.ref p4]))) := k14.trans (k5.mono fun b z => .inl z)
      generalize upd H4 nt (.lst (xs ++ [.ref p4])) = H5 at k5 hn5 hl2' hl4' hp4' hp2' ht5 k15 ⊢
      refine ⟨_, rfl, p4, _, 0, .str _, rfl, rfl, SqL.of hp4', rfl, rfl, ((lotD (x :: r) dd).2.1.1 == ("back" : Str)), congrArg V.bl (str_dec _ _), ?_⟩
      refine sel2 (v1 := .ref a4) (v2 := .ref a2) rfl rfl ?_
      generalize hb : ((lotD (x :: r) dd).2.1.1 == ("back" : Str)) = b at q ⊢
      have e6 : (if b = true then V.ref a4 else V.ref a2) = V.ref (if b = true then a4 else a2) := by cases b <;> rfl
      rw [e6]
      have hl6 : LotsAt (fun b => b = nt ∨ M b) H5 (if b = true then a4 else a2) (if b = true then (lotD (x :: r) dd).1 else x :: r) := by
        cases b
        · exact hl2'
        · exact hl4'
      have ok6 : ∀ ds ∈ (if b = true then (lotD (x :: r) dd).1 else x :: r), OkLot ds := by
        cases b
        · exact g1
        · exact f1
      have th6 : Thru l0 (if b = true then (lotD (x :: r) dd).1 else x :: r) := by
        cases b
        · exact g2
        · exact f2
      have ln6 : (if b = true then (lotD (x :: r) dd).1 else x :: r).length ≤ ls.length + 2 := by
        cases b
        · show (x :: r).length ≤ _
          omega
        · show (lotD (x :: r) dd).1.length ≤ _
          omega
      generalize (if b = true then a4 else a2) = a6 at hl6 ⊢
      generalize (if b = true then (lotD (x :: r) dd).1 else x :: r) = ls6 at hl6 ok6 th6 ln6 q ⊢
      obtain ⟨ys, en5, hz5⟩ := id hn5
      have hyl := hz5.len
      rw [List.length_append, List.length_append] at hyl
      have hyl2 : ys.length ≤ 5 := by
        have : ([Note.told (lotD (x :: r) dd).2.1] : List Note).length = 1 := rfl
        omega
      refine ⟨_, rfl, .inl ⟨rfl, _, SqL.of en5⟩, ?_⟩
      refine ⟨_, rfl, _, a6, ls6, rfl, hl6, ok6, by omega, th6, fun H7 L7 k7 hL7 n7 => ?_⟩
      refine ⟨L7, twinD ls6, _, rfl, hL7, twin_wf l0_wf ok6, by omega, fun H8 k8' => ?_⟩
      have k8 := k7.trans k8'
      have en8 := k8.at0 en5
      refine ⟨nt, ys, _, rfl, rfl, en8, by rw [sizeLine_eq]; omega, ?_⟩
      obtain ⟨k9, hn9⟩ := NotesAt.app (M := fun b => b = nt ∨ M b) (n := .v (viewT (twinD ls6))) (x := .str (viewT (twinD ls6))) (.inl rfl) en8 (hz5.kp k8.up) rfl
      have k59 := (k8.up (M := fun b => b = nt)).trans k9
      have k19 := k15.trans (k59.mono fun b z => .inl z)
      have hp9 : ToldAt (upd H8 nt (.lst (ys ++ [.str (viewT (twinD ls6))]))) p2 (lotD ls pd).2.1 := k59.st hp2' fun z => np2 (.inl z)
      have hl9 := hl6.kp (k59.mono fun b z => .inl z)
      have hls9 := hls1.kp (k19.mono mM)
      have ht9 : LamX.Tabs T3 (upd H8 nt (.lst (ys ++ [.str (viewT (twinD ls6))]))) := tabs_kp ht5 k59 fun b z y => tb_ne ht5 en5 (fun _ z => by cases z) (y ▸ z)
      generalize upd H8 nt (.lst (ys ++ [.str (viewT (twinD ls6))])) = H9 at k9 hn9 k59 k19 hp9 hl9 hls9 ht9 ⊢
      refine ⟨_, rfl, _, rfl, _, rfl, p2, _, 0, .str _, rfl, rfl, SqL.of hp9, rfl, rfl, ((lotD ls pd).2.1.1 == ("back" : Str)), congrArg V.bl (str_dec _ _), ?_⟩
      refine sel2 (v1 := .ref a6) (v2 := .ref a) rfl rfl ?_
      generalize hc : ((lotD ls pd).2.1.1 == ("back" : Str)) = c at q ⊢
      have e7 : (if c = true then V.ref a6 else V.ref a) = V.ref (if c = true then a6 else a) := by cases c <;> rfl
      rw [e7]
      have hl10 : LotsAt (fun b => b = nt ∨ M b) H9 (if c = true then a6 else a) (if c = true then ls6 else ls) := by
        cases c
        · exact hls9
        · exact hl9
      generalize (if c = true then a6 else a) = a7 at hl10 ⊢
      refine ⟨s3, fun t10 n10 => ?_⟩
      have k10 : K0 H9 (upd H9 t10 (.tup [.ref nt, .ref p2, .ref a7])) := kp_new n10
      exact q _ t10 nt p2 a7 (back (k19.trans k10.up)) upd_same ((hn9.k0 k10).mono fun b z => .inr z) nn (k10.at0 hp9) (fun z => np2 (.inr z)) ((hl10.kp k10.up).mono fun b z => .inr z) (tabs_kp ht9 k10 fun _ _ z => z)
end
end SK
set_option maxHeartbeats 4000000
/-! SkP3: the plain law; notes as data. -/
namespace SK
open PySem PySem.Spec PyProof.Rows L2 L2H
/-! ### the plain law -/
theorem wentT_endT (m : Nat) : wentT m (endE m) = endT m := by
  match m with
  | 0 => rfl
  | 1 => rfl
  | 2 => exact (by decide +kernel : (("great" : Str), (PyData.int 99).shown) = ((("great" : Str), ("99" : Str)) : Str × Str))
  | m + 3 => rfl
theorem endT_back (m : Nat) : ((endT m).1 == ("back" : Str)) = (endE m).isNone := by
  match m with
  | 0 => decide +kernel
  | 1 => decide +kernel
  | 2 => decide +kernel
  | m + 3 => exact (by decide +kernel : (("back" : Str) == "back") = true)
theorem twin_snoc {ls : List (List Deed)} {ds : List Deed} {l' : Lib} {oe : Option Err} (h : doneD (twinD ls) ds = (l', oe)) : twinD (ls ++ [ds]) = l' := by
  show twinFrom l0 (ls ++ [ds]) = l'
  rw [twinFrom_app]
  show (doneD (twinD ls) ds).1 = l'
  rw [h]
/-- what a trial tells, and what it leaves, is what is due -/
theorem plain_law {ls : List (List Deed)} {pd dd : Plan} : (actionD (twinD ls) pd dd).2.1 = (wantD ls pd dd).1 ∧ wentT pd.2 (actionD (twinD ls) pd dd).2.2 = (wantD ls pd dd).2.1 ∧ afterD (twinD ls) (actionD (twinD ls) pd dd) = twinD (wantD ls pd dd).2.2 := by
  cases e : doneD (twinD ls) pd.1 with
  | mk l' oe =>
    cases oe with
    | some e1 =>
      rw [actionD_err e, wantD_nil (by rw [lotD_err e]), lotD_err e]
      exact ⟨rfl, rfl, rfl⟩
    | none =>
      have hl := lotD_ok e
      obtain ⟨x, r, hx⟩ : ∃ x r, ls ++ [pd.1] = x :: r := by
        cases ls with
        | nil => exact ⟨_, _, rfl⟩
        | cons y z => exact ⟨_, _, rfl⟩
      have et : twinD (x :: r) = l' := by rw [← hx]; exact twin_snoc e
      have e1 : (lotD ls pd).1 = x :: r := by rw [hl]; exact hx
      rw [actionD_ok e, wantD_cons e1, hl]
      have hafter : ∀ z : Lib, afterD (twinD ls) (z, ([] : List Note), endE pd.2) = if ((endT pd.2).1 == ("back" : Str)) = true then z else twinD ls := fun z => by
        rw [endT_back]
        unfold afterD
        cases endE pd.2 <;> rfl
      have hA : ∀ (z : Lib) (ns : List Note), afterD (twinD ls) (z, ns, endE pd.2) = if ((endT pd.2).1 == ("back" : Str)) = true then z else twinD ls := fun z ns => hafter z
      cases e2 : doneD l' dd.1 with
      | mk l2 oe2 =>
        cases oe2 with
        | some e3 =>
          have hl2 : lotD (x :: r) dd = ([], errT e3, [.lv (lenL l') (viewT l')]) := by
            rw [lotD_err (by rw [et]; exact e2), et]
          rw [hl2, innerD_err e2]
          have hb : ((errT e3).1 == ("back" : Str)) = false := errT_back e3
          have ha : afterD l' (l2, [Note.lv (lenL l') (viewT l')], some e3) = l' := rfl
          refine ⟨?_, wentT_endT _, ?_⟩
          · show [Note.lv (lenL (twinD ls)) (viewT (twinD ls)), Note.v (viewT l')] ++ [Note.lv (lenL l') (viewT l')] ++ [Note.told (errT e3), Note.v (viewT l')] = _
            simp only [hb, Bool.false_eq_true, if_false, et]
            rfl
          · rw [hA]
            show (if ((endT pd.2).1 == ("back" : Str)) = true then l' else twinD ls) = _
            simp only [hb, Bool.false_eq_true, if_false]
            split
            · exact et.symm
            · rfl
        | none =>
          have hl2 : lotD (x :: r) dd = ((x :: r) ++ [dd.1], endT dd.2, [.lv (lenL l') (viewT l'), .v (viewT l2)]) := by
            rw [lotD_ok (by rw [et]; exact e2), et]
          have et2 : twinD ((x :: r) ++ [dd.1]) = l2 := twin_snoc (by rw [et]; exact e2)
          rw [hl2, innerD_ok e2]
          have ha : afterD l' (l2, [Note.lv (lenL l') (viewT l'), Note.v (viewT l2)], endE dd.2) = if ((endT dd.2).1 == ("back" : Str)) = true then l2 else l' := by
            rw [endT_back]
            unfold afterD
            cases endE dd.2 <;> rfl
          have hw : twinD (if ((endT dd.2).1 == ("back" : Str)) = true then (x :: r) ++ [dd.1] else x :: r) = if ((endT dd.2).1 == ("back" : Str)) = true then l2 else l' := by
            split
            · exact et2
            · exact et
          refine ⟨?_, wentT_endT _, ?_⟩
          · rw [ha]
            show [Note.lv (lenL (twinD ls)) (viewT (twinD ls)), Note.v (viewT l')] ++ [Note.lv (lenL l') (viewT l'), Note.v (viewT l2)] ++ [Note.told (wentT dd.2 (endE dd.2)), Note.v (viewT (if ((endT dd.2).1 == ("back" : Str)) = true then l2 else l'))] = [Note.lv (lenL (twinD ls)) (viewT (twinD ls)), Note.v (viewT l')] ++ [Note.lv (lenL l') (viewT l'), Note.v (viewT l2)] ++ [Note.told (endT dd.2)] ++ [Note.v (viewT (twinD (if ((endT dd.2).1 == ("back" : Str)) = true then (x :: r) ++ [dd.1] else x :: r)))]
            rw [hw, wentT_endT]
            rfl
          · rw [hA, ha]
            show _ = twinD (if ((endT pd.2).1 == ("back" : Str)) = true then (if ((endT dd.2).1 == ("back" : Str)) = true then (x :: r) ++ [dd.1] else x :: r) else ls)
            rw [← hw]
            split <;> rfl
theorem wantD_good {ls : List (List Deed)} {pd dd : Plan} (h : ∀ ds ∈ ls, OkLot ds) (ht : Thru l0 ls) (hp : OkPlan pd) (hd : OkPlan dd) : (∀ ds ∈ (wantD ls pd dd).2.2, OkLot ds) ∧ Thru l0 (wantD ls pd dd).2.2 ∧ (wantD ls pd dd).2.2.length ≤ ls.length + 2 := by
  obtain ⟨g1, g2, g3, g4⟩ := lotD_good h ht hp
  cases e : (lotD ls pd).1 with
  | nil => rw [wantD_nil e]; exact ⟨h, ht, Nat.le_add_right _ _⟩
  | cons x r =>
    rw [e] at g1 g2 g3
    obtain ⟨f1, f2, f3, f4⟩ := lotD_good g1 g2 hd
    rw [wantD_cons e]
    dsimp only
    split
    · split
      · exact ⟨f1, f2, by omega⟩
      · exact ⟨g1, g2, by omega⟩
    · exact ⟨h, ht, Nat.le_add_right _ _⟩
/-! ### notes as data -/
def noteP : Note → PyData
  | .lv n t => .list [.int (n : Nat), .str t]
  | .v t => .str t
  | .told t => toldP t
def NoteOk : Note → Prop
  | .lv _ t => sok t
  | .v t => sok t
  | .told t => TokT t
def notesP (ns : List Note) : PyData := .list (ns.map noteP)
theorem Nz.dp {K : PySem.W.Frag} {M : Addr → Prop} {H : Hp} : ∀ {ns : List Note} {xs : List V}, Nz M H ns xs → DpAll K H xs (ns.map noteP)
  | [], [], _ => .nil
  | n :: _, _ :: _, ⟨h, r⟩ => by
    refine .cons ?_ (Nz.dp r)
    cases n with
    | lv n t =>
      obtain ⟨p, rfl, _, e⟩ := h
      exact .lst (SqL.of e) (.cons (.int _) (.cons (.str _) .nil))
    | v t =>
      obtain rfl := (show _ = V.str t from h)
      exact .str _
    | told t =>
      obtain ⟨p, rfl, _, e⟩ := h
      exact .lst (SqL.of e) (.cons (.str _) (.cons (.str _) .nil))
  | [], _ :: _, h => h.elim
  | _ :: _, [], h => h.elim
theorem NotesAt.dp {K : PySem.W.Frag} {M : Addr → Prop} {H : Hp} {nt : Addr} {ns : List Note} (h : NotesAt M H nt ns) : Dp K H (.ref nt) (notesP ns) := by
  obtain ⟨xs, h1, h2⟩ := h
  exact .lst (SqL.of h1) h2.dp
theorem note_can {n : Note} (h : NoteOk n) : (noteP n).canLay0 = true ∧ (noteP n).depth ≤ 1 := by
  cases n with
  | lv n t =>
    have e : PyData.strOk t = true := h
    exact ⟨by simp only [noteP, PyData.canLay0, PyData.canLayAll0, e, Bool.and_self], by simp [noteP, PyData.depth, PyData.depthAll]⟩
  | v t =>
    have e : PyData.strOk t = true := h
    exact ⟨by simp only [noteP, PyData.canLay0, e], by simp [noteP, PyData.depth]⟩
  | told t =>
    have e1 : PyData.strOk t.1 = true := h.1
    have e2 : PyData.strOk t.2 = true := h.2
    exact ⟨by simp only [noteP, toldP, PyData.canLay0, PyData.canLayAll0, e1, e2, Bool.and_self], by simp [noteP, toldP, PyData.depth, PyData.depthAll]⟩
theorem notes_can {ns : List Note} (h : ∀ n ∈ ns, NoteOk n) : (notesP ns).canLay0 = true := canAll_of fun x hx => by
  obtain ⟨n, hn, rfl⟩ := List.mem_map.mp hx
  exact (note_can (h n hn)).1
theorem shaped_notes {ns : List Note} (h : ∀ n ∈ ns, NoteOk n) : SeqAt.shaped (notesP ns) = true := by
  unfold SeqAt.shaped
  rw [Bool.and_eq_true]
  refine ⟨notes_can h, decide_eq_true ?_⟩
  have : PyData.depthAll (ns.map noteP) ≤ 1 := depthAll_of fun x hx => by
    obtain ⟨n, hn, rfl⟩ := List.mem_map.mp hx
    exact (note_can (h n hn)).2
  show PyData.depthAll (ns.map noteP) + 1 ≤ 64
  omega
theorem lotD_notes {ls : List (List Deed)} {pd : Plan} (h : ∀ ds ∈ ls, OkLot ds) (hl : ls.length < 50) (hp : OkPlan pd) : (∀ n ∈ (lotD ls pd).2.2, NoteOk n) ∧ TokT (lotD ls pd).2.1 := by
  have wf := twin_wf (ls := ls) l0_wf h
  have w2 := done_wf (ds := pd.1) wf hp.1.2
  cases e : doneD (twinD ls) pd.1 with
  | mk l' oe =>
    rw [show doneD (twinFrom l0 ls) pd.1 = (l', oe) from e] at w2
    cases oe with
    | none =>
      rw [lotD_ok e]
      refine ⟨fun n hn => ?_, ?_⟩
      · simp only [List.mem_cons, List.not_mem_nil, or_false] at hn
        rcases hn with rfl | rfl
        · exact sok_view wf
        · exact sok_view w2
      · rw [← wentT_endT]
        exact tok_went fun e he => endE_ok he
    | some e1 =>
      rw [lotD_err e]
      refine ⟨fun n hn => ?_, tok_err (done_okE wf (by have := hp.1.1; omega) hp.1.2 e)⟩
      rw [List.mem_singleton.mp hn]
      exact sok_view wf
theorem wantD_notes {ls : List (List Deed)} {pd dd : Plan} (h : ∀ ds ∈ ls, OkLot ds) (ht : Thru l0 ls) (hl : ls.length < 40) (hp : OkPlan pd) (hd : OkPlan dd) : (∀ n ∈ (wantD ls pd dd).1, NoteOk n) ∧ TokT (wantD ls pd dd).2.1 := by
  obtain ⟨g1, g2, g3, g4⟩ := lotD_good h ht hp
  obtain ⟨n1, n2⟩ := lotD_notes h (by omega) hp
  cases e : (lotD ls pd).1 with
  | nil => rw [wantD_nil e]; exact ⟨n1, n2⟩
  | cons x r =>
    rw [e] at g1 g2 g3
    obtain ⟨f1, f2, f3, f4⟩ := lotD_good g1 g2 hd
    obtain ⟨m1, m2⟩ := lotD_notes g1 (by omega) hd
    rw [wantD_cons e]
    refine ⟨fun n hn => ?_, n2⟩
    rcases List.mem_append.mp hn with z | z
    · rcases List.mem_append.mp z with z | z
      · rcases List.mem_append.mp z with z | z
        · exact n1 n z
        · exact m1 n z
      · rw [List.mem_singleton.mp z]
        exact m2
    · rw [List.mem_singleton.mp z]
      refine sok_view (k := 1 + 4 * (ls.length + 2)) ?_
      split
      · exact (twin_wf l0_wf f1).mono (by omega)
      · exact (twin_wf l0_wf g1).mono (by omega)
end SK
set_option maxHeartbeats 4000000
/-! SkP4: the lambdas of _law_right. -/
namespace SK
open PySem PySem.Spec PyProof.Rows L2 L2H
def forB : Stmt → List Stmt
  | .For _ _ b _ _ => b
  | _ => []
def ifE : Stmt → Expr
  | .If c _ _ _ => c
  | _ => noE
def retE : Stmt → Expr
  | .Return (some e) _ => e
  | _ => noE
def cmpL : Expr → Expr
  | .Compare l _ _ _ => l
  | _ => noE
def kwE : Expr → Expr
  | .Call _ _ [⟨_, e, _⟩] _ => e
  | _ => noE
abbrev eAc : Expr := asgE ((forB (st 108 2)).getD 3 (.Pass ⟨0, 0, 0, 0⟩))
abbrev eOu : Expr := argE (argE (asgE ((forB (st 108 2)).getD 4 (.Pass ⟨0, 0, 0, 0⟩))) 0) 0
abbrev eLn : Expr := kwE (cmpL (ifE (st 108 3)))
abbrev eUn : Expr := argE (cmpL (retE (st 108 6))) 0
theorem sAc : NdefX.NScope ["_law_held", "_law_first", "_law_notes", "_law_second", "_law_shelf"] ["_law_held"] ["_law_first", "_law_notes", "_law_second", "_law_shelf"] (lamS eAc) := NdefX.nscope_by (by decide +kernel)
theorem sOu : NdefX.NScope ["_law_act", "_law_shelf"] [] ["_law_act", "_law_shelf"] (lamS eOu) := NdefX.nscope_by (by decide +kernel)
theorem sLn : NdefX.NScope ["_law_held"] ["_law_held"] [] (lamS eLn) := NdefX.nscope_by (by decide +kernel)
theorem sUn : NdefX.NScope ["_law_shelf"] [] ["_law_shelf"] (lamS eUn) := NdefX.nscope_by (by decide +kernel)
theorem hfAc : ∀ y ∈ (lamS eAc).names, y.2 = .free → (defScope (top 108)).names.lookup y.1 = some .cell ∨ (defScope (top 108)).names.lookup y.1 = some .free := by decide +kernel
theorem hfOu : ∀ y ∈ (lamS eOu).names, y.2 = .free → (defScope (top 108)).names.lookup y.1 = some .cell ∨ (defScope (top 108)).names.lookup y.1 = some .free := by decide +kernel
theorem hfLn : ∀ y ∈ (lamS eLn).names, y.2 = .free → (defScope (top 108)).names.lookup y.1 = some .cell ∨ (defScope (top 108)).names.lookup y.1 = some .free := by decide +kernel
theorem hfUn : ∀ y ∈ (lamS eUn).names, y.2 = .free → (defScope (top 108)).names.lookup y.1 = some .cell ∨ (defScope (top 108)).names.lookup y.1 = some .free := by decide +kernel
theorem k0_relock {L : List (Addr × Obj)} {H H' : Hp} (lk : Lkd L H) (k : K0 (unlock L H) H') : K0 H (lock L H') := fun b o e => by
  cases q : L.lookup b with
  | none =>
    have e2 : lock L H' b = some o := by rw [lock_ne q]; exact k.at0 (by rw [unlock_ne q]; exact e)
    exact ⟨fun _ => e2, o, e2⟩
  | some ob =>
    have e2 : lock L H' b = some o := by rw [lock_at q, ← lk b ob q]; exact e
    exact ⟨fun _ => e2, o, e2⟩
theorem rz_mono {oe : Option Err} {m : Nat} {H : Hp} {Q Q2 : VK} {E E2 : XK} (hq : ∀ v H, Q v H → Q2 v H) (he : ∀ c d H, E c d H → E2 c d H) (h : Rz oe m Q E H) : Rz oe m Q2 E2 H := by
  cases oe with
  | none => exact fun p hp => hq _ _ (h p hp)
  | some e => exact fun ho c d hc => he _ _ _ (h ho c d hc)
theorem action_mono : Mono spAction := by
  intro vs H Q Q2 E E2 hq he h
  obtain ⟨L, pl, dp, nt, l, k, pd, dd, ns, h1, h2, h3, h4, h5, h6, h7, h8, h9, h10, h11, h12, h13, q⟩ := h
  exact ⟨L, pl, dp, nt, l, k, pd, dd, ns, h1, h2, h3, h4, h5, h6, h7, h8, h9, h10, h11, h12, h13, fun H' a b c d => rz_mono hq he (q H' a b c d)⟩
theorem undo_mono : Mono spUndo := by
  intro vs H Q Q2 E E2 hq he h
  obtain ⟨L, l, h1, h2, q⟩ := h
  refine ⟨L, l, h1, h2, fun H' k' hL => ?_⟩
  have z := q H' k' hL
  cases e : (undoD l).2 with
  | none => rw [e] at z; exact hq _ _ z
  | some e1 => rw [e] at z; exact fun c d hc => he _ _ _ (z c d hc)
def spLAc : List (Option V) → Sp := fun ws vs H Q E => ∃ x fi nt se sh, vs = [x] ∧ ws = [some fi, some nt, some se, some sh] ∧ spAction [x, sh, fi, se, nt] H Q E
def spLLn : List (Option V) → Sp := fun ws vs H Q E => ∃ L s r, vs = [.ref L] ∧ LibAt H L (s :: r) ∧ Okn s.ys ∧ ∀ H', K0 H H' → Q (.int ((nms s.ys).length : Nat)) H'
def spLUn : List (Option V) → Sp := fun ws vs H Q E => ∃ L dx fs, vs = [] ∧ ws = [some (.ref L)] ∧ H L = some (.ins 1155 dx fs) ∧ fs.lookup ("undo" : Str) = none ∧ spUndo [.ref L] H Q E
section
variable {P : Program} {w : World} {K : PySem.W.Frag} {mg : Str → Option Value} {base : Heap}
theorem k_lAc (T : Tx K mg) (ty : Ty K mg base) (f : Addr) (cl : List (Str × Addr)) (c : Addr) : FnG P w K mg base (L2N.CX P w) 17 f (spLam f (lfE qRig eAc cl c) 1 ["_law_first", "_law_notes", "_law_second", "_law_shelf"] spLAc) := by
  obtain ⟨fdi, Fi⟩ := T.f_law_action
  refine fng_lam (N := ["_law_held", "_law_first", "_law_notes", "_law_second", "_law_shelf"]) (ps := ["_law_held"]) (F := lfE qRig eAc cl c) (sp := spLAc) sAc (fun pm ctv us hl => match us, hl with | [_], _ => rfl) (fun A outer s H L vs ws Q E hr hg hv hw lk la h rd => ⟨_,
    pe_gL0 (W := fun c d _ H' => E c d (lock L H')) (L := L) (k_action T ty) hr hg (L2N.takes_of rfl rfl rfl rfl) rd rfl T.g_law_action Fi.kp (pa_cons (pv 0) (pa_cons (pv 4) (pa_cons (pv 1) (pa_cons (pv 3) (pa_cons (pv 2) pa_nil))))), ?_⟩)
  obtain ⟨x, fi, nt, se, sh, rfl, rfl, h⟩ := h
  exact ⟨_, rfl, _, rfl, _, rfl, _, rfl, _, rfl, mono_lock action_mono lk h⟩
theorem k_lOu (T : Tx K mg) {k : Nat} (h3 : 3 ≤ k) (f : Addr) (cl : List (Str × Addr)) (c : Addr) : FnG P w K mg base (L2N.CX P w) (k + 2) f (spLam f (lfE qRig eOu cl c) 0 ["_law_act", "_law_shelf"] (spLTr P w K mg base k)) := by
  refine fng_lam (N := ["_law_act", "_law_shelf"]) (ps := []) (F := lfE qRig eOu cl c) (sp := spLTr P w K mg base k) sOu (fun pm ctv us hl => match us, hl with | [], _ => rfl) (fun A outer s H L vs ws Q E hr hg hv hw lk la h rd => ⟨_,
    pe_mgL0 (W := fun c d _ H' => E c d (lock L H')) (L := L) (pv 1) T.clLibrary T.mtried (k_tried T h3) hr hg (L2N.takes_of rfl rfl rfl rfl) rd (pa_cons (pv 0) pa_nil), ?_⟩)
  obtain ⟨Lb, f1, dx, fs, rfl, rfl, eL, hl, h⟩ := h
  exact ⟨_, rfl, Lb, dx, fs, rfl, (unlock_kn lk).ins eL, hl, _, rfl, mono_lock tried_mono lk h⟩
theorem k_lUn (T : Tx K mg) (f : Addr) (cl : List (Str × Addr)) (c : Addr) : FnG P w K mg base (L2N.CX P w) 2 f (spLam f (lfE qRig eUn cl c) 0 ["_law_shelf"] spLUn) := by
  refine fng_lam (N := ["_law_shelf"]) (ps := []) (F := lfE qRig eUn cl c) (sp := spLUn) sUn (fun pm ctv us hl => match us, hl with | [], _ => rfl) (fun A outer s H L vs ws Q E hr hg hv hw lk la h rd => ⟨_,
    pe_mgL00 (W := fun c d _ H' => E c d (lock L H')) (L := L) (pv 0) T.clLibrary T.mundo (k_undo T) hr hg (L2N.takes_of rfl rfl rfl rfl) rd, ?_⟩)
  obtain ⟨Lb, dx, fs, rfl, rfl, eL, hl, h⟩ := h
  exact ⟨_, rfl, Lb, dx, fs, rfl, (unlock_kn lk).ins eL, hl, mono_lock undo_mono lk h⟩
theorem k_lLn (T : Tx K mg) (f : Addr) (cl : List (Str × Addr)) (c : Addr) : FnG P w K mg base (L2N.CX P w) 6 f (spLam f (lfE qRig eLn cl c) 1 [] spLLn) := by
  refine fng_lam (N := ["_law_held"]) (ps := ["_law_held"]) (F := lfE qRig eLn cl c) (sp := spLLn) sLn (fun pm ctv us hl => match us, hl with | [_], _ => rfl) (fun A outer s H L vs ws Q E hr hg hv hw lk la h rd => ⟨_,
    c_len T (pa_cons (pe_propG (pv 0) T.clLibrary T.pnames (k_names T) (hr.mono (by decide)) hg noXN) pa_nil), ?_⟩)
  obtain ⟨Lb, s0, r0, rfl, hL, ho, h⟩ := h
  have hL' := hL.kn (unlock_kn lk)
  obtain ⟨dl, p, el, _⟩ := id hL'
  refine ⟨_, rfl, Lb, dl, _, rfl, el, Lb, s0, r0, rfl, hL', ho, fun H' t k' et => ⟨t, _, rfl, .inr (SqT.of et), ?_⟩⟩
  rw [List.length_map]
  exact h _ (k0_relock lk k')
end
end SK
set_option maxHeartbeats 4000000
/-! SkP5: the trial of _law_right. -/
namespace SK
open PySem PySem.Spec PyProof.Rows L2 L2H
section
variable {P : Program} {w : World} {K : PySem.W.Frag} {mg : Str → Option Value} {base : Heap}
abbrev N108 : List Str := ["_law_pail", "_law_kept_lots", "_law_lap", "_law_made_one", "_law_due", "_law_end_here", "_law_later", "_law_got", "_law_mate", "_law_turn", "_law_act", "_law_first", "_law_notes", "_law_second", "_law_shelf"]
theorem sc108 : FnScope N108 ["_law_pail"] (defScope (top 108)) := ⟨rfl, rfl, rfl, by decide +kernel, rfl, by decide +kernel, by decide +kernel⟩
abbrev XRig (P : Program) (w : World) (K : PySem.W.Frag) (mg : Str → Option Value) (base : Heap) (A : Around) (outer : List Env) (s : Shared) (H : Hp) (E : XK) : Cx := cxOf (L2N.CX P w) P w K mg base N108 "_law_right" (defScope (top 108)) 1288 (.ref 1287) A outer s H E
theorem right_trial (T : Tx K mg) (ty : Ty K mg base) {A : Around} {outer : List Env} {s : Shared} {H0 : Hp} {E0 : XK} {W : WX} {H : Hp} {Q : VK} {L t1 t2 nt f1 c1 : Addr} {l : Lib} {k : Nat} {pd dd : Plan} {x0 x1 x2 x3 x4 x5 x6 x7 x8 x9 : Option V} (hL : LibAt H L l) (wf : WfL k l) (hk : k < 600) (hpl : PlanAt (Mx L nt) H t1 pd) (hpo : OkPlan pd) (hdp : PlanAt (Mx L nt) H t2 dd) (hdo : OkPlan dd) (hn : NotesAt (Mx L nt) H nt []) (hLn : L ≠ nt)
    (hstd : Std H (Mx L nt)) (ht : LamX.Tabs T3 H) (hf1 : H f1 = some (LamO f1 (lfOf (XRig P w K mg base A outer s H0 E0) (lamP eAc) (lamB eAc) (lamS eAc) c1))) (hc1 : H c1 = some (LamX.CodeO c1 qRig))
    (h : ∀ H4 p, Kp (Mx L nt) H H4 → LibAt H4 L (afterD l (actionD l pd dd)) → NotesAt (Mx L nt) H4 nt (actionD l pd dd).2.1 → LamX.Tabs T3 H4 → ToldAt H4 p (wentT pd.2 (actionD l pd dd).2.2) → ¬ Mx L nt p → Q (.ref p) H4) :
    tCallLk (XRig P w K mg base A outer s H0 E0) (spWent P w K mg base 19) W (tCons (tLamb2 (XRig P w K mg base A outer s H0 E0) T3 1283 (lamP eOu) (lamB eOu) (lamS eOu)) tNil) [x0, x1, x2, x3, x4, x5, x6, x7, x8, x9, some (.ref f1), some (.ref t1), some (.ref nt), some (.ref t2), some (.ref L)] H Q := by
  refine ⟨ht, fun f2 c2 H8 k8 ht8 nf hf2 hc2 => fun L0 ok cl fr => ?_⟩
  have mT : ∀ b, b = 1283 → Mx L nt b := fun b z => .inr (.inr (.inr (.inr z)))
  have hn8 : Kp (Mx L nt) H H8 := k8.mono mT
  have klock := lock_k0 fr
  obtain ⟨dl, p0, el, _⟩ := id hL
  obtain ⟨xs, en, _⟩ := id hn
  have nL : ¬ L = 1283 := fun z => tb_ne ht el (fun _ z => by cases z) (.inr (.inr z))
  have nN : ¬ nt = 1283 := fun z => tb_ne ht en (fun _ z => by cases z) (.inr (.inr z))
  have hLk : LibAt (lock L0 H8) L l := (hL.st k8 nL).k0 klock
  obtain ⟨dlk, plk, elk, _⟩ := id hLk
  have hpk : PlanAt (Mx L nt) (lock L0 H8) t1 pd := (hpl.kp hn8).kp klock.up
  have hdk : PlanAt (Mx L nt) (lock L0 H8) t2 dd := (hdp.kp hn8).kp klock.up
  have hnk : NotesAt (Mx L nt) (lock L0 H8) nt [] := (hn.kx k8 mT nN).k0 klock
  have htk : LamX.Tabs T3 (lock L0 H8) := tabs_kp ht8 klock fun _ _ z => z
  have f1k := klock.im (k8.im hf1 trivial) trivial
  have c1k := klock.im (k8.im hc1 trivial) trivial
  have f2k := klock.im hf2 trivial
  have c2k := klock.im hc2 trivial
  have stdk := (hstd.kp k8).kp klock
  have A1 := lkAt_of (js := [11, 12, 13, 14]) (fr := ["_law_first", "_law_notes", "_law_second", "_law_shelf"]) (H := H8) ok (NdefX.Caps.made ok hfAc (by decide +kernel) rfl) cl
  have A2 := lkAt_of (js := [10, 14]) (fr := ["_law_act", "_law_shelf"]) (H := H8) ok (NdefX.Caps.made ok hfOu (by decide +kernel) rfl) cl
  refine trial_told (k := 17) (L := L) (nt := nt) (l := l) (r := actionD l pd dd) (m := pd.2) (ns := []) (M := Mx L nt) (Mc := Mx L nt) (k_lAc T ty f1 (cloFrom (XRig P w K mg base A outer s H0 E0).env.cells (lamS eAc).names []) c1) (lamO_callee f1k) (k_lOu T (by decide) f2 (cloFrom (XRig P w K mg base A outer s H0 E0).env.cells (lamS eOu).names []) c2) (lamO_callee f2k) (fun Q' E' hs => ?_) hLk (.inl rfl) stdk stdk hpo.2 (fun H2 Q' E' k2 hq => ?_) (fun H4 p k4 hL4 hn4 ht4 hp4 np _ lk4 => ?_)
  · exact ⟨rfl, f2k, c2k, (show (["_law_shelf", "_law_act"] : List Str).Nodup by decide +kernel), _, A2, L, f1, dlk, _, rfl, rfl, elk, rfl, hs⟩
  · refine ⟨rfl, k2.im f1k trivial, k2.im c1k trivial, (show (["_law_shelf", "_law_second", "_law_notes", "_law_first"] : List Str).Nodup by decide +kernel), _, A1.ext (fun b o u e => k2.im e trivial), .ref L, .ref t1, .ref nt, .ref t2, .ref L, rfl, rfl, ?_⟩
    exact ⟨L, t1, t2, nt, l, k, pd, dd, [], rfl, hLk.k0 k2, wf, hk, hpk.kp k2.up, hpo, hdk.kp k2.up, hdo, hnk.k0 k2, by decide, hLn, stdk.kp k2, tabs_kp htk k2 fun _ _ z => z, fun H' k' hL' hn' ht' => hq H' k' hL' hn' ht'⟩
  · exact h (unlock L0 H4) p (hn8.trans (kp_unl fr k4 lk4)) (hL4.kn (unlock_kn lk4)) (hn4.kn (unlock_kn lk4)) (tabs_kn ht4 (unlock_kn lk4)) ((unlock_kn lk4).lst hp4) np
end
end SK
set_option maxHeartbeats 4000000
/-! SkP6: _law_right, its last calls; small facts. -/
namespace SK
open PySem PySem.Spec PyProof.Rows L2 L2H
theorem nms_okn {ys : List (Str × Int × Int)} (h : Okn ys) : (nms ys).length = ys.length := by
  have hs := okn_shapes h.1 h.2
  have hl : ys.length = (ys.map (·.1)).length := (List.length_map ..).symm
  rw [hl]
  have ea : (ys.lookup sA).isSome = ((ys.map (·.1)).contains sA) := by
    cases hx : (ys.lookup sA).isSome with
    | true => exact (List.contains_iff_mem.mpr ((lookup_names _ _).mp hx)).symm
    | false =>
      cases hy : (ys.map (·.1)).contains sA with
      | false => rfl
      | true => rw [(lookup_names _ _).mpr (List.contains_iff_mem.mp hy)] at hx; cases hx
  have eb : (ys.lookup sB).isSome = ((ys.map (·.1)).contains sB) := by
    cases hx : (ys.lookup sB).isSome with
    | true => exact (List.contains_iff_mem.mpr ((lookup_names _ _).mp hx)).symm
    | false =>
      cases hy : (ys.map (·.1)).contains sB with
      | false => rfl
      | true => rw [(lookup_names _ _).mpr (List.contains_iff_mem.mp hy)] at hx; cases hx
  simp only [nms, ea, eb]
  rcases hs with e | e | e | e | e <;> rw [e] <;> decide +kernel
theorem wf_drop {k : Nat} {l : Lib} (h : WfL k l) (i : Nat) : WfL k (l.drop i) := ⟨by rw [List.length_drop]; have := h.1; omega, fun s hs => h.2 s (List.mem_of_mem_drop hs)⟩
theorem undo_drop {l : Lib} {i : Nat} (h : i + 1 < l.length) : undoD (l.drop i) = (l.drop (i + 1), none) := by
  rw [List.drop_eq_getElem_cons (show i < l.length by omega), List.drop_eq_getElem_cons h]
  rfl
section
variable {P : Program} {w : World} {K : PySem.W.Frag} {mg : Str → Option Value} {base : Heap}
theorem right_undo (T : Tx K mg) {A : Around} {outer : List Env} {s : Shared} {H0 : Hp} {E0 : XK} {W : WX} {H : Hp} {Q : VK} {L : Addr} {sn : Snap} {x0 x1 x2 x3 x4 x5 x6 x7 x8 x9 x10 x11 x12 x13 : Option V} (hL : LibAt H L [sn]) (ht : LamX.Tabs T3 H)
    (h : ∀ H4 p, Kp (fun b => b = L ∨ Tb b) H H4 → LamX.Tabs T3 H4 → ToldAt H4 p (errT .nothing) → Q (.ref p) H4) :
    tCallLk (XRig P w K mg base A outer s H0 E0) (spEnd P w K mg base 2) W (tCons (tLamb2 (XRig P w K mg base A outer s H0 E0) T3 1283 (lamP eUn) (lamB eUn) (lamS eUn)) tNil) [x0, x1, x2, x3, x4, x5, x6, x7, x8, x9, x10, x11, x12, x13, some (.ref L)] H Q := by
  refine ⟨ht, fun f2 c2 H8 k8 ht8 nf hf2 hc2 => fun L0 ok cl fr => ?_⟩
  have mT : ∀ b, b = 1283 → Tb b := fun b z => .inr (.inr z)
  have klock := lock_k0 fr
  obtain ⟨dl, p0, el, _⟩ := id hL
  have nL : ¬ L = 1283 := fun z => tb_ne ht el (fun _ z => by cases z) (.inr (.inr z))
  have hLk : LibAt (lock L0 H8) L [sn] := (hL.st k8 nL).k0 klock
  obtain ⟨dlk, plk, elk, _⟩ := id hLk
  have htk : LamX.Tabs T3 (lock L0 H8) := tabs_kp ht8 klock fun _ _ z => z
  have f2k := klock.im hf2 trivial
  have c2k := klock.im hc2 trivial
  have A2 := lkAt_of (js := [14]) (fr := ["_law_shelf"]) (H := H8) ok (NdefX.Caps.made ok hfUn (by decide +kernel) rfl) cl
  refine ⟨f2, _, rfl, lamO_callee f2k, k_lUn T f2 (cloFrom (XRig P w K mg base A outer s H0 E0).env.cells (lamS eUn).names []) c2, fun Q' E' hQ hE => ?_⟩
  refine ⟨rfl, f2k, c2k, (show (["_law_shelf"] : List Str).Nodup by decide +kernel), _, A2, L, dlk, _, rfl, rfl, elk, rfl, ?_⟩
  refine ⟨L, [sn], rfl, hLk, fun H4 k4 hL4 c d he => hE c d H4 ⟨.nothing, he, trivial, fun H5 p k5 np hp lk5 => ?_⟩⟩
  have ht4 : LamX.Tabs T3 H4 := tabs_kp htk k4 fun b z y => tb_ne ht el (fun _ z => by cases z) (y ▸ z)
  have lk := unlock_kn lk5
  have k45 : Kp (· = L) (lock L0 H8) H5 := k4.trans k5.up
  have ku := kp_unl fr k45 lk5
  exact h (unlock L0 H5) p ((k8.mono fun b z => .inr (mT b z)).trans (ku.mono fun b z => .inl z)) (tabs_kn (tabs_kp ht4 k5 fun _ _ z => z) lk) (lk.lst hp)
/-- the trial that asks for the names alone -/
theorem right_names (T : Tx K mg) {A : Around} {outer : List Env} {s : Shared} {H0 : Hp} {E0 : XK} {E : St → XK} {H : Hp} {Q : VK} {L : Addr} {sn : Snap} {r : Lib} {x0 x1 x2 x3 x4 x5 x6 x7 x8 x9 x10 x11 x12 x13 : Option V} (hL : LibAt H L (sn :: r)) (ho : Okn sn.ys) (ht : LamX.Tabs T3 H)
    (h : ∀ H4, Kp Tb H H4 → LamX.Tabs T3 H4 → Q (.int ((nms sn.ys).length : Nat)) H4) :
    tMethKw 1155 "tried" (spTried P w K mg base 6) E (tVar 14) (tLamb2 (XRig P w K mg base A outer s H0 E0) T3 1283 (lamP eLn) (lamB eLn) (lamS eLn)) [x0, x1, x2, x3, x4, x5, x6, x7, x8, x9, x10, x11, x12, x13, some (.ref L)] H Q := by
  obtain ⟨dl, p, el, hS⟩ := id hL
  refine ⟨_, rfl, L, dl, _, rfl, el, rfl, ht, fun f c H1 k1 ht1 nf hf hc => ?_⟩
  have mT : ∀ b, b = 1283 → Tb b := fun b z => .inr (.inr z)
  have nL : ¬ L = 1283 := fun z => tb_ne ht el (fun _ z => by cases z) (.inr (.inr z))
  have hL1 := hL.st k1 nL
  have el1 := k1.st el nL
  refine ⟨L, f, spLam f (lfE qRig eLn [] c) 1 [] spLLn, p, rfl, lamO_callee hf, k_lLn T f [] c, ⟨dl, el1⟩, fun H2 v b k2 nv nb hv hb hs Q' E' hQ hE => ?_⟩
  refine ⟨rfl, k2.im hf trivial, k2.im hc trivial, List.nodup_nil, [], ⟨rfl, (fun _ _ z => nomatch z), (fun _ _ _ z => nomatch z), (fun _ _ z => nomatch z)⟩, L, sn, r, rfl, hL1.k0 k2, ho, fun H3 k3 => ?_⟩
  obtain ⟨dv, ev⟩ := hv
  obtain ⟨db, eb⟩ := hb
  obtain ⟨dl2, el2⟩ := hs
  refine hQ _ H3 ⟨dv, k3.at0 ev⟩ ⟨db, k3.at0 eb⟩ ⟨p, dl2, k3.at0 el2⟩ fun H4 k4 => ?_
  have k13 : K0 H1 H3 := k2.trans k3
  have ht3 := tabs_kp ht1 k13 fun _ _ z => z
  refine h H4 (kp_trans ((k1.mono mT).trans k13.up) k4 fun b z => .inr (by rw [z]; exact k1.none nv)) (tabs_kp ht3 k4 fun b z y => tb_ne ht3 (k3.at0 ev) (fun _ z => by cases z) (y ▸ z))
end
end SK
set_option maxHeartbeats 2000000
/-! SkP7: _law_right. -/
namespace SK
open PySem PySem.Spec PyProof.Rows L2 L2H
def ds0 : List Deed := [⟨0, true, "a", 3⟩, ⟨0, true, "b", 2⟩, ⟨4, true, "a", 3⟩]
theorem ds0_ok : OkLot ds0 := ⟨by decide, fun d hd => by
  simp only [ds0, List.mem_cons, List.not_mem_nil, or_false] at hd
  rcases hd with rfl | rfl | rfl
  · exact ⟨by decide, .inl rfl, by decide⟩
  · exact ⟨by decide, .inr rfl, by decide⟩
  · exact ⟨by decide, .inl rfl, by decide⟩⟩
theorem ds0_done : (doneD l0 ds0).2 = none := by
  have h : (doneD l0 ds0).2.isNone = true := by decide +kernel
  exact Option.isNone_iff_eq_none.mp h
section
variable {P : Program} {w : World} {K : PySem.W.Frag} {mg : Str → Option Value} {base : Heap}
def spRight : Sp := fun vs H Q _ => ∃ p, vs = [.ref p] ∧ PailAt H p ∧ LamX.Tabs T3 H ∧ ∀ H', Kp (fun b => b = p ∨ Tb b) H H' → LamX.Tabs T3 H' → Q (.bl true) H'
theorem k_right (T : Tx K mg) (ty : Ty K mg base) : FnG P w K mg base (L2N.CX P w) 22 1288 spRight := by
  obtain ⟨fd, F⟩ := T.f_law_right
  obtain ⟨fdv, Fv⟩ := T.f_law_shelf_view
  obtain ⟨fdt, Ft⟩ := T.f_law_twin
  obtain ⟨fdd, Fd⟩ := T.f_law_done
  obtain ⟨fds, Fs⟩ := T.f_law_deeds
  obtain ⟨fdc, Fc⟩ := T.f_law_cast
  obtain ⟨fda, Fa⟩ := T.f_law_wanted
  obtain ⟨fdw, Fw⟩ := T.f_law_went
  obtain ⟨fde, Fe⟩ := T.f_law_end
  refine fng_ofC F ty.cR sc108 (F.bindsN fun _ _ _ _ _ _ us hl => match us, hl with | [_], _ => rfl) (fun vs H Q E h => ?_) (fun A outer s H vs Q E hr hg h => ⟨_,
    pss_cons (ps_asg (pe_tup (pa_cons (pe_makeG0 (E := EF) T.mkLibrary (k_libinit T) (hr.mono (by decide)) hg (passF noXN) rfl T.gLibrary) (pa_cons (pe_lst (pa_cons (pe_lst (pa_cons (pe_tup (pa_cons pe_int (pa_cons pe_bl (pa_cons pe_str (pa_cons pe_int pa_nil))))) (pa_cons (pe_tup (pa_cons pe_int (pa_cons pe_bl (pa_cons pe_str (pa_cons pe_int pa_nil))))) (pa_cons (pe_tup (pa_cons pe_int (pa_cons pe_bl (pa_cons pe_str (pa_cons pe_int pa_nil))))) pa_nil)))) pa_nil)) pa_nil)))
      (pg_tup rfl (pgs_cons (pg_name (i := 14) sc108.nd rfl (Or.inr rfl)) (pgs_cons (pg_name (i := 1) sc108.nd rfl (Or.inl rfl)) pgs_nil))))
    (pss_cons (ps_expr (pe_g (E := WE fun c d _ H => E c d H) (k_done T) (hr.mono (by decide)) hg (L2N.passAt (L2N.takes_of rfl rfl rfl rfl)) rfl T.g_law_done Fd.kp (pa_cons (pv 14) (pa_cons (pv 14) (pa_cons (pe_ix ix_list (pv 1) pe_int (fun _ _ => rfl)) pa_nil)))))
    (pss_cons (ps_for PassesOwn.leaving rfl (pi_range1 rfl T.brange (pa_cons pe_int pa_nil)) (pg_name (i := 2) sc108.nd rfl (Or.inl rfl))
      (pss_cons (ps_asg (pe_tup (pa_cons (pe_tup (pa_cons (pe_g (E := EF) (k_deeds T) (hr.mono (by decide)) hg (passF noXN) rfl T.g_law_deeds Fs.kp (pa_cons (pv 0) pa_nil)) (pa_cons (pe_g (E := EF) (k_cast T) (hr.mono (by decide)) hg (passF noXN) rfl T.g_law_cast Fc.kp (pa_cons (pv 0) (pa_cons pe_int pa_nil))) pa_nil)))
          (pa_cons (pe_tup (pa_cons (pe_g (E := EF) (k_deeds T) (hr.mono (by decide)) hg (passF noXN) rfl T.g_law_deeds Fs.kp (pa_cons (pv 0) pa_nil)) (pa_cons (pe_g (E := EF) (k_cast T) (hr.mono (by decide)) hg (passF noXN) rfl T.g_law_cast Fc.kp (pa_cons (pv 0) (pa_cons pe_int pa_nil))) pa_nil))) pa_nil)))
        (pg_tup rfl (pgs_cons (pg_name (i := 11) sc108.nd rfl (Or.inr rfl)) (pgs_cons (pg_name (i := 13) sc108.nd rfl (Or.inr rfl)) pgs_nil))))
      (pss_cons (ps_asg (pe_tup (pa_cons (pe_lst pa_nil) (pa_cons (pe_mg0 (E := EF) (pv 14) T.clLibrary T.mtrial (k_trial T) (hr.mono (by decide)) hg (passF noXN)) pa_nil))) (pg_tup rfl (pgs_cons (pg_name (i := 12) sc108.nd rfl (Or.inr rfl)) (pgs_cons (pg_name (i := 3) sc108.nd rfl (Or.inl rfl)) pgs_nil))))
      (pss_cons (ps_asg (pe_g (E := EF) (k_wanted T ty) (hr.mono (by decide)) hg (passF noXN) rfl T.g_law_wanted Fa.kp (pa_cons (pv 1) (pa_cons (pv 11) (pa_cons (pv 13) pa_nil)))) (pg_tup rfl (pgs_cons (pg_name (i := 4) sc108.nd rfl (Or.inl rfl)) (pgs_cons (pg_name (i := 5) sc108.nd rfl (Or.inl rfl)) (pgs_cons (pg_name (i := 6) sc108.nd rfl (Or.inl rfl)) pgs_nil)))))
      (pss_cons (ps_set (i := 10) sc108.nd rfl (Or.inr rfl) (pe_lam2 (T := T3) (c := 1287) (P := 1283) ty.tR rfl t3_rig t3_rigU hfAc rfl))
      (pss_cons (ps_par (i := 7) (j := 1) rfl sc108.nd rfl rfl (by decide) rfl rfl (pa_cons (pe_gLk (W := fun c d _ H => E c d H) (k_went (k := 19) T (by decide)) hr hg (L2N.takes_of rfl rfl rfl rfl) rfl rfl (show (["_law_shelf", "_law_second", "_law_notes", "_law_first", "_law_act"] : List Str).Nodup by decide +kernel) (fun _ => rfl) rfl T.g_law_went Fw.kp
          (pa_cons (pe_lam2 (T := T3) (c := 1287) (P := 1283) ty.tR rfl t3_rig t3_rigU hfOu rfl) pa_nil)) (pa_cons (pv 6) pa_nil)) rfl)
      (pss_cons (ps_if (PW.pt (pw_or (pt_cmpR (op_neD hr.units) (pv 7) (pv 5) (nomark _)) (pw_or (pt_cmpR (op_neD hr.units) (pv 12) (pv 4) (nomark _)) (pw_or1 (pt_cmpR op_isN (pv 3) pe_non (nomark _)))))) (pss_one (ps_ret pe_bl)) pss_nil)
      (pss_one (ps_if (pt_cmpR op_ne (pe_g (E := EF) (k_view T) (hr.mono (by decide)) hg (passF noXN) rfl T.g_law_shelf_view Fv.kp (pa_cons (pv 14) pa_nil))
          (pe_g (E := EF) (k_view T) (hr.mono (by decide)) hg (passF noXN) rfl T.g_law_shelf_view Fv.kp (pa_cons (pe_g (E := EF) (k_twin T) (hr.mono (by decide)) hg (passF noXN) rfl T.g_law_twin Ft.kp (pa_cons (pv 1) pa_nil)) pa_nil)) (nomark _)) (pss_one (ps_ret pe_bl)) pss_nil)))))))))
    (pss_cons (ps_if (pt_cmpR op_ne (pe_mgKw (E := EF) (pv 14) T.clLibrary T.mtried (k_triedK T (k := 6) (by decide)) (hr.mono (by decide)) hg (passF noXN) (fun _ _ _ _ h => spTried_len h) (pe_lam2 (T := T3) (c := 1287) (P := 1283) ty.tR rfl t3_rig t3_rigU hfLn rfl))
        (pe_callB (call_lenG T.sLibrary__len__ (k_llen T) (hr.mono (by decide)) hg noXN) rfl T.blen PySem.boot_len (pa_cons (pv 14) pa_nil) (by decide) (by decide) rfl rfl) (nomark _)) (pss_one (ps_ret pe_bl)) pss_nil)
    (pss_cons (ps_set (i := 8) sc108.nd rfl (Or.inl rfl) (pe_g (E := EF) (k_twin T) (hr.mono (by decide)) hg (passF noXN) rfl T.g_law_twin Ft.kp (pa_cons (pv 1) pa_nil)))
    (pss_cons (ps_for PassesOwn.leaving rfl (pi_range1 rfl T.brange (pa_cons (pe_propG (pv 14) T.clLibrary T.pchanges (k_changes T) (hr.mono (by decide)) hg noXN) pa_nil)) (pg_name (i := 9) sc108.nd rfl (Or.inl rfl))
      (pss_cons (ps_expr (pe_mg0 (E := WE fun c d _ H => E c d H) (pv 14) T.clLibrary T.mundo (k_undo T) (hr.mono (by decide)) hg (L2N.passAt (L2N.takes_of rfl rfl rfl rfl))))
      (pss_cons (ps_expr (pe_mg0 (E := WE fun c d _ H => E c d H) (pv 8) T.clLibrary T.mundo (k_undo T) (hr.mono (by decide)) hg (L2N.passAt (L2N.takes_of rfl rfl rfl rfl))))
      (pss_one (ps_if (pt_cmpR op_ne (pe_g (E := EF) (k_view T) (hr.mono (by decide)) hg (passF noXN) rfl T.g_law_shelf_view Fv.kp (pa_cons (pv 14) pa_nil)) (pe_g (E := EF) (k_view T) (hr.mono (by decide)) hg (passF noXN) rfl T.g_law_shelf_view Fv.kp (pa_cons (pv 8) pa_nil)) (nomark _)) (pss_one (ps_ret pe_bl)) pss_nil)))))
    (pss_one (ps_ret (pe_cmpR (op_eqD hr.units) (pe_gLk (W := fun c d _ H => E c d H) (k_end (k := 2) T (by decide)) (hr.mono (by decide)) hg (L2N.takes_of rfl rfl rfl rfl) rfl rfl (show (["_law_shelf", "_law_second", "_law_notes", "_law_first", "_law_act"] : List Str).Nodup by decide +kernel) (fun _ => rfl) rfl T.g_law_end Fe.kp
      (pa_cons (pe_lam2 (T := T3) (c := 1287) (P := 1283) ty.tR rfl t3_rig t3_rigU hfUn rfl) pa_nil)) (pe_lst (pa_cons pe_str (pa_cons pe_str pa_nil))) (nomark _))))))))), ?_⟩)
  · obtain ⟨_, rfl, _⟩ := h
    rfl
  · obtain ⟨pail, rfl, hp, ht, q⟩ := h
    have s1 : 1 ≤ sizeLine := by rw [sizeLine_eq]; omega
    have s2 : 2 ≤ sizeLine := by rw [sizeLine_eq]; omega
    have s3 : 3 ≤ sizeLine := by rw [sizeLine_eq]; omega
    have s4 : 4 ≤ sizeLine := by rw [sizeLine_eq]; omega
    obtain ⟨pa0, pa1, pa2, ep, _⟩ := id hp
    intro L dx n1 n2 ne
    refine ⟨L, dx, rfl, upd_same, fun H1 h1 hL => ⟨rfl, ?_⟩⟩
    obtain ⟨dl1, q1, el1, _⟩ := id hL
    have k1 : K0 H H1 := made_kp n1 n2 ne h1 ⟨_, el1⟩
    have hLp : L ≠ pail := (ne_of_none ep n1).symm
    have ht1 := tabs_kp ht k1 fun _ _ z => z
    have stdr : Std H1 (fun b => b = L ∨ b = pail ∨ Tb b) := fun b z => by
      rcases z with z | z | z
      · exact ⟨_, by rw [z]; exact el1⟩
      · exact ⟨_, by rw [z]; exact k1.at0 ep⟩
      · obtain ⟨ps, e⟩ := tabs_at ht1 z
        exact ⟨_, e⟩
    refine ⟨s4, fun ta na => ⟨s4, fun tb nb => ⟨s4, fun tc nc => ⟨s3, fun l nl => ⟨s1, fun a na2 => ⟨s2, fun t nt2 => ?_⟩⟩⟩⟩⟩⟩
    have f5 := (kp_new (M := fun _ => False) (o := .tup [.ref L, .ref a]) nt2)
    have f4 := (kp_new (M := fun _ => False) (o := .lst [.ref l]) na2).trans f5
    have f3 := (kp_new (M := fun _ => False) (o := .lst [.ref ta, .ref tb, .ref tc]) nl).trans f4
    have f2 := (kp_new (M := fun _ => False) (o := .tup [.int 4, .bl true, .str "a", .int 3]) nc).trans f3
    have f1 := (kp_new (M := fun _ => False) (o := .tup [.int 0, .bl true, .str "b", .int 2]) nb).trans f2
    have f0 := (kp_new (M := fun _ => False) (o := .tup [.int 0, .bl true, .str "a", .int 3]) na).trans f1
    have eta := f1.at0 upd_same
    have etb := f2.at0 upd_same
    have etc := f3.at0 upd_same
    have el := f4.at0 upd_same
    have ea := f5.at0 upd_same
    have n1l : H1 l = none := ((((kp_new (M := fun _ => False) (o := .tup [.int 0, .bl true, .str "a", .int 3]) na).new (o := .tup [.int 0, .bl true, .str "b", .int 2]) nb).new (o := .tup [.int 4, .bl true, .str "a", .int 3]) nc)).none nl
    have n1a : H1 a = none := (((((kp_new (M := fun _ => False) (o := .tup [.int 0, .bl true, .str "a", .int 3]) na).new (o := .tup [.int 0, .bl true, .str "b", .int 2]) nb).new (o := .tup [.int 4, .bl true, .str "a", .int 3]) nc)).new (o := .lst [.ref ta, .ref tb, .ref tc]) nl).none na2
    refine ⟨t, _, rfl, SqT.of upd_same, rfl, _, _, rfl, _, _, rfl, rfl, ?_⟩
    generalize upd (upd (upd (upd (upd (upd H1 ta (.tup [.int 0, .bl true, .str "a", .int 3])) tb (.tup [.int 0, .bl true, .str "b", .int 2])) tc (.tup [.int 4, .bl true, .str "a", .int 3])) l (.lst [.ref ta, .ref tb, .ref tc])) a (.lst [.ref l])) t (.tup [.ref L, .ref a]) = Hn at f0 eta etb etc el ea ⊢
    have hlot : LotAt Hn l ds0 := ⟨_, el, ⟨ta, rfl, eta⟩, ⟨tb, rfl, etb⟩, ⟨tc, rfl, etc⟩, True.intro⟩
    refine ⟨_, rfl, _, rfl, _, rfl, a, _, 0, .ref l, rfl, rfl, SqL.of ea, rfl, ?_⟩
    refine ⟨L, l, l0, 1, ds0, rfl, hL.k0 f0, hlot, ds0_ok, l0_wf, by decide, fun H2 k2 hL2 => ?_⟩
    rw [ds0_done]
    have nlL : ¬ l = L := fun z => stdr.new n1l (.inl z)
    have naL : ¬ a = L := fun z => stdr.new n1a (.inl z)
    have k12 : Kp (· = L) H1 H2 := (f0.up).trans k2
    have hp2 : PailAt H2 pail := (hp.st (M := fun _ => False) k1 id).st k12 hLp.symm
    have ht2 := tabs_kp ht1 k12 fun b z y => tb_ne ht1 el1 (fun _ z => by cases z) (y ▸ z)
    have std2 := stdr.kp k12
    have hls2 : LotsAt (fun b => b = L ∨ b = pail ∨ Tb b) H2 a [ds0] := ⟨_, k2.st ea naL, stdr.new n1a, ⟨l, rfl, stdr.new n1l, hlot.st k2 nlL⟩, True.intro⟩
    have k02 : Kp (fun b => b = pail ∨ Tb b) H H2 := kp_trans (k1.up) k12 fun b z => .inr (by rw [z]; exact n1)
    refine ⟨3, rfl, by decide, by decide, for_it walk_range (fun i σ H' => ∃ (a : Addr) (ls : List (List Deed)) (x2 x3 x4 x5 x6 x7 x10 x11 x12 x13 : Option V), σ = [some (.ref pail), some (.ref a), x2, x3, x4, x5, x6, x7, none, none, x10, x11, x12, x13, some (.ref L)] ∧ Kp (fun b => b = L ∨ b = pail ∨ Tb b) H2 H' ∧ PailAt H' pail ∧ LibAt H' L (twinD ls) ∧
      LotsAt (fun b => b = L ∨ b = pail ∨ Tb b) H' a ls ∧ (∀ ds ∈ ls, OkLot ds) ∧ Thru l0 ls ∧ ls.length ≤ 1 + 2 * i ∧ LamX.Tabs T3 H') ⟨a, [ds0], _, _, _, _, _, _, _, _, _, _, rfl, Kp.refl _, hp2, hL2, hls2, fun d hd => by rw [List.mem_singleton.mp hd]; exact ds0_ok, ⟨ds0_done, True.intro⟩, Nat.le_refl _, ht2⟩ (fun _ _ _ _ _ => trivial) ?_ ?_⟩
    · rintro i x σ H3 H3' hi ⟨a, ls, x2, x3, x4, x5, x6, x7, x10, x11, x12, x13, rfl, kk, hp3, hL3, hls3, hok3, hth3, hln3, ht3⟩ ⟨e3, rfl⟩
      obtain rfl : H3 = H3' := e3.symm
      have hi3 : i < 3 := hi
      have std3 := std2.kp kk
      obtain ⟨dl3, q3, el3, _⟩ := id hL3
      obtain ⟨_, _, _, ep3, _⟩ := id hp3
      have mP : ∀ b, b = pail → (b = L ∨ b = pail ∨ Tb b) := fun b z => .inr (.inl z)
      have tP : ∀ {H' : Hp}, LamX.Tabs T3 H' → PailAt H' pail → ∀ b, Tb b → ¬ b = pail := fun hh hpp b z y => by
        obtain ⟨_, _, _, e, _⟩ := hpp
        exact tb_ne hh e (fun _ z => by cases z) (y ▸ z)
      -- the plans
      refine ⟨_, rfl, pail, rfl, hp3, fun H4 l1 ds1 k4 hp4 hl1 ho1 nl1 => ?_⟩
      refine ⟨_, rfl, pail, 5, rfl, hp4, by decide, by decide, fun H5 f1 k5 hp5 f10 f11 => ?_⟩
      refine ⟨s2, fun t1 nt1 => ?_⟩
      have k6 : K0 H5 (upd H5 t1 (.tup [.ref l1, .int f1])) := kp_new nt1
      have et1 : upd H5 t1 (.tup [.ref l1, .int f1]) t1 = some (.tup [.ref l1, .int f1]) := upd_same
      generalize upd H5 t1 (.tup [.ref l1, .int f1]) = H6 at k6 et1 ⊢
      have hp6 := hp5.st (M := fun _ => False) k6 id
      refine ⟨_, rfl, pail, rfl, hp6, fun H7 l2 ds2 k7 hp7 hl2 ho2 nl2 => ?_⟩
      refine ⟨_, rfl, pail, 5, rfl, hp7, by decide, by decide, fun H8 f2 k8 hp8 f20 f21 => ?_⟩
      refine ⟨s2, fun t2 nt2 => ⟨s2, fun t nt => ?_⟩⟩
      have k9a : K0 H8 (upd H8 t2 (.tup [.ref l2, .int f2])) := kp_new nt2
      have k9b : K0 (upd H8 t2 (.tup [.ref l2, .int f2])) (upd (upd H8 t2 (.tup [.ref l2, .int f2])) t (.tup [.ref t1, .ref t2])) := kp_new nt
      have et2 := k9b.at0 (upd_same (a := t2) (H := H8) (o := .tup [.ref l2, .int f2]))
      have k9 := k9a.trans k9b
      refine ⟨t, _, rfl, SqT.of upd_same, rfl, _, _, rfl, _, _, rfl, rfl, ?_⟩
      generalize upd (upd H8 t2 (.tup [.ref l2, .int f2])) t (.tup [.ref t1, .ref t2]) = H9 at k9 k9b et2 ⊢
      have k46 : Kp (· = pail) H4 H6 := k5.trans k6.up
      have k36 : Kp (· = pail) H3 H6 := k4.trans k46
      have k79 : Kp (· = pail) H7 H9 := k8.trans k9.up
      have k69 : Kp (· = pail) H6 H9 := k7.trans k79
      have k39 : Kp (· = pail) H3 H9 := k36.trans k69
      have nl1' : ¬ (l1 = L ∨ l1 = pail ∨ Tb l1) := std3.new nl1
      have nl2' : ¬ (l2 = L ∨ l2 = pail ∨ Tb l2) := (std3.kp k36).new nl2
      have hl1' : LotAt H9 l1 ds1 := hl1.st (k46.trans k69) (fun z => nl1' (.inr (.inl z)))
      have hl2' : LotAt H9 l2 ds2 := hl2.st k79 (fun z => nl2' (.inr (.inl z)))
      have et1' := k69.tup et1
      have hp9 := hp8.st (M := fun _ => False) k9 id
      have hL9 := hL3.st k39 hLp
      have hls9 := hls3.kp (k39.mono mP)
      have ht9 := tabs_kp ht3 k39 (tP ht3 hp3)
      have std9 := std3.kp k39
      -- the notes, the trial that nobody enters
      refine ⟨Nat.zero_le _, fun nt' nn => ?_⟩
      have k10 : K0 H9 (upd H9 nt' (.lst [])) := kp_new nn
      have en10 : upd H9 nt' (.lst []) nt' = some (.lst []) := upd_same
      generalize upd H9 nt' (.lst []) = H10 at k10 en10 ⊢
      obtain ⟨dl10, q10, el10, _⟩ := id (hL9.k0 k10)
      refine ⟨_, rfl, L, dl10, _, rfl, el10, rfl, L, rfl, fun H11 v k11 hv nv => ⟨s2, fun t' n12 => ?_⟩⟩
      have k12' : K0 H11 (upd H11 t' (.tup [.ref nt', .ref v])) := kp_new n12
      refine ⟨t', _, rfl, SqT.of upd_same, rfl, _, _, rfl, _, _, rfl, rfl, ?_⟩
      generalize upd H11 t' (.tup [.ref nt', .ref v]) = H12 at k12' ⊢
      have k1012 := k11.trans k12'
      have k912 := k10.trans k1012
      have en12 := k1012.at0 en10
      have hLn : L ≠ nt' := by
        obtain ⟨_, _, e, _⟩ := id hL9
        exact ne_of_none e nn
      have hpn : pail ≠ nt' := by
        obtain ⟨_, _, _, e, _⟩ := id hp9
        exact ne_of_none e nn
      have std12 : Std H12 (fun b => b = pail ∨ Mx L nt' b) := fun b z => by
        rcases z with z | z | z | z
        · exact (std9.kp k912) b (.inr (.inl z))
        · exact (std9.kp k912) b (.inl z)
        · exact ⟨.lst [], by rw [z]; exact en12⟩
        · exact (std9.kp k912) b (.inr (.inr z))
      have mor : ∀ b, (b = pail ∨ Mx L nt' b) → (b = nt' ∨ (b = L ∨ b = pail ∨ Tb b)) := fun b z => by
        rcases z with z | z | z | z
        · exact .inr (.inr (.inl z))
        · exact .inr (.inl z)
        · exact .inl z
        · exact .inr (.inr (.inr z))
      have hls12 : LotsAt (fun b => b = pail ∨ Mx L nt' b) H12 a ls := ((hls9.more nn).mono mor).kp k912.up
      have no1 : ¬ (l1 = pail ∨ Mx L nt' l1) := fun z => (mor _ z).elim (fun z => by
        obtain ⟨xs, h1, _⟩ := hl1'
        exact ne_of_none h1 nn z) nl1'
      have no2 : ¬ (l2 = pail ∨ Mx L nt' l2) := fun z => (mor _ z).elim (fun z => by
        obtain ⟨xs, h1, _⟩ := hl2'
        exact ne_of_none h1 nn z) nl2'
      have hpl12 : PlanAt (fun b => b = pail ∨ Mx L nt' b) H12 t1 (ds1, f1.toNat) := ⟨l1, by rw [k912.tup et1']; show some (HO.tup [V.ref l1, V.int f1]) = some (.tup [.ref l1, .int ((f1.toNat : Nat) : Int)]); rw [Int.toNat_of_nonneg f10], no1, hl1'.k0 k912⟩
      have hdp12 : PlanAt (fun b => b = pail ∨ Mx L nt' b) H12 t2 (ds2, f2.toNat) := ⟨l2, by rw [k912.tup et2]; show some (HO.tup [V.ref l2, V.int f2]) = some (.tup [.ref l2, .int ((f2.toNat : Nat) : Int)]); rw [Int.toNat_of_nonneg f20], no2, hl2'.k0 k912⟩
      have okp : OkPlan (ds1, f1.toNat) := ⟨ho1, by show f1.toNat < 5; omega⟩
      have okd : OkPlan (ds2, f2.toNat) := ⟨ho2, by show f2.toNat < 5; omega⟩
      have ht12 := tabs_kp ht9 k912 fun _ _ z => z
      -- what is due
      refine ⟨_, rfl, _, rfl, _, rfl, a, t1, t2, ls, (ds1, f1.toNat), (ds2, f2.toNat), (fun b => b = pail ∨ Mx L nt' b), rfl, hls12, hok3, by omega, hth3, hpl12, okp, hdp12, okd, fun b z => .inr (.inr (.inr z)), std12, ht12, fun H13 tt nd pe a2 k13 ett hnd nnd hpe npe hls13 ht13 => ?_⟩
      refine ⟨tt, _, rfl, SqT.of ett, rfl, _, _, rfl, _, _, rfl, _, _, rfl, rfl, ?_⟩
      obtain ⟨e1, e2, e3⟩ := plain_law (ls := ls) (pd := (ds1, f1.toNat)) (dd := (ds2, f2.toNat))
      obtain ⟨w1, w2, w3⟩ := wantD_good hok3 hth3 okp okd
      obtain ⟨v1, v2⟩ := wantD_notes hok3 hth3 (by omega) okp okd
      have wf3 := twin_wf (ls := ls) l0_wf hok3
      have std13 := std12.kp k13
      obtain ⟨dl9, q9, el9, _⟩ := id hL9
      have tL : ∀ b, Tb b → ¬ b = L := fun b z y => tb_ne ht9 el9 (fun _ z => by cases z) (y ▸ z)
      have tN : ∀ b, Tb b → ¬ b = nt' := fun b z y => tb_ne ht12 en12 (fun _ z => by cases z) (y ▸ z)
      have hp12 := hp9.st (M := fun _ => False) k912 id
      have tPl := tP ht12 hp12
      have hp13 := hp12.st k13 (fun z => tPl _ z rfl)
      have hL12 := hL9.k0 k912
      have hL13 := hL12.st k13 (fun z => tL _ z rfl)
      have en13 := k13.st en12 (fun z => tN _ z rfl)
      have m2T : ∀ b, Tb b → (b = pail ∨ Mx L nt' b) := fun b z => .inr (.inr (.inr z))
      have hpl13 := hpl12.kp (k13.mono m2T)
      have hdp13 := hdp12.kp (k13.mono m2T)
      refine ⟨ht13, fun fa ca H14 k14 ht14 nf hf hc => ?_⟩
      have mT : ∀ b, b = 1283 → Tb b := fun b z => .inr (.inr z)
      have k14' := k14.mono mT
      have hp14 := hp13.st k14' (fun z => tPl _ z rfl)
      have hL14 := hL13.st k14' (fun z => tL _ z rfl)
      have en14 := k14'.st en13 (fun z => tN _ z rfl)
      have hpl14 := (hpl13.kp (k14'.mono m2T)).mono (M' := Mx L nt') fun b z => .inr z
      have hdp14 := (hdp13.kp (k14'.mono m2T)).mono (M' := Mx L nt') fun b z => .inr z
      have std14 := std13.kp k14'
      have stdx : Std H14 (Mx L nt') := fun b z => std14 b (.inr z)
      refine right_trial T ty hL14 wf3 (by omega) hpl14 okp hdp14 okd ⟨[], en14, True.intro⟩ hLn stdx ht14 hf hc fun H15 p k15 hL15 hn15 ht15 hp15 np15 => ?_
      rw [e1] at hn15
      rw [e2] at hp15
      rw [e3] at hL15
      have nP15 : ¬ Mx L nt' pail := fun z => by
        rcases z with z | z | z
        · exact hLp z.symm
        · exact hpn z
        · exact tPl _ z rfl
      have k1415 : Kp (fun b => b = pail ∨ Mx L nt' b) H13 H15 := (k14'.mono m2T).trans (k15.mono fun b z => .inr z)
      have hpe15 : ToldAt H15 pe (wantD ls (ds1, f1.toNat) (ds2, f2.toNat)).2.1 := k1415.st hpe npe
      have nnd' : ¬ (nd = pail ∨ Mx L nt' nd) := std12.new nnd
      have hnd15 : NotesAt (fun b => b = pail ∨ Mx L nt' b) H15 nd (wantD ls (ds1, f1.toNat) (ds2, f2.toNat)).1 := hnd.st k1415 nnd'
      have hls15 := hls13.kp k1415
      have hp15' := hp14.st k15 nP15
      generalize wantD ls (ds1, f1.toNat) (ds2, f2.toNat) = W at e1 e2 e3 w1 w2 w3 v1 v2 hn15 hp15 hL15 hpe15 hnd15 hls15
      obtain ⟨Wn, Wt, Wl⟩ := W
      dsimp only at w1 w2 w3 v1 v2 hn15 hp15 hL15 hpe15 hnd15 hls15
      have wfW := twin_wf (ls := Wl) l0_wf w1
      refine ⟨_, rfl, _, _, rfl, ?_⟩
      refine ⟨_, rfl, _, rfl, toldP Wt, toldP Wt, .lst (SqL.of hp15) (.cons (.str _) (.cons (.str _) .nil)), .lst (SqL.of hpe15) (.cons (.str _) (.cons (.str _) .nil)), shaped_told v2, shaped_told v2, false, congrArg V.bl (by rw [toldP_refl]; rfl), iff_ rfl ?_⟩
      refine ⟨_, rfl, _, rfl, notesP Wn, notesP Wn, hn15.dp, hnd15.dp, shaped_notes v1, shaped_notes v1, false, congrArg V.bl (by rw [SeqAt.eqv_refl _ (notes_can v1)]; rfl), iff_ rfl ?_⟩
      refine ⟨_, rfl, rfl, false, rfl, iff_ rfl ?_⟩
      refine ⟨_, rfl, L, twinD Wl, _, rfl, hL15, wfW, by omega, fun H16 k16 => ?_⟩
      refine ⟨_, rfl, _, a2, Wl, rfl, hls15.kp k16.up, w1, by omega, w2, fun H17 L2 k17 hL17 n17 => ?_⟩
      refine ⟨L2, twinD Wl, _, rfl, hL17, wfW, by omega, fun H18 k18 => ⟨rfl, false, congrArg V.bl (by simp), iff_ rfl ?_⟩⟩
      have k1518 := (k16.trans k17).trans k18
      have k318 : Kp (fun b => b = L ∨ b = pail ∨ Tb b) H3 H18 := by
        have ka : Kp (fun b => b = L ∨ b = pail ∨ Tb b) H3 H14 := ((((k39.mono mP).trans k912.up).trans (k13.mono fun b z => .inr (.inr z))).trans (k14'.mono fun b z => .inr (.inr z)))
        have kb := kp_trans (((k39.mono mP).trans k912.up).trans (k13.mono fun b z => .inr (.inr z)) |>.trans (k14'.mono fun b z => .inr (.inr z))) k15 fun b z => by
          rcases z with z | z | z
          · exact .inl (.inl z)
          · exact .inr (by rw [z]; exact k39.none nn)
          · exact .inl (.inr (.inr z))
        exact kb.trans k1518.up
      exact ⟨a2, Wl, _, _, _, _, _, _, _, _, _, _, rfl, kk.trans k318, hp15'.st (M := fun _ => False) k1518 id, hL15.k0 k1518, (hls15.kp k1518.up).mono fun b z => (by
        rcases z with z | z | z
        · exact .inr (.inl z)
        · exact .inl z
        · exact .inr (.inr (.inr z))), w1, w2, by omega, tabs_kp ht15 k1518 fun _ _ z => z⟩
    · rintro σ H3 ⟨a, ls, x2, x3, x4, x5, x6, x7, x10, x11, x12, x13, rfl, kk, hp3, hL3, hls3, hok3, hth3, hln3, ht3⟩
      have wf3 := twin_wf (ls := ls) l0_wf hok3
      have k03 : Kp (fun b => b = pail ∨ Tb b) H H3 := kp_trans k02 kk fun b z => by
        rcases z with z | z | z
        · exact .inr (by rw [z]; exact n1)
        · exact .inl (.inl z)
        · exact .inl (.inr z)
      have hl0 : WfL (1 + 4 * ls.length) (twinD ls) := wf3
      cases eT : twinD ls with
      | nil =>
        rw [eT] at hL3
        obtain ⟨_, _, _, z⟩ := hL3
        exact z.elim
      | cons s0 r0 =>
        rw [eT] at hL3 hl0
        have okn := (hl0.2 s0 (by simp)).1
        have ol := okn_len okn
        have hlr := hl0.1
        rw [List.length_cons] at hlr
        refine right_names T hL3 okn ht3 fun H4 k4 ht4 => ?_
        obtain ⟨dl3, q3, el3, _⟩ := id hL3
        have tL3 : ∀ b, Tb b → ¬ b = L := fun b z y => tb_ne ht3 el3 (fun _ z => by cases z) (y ▸ z)
        have hL4 := hL3.st k4 (fun z => tL3 _ z rfl)
        obtain ⟨dl4, q4, el4, _⟩ := id hL4
        refine ⟨_, rfl, L, dl4, _, rfl, el4, L, s0, r0, rfl, hL4, _, rfl, by omega, by omega, rfl, false, congrArg V.bl (by rw [nms_okn okn]; simp), iff_ rfl ?_⟩
        have hls4 := hls3.kp (k4.mono fun b z => .inr (.inr z))
        refine ⟨_, rfl, _, a, ls, rfl, hls4, hok3, by omega, hth3, fun H5 L5 k5 hL5 n5 => ?_⟩
        rw [eT] at hL5
        have hLs5 := hL4.k0 k5
        have ht5 := tabs_kp ht4 k5 fun _ _ z => z
        obtain ⟨dl5, q5, el5, _⟩ := id hLs5
        obtain ⟨dm5, p5, em5, _⟩ := id hL5
        have hLL : L5 ≠ L := (ne_of_none el4 n5).symm
        have k35 : Kp Tb H3 H5 := k4.trans k5.up
        have n5H : H L5 = none := k03.none (k4.none n5)
        refine ⟨_, rfl, L, dl5, _, rfl, el5, L, s0, r0, rfl, hLs5, _, rfl, by omega, by omega, for_it walk_range (fun i σ H' => ∃ (x9 : Option V), σ = [some (.ref pail), some (.ref a), x2, x3, x4, x5, x6, x7, some (.ref L5), x9, x10, x11, x12, x13, some (.ref L)] ∧ Kp (fun b => b = L ∨ b = L5) H5 H' ∧ LibAt H' L ((s0 :: r0).drop i) ∧ LibAt H' L5 ((s0 :: r0).drop i) ∧ LamX.Tabs T3 H') ⟨_, rfl, Kp.refl _, hLs5, hL5, ht5⟩ (fun _ _ _ _ _ => trivial) ?_ ?_⟩
        · rintro i x σ H6 H6' hi ⟨x9, rfl, k6, hA6, hB6, ht6⟩ ⟨e6, rfl⟩
          obtain rfl : H6 = H6' := e6.symm
          have hi' : i < r0.length := by simpa using hi
          have eu := undo_drop (l := s0 :: r0) (i := i) (by rw [List.length_cons]; omega)
          obtain ⟨da, qa, ea, _⟩ := id hA6
          refine ⟨_, rfl, L, da, _, rfl, ea, rfl, L, _, rfl, hA6, fun H7 k7 hA7 => ?_⟩
          rw [eu] at hA7
          rw [eu]
          have hB7 := hB6.st k7 hLL
          obtain ⟨db, qb, eb, _⟩ := id hB7
          refine ⟨_, rfl, L5, db, _, rfl, eb, rfl, L5, _, rfl, hB7, fun H8 k8 hB8 => ?_⟩
          rw [eu] at hB8
          rw [eu]
          have hA8 := hA7.st k8 hLL.symm
          have wfd := wf_drop hl0 (i + 1)
          refine ⟨_, rfl, L, _, _, rfl, hA8, wfd, by omega, fun H9 k9 => ?_⟩
          refine ⟨_, rfl, L5, _, _, rfl, hB8.k0 k9, wfd, by omega, fun H10 k10 => ⟨rfl, false, congrArg V.bl (by simp), iff_ rfl ?_⟩⟩
          have k910 := k9.trans k10
          have tA : ∀ b, Tb b → ¬ b = L := fun b z y => tb_ne ht6 ea (fun _ z => by cases z) (y ▸ z)
          have ht7 := tabs_kp ht6 k7 tA
          have tB : ∀ b, Tb b → ¬ b = L5 := fun b z y => tb_ne ht7 eb (fun _ z => by cases z) (y ▸ z)
          exact ⟨_, rfl, ((k6.trans (k7.mono fun b z => .inl z)).trans (k8.mono fun b z => .inr z)).trans k910.up, hA8.k0 k910, hB8.k0 k910, tabs_kp (tabs_kp ht7 k8 tB) k910 fun _ _ z => z⟩
        · rintro σ H6 ⟨x9, rfl, k6, hA6, hB6, ht6⟩
          obtain ⟨sn, hsn⟩ : ∃ sn, (s0 :: r0).drop r0.length = [sn] := by
            rw [List.drop_eq_getElem_cons (show r0.length < (s0 :: r0).length by rw [List.length_cons]; omega), show (s0 :: r0).drop (r0.length + 1) = [] by simp]
            exact ⟨_, rfl⟩
          have hA6' : LibAt H6 L [sn] := by
            rw [← hsn]
            simpa using hA6
          obtain ⟨da, qa, ea, _⟩ := id hA6'
          refine right_undo T hA6' ht6 fun H7 p k7 ht7 hp7 => ⟨s2, fun p8 n8 => ?_⟩
          have k8 : K0 H7 (upd H7 p8 (.lst [.str "nothing", .str ""])) := kp_new n8
          refine ⟨toldP (errT .nothing), toldP (errT .nothing), .lst (SqL.of (k8.at0 hp7)) (.cons (.str _) (.cons (.str _) .nil)), .lst (SqL.of upd_same) (.cons (.str _) (.cons (.str _) .nil)), shaped_told (tok_err (e := .nothing) trivial), shaped_told (tok_err (e := .nothing) trivial), ?_⟩
          rw [toldP_refl]
          refine q _ (kp_trans (kp_trans (kp_trans k03 k35 fun b z => .inl (.inr z)) k6 fun b z => ?_) (k7.trans k8.up) fun b z => ?_) (tabs_kp ht7 k8 fun _ _ z => z)
          · rcases z with z | z
            · exact .inr (by rw [z]; exact n1)
            · exact .inr (by rw [z]; exact n5H)
          · rcases z with z | z
            · exact .inr (by rw [z]; exact n1)
            · exact .inl (.inr z)
end
end SK
set_option maxHeartbeats 2000000
/-! SkP8: law. -/
namespace SK
open PySem PySem.Spec PyProof.Rows L2 L2H
theorem sql_kp {K : PySem.W.Frag} {M : Addr → Prop} {H H1 : Hp} {a : Addr} {xs : List V} (h : SqL K H a xs) (k : Kp M H H1) (n : ∀ ys, H a = some (.lst ys) → ¬ M a) : SqL K H1 a xs := by
  rcases h with h | h
  · refine .inl ?_
    rcases h with e | ⟨o, e⟩
    · exact .inl (k.st e (n _ e))
    · exact .inr ⟨o, k.im e trivial⟩
  · exact .inr h
section
variable {P : Program} {w : World} {K : PySem.W.Frag} {mg : Str → Option Value} {base : Heap}
def spLaw (K : PySem.W.Frag) : Sp := fun vs H Q _ => ∃ (a : Addr) (ns : List Int), vs = [.ref a] ∧ SqL K H a (ns.map V.int) ∧ ns.length ≤ 63 ∧ (∀ z ∈ ns, Builtin.Int.intBits z ≤ 1048576) ∧ LamX.Tabs T3 H ∧ ∀ H', Q (.bl true) H'
theorem sc109 : FnScope ["_law_script", "_law_turn"] ["_law_script"] (defScope (top 109)) := ⟨rfl, rfl, rfl, by decide +kernel, rfl, by decide +kernel, by decide +kernel⟩
abbrev LawD (K : PySem.W.Frag) (fa : Addr) : Prop := ∃ fd, FunD K "law" "law" (defArgs (top 109)) (defBody (top 109)) (defScope (top 109)) [] [] fa fd
theorem k_law (T : Tx K mg) (ty : Ty K mg base) {fa : Addr} (hF : LawD K fa) : FnG P w K mg base (L2N.CX P w) 23 fa (spLaw K) := by
  obtain ⟨fd, F⟩ := hF
  obtain ⟨fdr, Fr⟩ := T.f_law_right
  obtain ⟨fdb, Fb⟩ := T.f_law_begun
  refine fng_of F sc109 (F.bindsN fun _ _ _ _ _ _ us hl => match us, hl with | [_], _ => rfl) (fun vs H Q E h => ?_) (fun cdv A outer s H vs Q E hr hg h => ⟨_,
    pss_one (ps_ret (c_all T rfl (pa_cons (pe_lc (own := [("_law_turn", 1)]) (g := gName 1) (tt := tYes) rfl sc109.nd (pi_range1 rfl T.brange (pa_cons (pe_callB (call_max2 rfl) rfl T.bmax bt_max (pa_cons pe_int (pa_cons (pe_callB (call_min2 rfl) rfl T.bmin bt_min (pa_cons (c_len T (pa_cons (pv 0) pa_nil)) (pa_cons pe_int pa_nil)) (by decide) (by decide) rfl rfl) pa_nil)) (by decide) (by decide) rfl rfl) pa_nil))
      (blkOk_by (N := ["_law_script", "_law_turn"]) (sc := defScope (top 109)) (by decide +kernel)) (fun _ _ _ _ _ => pg_name (i := 1) sc109.nd rfl (Or.inl rfl)) (fun _ _ _ _ _ => pts_nil)
      (fun _ _ _ _ _ => pe_g (E := EF) (k_right T ty) hr hg (passF noXN) rfl T.g_law_right Fr.kp (pa_cons (pe_g (E := EF) (k_begun T) (hr.mono (by decide)) hg (passF noXN) rfl T.g_law_begun Fb.kp (pa_cons (pv 0) (pa_cons (pv 1) pa_nil))) pa_nil))) pa_nil))), ?_⟩)
  · obtain ⟨_, _, rfl, _⟩ := h
    rfl
  · obtain ⟨a, ns, rfl, hs, hl, hb, ht, q⟩ := h
    refine ⟨_, rfl, a, _, rfl, .inl hs, _, _, rfl, _, _, rfl, _, rfl, ?_, ?_, fun D nD => ?_⟩
    · split <;> split <;> omega
    · split <;> split <;> omega
    · refine lc_it walk_range (fun i H' => Kp Tb H H' ∧ H' D = some (.lst ((List.replicate i true).map V.bl)) ∧ LamX.Tabs T3 H') ⟨kp_new nD, upd_same, tabs_kp ht (kp_new (M := fun _ => False) nD) fun _ _ z => z⟩ (fun _ _ _ _ => trivial) ?_ ?_
      · rintro i x H2 H3 hi ⟨k2, eD, ht2⟩ ⟨e3, rfl⟩
        obtain rfl : H2 = H3 := e3.symm
        have hi4 : i < 4 := by
          revert hi
          split <;> split <;> omega
        have hs2 := sql_kp hs k2 fun ys e => tb_ne ht e fun _ z => by cases z
        refine ⟨rfl, tyes ⟨_, rfl, _, rfl, a, ns, i, congrArg (fun z => [V.ref a, V.int z]) (Int.zero_add _), hl, by omega, hs2, hb, fun H4 p k4 hp4 n4 => ?_⟩⟩
        have ht4 := tabs_kp ht2 k4 fun _ _ z => z
        have eD4 := k4.at0 eD
        have hDp : D ≠ p := ne_of_none eD n4
        refine ⟨p, rfl, hp4, ht4, fun H5 k5 ht5 => ?_⟩
        have eD5 := k5.st eD4 fun z => z.elim hDp (tb_ne ht4 eD4 fun _ z => by cases z)
        have k05 : Kp Tb H H5 := kp_trans (k2.trans k4.up) k5 fun b z => z.elim (fun z => .inr (by rw [z]; exact k2.none n4)) .inl
        have kD : Kp (· = D) H5 (upd H5 D (.lst ((List.replicate i true).map V.bl ++ [.bl true]))) := (Kp.refl H5).put rfl eD5 fun z => z
        refine ⟨_, eD5, by rw [List.length_map, List.length_replicate, sizeLine_eq]; omega, k05.own nD, ?_, tabs_kp ht5 kD fun b z y => tb_ne ht5 eD5 (fun _ z => by cases z) (y ▸ z)⟩
        rw [upd_same, List.replicate_succ', List.map_append]
        rfl
      · rintro H2 ⟨k2, eD, ht2⟩
        refine ⟨D, _, rfl, SqL.of eD, ?_⟩
        rw [show ∀ n : Nat, (List.replicate n true).all id = true from fun n => by simp]
        exact q _
end
end SK
set_option maxHeartbeats 4000000
/-! SkQ1: the facts of the top as checks; the Hook. Printed by gen_head.py. -/
namespace SK
open PySem PySem.Spec PyProof.Rows L2
theorem ba {a b : Bool} (h : (a && b) = true) : a = true ∧ b = true := Bool.and_eq_true_iff.mp h
theorem eO_ok {a b : Option (Option Value)} (h : eO a b = true) : a = b := of_decide_eq_true h
section
variable {K : PySem.W.Frag} {C f p g : Addr} {m : Str} {i : Nat}
theorem clsB_ok (c : clsB K C = true) : Cls K C := ⟨(ba c).1, (ba (ba c).2).1, (ba (ba (ba c).2).2).1, eO_ok (ba (ba (ba c).2).2).2⟩
theorem mkB_ok (c : mkB K C f = true) : Mk K C f := ⟨(ba c).1, eO_ok (ba (ba c).2).1, (ba (ba (ba c).2).2).1, (ba (ba (ba c).2).2).2⟩
theorem methB_ok (c : methB K C m f = true) : Meth K C m f := ⟨eO_ok (ba c).1, (ba (ba c).2).1, (ba (ba c).2).2⟩
theorem specB_ok (c : specB K C m f = true) : SK.Spec K C m f := ⟨eO_ok (ba c).1, (ba c).2⟩
theorem recB_ok (c : recB K p g = true) : ∃ rest, PySem.W.recIn K p "property" = some (.ref g :: rest) := by
  unfold recB at c
  split at c
  · rename_i v r e
    rw [of_decide_eq_true c] at e
    exact ⟨r, e⟩
  · cases c
theorem propB_ok (c : propB K C m p g = true) : PropOf K C m p g := ⟨eO_ok (ba c).1, eO_ok (ba (ba c).2).1, of_decide_eq_true (ba (ba (ba c).2).2).1, recB_ok (ba (ba (ba c).2).2).2⟩
theorem sclsB_ok (c : sclsB K C = true) : SlX.SCls K C := ⟨(ba c).1, (ba (ba c).2).1, (ba (ba (ba c).2).2).1, eO_ok (ba (ba (ba c).2).2).2⟩
theorem slot1B_ok (c : slot1B K C m p i = true) : SlX.Slot1 K C m p i := by
  obtain ⟨c1, c⟩ := ba c
  obtain ⟨c2, c⟩ := ba c
  obtain ⟨c3, c⟩ := ba c
  obtain ⟨c4, c⟩ := ba c
  obtain ⟨c5, c6⟩ := ba c
  exact ⟨eO_ok c1, eO_ok c2, of_decide_eq_true c3, of_decide_eq_true c4, of_decide_eq_true c5, of_decide_eq_true c6⟩
theorem sisiB_ok (c : sisiB K C = true) : SlX.SIsi K C := ⟨eO_ok (ba c).1, eO_ok (ba (ba c).2).1, of_decide_eq_true (ba (ba (ba c).2).2).1, of_decide_eq_true (ba (ba (ba c).2).2).2⟩
theorem oexB_of {b n i : String} (F : ExcBaseFacts b n i (bmOf b)) (S : StoreFacts b (bmOf b) "object.__setattr__" "object") (c : oexB K C b n = true) : OexG K C := by
  obtain ⟨c1, c⟩ := ba c
  obtain ⟨c2, c⟩ := ba c
  obtain ⟨c3, c⟩ := ba c
  obtain ⟨c4, c⟩ := ba c
  obtain ⟨c5, c⟩ := ba c
  obtain ⟨c6, c7⟩ := ba c
  exact ⟨⟨b, n, i, bmOf b, F, S, c1, c2⟩, eO_ok c3, of_decide_eq_true c4, of_decide_eq_true c5, c6, c7⟩
theorem oexB_lookup (c : oexB K C "LookupError" "LookupError.__new__" = true) : OexG K C := oexB_of PySem.F.excBase_LookupError store_LookupError c
theorem oexB_value (c : oexB K C "ValueError" "ValueError.__new__" = true) : OexG K C := oexB_of PySem.F.excBase_ValueError (by exact F.store_ValueError) c
theorem oexB_arith (c : oexB K C "ArithmeticError" "ArithmeticError.__new__" = true) : OexG K C := oexB_of PySem.F.excBase_ArithmeticError store_ArithmeticError c
theorem excCB_ok (c : excCB K C = true) : ExcC K C := by
  obtain ⟨c1, c⟩ := ba c
  obtain ⟨c2, c⟩ := ba c
  obtain ⟨c3, c⟩ := ba c
  obtain ⟨c4, c⟩ := ba c
  have s := sisiB_ok c
  exact ⟨eO_ok c1, eO_ok c2, of_decide_eq_true c3, c4, s.ca, s.cn, s.ct, s.cm⟩
theorem wordsB_ok (c : wordsB K = true) : ∃ (its : List Value) (n : Nat), K.lookup 929 = some { cls := .type "tuple", data := .seq its.toArray n } ∧ Vals [V.str "swaps", V.str "moves", V.str "rings", V.str "out"] its := by
  unfold wordsB at c
  split at c
  · rename_i cl its n sl e
    obtain ⟨c1, c⟩ := ba c
    obtain ⟨c2, c⟩ := ba c
    split at c
    · rename_i a ta b tb cc tc d td e2
      obtain ⟨c3, c⟩ := ba c
      obtain ⟨c4, c⟩ := ba c
      obtain ⟨c5, c6⟩ := ba c
      rw [of_decide_eq_true c1, of_decide_eq_true c2] at e
      refine ⟨its.toList, n, e, ?_⟩
      rw [e2, of_decide_eq_true c3, of_decide_eq_true c4, of_decide_eq_true c5, of_decide_eq_true c6]
      exact .cons ⟨_, rfl⟩ (.cons ⟨_, rfl⟩ (.cons ⟨_, rfl⟩ (.cons ⟨_, rfl⟩ .nil)))
    · cases c
  · cases c
end
/-! ### functions -/
theorem fnO_ok {K : PySem.W.Frag} {d : FD} (e : fnO K d.at_ = d.val) (c : codeB K d.at_ d.qual = true) : ∃ fd, FunD K d.name d.qual (defArgs d.st) (defBody d.st) (defScope d.st) [] [] d.at_ fd := by
  obtain ⟨c2, c3⟩ := ba c
  unfold fnO at e
  cases q : K.lookup d.at_ with
  | none => rw [q] at c2; cases c2
  | some o =>
    obtain ⟨oc, od, dt, osl⟩ := o
    rw [q] at c2 e
    cases dt with
    | func fd =>
      obtain ⟨n1, n2, n3, n4, n5, n6, n7, n8, n9, n10, n11, n12, n13, n14, n15⟩ := fd
      have e2 : (some (n1, n2, n3, n4, n5, n6, n7, n8, n15) : He.FnV) = some (d.name, d.qual, defArgs d.st, .stmts (defBody d.st), defScope d.st, mainGlobals, [], .none, builtinsNs) := e
      simp only [Option.some.injEq, Prod.mk.injEq] at e2
      obtain ⟨h1, h2, h3, h4, h5, h6, h7, h8, h9⟩ := e2
      subst h1 h2 h3 h4 h5 h6 h7 h8 h9
      exact ⟨_, ⟨oc, od, .none, n9, n10, n11, n12, n13, n14, osl, rfl, q, c2, .inl ⟨rfl, rfl⟩, .inl rfl⟩, c3⟩
    | _ => cases c2
/-! ### code objects, tables -/
theorem hdB_ok {K : PySem.W.Frag} {h : Heap} {c P : Addr} (X : K.In h) (e : hdB K c P = true) : PySem.W.CodeHd h c P := by
  obtain ⟨e, hne⟩ := ba e
  split at e
  · rename_i cl dd vs sl ho
    obtain ⟨e1, e⟩ := ba e
    obtain ⟨e2, e⟩ := ba e
    obtain ⟨e3, e⟩ := ba e
    obtain ⟨e4, e⟩ := ba e
    obtain ⟨e5, e⟩ := ba e
    obtain ⟨e6, e7⟩ := ba e
    split at e4
    · rename_i file tf h18
      split at e5
      · rename_i flags tg h7
        split at e6
        · rename_i inF h9
          split at e7
          · rename_i text tt h10
            exact ⟨_, vs, file, tf, flags, tg, inF, text, tt, X _ _ ho, of_decide_eq_true e1, rfl, of_decide_eq_true e2, of_decide_eq_true e3, h18, h7, h9, h10, of_decide_eq_true hne⟩
          · cases e7
        · cases e6
      · cases e5
    · cases e4
  · cases e
theorem tabB_ok {o : Option Obj} (e : tabB o = true) : o = some { cls := .none, data := .fields #[] } := by
  unfold tabB at e
  split at e
  · obtain ⟨e1, e⟩ := ba e
    obtain ⟨e2, e3⟩ := ba e
    rw [of_decide_eq_true e1, of_decide_eq_true e2, of_decide_eq_true e3]
  · cases e
theorem ck0_ok {K : PySem.W.Frag} (h : ck0 K = true) : (eO (PySem.W.nsIn K mainGlobals "_wall") (some (some (.ref 21)))) = true ∧ (eO (PySem.W.nsIn K mainGlobals "WrongValue") (some (some (.ref 31)))) = true ∧ (eO (PySem.W.nsIn K mainGlobals "InvalidText") (some (some (.ref 51)))) = true ∧ (eO (PySem.W.nsIn K mainGlobals "InvalidName") (some (some (.ref 70)))) = true ∧ (eO (PySem.W.nsIn K mainGlobals "InvalidKind") (some (some (.ref 89)))) = true ∧ (eO (PySem.W.nsIn K mainGlobals "InvalidMove") (some (some (.ref 108)))) = true ∧ (eO (PySem.W.nsIn K mainGlobals "InvalidNumber") (some (some (.ref 127)))) = true ∧ (eO (PySem.W.nsIn K mainGlobals "InvalidWish") (some (some (.ref 146)))) = true ∧ (eO (PySem.W.nsIn K mainGlobals "InvalidIndex") (some (some (.ref 165)))) = true ∧ (eO (PySem.W.nsIn K mainGlobals "NotYard") (some (some (.ref 184)))) = true ∧ (eO (PySem.W.nsIn K mainGlobals "InvalidKinds") (some (some (.ref 203)))) = true ∧ (eO (PySem.W.nsIn K mainGlobals "InvalidRows") (some (some (.ref 222)))) = true ∧ (eO (PySem.W.nsIn K mainGlobals "InvalidPlan") (some (some (.ref 241)))) = true ∧ (eO (PySem.W.nsIn K mainGlobals "InvalidChanges") (some (some (.ref 260)))) = true := by
  obtain ⟨h0, h⟩ := ba h
  obtain ⟨h1, h⟩ := ba h
  obtain ⟨h2, h⟩ := ba h
  obtain ⟨h3, h⟩ := ba h
  obtain ⟨h4, h⟩ := ba h
  obtain ⟨h5, h⟩ := ba h
  obtain ⟨h6, h⟩ := ba h
  obtain ⟨h7, h⟩ := ba h
  obtain ⟨h8, h⟩ := ba h
  obtain ⟨h9, h⟩ := ba h
  obtain ⟨h10, h⟩ := ba h
  obtain ⟨h11, h⟩ := ba h
  obtain ⟨h12, h⟩ := ba h
  exact ⟨h0, h1, h2, h3, h4, h5, h6, h7, h8, h9, h10, h11, h12, h⟩
theorem ck1_ok {K : PySem.W.Frag} (h : ck1 K = true) : (eO (PySem.W.nsIn K mainGlobals "WrongName") (some (some (.ref 272)))) = true ∧ (eO (PySem.W.nsIn K mainGlobals "UnknownName") (some (some (.ref 292)))) = true ∧ (eO (PySem.W.nsIn K mainGlobals "InUse") (some (some (.ref 311)))) = true ∧ (eO (PySem.W.nsIn K mainGlobals "NotPossible") (some (some (.ref 323)))) = true ∧ (eO (PySem.W.nsIn K mainGlobals "Unbalanced") (some (some (.ref 343)))) = true ∧ (eO (PySem.W.nsIn K mainGlobals "NotThere") (some (some (.ref 362)))) = true ∧ (eO (PySem.W.nsIn K mainGlobals "OtherKinds") (some (some (.ref 381)))) = true ∧ (eO (PySem.W.nsIn K mainGlobals "TooGreat") (some (some (.ref 400)))) = true ∧ (eO (PySem.W.nsIn K mainGlobals "NothingToUndo") (some (some (.ref 412)))) = true ∧ (eO (PySem.W.nsIn K mainGlobals "Broken") (some (some (.ref 431)))) = true ∧ (eO (PySem.W.nsIn K mainGlobals "is_integer") (some (some (.ref 440)))) = true ∧ (eO (PySem.W.nsIn K mainGlobals "is_count") (some (some (.ref 447)))) = true ∧ (eO (PySem.W.nsIn K mainGlobals "is_name") (some (some (.ref 452)))) = true ∧ (eO (PySem.W.nsIn K mainGlobals "check_kinds") (some (some (.ref 464)))) = true := by
  obtain ⟨h0, h⟩ := ba h
  obtain ⟨h1, h⟩ := ba h
  obtain ⟨h2, h⟩ := ba h
  obtain ⟨h3, h⟩ := ba h
  obtain ⟨h4, h⟩ := ba h
  obtain ⟨h5, h⟩ := ba h
  obtain ⟨h6, h⟩ := ba h
  obtain ⟨h7, h⟩ := ba h
  obtain ⟨h8, h⟩ := ba h
  obtain ⟨h9, h⟩ := ba h
  obtain ⟨h10, h⟩ := ba h
  obtain ⟨h11, h⟩ := ba h
  obtain ⟨h12, h⟩ := ba h
  exact ⟨h0, h1, h2, h3, h4, h5, h6, h7, h8, h9, h10, h11, h12, h⟩
theorem ck2_ok {K : PySem.W.Frag} (h : ck2 K = true) : (eO (PySem.W.nsIn K mainGlobals "is_row") (some (some (.ref 469)))) = true ∧ (eO (PySem.W.nsIn K mainGlobals "check_rows") (some (some (.ref 476)))) = true ∧ (eO (PySem.W.nsIn K mainGlobals "lopsided") (some (some (.ref 481)))) = true ∧ (eO (PySem.W.nsIn K mainGlobals "Yard") (some (some (.ref 657)))) = true ∧ (eO (PySem.W.nsIn K mainGlobals "row_lines") (some (some (.ref 666)))) = true ∧ (eO (PySem.W.nsIn K mainGlobals "check_yard") (some (some (.ref 688)))) = true ∧ (eO (PySem.W.nsIn K mainGlobals "orders_of") (some (some (.ref 714)))) = true ∧ (eO (PySem.W.nsIn K mainGlobals "forward_of") (some (some (.ref 719)))) = true ∧ (eO (PySem.W.nsIn K mainGlobals "swaps_of") (some (some (.ref 724)))) = true ∧ (eO (PySem.W.nsIn K mainGlobals "WORDS") (some (some (.ref 929)))) = true ∧ (eO (PySem.W.nsIn K mainGlobals "is_wish") (some (some (.ref 936)))) = true ∧ (eO (PySem.W.nsIn K mainGlobals "keeps") (some (some (.ref 941)))) = true ∧ (eO (PySem.W.nsIn K mainGlobals "Shape") (some (some (.ref 958)))) = true ∧ (eO (PySem.W.nsIn K mainGlobals "Begun") (some (some (.ref 979)))) = true := by
  obtain ⟨h0, h⟩ := ba h
  obtain ⟨h1, h⟩ := ba h
  obtain ⟨h2, h⟩ := ba h
  obtain ⟨h3, h⟩ := ba h
  obtain ⟨h4, h⟩ := ba h
  obtain ⟨h5, h⟩ := ba h
  obtain ⟨h6, h⟩ := ba h
  obtain ⟨h7, h⟩ := ba h
  obtain ⟨h8, h⟩ := ba h
  obtain ⟨h9, h⟩ := ba h
  obtain ⟨h10, h⟩ := ba h
  obtain ⟨h11, h⟩ := ba h
  obtain ⟨h12, h⟩ := ba h
  exact ⟨h0, h1, h2, h3, h4, h5, h6, h7, h8, h9, h10, h11, h12, h⟩
theorem ck3_ok {K : PySem.W.Frag} (h : ck3 K = true) : (eO (PySem.W.nsIn K mainGlobals "Venture") (some (some (.ref 1014)))) = true ∧ (eO (PySem.W.nsIn K mainGlobals "check_kept") (some (some (.ref 1025)))) = true ∧ (eO (PySem.W.nsIn K mainGlobals "Library") (some (some (.ref 1155)))) = true ∧ (eO (PySem.W.nsIn K mainGlobals "_law_begun") (some (some (.ref 1166)))) = true ∧ (eO (PySem.W.nsIn K mainGlobals "_law_cast") (some (some (.ref 1173)))) = true ∧ (eO (PySem.W.nsIn K mainGlobals "_law_any_of") (some (some (.ref 1180)))) = true ∧ (eO (PySem.W.nsIn K mainGlobals "_law_shown") (some (some (.ref 1187)))) = true ∧ (eO (PySem.W.nsIn K mainGlobals "_law_class") (some (some (.ref 1192)))) = true ∧ (eO (PySem.W.nsIn K mainGlobals "_law_end") (some (some (.ref 1199)))) = true ∧ (eO (PySem.W.nsIn K mainGlobals "_law_put") (some (some (.ref 1206)))) = true ∧ (eO (PySem.W.nsIn K mainGlobals "_law_shelf_view") (some (some (.ref 1211)))) = true ∧ (eO (PySem.W.nsIn K mainGlobals "_law_deeds") (some (some (.ref 1218)))) = true ∧ (eO (PySem.W.nsIn K mainGlobals "_law_done") (some (some (.ref 1225)))) = true ∧ (eO (PySem.W.nsIn K mainGlobals "_law_ending") (some (some (.ref 1232)))) = true := by
  obtain ⟨h0, h⟩ := ba h
  obtain ⟨h1, h⟩ := ba h
  obtain ⟨h2, h⟩ := ba h
  obtain ⟨h3, h⟩ := ba h
  obtain ⟨h4, h⟩ := ba h
  obtain ⟨h5, h⟩ := ba h
  obtain ⟨h6, h⟩ := ba h
  obtain ⟨h7, h⟩ := ba h
  obtain ⟨h8, h⟩ := ba h
  obtain ⟨h9, h⟩ := ba h
  obtain ⟨h10, h⟩ := ba h
  obtain ⟨h11, h⟩ := ba h
  obtain ⟨h12, h⟩ := ba h
  exact ⟨h0, h1, h2, h3, h4, h5, h6, h7, h8, h9, h10, h11, h12, h⟩
theorem ck4_ok {K : PySem.W.Frag} (h : ck4 K = true) : (eO (PySem.W.nsIn K mainGlobals "_law_went") (some (some (.ref 1239)))) = true ∧ (eO (PySem.W.nsIn K mainGlobals "_law_end_due") (some (some (.ref 1246)))) = true ∧ (eO (PySem.W.nsIn K mainGlobals "_law_inner") (some (some (.ref 1253)))) = true ∧ (eO (PySem.W.nsIn K mainGlobals "_law_action") (some (some (.ref 1260)))) = true ∧ (eO (PySem.W.nsIn K mainGlobals "_law_twin") (some (some (.ref 1267)))) = true ∧ (eO (PySem.W.nsIn K mainGlobals "_law_lot_due") (some (some (.ref 1274)))) = true ∧ (eO (PySem.W.nsIn K mainGlobals "_law_wanted") (some (some (.ref 1281)))) = true ∧ (eO (PySem.W.nsIn K mainGlobals "_law_right") (some (some (.ref 1288)))) = true ∧ (eO (PySem.W.nsIn K mainGlobals "isinstance") (some none)) = true ∧ (eO (PySem.W.nsIn K mainGlobals "int") (some none)) = true ∧ (eO (PySem.W.nsIn K mainGlobals "bool") (some none)) = true ∧ (eO (PySem.W.nsIn K mainGlobals "str") (some none)) = true ∧ (eO (PySem.W.nsIn K mainGlobals "len") (some none)) = true ∧ (eO (PySem.W.nsIn K mainGlobals "all") (some none)) = true := by
  obtain ⟨h0, h⟩ := ba h
  obtain ⟨h1, h⟩ := ba h
  obtain ⟨h2, h⟩ := ba h
  obtain ⟨h3, h⟩ := ba h
  obtain ⟨h4, h⟩ := ba h
  obtain ⟨h5, h⟩ := ba h
  obtain ⟨h6, h⟩ := ba h
  obtain ⟨h7, h⟩ := ba h
  obtain ⟨h8, h⟩ := ba h
  obtain ⟨h9, h⟩ := ba h
  obtain ⟨h10, h⟩ := ba h
  obtain ⟨h11, h⟩ := ba h
  obtain ⟨h12, h⟩ := ba h
  exact ⟨h0, h1, h2, h3, h4, h5, h6, h7, h8, h9, h10, h11, h12, h⟩
theorem ck5_ok {K : PySem.W.Frag} (h : ck5 K = true) : (eO (PySem.W.nsIn K mainGlobals "enumerate") (some none)) = true ∧ (eO (PySem.W.nsIn K mainGlobals "tuple") (some none)) = true ∧ (eO (PySem.W.nsIn K mainGlobals "sum") (some none)) = true ∧ (eO (PySem.W.nsIn K mainGlobals "range") (some none)) = true ∧ (eO (PySem.W.nsIn K mainGlobals "max") (some none)) = true ∧ (eO (PySem.W.nsIn K mainGlobals "min") (some none)) = true ∧ (eO (PySem.W.nsIn K mainGlobals "zip") (some none)) = true ∧ (eO (PySem.W.nsIn K mainGlobals "repr") (some none)) = true ∧ (eO (PySem.W.nsIn K mainGlobals "sorted") (some none)) = true ∧ (eO (PySem.W.nsIn K mainGlobals "abs") (some none)) = true ∧ (eO (PySem.W.nsIn K mainGlobals "divmod") (some none)) = true ∧ (eO (PySem.W.nsIn K mainGlobals "KeyError") (some none)) = true ∧ (eO (PySem.W.nsIn K mainGlobals "ZeroDivisionError") (some none)) = true ∧ ((He.Fa.int "MOST_KINDS" 4).ok K) = true := by
  obtain ⟨h0, h⟩ := ba h
  obtain ⟨h1, h⟩ := ba h
  obtain ⟨h2, h⟩ := ba h
  obtain ⟨h3, h⟩ := ba h
  obtain ⟨h4, h⟩ := ba h
  obtain ⟨h5, h⟩ := ba h
  obtain ⟨h6, h⟩ := ba h
  obtain ⟨h7, h⟩ := ba h
  obtain ⟨h8, h⟩ := ba h
  obtain ⟨h9, h⟩ := ba h
  obtain ⟨h10, h⟩ := ba h
  obtain ⟨h11, h⟩ := ba h
  obtain ⟨h12, h⟩ := ba h
  exact ⟨h0, h1, h2, h3, h4, h5, h6, h7, h8, h9, h10, h11, h12, h⟩
theorem ck6_ok {K : PySem.W.Frag} (h : ck6 K = true) : ((He.Fa.int "MOST_COUNT" 1000000000000000000000000000000).ok K) = true ∧ ((He.Fa.str "DIGITS" "0123456789").ok K) = true ∧ ((He.Fa.str "LETTERS" "abcdefghijklmnopqrstuvwxyz").ok K) = true ∧ (clsB K 958) = true ∧ (clsB K 979) = true ∧ (clsB K 1014) = true ∧ (clsB K 1155) = true ∧ (mkB K 657 556) = true ∧ (mkB K 958 955) = true ∧ (mkB K 979 976) = true ∧ (mkB K 1014 997) = true ∧ (mkB K 1155 1039) = true ∧ (eO (PySem.W.findIn K (.ref 958) "yards") (some none)) = true ∧ (eO (PySem.W.findIn K (.ref 958) "pairs") (some none)) = true := by
  obtain ⟨h0, h⟩ := ba h
  obtain ⟨h1, h⟩ := ba h
  obtain ⟨h2, h⟩ := ba h
  obtain ⟨h3, h⟩ := ba h
  obtain ⟨h4, h⟩ := ba h
  obtain ⟨h5, h⟩ := ba h
  obtain ⟨h6, h⟩ := ba h
  obtain ⟨h7, h⟩ := ba h
  obtain ⟨h8, h⟩ := ba h
  obtain ⟨h9, h⟩ := ba h
  obtain ⟨h10, h⟩ := ba h
  obtain ⟨h11, h⟩ := ba h
  obtain ⟨h12, h⟩ := ba h
  exact ⟨h0, h1, h2, h3, h4, h5, h6, h7, h8, h9, h10, h11, h12, h⟩
theorem ck7_ok {K : PySem.W.Frag} (h : ck7 K = true) : (eO (PySem.W.findIn K (.ref 958) "ahead") (some none)) = true ∧ (eO (PySem.W.findIn K (.ref 958) "many") (some none)) = true ∧ (eO (PySem.W.findIn K (.ref 979) "shape") (some none)) = true ∧ (eO (PySem.W.findIn K (.ref 979) "outer") (some none)) = true ∧ (eO (PySem.W.findIn K (.ref 1014) "library") (some none)) = true ∧ (eO (PySem.W.findIn K (.ref 1014) "begun") (some none)) = true ∧ (eO (PySem.W.findIn K (.ref 1155) "shape") (some none)) = true ∧ (specB K 657 "__str__" 646) = true ∧ (specB K 1014 "__enter__" 1004) = true ∧ (specB K 1014 "__exit__" 1011) = true ∧ (methB K 1155 "become" 1070) = true ∧ (methB K 1155 "remove" 1075) = true ∧ (methB K 1155 "wish" 1082) = true ∧ (methB K 1155 "lift" 1089) = true := by
  obtain ⟨h0, h⟩ := ba h
  obtain ⟨h1, h⟩ := ba h
  obtain ⟨h2, h⟩ := ba h
  obtain ⟨h3, h⟩ := ba h
  obtain ⟨h4, h⟩ := ba h
  obtain ⟨h5, h⟩ := ba h
  obtain ⟨h6, h⟩ := ba h
  obtain ⟨h7, h⟩ := ba h
  obtain ⟨h8, h⟩ := ba h
  obtain ⟨h9, h⟩ := ba h
  obtain ⟨h10, h⟩ := ba h
  obtain ⟨h11, h⟩ := ba h
  obtain ⟨h12, h⟩ := ba h
  exact ⟨h0, h1, h2, h3, h4, h5, h6, h7, h8, h9, h10, h11, h12, h⟩
theorem ck8_ok {K : PySem.W.Frag} (h : ck8 K = true) : (methB K 1155 "undo" 1096) = true ∧ (methB K 1155 "trial" 1103) = true ∧ (methB K 1155 "tried" 1110) = true ∧ (specB K 1155 "__getitem__" 1117) = true ∧ (specB K 1155 "__setitem__" 1124) = true ∧ (specB K 1155 "__contains__" 1131) = true ∧ (specB K 1155 "__len__" 1145) = true ∧ (specB K 1155 "__bool__" 1152) = true ∧ (PySem.W.noSeq K 1155) = true ∧ (PySem.W.fnIn K 1117) = true ∧ (propB K 1155 "names" 1047 1046) = true ∧ (propB K 1155 "wishes" 1055 1054) = true ∧ (propB K 1155 "changes" 1063 1062) = true ∧ (propB K 657 "rows" 582 581) = true := by
  obtain ⟨h0, h⟩ := ba h
  obtain ⟨h1, h⟩ := ba h
  obtain ⟨h2, h⟩ := ba h
  obtain ⟨h3, h⟩ := ba h
  obtain ⟨h4, h⟩ := ba h
  obtain ⟨h5, h⟩ := ba h
  obtain ⟨h6, h⟩ := ba h
  obtain ⟨h7, h⟩ := ba h
  obtain ⟨h8, h⟩ := ba h
  obtain ⟨h9, h⟩ := ba h
  obtain ⟨h10, h⟩ := ba h
  obtain ⟨h11, h⟩ := ba h
  obtain ⟨h12, h⟩ := ba h
  exact ⟨h0, h1, h2, h3, h4, h5, h6, h7, h8, h9, h10, h11, h12, h⟩
theorem ck9_ok {K : PySem.W.Frag} (h : ck9 K = true) : (sclsB K 657) = true ∧ (slot1B K 657 "body" 658 0) = true ∧ (slot1B K 657 "shape" 659 1) = true ∧ (sisiB K 657) = true ∧ (oexB K 292 "LookupError" "LookupError.__new__") = true ∧ (eO (PySem.W.findIn K (.ref 292) "given") (some none)) = true ∧ (eO (PySem.W.findIn K (.ref 292) "__init__") (some (some (.ref 289)))) = true ∧ (decide (PySem.W.typeIn K (.ref 289) = some (.type "function"))) = true ∧ (xfB K 292) = true ∧ (oexB K 311 "LookupError" "LookupError.__new__") = true ∧ (eO (PySem.W.findIn K (.ref 311) "index") (some none)) = true ∧ (eO (PySem.W.findIn K (.ref 311) "__init__") (some (some (.ref 308)))) = true ∧ (decide (PySem.W.typeIn K (.ref 308) = some (.type "function"))) = true ∧ (xfB K 311) = true := by
  obtain ⟨h0, h⟩ := ba h
  obtain ⟨h1, h⟩ := ba h
  obtain ⟨h2, h⟩ := ba h
  obtain ⟨h3, h⟩ := ba h
  obtain ⟨h4, h⟩ := ba h
  obtain ⟨h5, h⟩ := ba h
  obtain ⟨h6, h⟩ := ba h
  obtain ⟨h7, h⟩ := ba h
  obtain ⟨h8, h⟩ := ba h
  obtain ⟨h9, h⟩ := ba h
  obtain ⟨h10, h⟩ := ba h
  obtain ⟨h11, h⟩ := ba h
  obtain ⟨h12, h⟩ := ba h
  exact ⟨h0, h1, h2, h3, h4, h5, h6, h7, h8, h9, h10, h11, h12, h⟩
theorem ck10_ok {K : PySem.W.Frag} (h : ck10 K = true) : (oexB K 165 "ValueError" "ValueError.__new__") = true ∧ (eO (PySem.W.findIn K (.ref 165) "given") (some none)) = true ∧ (eO (PySem.W.findIn K (.ref 165) "__init__") (some (some (.ref 162)))) = true ∧ (decide (PySem.W.typeIn K (.ref 162) = some (.type "function"))) = true ∧ (xfB K 165) = true ∧ (oexB K 431 "ArithmeticError" "ArithmeticError.__new__") = true ∧ (eO (PySem.W.findIn K (.ref 431) "index") (some none)) = true ∧ (eO (PySem.W.findIn K (.ref 431) "__init__") (some (some (.ref 428)))) = true ∧ (decide (PySem.W.typeIn K (.ref 428) = some (.type "function"))) = true ∧ (xfB K 431) = true ∧ (oexB K 400 "ArithmeticError" "ArithmeticError.__new__") = true ∧ (eO (PySem.W.findIn K (.ref 400) "given") (some none)) = true ∧ (eO (PySem.W.findIn K (.ref 400) "__init__") (some (some (.ref 397)))) = true ∧ (decide (PySem.W.typeIn K (.ref 397) = some (.type "function"))) = true := by
  obtain ⟨h0, h⟩ := ba h
  obtain ⟨h1, h⟩ := ba h
  obtain ⟨h2, h⟩ := ba h
  obtain ⟨h3, h⟩ := ba h
  obtain ⟨h4, h⟩ := ba h
  obtain ⟨h5, h⟩ := ba h
  obtain ⟨h6, h⟩ := ba h
  obtain ⟨h7, h⟩ := ba h
  obtain ⟨h8, h⟩ := ba h
  obtain ⟨h9, h⟩ := ba h
  obtain ⟨h10, h⟩ := ba h
  obtain ⟨h11, h⟩ := ba h
  obtain ⟨h12, h⟩ := ba h
  exact ⟨h0, h1, h2, h3, h4, h5, h6, h7, h8, h9, h10, h11, h12, h⟩
theorem ck11_ok {K : PySem.W.Frag} (h : ck11 K = true) : (xfB K 400) = true ∧ (excCB K 292) = true ∧ (excCB K 311) = true ∧ (excCB K 165) = true ∧ (excCB K 431) = true ∧ (excCB K 400) = true ∧ (excCB K 412) = true ∧ (PySem.W.excIn K 412 [.type "ArithmeticError", .type "Exception", .type "BaseException", .type "object"] "ArithmeticError.__new__") = true ∧ (PySem.W.hasDictIn K 412) = true ∧ (decide (PySem.W.typeIn K (.ref 412) = some (.type "type"))) = true ∧ (decide (PySem.W.subIn K (.ref 412) (.type "BaseException") = some true)) = true ∧ (decide (PySem.W.subIn K (.ref 412) (.ref 412) = some true)) = true ∧ (decide (PySem.W.exmAny K (.ref 292) [.ref 31, .ref 272, .ref 323] = some true)) = true ∧ (decide (PySem.W.exmAny K (.ref 311) [.ref 31, .ref 272, .ref 323] = some true)) = true := by
  obtain ⟨h0, h⟩ := ba h
  obtain ⟨h1, h⟩ := ba h
  obtain ⟨h2, h⟩ := ba h
  obtain ⟨h3, h⟩ := ba h
  obtain ⟨h4, h⟩ := ba h
  obtain ⟨h5, h⟩ := ba h
  obtain ⟨h6, h⟩ := ba h
  obtain ⟨h7, h⟩ := ba h
  obtain ⟨h8, h⟩ := ba h
  obtain ⟨h9, h⟩ := ba h
  obtain ⟨h10, h⟩ := ba h
  obtain ⟨h11, h⟩ := ba h
  obtain ⟨h12, h⟩ := ba h
  exact ⟨h0, h1, h2, h3, h4, h5, h6, h7, h8, h9, h10, h11, h12, h⟩
theorem ck12_ok {K : PySem.W.Frag} (h : ck12 K = true) : (decide (PySem.W.exmAny K (.ref 165) [.ref 31, .ref 272, .ref 323] = some true)) = true ∧ (decide (PySem.W.exmAny K (.ref 431) [.ref 31, .ref 272, .ref 323] = some true)) = true ∧ (decide (PySem.W.exmAny K (.ref 400) [.ref 31, .ref 272, .ref 323] = some true)) = true ∧ (decide (PySem.W.exmAny K (.ref 412) [.ref 31, .ref 272, .ref 323] = some true)) = true ∧ (decide (PySem.W.exmAny K (.type "KeyError") [.ref 31, .ref 272, .ref 323] = some false)) = true ∧ (decide (PySem.W.exmAny K (.type "ZeroDivisionError") [.ref 31, .ref 272, .ref 323] = some false)) = true ∧ (decide ([51, 70, 89, 108, 127, 146, 165, 184, 203, 222, 241, 260, 292, 311, 343, 362, 381, 400, 412, 431, 31, 272, 323].map (fun D => PySem.W.kitOne K (.ref 292) (.ref D)) = [some false, some false, some false, some false, some false, some false, some false, some false, some false, some false, some false, some false, some true, some false, some false, some false, some false, some false, some false, some false, some false, some true, some false])) = true ∧ (decide ([51, 70, 89, 108, 127, 146, 165, 184, 203, 222, 241, 260, 292, 311, 343, 362, 381, 400, 412, 431, 31, 272, 323].map (fun D => PySem.W.kitOne K (.ref 311) (.ref D)) = [some false, some false, some false, some false, some false, some false, some false, some false, some false, some false, some false, some false, some false, some true, some false, some false, some false, some false, some false, some false, some false, some true, some false])) = true ∧ (decide ([51, 70, 89, 108, 127, 146, 165, 184, 203, 222, 241, 260, 292, 311, 343, 362, 381, 400, 412, 431, 31, 272, 323].map (fun D => PySem.W.kitOne K (.ref 165) (.ref D)) = [some false, some false, some false, some false, some false, some false, some true, some false, some false, some false, some false, some false, some false, some false, some false, some false, some false, some false, some false, some false, some true, some false, some false])) = true ∧ (decide ([51, 70, 89, 108, 127, 146, 165, 184, 203, 222, 241, 260, 292, 311, 343, 362, 381, 400, 412, 431, 31, 272, 323].map (fun D => PySem.W.kitOne K (.ref 431) (.ref D)) = [some false, some false, some false, some false, some false, some false, some false, some false, some false, some false, some false, some false, some false, some false, some false, some false, some false, some false, some false, some true, some false, some false, some true])) = true ∧ (decide ([51, 70, 89, 108, 127, 146, 165, 184, 203, 222, 241, 260, 292, 311, 343, 362, 381, 400, 412, 431, 31, 272, 323].map (fun D => PySem.W.kitOne K (.ref 400) (.ref D)) = [some false, some false, some false, some false, some false, some false, some false, some false, some false, some false, some false, some false, some false, some false, some false, some false, some false, some true, some false, some false, some false, some false, some true])) = true ∧ (decide ([51, 70, 89, 108, 127, 146, 165, 184, 203, 222, 241, 260, 292, 311, 343, 362, 381, 400, 412, 431, 31, 272, 323].map (fun D => PySem.W.kitOne K (.ref 412) (.ref D)) = [some false, some false, some false, some false, some false, some false, some false, some false, some false, some false, some false, some false, some false, some false, some false, some false, some false, some false, some true, some false, some false, some false, some true])) = true ∧ (decide (PySem.W.kitOne K (.ref 657) (.ref 657) = some true)) = true ∧ (decide (PySem.W.kitOne K (.type "NoneType") (.ref 657) = some false)) = true := by
  obtain ⟨h0, h⟩ := ba h
  obtain ⟨h1, h⟩ := ba h
  obtain ⟨h2, h⟩ := ba h
  obtain ⟨h3, h⟩ := ba h
  obtain ⟨h4, h⟩ := ba h
  obtain ⟨h5, h⟩ := ba h
  obtain ⟨h6, h⟩ := ba h
  obtain ⟨h7, h⟩ := ba h
  obtain ⟨h8, h⟩ := ba h
  obtain ⟨h9, h⟩ := ba h
  obtain ⟨h10, h⟩ := ba h
  obtain ⟨h11, h⟩ := ba h
  obtain ⟨h12, h⟩ := ba h
  exact ⟨h0, h1, h2, h3, h4, h5, h6, h7, h8, h9, h10, h11, h12, h⟩
theorem ck13_ok {K : PySem.W.Frag} (h : ck13 K = true) : (decide (PySem.W.kitOne K (.type "list") (.ref 657) = some false)) = true ∧ (decide (PySem.W.kitOne K (.type "str") (.ref 657) = some false)) = true ∧ (decide (PySem.W.kitOne K (.type "int") (.ref 657) = some false)) = true ∧ (wordsB K) = true ∧ (eO (PySem.W.nsIn K mainGlobals "law") (some (some (.ref 1293)))) = true ∧ (decide (codeOf K 1260 = some (.ref 1259))) = true ∧ (hdB K 1259 1255) = true ∧ ((K.lookup 1255).isNone) = true ∧ (decide (codeOf K 1274 = some (.ref 1273))) = true ∧ (hdB K 1273 1269) = true ∧ ((K.lookup 1269).isNone) = true ∧ (decide (codeOf K 1288 = some (.ref 1287))) = true ∧ (hdB K 1287 1283) = true ∧ ((K.lookup 1283).isNone) = true := by
  obtain ⟨h0, h⟩ := ba h
  obtain ⟨h1, h⟩ := ba h
  obtain ⟨h2, h⟩ := ba h
  obtain ⟨h3, h⟩ := ba h
  obtain ⟨h4, h⟩ := ba h
  obtain ⟨h5, h⟩ := ba h
  obtain ⟨h6, h⟩ := ba h
  obtain ⟨h7, h⟩ := ba h
  obtain ⟨h8, h⟩ := ba h
  obtain ⟨h9, h⟩ := ba h
  obtain ⟨h10, h⟩ := ba h
  obtain ⟨h11, h⟩ := ba h
  obtain ⟨h12, h⟩ := ba h
  exact ⟨h0, h1, h2, h3, h4, h5, h6, h7, h8, h9, h10, h11, h12, h⟩
theorem ckAll_ok {K : PySem.W.Frag} (h : ckAll K = true) : ck0 K = true ∧ ck1 K = true ∧ ck2 K = true ∧ ck3 K = true ∧ ck4 K = true ∧ ck5 K = true ∧ ck6 K = true ∧ ck7 K = true ∧ ck8 K = true ∧ ck9 K = true ∧ ck10 K = true ∧ ck11 K = true ∧ ck12 K = true ∧ ck13 K = true ∧ (fns.all fun d => codeB K d.at_ d.qual) = true := by
  unfold ckAll at h
  simp only [Bool.and_eq_true] at h
  exact ⟨h.1, h.2.1, h.2.2.1, h.2.2.2.1, h.2.2.2.2.1, h.2.2.2.2.2.1, h.2.2.2.2.2.2.1, h.2.2.2.2.2.2.2.1, h.2.2.2.2.2.2.2.2.1, h.2.2.2.2.2.2.2.2.2.1, h.2.2.2.2.2.2.2.2.2.2.1, h.2.2.2.2.2.2.2.2.2.2.2.1, h.2.2.2.2.2.2.2.2.2.2.2.2.1, h.2.2.2.2.2.2.2.2.2.2.2.2.2.1, h.2.2.2.2.2.2.2.2.2.2.2.2.2.2⟩
/-! ### the Hook -/
def SaysA (K : PySem.W.Frag) (h : Heap) : Prop := ckAll K = true ∧ (fns.map fun d => fnO K d.at_) = fns.map FD.val ∧ h.get? 1255 = some { cls := .none, data := .fields #[] } ∧ h.get? 1269 = some { cls := .none, data := .fields #[] } ∧ h.get? 1283 = some { cls := .none, data := .fields #[] }
theorem says_of {K : PySem.W.Frag} {h : Heap} (e : obsK K h.get? = valA) : SaysA K h := by
  have e1 : (ckAll K && (tabB (h.get? 1255) && (tabB (h.get? 1269) && tabB (h.get? 1283)))) = true := congrArg (fun z : Al => z.1) e
  have e2 : (fns.map fun d => fnO K d.at_) = fns.map FD.val := congrArg (fun z : Al => z.2) e
  exact ⟨(ba e1).1, e2, tabB_ok (ba (ba e1).2).1, tabB_ok (ba (ba (ba e1).2).2).1, tabB_ok (ba (ba (ba e1).2).2).2⟩
def hookA : PySem.W.Hook where
  α := Al
  obs := fun s => obsA s.heap.get?
  val := fun _ => valA
  says := fun _ h => ∃ K : PySem.W.Frag, K.In h ∧ SaysA K h
  of := fun _ _ e => ⟨_, He.frG_in, says_of e⟩
  keeps := fun _ _ _ ⟨K, hK, c1, c2, c3, c4, c5⟩ k => ⟨K, PySem.W.Frag.In.keeps hK k, c1, c2, k _ _ c3, k _ _ c4, k _ _ c5⟩
theorem obsA_eq {g : Addr → Option Obj} {s : Shared} (h : ∀ a, g a = s.heap.get? a) : obsA g = hookA.obs s := by
  have e : g = s.heap.get? := funext h
  rw [e] <;> rfl
theorem fn_at {K : PySem.W.Frag} (c : (fns.all fun d => codeB K d.at_ d.qual) = true) (e : (fns.map fun d => fnO K d.at_) = fns.map FD.val) (i : Nat) {d : FD} (h : fns[i]? = some d) : ∃ fd, FunD K d.name d.qual (defArgs d.st) (defBody d.st) (defScope d.st) [] [] d.at_ fd := by
  have e2 : (fns.map fun d => fnO K d.at_)[i]? = (fns.map FD.val)[i]? := by rw [e]
  rw [List.getElem?_map, List.getElem?_map, h] at e2
  exact fnO_ok (Option.some.inj e2) (List.all_eq_true.mp c d (List.mem_of_getElem? h))
theorem tx_of {K : PySem.W.Frag} {h : Heap} {mg : Str → Option Value} (X : K.In h) (G : h.Ns mainGlobals mg) (c : SaysA K h) : Tx K mg ∧ mg "law" = some (.ref 1293) ∧ LawD K 1293 ∧ (codeOf K 1260 = some (.ref 1259) ∧ codeOf K 1274 = some (.ref 1273) ∧ codeOf K 1288 = some (.ref 1287)) ∧ (PySem.W.CodeHd h 1259 1255 ∧ PySem.W.CodeHd h 1273 1269 ∧ PySem.W.CodeHd h 1287 1283) ∧ (K.lookup 1255 = none ∧ K.lookup 1269 = none ∧ K.lookup 1283 = none) := by
  obtain ⟨c, e, _⟩ := c
  obtain ⟨k0, k1, k2, k3, k4, k5, k6, k7, k8, k9, k10, k11, k12, k13, kf⟩ := ckAll_ok c
  obtain ⟨c_g_wall, c_gWrongValue, c_gInvalidText, c_gInvalidName, c_gInvalidKind, c_gInvalidMove, c_gInvalidNumber, c_gInvalidWish, c_gInvalidIndex, c_gNotYard, c_gInvalidKinds, c_gInvalidRows, c_gInvalidPlan, c_gInvalidChanges⟩ := ck0_ok k0
  obtain ⟨c_gWrongName, c_gUnknownName, c_gInUse, c_gNotPossible, c_gUnbalanced, c_gNotThere, c_gOtherKinds, c_gTooGreat, c_gNothingToUndo, c_gBroken, c_gis_integer, c_gis_count, c_gis_name, c_gcheck_kinds⟩ := ck1_ok k1
  obtain ⟨c_gis_row, c_gcheck_rows, c_glopsided, c_gYard, c_grow_lines, c_gcheck_yard, c_gorders_of, c_gforward_of, c_gswaps_of, c_gWORDS, c_gis_wish, c_gkeeps, c_gShape, c_gBegun⟩ := ck2_ok k2
  obtain ⟨c_gVenture, c_gcheck_kept, c_gLibrary, c_g_law_begun, c_g_law_cast, c_g_law_any_of, c_g_law_shown, c_g_law_class, c_g_law_end, c_g_law_put, c_g_law_shelf_view, c_g_law_deeds, c_g_law_done, c_g_law_ending⟩ := ck3_ok k3
  obtain ⟨c_g_law_went, c_g_law_end_due, c_g_law_inner, c_g_law_action, c_g_law_twin, c_g_law_lot_due, c_g_law_wanted, c_g_law_right, c_bisinstance, c_bint, c_bbool, c_bstr, c_blen, c_ball⟩ := ck4_ok k4
  obtain ⟨c_benumerate, c_btuple, c_bsum, c_brange, c_bmax, c_bmin, c_bzip, c_brepr, c_bsorted, c_babs, c_bdivmod, c_bKeyError, c_bZeroDivisionError, c_cMOST_KINDS⟩ := ck5_ok k5
  obtain ⟨c_cMOST_COUNT, c_cDIGITS, c_cLETTERS, c_clShape, c_clBegun, c_clVenture, c_clLibrary, c_mkYard, c_mkShape, c_mkBegun, c_mkVenture, c_mkLibrary, c_nShapeyards, c_nShapepairs⟩ := ck6_ok k6
  obtain ⟨c_nShapeahead, c_nShapemany, c_nBegunshape, c_nBegunouter, c_nVenturelibrary, c_nVenturebegun, c_nLibraryshape, c_sYard__str__, c_sVenture__enter__, c_sVenture__exit__, c_mbecome, c_mremove, c_mwish, c_mlift⟩ := ck7_ok k7
  obtain ⟨c_mundo, c_mtrial, c_mtried, c_sLibrary__getitem__, c_sLibrary__setitem__, c_sLibrary__contains__, c_sLibrary__len__, c_sLibrary__bool__, c_nsLib, c_fnGet, c_pnames, c_pwishes, c_pchanges, c_prows⟩ := ck8_ok k8
  obtain ⟨c_scYard, c_slBody, c_slShape, c_siYard, c_eUnknownName, c_xUnknownName, c_iUnknownName, c_tUnknownName, c_xfUnknownName, c_eInUse, c_xInUse, c_iInUse, c_tInUse, c_xfInUse⟩ := ck9_ok k9
  obtain ⟨c_eInvalidIndex, c_xInvalidIndex, c_iInvalidIndex, c_tInvalidIndex, c_xfInvalidIndex, c_eBroken, c_xBroken, c_iBroken, c_tBroken, c_xfBroken, c_eTooGreat, c_xTooGreat, c_iTooGreat, c_tTooGreat⟩ := ck10_ok k10
  obtain ⟨c_xfTooGreat, c_ecUnknownName, c_ecInUse, c_ecInvalidIndex, c_ecBroken, c_ecTooGreat, c_ecNothingToUndo, c_nuExc, c_nuHd, c_nuTy, c_nuEx, c_nuSub, c_amUnknownName, c_amInUse⟩ := ck11_ok k11
  obtain ⟨c_amInvalidIndex, c_amBroken, c_amTooGreat, c_amNothingToUndo, c_amKeyError, c_amZeroDivisionError, c_isUnknownName, c_isInUse, c_isInvalidIndex, c_isBroken, c_isTooGreat, c_isNothingToUndo, c_isYard, c_yNone⟩ := ck12_ok k12
  obtain ⟨c_yList, c_yStr, c_yInt, c_kWORDS, c_LAWg, c_coA, c_hdA, c_noA, c_coL, c_hdL, c_noL, c_coR, c_hdR, c_noR⟩ := ck13_ok k13
  refine ⟨{
    g_wall := PySem.W.mg_of X G (eO_ok c_g_wall)
    gWrongValue := PySem.W.mg_of X G (eO_ok c_gWrongValue)
    gInvalidText := PySem.W.mg_of X G (eO_ok c_gInvalidText)
    gInvalidName := PySem.W.mg_of X G (eO_ok c_gInvalidName)
    gInvalidKind := PySem.W.mg_of X G (eO_ok c_gInvalidKind)
    gInvalidMove := PySem.W.mg_of X G (eO_ok c_gInvalidMove)
    gInvalidNumber := PySem.W.mg_of X G (eO_ok c_gInvalidNumber)
    gInvalidWish := PySem.W.mg_of X G (eO_ok c_gInvalidWish)
    gInvalidIndex := PySem.W.mg_of X G (eO_ok c_gInvalidIndex)
    gNotYard := PySem.W.mg_of X G (eO_ok c_gNotYard)
    gInvalidKinds := PySem.W.mg_of X G (eO_ok c_gInvalidKinds)
    gInvalidRows := PySem.W.mg_of X G (eO_ok c_gInvalidRows)
    gInvalidPlan := PySem.W.mg_of X G (eO_ok c_gInvalidPlan)
    gInvalidChanges := PySem.W.mg_of X G (eO_ok c_gInvalidChanges)
    gWrongName := PySem.W.mg_of X G (eO_ok c_gWrongName)
    gUnknownName := PySem.W.mg_of X G (eO_ok c_gUnknownName)
    gInUse := PySem.W.mg_of X G (eO_ok c_gInUse)
    gNotPossible := PySem.W.mg_of X G (eO_ok c_gNotPossible)
    gUnbalanced := PySem.W.mg_of X G (eO_ok c_gUnbalanced)
    gNotThere := PySem.W.mg_of X G (eO_ok c_gNotThere)
    gOtherKinds := PySem.W.mg_of X G (eO_ok c_gOtherKinds)
    gTooGreat := PySem.W.mg_of X G (eO_ok c_gTooGreat)
    gNothingToUndo := PySem.W.mg_of X G (eO_ok c_gNothingToUndo)
    gBroken := PySem.W.mg_of X G (eO_ok c_gBroken)
    gis_integer := PySem.W.mg_of X G (eO_ok c_gis_integer)
    gis_count := PySem.W.mg_of X G (eO_ok c_gis_count)
    gis_name := PySem.W.mg_of X G (eO_ok c_gis_name)
    gcheck_kinds := PySem.W.mg_of X G (eO_ok c_gcheck_kinds)
    gis_row := PySem.W.mg_of X G (eO_ok c_gis_row)
    gcheck_rows := PySem.W.mg_of X G (eO_ok c_gcheck_rows)
    glopsided := PySem.W.mg_of X G (eO_ok c_glopsided)
    gYard := PySem.W.mg_of X G (eO_ok c_gYard)
    grow_lines := PySem.W.mg_of X G (eO_ok c_grow_lines)
    gcheck_yard := PySem.W.mg_of X G (eO_ok c_gcheck_yard)
    gorders_of := PySem.W.mg_of X G (eO_ok c_gorders_of)
    gforward_of := PySem.W.mg_of X G (eO_ok c_gforward_of)
    gswaps_of := PySem.W.mg_of X G (eO_ok c_gswaps_of)
    gWORDS := PySem.W.mg_of X G (eO_ok c_gWORDS)
    gis_wish := PySem.W.mg_of X G (eO_ok c_gis_wish)
    gkeeps := PySem.W.mg_of X G (eO_ok c_gkeeps)
    gShape := PySem.W.mg_of X G (eO_ok c_gShape)
    gBegun := PySem.W.mg_of X G (eO_ok c_gBegun)
    gVenture := PySem.W.mg_of X G (eO_ok c_gVenture)
    gcheck_kept := PySem.W.mg_of X G (eO_ok c_gcheck_kept)
    gLibrary := PySem.W.mg_of X G (eO_ok c_gLibrary)
    g_law_begun := PySem.W.mg_of X G (eO_ok c_g_law_begun)
    g_law_cast := PySem.W.mg_of X G (eO_ok c_g_law_cast)
    g_law_any_of := PySem.W.mg_of X G (eO_ok c_g_law_any_of)
    g_law_shown := PySem.W.mg_of X G (eO_ok c_g_law_shown)
    g_law_class := PySem.W.mg_of X G (eO_ok c_g_law_class)
    g_law_end := PySem.W.mg_of X G (eO_ok c_g_law_end)
    g_law_put := PySem.W.mg_of X G (eO_ok c_g_law_put)
    g_law_shelf_view := PySem.W.mg_of X G (eO_ok c_g_law_shelf_view)
    g_law_deeds := PySem.W.mg_of X G (eO_ok c_g_law_deeds)
    g_law_done := PySem.W.mg_of X G (eO_ok c_g_law_done)
    g_law_ending := PySem.W.mg_of X G (eO_ok c_g_law_ending)
    g_law_went := PySem.W.mg_of X G (eO_ok c_g_law_went)
    g_law_end_due := PySem.W.mg_of X G (eO_ok c_g_law_end_due)
    g_law_inner := PySem.W.mg_of X G (eO_ok c_g_law_inner)
    g_law_action := PySem.W.mg_of X G (eO_ok c_g_law_action)
    g_law_twin := PySem.W.mg_of X G (eO_ok c_g_law_twin)
    g_law_lot_due := PySem.W.mg_of X G (eO_ok c_g_law_lot_due)
    g_law_wanted := PySem.W.mg_of X G (eO_ok c_g_law_wanted)
    g_law_right := PySem.W.mg_of X G (eO_ok c_g_law_right)
    bisinstance := PySem.W.mg_none_of X G (eO_ok c_bisinstance)
    bint := PySem.W.mg_none_of X G (eO_ok c_bint)
    bbool := PySem.W.mg_none_of X G (eO_ok c_bbool)
    bstr := PySem.W.mg_none_of X G (eO_ok c_bstr)
    blen := PySem.W.mg_none_of X G (eO_ok c_blen)
    ball := PySem.W.mg_none_of X G (eO_ok c_ball)
    benumerate := PySem.W.mg_none_of X G (eO_ok c_benumerate)
    btuple := PySem.W.mg_none_of X G (eO_ok c_btuple)
    bsum := PySem.W.mg_none_of X G (eO_ok c_bsum)
    brange := PySem.W.mg_none_of X G (eO_ok c_brange)
    bmax := PySem.W.mg_none_of X G (eO_ok c_bmax)
    bmin := PySem.W.mg_none_of X G (eO_ok c_bmin)
    bzip := PySem.W.mg_none_of X G (eO_ok c_bzip)
    brepr := PySem.W.mg_none_of X G (eO_ok c_brepr)
    bsorted := PySem.W.mg_none_of X G (eO_ok c_bsorted)
    babs := PySem.W.mg_none_of X G (eO_ok c_babs)
    bdivmod := PySem.W.mg_none_of X G (eO_ok c_bdivmod)
    bKeyError := PySem.W.mg_none_of X G (eO_ok c_bKeyError)
    bZeroDivisionError := PySem.W.mg_none_of X G (eO_ok c_bZeroDivisionError)
    cMOST_KINDS := He.int_ok X G c_cMOST_KINDS
    cMOST_COUNT := He.int_ok X G c_cMOST_COUNT
    cDIGITS := He.str_ok X G c_cDIGITS
    cLETTERS := He.str_ok X G c_cLETTERS
    fis_integer := fn_at kf e 0 rfl
    fis_count := fn_at kf e 1 rfl
    fis_name := fn_at kf e 2 rfl
    fcheck_kinds := fn_at kf e 3 rfl
    fis_row := fn_at kf e 4 rfl
    fcheck_rows := fn_at kf e 5 rfl
    flopsided := fn_at kf e 6 rfl
    frow_lines := fn_at kf e 7 rfl
    fcheck_yard := fn_at kf e 8 rfl
    forders_of := fn_at kf e 9 rfl
    fforward_of := fn_at kf e 10 rfl
    fswaps_of := fn_at kf e 11 rfl
    fis_wish := fn_at kf e 12 rfl
    fkeeps := fn_at kf e 13 rfl
    fcheck_kept := fn_at kf e 14 rfl
    f_law_begun := fn_at kf e 15 rfl
    f_law_cast := fn_at kf e 16 rfl
    f_law_any_of := fn_at kf e 17 rfl
    f_law_shown := fn_at kf e 18 rfl
    f_law_class := fn_at kf e 19 rfl
    f_law_end := fn_at kf e 20 rfl
    f_law_put := fn_at kf e 21 rfl
    f_law_shelf_view := fn_at kf e 22 rfl
    f_law_deeds := fn_at kf e 23 rfl
    f_law_done := fn_at kf e 24 rfl
    f_law_ending := fn_at kf e 25 rfl
    f_law_went := fn_at kf e 26 rfl
    f_law_end_due := fn_at kf e 27 rfl
    f_law_inner := fn_at kf e 28 rfl
    f_law_action := fn_at kf e 29 rfl
    f_law_twin := fn_at kf e 30 rfl
    f_law_lot_due := fn_at kf e 31 rfl
    f_law_wanted := fn_at kf e 32 rfl
    f_law_right := fn_at kf e 33 rfl
    fYard__init__ := fn_at kf e 34 rfl
    fYardrows := fn_at kf e 35 rfl
    fYard__str__ := fn_at kf e 36 rfl
    fShape__init__ := fn_at kf e 37 rfl
    fBegun__init__ := fn_at kf e 38 rfl
    fVenture__init__ := fn_at kf e 39 rfl
    fVenture__enter__ := fn_at kf e 40 rfl
    fVenture__exit__ := fn_at kf e 41 rfl
    fLibrary__init__ := fn_at kf e 42 rfl
    fLibrarynames := fn_at kf e 43 rfl
    fLibrarywishes := fn_at kf e 44 rfl
    fLibrarychanges := fn_at kf e 45 rfl
    fLibrarybecome := fn_at kf e 46 rfl
    fLibraryremove := fn_at kf e 47 rfl
    fLibrarywish := fn_at kf e 48 rfl
    fLibrarylift := fn_at kf e 49 rfl
    fLibraryundo := fn_at kf e 50 rfl
    fLibrarytrial := fn_at kf e 51 rfl
    fLibrarytried := fn_at kf e 52 rfl
    fLibrary__getitem__ := fn_at kf e 53 rfl
    fLibrary__setitem__ := fn_at kf e 54 rfl
    fLibrary__contains__ := fn_at kf e 55 rfl
    fLibrary__len__ := fn_at kf e 56 rfl
    fLibrary__bool__ := fn_at kf e 57 rfl
    fUnknownName__init__ := fn_at kf e 58 rfl
    fInUse__init__ := fn_at kf e 59 rfl
    fInvalidIndex__init__ := fn_at kf e 60 rfl
    fBroken__init__ := fn_at kf e 61 rfl
    fTooGreat__init__ := fn_at kf e 62 rfl
    clShape := clsB_ok c_clShape
    clBegun := clsB_ok c_clBegun
    clVenture := clsB_ok c_clVenture
    clLibrary := clsB_ok c_clLibrary
    mkYard := mkB_ok c_mkYard
    mkShape := mkB_ok c_mkShape
    mkBegun := mkB_ok c_mkBegun
    mkVenture := mkB_ok c_mkVenture
    mkLibrary := mkB_ok c_mkLibrary
    nShapeyards := eO_ok c_nShapeyards
    nShapepairs := eO_ok c_nShapepairs
    nShapeahead := eO_ok c_nShapeahead
    nShapemany := eO_ok c_nShapemany
    nBegunshape := eO_ok c_nBegunshape
    nBegunouter := eO_ok c_nBegunouter
    nVenturelibrary := eO_ok c_nVenturelibrary
    nVenturebegun := eO_ok c_nVenturebegun
    nLibraryshape := eO_ok c_nLibraryshape
    sYard__str__ := specB_ok c_sYard__str__
    sVenture__enter__ := specB_ok c_sVenture__enter__
    sVenture__exit__ := specB_ok c_sVenture__exit__
    mbecome := methB_ok c_mbecome
    mremove := methB_ok c_mremove
    mwish := methB_ok c_mwish
    mlift := methB_ok c_mlift
    mundo := methB_ok c_mundo
    mtrial := methB_ok c_mtrial
    mtried := methB_ok c_mtried
    sLibrary__getitem__ := specB_ok c_sLibrary__getitem__
    sLibrary__setitem__ := specB_ok c_sLibrary__setitem__
    sLibrary__contains__ := specB_ok c_sLibrary__contains__
    sLibrary__len__ := specB_ok c_sLibrary__len__
    sLibrary__bool__ := specB_ok c_sLibrary__bool__
    nsLib := c_nsLib
    fnGet := c_fnGet
    pnames := propB_ok c_pnames
    pwishes := propB_ok c_pwishes
    pchanges := propB_ok c_pchanges
    prows := propB_ok c_prows
    scYard := sclsB_ok c_scYard
    slBody := slot1B_ok c_slBody
    slShape := slot1B_ok c_slShape
    siYard := sisiB_ok c_siYard
    eUnknownName := oexB_lookup c_eUnknownName
    xUnknownName := eO_ok c_xUnknownName
    iUnknownName := eO_ok c_iUnknownName
    tUnknownName := of_decide_eq_true c_tUnknownName
    xfUnknownName := xfB_ok c_xfUnknownName
    eInUse := oexB_lookup c_eInUse
    xInUse := eO_ok c_xInUse
    iInUse := eO_ok c_iInUse
    tInUse := of_decide_eq_true c_tInUse
    xfInUse := xfB_ok c_xfInUse
    eInvalidIndex := oexB_value c_eInvalidIndex
    xInvalidIndex := eO_ok c_xInvalidIndex
    iInvalidIndex := eO_ok c_iInvalidIndex
    tInvalidIndex := of_decide_eq_true c_tInvalidIndex
    xfInvalidIndex := xfB_ok c_xfInvalidIndex
    eBroken := oexB_arith c_eBroken
    xBroken := eO_ok c_xBroken
    iBroken := eO_ok c_iBroken
    tBroken := of_decide_eq_true c_tBroken
    xfBroken := xfB_ok c_xfBroken
    eTooGreat := oexB_arith c_eTooGreat
    xTooGreat := eO_ok c_xTooGreat
    iTooGreat := eO_ok c_iTooGreat
    tTooGreat := of_decide_eq_true c_tTooGreat
    xfTooGreat := xfB_ok c_xfTooGreat
    ecUnknownName := excCB_ok c_ecUnknownName
    ecInUse := excCB_ok c_ecInUse
    ecInvalidIndex := excCB_ok c_ecInvalidIndex
    ecBroken := excCB_ok c_ecBroken
    ecTooGreat := excCB_ok c_ecTooGreat
    ecNothingToUndo := excCB_ok c_ecNothingToUndo
    nuExc := c_nuExc
    nuHd := c_nuHd
    nuTy := of_decide_eq_true c_nuTy
    nuEx := of_decide_eq_true c_nuEx
    nuSub := of_decide_eq_true c_nuSub
    amUnknownName := of_decide_eq_true c_amUnknownName
    amInUse := of_decide_eq_true c_amInUse
    amInvalidIndex := of_decide_eq_true c_amInvalidIndex
    amBroken := of_decide_eq_true c_amBroken
    amTooGreat := of_decide_eq_true c_amTooGreat
    amNothingToUndo := of_decide_eq_true c_amNothingToUndo
    amKeyError := of_decide_eq_true c_amKeyError
    amZeroDivisionError := of_decide_eq_true c_amZeroDivisionError
    isUnknownName := of_decide_eq_true c_isUnknownName
    isInUse := of_decide_eq_true c_isInUse
    isInvalidIndex := of_decide_eq_true c_isInvalidIndex
    isBroken := of_decide_eq_true c_isBroken
    isTooGreat := of_decide_eq_true c_isTooGreat
    isNothingToUndo := of_decide_eq_true c_isNothingToUndo
    isYard := of_decide_eq_true c_isYard
    yNone := of_decide_eq_true c_yNone
    yList := of_decide_eq_true c_yList
    yStr := of_decide_eq_true c_yStr
    yInt := of_decide_eq_true c_yInt
    kWORDS := wordsB_ok c_kWORDS
  }, PySem.W.mg_of X G (eO_ok c_LAWg), fn_at kf e 63 rfl, ⟨of_decide_eq_true c_coA, of_decide_eq_true c_coL, of_decide_eq_true c_coR⟩, ⟨hdB_ok X c_hdA, hdB_ok X c_hdL, hdB_ok X c_hdR⟩, ⟨Option.isNone_iff_eq_none.mp c_noA, Option.isNone_iff_eq_none.mp c_noL, Option.isNone_iff_eq_none.mp c_noR⟩⟩
end SK
set_option maxHeartbeats 0
/-! SkQ2: the head, its words. -/
namespace SK
open PySem PySem.Spec PyProof.Rows L2
theorem ob_eq (s : PySem.W.SharedT) : ob s = hookA.obs s.abs := obsA_eq (HandSHeadRun.getT_eq s)
end SK
set_option maxHeartbeats 2000000
/-! SkQ3: law, called at the end of the top: the script locked, the tables empty. -/
namespace SK
open PySem PySem.Spec PyProof.Rows L2
instance tbDec (b : Addr) : Decidable (Tb b) := inferInstanceAs (Decidable (b = 1255 ∨ b = 1269 ∨ b = 1283))
abbrev scrO (vs : List Value) : Obj := { cls := .type "list", data := .seq vs.toArray }
abbrev tblO : Obj := { cls := .none, data := .fields #[] }
/-- what is tracked when law is called -/
def Hp0 (K : PySem.W.Frag) (a : Addr) (vs : List Value) (ns : List Int) : Hp := fun b => if Tb b then some (.tbl #[]) else if b = a ∧ (K.lookup a).isNone = true then some (.frz (scrO vs) (.lst (ns.map V.int))) else none
section
variable {K : PySem.W.Frag} {a b : Addr} {vs : List Value} {ns : List Int} {u : HO} {h : Heap} {o : Obj}
theorem hp0_some (e : Hp0 K a vs ns b = some u) : (Tb b ∧ u = .tbl #[]) ∨ (b = a ∧ K.lookup a = none ∧ u = .frz (scrO vs) (.lst (ns.map V.int))) := by
  unfold Hp0 at e
  split at e
  · rename_i t
    exact .inl ⟨t, (Option.some.inj e).symm⟩
  · split at e
    · rename_i t
      exact .inr ⟨t.1, Option.isNone_iff_eq_none.mp t.2, (Option.some.inj e).symm⟩
    · cases e
theorem hp0_tb (t : Tb b) : Hp0 K a vs ns b = some (.tbl #[]) := if_pos t
theorem hp0_free (hT : ∀ b, Tb b → h.get? b = some tblO) (ha : h.get? a = some (scrO vs)) (e : h.get? b = some o) (h1 : ∀ z n, o.data ≠ .seq z n) (h2 : o.data ≠ .fields #[]) : Hp0 K a vs ns b = none := by
  cases q : Hp0 K a vs ns b with
  | none => rfl
  | some u =>
    rcases hp0_some q with ⟨t, _⟩ | ⟨rfl, _, _⟩
    · rw [hT b t] at e
      cases e
      exact absurd rfl h2
    · rw [ha] at e
      cases e
      exact absurd rfl (h1 _ _)
end
section
variable {P : Program} {w : World} {K : PySem.W.Frag} {mg mb : Str → Option Value} {k : Nat} {fa a : Addr} {sp : Sp} {s₁ : Shared} {vs : List Value} {ns : List Int}
theorem law_run (KX : K.In s₁.heap) (G : s₁.heap.Ns mainGlobals mg) (B : s₁.heap.Ns builtinsNs mb) (hbb : ∀ x : Str, x ≠ "__name__" → mb x = bootBuiltins x) (lim : s₁.heap.NoLimit) (hg : s₁.gens = #[])
    (hT : ∀ b, Tb b → s₁.heap.get? b = some tblO) (nT : ∀ b, Tb b → K.lookup b = none) (cs : List (Addr × Addr)) (csT : ∀ p ∈ cs, Tb p.2) (csU : ∀ b, Tb b → ∃ c, (c, b) ∈ cs) (C : ∀ p ∈ cs, PySem.W.CodeHd s₁.heap p.1 p.2)
    (hbm : ∃ (bm : Addr) (ob : Obj), mg "__builtins__" = some (.ref bm) ∧ bm ≠ builtinsNs ∧ s₁.heap.get? bm = some ob ∧ ob.cls = .type "module" ∧ ob.dict = some builtinsNs ∧ ob.data = .plain)
    (ha : s₁.heap.get? a = some (scrO vs)) (hi : IntsAre vs ns) (hl : ns.length ≤ sizeLine) (hr : Room k callerA)
    (F : ∀ base : Heap, K.In base → base.Ns mainGlobals mg → (∀ p ∈ cs, LamX.TabB base mg p.1 p.2) → FnG P w K mg base (L2N.CX P w) k fa sp)
    (hsp : ∀ H : Hp, (∀ b, Tb b → H b = some (.tbl #[])) → SqL K H a (ns.map V.int) → sp [.ref a] H (fun v _ => v = .bl true) fun _ _ _ => False) :
    codeAny (model P w) callerA (.call (.ref fa) ⟨[.ref a], []⟩) (fun r s' => r = .ok (.ret (.bool true)) ∧ OldK s₁.heap s'.heap ∧ s'.os = s₁.os ∧ AllBare s'.gens) s₁ := by
  have rv := vals_ints hi
  have aT : ¬ Tb a := fun z => by
    have e := (hT a z).symm.trans ha
    cases e
  -- what is tracked stands there
  have ok : HOk P w (Hp0 K a vs ns) s₁.heap := fun b u e => by
    rcases hp0_some e with ⟨t, rfl⟩ | ⟨rfl, _, rfl⟩
    · exact hT b t
    · exact ⟨ha, by rw [List.length_map]; exact hl, vs, _, rv, ha⟩
  have sq : SqL K (Hp0 K a vs ns) a (ns.map V.int) := by
    cases hk : K.lookup a with
    | none => exact .inl (.inr ⟨scrO vs, by unfold Hp0; rw [if_neg aT, if_pos ⟨rfl, by rw [hk]; rfl⟩]⟩)
    | some o =>
      have e := (KX a o hk).symm.trans ha
      cases e
      exact .inr ⟨_, vs.toArray, _, hk, rfl, rfl, rfl, by rw [List.size_toArray, hi.length]; exact hl, rv⟩
  have free : ∀ {b : Addr} {o : Obj}, s₁.heap.get? b = some o → (∀ z n, o.data ≠ .seq z n) → o.data ≠ .fields #[] → Hp0 K a vs ns b = none := fun e h1 h2 => hp0_free hT ha e h1 h2
  have nsK : ∀ {b : Addr} {m : Str → Option Value}, s₁.heap.Ns b m → (hidT s₁.heap (Hp0 K a vs ns)).Ns b m := fun ⟨o, es, ep, e, d, r⟩ => ⟨o, es, ep, hidT_get e (free e (fun z n q => by rw [d] at q; cases q) fun q => by rw [d] at q; cases q), d, r⟩
  have hKb : K.In (hidT s₁.heap (Hp0 K a vs ns)) := fun b o e => hidT_get (KX b o e) (by
    cases q : Hp0 K a vs ns b with
    | none => rfl
    | some u =>
      rcases hp0_some q with ⟨t, _⟩ | ⟨rfl, z, _⟩
      · rw [nT b t] at e; cases e
      · rw [z] at e; cases e)
  have md : L2.Mod K mg (hidT s₁.heap (Hp0 K a vs ns)) := ⟨hKb, nsK G, ⟨mb, nsK B, hbb⟩, let ⟨mc, h1, h2⟩ := lim; ⟨mc, nsK h1, h2⟩⟩
  have tb : ∀ p ∈ cs, LamX.TabB (hidT s₁.heap (Hp0 K a vs ns)) mg p.1 p.2 := fun p hp => by
    obtain ⟨bm, ob, b1, b2, b3, b4, b5, b6⟩ := hbm
    obtain ⟨oc, us, file, tf, flags, tg, inF, text, tt, e1, r1, r2, r3, r4⟩ := C p hp
    have hP := hT p.2 (csT p hp)
    have fb := free b3 (fun z n q => by rw [b6] at q; cases q) (fun q => by rw [b6] at q; cases q)
    refine ⟨⟨oc, us, file, tf, flags, tg, inF, text, tt, hidT_get e1 (free e1 (fun z n q => by rw [r2] at q; cases q) fun q => ?_), r1, r2, r3, r4⟩, ⟨bm, ob, b1, b2, fun q => ?_, fun q => ?_, hidT_get b3 fb, b4, b5, b6⟩, fun q => ?_⟩
    · rw [r2] at q
      cases q
      cases r3
    · obtain ⟨o, es, ep, e, d, _⟩ := G
      rw [q, e] at b3
      cases b3
      rw [d] at b6
      cases b6
    · rw [q, hP] at b3
      cases b3
      cases b6
    · obtain ⟨o, es, ep, e, d, _⟩ := G
      rw [q, hP] at e
      cases e
      cases d
  have e0 : Env0 P w K mg (hidT s₁.heap (Hp0 K a vs ns)) callerA [] s₁ (Hp0 K a vs ns) := ⟨rfl, md, fun b o e => of_hidT e, Nat.le_of_eq (hidT_size _ _), trivial, fun b hb => (nomatch (show b ∈ ([] : List Addr) from hb)), ok, .of_eq hg⟩
  refine codeAny_mono (F _ hKb (nsK G) tb callerA [] s₁ (Hp0 K a vs ns) [.ref a] [.ref a] _ _ hr rfl e0 (.cons rfl .nil) (hsp _ (fun b t => hp0_tb t) sq)) fun r s' hq => ?_
  cases r with
  | error e => exact (noXN [] _ s₁ e s' hq).elim
  | ok fl =>
    cases fl with
    | next => exact False.elim hq
    | brk => exact False.elim hq
    | cont => exact False.elim hq
    | ret u =>
      obtain ⟨v, H', os, bare, un, ok', rr, q⟩ := hq
      obtain rfl : v = .bl true := q
      obtain rfl : u = Value.bool true := rr
      have old : ∀ b o, ¬ Tb b → s₁.heap.get? b = some o → s'.heap.get? b = some o := fun b o nb e => by
        cases q : Hp0 K a vs ns b with
        | none => exact un.keep b o e q (fun z => (nomatch (show b ∈ ([] : List Addr) from z))) (fun z => nomatch z)
        | some u =>
          rcases hp0_some q with ⟨t, _⟩ | ⟨rfl, _, rfl⟩
          · exact absurd t nb
          · rw [ha] at e
            cases e
            exact (ok' b _ (un.frzs b _ _ q)).1
      have grew : ∀ b, Tb b → ∃ more : Array Value, s'.heap.get? b = some { cls := .none, data := .fields more } := fun b t => by
        obtain ⟨more, z⟩ := un.tbls b #[] (hp0_tb t)
        exact ⟨_, ok' b _ z⟩
      refine ⟨rfl, ⟨fun b o e => ?_, fun b o e => ?_⟩, os, bare⟩
      · by_cases t : Tb b
        · obtain ⟨more, hm⟩ := grew b t
          obtain ⟨c, hc⟩ := csU b t
          rw [hT b t] at e
          cases e
          exact .inr (.inl ⟨((C _ hc).tab (hT b t)).isCodeTable, rfl, #[], more, rfl, by rw [Array.empty_append]; exact hm⟩)
        · exact .inl (old b o t e)
      · by_cases t : Tb b
        · obtain ⟨more, hm⟩ := grew b t
          exact ⟨_, hm⟩
        · exact ⟨o, old b o t e⟩
end
end SK
set_option maxHeartbeats 0
/-! SkQ4: the end. -/
namespace SK
open PySem PySem.W PySem.Calls PyProof.Rows L2
theorem map3 {α β γ δ : Type} {x : Option α} {f : α → β} {g : α → γ} {k : α → δ} {b : β} {c : γ} {d : δ} (h1 : x.map f = some b) (h2 : x.map g = some c) (h3 : x.map k = some d) : x.map (fun s => (f s, g s, k s)) = some (b, c, d) := by
  cases x with
  | none => cases h1
  | some s =>
    have e1 : f s = b := Option.some.inj h1
    have e2 : g s = c := Option.some.inj h2
    have e3 : k s = d := Option.some.inj h3
    show some (f s, g s, k s) = _
    rw [e1, e2, e3]
theorem run (w : World) : HandSHeadRun.RunEq R qv hookA ob 20000 loose w := fun os => map3 (run1 w os) (run2 w os) (run3 w os)
theorem law_at (w : World) {s₁ : Shared} {mg mb : Str → Option Value} {fa a : Addr} {vs : List Value} {ns : List Int} (Y : hookA.says w s₁.heap) (G : s₁.heap.Ns mainGlobals mg) (B : s₁.heap.Ns builtinsNs mb) (hbb : ∀ x : Str, x ≠ "__name__" → mb x = bootBuiltins x) (lim : s₁.heap.NoLimit) (hg : s₁.gens = #[])
    (hbm : ∃ (bm : Addr) (ob : Obj), mg "__builtins__" = some (.ref bm) ∧ bm ≠ builtinsNs ∧ s₁.heap.get? bm = some ob ∧ ob.cls = .type "module" ∧ ob.dict = some builtinsNs ∧ ob.data = .plain) (hmg : mg "law" = some (.ref fa))
    (ha : s₁.heap.get? a = some (scrO vs)) (hi : IntsAre vs ns) (hl : ns.length ≤ 63) (hb : ∀ z ∈ ns, Builtin.Int.intBits z ≤ 1048576) :
    codeAny (model R.prog w) callerA (.call (.ref fa) ⟨[.ref a], []⟩) (fun r s' => r = .ok (.ret (.bool true)) ∧ OldK s₁.heap s'.heap ∧ s'.os = s₁.os ∧ AllBare s'.gens) s₁ := by
  obtain ⟨K, KX, c⟩ := Y
  obtain ⟨T, hlaw, hF, ⟨o1, o2, o3⟩, ⟨d1, d2, d3⟩, ⟨n1, n2, n3⟩⟩ := tx_of KX G c
  obtain ⟨_, _, t1, t2, t3⟩ := c
  have e := hmg.symm.trans hlaw
  cases e
  refine law_run (K := K) (k := 23) (sp := spLaw K) (cs := [(1259, 1255), (1273, 1269), (1287, 1283)]) KX G B hbb lim hg (fun b t => ?_) (fun b t => ?_) (fun p hp => ?_) (fun b t => ?_) (fun p hp => ?_) hbm ha hi (Nat.le_trans hl (by rw [sizeLine_eq]; omega)) ⟨rfl, by decide, by decide⟩ (fun base hK hG tb => ?_) (fun H hH hS => ?_)
  · rcases t with rfl | rfl | rfl
    · exact t1
    · exact t2
    · exact t3
  · rcases t with rfl | rfl | rfl
    · exact n1
    · exact n2
    · exact n3
  · simp only [List.mem_cons, List.not_mem_nil, or_false] at hp
    rcases hp with rfl | rfl | rfl
    · exact .inl rfl
    · exact .inr (.inl rfl)
    · exact .inr (.inr rfl)
  · rcases t with rfl | rfl | rfl
    · exact ⟨1259, by simp⟩
    · exact ⟨1273, by simp⟩
    · exact ⟨1287, by simp⟩
  · simp only [List.mem_cons, List.not_mem_nil, or_false] at hp
    rcases hp with rfl | rfl | rfl
    · exact d1
    · exact d2
    · exact d3
  · exact k_law T ⟨o1, o2, o3, tb (1259, 1255) (by simp), tb (1273, 1269) (by simp), tb (1287, 1283) (by simp)⟩ hF
  · refine ⟨a, ns, rfl, hS, hl, hb, fun p hp => ?_, fun _ => rfl⟩
    have ht : Tb p.1 := by
      simp only [T3, List.mem_cons, List.not_mem_nil, or_false] at hp
      rcases hp with rfl | rfl | rfl
      · exact .inl rfl
      · exact .inr (.inl rfl)
      · exact .inr (.inr rfl)
    exact LamX.TabS.nil (hH _ ht)
end SK
open PySem PySem.W PySem.Calls PyProof.Rows
set_option maxRecDepth 100000 in
set_option maxHeartbeats 0 in
theorem PySem.Challenge.cw_swapkinds_k68_whole_libraries_tried_holds : PySem.Challenge.rw_swapkinds_k68_whole_libraries_tried.Holds := by
  w_on; o_law
  refine HandSHeadRun.head_any (r := SK.R) (q := SK.qv) (H := SK.hookA) (ob := SK.ob) (M := 20000) (loose := SK.loose) (d := HandSHeadRun.topDef SK.R.prog 109) (kwd := []) SK.ob_eq
    (by kernel_rfl) (fun s => by kernel_rfl) SK.run (by kernel_rfl) (by kernel_rfl) (by kernel_rfl) (by rfl) (by first | assumption | decide +kernel) (by decide +kernel) ⟨rfl, rfl, rfl, rfl, rfl, by decide +kernel⟩ ?hw ?hc
  case hw => w_witness2
  case hc =>
    refine Att.attach_callB (l := PySem.Challenge.rw_swapkinds_k68_whole_libraries_tried) (n := 63) rfl (by kernel_rfl) fun w s₀ s₁ mg mb fa o pm cd doc a vs ns G Y ho hd hcd hmg hobj hints hlen hbits hg => ?_
    have hmg' : mg ("law" : PySem.Str) = some (.ref fa) := by
      have e : (HandSHeadRun.topDef SK.R.prog 109).name = ("law" : PySem.Str) := by kernel_rfl
      rw [← e]
      exact hmg
    exact SK.law_at w Y G.T.g G.T.b G.T.builtins G.T.nolimit hg G.T.bmain hmg' hobj hints hlen hbits
