import PyProof.Rows.All
import Wide.All
import OpenK.AllK
import Wide.FinOn
import PySem.Challenge.RW_ok0072_01
open PySem PySem.W PyProof.Rows
set_option Elab.async false
set_option maxRecDepth 100000
set_option maxHeartbeats 80000000
namespace Mine
inductive V where
  | none | bool (b : Bool) | int (i : Int) | str (s : Str) | ref (a : Nat) | top (a : Addr) | ty (n : String) | bi (n : String)
  deriving DecidableEq
def fnT : List (Addr × Str × Nat × Option Nat) := [
  (35, ("GapText.__init__" : Str), 2, (some 0 : Option Nat)),
  (42, ("GapText.size" : Str), 2, (some 1 : Option Nat)),
  (49, ("GapText.code" : Str), 2, (some 2 : Option Nat)),
  (56, ("GapText.codes" : Str), 2, (some 3 : Option Nat)),
  (63, ("GapText.move_gap" : Str), 2, (some 4 : Option Nat)),
  (70, ("GapText.widen_gap" : Str), 2, (some 5 : Option Nat)),
  (77, ("GapText.insert" : Str), 2, (some 6 : Option Nat)),
  (84, ("GapText.delete" : Str), 2, (some 7 : Option Nat)),
  (126, ("Symbol.__init__" : Str), 4, (some 0 : Option Nat)),
  (175, ("Text.__init__" : Str), 8, (some 0 : Option Nat)),
  (196, ("Subr.__init__" : Str), 9, (some 0 : Option Nat)),
  (245, ("is_whole" : Str), 11, (none : Option Nat)),
  (252, ("boolean" : Str), 12, (none : Option Nat)),
  (266, ("Marker.__init__" : Str), 14, (some 0 : Option Nat)),
  (306, ("Markers.__init__" : Str), 15, (some 0 : Option Nat)),
  (313, ("Markers.numbers" : Str), 15, (some 1 : Option Nat)),
  (320, ("Markers.put" : Str), 15, (some 2 : Option Nat)),
  (327, ("Markers.drop" : Str), 15, (some 3 : Option Nat)),
  (341, ("Markers.inserted" : Str), 15, (some 5 : Option Nat)),
  (348, ("Markers.deleted" : Str), 15, (some 6 : Option Nat)),
  (377, ("Buffer.__init__" : Str), 17, (some 0 : Option Nat)),
  (398, ("Buffer.begin" : Str), 17, (some 3 : Option Nat)),
  (405, ("Buffer.end" : Str), 17, (some 4 : Option Nat)),
  (412, ("Buffer.size" : Str), 17, (some 5 : Option Nat)),
  (419, ("Buffer.code_at" : Str), 17, (some 6 : Option Nat)),
  (426, ("Buffer.codes" : Str), 17, (some 7 : Option Nat)),
  (433, ("Buffer.goto" : Str), 17, (some 8 : Option Nat)),
  (447, ("Buffer.is_modified" : Str), 17, (some 10 : Option Nat)),
  (454, ("Buffer.set_modified" : Str), 17, (some 11 : Option Nat)),
  (461, ("Buffer.touch" : Str), 17, (some 12 : Option Nat)),
  (480, ("LispSignal.__init__" : Str), 19, (some 0 : Option Nat)),
  (493, ("need_writable" : Str), 21, (none : Option Nat)),
  (500, ("reached" : Str), 22, (none : Option Nat)),
  (507, ("tell_ahead" : Str), 23, (none : Option Nat)),
  (514, ("tell_behind" : Str), 24, (none : Option Nat)),
  (521, ("text_out" : Str), 25, (none : Option Nat)),
  (528, ("text_in" : Str), 26, (none : Option Nat)),
  (535, ("hung_out" : Str), 27, (none : Option Nat)),
  (542, ("hung_in" : Str), 28, (none : Option Nat)),
  (549, ("put_in" : Str), 29, (none : Option Nat)),
  (557, ("insert" : Str), 30, (none : Option Nat)),
  (564, ("delete" : Str), 31, (none : Option Nat)),
  (571, ("erase" : Str), 32, (none : Option Nat)),
  (578, ("narrow" : Str), 34, (none : Option Nat)),
  (585, ("widen" : Str), 35, (none : Option Nat)),
  (592, ("number_of" : Str), 37, (none : Option Nat)),
  (599, ("set_marker" : Str), 39, (none : Option Nat)),
  (606, ("char_after" : Str), 42, (none : Option Nat)),
  (613, ("char_before" : Str), 43, (none : Option Nat)),
  (620, ("is_bob" : Str), 44, (none : Option Nat)),
  (627, ("is_eob" : Str), 45, (none : Option Nat)),
  (634, ("is_bol" : Str), 46, (none : Option Nat)),
  (641, ("is_eol" : Str), 47, (none : Option Nat)),
  (648, ("substring" : Str), 48, (none : Option Nat)),
  (655, ("buffer_here" : Str), 52, (none : Option Nat)),
  (662, ("sign_in" : Str), 53, (none : Option Nat)),
  (669, ("marker_in" : Str), 54, (none : Option Nat)),
  (676, ("place_in" : Str), 55, (none : Option Nat)),
  (683, ("own_point" : Str), 56, (none : Option Nat)),
  (690, ("point_min" : Str), 57, (none : Option Nat)),
  (697, ("point_max" : Str), 58, (none : Option Nat)),
  (704, ("goto_char" : Str), 59, (none : Option Nat)),
  (711, ("code_or_nil" : Str), 60, (none : Option Nat)),
  (718, ("char_after_place" : Str), 61, (none : Option Nat)),
  (725, ("char_before_place" : Str), 62, (none : Option Nat)),
  (732, ("following_char" : Str), 63, (none : Option Nat)),
  (739, ("preceding_char" : Str), 64, (none : Option Nat)),
  (746, ("at_begin" : Str), 65, (none : Option Nat)),
  (753, ("at_end" : Str), 66, (none : Option Nat)),
  (760, ("at_line_begin" : Str), 67, (none : Option Nat)),
  (767, ("at_line_end" : Str), 68, (none : Option Nat)),
  (774, ("insert_all" : Str), 69, (none : Option Nat)),
  (781, ("insert_char" : Str), 70, (none : Option Nat)),
  (788, ("delete_region" : Str), 71, (none : Option Nat)),
  (795, ("erase_buffer" : Str), 72, (none : Option Nat)),
  (802, ("buffer_substring" : Str), 73, (none : Option Nat)),
  (809, ("buffer_string" : Str), 74, (none : Option Nat)),
  (816, ("buffer_size" : Str), 75, (none : Option Nat)),
  (823, ("narrow_to_region" : Str), 76, (none : Option Nat)),
  (830, ("widen_all" : Str), 77, (none : Option Nat)),
  (837, ("was_changed" : Str), 78, (none : Option Nat)),
  (844, ("tell_changed" : Str), 79, (none : Option Nat)),
  (851, ("new_marker" : Str), 80, (none : Option Nat)),
  (858, ("point_marker" : Str), 81, (none : Option Nat)),
  (865, ("copy_marker" : Str), 82, (none : Option Nat)),
  (872, ("put_marker" : Str), 83, (none : Option Nat)),
  (879, ("marker_position" : Str), 84, (none : Option Nat)),
  (886, ("marker_buffer" : Str), 85, (none : Option Nat)),
  (893, ("marker_advances" : Str), 86, (none : Option Nat)),
  (900, ("set_marker_advances" : Str), 87, (none : Option Nat)),
  (907, ("place_rows" : Str), 88, (none : Option Nat)),
  (914, ("text_rows" : Str), 89, (none : Option Nat)),
  (921, ("marker_rows" : Str), 90, (none : Option Nat)),
  (928, ("buffer_prims" : Str), 91, (none : Option Nat)),
  (942, ("Cells.__init__" : Str), 94, (some 0 : Option Nat)),
  (1026, ("Obarray.__init__" : Str), 96, (some 0 : Option Nat)),
  (1033, ("Obarray.intern" : Str), 96, (some 1 : Option Nat)),
  (1047, ("Obarray.fresh" : Str), 96, (some 3 : Option Nat)),
  (1103, ("Variables.__init__" : Str), 98, (some 0 : Option Nat)),
  (1166, ("Locals.__init__" : Str), 99, (some 0 : Option Nat)),
  (1222, ("World.__init__" : Str), 101, (some 0 : Option Nat)),
  (1243, ("World.fresh_marker" : Str), 101, (some 3 : Option Nat)),
  (1264, ("_law_draw" : Str), 103, (none : Option Nat)),
  (1271, ("_law_told" : Str), 104, (none : Option Nat)),
  (1278, ("_law_place" : Str), 105, (none : Option Nat)),
  (1285, ("_law_sign" : Str), 106, (none : Option Nat)),
  (1292, ("_law_put" : Str), 107, (none : Option Nat)),
  (1299, ("_law_cut" : Str), 108, (none : Option Nat)),
  (1306, ("_law_region" : Str), 109, (none : Option Nat)),
  (1313, ("_law_marked" : Str), 110, (none : Option Nat)),
  (1320, ("_law_simple" : Str), 111, (none : Option Nat)),
  (1325, ("_law_is_right" : Str), 112, (none : Option Nat)),
  (1330, ("law" : Str), 113, (none : Option Nat))]
def glT : List (Str × V) := [
  (("GapText" : Str), V.top 108),
  (("Symbol" : Str), V.top 129),
  (("NIL" : Str), V.top 135),
  (("T" : Str), V.top 138),
  (("Text" : Str), V.top 178),
  (("Subr" : Str), V.top 199),
  (("Opaque" : Str), V.top 234),
  (("is_whole" : Str), V.top 245),
  (("boolean" : Str), V.top 252),
  (("Marker" : Str), V.top 290),
  (("Markers" : Str), V.top 358),
  (("Buffer" : Str), V.top 464),
  (("LispSignal" : Str), V.top 483),
  (("need_writable" : Str), V.top 493),
  (("reached" : Str), V.top 500),
  (("tell_ahead" : Str), V.top 507),
  (("tell_behind" : Str), V.top 514),
  (("text_out" : Str), V.top 521),
  (("text_in" : Str), V.top 528),
  (("hung_out" : Str), V.top 535),
  (("hung_in" : Str), V.top 542),
  (("put_in" : Str), V.top 549),
  (("insert" : Str), V.top 557),
  (("delete" : Str), V.top 564),
  (("erase" : Str), V.top 571),
  (("narrow" : Str), V.top 578),
  (("widen" : Str), V.top 585),
  (("number_of" : Str), V.top 592),
  (("set_marker" : Str), V.top 599),
  (("NEWLINE" : Str), V.int (10)),
  (("char_after" : Str), V.top 606),
  (("char_before" : Str), V.top 613),
  (("is_bob" : Str), V.top 620),
  (("is_eob" : Str), V.top 627),
  (("is_bol" : Str), V.top 634),
  (("is_eol" : Str), V.top 641),
  (("substring" : Str), V.top 648),
  (("NOTHING" : Str), V.int (-1)),
  (("BEHIND_SIGNS" : Str), V.int (1114112)),
  (("buffer_here" : Str), V.top 655),
  (("sign_in" : Str), V.top 662),
  (("marker_in" : Str), V.top 669),
  (("place_in" : Str), V.top 676),
  (("own_point" : Str), V.top 683),
  (("point_min" : Str), V.top 690),
  (("point_max" : Str), V.top 697),
  (("goto_char" : Str), V.top 704),
  (("code_or_nil" : Str), V.top 711),
  (("char_after_place" : Str), V.top 718),
  (("char_before_place" : Str), V.top 725),
  (("following_char" : Str), V.top 732),
  (("preceding_char" : Str), V.top 739),
  (("at_begin" : Str), V.top 746),
  (("at_end" : Str), V.top 753),
  (("at_line_begin" : Str), V.top 760),
  (("at_line_end" : Str), V.top 767),
  (("insert_all" : Str), V.top 774),
  (("insert_char" : Str), V.top 781),
  (("delete_region" : Str), V.top 788),
  (("erase_buffer" : Str), V.top 795),
  (("buffer_substring" : Str), V.top 802),
  (("buffer_string" : Str), V.top 809),
  (("buffer_size" : Str), V.top 816),
  (("narrow_to_region" : Str), V.top 823),
  (("widen_all" : Str), V.top 830),
  (("was_changed" : Str), V.top 837),
  (("tell_changed" : Str), V.top 844),
  (("new_marker" : Str), V.top 851),
  (("point_marker" : Str), V.top 858),
  (("copy_marker" : Str), V.top 865),
  (("put_marker" : Str), V.top 872),
  (("marker_position" : Str), V.top 879),
  (("marker_buffer" : Str), V.top 886),
  (("marker_advances" : Str), V.top 893),
  (("set_marker_advances" : Str), V.top 900),
  (("place_rows" : Str), V.top 907),
  (("text_rows" : Str), V.top 914),
  (("marker_rows" : Str), V.top 921),
  (("buffer_prims" : Str), V.top 928),
  (("Cells" : Str), V.top 1008),
  (("Obarray" : Str), V.top 1085),
  (("Variables" : Str), V.top 1148),
  (("Locals" : Str), V.top 1204),
  (("World" : Str), V.top 1253),
  (("_law_draw" : Str), V.top 1264),
  (("_law_told" : Str), V.top 1271),
  (("_law_place" : Str), V.top 1278),
  (("_law_sign" : Str), V.top 1285),
  (("_law_put" : Str), V.top 1292),
  (("_law_cut" : Str), V.top 1299),
  (("_law_region" : Str), V.top 1306),
  (("_law_marked" : Str), V.top 1313),
  (("_law_simple" : Str), V.top 1320),
  (("_law_is_right" : Str), V.top 1325),
  (("law" : Str), V.top 1330)]
def clT : List (Addr × List Str × List (Str × Addr)) := [
  (108, [("room" : Str), ("cells" : Str), ("gap_start" : Str), ("gap_end" : Str)], [(("__init__" : Str), 35), (("size" : Str), 42), (("code" : Str), 49), (("codes" : Str), 56), (("move_gap" : Str), 63), (("widen_gap" : Str), 70), (("insert" : Str), 77), (("delete" : Str), 84)]),
  (129, [("number" : Str), ("name" : Str)], [(("__init__" : Str), 126)]),
  (178, [("codes" : Str), ("spans" : Str)], [(("__init__" : Str), 175)]),
  (199, [("number" : Str), ("name" : Str), ("least" : Str), ("most" : Str), ("deed" : Str)], [(("__init__" : Str), 196)]),
  (234, [], []),
  (290, [("number" : Str), ("advances" : Str), ("buffer" : Str), ("position" : Str)], [(("__init__" : Str), 266)]),
  (358, [("rows" : Str)], [(("__init__" : Str), 306), (("numbers" : Str), 313), (("put" : Str), 320), (("drop" : Str), 327), (("inserted" : Str), 341), (("deleted" : Str), 348)]),
  (464, [("number" : Str), ("name" : Str), ("text" : Str), ("markers" : Str), ("point" : Str), ("begv" : Str), ("zv" : Str), ("mark" : Str), ("is_live" : Str), ("is_read_only" : Str), ("ticks" : Str), ("codes_ticks" : Str), ("saved_ticks" : Str), ("listeners" : Str), ("undo" : Str), ("props" : Str), ("overlays" : Str), ("locals" : Str), ("syntax" : Str), ("file" : Str)], [(("__init__" : Str), 377), (("begin" : Str), 398), (("end" : Str), 405), (("size" : Str), 412), (("code_at" : Str), 419), (("codes" : Str), 426), (("goto" : Str), 433), (("is_modified" : Str), 447), (("set_modified" : Str), 454), (("touch" : Str), 461)]),
  (1008, [("functions" : Str), ("plists" : Str)], [(("__init__" : Str), 942)]),
  (1085, [("rows" : Str), ("names" : Str)], [(("__init__" : Str), 1026), (("intern" : Str), 1033), (("fresh" : Str), 1047)]),
  (1148, [("defaults" : Str), ("automatic" : Str), ("permanent" : Str)], [(("__init__" : Str), 1103)]),
  (1204, [("values" : Str)], [(("__init__" : Str), 1166)]),
  (1253, [("obarray" : Str), ("cells" : Str), ("variables" : Str), ("bare" : Str), ("current" : Str), ("machine" : Str), ("last_marker" : Str)], [(("__init__" : Str), 1222), (("fresh_marker" : Str), 1243)])]
def kAddrs : List Addr := [3, 135, 138, 134, 137, 168, 370, 550, 35, 42, 49, 56, 63, 70, 77, 84, 126, 175, 196, 245, 252, 266, 306, 313, 320, 327, 341, 348, 377, 398, 405, 412, 419, 426, 433, 447, 454, 461, 480, 493, 500, 507, 514, 521, 528, 535, 542, 549, 557, 564, 571, 578, 585, 592, 599, 606, 613, 620, 627, 634, 641, 648, 655, 662, 669, 676, 683, 690, 697, 704, 711, 718, 725, 732, 739, 746, 753, 760, 767, 774, 781, 788, 795, 802, 809, 816, 823, 830, 837, 844, 851, 858, 865, 872, 879, 886, 893, 900, 907, 914, 921, 928, 942, 1026, 1033, 1047, 1103, 1166, 1222, 1243, 1264, 1271, 1278, 1285, 1292, 1299, 1306, 1313, 1320, 1325, 1330, 34, 41, 48, 55, 62, 69, 76, 83, 125, 174, 195, 244, 251, 265, 305, 312, 319, 326, 340, 347, 376, 397, 404, 411, 418, 425, 432, 446, 453, 460, 479, 492, 499, 506, 513, 520, 527, 534, 541, 548, 556, 563, 570, 577, 584, 591, 598, 605, 612, 619, 626, 633, 640, 647, 654, 661, 668, 675, 682, 689, 696, 703, 710, 717, 724, 731, 738, 745, 752, 759, 766, 773, 780, 787, 794, 801, 808, 815, 822, 829, 836, 843, 850, 857, 864, 871, 878, 885, 892, 899, 906, 913, 920, 927, 941, 1025, 1032, 1046, 1102, 1165, 1221, 1242, 1263, 1270, 1277, 1284, 1291, 1298, 1305, 1312, 1319, 1324, 1329, 108, 129, 178, 199, 234, 290, 358, 464, 483, 1008, 1085, 1148, 1204, 1253, 107, 128, 177, 198, 233, 289, 357, 463, 482, 1007, 1084, 1147, 1203, 1252]
def frag (h : Heap) : Frag := kAddrs.filterMap fun a => (h.get? a).map fun o => (a, o)
theorem frag_in (h : Heap) : (frag h).In h := by
  intro a o
  unfold frag
  generalize kAddrs = l
  induction l with
  | nil => intro e; cases e
  | cons b r ih =>
    intro e
    rw [List.filterMap_cons] at e
    cases q : h.get? b with
    | none => rw [q] at e; exact ih e
    | some x =>
      rw [q] at e
      simp only [Option.map_some, List.lookup_cons] at e
      split at e
      · rename_i z; cases e; rw [beq_iff_eq.mp z]; exact q
      · exact ih e
def valOk (v : V) (w : Value) : Bool := match v, w with
  | .top a, .ref b => a == b
  | .int i, .int j _ => i == j
  | .none, .none => true
  | .bool a, .bool b => a == b
  | _, _ => false
def glOk (K : Frag) : Bool := glT.all fun (x, v) => match nsIn K mainGlobals x with
  | some (some w) => valOk v w
  | _ => false
def biNames : List Str := ["len", "list", "min", "max", "sorted", "isinstance", "abs", "dict", "range", "int", "bool"]
def biOk (K : Frag) : Bool := biNames.all fun x => nsIn K mainGlobals x == some none
def clOk (K : Frag) : Bool := clT.all fun (C, fs, ms) => (makesIn K C && hasDictIn K C && plainGet K C "" && findIn K (.ref C) "__setattr__" == some (some (.builtin "object.__setattr__")) && plainOver K C && keepIn K (.ref C) &&
  (fs.all fun f => findIn K (.ref C) f == some none && takerIn K C f == some none) && (ms.all fun (m, a) => findIn K (.ref C) m == some (some (.ref a)) && isFn K (.ref a)))
def nilOk (K : Frag) : Bool := ([135, 138] : List Addr).all fun a => match K.lookup a with
  | some o => o.cls == .ref 129
  | none => false
def fnOk (K : Frag) : Bool := fnT.all fun (f, q, _, _) => keepIn K (.ref f) && match K.lookup f with
  | some ⟨_, _, .func fd, _⟩ => fd.qualname == q && fd.globals == mainGlobals && fd.closure.isEmpty && fd.builtins == builtinsNs && codeIn K fd.code q
  | _ => false
def fnData (K : Frag) (f : Addr) : Option (Arguments × FuncBody × Scope) := match K.lookup f with
  | some ⟨_, _, .func fd, _⟩ => some (fd.params, fd.body, fd.scope)
  | _ => none
def stmtAt (i : Nat) (j : Option Nat) : Option Stmt := match PySem.Challenge.pw_ok0072_01.main.body[i]?, j with
  | some s, none => some s
  | some (.ClassDef _ _ _ b _ _ _ _ _ _ _), some j => b[j]?
  | _, _ => none
def partsOf : Stmt → Option (Arguments × FuncBody × Scope)
  | .FunctionDef _ a b _ _ _ sc _ _ _ => some (a, .stmts b, sc)
  | _ => none
def instDict (K : Frag) (a : Addr) : Bool := match K.lookup a with
  | some o => o.cls == .ref 129 && notCls o && (match o.dict with | some dx => (K.lookup dx).isSome | none => false)
  | none => false
def isoOk (K : Frag) : Bool := (clT.all fun c => plainGet K c.1 "__class__" && hasDictIn K c.1 && findIn K (.ref c.1) "__class__" == some (some (.builtin "object.__class__")) && mroIn K c.1 (.type "object") == some true && kin_notT K c.1 "int" && kin_notT K c.1 "bool" &&
  (([178, 290] : List Addr).all fun C => if c.1 = C then isIn K (.ref c.1) C else kin_not K c.1 C)) && specialIn K (.builtin "object.__class__") "__get__" == some (some (.builtin "getset_descriptor.__get__")) && takesIn K (.builtin "object.__class__") == some true &&
  isNotIn K "int" 178 && isNotIn K "int" 290 && instDict K 135 && instDict K 138
def isStrKey (e : DictEntry) : Bool := match e.key with
  | .str _ _ => true
  | _ => false
def excMro : List Value := [.type "Exception", .type "BaseException", .type "object"]
def excOk (K : Frag) : Bool := (match K.lookup 483 with
  | some ⟨.type t, _, .cls cd, ⟨[_, _, _, _, some (.builtin nw), _]⟩⟩ => t == "type" && nw == "Exception.__new__" && cd.mro == .ref 483 :: excMro && cd.ns == 482 && cd.hasDict && !cd.hasDel
  | _ => false) && (match K.lookup 482 with
  | some ⟨_, _, .dict es _, _⟩ => es.all isStrKey && nsFind es "__init__" == some (.ref 480) && (["__setattr__", "symbol", "data", "__getattribute__", "__getattr__"] : List Str).all fun x => nsFind es x == none
  | _ => false) && (match K.lookup 480 with
  | some o => o.cls == .type "function"
  | none => false) && keepIn K (.ref 483)
def dsT : List (Addr × List V) := [(175, [.none]), (377, [.int 8]), (557, [.bool false])]
def valsOk : List V → List Value → Bool
  | [], [] => true
  | v :: vs, x :: xs => valOk v x && valsOk vs xs
  | _, _ => false
def dflOk (K : Frag) : Bool := fnT.all fun x => match K.lookup x.1 with
  | some ⟨_, _, .func fd, _⟩ => (match dsT.lookup x.1, fd.defaults with
    | none, .none => true
    | some ds, .ref t => (match K.lookup t with
      | some ⟨_, _, .seq its _, _⟩ => valsOk ds its.toList
      | _ => false)
    | _, _ => false)
  | _ => false
def topIn (K : Frag) (v : V) : Bool := match v with
  | .top a => (K.lookup a).isSome
  | _ => true
def noList (K : Frag) : Bool := K.all fun p => p.2.cls != .type "list"
def chk (K : Frag) : (Bool × Bool × Bool) × (Bool × Bool × Bool) × (Bool × Bool × Bool) × List (Option (Arguments × FuncBody × Scope)) := ((glOk K, biOk K, glT.all fun p => topIn K p.2), (clOk K, nilOk K && noList K, fnOk K), (isoOk K, excOk K, dflOk K), fnT.map fun x => fnData K x.1)
def good : (Bool × Bool × Bool) × (Bool × Bool × Bool) × (Bool × Bool × Bool) × List (Option (Arguments × FuncBody × Scope)) := ((true, true, true), (true, true, true), (true, true, true), fnT.map fun x => (stmtAt x.2.2.1 x.2.2.2).bind partsOf)
def hook : Hook := ⟨_, fun s => chk (frag s.heap), fun _ => good, fun _ h => ∃ K : Frag, K.In h ∧ chk K = good, fun _ s e => ⟨frag s.heap, frag_in _, e⟩, fun _ _ _ ⟨K, X, e⟩ k => ⟨K, X.keeps k, e⟩⟩
/-! ## The mini evaluator: values, heap, outcomes -/
abbrev Loc := List (Str × V)
inductive MO where
  | list (xs : List V)
  | src (xs : List V)
  | tup (xs : List V)
  | dict (es : List (V × V))
  | inst (C : Addr) (fs : Loc)
abbrev Mem := List MO
inductive Out (α : Type) where
  | ok (a : α)
  | exc (s d : V)
def Mx (α : Type) := Mem → Option (Out α × Mem)
def ret {α : Type} (a : α) : Mx α := fun μ => some (.ok a, μ)
def bnd {α β : Type} (m : Mx α) (f : α → Mx β) : Mx β := fun μ => match m μ with
  | none => none
  | some (.exc s d, μ') => some (.exc s d, μ')
  | some (.ok a, μ') => f a μ'
def stuck {α : Type} : Mx α := fun _ => none
def opt {α : Type} (x : Option α) : Mx α := fun μ => x.map fun a => (.ok a, μ)
def getM (a : Nat) : Mx MO := fun μ => (μ[a]?).map fun o => (.ok o, μ)
/-- a key of the kind of those that stand -/
def kindKey (k : V) (es : List (V × V)) : Bool := match k, es with
  | .str _, [] | .int _, [] | .str _, (.str _, _) :: _ | .int _, (.int _, _) :: _ => true
  | _, _ => false
def big : Nat := 1000
def szOk : MO → Bool
  | .list xs => decide (xs.length ≤ big)
  | .src xs => decide (xs.length ≤ big)
  | .tup xs => decide (xs.length ≤ big)
  | .dict es => decide (es.length ≤ big)
  | .inst _ fs => decide (fs.length ≤ big)
def setM (a : Nat) (o : MO) : Mx Unit := fun μ => if szOk o ∧ a ≠ 0 then some (.ok (), List.set μ a o) else none
def newM (o : MO) : Mx V := fun μ => if szOk o then some (.ok (.ref μ.length), μ ++ [o]) else none

def setL (x : Str) (v : V) : Loc → Loc
  | [] => [(x, v)]
  | (y, w) :: r => if y = x then (x, v) :: r else (y, w) :: setL x v r
def setD (k v : V) : List (V × V) → List (V × V)
  | [] => [(k, v)]
  | (y, w) :: r => if y = k then (y, v) :: r else (y, w) :: setD k v r
def getD (k : V) : List (V × V) → Option V
  | [] => none
  | (y, w) :: r => if y = k then some w else getD k r
def dropD (k : V) : List (V × V) → List (V × V)
  | [] => []
  | (y, w) :: r => if y = k then r else (y, w) :: dropD k r
def isKey : V → Bool
  | .int _ | .str _ => true
  | _ => false
def small (i : Int) : Bool := decide (i.natAbs < 2 ^ 40)

/-- the items of a list -/
def listOfM (v : V) : Mx (Nat × List V) := match v with
  | .ref a => bnd (getM a) fun
    | .list xs => ret (a, xs)
    | _ => stuck
  | _ => stuck
/-- does the list still stand as it stood -/
def sameM (a : Nat) (xs : List V) : Mx Unit := bnd (getM a) fun
  | .list ys => if ys = xs then ret () else stuck
  | _ => stuck

def boolM (v : V) : Mx Bool := match v with
  | .bool b => ret b
  | _ => stuck
/-- two objects of the top that are known to be no tuples -/
def topPair (a b : Addr) : Bool := [135, 138].contains a && [135, 138].contains b
/-- is one value the other -/
def isV : V → V → Option Bool
  | .none, .none => some true
  | .bool a, .bool b => some (a == b)
  | .top a, .top b => if a = b then some true else if topPair a b then some false else none
  | .none, .ref _ | .none, .top _ | .none, .int _ | .none, .bool _ => some false
  | .ref _, .none | .top _, .none | .int _, .none | .bool _, .none => some false
  | .int _, .ref _ | .int _, .top _ | .bool _, .ref _ | .bool _, .top _ => some false
  | .ref _, .int _ | .top _, .int _ | .ref _, .bool _ | .top _, .bool _ => some false
  | _, _ => none
/-- == of plain values -/
def eqV : V → V → Option Bool
  | .none, .none => some true
  | .bool a, .bool b => some (a == b)
  | .int a, .int b => some (a == b)
  | .str a, .str b => some (a == b)
  | .int _, .none | .none, .int _ => some false
  | _, _ => none
/-- a value as plain data: lists to a depth -/
def toPys (f : V → Option PyData) : List V → Option (List PyData)
  | [] => some []
  | v :: r => match f v, toPys f r with
    | some d, some ds => some (d :: ds)
    | _, _ => none
def toPy : Nat → Mem → V → Option PyData
  | _, _, .none => some .none
  | _, _, .bool b => some (.bool b)
  | _, _, .int i => some (.int i)
  | _, _, .str x => if PyData.strOk x then some (.str x) else none
  | n + 1, μ, .ref a => match μ[a]? with
    | some (.list xs) => (toPys (toPy n μ) xs).map .list
    | _ => none
  | _, _, _ => none
def lenDiff (μ : Mem) (a b : V) : Bool := match a, b with
  | .ref x, .ref y => match μ[x]?, μ[y]? with
    | some (.list xs), some (.list ys) => xs.length != ys.length
    | _, _ => false
  | _, _ => false
def eqM (a b : V) : Mx Bool := fun μ => if lenDiff μ a b then some (.ok false, μ) else match toPy 3 μ a, toPy 3 μ b with
  | some x, some y => some (.ok (PyData.eqv x y), μ)
  | _, _ => none
/-- one object or two: two of the ledger's are told apart where the first is no tuple -/
def isM (a b : V) : Mx Bool := match a, b with
  | .ref x, .ref y => if x = y then ret true else bnd (getM x) fun
    | .tup _ => stuck
    | _ => bnd (getM y) fun _ => ret false
  | .ref x, .top _ => bnd (getM x) fun
    | .tup _ => stuck
    | _ => ret false
  | .top _, .ref x => bnd (getM x) fun
    | .tup _ => stuck
    | _ => ret false
  | a, b => opt (isV a b)

def cmpM (op : CmpOp) (a b : V) : Mx Bool := match op with
  | .Eq => eqM a b
  | .NotEq => bnd (eqM a b) fun r => ret (!r)
  | .Lt => match a, b with | .int i, .int j => ret (decide (i < j)) | _, _ => stuck
  | .LtE => match a, b with | .int i, .int j => ret (decide (i ≤ j)) | _, _ => stuck
  | .Gt => match a, b with | .int i, .int j => ret (decide (i > j)) | _, _ => stuck
  | .GtE => match a, b with | .int i, .int j => ret (decide (i ≥ j)) | _, _ => stuck
  | .Is => isM a b
  | .IsNot => bnd (isM a b) fun r => ret (!r)
  | .In => match b with
    | .ref x => bnd (getM x) fun
      | .tup xs => match xs with
        | [p, q] => match eqV a p, eqV a q with
          | some r, some r2 => ret (r || r2)
          | _, _ => stuck
        | _ => stuck
      | .dict es => if kindKey a es then ret (getD a es).isSome else stuck
      | _ => stuck
    | _ => stuck
  | .NotIn => stuck

def binM (op : Operator) (a b : V) : Mx V := match op, a, b with
  | .Add, .int i, .int j => ret (.int (i + j))
  | .Sub, .int i, .int j => ret (.int (i - j))
  | .Mult, .int i, .int j => if small i && small j then ret (.int (i * j)) else stuck
  | .FloorDiv, .int i, .int j => if 0 < j ∧ j < 1000000000 then ret (.int (i.fdiv j)) else stuck
  | .Mod, .int i, .int j => if 0 < j ∧ j < 1000000000 then ret (.int (i.fmod j)) else stuck
  | .Add, .ref x, .ref y => bnd (listOfM (.ref x)) fun p => bnd (listOfM (.ref y)) fun q => newM (.list (p.2 ++ q.2))
  | .Mult, .ref x, .int n => bnd (listOfM (.ref x)) fun p => match p.2 with
    | [v] => if n.toNat ≤ big ∧ small n then newM (.list (List.replicate n.toNat v)) else stuck
    | _ => stuck
  | _, _, _ => stuck

/-- a bound of a slice: none stands for the end -/
def cutAt (n : Nat) (i : Int) : Nat := if i < 0 then (i + n).toNat else min i.toNat n
def sliceOf (xs : List V) (l u : V) : Option (Nat × Nat) := match l, u with
  | .none, .none => some (0, xs.length)
  | .int i, .none => if small i then some (cutAt xs.length i, xs.length) else none
  | .none, .int j => if small j then some (0, cutAt xs.length j) else none
  | .int i, .int j => if small i && small j then some (cutAt xs.length i, cutAt xs.length j) else none
  | _, _ => none
/-- the items of a list, or of the list that was handed in -/
def srcOfM (v : V) : Mx (List V) := match v with
  | .ref a => bnd (getM a) fun
    | .list xs => ret xs
    | .src xs => ret xs
    | _ => stuck
  | _ => stuck
def sliceM (o l u : V) : Mx V := bnd (srcOfM o) fun p => bnd (opt (sliceOf p l u)) fun q => newM (.list ((p.take q.2).drop q.1))
def putSliceM (o l u v : V) : Mx Unit := bnd (listOfM o) fun p => bnd (listOfM v) fun w => bnd (opt (sliceOf p.2 l u)) fun q =>
  if p.1 ≠ w.1 then setM p.1 (.list (p.2.take q.1 ++ w.2 ++ p.2.drop (max q.1 q.2))) else stuck
def itemM (o i : V) : Mx V := match o with
  | .ref x => bnd (getM x) fun
    | .list xs => match i with | .int k => if 0 ≤ k ∧ small k then opt xs[k.toNat]? else stuck | _ => stuck
    | .tup xs => match i with | .int k => if 0 ≤ k ∧ small k then opt xs[k.toNat]? else stuck | _ => stuck
    | .dict es => if isKey i then opt (getD i es) else stuck
    | _ => stuck
  | _ => stuck
def putItemM (o i v : V) : Mx Unit := match o with
  | .ref x => bnd (getM x) fun
    | .list xs => match i with | .int k => if 0 ≤ k ∧ small k ∧ k.toNat < xs.length then setM x (.list (xs.set k.toNat v)) else stuck | _ => stuck
    | .dict es => if kindKey i es then setM x (.dict (setD i v es)) else stuck
    | _ => stuck
  | _ => stuck

def fieldsT (C : Addr) : List Str := (clT.lookup C).elim [] (·.1)
def methT (C : Addr) (x : Str) : Option Addr := (clT.lookup C).bind fun c => c.2.lookup x
def plainV : V → Bool
  | .bi _ => false
  | _ => true
def attrM (o : V) (x : Str) : Mx V := match o with
  | .ref a => bnd (getM a) fun
    | .inst C fs => if (fieldsT C).contains x then (match fs.lookup x with | some v => if plainV v then ret v else stuck | none => stuck) else stuck
    | _ => stuck
  | _ => stuck
def putAttrM (o : V) (x : Str) (v : V) : Mx Unit := match o with
  | .ref a => bnd (getM a) fun
    | .inst C fs => if (fieldsT C).contains x then setM a (.inst C (setL x v fs)) else stuck
    | _ => stuck
  | _ => stuck

def isInstM (v c : V) : Mx Bool := match c, v with
  | .ty "int", .int _ | .ty "int", .bool _ | .ty "bool", .bool _ => ret true
  | .ty "int", .top a | .ty "bool", .top a => if a = 135 ∨ a = 138 then ret false else stuck
  | .ty "bool", .int _ => ret false
  | .ty "int", .ref a | .ty "bool", .ref a => bnd (getM a) fun
    | .inst C _ => if (clT.lookup C).isSome then ret false else stuck
    | _ => stuck
  | .top 178, .ref a => bnd (getM a) fun
    | .inst C _ => if (clT.lookup C).isSome then ret (C == 178) else stuck
    | _ => stuck
  | .top 290, .ref a => bnd (getM a) fun
    | .inst C _ => if (clT.lookup C).isSome then ret (C == 290) else stuck
    | _ => stuck
  | .top 178, .top a | .top 290, .top a => if a = 135 ∨ a = 138 then ret false else stuck
  | .top 178, .int _ | .top 290, .int _ => ret false
  | _, _ => stuck

def keyInts : List (V × V) → Option (List Int)
  | [] => some []
  | (.int i, _) :: r => (keyInts r).map (i :: ·)
  | _ => none
def insI (i : Int) : List Int → List Int
  | [] => [i]
  | j :: r => if i ≤ j then i :: j :: r else j :: insI i r
def sortI : List Int → List Int
  | [] => []
  | i :: r => insI i (sortI r)
def pairsD : Mem → List V → Option (List (V × V))
  | _, [] => some []
  | μ, .ref a :: r => match μ[a]? with
    | some (.tup [.str k, v]) => (pairsD μ r).map ((.str k, v) :: ·)
    | _ => none
  | _, _ => none

def callB (b : String) (args : List V) : Mx V := match b, args with
  | "len", [.ref a] => bnd (getM a) fun
    | .list xs => ret (.int xs.length)
    | .tup xs => ret (.int xs.length)
    | _ => stuck
  | "min", [.int i, .int j] => ret (.int (if j < i then j else i))
  | "max", [.int i, .int j] => ret (.int (if i < j then j else i))
  | "abs", [.int i] => ret (.int i.natAbs)
  | "isinstance", [v, c] => bnd (isInstM v c) fun r => ret (.bool r)
  | "list.append", [.ref a, v] => bnd (getM a) fun
    | .list xs => bnd (setM a (.list (xs ++ [v]))) fun _ => ret .none
    | _ => stuck
  | "dict.get", [.ref a, k, d] => bnd (getM a) fun
    | .dict es => if kindKey k es then ret ((getD k es).getD d) else stuck
    | _ => stuck
  | "sorted", [.ref a] => bnd (getM a) fun
    | .dict es => match keyInts es with
      | some is => if is.length < 64 then newM (.list ((sortI is).map .int)) else stuck
      | none => stuck
    | _ => stuck
  | _, _ => stuck
def callT (t : String) (args : List V) : Mx V := match t, args with
  | "list", [v] => bnd (listOfM v) fun p => newM (.list p.2)
  | "dict", [v] => bnd (listOfM v) fun p => fun μ => match pairsD μ p.2 with
    | some es => if (es.map (·.1)).Nodup then newM (.dict es) μ else none
    | none => none
  | _, _ => stuck

abbrev CallT := V → List V → Mx V
def callV (C : CallT) (f : V) (args : List V) : Mx V := match f with
  | .bi b => callB b args
  | .ty t => callT t args
  | f => C f args
/-- what a method's name is on an object: a def of the class, or a built-in -/
def selM (o : V) (x : Str) : Mx V := match o with
  | .ref a => bnd (getM a) fun
    | .inst K fs => match methT K x, fs.lookup x with
      | some f, none => ret (.top f)
      | _, _ => stuck
    | .list _ => if x = "append" then ret (.bi "list.append") else stuck
    | .dict _ => if x = "get" then ret (.bi "dict.get") else stuck
    | _ => stuck
  | _ => stuck
/-- what is called: a built-in, a type, a def or a class of the tables -/
def mayCall : V → Bool
  | .bi _ | .ty _ => true
  | .top a => (fnT.lookup a).isSome || (clT.lookup a).isSome
  | _ => false
/-- no exception leaves -/
def noExc {α : Type} (f : Mx α) : Mx α := fun μ => match f μ with
  | some (.ok a, μ') => some (.ok a, μ')
  | _ => none
/-- a base whose attribute is plainly looked up -/
def plainBase : Expr → Bool
  | .Call (.Name _ _) [] [] _ => false
  | _ => true

def biT : List (Str × V) := [("len", .bi "len"), ("list", .ty "list"), ("min", .bi "min"), ("max", .bi "max"), ("sorted", .bi "sorted"), ("isinstance", .bi "isinstance"), ("abs", .bi "abs"), ("dict", .ty "dict"), ("range", .ty "range"), ("int", .ty "int"), ("bool", .ty "bool")]
def globV (x : Str) : Option V := match glT.lookup x with
  | some v => some v
  | none => biT.lookup x

/-- what a frame's names are -/
abbrev Kinds := List (Str × NameKind)
def badNames : List Str := ["__debug__", "__classdict__"]
def namesOk (k : Kinds) : Bool := k.all fun p => !badNames.contains p.1
def nameV (k : Kinds) (ρ : Loc) (x : Str) : Option V := match k.lookup x with
  | some .local | some .cell | some .free => ρ.lookup x
  | some .globalImplicit => globV x
  | _ => none
/-- a comprehension's names: its own, and cells of the function about it -/
def compOk (k : Kinds) (ρ : Loc) (sc : Scope) (x : Str) : Bool := namesOk sc.names && sc.names.lookup x == some .local && sc.kind == .function &&
  sc.names.all fun q => q.2 != .cell && (q.2 != .local || sc.names.lookup q.1 == some .local) && (q.2 != .free || (k.lookup q.1 == some .cell && (ρ.lookup q.1).isSome))
def constV : Const → Option V
  | .none => some .none
  | .bool b => some (.bool b)
  | .int i => some (.int i)
  | .str s => some (.str s)
  | _ => none

/-- a loop over what a list held, the list unchanged at each turn -/
def eachM {σ : Type} (a : Nat) (all : List V) (turn : V → σ → Mx (Option V × σ)) : List V → σ → Mx (Option V × σ)
  | [], s => bnd (sameM a all) fun _ => ret (none, s)
  | v :: r, s => bnd (sameM a all) fun _ => bnd (turn v s) fun
    | (some w, s') => ret (some w, s')
    | (none, s') => eachM a all turn r s'
def rangeM {σ : Type} (turn : V → σ → Mx (Option V × σ)) : Nat → Nat → σ → Mx (Option V × σ)
  | 0, _, s => ret (none, s)
  | n + 1, i, s => bnd (turn (.int i) s) fun
    | (some w, s') => ret (some w, s')
    | (none, s') => rangeM turn n (i + 1) s'
def compM (a : Nat) (all : List V) (elt : V → Mx V) : List V → Mx (List V)
  | [] => bnd (sameM a all) fun _ => ret []
  | v :: r => bnd (sameM a all) fun _ => bnd (elt v) fun w => bnd (compM a all elt r) fun ws => ret (w :: ws)

def notSet : Expr → Bool
  | .Set _ _ _ => false
  | _ => true
def noStar : List Expr → Bool
  | [] => true
  | .Starred _ _ :: _ => false
  | _ :: r => noStar r
/-- the keys of a dict display: written texts -/
def keysOf : List (Option Expr) → Option (List V)
  | [] => some []
  | some (.Constant (.str x) _ _) :: r => (keysOf r).map (.str x :: ·)
  | _ => none

mutual
def evE (C : CallT) (k : Kinds) (ρ : Loc) : Expr → Mx V
  | .Constant c _ _ => opt (constV c)
  | .Name x _ => opt (nameV k ρ x)
  | .BoolOp op vs _ => evBool C k ρ op vs
  | .BinOp l op r _ => bnd (evE C k ρ l) fun a => bnd (evE C k ρ r) fun b => binM op a b
  | .UnaryOp .Not x _ => bnd (evE C k ρ x) fun v => bnd (boolM v) fun b => ret (.bool (!b))
  | .UnaryOp .USub x _ => bnd (evE C k ρ x) fun
    | .int i => ret (.int (-i))
    | _ => stuck
  | .IfExp t b o _ => bnd (evT C k ρ t (evE C k ρ t)) fun c => if c then evE C k ρ b else evE C k ρ o
  | .Dict ks vs _ => match keysOf ks with
    | some kv => if kv.Nodup ∧ kv.length = vs.length ∧ kv.length ≤ 15 then bnd (noExc (evEs C k ρ vs)) fun ws => newM (.dict (kv.zip ws)) else stuck
    | none => stuck
  | .List es _ => if noStar es then bnd (evEs C k ρ es) fun vs => newM (.list vs) else stuck
  | .Tuple es _ _ => if noStar es then bnd (evEs C k ρ es) fun vs => newM (.tup vs) else stuck
  | .ListComp e [⟨.Name x _, it, [], 0⟩] sc _ => if compOk k ρ sc x && notSet it then bnd (evE C k ρ it) fun v => bnd (listOfM v) fun p =>
      bnd (compM p.1 p.2 (fun w => noExc (evE C sc.names ((x, w) :: ρ.filter fun q => sc.names.lookup q.1 == some .free) e)) p.2) fun ws => newM (.list ws) else stuck
  | .Compare l [op] [r] _ => bnd (evE C k ρ l) fun a => bnd (evE C k ρ r) fun b => bnd (cmpM op a b) fun c => ret (.bool c)
  | .Call (.Attribute o x ap) as [] pos => if ap.endLine == pos.line && as.length < 30 && plainBase o && noStar as then bnd (evE C k ρ o) fun ov => bnd (selM ov x) fun f => if mayCall f then bnd (evEs C k ρ as) fun vs => callV C f (ov :: vs) else stuck else stuck
  | .Call f as [] _ => if noStar as then bnd (evE C k ρ f) fun fv => if mayCall fv then bnd (evEs C k ρ as) fun vs => callV C fv vs else stuck else stuck
  | .Attribute o x _ => if plainBase o then bnd (evE C k ρ o) fun ov => attrM ov x else stuck
  | .Subscript o (.Slice l u none _) _ => bnd (evE C k ρ o) fun ov => bnd (evO C k ρ l) fun lv => bnd (evO C k ρ u) fun uv => sliceM ov lv uv
  | .Subscript o i _ => bnd (evE C k ρ o) fun ov => bnd (evE C k ρ i) fun iv => itemM ov iv
  | _ => stuck
def evT (C : CallT) (k : Kinds) (ρ : Loc) : Expr → Mx V → Mx Bool
  | .UnaryOp .Not x _, _ => bnd (evT C k ρ x (evE C k ρ x)) fun b => ret (!b)
  | .BoolOp op vs _, _ => evAll C k ρ op vs
  | .IfExp t b o _, _ => bnd (evT C k ρ t (evE C k ρ t)) fun c => if c then evT C k ρ b (evE C k ρ b) else evT C k ρ o (evE C k ρ o)
  | .Compare l ops rs _, _ => if ops.length = rs.length then bnd (evE C k ρ l) fun a => evCmp C k ρ a ops rs else stuck
  | _, whole => bnd whole boolM
def evAll (C : CallT) (k : Kinds) (ρ : Loc) (op : BoolOp) : List Expr → Mx Bool
  | [] => ret (op == .And)
  | x :: r => bnd (evT C k ρ x (evE C k ρ x)) fun b => match op, b with
    | .And, false => ret false
    | .Or, true => ret true
    | _, _ => evAll C k ρ op r
def evBool (C : CallT) (k : Kinds) (ρ : Loc) (op : BoolOp) : List Expr → Mx V
  | [] => stuck
  | [x] => evE C k ρ x
  | x :: r => bnd (evE C k ρ x) fun v => bnd (boolM v) fun b => match op, b with
    | .And, false => ret v
    | .Or, true => ret v
    | _, _ => evBool C k ρ op r
def evCmp (C : CallT) (k : Kinds) (ρ : Loc) (a : V) : List CmpOp → List Expr → Mx Bool
  | [op], [r] => bnd (evE C k ρ r) fun b => cmpM op a b
  | op :: ops, r :: rs => bnd (evE C k ρ r) fun b => bnd (cmpM op a b) fun c => if c then evCmp C k ρ b ops rs else ret false
  | _, _ => stuck
def evEs (C : CallT) (k : Kinds) (ρ : Loc) : List Expr → Mx (List V)
  | [] => ret []
  | e :: r => bnd (evE C k ρ e) fun v => bnd (evEs C k ρ r) fun vs => ret (v :: vs)
def evO (C : CallT) (k : Kinds) (ρ : Loc) : Option Expr → Mx V
  | none => ret .none
  | some e => evE C k ρ e
end

/-- no comprehension stands there -/
def notComp : Expr → Bool
  | .ListComp .. | .SetComp .. | .DictComp .. => false
  | _ => true
/-- one store -/
def asg (C : CallT) (k : Kinds) : Expr → V → Loc → Mx Loc
  | .Name x _, v, ρ => if k.lookup x = some .local then ret (setL x v ρ) else stuck
  | .Attribute o x _, v, ρ => bnd (evE C k ρ o) fun ov => bnd (putAttrM ov x v) fun _ => ret ρ
  | .Subscript o (.Slice l u none _) _, v, ρ => bnd (evE C k ρ o) fun ov => bnd (evO C k ρ l) fun lv => bnd (evO C k ρ u) fun uv => bnd (putSliceM ov lv uv v) fun _ => ret ρ
  | .Subscript o i _, v, ρ => bnd (evE C k ρ o) fun ov => bnd (evE C k ρ i) fun iv => bnd (putItemM ov iv v) fun _ => ret ρ
  | _, _, _ => stuck
def asgs (C : CallT) (k : Kinds) : List Expr → List V → Loc → Mx Loc
  | [], [], ρ => ret ρ
  | t :: ts, v :: vs, ρ => bnd (asg C k t v ρ) fun ρ' => asgs C k ts vs ρ'
  | _, _, _ => stuck
def tupM (v : V) : Mx (List V) := match v with
  | .ref a => bnd (getM a) fun
    | .tup xs => ret xs
    | _ => stuck
  | _ => stuck
def asgT (C : CallT) (k : Kinds) : Expr → V → Loc → Mx Loc
  | .Tuple ts _ _, v, ρ => if noStar ts then bnd (tupM v) fun xs => if xs.length = ts.length then asgs C k ts xs ρ else stuck else stuck
  | t, v, ρ => asg C k t v ρ

/-- a comprehension as the value of a plain name: it is stored before its own names go -/
def useOk (k : Kinds) (t e : Expr) : Bool := match t, e with
  | .Name x px, .ListComp a b sc p => k.lookup x == some .local && px.line == p.line && !(sc.names.any fun q => q.1 == x && (q.2 == .local || q.2 == .cell))
  | _, _ => false
/-- a loop over a range: its bound -/
def rangeOf (k : Kinds) (ρ : Loc) : Expr → Option Expr
  | .Call (.Name x _) [e] [] _ => if nameV k ρ x = some (.ty "range") then some e else none
  | _ => none
def localNames (k : Kinds) : List Expr → Bool
  | [] => true
  | .Name id _ :: r => k.lookup id == some .local && localNames k r
  | _ :: r => localNames k r
def namesIn (line : Nat) : List Expr → List Str
  | [] => []
  | .Name id pos :: r => if pos.line == line then id :: namesIn line r else namesIn line r
  | _ :: r => namesIn line r
def anyStar : List Expr → Bool
  | [] => false
  | .Starred _ _ :: _ => true
  | _ :: r => anyStar r
/-- are the stores of a tuple of names turned about: none is not told -/
def swapT (k : Kinds) (t v : Expr) : Option (Option (List Str)) := match t, v with
  | .Tuple ts _ _, .Tuple vs _ _ => if localNames k ts then
      (if !(ts.length == 2 || ts.length == 3) || vs.length != ts.length then some none
      else if anyStar vs then some none
      else
        let names := namesIn ((ts.head?.map (·.pos.line)).getD 0) ts
        if names.length != ts.length || names.eraseDups.length != names.length then some none
        else if vs.all (foldedForSure 8) then some none
        else if vs.all (constantsAlone 8) then none else some (some names)) else none
  | .List _ _, _ => none
  | _, _ => some none
def nst : List Str → List V → Loc → Loc
  | x :: xs, v :: vs, ρ => nst xs vs (setL x v ρ)
  | _, _, ρ => ρ
def asgW (C : CallT) (k : Kinds) (t : Expr) (v : V) (ρ : Loc) : Option (List Str) → Mx Loc
  | none => asgT C k t v ρ
  | some names => bnd (tupM v) fun xs => if xs.length = names.length then ret (nst names.reverse xs.reverse ρ) else stuck

mutual
def exS (C : CallT) (k : Kinds) : Stmt → Loc → Mx (Option V × Loc)
  | .Expr e _, ρ => if notComp e then bnd (evE C k ρ e) fun _ => ret (none, ρ) else stuck
  | .Return (some e) _, ρ => bnd (evE C k ρ e) fun v => ret (some v, ρ)
  | .Return none _, ρ => ret (some .none, ρ)
  | .Assign [t] e _, ρ => match swapT k t e with
    | some sw => if notComp e || useOk k t e then bnd (evE C k ρ e) fun v => bnd (asgW C k t v ρ sw) fun ρ' => ret (none, ρ') else stuck
    | none => stuck
  | .If t b o _, ρ => bnd (evT C k ρ t (evE C k ρ t)) fun c => if c then exSs C k b ρ else exSs C k o ρ
  | .For t it b [] _, ρ => match rangeOf k ρ it with
    | some e => bnd (evE C k ρ e) fun
      | .int n => if small n then rangeM (fun v ρ' => bnd (asgT C k t v ρ') fun ρ'' => exSs C k b ρ'') n.toNat 0 ρ else stuck
      | _ => stuck
    | none => if notSet it then bnd (evE C k ρ it) fun v => bnd (listOfM v) fun p =>
      eachM p.1 p.2 (fun v ρ' => bnd (asgT C k t v ρ') fun ρ'' => exSs C k b ρ'') p.2 ρ else stuck
  | .Raise (some (.Call (.Name x _) as [] _)) none _, ρ =>
    if nameV k ρ x = some (.top 483) ∧ noStar as = true then bnd (evEs C k ρ as) fun
      | [s, d] => fun μ => some (.exc s d, μ)
      | _ => stuck
    else stuck
  | .Try b [.ExceptHandler (some (.Name x _)) (some n) [.Return (some (.List [.Constant (.str tx) _ _, .Attribute (.Name n' _) at' _] _)) _] _] [] [] _, ρ =>
    if k.lookup x = some .globalImplicit ∧ globV x = some (.top 483) ∧ k.lookup n = some .local ∧ n' = n ∧ at' = "symbol" then fun μ => match exSs C k b ρ μ with
      | none => none
      | some (.ok r, μ') => some (.ok r, μ')
      | some (.exc s _, μ') => if plainV s then (bnd (newM (.list [.str tx, s])) fun v => ret (some v, [])) μ' else none
    else stuck
  | _, _ => stuck
def exSs (C : CallT) (k : Kinds) : List Stmt → Loc → Mx (Option V × Loc)
  | [], ρ => ret (none, ρ)
  | s :: r, ρ => bnd (exS C k s ρ) fun
    | (some v, ρ') => ret (some v, ρ')
    | (none, ρ') => exSs C k r ρ'
end

structure Fn where
  ps : List Str
  ds : List V
  body : List Stmt
  names : Kinds
def fnAt (f : Addr) : Option Fn := (fnT.lookup f).bind fun x => (stmtAt x.2.1 x.2.2).bind fun
  | .FunctionDef _ a b _ _ _ sc _ _ _ => some ⟨a.args.map (·.arg), (dsT.lookup f).getD [], b, sc.names⟩
  | _ => none
def bindA (ps : List Str) (ds args : List V) : Option Loc :=
  if args.length ≤ ps.length ∧ ps.length - args.length ≤ ds.length then some (ps.zip (args ++ ds.drop (ds.length - (ps.length - args.length)))) else none
def runFn (C : CallT) (f : Fn) (args : List V) : Mx V := bnd (opt (bindA f.ps f.ds args)) fun ρ => bnd (exSs C f.names f.body ρ) fun r => ret (r.1.getD .none)
def callN : Nat → CallT
  | 0 => fun _ _ => stuck
  | n + 1 => fun f args => match f with
    | .top a => match fnAt a with
      | some fn => runFn (callN n) fn args
      | none => if a = 483 then stuck else match methT a "__init__" with
        | some i => bnd (newM (.inst a [])) fun v => bnd (callN n (.top i) (v :: args)) fun
          | .none => ret v
          | _ => stuck
        | none => stuck
    | _ => stuck
/-! ## What the mini evaluator's values and objects are in the model's heap -/
abbrev NsMap := Str → Option Value
structure CO where
  x : Addr
  o : Obj
  d : Option (Addr × Obj)
def CO.ents (c : CO) : List (Addr × Obj) := (c.x, c.o) :: c.d.toList
def nw (cs : List CO) : List (Addr × Obj) := cs.flatMap CO.ents
def adr (cs : List CO) : List Addr := cs.map (·.x)

inductive VR (K : Frag) (as : List Addr) : V → Value → Prop
  | none : VR K as .none .none
  | bool {b} : VR K as (.bool b) (.bool b)
  | int {i t} : VR K as (.int i) (.int i t)
  | str {x t} : VR K as (.str x) (.str x t)
  | ref {a x} : as[a]? = some x → VR K as (.ref a) (.ref x)
  | top {a} : (K.lookup a).isSome = true → VR K as (.top a) (.ref a)
  | ty {n} : VR K as (.ty n) (.type n)
  | bi {n} : VR K as (.bi n) (.builtin n)
def Grow (as bs : List Addr) : Prop := ∃ r, bs = as ++ r
theorem Grow.refl (as : List Addr) : Grow as as := ⟨[], (List.append_nil _).symm⟩
theorem Grow.trans {a b c : List Addr} (x : Grow a b) (y : Grow b c) : Grow a c := by
  obtain ⟨r, rfl⟩ := x; obtain ⟨q, rfl⟩ := y; exact ⟨r ++ q, by rw [List.append_assoc]⟩
theorem Grow.at {a b : List Addr} (x : Grow a b) {i : Nat} {v : Addr} (h : a[i]? = some v) : b[i]? = some v := by
  obtain ⟨r, rfl⟩ := x
  rw [List.getElem?_append_left (by exact (List.getElem?_eq_some_iff.mp h).1)]; exact h
theorem VR.grow {K : Frag} {a b : List Addr} {v : V} {x : Value} (g : Grow a b) (h : VR K a v x) : VR K b v x := by
  cases h with
  | ref q => exact .ref (g.at q)
  | top q => exact .top q
  | none => exact .none
  | bool => exact .bool
  | int => exact .int
  | str => exact .str
  | ty => exact .ty
  | bi => exact .bi
theorem VR.ref_inv {K : Frag} {as : List Addr} {a : Nat} {x : Value} (h : VR K as (.ref a) x) : ∃ y, x = .ref y ∧ as[a]? = some y := by cases h; exact ⟨_, rfl, by assumption⟩
theorem VR.int_inv {K : Frag} {as : List Addr} {i : Int} {x : Value} (h : VR K as (.int i) x) : ∃ t, x = .int i t := by cases h; exact ⟨_, rfl⟩
theorem VR.str_inv {K : Frag} {as : List Addr} {i : Str} {x : Value} (h : VR K as (.str i) x) : ∃ t, x = .str i t := by cases h; exact ⟨_, rfl⟩
theorem VR.bool_inv {K : Frag} {as : List Addr} {i : Bool} {x : Value} (h : VR K as (.bool i) x) : x = .bool i := by cases h; rfl
theorem VR.top_inv {K : Frag} {as : List Addr} {a : Addr} {x : Value} (h : VR K as (.top a) x) : x = .ref a ∧ (K.lookup a).isSome = true := by cases h; exact ⟨rfl, by assumption⟩
theorem VR.none_inv {K : Frag} {as : List Addr} {x : Value} (h : VR K as .none x) : x = .none := by cases h; rfl
theorem VR.ty_inv {K : Frag} {as : List Addr} {n : String} {x : Value} (h : VR K as (.ty n) x) : x = .type n := by cases h; rfl
theorem VR.bi_inv {K : Frag} {as : List Addr} {n : String} {x : Value} (h : VR K as (.bi n) x) : x = .builtin n := by cases h; rfl
/-- lists item by item -/
inductive All2 {α β : Type} (R : α → β → Prop) : List α → List β → Prop
  | nil : All2 R [] []
  | cons {a b l r} : R a b → All2 R l r → All2 R (a :: l) (b :: r)
namespace All2
variable {α β : Type} {R S : α → β → Prop}
theorem mono {l r} (h : ∀ a b, R a b → S a b) : All2 R l r → All2 S l r
  | .nil => .nil
  | .cons x y => .cons (h _ _ x) (mono h y)
theorem length {l r} : All2 R l r → l.length = r.length
  | .nil => rfl
  | .cons _ y => by simp [length y]
theorem append {l r l' r'} : All2 R l r → All2 R l' r' → All2 R (l ++ l') (r ++ r')
  | .nil, y => y
  | .cons x z, y => .cons x (append z y)
theorem get {l : List α} {r : List β} : All2 R l r → ∀ {i : Nat} {a : α}, l[i]? = some a → ∃ b, r[i]? = some b ∧ R a b
  | .nil, _, _, e => by simp at e
  | .cons x _, 0, _, e => ⟨_, rfl, by simp at e; subst e; exact x⟩
  | .cons _ y, i + 1, _, e => by simpa using get y (by simpa using e)
theorem set {l : List α} {r : List β} : All2 R l r → ∀ {i : Nat} {a : α} {b : β}, R a b → All2 R (l.set i a) (r.set i b)
  | .nil, _, _, _, _ => .nil
  | .cons _ y, 0, _, _, h => .cons h y
  | .cons x y, _ + 1, _, _, h => .cons x (set y h)
theorem take {l r} : All2 R l r → ∀ n, All2 R (l.take n) (r.take n)
  | .nil, n => by simp; exact .nil
  | .cons _ _, 0 => .nil
  | .cons x y, n + 1 => .cons x (take y n)
theorem drop {l r} : All2 R l r → ∀ n, All2 R (l.drop n) (r.drop n)
  | .nil, n => by simp; exact .nil
  | .cons x y, 0 => .cons x y
  | .cons _ y, n + 1 => drop y n
end All2

abbrev listObj (vs : List Value) (n : Nat) : Obj := { cls := .type "list", data := .seq vs.toArray n }
abbrev tupObj (vs : List Value) (n : Nat) : Obj := { cls := .type "tuple", data := .seq vs.toArray n }
def allStr (es : List (V × V)) : Prop := ∀ p ∈ es, ∃ x, p.1 = .str x
def allInt (es : List (V × V)) : Prop := ∀ p ∈ es, ∃ i, p.1 = .int i
def strOf : V → Str
  | .str x => x
  | _ => ⟨#[]⟩
def intOf : V → Int
  | .int i => i
  | _ => 0
/-- a field of an instance's dict -/
def FR (K : Frag) (as : List Addr) (f : Str × V) (e : DictEntry) : Prop := (∃ t, e.key = .str f.1 t) ∧ VR K as f.2 e.val
def OR (K : Frag) (w : World) (prog : Program) (as : List Addr) : MO → CO → Prop
  | .list xs, c => ∃ vs n, c.o = listObj vs n ∧ c.d = none ∧ All2 (VR K as) xs vs
  | .src xs, c => ∃ vs n, c.o.cls = .type "list" ∧ c.o.data = .seq vs.toArray n ∧ c.d = none ∧ All2 (VR K as) xs vs
  | .tup xs, c => ∃ vs n, c.o = tupObj vs n ∧ c.d = none ∧ All2 (VR K as) xs vs
  | .dict es, c => c.d = none ∧ ((allStr es ∧ ∃ kvs, c.o.IsDictOf (strKind prog w) kvs ∧ All2 (fun p q => p.1 = .str q.1 ∧ VR K as p.2 q.2) es kvs) ∨
      (allInt es ∧ ∃ kvs, c.o.IsDictOf (intKind prog w) kvs ∧ All2 (fun p q => p.1 = .int q.1 ∧ VR K as p.2 q.2) es kvs)) ∧
      (es = [] → c.o.IsDictOf (strKind prog w) [] ∧ c.o.IsDictOf (intKind prog w) [])
  | .inst C fs, c => ∃ dx ds n, c.o.cls = .ref C ∧ notCls c.o = true ∧ c.o.dict = some dx ∧ c.d = some (dx, dictOf ds n) ∧ All2 (FR K as) fs ds ∧ (C ≠ 483 → c.o = instObj C dx)
theorem OR.grow {K : Frag} {w : World} {prog : Program} {a b : List Addr} (g : Grow a b) {o : MO} {c : CO} (h : OR K w prog a o c) : OR K w prog b o c := by
  cases o with
  | list xs => obtain ⟨vs, n, h1, h2, h3⟩ := h; exact ⟨vs, n, h1, h2, h3.mono fun _ _ => VR.grow g⟩
  | src xs => obtain ⟨vs, n, h1, h2, h3, h4⟩ := h; exact ⟨vs, n, h1, h2, h3, h4.mono fun _ _ => VR.grow g⟩
  | tup xs => obtain ⟨vs, n, h1, h2, h3⟩ := h; exact ⟨vs, n, h1, h2, h3.mono fun _ _ => VR.grow g⟩
  | dict es =>
    obtain ⟨h1, h2, h3⟩ := h
    refine ⟨h1, h2.imp ?_ ?_, h3⟩
    · rintro ⟨q, kvs, x, y⟩; exact ⟨q, kvs, x, y.mono fun _ _ z => ⟨z.1, z.2.grow g⟩⟩
    · rintro ⟨q, kvs, x, y⟩; exact ⟨q, kvs, x, y.mono fun _ _ z => ⟨z.1, z.2.grow g⟩⟩
  | inst C fs => obtain ⟨dx, ds, n, h1, h2, h3, h4, h5, h6⟩ := h; exact ⟨dx, ds, n, h1, h2, h3, h4, h5.mono fun _ _ z => ⟨z.1, z.2.grow g⟩, h6⟩

/-- a frame of the call and what lies about it -/
structure Fx where
  A : Around
  env : Env
  outer : List Env
  L : Addr
  low : List (Addr × NsMap)
  base : Heap
  os : OsState
  c0 : CO
def NsObj (o : Obj) (m : NsMap) : Prop := ∀ h : Heap, ∀ a, h.get? a = some o → h.Ns a m
theorem nsObj_of {h : Heap} {a : Addr} {m : NsMap} (x : h.Ns a m) : ∃ o, h.get? a = some o ∧ NsObj o m := by
  obtain ⟨o, es, ep, ho, r⟩ := x
  exact ⟨o, ho, fun h' a' e => ⟨o, es, ep, e, r⟩⟩

section
variable (K : Frag) (w : World) (prog : Program)
structure SRh (X : Fx) (m : NsMap) (ex : List (Addr × Obj)) (cs : List CO) (μ : Mem) (h : Heap) : Prop where
  stays : X.base.StaysIn h
  ns : h.Ns X.L m
  above : X.base.objs.size ≤ X.L
  low : ∀ p ∈ X.low, h.Ns p.1 p.2 ∧ X.base.get? p.1 = none
  led : ∀ q ∈ ex ++ nw cs, h.get? q.1 = some q.2 ∧ X.base.get? q.1 = none ∧ q.1 ≠ sysModules
  sz : sysModules < X.base.objs.size
  fro : cs[0]? = some X.c0
  szs : ∀ o ∈ μ, szOk o = true
  dist : (X.L :: X.low.map (·.1) ++ (ex ++ nw cs).map (·.1)).Nodup
  O : All2 (OR K w prog (adr cs)) μ cs
def SR (X : Fx) (m : NsMap) (ex : List (Addr × Obj)) (cs : List CO) (μ : Mem) (s : Shared) : Prop := SRh K w prog X m ex cs μ s.heap ∧ s.gens = #[] ∧ s.os = X.os
end
section
variable {K : Frag} {w : World} {prog : Program} {X : Fx} {m : NsMap} {ex : List (Addr × Obj)} {cs : List CO} {μ : Mem} {h h' : Heap} {s : Shared}

theorem nw_append (a b : List CO) : nw (a ++ b) = nw a ++ nw b := by simp [nw]
theorem nw_one (c : CO) : nw [c] = c.ents := by simp [nw]
theorem adr_append (a b : List CO) : adr (a ++ b) = adr a ++ adr b := by simp [adr]
theorem nw_mem {c : CO} (hc : c ∈ cs) {q : Addr × Obj} (hq : q ∈ c.ents) : q ∈ nw cs := List.mem_flatMap.mpr ⟨c, hc, hq⟩

/-- a changed heap that keeps all that is named -/
theorem SRh.keep (S : SRh K w prog X m ex cs μ h) (kb : ∀ b o, h.get? b = some o → h'.get? b = some o) : SRh K w prog X m ex cs μ h' :=
  ⟨fun b o e => kb _ _ (S.stays b o e), S.ns.keeps kb, S.above, fun p hp => ⟨(S.low p hp).1.keeps kb, (S.low p hp).2⟩, fun q hq => ⟨kb _ _ (S.led q hq).1, (S.led q hq).2⟩, S.sz, S.fro, S.szs, S.dist, S.O⟩

theorem SRh.baseNone (S : SRh K w prog X m ex cs μ h) : X.base.get? X.L = none := by
  cases q : X.base.get? X.L with
  | none => rfl
  | some o => exact absurd (Nat.lt_of_lt_of_le (Heap.lt_size q) S.above) (Nat.lt_irrefl _)
theorem SRh.fr (S : SRh K w prog X m ex cs μ h) : Fr X.base X.L h m := ⟨S.ns, S.stays, S.above⟩
theorem SRh.size_le (S : SRh K w prog X m ex cs μ h) : X.base.objs.size ≤ h.objs.size := by
  obtain ⟨o, _, _, ho, _⟩ := S.ns
  exact Nat.le_of_lt (Nat.lt_of_le_of_lt S.above (Heap.lt_size ho))
theorem SRh.baseFresh (S : SRh K w prog X m ex cs μ h) {a : Addr} (ha : h.objs.size ≤ a) : X.base.get? a = none := by
  cases q : X.base.get? a with
  | none => rfl
  | some o => exact absurd (Nat.lt_of_lt_of_le (Heap.lt_size q) (Nat.le_trans S.size_le ha)) (Nat.lt_irrefl _)

/-- new objects onto the ledger, whose addresses lie behind the old heap -/
theorem SRh.more (S : SRh K w prog X m ex cs μ h) {o : MO} {c : CO} (hz : szOk o = true) (kb : ∀ b o, h.get? b = some o → h'.get? b = some o) (hc : ∀ q ∈ c.ents, h'.get? q.1 = some q.2 ∧ h.objs.size ≤ q.1)
    (hn : (c.ents.map (·.1)).Nodup) (ho : OR K w prog (adr (cs ++ [c])) o c) : SRh K w prog X m ex (cs ++ [c]) (μ ++ [o]) h' := by
  have S' := S.keep kb
  refine ⟨S'.stays, S'.ns, S'.above, S'.low, fun q hq => ?_, S.sz, by rw [List.getElem?_append_left (by exact (List.getElem?_eq_some_iff.mp S.fro).1)]; exact S.fro, fun o' ho' => by rcases List.mem_append.mp ho' with z | z; exact S.szs _ z; rw [List.mem_singleton.mp z]; exact hz, ?_, ?_⟩
  · rw [nw_append, nw_one] at hq
    rcases List.mem_append.mp hq with z | z
    · exact S'.led q (List.mem_append_left _ z)
    · rcases List.mem_append.mp z with z | z
      · exact S'.led q (List.mem_append_right _ z)
      · exact ⟨(hc q z).1, S.baseFresh (hc q z).2, fun e => by have h1 := (hc q z).2; rw [e] at h1; exact Nat.lt_irrefl _ (Nat.lt_of_lt_of_le S.sz (Nat.le_trans S.size_le h1))⟩
  · rw [nw_append, nw_one, ← List.append_assoc ex, List.map_append, ← List.append_assoc]
    refine List.nodup_append.mpr ⟨S.dist, hn, fun a ha b hb e => ?_⟩
    subst e
    obtain ⟨q, hq, e⟩ := List.mem_map.mp hb
    have hlt : a < h.objs.size := by
      rcases List.mem_append.mp ha with z | z
      · rcases List.mem_cons.mp z with rfl | z
        · obtain ⟨o, _, _, ho, _⟩ := S.ns; exact Heap.lt_size ho
        · obtain ⟨p, hp, rfl⟩ := List.mem_map.mp z
          obtain ⟨o, _, _, ho, _⟩ := (S.low p hp).1; exact Heap.lt_size ho
      · obtain ⟨p, hp, rfl⟩ := List.mem_map.mp z
        exact Heap.lt_size (S.led p hp).1
    have := (hc q hq).2
    rw [e] at this
    exact absurd hlt (Nat.not_lt.mpr this)
  · exact (S.O.mono fun _ _ z => z.grow ⟨[c.x], by rw [adr_append]; rfl⟩).append (.cons ho .nil)

theorem split_at {α : Type} : ∀ {l : List α} {a : Nat} {c : α}, l[a]? = some c → ∃ p r, l = p ++ c :: r ∧ p.length = a
  | [], _, _, e => by simp at e
  | x :: l, 0, _, e => by simp at e; subst e; exact ⟨[], l, rfl, rfl⟩
  | x :: l, a + 1, c, e => by
    obtain ⟨p, r, h1, h2⟩ := split_at (l := l) (a := a) (c := c) (by simpa using e)
    exact ⟨x :: p, r, by rw [h1]; rfl, by simp [h2]⟩
theorem set_split {α : Type} (p r : List α) (c c' : α) : (p ++ c :: r).set p.length c' = p ++ c' :: r := by
  rw [List.set_append_right _ _ (Nat.le_refl _)]; simp
theorem adr_set {a : Nat} {c c' : CO} (hc : cs[a]? = some c) (hx : c'.x = c.x) : adr (cs.set a c') = adr cs := by
  obtain ⟨p, r, rfl, rfl⟩ := split_at hc
  rw [set_split]; simp [adr, hx]

/-- one object of the ledger (or its dict) is changed -/
theorem SRh.changeW {a : Nat} {o : MO} {c c' : CO} {d : Addr} (h0 : a ≠ 0) (hz : szOk o = true) (S : SRh K w prog X m ex cs μ h) (hc : cs[a]? = some c) (hd : d ∈ c.ents.map (·.1)) (k1 : X.base.StaysIn h') (k2 : h'.Ns X.L m) (k3 : ∀ p ∈ X.low, h'.Ns p.1 p.2) (k4 : ∀ q ∈ ex ++ nw cs, q.1 ≠ d → h'.get? q.1 = some q.2)
    (hx : c'.x = c.x) (he : c'.ents.map (·.1) = c.ents.map (·.1)) (hq : ∀ q ∈ c'.ents, h'.get? q.1 = some q.2) (ho : OR K w prog (adr cs) o c') :
    SRh K w prog X m ex (cs.set a c') (μ.set a o) h' := by
  have ha := adr_set hc hx
  have hO : All2 (OR K w prog (adr cs)) (μ.set a o) (cs.set a c') := S.O.set ho
  have hfro : (cs.set a c')[0]? = some X.c0 := by rw [List.getElem?_set_ne h0]; exact S.fro
  obtain ⟨p, r, rfl, rfl⟩ := split_at hc
  rw [ha.symm] at hO
  rw [set_split] at hO hfro ⊢
  have hdist := S.dist
  have e1 : nw (p ++ c :: r) = nw p ++ (c.ents ++ nw r) := by rw [show p ++ c :: r = p ++ ([c] ++ r) from rfl, nw_append, nw_append, nw_one]
  have e2 : nw (p ++ c' :: r) = nw p ++ (c'.ents ++ nw r) := by rw [show p ++ c' :: r = p ++ ([c'] ++ r) from rfl, nw_append, nw_append, nw_one]
  have ne : ∀ q ∈ ex ++ (nw p ++ nw r), q.1 ≠ d := by
    intro q hq' e
    rw [e1] at hdist
    have h2 := (List.nodup_append.mp hdist).2.1
    simp only [List.map_append] at h2
    have hp1 : ∀ x ∈ ex.map (·.1), ∀ y ∈ (nw p).map (·.1) ++ (c.ents.map (·.1) ++ (nw r).map (·.1)), x ≠ y := (List.nodup_append.mp h2).2.2
    have h3 := (List.nodup_append.mp h2).2.1
    have hp2 : ∀ x ∈ (nw p).map (·.1), ∀ y ∈ c.ents.map (·.1) ++ (nw r).map (·.1), x ≠ y := (List.nodup_append.mp h3).2.2
    have hp3 : ∀ x ∈ c.ents.map (·.1), ∀ y ∈ (nw r).map (·.1), x ≠ y := (List.nodup_append.mp (List.nodup_append.mp h3).2.1).2.2
    rcases List.mem_append.mp hq' with z | z
    · exact hp1 _ (List.mem_map_of_mem z) d (List.mem_append_right _ (List.mem_append_left _ hd)) e
    · rcases List.mem_append.mp z with z | z
      · exact hp2 _ (List.mem_map_of_mem z) d (List.mem_append_left _ hd) e
      · exact hp3 d hd _ (List.mem_map_of_mem z) e.symm
  refine ⟨k1, k2, S.above, fun q hq' => ⟨k3 q hq', (S.low q hq').2⟩, fun q hq' => ?_, S.sz, hfro, fun o' ho' => by rcases List.mem_or_eq_of_mem_set ho' with z | z; exact S.szs _ z; rw [z]; exact hz, ?_, hO⟩
  · rw [e2] at hq'
    have old : ∀ q ∈ ex ++ (nw p ++ nw r), h'.get? q.1 = some q.2 ∧ X.base.get? q.1 = none ∧ q.1 ≠ sysModules := fun q z => by
      have hin : q ∈ ex ++ nw (p ++ c :: r) := (by rw [e1]; rcases List.mem_append.mp z with z | z; exact List.mem_append_left _ z; rcases List.mem_append.mp z with z | z; exact List.mem_append_right _ (List.mem_append_left _ z); exact List.mem_append_right _ (List.mem_append_right _ (List.mem_append_right _ z)))
      exact ⟨k4 q hin (ne q z), (S.led q hin).2⟩
    rcases List.mem_append.mp hq' with z | z
    · exact old q (List.mem_append_left _ z)
    · rcases List.mem_append.mp z with z | z
      · exact old q (List.mem_append_right _ (List.mem_append_left _ z))
      · rcases List.mem_append.mp z with z | z
        · have hm : q.1 ∈ c.ents.map (·.1) := he ▸ List.mem_map_of_mem z
          obtain ⟨q', hq2, e⟩ := List.mem_map.mp hm
          exact ⟨hq q z, e ▸ (S.led q' (List.mem_append_right _ (nw_mem (by simp) hq2))).2⟩
        · exact old q (List.mem_append_right _ (List.mem_append_right _ z))
  · rw [e2]
    rw [e1] at hdist
    simp only [List.map_append] at hdist ⊢
    rw [he]
    exact hdist
theorem SRh.change {a : Nat} {o : MO} {c c' : CO} {d : Addr} (h0 : a ≠ 0) (hz : szOk o = true) (S : SRh K w prog X m ex cs μ h) (hc : cs[a]? = some c) (hd : d ∈ c.ents.map (·.1)) (hb : ∀ b, b ≠ d → h'.get? b = h.get? b)
    (hx : c'.x = c.x) (he : c'.ents.map (·.1) = c.ents.map (·.1)) (hq : ∀ q ∈ c'.ents, h'.get? q.1 = some q.2) (ho : OR K w prog (adr cs) o c') :
    SRh K w prog X m ex (cs.set a c') (μ.set a o) h' := by
  have dn : X.base.get? d = none := by
    obtain ⟨q, hq, rfl⟩ := List.mem_map.mp hd
    exact (S.led q (List.mem_append_right _ (nw_mem (List.mem_of_getElem? hc) hq))).2.1
  have hdl : d ∈ (ex ++ nw cs).map (·.1) := by
    obtain ⟨q, hq, rfl⟩ := List.mem_map.mp hd
    exact List.mem_map_of_mem (List.mem_append_right _ (nw_mem (List.mem_of_getElem? hc) hq))
  have apart : ∀ x ∈ X.L :: X.low.map (·.1), x ≠ d := fun x hx' => (List.nodup_append.mp S.dist).2.2 x hx' d hdl
  have nsk : ∀ {L : Addr} {m' : NsMap}, h.Ns L m' → L ≠ d → h'.Ns L m' := fun ⟨o, es, ep, ho, rr⟩ hl => ⟨o, es, ep, (hb _ hl).trans ho, rr⟩
  exact S.changeW h0 hz hc hd (fun b o e => (hb b fun z => by rw [z, dn] at e; cases e).trans (S.stays b o e)) (nsk S.ns (apart _ (.head _))) (fun q hq' => nsk (S.low q hq').1 (apart _ (.tail _ (List.mem_map_of_mem hq'))))
    (fun q hq' ne => (hb _ ne).trans (S.led q hq').1) hx he hq ho
end

/-! ## A tree of the model and a computation of the mini evaluator, abreast -/
section
variable (K : Frag) (w : World) (prog : Program)
/-- what an exception in flight leaves: said later -/
abbrev XRel := NsMap → List CO → Mem → V → V → Addr → Shared → Prop
def Post {α β : Type} (X : Fx) (ex : List (Addr × Obj)) (cs : List CO) (XR : XRel) (R : NsMap → List CO → β → α → Prop) (Q : α → Shared → Prop) (E : Value → Shared → Prop) : Out β × Mem → Prop
  | (.ok b, μ') => ∀ s' cs' m' a, Grow (adr cs) (adr cs') → SR K w prog X m' ex cs' μ' s' → R m' cs' b a → Q a s'
  | (.exc sy d, μ') => ∀ s' cs' m' e, Grow (adr cs) (adr cs') → XR m' cs' μ' sy d e s' → E (.ref e) s'
def Snd {α β : Type} (X : Fx) (ex : List (Addr × Obj)) (XR : XRel) (m : NsMap) (cs₀ : List CO) (t : Sem α) (f : Mx β) (R : NsMap → List CO → β → α → Prop) : Prop :=
  ∀ cs μ s r Q E, Grow (adr cs₀) (adr cs) → SR K w prog X m ex cs μ s → f μ = some r → Post K w prog X ex cs XR R Q E r → wpAny (model prog w) X.A t Q E s
end
section
variable {K : Frag} {w : World} {prog : Program} {X : Fx} {m : NsMap} {ex : List (Addr × Obj)} {XR : XRel} {cs cs₀ : List CO} {α β γ δ : Type} {t : Sem α} {f : Mx β} {R : NsMap → List CO → β → α → Prop}
theorem Snd.grow (x : Snd K w prog X ex XR m cs₀ t f R) (g : Grow (adr cs₀) (adr cs)) : Snd K w prog X ex XR m cs t f R :=
  fun cs' μ s r Q E g' S e p => x cs' μ s r Q E (g.trans g') S e p
theorem Snd.ret {a : α} {b : β} (h : ∀ cs, Grow (adr cs₀) (adr cs) → R m cs b a) : Snd K w prog X ex XR m cs₀ (pure a) (ret b) R := fun cs μ s r Q E g S e p => by
  cases e; exact wpAny_pure (p s cs m a (Grow.refl _) S (h cs g))
theorem Snd.bind {u : α → Sem γ} {v : β → Mx δ} {R' : NsMap → List CO → δ → γ → Prop} (x : Snd K w prog X ex XR m cs₀ t f R)
    (y : ∀ m₁ cs₁ b a, Grow (adr cs₀) (adr cs₁) → R m₁ cs₁ b a → Snd K w prog X ex XR m₁ cs₁ (u a) (v b) R') : Snd K w prog X ex XR m cs₀ (t >>= u) (bnd f v) R' := fun cs μ s r Q E g S e p => by
  unfold bnd at e
  refine wpAny_bind ?_
  split at e
  · cases e
  · rename_i sy d μ' q
    cases e
    exact x cs μ s _ _ E g S q fun s' cs' m' e' g' z => p s' cs' m' e' g' z
  · rename_i b μ' q
    refine x cs μ s _ _ E g S q fun s' cs' m' a g' S' z => ?_
    refine y m' cs' b a (g.trans g') z cs' μ' s' r Q E (Grow.refl _) S' e ?_
    obtain ⟨o, μ''⟩ := r
    cases o with
    | ok b' => exact fun s'' cs'' m'' a' g'' S'' z' => p s'' cs'' m'' a' (g'.trans g'') S'' z'
    | exc sy d => exact fun s'' cs'' m'' e' g'' z' => p s'' cs'' m'' e' (g'.trans g'') z'
/-- a silent step of the model ahead -/
theorem Snd.skip {u : Unit → Sem α} {t₀ : Sem Unit} (h : ∀ Q E s, Q () s → wpAny (model prog w) X.A t₀ Q E s) (x : Snd K w prog X ex XR m cs₀ (u ()) f R) : Snd K w prog X ex XR m cs₀ (t₀ >>= u) f R :=
  fun cs μ s r Q E g S e p => wpAny_bind (h _ _ _ (x cs μ s r Q E g S e p))
theorem Snd.stand {pos : Pos} {u : Unit → Sem α} (x : Snd K w prog X ex XR m cs₀ (u ()) f R) : Snd K w prog X ex XR m cs₀ (standAt pos >>= u) f R := Snd.skip (fun _ _ _ q => wpAny_standAt q) x
theorem Snd.holding {vs : List Value} (x : Snd K w prog X ex XR m cs₀ t f R) : Snd K w prog X ex XR m cs₀ (holding vs t) f R := fun cs μ s r Q E g S e p => wpAny_holding (x cs μ s r Q E g S e p)
theorem Snd.stuck : Snd K w prog X ex XR m cs₀ t (stuck : Mx β) R := fun _ _ _ _ _ _ _ _ e _ => by cases e
theorem Snd.mono {R' : NsMap → List CO → β → α → Prop} (x : Snd K w prog X ex XR m cs₀ t f R) (h : ∀ m' cs' b a, R m' cs' b a → R' m' cs' b a) : Snd K w prog X ex XR m cs₀ t f R' :=
  fun cs μ s r Q E g S e p => x cs μ s r Q E g S e (by
    obtain ⟨o, μ'⟩ := r
    cases o with
    | ok b => exact fun s' cs' m' a g' S' z => p s' cs' m' a g' S' (h _ _ _ _ z)
    | exc sy d => exact p)
/-- the model's tree ends here, the other goes on at nothing -/
theorem Snd.opt {b : Option β} {a : α} (h : ∀ v, b = some v → ∀ cs, Grow (adr cs₀) (adr cs) → R m cs v a) : Snd K w prog X ex XR m cs₀ (pure a) (opt b) R := fun cs μ s r Q E g S e p => by
  cases b with
  | none => cases e
  | some v => cases e; exact wpAny_pure (p s cs m a (Grow.refl _) S (h v rfl cs g))
/-- the model's step that leaves the ledger as it is -/
theorem Snd.step {v : β} (h : ∀ cs s μ Q E, Grow (adr cs₀) (adr cs) → SR K w prog X m ex cs μ s → (∀ a tk, R m cs v a → Q a { s with toks := tk }) → wpAny (model prog w) X.A t Q E s) : Snd K w prog X ex XR m cs₀ t (Mine.ret v) R :=
  fun cs μ s r Q E g S e p => by cases e; exact h cs s μ Q E g S fun a tk z => p _ cs m a (Grow.refl _) S z
/-- release and its like: nothing is seen of it -/
theorem wpAny_release {M : Model} {A : Around} {vs ks : List Value} {Q : Unit → Shared → Prop} {E : Value → Shared → Prop} {s : Shared} (q : Q () s) : wpAny M A (release vs ks) Q E s := by
  unfold release
  generalize vs.filter _ = l
  induction l with
  | nil => exact wpAny_pure q
  | cons a r ih =>
    cases r with
    | nil => exact wpAny_pure q
    | cons b r => exact wpAny_bind (wpAny_holding (wpAny_point ih))
theorem Snd.operate {os : List Value} {t : Sem Value} {R : NsMap → List CO → β → Value → Prop} (x : Snd K w prog X ex XR m cs₀ t f R) : Snd K w prog X ex XR m cs₀ (operate os t) f R := fun cs μ s r Q E g S e p => by
  unfold PySem.operate
  refine wpAny_bind (wpAny_holding (wpAny_mono (x cs μ s r Q E g S e p) (fun a s' q => wpAny_bind (wpAny_release (wpAny_pure q))) fun _ _ q => q))
end
/-! ## What is known about the top, the frame and its names -/
structure TopOk (K : Frag) (mg mb : NsMap) (base : Heap) : Prop where
  inb : K.In base
  g : base.Ns mainGlobals mg
  b : base.Ns builtinsNs mb
  nolimit : base.NoLimit
  builtins : ∀ x : Str, x ≠ "__name__" → mb x = bootBuiltins x
  gl : (glOk K && biOk K && glT.all fun p => topIn K p.2) = true
  cl : clOk K = true
  nil : nilOk K = true
  iso : isoOk K = true
  exc : excOk K = true
  dfl : dflOk K = true
  fn : fnOk K = true
  dat : (fnT.map fun x => fnData K x.1) = fnT.map fun x => (stmtAt x.2.2.1 x.2.2.2).bind partsOf
structure FxOk (K : Frag) (mg mb : NsMap) (n : Nat) (X : Fx) : Prop where
  top : TopOk K mg mb X.base
  frames : X.A.frames = some (X.env :: X.outer)
  frame : X.env.frame = some X.L
  kind : X.env.scope.kind = .function
  low : All2 (fun e p => Env.frame e = some (Prod.fst p : Addr) ∧ e.scope.kind = .function) X.outer X.low
  depth : X.A.depth + 2 * n + 8 < recursionLimit
  units : X.A.units + 8 * n + 40 < cLine
  hnd : X.A.handled = none
structure EnvOk (env : Env) (k : Kinds) : Prop where
  names : ∀ x q, k.lookup x = some q → q ≠ .free → env.kindOf x = some q
  kind : env.scope.kind = .function
  globals : env.globals = mainGlobals
  builtins : env.builtins = builtinsNs
  ok : namesOk k = true
inductive NameAt (X : Fx) (m : NsMap) (ex : List (Addr × Obj)) (env : Env) (x : Str) (v : Value) : Prop
  | loc : env.locals = X.L → env.kindOf x = some .local → m x = some v → NameAt X m ex env x v
  | cell {c o} : env.kindOf x = some .cell ∨ env.kindOf x = some .free → env.cells.lookup x = some c → (c, o) ∈ ex → o.data = .cell (some v) → NameAt X m ex env x v
  | own {o mo} : env.kindOf x = some .local → (env.locals, o) ∈ ex → NsObj o mo → mo x = some v → NameAt X m ex env x v
def LR (K : Frag) (X : Fx) (ex : List (Addr × Obj)) (env : Env) (m : NsMap) (as : List Addr) (ρ : Loc) : Prop := ∀ x v, ρ.lookup x = some v → ∃ val, VR K as v val ∧ NameAt X m ex env x val
theorem LR.grow {K : Frag} {X : Fx} {ex : List (Addr × Obj)} {env : Env} {m : NsMap} {a b : List Addr} {ρ : Loc} (h : LR K X ex env m a ρ) (g : Grow a b) : LR K X ex env m b ρ := fun x v e =>
  let ⟨val, h1, h2⟩ := h x v e; ⟨val, h1.grow g, h2⟩

theorem lookup_mem {α β : Type} [BEq α] [LawfulBEq α] {x : α} {v : β} : ∀ {l : List (α × β)}, l.lookup x = some v → (x, v) ∈ l
  | [], e => by cases e
  | (y, w) :: r, e => by
    rw [List.lookup_cons] at e
    by_cases h : (x == y) = true
    · rw [h] at e; cases e; rw [eq_of_beq h]; exact .head _
    · rw [Bool.not_eq_true] at h; rw [h] at e; exact .tail _ (lookup_mem e)

theorem glob_of {K : Frag} {mg : NsMap} {base : Heap} {x : Str} {v : V} (inb : K.In base) (g : base.Ns mainGlobals mg) (gl : (glOk K && biOk K && glT.all fun p => topIn K p.2) = true) (e : glT.lookup x = some v) :
    ∃ val, mg x = some val ∧ ∀ as, VR K as v val := by
  simp only [Bool.and_eq_true] at gl
  have hm := lookup_mem e
  have h1 := List.all_eq_true.mp gl.1.1 _ hm
  have h2 := List.all_eq_true.mp gl.2 _ hm
  dsimp only at h1 h2
  split at h1
  · rename_i w hw
    refine ⟨w, mg_of inb g hw, fun as => ?_⟩
    unfold valOk at h1
    split at h1
    · rw [← beq_iff_eq.mp h1]; exact .top h2
    · rw [← beq_iff_eq.mp h1]; exact .int
    · exact .none
    · rw [← beq_iff_eq.mp h1]; exact .bool
    · cases h1
  · cases h1
theorem lookup_none_of {x : Str} {v : V} {l : List (Str × V)} (h : l.lookup x = some v) : x ∈ l.map (·.1) := List.mem_map.mpr ⟨_, lookup_mem h, rfl⟩
theorem bi_boot : ∀ p ∈ biT, (match p.2 with | .bi n => bootBuiltins p.1 = some (.builtin n) | .ty n => bootBuiltins p.1 = some (.type n) | _ => False) ∧ p.1 ≠ "__name__" := by
  intro p hp
  simp only [biT, List.mem_cons, List.not_mem_nil, or_false] at hp
  rcases hp with rfl | rfl | rfl | rfl | rfl | rfl | rfl | rfl | rfl | rfl | rfl <;> exact ⟨by decide +kernel, by decide +kernel⟩

section
variable {K : Frag} {w : World} {prog : Program} {X : Fx} {m : NsMap} {ex : List (Addr × Obj)} {XR : XRel} {cs cs₀ : List CO} {μ : Mem} {mg mb : NsMap} {n : Nat} {env : Env} {k : Kinds} {ρ : Loc}
abbrev VQ (K : Frag) (m : NsMap) : NsMap → List CO → V → Value → Prop := fun m' cs' v x => m' = m ∧ VR K (adr cs') v x
abbrev BQ (m : NsMap) : NsMap → List CO → Bool → Bool → Prop := fun m' _ v x => m' = m ∧ x = v
abbrev UQ (m : NsMap) : NsMap → List CO → Unit → Unit → Prop := fun m' _ _ _ => m' = m

theorem kindOf_ok (e : EnvOk env k) {x : Str} {q : NameKind} (h : k.lookup x = some q) : (q ≠ .free → env.kindOf x = some q) ∧ (x == ("__debug__" : Str)) = false ∧ (x == ("__classdict__" : Str)) = false := by
  refine ⟨e.names x q h, ?_⟩
  have := List.all_eq_true.mp e.ok _ (lookup_mem h)
  simp only [badNames, List.contains_cons, List.contains_nil, Bool.or_false, Bool.not_eq_true', Bool.or_eq_false_iff] at this
  exact this

/-- a name of the frame's -/
theorem name_own (e : EnvOk env k) {s : Shared} {x : Str} {val : Value} {pos : Pos} {Q : Value → Shared → Prop} {E : Value → Shared → Prop} (S : SR K w prog X m ex cs μ s) (h : NameAt X m ex env x val)
    (hb : (x == ("__debug__" : Str)) = false ∧ (x == ("__classdict__" : Str)) = false) (q : Q val s) : wpAny (model prog w) X.A (eval (.Name x pos) env) Q E s := by
  refine wpAny_Name ?_ hb.1
  cases h with
  | loc h1 h2 h3 => exact wpAny_loadName_local e.kind h2 (h1 ▸ S.1.ns) h3 q
  | own h1 h2 h3 h4 => exact wpAny_loadName_local e.kind h1 (h3 _ _ (S.1.led _ (List.mem_append_left _ h2)).1) h4 q
  | cell h1 h2 h3 h4 =>
    have hc : s.heap.IsCell _ (some val) := ⟨_, (S.1.led _ (List.mem_append_left _ h3)).1, h4⟩
    rcases h1 with h1 | h1
    · exact wpAny_loadName_cell e.kind h1 h2 hc q
    · exact wpAny_loadName_free e.kind h1 h2 hc q hb.2

theorem name_snd (e : EnvOk env k) (T : FxOk K mg mb n X) (l : LR K X ex env m (adr cs₀) ρ) (x : Str) (pos : Pos) :
    Snd K w prog X ex XR m cs₀ (eval (.Name x pos) env) (opt (nameV k ρ x)) (VQ K m) := fun cs μ s r Q E g S eq p => by
  unfold opt at eq
  cases hv : nameV k ρ x with
  | none => rw [hv] at eq; cases eq
  | some v =>
    rw [hv] at eq; cases eq
    unfold nameV at hv
    have loc : ∀ {q}, k.lookup x = some q → ρ.lookup x = some v → wpAny (model prog w) X.A (eval (.Name x pos) env) Q E s := fun hk hl => by
      obtain ⟨val, h1, h2⟩ := l x v hl
      exact name_own e S h2 (kindOf_ok e hk).2 (p s cs m val (Grow.refl _) S ⟨rfl, h1.grow g⟩)
    split at hv
    · rename_i hk; exact loc hk hv
    · rename_i hk; exact loc hk hv
    · rename_i hk; exact loc hk hv
    · rename_i hk
      obtain ⟨h1, h2, _⟩ := kindOf_ok e hk
      have h1 := h1 (by decide)
      refine Calls.Name_function_global e.kind h1 ?_ h2
      have kb := S.1.stays
      unfold globV at hv
      split at hv
      · rename_i v' hg
        cases hv
        obtain ⟨val, h3, h4⟩ := glob_of T.top.inb T.top.g T.top.gl hg
        exact Calls.loadGlobal_global (e.globals ▸ T.top.g.keeps kb) h3 (p s cs m val (Grow.refl _) S ⟨rfl, h4 _⟩)
      · have hm := lookup_mem hv
        have hgl := T.top.gl
        simp only [Bool.and_eq_true] at hgl
        have hn := List.all_eq_true.mp hgl.1.2 x (by rw [show biNames = biT.map (·.1) from rfl]; exact List.mem_map.mpr ⟨_, hm, rfl⟩)
        have hmiss : mg x = none := mg_none_of T.top.inb T.top.g (beq_iff_eq.mp hn)
        obtain ⟨hb, hne⟩ := bi_boot _ hm
        have hmb := T.top.builtins x hne
        cases v <;> first
          | exact hb.elim
          | exact Calls.loadGlobal_builtin (e.globals ▸ T.top.g.keeps kb) hmiss (e.builtins ▸ T.top.b.keeps kb) (hmb.trans hb) (p s cs m _ (Grow.refl _) S ⟨rfl, by constructor⟩)
    · cases hv

theorem const_snd (c : Const) (j : Nat) (pos : Pos) : Snd K w prog X ex XR m cs₀ (eval (.Constant c j pos) env) (opt (constV c)) (VQ K m) := fun cs μ s r Q E g S eq p => by
  show wpAny _ _ (constValue env c) _ _ _
  unfold opt at eq
  cases c with
  | none => cases eq; exact wpAny_pure (p s cs m _ (Grow.refl _) S ⟨rfl, .none⟩)
  | bool b => cases eq; exact wpAny_pure (p s cs m _ (Grow.refl _) S ⟨rfl, .bool⟩)
  | int i => cases eq; exact wpAny_mkInt (p _ cs m _ (Grow.refl _) S ⟨rfl, .int⟩)
  | str x => cases eq; exact wpAny_mkText (p _ cs m _ (Grow.refl _) S ⟨rfl, .str⟩)
  | _ => cases eq
end
/-! ## Between this ledger and the library's -/
section
variable {K : Frag} {w : World} {prog : Program} {X : Fx} {m m' : NsMap} {ex : List (Addr × Obj)} {XR : XRel} {cs cs₀ cs' : List CO} {μ μ' : Mem} {h h' : Heap} {s : Shared}
def LowOk (lo : List (Addr × Obj)) (low : List (Addr × NsMap)) : Prop := All2 (fun q p => q.1 = p.1 ∧ NsObj q.2 p.2) lo low
theorem LowOk.mem {lo : List (Addr × Obj)} {low : List (Addr × NsMap)} (x : LowOk lo low) : ∀ p ∈ low, ∃ q ∈ lo, q.1 = p.1 ∧ NsObj q.2 p.2 := by
  induction x with
  | nil => intro p hp; cases hp
  | cons a _ ih =>
    intro p hp
    rcases List.mem_cons.mp hp with rfl | hp
    · exact ⟨_, .head _, a⟩
    · obtain ⟨q, hq, r⟩ := ih p hp; exact ⟨q, .tail _ hq, r⟩
theorem LowOk.mem' {lo : List (Addr × Obj)} {low : List (Addr × NsMap)} (x : LowOk lo low) : ∀ q ∈ lo, ∃ p ∈ low, q.1 = p.1 ∧ NsObj q.2 p.2 := by
  induction x with
  | nil => intro p hp; cases hp
  | cons a _ ih =>
    intro p hp
    rcases List.mem_cons.mp hp with rfl | hp
    · exact ⟨_, .head _, a⟩
    · obtain ⟨q, hq, r⟩ := ih p hp; exact ⟨q, .tail _ hq, r⟩
theorem LowOk.map {lo : List (Addr × Obj)} {low : List (Addr × NsMap)} (x : LowOk lo low) : lo.map (·.1) = low.map (·.1) := by
  induction x with
  | nil => rfl
  | cons a _ ih => simp [a.1, ih]
theorem low_of {low : List (Addr × NsMap)} (x : ∀ p ∈ low, h.Ns p.1 p.2) : ∃ lo, LowOk lo low ∧ ∀ q ∈ lo, h.get? q.1 = some q.2 := by
  induction low with
  | nil => exact ⟨[], .nil, fun _ hq => nomatch hq⟩
  | cons p r ih =>
    obtain ⟨lo, a, b⟩ := ih fun q hq => x q (.tail _ hq)
    obtain ⟨o, ho, no⟩ := nsObj_of (x p (.head _))
    exact ⟨(p.1, o) :: lo, .cons ⟨rfl, no⟩ a, fun q hq => by rcases List.mem_cons.mp hq with rfl | hq; exact ho; exact b q hq⟩
theorem SRh.news (S : SRh K w prog X m ex cs μ h) : ∃ lo, LowOk lo X.low ∧ News X.base X.L h (lo ++ (ex ++ nw cs)) := by
  obtain ⟨lo, a, b⟩ := low_of fun p hp => (S.low p hp).1
  refine ⟨lo, a, fun q hq => ?_⟩
  have hd := S.dist
  rcases List.mem_append.mp hq with z | z
  · obtain ⟨p, hp, e, _⟩ := a.mem' q z
    refine ⟨b q z, fun e' => ?_, e ▸ (S.low p hp).2⟩
    have := (List.nodup_cons.mp hd).1
    exact this (List.mem_append_left _ (e' ▸ e ▸ List.mem_map_of_mem hp))
  · refine ⟨(S.led q z).1, fun e' => ?_, (S.led q z).2.1⟩
    exact (List.nodup_cons.mp hd).1 (List.mem_append_right _ (e' ▸ List.mem_map_of_mem z))
theorem SRh.ofNews (S : SRh K w prog X m ex cs μ h) {lo : List (Addr × Obj)} {ex' : List (Addr × Obj)} (hl : LowOk lo X.low) (F : Fr X.base X.L h' m') (N : News X.base X.L h' (lo ++ (ex' ++ nw cs')))
    (hns : ∀ q ∈ ex' ++ nw cs', q.1 ≠ sysModules) (hf0 : cs'[0]? = some X.c0) (hzs : ∀ o ∈ μ', szOk o = true) (hd : (X.L :: X.low.map (·.1) ++ (ex' ++ nw cs').map (·.1)).Nodup) (hO : All2 (OR K w prog (adr cs')) μ' cs') : SRh K w prog X m' ex' cs' μ' h' :=
  ⟨F.keep, F.ns, S.above, fun p hp => by
    obtain ⟨q, hq, e, no⟩ := hl.mem p hp
    exact ⟨e ▸ no _ _ (N q (List.mem_append_left _ hq)).1, (S.low p hp).2⟩, fun q hq => ⟨(N q (List.mem_append_right _ hq)).1, (N q (List.mem_append_right _ hq)).2.2, hns q hq⟩, S.sz, hf0, hzs, hd, hO⟩
/-- a new object of the library's, at the old heap's end -/
theorem SRh.pushed (S : SRh K w prog X m ex cs μ h) {o : MO} (hz : szOk o = true) {lo : List (Addr × Obj)} {ob : Obj} (hl : LowOk lo X.low) (F : Fr X.base X.L h' m) (N : News X.base X.L h' ((h.objs.size, ob) :: (lo ++ (ex ++ nw cs))))
    (ho : OR K w prog (adr (cs ++ [⟨h.objs.size, ob, none⟩])) o ⟨h.objs.size, ob, none⟩) : SRh K w prog X m ex (cs ++ [⟨h.objs.size, ob, none⟩]) (μ ++ [o]) h' := by
  refine S.ofNews hl F (fun q hq => N q ?_) (fun q hq => ?_) (by rw [List.getElem?_append_left (by exact (List.getElem?_eq_some_iff.mp S.fro).1)]; exact S.fro) (fun o' ho' => by rcases List.mem_append.mp ho' with z | z; exact S.szs _ z; rw [List.mem_singleton.mp z]; exact hz) ?_ ((S.O.mono fun _ _ z => z.grow ⟨[h.objs.size], by rw [adr_append]; rfl⟩).append (.cons ho .nil))
  · rw [nw_append, nw_one] at hq
    simp only [CO.ents, Option.toList_none, List.mem_append, List.mem_cons, List.not_mem_nil, or_false] at hq ⊢
    rcases hq with z | z | z | z
    · exact .inr (.inl z)
    · exact .inr (.inr (.inl z))
    · exact .inr (.inr (.inr z))
    · exact .inl z
  · rw [nw_append, nw_one] at hq
    simp only [CO.ents, Option.toList_none, List.mem_append, List.mem_cons, List.not_mem_nil, or_false] at hq
    rcases hq with z | z | z
    · exact (S.led q (List.mem_append_left _ z)).2.2
    · exact (S.led q (List.mem_append_right _ z)).2.2
    · intro e; rw [z] at e; dsimp only at e; exact Nat.lt_irrefl _ (Nat.lt_of_lt_of_le S.sz (Nat.le_trans S.size_le (Nat.le_of_eq e)))
  · rw [nw_append, nw_one, ← List.append_assoc ex, List.map_append, ← List.append_assoc]
    refine List.nodup_append.mpr ⟨S.dist, by simp [CO.ents], fun a ha b hb e => ?_⟩
    subst e
    simp only [CO.ents, Option.toList_none, List.map_cons, List.map_nil, List.mem_cons, List.not_mem_nil, or_false] at hb
    have hlt : a < h.objs.size := by
      rcases List.mem_append.mp ha with z | z
      · rcases List.mem_cons.mp z with rfl | z
        · obtain ⟨o, _, _, ho, _⟩ := S.ns; exact Heap.lt_size ho
        · obtain ⟨p, hp, rfl⟩ := List.mem_map.mp z
          obtain ⟨o, _, _, ho, _⟩ := (S.low p hp).1; exact Heap.lt_size ho
      · obtain ⟨p, hp, rfl⟩ := List.mem_map.mp z
        exact Heap.lt_size (S.led p hp).1
    rw [hb] at hlt
    exact absurd hlt (Nat.lt_irrefl _)
theorem adr_push (cs : List CO) (c : CO) : Grow (adr cs) (adr (cs ++ [c])) := ⟨[c.x], by rw [adr_append]; rfl⟩
theorem adr_last (cs : List CO) (c : CO) : (adr (cs ++ [c]))[cs.length]? = some c.x := by
  rw [adr_append, List.getElem?_append_right (by simp [adr])]; simp [adr]

/-- what the post wants of a new object -/
theorem post_new {o : MO} {ob : Obj} {Q : Value → Shared → Prop} {E : Value → Shared → Prop} {s : Shared} {tk : Nat} (S : SR K w prog X m ex cs μ s) {r : Out V × Mem} (e : newM o μ = some r) (p : Post K w prog X ex cs XR (VQ K m) Q E r)
    {lo : List (Addr × Obj)} (hl : LowOk lo X.low) (F : Fr X.base X.L h' m) (N : News X.base X.L h' ((s.heap.objs.size, ob) :: (lo ++ (ex ++ nw cs))))
    (ho : OR K w prog (adr (cs ++ [⟨s.heap.objs.size, ob, none⟩])) o ⟨s.heap.objs.size, ob, none⟩) : Q (.ref s.heap.objs.size) { s with heap := h', toks := tk } := by
  unfold newM at e
  split at e
  · rename_i hz
    cases e
    have hlen : μ.length = cs.length := S.1.O.length
    refine p _ _ m _ (adr_push _ _) ⟨S.1.pushed hz hl F N ho, S.2⟩ ⟨rfl, ?_⟩
    rw [hlen]
    exact .ref (adr_last _ _)
  · cases e
theorem newM_sz {o : MO} {r : Out V × Mem} (e : newM o μ = some r) : szOk o = true := by
  unfold newM at e
  split at e
  · assumption
  · cases e
theorem setM_some {a : Nat} {o : MO} {r : Out Unit × Mem} (e : setM a o μ = some r) : szOk o = true ∧ a ≠ 0 ∧ r = (.ok (), μ.set a o) := by
  unfold setM at e
  by_cases h : szOk o = true ∧ a ≠ 0
  · rw [if_pos h] at e; cases e; exact ⟨h.1, h.2, rfl⟩
  · rw [if_neg h] at e; cases e
theorem list_at (S : SR K w prog X m ex cs μ s) {a : Nat} {x : Addr} (hx : (adr cs)[a]? = some x) {o : MO} (hm : μ[a]? = some o) : ∃ c, cs[a]? = some c ∧ c.x = x ∧ OR K w prog (adr cs) o c ∧ s.heap.get? x = some c.o := by
  obtain ⟨c, hc, ho⟩ := S.1.O.get hm
  have : (adr cs)[a]? = some c.x := by unfold adr; rw [List.getElem?_map, hc]; rfl
  rw [this] at hx; cases hx
  exact ⟨c, hc, rfl, ho, (S.1.led _ (List.mem_append_right _ (nw_mem (List.mem_of_getElem? hc) (.head _)))).1⟩
theorem isList_at (S : SR K w prog X m ex cs μ s) {a : Nat} {x : Addr} (hx : (adr cs)[a]? = some x) {xs : List V} (hm : μ[a]? = some (.list xs)) :
    ∃ vs n, s.heap.get? x = some (listObj vs n) ∧ s.heap.IsList x vs.toArray ∧ All2 (VR K (adr cs)) xs vs := by
  obtain ⟨c, hc, rfl, ⟨vs, n, h1, _, h3⟩, ho⟩ := list_at S hx hm
  rw [h1] at ho
  exact ⟨vs, n, ho, ⟨_, ho, rfl, n, rfl⟩, h3⟩
theorem bnd_some {α β : Type} {f : Mx α} {g : α → Mx β} {μ : Mem} {r : Out β × Mem} (e : bnd f g μ = some r) : (∃ s d μ', f μ = some (.exc s d, μ') ∧ r = (.exc s d, μ')) ∨ ∃ a μ', f μ = some (.ok a, μ') ∧ g a μ' = some r := by
  unfold bnd at e
  split at e
  · cases e
  · rename_i q; cases e; exact .inl ⟨_, _, _, q, rfl⟩
  · rename_i q; exact .inr ⟨_, _, q, e⟩
theorem listOfM_some {v : V} {r : Out (Nat × List V) × Mem} (e : listOfM v μ = some r) : ∃ a xs, v = .ref a ∧ μ[a]? = some (.list xs) ∧ r = (.ok (a, xs), μ) := by
  unfold listOfM at e
  split at e
  · rename_i a
    rcases bnd_some e with ⟨_, _, _, q, _⟩ | ⟨o, μ', q, e⟩
    · unfold getM at q; cases hq : μ[a]? with | none => rw [hq] at q; cases q | some o => rw [hq] at q; cases q
    · unfold getM at q
      cases hq : μ[a]? with
      | none => rw [hq] at q; cases q
      | some o' =>
        rw [hq] at q; cases q
        cases o <;> first | cases e; exact ⟨a, _, rfl, hq, rfl⟩ | cases e
  · cases e
theorem getM_some {a : Nat} {r : Out MO × Mem} (e : getM a μ = some r) : ∃ o, μ[a]? = some o ∧ r = (.ok o, μ) := by
  unfold getM at e
  cases hq : μ[a]? with
  | none => rw [hq] at e; cases e
  | some o => rw [hq] at e; cases e; exact ⟨o, rfl, rfl⟩
end

/-! ## Sums, products, rests; two lists joined, a list repeated -/
theorem big_line : big ≤ sizeLine := by decide
section
variable {K : Frag} {w : World} {prog : Program} {X : Fx} {m : NsMap} {ex : List (Addr × Obj)} {XR : XRel} {cs₀ : List CO}
theorem binM_snd {op : Operator} {a b : V} {va vb : Value} (ha : VR K (adr cs₀) a va) (hb : VR K (adr cs₀) b vb) : Snd K w prog X ex XR m cs₀ (binaryOp op va vb) (binM op a b) (VQ K m) := fun cs μ s r Q E g S e p => by
  unfold binM at e
  split at e
  · cases ha; cases hb; cases e
    exact add_int (p _ cs m _ (Grow.refl _) S ⟨rfl, .int⟩)
  · cases ha; cases hb; cases e
    exact sub_int (p _ cs m _ (Grow.refl _) S ⟨rfl, .int⟩)
  · rename_i i j
    cases ha; cases hb
    split at e
    · rename_i hs
      cases e
      simp only [Bool.and_eq_true, small, decide_eq_true_eq] at hs
      refine mul_int (p _ cs m _ (Grow.refl _) S ⟨rfl, .int⟩) (IntMulOk.of_left ?_)
      unfold Builtin.Int.intBits
      by_cases h0 : i.natAbs = 0
      · rw [h0]; split <;> decide
      · have := (Nat.log2_lt h0).mpr hs.1; split <;> omega
    · cases e
  · rename_i i j
    cases ha; cases hb
    split at e
    · rename_i hs
      cases e
      exact PyProof.Rows.floordiv_int (by omega) (p _ cs m _ (Grow.refl _) S ⟨rfl, .int⟩) (.inl (PyProof.noPylong_small (by omega)))
    · cases e
  · rename_i i j
    cases ha; cases hb
    split at e
    · rename_i hs
      cases e
      exact mod_int' (by omega) (p _ cs m _ (Grow.refl _) S ⟨rfl, .int⟩)
    · cases e
  · rename_i x y
    rcases bnd_some e with ⟨_, _, _, q, _⟩ | ⟨_, _, q, e⟩
    · obtain ⟨_, _, _, _, z⟩ := listOfM_some q; cases z
    obtain ⟨_, xs, z, hx, z'⟩ := listOfM_some q; cases z; cases z'
    rcases bnd_some e with ⟨_, _, _, q, _⟩ | ⟨_, _, q, e⟩
    · obtain ⟨_, _, _, _, z⟩ := listOfM_some q; cases z
    obtain ⟨_, ys, z, hy, z'⟩ := listOfM_some q; cases z; cases z'
    obtain ⟨va, rfl, ha2⟩ := ha.ref_inv
    obtain ⟨vb, rfl, hb2⟩ := hb.ref_inv
    obtain ⟨vs, n, o1, l1, r1⟩ := isList_at S (g.at ha2) hx
    obtain ⟨ws, n', o2, l2, r2⟩ := isList_at S (g.at hb2) hy
    obtain ⟨lo, hl, N⟩ := S.1.news
    have hz := newM_sz e
    simp only [szOk, decide_eq_true_eq, List.length_append] at hz
    refine add_arrays S.1.fr N l1 l2 (fun h' F' N' => ?_) ?_
    · refine post_new (tk := s.toks) S e p hl F' N' ⟨vs ++ ws, 0, ?_, rfl, ((r1.append r2).mono fun _ _ z => z.grow (adr_push _ _))⟩
      simp
    · simp only [List.size_toArray]
      rw [← r1.length, ← r2.length]
      exact Nat.le_trans hz big_line
  · rename_i x k
    rcases bnd_some e with ⟨_, _, _, q, _⟩ | ⟨_, _, q, e⟩
    · obtain ⟨_, _, _, _, z⟩ := listOfM_some q; cases z
    obtain ⟨_, xs, z, hx, z'⟩ := listOfM_some q; cases z; cases z'
    dsimp only at e
    split at e
    · rename_i v
      split at e
      · rename_i hs
        obtain ⟨va, rfl, ha2⟩ := ha.ref_inv
        obtain ⟨tk, rfl⟩ := hb.int_inv
        obtain ⟨vs, n, o1, l1, r1⟩ := isList_at S (g.at ha2) hx
        obtain ⟨lo, hl, N⟩ := S.1.news
        obtain ⟨val, rfl, r2⟩ : ∃ val, vs = [val] ∧ VR K (adr cs) v val := by cases r1; rename_i r1 rn; cases rn; exact ⟨_, rfl, r1⟩
        simp only [small, decide_eq_true_eq] at hs
        have hb1 : big = 1000 := rfl
        refine mul_list S.1.fr N o1 (by omega) (by omega) (by simp only [List.size_toArray, List.length_cons, List.length_nil]; omega) fun h' F' N' => ?_
        refine post_new (tk := s.toks) S e p hl F' N' ⟨List.replicate k.toNat val, 0, ?_, rfl, ?_⟩
        · congr 2
          have : ∀ (j : Nat) (acc : Array Value), List.foldl (fun x1 x2 => x1 ++ x2) acc (List.replicate j #[val]) = acc ++ (List.replicate j val).toArray := by
            intro j
            induction j with
            | zero => intro acc; simp
            | succ j ih => intro acc; rw [List.replicate_succ, List.foldl_cons, ih, List.replicate_succ]; apply Array.ext'; simp
          simpa using this k.toNat #[]
        · refine All2.mono (fun _ _ z => VR.grow (adr_push _ _) z) (?_ : All2 (VR K (adr cs)) _ _)
          generalize k.toNat = j
          induction j with
          | zero => exact .nil
          | succ j ih => exact .cons r2 ih
      · cases e
    · cases e
  · cases e
end
/-! ## Stores into lists -/
section
variable {prog : Program} {w : World} {A : Around} {E : Value → Shared → Prop} {s : Shared}
theorem letGo_any {M : Model} {Q : Unit → Shared → Prop} (q : Q () s) : ∀ (l : List Value) (ks : List Value), wpAny M A (letGo l ks) Q E s
  | [], _ => wpAny_pure q
  | _ :: r, ks => wpAny_bind (wpAny_holding (wpAny_point (letGo_any q r ks)))
theorem plain_upd {h : Heap} {l : Addr} {xs : List Value} {n : Nat} (f : Array Value → Array Value) (ho : h.get? l = some (listObj xs n)) :
    ∃ n', (h.update l (Obj.mapSeq f)).get? l = some (listObj (f xs.toArray).toList n') := by
  refine ⟨if (f xs.toArray).size == xs.toArray.size then n else n + 1, ?_⟩
  have : Obj.mapSeq f (listObj xs n) = listObj (f xs.toArray).toList (if (f xs.toArray).size == xs.toArray.size then n else n + 1) := rfl
  rw [← this]
  exact Heap.get?_update_self _ ho rfl
/-- an item of a list is stored -/
theorem setItem_int {l : Addr} {xs : List Value} {n : Nat} {i : Int} {k : Nat} {t : Tok} {v : Value} {Q : Unit → Shared → Prop} (ho : s.heap.get? l = some (listObj xs n)) (h0 : 0 ≤ i) (hf : i < 2 ^ 63) (hi : i.toNat = k) (hn : k < xs.length)
    (hQ : ∀ h' n', h'.get? l = some (listObj (xs.set k v) n') → Heap.SameBut l s.heap h' → Q () { s with heap := h' }) : wpAny (model prog w) A (setItem (.ref l) (.int i t) v) Q E s := by
  have hl : s.heap.IsList l xs.toArray := ⟨_, ho, rfl, n, rfl⟩
  unfold setItem
  try with_reducible refine wpAny_holding ?_
  first | refine wpAny_bind (wpAny_pure ?_) | skip
  refine wpAny_bind (wpAny_sequenceKey hl.typeIs (by decide) ?_)
  refine wpAny_bind (wpAny_callSpecial?_slot (name := Str.ofString "__setitem__") hl.typeIs slot_list_setitem
    (wpAny_call_entry slot_list_setitem hl.typeIs entry_list_setitem ?_ (args_list_setitem _ _ _)))
  show wpAny _ _ (Builtin.List.listSubscript? (.int i t) >>= _) _ _ s
  refine wpAny_bind (wpAny_listSubscript_int (fitsIndex_of h0 hf) ?_)
  clear hf
  obtain ⟨j, rfl⟩ := Int.eq_ofNat_of_zero_le h0
  obtain rfl : j = k := hi
  show wpAny _ _ ((seqItemAt l j >>= fun r => pure (r.map (j, ·))) >>= _) _ _ s
  refine wpAny_bind (wpAny_bind (wpAny_seqItemAt ho rfl (wpAny_pure ?_)))
  rw [Array.getElem?_eq_getElem (by simpa using hn)]
  show wpAny _ _ (setSeqItemAt l j v >>= _) _ _ s
  obtain ⟨n', e'⟩ := plain_upd (·.setIfInBounds j v) ho
  refine wpAny_bind (wpAny_setSeqItemAt ho rfl ?_)
  have e2 : (xs.toArray.setIfInBounds j v).toList = xs.set j v := by simp
  first
    | exact wpAny_bind (wpAny_pure (wpAny_pure ⟨.none, rfl, wpAny_pure (hQ _ n' (e2 ▸ e') (Heap.SameBut.update ..))⟩))
    | exact wpAny_pure ⟨.none, rfl, wpAny_pure (hQ _ n' (e2 ▸ e') (Heap.SameBut.update ..))⟩
/-- a slice of a list is stored -/
theorem setItem_slice {l b sl : Addr} {xs ys : List Value} {n n2 : Nat} {vl vu : Value} {lo hi : Option Int} {Q : Unit → Shared → Prop} (ho : s.heap.get? l = some (listObj xs n)) (hb : s.heap.get? b = some (listObj ys n2))
    (hs : s.heap.IsSliceOf sl vl vu .none) (pl : IsPart vl lo) (pu : IsPart vu hi) (hne : (l == b) = false) (hz : xs.length + ys.length ≤ 2 * big)
    (hQ : ∀ h' n', h'.get? l = some (listObj (xs.take (sliceBounds lo hi none xs.length).1.toNat ++ ys ++ xs.drop (max (sliceBounds lo hi none xs.length).1 (sliceBounds lo hi none xs.length).2.1).toNat) n') → Heap.SameBut l s.heap h' → Q () { s with heap := h' }) :
    wpAny (model prog w) A (setItem (.ref l) (.ref sl) (.ref b)) Q E s := by
  have hl : s.heap.IsList l xs.toArray := ⟨_, ho, rfl, n, rfl⟩
  have hbl : s.heap.IsList b ys.toArray := ⟨_, hb, rfl, n2, rfl⟩
  obtain ⟨os, hos, hcs, hds⟩ := id hs
  have hTs : s.TypeIs (.ref sl) "slice" := ⟨os, hos, hcs⟩
  unfold setItem
  try with_reducible refine wpAny_holding ?_
  first | refine wpAny_bind (wpAny_pure ?_) | skip
  refine wpAny_bind (wpAny_sequenceKey hl.typeIs (by decide) ?_)
  refine wpAny_bind (wpAny_callSpecial?_slot (name := Str.ofString "__setitem__") hl.typeIs slot_list_setitem
    (wpAny_call_entry slot_list_setitem hl.typeIs entry_list_setitem ?_ (args_list_setitem _ _ _)))
  show wpAny _ _ (Builtin.List.listSubscript? (.ref sl) >>= _) _ _ s
  refine wpAny_bind ?_
  unfold Builtin.List.listSubscript?
  refine wpAny_bind (wpAny_specialOf hTs slice_no_index ?_)
  simp only [Option.isNone_none, if_true]
  refine wpAny_pure ?_
  show wpAny _ _ (typeOf (.ref sl) >>= _) _ _ s
  refine wpAny_bind (wpAny_typeOf hTs ?_)
  rw [if_neg (by decide)]
  rw [listSliceParts_eq]
  refine wpAny_bind (wpAny_bind (wpAny_field hos hds (x := .none) rfl (wpAny_bind (wpAny_listPart .none ?_))))
  rw [if_neg (by exact Bool.false_ne_true)]
  refine wpAny_bind (wpAny_field hos hds (x := vl) rfl (wpAny_bind (wpAny_listPart pl ?_)))
  refine wpAny_bind (wpAny_field hos hds (x := vu) rfl (wpAny_bind (wpAny_listPart pu (wpAny_pure ?_))))
  have e1 : Builtin.List.listSameRef (.ref l) (.ref b) = false := hne
  dsimp only
  rw [e1]
  simp only [Bool.false_eq_true, if_false]
  unfold Builtin.List.listAllItems
  refine wpAny_bind (wpAny_bind (wpAny_typeOf hbl.typeIs ?_))
  simp only [beq_self_eq_true, Bool.true_or, if_true]
  unfold Builtin.List.listItems
  refine wpAny_bind (wpAny_seqItems hb rfl (wpAny_pure ?_))
  refine wpAny_bind (wpAny_bind (wpAny_seqItems ho rfl (wpAny_pure ?_)))
  refine wpAny_bind (wpAny_of_eq (sliceIndices_raw lo hi none xs.toArray.size (by simp)) ?_)
  have e3 : (sliceBounds lo hi none xs.toArray.size).2.2 = 1 := rfl
  rw [if_pos (by rw [e3]; rfl)]
  refine wpAny_bind (wpAny_rule ?_)
  rw [if_neg (by
    unfold Builtin.List.listTooLong
    have hb1 : big = 1000 := rfl
    have hb2 : sizeLine = 16777216 := by decide
    simp only [List.size_toArray, decide_eq_true_eq]
    omega)]
  obtain ⟨n', e'⟩ := plain_upd (fun zs => zs.extract 0 (sliceBounds lo hi none xs.toArray.size).1.toNat ++ ys.toArray ++ zs.extract (max (sliceBounds lo hi none xs.toArray.size).1 (sliceBounds lo hi none xs.toArray.size).2.1).toNat zs.size) ho
  have hb1 : big = 1000 := rfl
  have hb2 : sizeLine = 16777216 := by decide
  refine wpAny_bind (wpAny_updateSeq ho rfl (wpAny_bind (letGo_any ?_ _ _)) ?_ ?_)
  · refine wpAny_pure ⟨.none, rfl, wpAny_pure (hQ _ n' ?_ (Heap.SameBut.update ..))⟩
    have e4 : ∀ M : Nat, List.take (xs.length - M) (xs.drop M) = xs.drop M := fun M => List.take_of_length_le (by simp)
    simp only [List.size_toArray, List.extract_toArray, List.extract_eq_drop_take, List.drop_zero, Nat.sub_zero, List.append_toArray, List.toList_toArray, e4] at e'
    exact e'
  · simp only [List.size_toArray]; omega
  · simp only [List.size_toArray, Array.size_append, Array.size_extract]; omega
end
/-! ## Items, slices, dict entries -/
section
variable {KT : Type} [DecidableEq KT] {enc : KT → V} {P : V → Value → Prop}
theorem dget_some (inj : ∀ a b, enc a = enc b → a = b) {es : List (V × V)} {kvs : List (KT × Value)} (h : All2 (fun p q => p.1 = enc q.1 ∧ P p.2 q.2) es kvs) {k : KT} {v : V} (e : getD (enc k) es = some v) :
    ∃ val, valueAt kvs k = some val ∧ P v val := by
  induction h with
  | nil => cases e
  | @cons a b l r x y ih =>
    obtain ⟨a1, a2⟩ := a
    obtain ⟨b1, b2⟩ := b
    obtain ⟨x1, x2⟩ := x
    dsimp only at x1 x2
    unfold getD at e
    unfold valueAt
    rw [List.find?_cons]
    by_cases hk : b1 = k
    · subst hk
      rw [if_pos x1] at e
      cases e
      exact ⟨b2, by simp, x2⟩
    · rw [if_neg (fun z => hk (inj _ _ (x1.symm.trans z)))] at e
      obtain ⟨val, h1, h2⟩ := ih e
      exact ⟨val, by simp only [hk, decide_false]; exact h1, h2⟩
theorem dget_none (inj : ∀ a b, enc a = enc b → a = b) {es : List (V × V)} {kvs : List (KT × Value)} (h : All2 (fun p q => p.1 = enc q.1 ∧ P p.2 q.2) es kvs) {k : KT} (e : getD (enc k) es = none) : valueAt kvs k = none := by
  induction h with
  | nil => rfl
  | @cons a b l r x y ih =>
    obtain ⟨a1, a2⟩ := a
    obtain ⟨b1, b2⟩ := b
    obtain ⟨x1, x2⟩ := x
    dsimp only at x1 x2
    unfold getD at e
    unfold valueAt
    rw [List.find?_cons]
    by_cases hk : b1 = k
    · subst hk; rw [if_pos x1] at e; cases e
    · rw [if_neg (fun z => hk (inj _ _ (x1.symm.trans z)))] at e
      simp only [hk, decide_false]; exact ih e
theorem map_off {k : KT} {val : Value} : ∀ {kvs : List (KT × Value)}, k ∉ kvs.map (·.1) → kvs.map (fun kv => if kv.1 = k then (kv.1, val) else kv) = kvs
  | [], _ => rfl
  | (b1, b2) :: r, h => by
    simp only [List.map_cons, List.mem_cons, not_or] at h
    rw [List.map_cons, map_off h.2, if_neg fun z => h.1 z.symm]
theorem dset (inj : ∀ a b, enc a = enc b → a = b) {es : List (V × V)} {kvs : List (KT × Value)} (h : All2 (fun p q => p.1 = enc q.1 ∧ P p.2 q.2) es kvs) (nd : (kvs.map (·.1)).Nodup) {k : KT} {v : V} {val : Value} (hv : P v val) :
    All2 (fun p q => p.1 = enc q.1 ∧ P p.2 q.2) (setD (enc k) v es) (stored kvs k val) := by
  have key : All2 (fun p q => p.1 = enc q.1 ∧ P p.2 q.2) (setD (enc k) v es) (if (kvs.any fun kv => decide (kv.1 = k)) = true then kvs.map (fun kv => if kv.1 = k then (kv.1, val) else kv) else kvs ++ [(k, val)]) := by
    induction h with
    | nil => exact .cons ⟨rfl, hv⟩ .nil
    | @cons a b l r x y ih =>
      obtain ⟨a1, a2⟩ := a
      obtain ⟨b1, b2⟩ := b
      obtain ⟨x1, x2⟩ := x
      dsimp only at x1 x2
      simp only [List.map_cons, List.nodup_cons] at nd
      unfold setD
      by_cases hk : b1 = k
      · subst hk
        rw [if_pos x1]
        simp only [List.any_cons, decide_true, Bool.true_or, if_true, List.map_cons]
        rw [map_off nd.1]
        exact .cons ⟨x1, hv⟩ y
      · rw [if_neg (fun z => hk (inj _ _ (x1.symm.trans z)))]
        simp only [List.any_cons, hk, decide_false, Bool.false_or, List.map_cons, if_false]
        have := ih nd.2
        split
        · rename_i q; rw [if_pos q] at this; exact .cons ⟨x1, x2⟩ this
        · rename_i q; rw [if_neg q] at this; exact .cons ⟨x1, x2⟩ this
  exact key
theorem filter_off {k : KT} : ∀ {kvs : List (KT × Value)}, k ∉ kvs.map (·.1) → kvs.filter (fun kv => decide (kv.1 ≠ k)) = kvs
  | [], _ => rfl
  | (b1, b2) :: r, h => by
    simp only [List.map_cons, List.mem_cons, not_or] at h
    rw [List.filter_cons, filter_off h.2, if_pos (by simpa using fun z : b1 = k => h.1 z.symm)]
theorem ddrop (inj : ∀ a b, enc a = enc b → a = b) {es : List (V × V)} {kvs : List (KT × Value)} (h : All2 (fun p q => p.1 = enc q.1 ∧ P p.2 q.2) es kvs) (nd : (kvs.map (·.1)).Nodup) {k : KT} :
    All2 (fun p q => p.1 = enc q.1 ∧ P p.2 q.2) (dropD (enc k) es) (without kvs k) := by
  unfold without
  induction h with
  | nil => exact .nil
  | @cons a b l r x y ih =>
    obtain ⟨a1, a2⟩ := a
    obtain ⟨b1, b2⟩ := b
    obtain ⟨x1, x2⟩ := x
    dsimp only at x1 x2
    simp only [List.map_cons, List.nodup_cons] at nd
    unfold dropD
    by_cases hk : b1 = k
    · subst hk
      rw [if_pos x1, List.filter_cons, if_neg (by simp), filter_off nd.1]
      exact y
    · rw [if_neg (fun z => hk (inj _ _ (x1.symm.trans z))), List.filter_cons, if_pos (by simpa using hk)]
      exact .cons ⟨x1, x2⟩ (ih nd.2)
end
theorem strInj (a b : Str) (h : V.str a = V.str b) : a = b := by cases h; rfl
theorem intInj (a b : Int) (h : V.int a = V.int b) : a = b := by cases h; rfl
theorem getD_mem {es : List (V × V)} {i v : V} (e : getD i es = some v) : ∃ p ∈ es, p.1 = i := by
  induction es with
  | nil => cases e
  | cons a r ih =>
    obtain ⟨a1, a2⟩ := a
    unfold getD at e
    split at e
    · rename_i z; exact ⟨_, .head _, z⟩
    · obtain ⟨p, x, y⟩ := ih e; exact ⟨p, .tail _ x, y⟩
theorem allStr_set {es : List (V × V)} {k : Str} {v : V} (h : allStr es) : allStr (setD (.str k) v es) := by
  induction es with
  | nil => intro p hp; simp [setD] at hp; exact ⟨k, by rw [hp]⟩
  | cons a r ih =>
    obtain ⟨a1, a2⟩ := a
    have h1 := h (a1, a2) (.head _)
    have h2 : allStr r := fun p hp => h p (.tail _ hp)
    unfold setD
    split
    · intro p hp; rcases List.mem_cons.mp hp with rfl | hp
      · exact h1
      · exact h2 p hp
    · intro p hp; rcases List.mem_cons.mp hp with rfl | hp
      · exact h1
      · exact ih h2 p hp
theorem allInt_set {es : List (V × V)} {k : Int} {v : V} (h : allInt es) : allInt (setD (.int k) v es) := by
  induction es with
  | nil => intro p hp; simp [setD] at hp; exact ⟨k, by rw [hp]⟩
  | cons a r ih =>
    obtain ⟨a1, a2⟩ := a
    have h1 := h (a1, a2) (.head _)
    have h2 : allInt r := fun p hp => h p (.tail _ hp)
    unfold setD
    split
    · intro p hp; rcases List.mem_cons.mp hp with rfl | hp
      · exact h1
      · exact h2 p hp
    · intro p hp; rcases List.mem_cons.mp hp with rfl | hp
      · exact h1
      · exact ih h2 p hp
theorem setD_len (k v : V) : ∀ es : List (V × V), es.length ≤ (setD k v es).length
  | [] => Nat.zero_le _
  | (a1, a2) :: r => by
    have := setD_len k v r
    unfold setD; split <;> simp <;> omega
theorem setD_ne {es : List (V × V)} {k v : V} : setD k v es ≠ [] := by
  cases es with
  | nil => simp [setD]
  | cons a r => obtain ⟨a1, a2⟩ := a; unfold setD; split <;> simp

section
variable {K : Frag} {w : World} {prog : Program} {X : Fx} {m : NsMap} {ex : List (Addr × Obj)} {XR : XRel} {cs cs₀ : List CO} {μ : Mem} {s : Shared}
/-- the post behind a change of one object -/
theorem post_set {a : Nat} {o : MO} {c : CO} {ob : Obj} {h' : Heap} {Q : Unit → Shared → Prop} {E : Value → Shared → Prop} {tk : Nat} {r : Out Unit × Mem} (S : SR K w prog X m ex cs μ s) (e : setM a o μ = some r) (p : Post K w prog X ex cs XR (UQ m) Q E r)
    (hc : cs[a]? = some c) (hd : c.d = none) (hs : Heap.SameBut c.x s.heap h') (he : h'.get? c.x = some ob) (ho : OR K w prog (adr cs) o ⟨c.x, ob, none⟩) : Q () { s with heap := h', toks := tk } := by
  unfold setM at e
  split at e
  · rename_i hz
    cases e
    have ha := adr_set (c' := ⟨c.x, ob, none⟩) hc rfl
    refine p _ (cs.set a ⟨c.x, ob, none⟩) m () (by rw [ha]; exact Grow.refl _) ⟨S.1.change hz.2 hz.1 hc (by simp [CO.ents]) hs.2 rfl (by simp [CO.ents, hd]) (fun q hq => ?_) ho, S.2⟩ rfl
    simp only [CO.ents, Option.toList_none, List.mem_cons, List.not_mem_nil, or_false] at hq
    rw [hq]; exact he
  · cases e
theorem co_at (S : SR K w prog X m ex cs μ s) {a : Nat} {x : Addr} (hx : (adr cs)[a]? = some x) {o : MO} (hm : μ[a]? = some o) : ∃ c, cs[a]? = some c ∧ c.x = x ∧ OR K w prog (adr cs) o c ∧ s.heap.get? c.x = some c.o ∧ c.x ≠ sysModules := by
  obtain ⟨c, hc, ho⟩ := S.1.O.get hm
  have : (adr cs)[a]? = some c.x := by unfold adr; rw [List.getElem?_map, hc]; rfl
  rw [this] at hx; cases hx
  have := S.1.led _ (List.mem_append_right _ (nw_mem (List.mem_of_getElem? hc) (.head _)))
  exact ⟨c, hc, rfl, ho, this.1, this.2.2⟩

/-- what an item's look needs: the slice is no cut -/
def noCut : Expr → Bool
  | .Slice _ _ none _ => false
  | _ => true
theorem subscripted_item {slice : Expr} (h : noCut slice = true) (o i : Value) : subscripted slice false o i = PySem.operate [o, i] (getItem o i) := by
  cases slice <;> try rfl
  rename_i l u st p
  cases st with
  | none => cases h
  | some _ => rfl

theorem dictGet {es : List (V × V)} {c : CO} {i v : V} {vi : Value} {A : Around} {Q : Value → Shared → Prop} {E : Value → Shared → Prop} (ho : OR K w prog (adr cs) (.dict es) c) (hg : s.heap.get? c.x = some c.o) (hi : VR K (adr cs) i vi) (hk : isKey i = true)
    (e : getD i es = some v) (q : ∀ val tk, VR K (adr cs) v val → Q val { s with toks := tk }) : wpAny (model prog w) A (getItem (.ref c.x) vi) Q E s := by
  obtain ⟨_, h2, _⟩ := ho
  rcases h2 with ⟨hs, kvs, hd, hp⟩ | ⟨hs, kvs, hd, hp⟩
  · cases i <;> first | cases hk | skip
    · rename_i k
      exfalso
      obtain ⟨p1, hp1, hp2⟩ := getD_mem e
      obtain ⟨x, hx⟩ := hs p1 hp1
      rw [hp2] at hx; cases hx
    · rename_i k
      obtain ⟨t, rfl⟩ := hi.str_inv
      obtain ⟨val, h1, h2⟩ := dget_some (P := VR K (adr cs)) strInj hp e
      exact wpAny_getItem_of (strKind_is prog w k t) (Heap.dictOf_iff.mpr ⟨_, hg, hd⟩).mapOf h1 (q val _ h2)
  · cases i <;> first | cases hk | skip
    · rename_i k
      obtain ⟨t, rfl⟩ := hi.int_inv
      obtain ⟨val, h1, h2⟩ := dget_some (P := VR K (adr cs)) intInj hp e
      exact wpAny_getItem_of (intKind_is prog w k t) (Heap.dictOf_iff.mpr ⟨_, hg, hd⟩).mapOf h1 (q val _ h2)
    · rename_i k
      exfalso
      obtain ⟨p1, hp1, hp2⟩ := getD_mem e
      obtain ⟨x, hx⟩ := hs p1 hp1
      rw [hp2] at hx; cases hx

theorem itemM_snd {value slice : Expr} {o i : V} {vo vi : Value} (hn : noCut slice = true) (ho : VR K (adr cs₀) o vo) (hi : VR K (adr cs₀) i vi) : Snd K w prog X ex XR m cs₀ (subscriptTail value slice vo vi) (itemM o i) (VQ K m) := fun cs μ s r Q E g S e p => by
  unfold itemM at e
  split at e
  · rename_i a
    obtain ⟨x, rfl, hx⟩ := ho.ref_inv
    rcases bnd_some e with ⟨_, _, _, q, _⟩ | ⟨o', μ', q, e⟩
    · obtain ⟨_, _, z⟩ := getM_some q; cases z
    obtain ⟨o'', hm, z⟩ := getM_some q
    cases z
    obtain ⟨c, hc, rfl, hO, hg, hns⟩ := co_at S (g.at hx) hm
    cases o' with
    | src xs => cases e
    | list xs =>
      cases i with
      | int k =>
        dsimp only at e
        obtain ⟨t, rfl⟩ := hi.int_inv
        split at e
        · rename_i hk
          unfold opt at e
          cases hv : xs[k.toNat]? with
          | none => rw [hv] at e; cases e
          | some v =>
            rw [hv] at e; cases e
            obtain ⟨vs, n, h1, h2, h3⟩ := hO
            obtain ⟨val, h4, h5⟩ := h3.get hv
            have hl : s.heap.IsList c.x vs.toArray := ⟨_, h1 ▸ hg, rfl, n, rfl⟩
            have hs := hk.2
            simp only [small, decide_eq_true_eq] at hs
            exact tail_any hl.typeIs slot_list_getitem.lookup (wpAny_getItem_list hl hk.1 (by omega) (by simpa using h4) (p s cs m val (Grow.refl _) S ⟨rfl, h5⟩)) (subscripted_item hn _ _)
        · cases e
      | _ => cases e
    | tup xs =>
      cases i with
      | int k =>
        dsimp only at e
        obtain ⟨t, rfl⟩ := hi.int_inv
        split at e
        · rename_i hk
          unfold opt at e
          cases hv : xs[k.toNat]? with
          | none => rw [hv] at e; cases e
          | some v =>
            rw [hv] at e; cases e
            obtain ⟨vs, n, h1, h2, h3⟩ := hO
            obtain ⟨val, h4, h5⟩ := h3.get hv
            have ht : IsTup s.heap c.x vs.toArray := ⟨_, h1 ▸ hg, rfl, n, rfl⟩
            have hs := hk.2
            simp only [small, decide_eq_true_eq] at hs
            have hlt : k.toNat < vs.length := (List.getElem?_eq_some_iff.mp h4).1
            refine tail_any (T := "tuple") ⟨_, hg, by rw [h1]⟩ slot_tuple_getitem.lookup (getItem_tuple ht (by omega) (by omega) (j := k.toNat) ?_ (by simpa using h4) (p s cs m val (Grow.refl _) S ⟨rfl, h5⟩)) (subscripted_item hn _ _)
            unfold seqIndex?
            simp only [List.size_toArray]
            rw [if_neg (show ¬ k < 0 by omega)]
            rw [if_pos (by simp only [Bool.and_eq_true, decide_eq_true_eq]; omega)]
        · cases e
      | _ => cases e
    | dict es =>
      dsimp only at e
      split at e
      · rename_i hk
        unfold opt at e
        cases hv : Mine.getD i es with
        | none => rw [hv] at e; cases e
        | some v =>
          rw [hv] at e; cases e
          refine tail_any (T := "dict") ?_ slot_dict_getitem.lookup (dictGet hO hg (hi.grow g) hk hv fun val tk h5 => p _ cs m val (Grow.refl _) S ⟨rfl, h5⟩) (subscripted_item hn _ _)
          obtain ⟨_, h2, _⟩ := hO
          rcases h2 with ⟨_, kvs, hd, _⟩ | ⟨_, kvs, hd, _⟩
          · exact (Heap.dictOf_iff.mpr ⟨_, hg, hd⟩).mapOf.typeIs
          · exact (Heap.dictOf_iff.mpr ⟨_, hg, hd⟩).mapOf.typeIs
      · cases e
    | inst _ _ => cases e
  · cases e

theorem setItem_snd {o i v : V} {vo vi vv : Value} (ho : VR K (adr cs₀) o vo) (hi : VR K (adr cs₀) i vi) (hv : VR K (adr cs₀) v vv) : Snd K w prog X ex XR m cs₀ (setItem vo vi vv) (putItemM o i v) (UQ m) := fun cs μ s r Q E g S e p => by
  unfold putItemM at e
  split at e
  · rename_i a
    obtain ⟨x, rfl, hx⟩ := ho.ref_inv
    rcases bnd_some e with ⟨_, _, _, q, _⟩ | ⟨o', μ', q, e⟩
    · obtain ⟨_, _, z⟩ := getM_some q; cases z
    obtain ⟨o'', hm, z⟩ := getM_some q
    cases z
    obtain ⟨c, hc, rfl, hO, hg, hns⟩ := co_at S (g.at hx) hm
    cases o' with
    | src xs => cases e
    | list xs =>
      cases i with
      | int k =>
        dsimp only at e
        obtain ⟨t, rfl⟩ := hi.int_inv
        split at e
        · rename_i hk
          obtain ⟨vs, n, h1, h2, h3⟩ := hO
          have hs := hk.2.1
          simp only [small, decide_eq_true_eq] at hs
          refine setItem_int (h1 ▸ hg) hk.1 (by omega) rfl (by rw [← h3.length]; exact hk.2.2) fun h' n' he hsb => ?_
          exact post_set (tk := s.toks) S e p hc h2 hsb he ⟨_, n', rfl, rfl, h3.set (hv.grow g)⟩
        · cases e
      | _ => cases e
    | dict es =>
      dsimp only at e
      split at e
      · rename_i hk
        obtain ⟨h1, h2, h3⟩ := hO
        have hz : es.length ≤ big := by
          have := hk
          unfold setM at e
          split at e
          · rename_i q
            have q1 := q.1
            simp only [szOk, decide_eq_true_eq] at q1
            refine Nat.le_trans ?_ q1
            exact setD_len i v es
          · cases e
        have hbl := big_line
        have strCase : ∀ {k : Str} {t : Tok} {kvs : List (Str × Value)}, i = .str k → vi = .str k t → allStr es → c.o.IsDictOf (strKind prog w) kvs → All2 (fun p q => p.1 = .str q.1 ∧ VR K (adr cs) p.2 q.2) es kvs →
            wpAny (model prog w) X.A (setItem (.ref c.x) vi vv) Q E s := by
          rintro k t kvs rfl rfl hs hd hp
          obtain ⟨es', ep', _, _, _, _, nd⟩ := id hd
          refine wpAny_setItem_pairs (hsz := ?_) (strKind_is prog w k t) (Heap.dictOf_iff.mpr ⟨_, hg, hd⟩) fun h' hd' hsb => ?_
          · obtain ⟨ob, he, hd''⟩ := Heap.dictOf_iff.mp hd'
            exact post_set S e p hc h1 hsb he ⟨rfl, .inl ⟨allStr_set hs, _, hd'', dset strInj hp nd (hv.grow g)⟩, fun z => absurd z setD_ne⟩
          · rw [← hp.length]; omega
        have intCase : ∀ {k : Int} {t : Tok} {kvs : List (Int × Value)}, i = .int k → vi = .int k t → allInt es → c.o.IsDictOf (intKind prog w) kvs → All2 (fun p q => p.1 = .int q.1 ∧ VR K (adr cs) p.2 q.2) es kvs →
            wpAny (model prog w) X.A (setItem (.ref c.x) vi vv) Q E s := by
          rintro k t kvs rfl rfl hs hd hp
          obtain ⟨es', ep', _, _, _, _, nd⟩ := id hd
          refine wpAny_setItem_pairs (hsz := ?_) (intKind_is prog w k t) (Heap.dictOf_iff.mpr ⟨_, hg, hd⟩) fun h' hd' hsb => ?_
          · obtain ⟨ob, he, hd''⟩ := Heap.dictOf_iff.mp hd'
            exact post_set S e p hc h1 hsb he ⟨rfl, .inr ⟨allInt_set hs, _, hd'', dset intInj hp nd (hv.grow g)⟩, fun z => absurd z setD_ne⟩
          · rw [← hp.length]; omega
        cases i with
        | str k =>
          obtain ⟨t, rfl⟩ := hi.str_inv
          by_cases hnil : es = []
          · subst hnil; exact strCase rfl rfl (fun _ hp => nomatch hp) (h3 rfl).1 .nil
          · rcases h2 with ⟨hs, kvs, hd, hp⟩ | ⟨hs, kvs, hd, hp⟩
            · exact strCase rfl rfl hs hd hp
            · exfalso
              obtain ⟨⟨y, z⟩, r', rfl⟩ : ∃ p r', es = p :: r' := by cases es with | nil => exact absurd rfl hnil | cons p r' => exact ⟨p, r', rfl⟩
              obtain ⟨j, hj⟩ := hs (y, z) (.head _)
              dsimp only at hj
              rw [hj] at hk; cases hk
        | int k =>
          obtain ⟨t, rfl⟩ := hi.int_inv
          by_cases hnil : es = []
          · subst hnil; exact intCase rfl rfl (fun _ hp => nomatch hp) (h3 rfl).2 .nil
          · rcases h2 with ⟨hs, kvs, hd, hp⟩ | ⟨hs, kvs, hd, hp⟩
            · exfalso
              obtain ⟨⟨y, z⟩, r', rfl⟩ : ∃ p r', es = p :: r' := by cases es with | nil => exact absurd rfl hnil | cons p r' => exact ⟨p, r', rfl⟩
              obtain ⟨j, hj⟩ := hs (y, z) (.head _)
              dsimp only at hj
              rw [hj] at hk; cases hk
            · exact intCase rfl rfl hs hd hp
        | _ => cases es <;> cases hk
      · cases e
    | tup _ => cases e
    | inst _ _ => cases e
  · cases e
end
/-! ## Slices -/
theorem bounds_cut (lo hi : Option Int) (n : Nat) : ∃ a b : Nat, a ≤ n ∧ b ≤ n ∧ sliceBounds lo hi none n = ((a : Int), (b : Int), 1) ∧
    a = (match lo with | none => 0 | some i => cutAt n i) ∧ b = (match hi with | none => n | some i => cutAt n i) := by
  have cut : ∀ i : Int, cutAt n i ≤ n ∧ ((cutAt n i : Nat) : Int) = max 0 (min (if i < 0 then i + n else i) n) := fun i => by
    unfold cutAt
    split
    · rename_i h; omega
    · rename_i h; omega
  refine ⟨(match lo with | none => 0 | some i => cutAt n i), (match hi with | none => n | some i => cutAt n i), ?_, ?_, ?_, rfl, rfl⟩
  · cases lo with
    | none => exact Nat.zero_le _
    | some i => exact (cut i).1
  · cases hi with
    | none => exact Nat.le_refl _
    | some i => exact (cut i).1
  · cases lo with
    | none => cases hi with
      | none => rfl
      | some j => simp only [sliceBounds, (cut j).2]; rfl
    | some i => cases hi with
      | none => simp only [sliceBounds, (cut i).2]; rfl
      | some j => simp only [sliceBounds, (cut i).2, (cut j).2]; rfl
theorem pick_cut (vs : List Value) (lo hi : Option Int) {a b : Nat} (ha : a ≤ vs.length) (hb : b ≤ vs.length) (e : sliceBounds lo hi none vs.length = ((a : Int), (b : Int), 1)) : slicePick vs.toArray lo hi none = ((vs.take b).drop a).toArray := by
  have e2 : sliceBounds (some (a : Int)) (some (b : Int)) none vs.toArray.size = ((a : Int), (b : Int), 1) := by
    obtain ⟨a', b', _, _, h, h1, h2⟩ := bounds_cut (some (a : Int)) (some (b : Int)) vs.length
    simp only [List.size_toArray]
    rw [h]
    have t1 : a' = a := by rw [h1]; simp only [cutAt]; split <;> omega
    have t2 : b' = b := by rw [h2]; simp only [cutAt]; split <;> omega
    rw [t1, t2]
  have e3 : slicePick vs.toArray lo hi none = slicePick vs.toArray (some (a : Int)) (some (b : Int)) none := by
    unfold slicePick
    rw [e2]
    simp only [List.size_toArray, e]
  rw [e3]
  by_cases hab : a ≤ b
  · rw [slicePick_run _ _ _ (by simpa using hb) hab]
    simp only [List.drop_take]
  · unfold slicePick
    rw [e2]
    have : sliceRange (a : Int) (b : Int) 1 = [] := by
      unfold sliceRange
      simp
      omega
    rw [this]
    have h2 : (vs.take b).drop a = [] := List.drop_eq_nil_of_le (by simp; omega)
    rw [h2]
    rfl
def partOf : V → Option Int
  | .int i => some i
  | _ => none
theorem slice_parts {xs : List V} {l u : V} {q : Nat × Nat} (h : sliceOf xs l u = some q) : (l = .none ∨ ∃ i, l = .int i) ∧ (u = .none ∨ ∃ i, u = .int i) ∧
    q = ((match partOf l with | none => 0 | some i => cutAt xs.length i), (match partOf u with | none => xs.length | some i => cutAt xs.length i)) := by
  unfold sliceOf at h
  split at h
  · cases h; exact ⟨.inl rfl, .inl rfl, rfl⟩
  · split at h <;> cases h; exact ⟨.inr ⟨_, rfl⟩, .inl rfl, rfl⟩
  · split at h <;> cases h; exact ⟨.inl rfl, .inr ⟨_, rfl⟩, rfl⟩
  · split at h <;> cases h; exact ⟨.inr ⟨_, rfl⟩, .inr ⟨_, rfl⟩, rfl⟩
  · cases h
theorem isPart_of {K : Frag} {as : List Addr} {l : V} {vl : Value} (h : l = .none ∨ ∃ i, l = .int i) (r : VR K as l vl) : IsPart vl (partOf l) := by
  rcases h with rfl | ⟨i, rfl⟩
  · rw [r.none_inv]; exact .none
  · obtain ⟨t, rfl⟩ := r.int_inv; exact .int i t
section
variable {K : Frag} {w : World} {prog : Program} {X : Fx} {m : NsMap} {ex : List (Addr × Obj)} {XR : XRel} {cs cs₀ : List CO} {μ : Mem} {s : Shared}
theorem szList (S : SR K w prog X m ex cs μ s) {a : Nat} {xs : List V} (h : μ[a]? = some (.list xs)) : xs.length ≤ big := by
  have := S.1.szs _ (List.mem_of_getElem? h)
  simpa [szOk] using this
abbrev sliceObj (vl vu : Value) : Obj := { cls := .type "slice", data := .fields #[vl, vu, .none] }
theorem SR.push (S : SR K w prog X m ex cs μ s) (o : Obj) : SR K w prog X m ex cs μ { s with heap := s.heap.push o } := ⟨S.1.keep fun _ _ e => Heap.get?_push_of_some _ e, S.2⟩
theorem newFields_slice {A : Around} {M : Model} {vl vu : Value} {Q : Value → Shared → Prop} {E : Value → Shared → Prop} (h : Q (.ref s.heap.objs.size) { s with heap := s.heap.push (sliceObj vl vu) }) :
    wpAny M A (newFields "slice" [vl, vu, .none]) Q E s := wpAny_newObj_type h (by show 3 ≤ sizeLine + 2; decide)

/-- the cut out of a list, behind the slice's own object -/
theorem srcOfM_some {v : V} {r : Out (List V) × Mem} (e : srcOfM v μ = some r) : ∃ a xs, v = .ref a ∧ (μ[a]? = some (.list xs) ∨ μ[a]? = some (.src xs)) ∧ r = (.ok xs, μ) := by
  unfold srcOfM at e
  split at e
  · rename_i a
    rcases bnd_some e with ⟨_, _, _, q, _⟩ | ⟨o, μ', q, e⟩
    · obtain ⟨_, _, z⟩ := getM_some q; cases z
    obtain ⟨o', hm, z⟩ := getM_some q
    cases z
    cases o with
    | list xs => cases e; exact ⟨a, xs, rfl, .inl hm, rfl⟩
    | src xs => cases e; exact ⟨a, xs, rfl, .inr hm, rfl⟩
    | _ => cases e
  · cases e
theorem isSrc_at (S : SR K w prog X m ex cs μ s) {a : Nat} {x : Addr} (hx : (adr cs)[a]? = some x) {xs : List V} (hm : μ[a]? = some (.list xs) ∨ μ[a]? = some (.src xs)) :
    ∃ vs, s.heap.IsList x vs.toArray ∧ All2 (VR K (adr cs)) xs vs := by
  rcases hm with hm | hm
  · obtain ⟨vs, n, h1, h2, h3⟩ := isList_at S hx hm; exact ⟨vs, h2, h3⟩
  · obtain ⟨c, hc, rfl, ⟨vs, n, h1, h2, h3, h4⟩, ho⟩ := list_at S hx hm
    exact ⟨vs, ⟨_, ho, h1, n, h2⟩, h4⟩
theorem sliceM_snd {value : Expr} {lo up : Option Expr} {p pos : Pos} {o l u : V} {vo vl vu : Value} (ho : VR K (adr cs₀) o vo) (hl : VR K (adr cs₀) l vl) (hu : VR K (adr cs₀) u vu) :
    ∀ cs μ s r Q E, Grow (adr cs₀) (adr cs) → SR K w prog X m ex cs μ s → sliceM o l u μ = some r → Post K w prog X ex cs XR (VQ K m) Q E r →
    wpAny (model prog w) X.A (newFields "slice" [vl, vu, .none]) (fun i s' => wpAny (model prog w) X.A (standAt pos >>= fun _ => subscriptTail value (.Slice lo up none p) vo i) Q E s') E s := fun cs μ s r Q E g S e q => by
  unfold sliceM at e
  rcases bnd_some e with ⟨_, _, _, z, _⟩ | ⟨xs, μ', z, e⟩
  · obtain ⟨_, _, _, _, z⟩ := srcOfM_some z; cases z
  obtain ⟨a, _, rfl, hm, z'⟩ := srcOfM_some z
  cases z'
  rcases bnd_some e with ⟨_, _, _, z, _⟩ | ⟨qq, μ', z, e⟩
  · unfold opt at z; cases h : sliceOf xs l u with | none => rw [h] at z; cases z | some _ => rw [h] at z; cases z
  have hq : sliceOf xs l u = some qq ∧ μ' = μ := by
    unfold opt at z; cases h : sliceOf xs l u with | none => rw [h] at z; cases z | some _ => rw [h] at z; cases z; exact ⟨rfl, rfl⟩
  obtain ⟨hq, rfl⟩ := hq
  obtain ⟨pl, pu, rfl⟩ := slice_parts hq
  obtain ⟨x, rfl, hx⟩ := ho.ref_inv
  obtain ⟨vs, h2, h3⟩ := isSrc_at S (g.at hx) hm
  obtain ⟨ca, cb, ha, hb, hbd, ea, eb⟩ := bounds_cut (partOf l) (partOf u) vs.length
  have hz := newM_sz e
  have hlen := h3.length
  dsimp only at e hz
  refine newFields_slice (wpAny_bind (wpAny_standAt ?_))
  have S' := S.push (sliceObj vl vu)
  have hl' : (s.heap.push (sliceObj vl vu)).IsList x vs.toArray := h2.push _
  refine tail_any (s := { s with heap := s.heap.push (sliceObj vl vu) }) hl'.typeIs slot_list_getitem.lookup
    (wpAny_getItem_list_slice hl' (Heap.IsSliceOf.new ..) (isPart_of pl hl) (isPart_of pu hu) .none (by simp) ?_ ?_) rfl
  · rw [pick_cut vs _ _ ha hb hbd]
    obtain ⟨lo', hlo, N⟩ := S'.1.news
    have hn : (s.heap.push (sliceObj vl vu)).objs.size = ({ s with heap := s.heap.push (sliceObj vl vu) } : Shared).heap.objs.size := rfl
    refine post_new (tk := s.toks) (s := { s with heap := s.heap.push (sliceObj vl vu) }) S' e q hlo (S'.1.fr.push _) (News.push S'.1.fr N _) ⟨(vs.take cb).drop ca, 0, rfl, rfl, ?_⟩
    rw [ea, eb, ← hlen]
    exact ((h3.take _).drop _).mono fun _ _ z => z.grow (adr_push _ _)
  · have hb1 : big = 1000 := rfl
    simp only [List.size_toArray]
    rw [← hlen]
    refine Nat.le_trans ?_ big_line
    rcases hm with hm | hm
    · exact szList S hm
    · have := S.1.szs _ (List.mem_of_getElem? hm)
      simpa only [szOk, decide_eq_true_eq] using this

/-- a slice of a list is stored, behind the slice's own object -/
theorem putSliceM_snd {o l u v : V} {vo vl vu vv : Value} (ho : VR K (adr cs₀) o vo) (hl : VR K (adr cs₀) l vl) (hu : VR K (adr cs₀) u vu) (hv : VR K (adr cs₀) v vv) (sa : Addr) :
    ∀ cs μ s r Q E, Grow (adr cs₀) (adr cs) → SR K w prog X m ex cs μ s → s.heap.IsSliceOf sa vl vu .none → putSliceM o l u v μ = some r → Post K w prog X ex cs XR (UQ m) Q E r → wpAny (model prog w) X.A (setItem vo (.ref sa) vv) Q E s := by
  intro cs μ s r Q E g S hsl e q
  unfold putSliceM at e
  rcases bnd_some e with ⟨_, _, _, z, _⟩ | ⟨pr, μ', z, e⟩
  · obtain ⟨_, _, _, _, z⟩ := listOfM_some z; cases z
  obtain ⟨a, xs, rfl, hm, z'⟩ := listOfM_some z
  cases z'
  rcases bnd_some e with ⟨_, _, _, z, _⟩ | ⟨pr, μ', z, e⟩
  · obtain ⟨_, _, _, _, z⟩ := listOfM_some z; cases z
  obtain ⟨b, ys, rfl, hm2, z'⟩ := listOfM_some z
  cases z'
  rcases bnd_some e with ⟨_, _, _, z, _⟩ | ⟨qq, μ', z, e⟩
  · unfold opt at z; dsimp only at z; cases h : sliceOf xs l u with | none => rw [h] at z; cases z | some _ => rw [h] at z; cases z
  have hq : sliceOf xs l u = some qq ∧ μ' = μ := by
    unfold opt at z; dsimp only at z; cases h : sliceOf xs l u with | none => rw [h] at z; cases z | some _ => rw [h] at z; cases z; exact ⟨rfl, rfl⟩
  obtain ⟨hq, rfl⟩ := hq
  obtain ⟨pl, pu, rfl⟩ := slice_parts hq
  obtain ⟨x, rfl, hx⟩ := ho.ref_inv
  obtain ⟨y, rfl, hy⟩ := hv.ref_inv
  dsimp only at e
  split at e
  · rename_i hab
    obtain ⟨c, hc, rfl, ⟨vs, n, h1, h2, h3⟩, hg, hns⟩ := co_at S (g.at hx) hm
    obtain ⟨c2, hc2, rfl, ⟨ws, n2, h4, h5, h6⟩, hg2, _⟩ := co_at S (g.at hy) hm2
    obtain ⟨ca, cb, ha, hb, hbd, ea, eb⟩ := bounds_cut (partOf l) (partOf u) vs.length
    have hlen := h3.length
    have hlen2 := h6.length
    have hne : (c.x == c2.x) = false := by
      rw [beq_eq_false_iff_ne]
      intro z
      apply hab
      by_cases q2 : a = b
      · exact q2
      · exfalso
        have hd := S.1.dist
        have hd2 := (List.nodup_append.mp hd).2.1
        rw [List.map_append] at hd2
        have hd3 := (List.nodup_append.mp hd2).2.1
        have key : ∀ {cs : List CO} {a b : Nat} {c c2 : CO}, ((nw cs).map (·.1)).Nodup → cs[a]? = some c → cs[b]? = some c2 → a < b → c.x = c2.x → False := by
          intro cs
          induction cs with
          | nil => intro a b c c2 _ h; simp at h
          | cons d r ih =>
            intro a b c c2 hn h1 h2 hlt e
            have hn' : (d.ents.map (·.1) ++ (nw r).map (·.1)).Nodup := by rw [← List.map_append]; exact hn
            cases a with
            | zero =>
              simp at h1
              subst h1
              cases b with
              | zero => omega
              | succ b =>
                have hm : c2 ∈ r := List.mem_of_getElem? (by simpa using h2)
                exact (List.nodup_append.mp hn').2.2 d.x (by simp [CO.ents]) c2.x (List.mem_map.mpr ⟨_, nw_mem hm (.head _), rfl⟩) e
            | succ a =>
              cases b with
              | zero => omega
              | succ b => exact ih (List.nodup_append.mp hn').2.1 (by simpa using h1) (by simpa using h2) (by omega) e
        rcases Nat.lt_or_gt_of_ne q2 with hlt | hlt
        · exact key hd3 hc hc2 hlt z
        · exact key hd3 hc2 hc hlt z.symm
    have hsz : (xs.take (match partOf l with | none => 0 | some i => cutAt xs.length i) ++ ys ++ xs.drop (max (match partOf l with | none => 0 | some i => cutAt xs.length i) (match partOf u with | none => xs.length | some i => cutAt xs.length i))).length ≤ big := by
      have := (setM_some e).1
      simpa [szOk] using this
    have hb1 : big = 1000 := rfl
    have := szList S hm
    have := szList S hm2
    refine setItem_slice (n := n) (n2 := n2) (by rw [hg, h1]) (by rw [hg2, h4]) hsl (isPart_of pl hl) (isPart_of pu hu) hne (by rw [← hlen, ← hlen2]; omega) fun h' n' he hsb => ?_
    refine post_set (tk := s.toks) S e q hc h2 hsb he ⟨_, n', rfl, rfl, ?_⟩
    rw [hbd, ea, eb, ← hlen]
    simp only [Int.toNat_natCast]
    refine ((h3.take _).append h6).append ?_
    have e9 : ∀ i j : Nat, (max (i : Int) (j : Int)).toNat = max i j := fun i j => by omega
    rw [e9]
    exact h3.drop _
  · cases e
end
/-! ## Fields of instances, their methods -/
section
variable {K : Frag} {w : World} {prog : Program} {X : Fx} {m : NsMap} {ex : List (Addr × Obj)} {XR : XRel} {cs cs₀ : List CO} {μ : Mem} {s : Shared} {mg mb : NsMap} {n : Nat}
structure ClsOk (K : Frag) (C : Addr) (fs : List Str) (ms : List (Str × Addr)) : Prop where
  makes : makesIn K C = true
  hasDict : hasDictIn K C = true
  get : plainGet K C "" = true
  set : findIn K (.ref C) "__setattr__" = some (some (.builtin "object.__setattr__"))
  plain : plainOver K C = true
  keep : keepIn K (.ref C) = true
  field : ∀ f ∈ fs, findIn K (.ref C) f = some none ∧ takerIn K C f = some none
  meth : ∀ q ∈ ms, findIn K (.ref C) q.1 = some (some (.ref q.2)) ∧ isFn K (.ref q.2) = true
theorem cls_ok (h : clOk K = true) {C : Addr} {fs : List Str} {ms : List (Str × Addr)} (e : clT.lookup C = some (fs, ms)) : ClsOk K C fs ms := by
  have := List.all_eq_true.mp h _ (lookup_mem e)
  simp only [Bool.and_eq_true, beq_iff_eq, List.all_eq_true] at this
  obtain ⟨⟨⟨⟨⟨⟨⟨h1, h2⟩, h3⟩, h4⟩, h5⟩, h6⟩, h7⟩, h8⟩ := this
  exact ⟨h1, h2, h3, h4, h5, h6, h7, h8⟩
theorem plainGet_any {C : Addr} {x : Str} (h : plainGet K C "" = true) : plainGet K C x = true := h
theorem find_field {as : List Addr} {fs : Loc} {ds : List DictEntry} (h : All2 (FR K as) fs ds) {x : Str} {v : V} (e : fs.lookup x = some v) : ∃ en, ds.find? (·.key.isStr x) = some en ∧ VR K as v en.val := by
  induction h with
  | nil => cases e
  | @cons a b l r q z ih =>
    obtain ⟨a1, a2⟩ := a
    obtain ⟨⟨t, q1⟩, q2⟩ := q
    dsimp only at q1 q2
    rw [List.lookup_cons] at e
    rw [List.find?_cons]
    have e1 : b.key.isStr x = (a1 == x) := by rw [q1]; rfl
    rw [e1]
    by_cases hx : x = a1
    · subst hx
      simp only [beq_self_eq_true] at e ⊢
      cases e
      exact ⟨_, rfl, q2⟩
    · rw [beq_eq_false_iff_ne.mpr hx] at e
      rw [beq_eq_false_iff_ne.mpr (Ne.symm hx)]
      exact ih e
theorem getL_some {as : List Addr} {fs : Loc} {ds : List DictEntry} (h : All2 (FR K as) fs ds) {x : Str} {v : V} (e : fs.lookup x = some v) : ∃ val, getL x ds = some (some val) ∧ VR K as v val := by
  obtain ⟨en, h1, h2⟩ := find_field h e
  exact ⟨en.val, by unfold getL; rw [h1], h2⟩
theorem getL_none {as : List Addr} {fs : Loc} {ds : List DictEntry} (h : All2 (FR K as) fs ds) {x : Str} (e : fs.lookup x = none) : getL x ds = some none := by
  have h1 : ds.find? (·.key.isStr x) = none := by
    induction h with
    | nil => rfl
    | @cons a b l r q z ih =>
      obtain ⟨a1, a2⟩ := a
      obtain ⟨⟨t, q1⟩, q2⟩ := q
      dsimp only at q1 q2
      rw [List.lookup_cons] at e
      rw [List.find?_cons]
      have e1 : b.key.isStr x = (a1 == x) := by rw [q1]; rfl
      rw [e1]
      by_cases hx : x = a1
      · subst hx; simp at e
      · rw [beq_eq_false_iff_ne.mpr hx] at e
        rw [beq_eq_false_iff_ne.mpr (Ne.symm hx)]
        exact ih e
  have h2 : ds.any (·.refKey) = false := by
    clear h1 e
    induction h with
    | nil => rfl
    | @cons a b l r q z ih =>
      obtain ⟨⟨t, q1⟩, q2⟩ := q
      rw [List.any_cons, ih]
      have : b.refKey = false := by simp only [DictEntry.refKey, q1]
      rw [this]; rfl
  unfold getL
  rw [h1]
  simp only [h2, Bool.false_eq_true, if_false]
theorem putL_fields {as : List Addr} {fs : Loc} {ds : List DictEntry} (h : All2 (FR K as) fs ds) {x : Str} {v : V} {val : Value} {hsh : Int} {t : Tok} (hv : VR K as v val) : All2 (FR K as) (setL x v fs) (putL x hsh (.str x t) val ds) := by
  induction h with
  | nil => exact .cons ⟨⟨t, rfl⟩, hv⟩ .nil
  | @cons a b l r q z ih =>
    obtain ⟨a1, a2⟩ := a
    obtain ⟨⟨t', q1⟩, q2⟩ := q
    dsimp only at q1 q2
    have e1 : b.key.isStr x = (a1 == x) := by rw [q1]; rfl
    unfold setL putL
    rw [e1]
    by_cases hx : a1 = x
    · subst hx
      simp only [beq_self_eq_true, if_true]
      exact .cons ⟨⟨t', q1⟩, hv⟩ z
    · rw [if_neg hx, beq_eq_false_iff_ne.mpr hx]
      simp only [Bool.false_eq_true, if_false]
      exact .cons ⟨⟨t', q1⟩, q2⟩ ih
theorem handed_of {as : List Addr} {v : V} {val : Value} (h : VR K as v val) (p : plainV v = true) : handedIn val = true := by cases h <;> first | rfl | cases p

/-- an instance of the ledger's -/
theorem inst_at (S : SR K w prog X m ex cs μ s) {a : Nat} {x : Addr} (hx : (adr cs)[a]? = some x) {C : Addr} {fs : Loc} (hm : μ[a]? = some (.inst C fs)) :
    ∃ c dx ds n, cs[a]? = some c ∧ c.x = x ∧ c.o.dict = some dx ∧ c.d = some (dx, dictOf ds n) ∧ All2 (FR K (adr cs)) fs ds ∧ W.InstAt s.heap x c.o C (some (dictOf ds n)) ∧ c.o.cls = .ref C ∧ notCls c.o = true ∧ (C ≠ 483 → c.o = instObj C dx) := by
  obtain ⟨c, hc, rfl, ⟨dx, ds, n, h1, h2, h3, h4, h5, h6⟩, hg, _⟩ := co_at S hx hm
  refine ⟨c, dx, ds, n, hc, rfl, h3, h4, h5, ⟨hg, h1, h2, ?_⟩, h1, h2, h6⟩
  rw [h3]
  exact (S.1.led _ (List.mem_append_right _ (nw_mem (List.mem_of_getElem? hc) (by rw [CO.ents, h4]; exact .tail _ (.head _))))).1

theorem attrM_snd (T : FxOk K mg mb n X) {o : V} {vo : Value} {x : Str} {b : Bool} (ho : VR K (adr cs₀) o vo) : Snd K w prog X ex XR m cs₀ (getAttr vo x b) (attrM o x) (VQ K m) := fun cs μ s r Q E g S e p => by
  unfold attrM at e
  split at e
  · rename_i a
    obtain ⟨y, rfl, hx⟩ := ho.ref_inv
    rcases bnd_some e with ⟨_, _, _, q, _⟩ | ⟨o', μ', q, e⟩
    · obtain ⟨_, _, z⟩ := getM_some q; cases z
    obtain ⟨o'', hm, z⟩ := getM_some q
    cases z
    cases o' with
    | inst C fs =>
      dsimp only at e
      by_cases hf : (fieldsT C).contains x = true
      · rw [if_pos hf] at e
        cases hl : fs.lookup x with
        | some v =>
          rw [hl] at e
          dsimp only at e
          split at e
          · rename_i hp
            cases e
            obtain ⟨c, dx, ds, nn, hc, hcx, h3, h4, h5, I, _⟩ := inst_at S (g.at hx) hm
            unfold fieldsT at hf
            cases hcl : clT.lookup C with
            | none => rw [hcl] at hf; cases hf
            | some fm =>
              obtain ⟨fl, ml⟩ := fm
              rw [hcl] at hf
              have CO := cls_ok T.top.cl hcl
              obtain ⟨val, h6, h7⟩ := getL_some h5 hl
              have hfi := CO.field x (by simpa using hf)
              exact get_own S.1.fr T.top.inb I (plainGet_any CO.get) CO.hasDict hfi.1 rfl h6 (handed_of h7 hp) (p _ cs m val (Grow.refl _) S ⟨rfl, h7⟩)
          · cases e
        | none => rw [hl] at e; cases e
      · rw [if_neg hf] at e; cases e
    | _ => cases e
  · cases e
theorem upd_of {d : Addr} {o o' : Obj} : ∀ {l : List (Addr × Obj)}, (d, o) ∈ l → (l.map (·.1)).Nodup → Upd d o o' l (l.map fun q => if q.1 = d then (d, o') else q)
  | p :: r, hm, hn => by
    simp only [List.map_cons, List.nodup_cons] at hn
    rcases List.mem_cons.mp hm with rfl | hm
    · simp only [List.map_cons, if_true]
      have off : ∀ q ∈ r, q.1 ≠ d := fun q hq e => hn.1 (List.mem_map.mpr ⟨q, hq, e⟩)
      have : r.map (fun q => if q.1 = d then (d, o') else q) = r := by
        conv => rhs; rw [← List.map_id r]
        exact List.map_congr_left fun q hq => if_neg (off q hq)
      rw [this]
      exact Upd.head off
    · have : p.1 ≠ d := fun e => hn.1 (List.mem_map.mpr ⟨_, hm, e.symm⟩)
      simp only [List.map_cons, if_neg this]
      exact Upd.tail this (upd_of hm hn.2)

theorem putAttrM_snd (T : FxOk K mg mb n X) {o v : V} {vo vv : Value} {x : Str} (ho : VR K (adr cs₀) o vo) (hv : VR K (adr cs₀) v vv) : Snd K w prog X ex XR m cs₀ (setAttr vo x vv) (putAttrM o x v) (UQ m) := fun cs μ s r Q E g S e p => by
  unfold putAttrM at e
  split at e
  · rename_i a
    obtain ⟨y, rfl, hx⟩ := ho.ref_inv
    rcases bnd_some e with ⟨_, _, _, q, _⟩ | ⟨o', μ', q, e⟩
    · obtain ⟨_, _, z⟩ := getM_some q; cases z
    obtain ⟨o'', hm, z⟩ := getM_some q
    cases z
    cases o' with
    | inst C fs =>
      dsimp only at e
      split at e
      · rename_i hf
        obtain ⟨hz, h0, rfl⟩ := setM_some e
        obtain ⟨c, dx, ds, nn, hc, rfl, h3, h4, h5, I, hcls, hncls, hex⟩ := inst_at S (g.at hx) hm
        unfold fieldsT at hf
        cases hcl : clT.lookup C with
        | none => rw [hcl] at hf; cases hf
        | some fm =>
          obtain ⟨fl, ml⟩ := fm
          rw [hcl] at hf
          have CO' := cls_ok T.top.cl hcl
          have hfi := CO'.field x (by simpa using hf)
          obtain ⟨lo, hlo, N⟩ := S.1.news
          have hmem : (dx, dictOf ds nn) ∈ nw cs := nw_mem (List.mem_of_getElem? hc) (by rw [CO.ents, h4]; exact .tail _ (.head _))
          have hnd : ((lo ++ (ex ++ nw cs)).map (·.1)).Nodup := by
            rw [List.map_append, hlo.map]
            exact (List.nodup_cons.mp S.1.dist).2
          have hF := putL_fields (x := x) (hsh := PyData.keyHash w.params x) (t := s.toks + 1) h5 (hv.grow g)
          have hge : (getL x ds).isSome = true := by
            cases hl : fs.lookup x with
            | none => rw [getL_none h5 hl]; rfl
            | some v' => obtain ⟨_, h6, _⟩ := getL_some h5 hl; rw [h6]; rfl
          refine set_dict S.1.fr T.top.inb N I h3 CO'.set CO'.plain hfi.2 CO'.hasDict hge rfl (upd_of (List.mem_append_right _ (List.mem_append_right _ hmem)) hnd) ?_ fun h' F' N' => ?_
          · rw [← hF.length]
            simp only [szOk, decide_eq_true_eq] at hz
            exact hz
          · have hk : ∀ q ∈ lo ++ (ex ++ nw cs), q.1 ≠ dx → h'.get? q.1 = some q.2 := fun q hq hne => (N' q (List.mem_map.mpr ⟨q, hq, if_neg hne⟩)).1
            have hdx : h'.get? dx = some (dictOf (putL x (PyData.keyHash w.params x) (.str x (s.toks + 1)) vv ds) (putN x ds nn)) := (N' (dx, _) (List.mem_map.mpr ⟨_, List.mem_append_right _ (List.mem_append_right _ hmem), if_pos rfl⟩)).1
            have hxne : c.x ≠ dx := by
              intro z
              have h9 := (List.nodup_append.mp S.1.dist).2.1
              rw [List.map_append] at h9
              have h10 := (List.nodup_append.mp h9).2.1
              obtain ⟨pp, rr, rfl, _⟩ := split_at hc
              rw [show pp ++ c :: rr = pp ++ ([c] ++ rr) from rfl, nw_append, nw_append, nw_one, List.map_append, List.map_append] at h10
              have h11 := (List.nodup_append.mp (List.nodup_append.mp h10).2.1).1
              rw [CO.ents, h4] at h11
              simp at h11
              exact h11 z
            have hlow : ∀ q ∈ X.low, h'.Ns q.1 q.2 := fun q hq => by
              obtain ⟨q', hq', e1, no⟩ := hlo.mem q hq
              have : q'.1 ≠ dx := fun z => by
                have h9 := S.1.dist
                refine (List.nodup_append.mp h9).2.2 q.1 (.tail _ (List.mem_map_of_mem hq)) dx ?_ (e1 ▸ z)
                exact List.mem_map.mpr ⟨_, List.mem_append_right _ hmem, rfl⟩
              exact e1 ▸ no _ _ (hk q' (List.mem_append_left _ hq') this)
            have hadr := adr_set (c' := ⟨c.x, c.o, some (dx, dictOf (putL x (PyData.keyHash w.params x) (.str x (s.toks + 1)) vv ds) (putN x ds nn))⟩) hc rfl
            refine p _ (cs.set a ⟨c.x, c.o, some (dx, dictOf (putL x (PyData.keyHash w.params x) (.str x (s.toks + 1)) vv ds) (putN x ds nn))⟩) m () (by rw [hadr]; exact Grow.refl _) ⟨S.1.changeW (d := dx) (h' := h') h0 hz hc (by rw [CO.ents, h4]; simp) F'.keep F'.ns hlow (fun q hq hne => hk q (List.mem_append_right _ hq) hne) rfl (by simp [CO.ents, h4]) ?_ ?_, S.2⟩ rfl
            · intro q hq
              simp only [CO.ents, Option.toList_some, List.mem_cons, List.not_mem_nil, or_false] at hq
              rcases hq with rfl | rfl
              · exact hk (c.x, c.o) (List.mem_append_right _ (List.mem_append_right _ (nw_mem (List.mem_of_getElem? hc) (.head _)))) hxne
              · exact hdx
            · exact ⟨dx, _, _, hcls, hncls, h3, rfl, hF, hex⟩
      · cases e
    | _ => cases e
  · cases e
end
/-! ## An exception in flight -/
section
variable (K : Frag) (w : World) (prog : Program)
/-- where the traceback stands: none yet, or an entry with its mark -/
def TbAt (base : Heap) (ads : List Addr) (e dx : Addr) (tb : Option Value) (v : Value) (h : Heap) : Prop := match tb with
  | none => v = .none
  | some fl => ∃ T oT ts, v = .ref T ∧ h.get? T = some oT ∧ oT.data = .fields ts ∧ ts[3]? = some fl ∧ T ≠ e ∧ T ≠ dx ∧ T ∉ ads ∧ base.get? T = none
/-- what the exception's own dict holds -/
def ExF (K : Frag) (cs : List CO) (sy : V) (od : Obj) : Prop := ∃ es ep vs, od.data = .dict es ep ∧ StrKeys es ∧ nsFind es "symbol" = some vs ∧ VR K (adr cs) sy vs
structure Pend (X : Fx) (m : NsMap) (ex : List (Addr × Obj)) (cs : List CO) (μ : Mem) (sy d : V) (e dx : Addr) (tb : Option Value) (h : Heap) : Prop where
  S : SRh K w prog X m ex cs μ h
  obj : ∃ oe vs v, h.get? e = some oe ∧ oe.cls = .ref 483 ∧ oe.dict = some dx ∧ oe.data = .fields vs ∧ vs[1]? = some v ∧ TbAt X.base ((ex ++ nw cs).map (·.1)) e dx tb v h
  flds : ∃ od, h.get? dx = some od ∧ ExF K cs sy od
  edx : e ≠ dx
  eb : X.base.get? e = none
  db : X.base.get? dx = none
  ea : e ∉ (ex ++ nw cs).map (·.1)
  da : dx ∉ X.L :: X.low.map (·.1)
end
section
variable {K : Frag} {w : World} {prog : Program} {X : Fx} {m : NsMap} {ex : List (Addr × Obj)} {cs : List CO} {μ : Mem} {s : Shared} {mg mb : NsMap} {n : Nat} {sy d : V} {e dx : Addr} {tb : Option Value} {h : Heap}
theorem frames_of (T : FxOk K mg mb n X) (S : SRh K w prog X m ex cs μ h) : h.FunFrames X.base (X.env :: X.outer) := by
  refine Heap.FunFrames.cons (by rw [T.kind]; decide) T.frame S.ns S.baseNone ?_
  have hl := T.low
  have hlow := S.low
  revert hlow hl
  generalize X.outer = l
  generalize X.low = r
  intro hl hlow
  induction hl with
  | nil => trivial
  | cons a _ ih =>
    have := hlow _ (.head _)
    exact Heap.FunFrames.cons (by rw [a.2]; decide) a.1 this.1 this.2 (ih fun p hp => hlow p (.tail _ hp))
theorem frame_low {l : List Env} {r : List (Addr × NsMap)} (h : All2 (fun e p => Env.frame e = some (Prod.fst p : Addr) ∧ e.scope.kind = .function) l r) : l.filterMap (·.frame) = r.map (·.1) := by
  induction h with
  | nil => rfl
  | cons a _ ih => rw [List.filterMap_cons, a.1, List.map_cons, ← ih]
theorem frame_addrs (T : FxOk K mg mb n X) : (X.env :: X.outer).filterMap (·.frame) = X.L :: X.low.map (·.1) := by
  rw [List.filterMap_cons, T.frame, ← frame_low T.low]
/-- the frames' slots alone are turned -/
theorem SRh.slots (S : SRh K w prog X m ex cs μ h) {h' : Heap} (z : Heap.SlotsOnly (X.L :: X.low.map (·.1)) h h') : SRh K w prog X m ex cs μ h' := by
  have ns : ∀ {a : Addr} {m' : NsMap}, h.Ns a m' → h'.Ns a m' := fun ⟨o, es, ep, ho, hd, r⟩ => by
    obtain ⟨sl, hs⟩ := z.2.2 _ _ ho
    exact ⟨_, es, ep, hs, hd, r⟩
  refine ⟨fun b o q => ?_, ns S.ns, S.above, fun p hp => ⟨ns (S.low p hp).1, (S.low p hp).2⟩, fun q hq => ⟨?_, (S.led q hq).2⟩, S.sz, S.fro, S.szs, S.dist, S.O⟩
  · rw [z.2.1 b fun hm => ?_]
    · exact S.stays b o q
    · rcases List.mem_cons.mp hm with rfl | hm
      · rw [S.baseNone] at q; cases q
      · obtain ⟨p, hp, rfl⟩ := List.mem_map.mp hm
        rw [(S.low p hp).2] at q; cases q
  · rw [z.2.1 q.1 fun hm => ?_]
    · exact (S.led q hq).1
    · exact (List.nodup_append.mp S.dist).2.2 q.1 hm q.1 (List.mem_map_of_mem hq) rfl
/-- a record beside the ledger is changed -/
theorem SRh.beside (S : SRh K w prog X m ex cs μ h) {a : Addr} {o : Obj} {vs : Array Value} (ha : h.get? a = some o) (hd : o.data = .fields vs) (hb : X.base.get? a = none) (hl : a ∉ (ex ++ nw cs).map (·.1)) (f : Obj → Obj) : SRh K w prog X m ex cs μ (h.update a f) := by
  have oth : ∀ b, b ≠ a → (h.update a f).get? b = h.get? b := fun b hb => Heap.get?_update_other _ _ (Ne.symm hb)
  have ns : ∀ {b : Addr} {m' : NsMap}, h.Ns b m' → (h.update a f).Ns b m' := fun ⟨o', es, ep, ho, hd', r⟩ => ⟨o', es, ep, (oth _ fun z => by rw [z, ha] at ho; cases ho; rw [hd] at hd'; cases hd').trans ho, hd', r⟩
  exact ⟨fun b o' q => (oth b fun z => by rw [z, hb] at q; cases q).trans (S.stays b o' q), ns S.ns, S.above, fun p hp => ⟨ns (S.low p hp).1, (S.low p hp).2⟩,
    fun q hq => ⟨(oth q.1 fun z => hl (z ▸ List.mem_map_of_mem hq)).trans (S.led q hq).1, (S.led q hq).2⟩, S.sz, S.fro, S.szs, S.dist, S.O⟩
theorem dict_ne {h : Heap} {a b : Addr} {o : Obj} {vs : Array Value} {ds : List DictEntry} {n : Nat} (ha : h.get? a = some o) (hd : o.data = .fields vs) (hb : h.get? b = some (dictOf ds n)) : a ≠ b := fun z => by
  rw [z, hb] at ha; cases ha; cases hd

theorem pend_entry (T : FxOk K mg mb n X) {hadNext : Bool} {head : Value} {Q : Unit → Shared → Prop} {E : Value → Shared → Prop} {vs : Array Value} {oe : Obj} (S : SRh K w prog X m ex cs μ s.heap) (he : s.heap.get? e = some oe) (hc : oe.cls = .ref 483)
    (hdi : oe.dict = some dx) (hd : oe.data = .fields vs) (hsz : 1 < vs.size) (fl : ∃ od, s.heap.get? dx = some od ∧ ExF K cs sy od) (edx : e ≠ dx) (eb : X.base.get? e = none) (db : X.base.get? dx = none)
    (ea : e ∉ (ex ++ nw cs).map (·.1)) (da : dx ∉ X.L :: X.low.map (·.1)) (q : ∀ h', Pend K w prog X m ex cs μ sy d e dx (some (rawInt X.L)) h' → Q () { s with heap := h' }) :
    wpAny (model prog w) X.A (do let a ← frameOf X.env; let pl ← entryPlaceOf X.L hadNext; let b ← EntryCells.newEntry head a .none (rawInt X.L) .none pl; setField (.ref e) 1 b) Q E s := by
  obtain ⟨od, hdx, hfl⟩ := fl
  refine wpAny_bind (wpAny_frameOf_fun T.frames (frames_of T S) T.frame fun h₁ hs₁ => ?_)
  rw [frame_addrs T] at hs₁
  refine wpAny_bind (wpAny_entryPlaceOf fun pl hpl => ?_)
  unfold EntryCells.newEntry newFields
  refine wpAny_bind (wpAny_newObj_type ?_ (hpl.sizeOk5 _ _ _ _ _))
  have S₁ := S.slots hs₁
  have enf : e ∉ X.L :: X.low.map (·.1) := fun hm => by
    have : ∃ m', s.heap.Ns e m' := by
      rcases List.mem_cons.mp hm with rfl | hm
      · exact ⟨_, S.ns⟩
      · obtain ⟨p, hp, rfl⟩ := List.mem_map.mp hm; exact ⟨_, (S.low p hp).1⟩
    obtain ⟨m', o', es, ep, ho, hd', _⟩ := this
    rw [he] at ho; cases ho; rw [hd] at hd'; cases hd'
  have he₁ : h₁.get? e = some oe := (hs₁.2.1 e enf).trans he
  have hdx₁ : h₁.get? dx = some od := (hs₁.2.1 dx da).trans hdx
  let ob : Obj := { cls := .type "traceback", dict := none, data := .fields ([head, .ref X.L, .none, rawInt X.L, .none] ++ (if pl.isEmpty then List.replicate 6 Value.none else pl)).toArray }
  have he₂ : (h₁.push ob).get? e = some oe := Heap.get?_push_of_some ob he₁
  refine wpAny_setField he₂ hd hsz (q _ ?_)
  have S₂ : SRh K w prog X m ex cs μ (h₁.push ob) := S₁.keep fun _ _ z => Heap.get?_push_of_some _ z
  have oth : ∀ b, b ≠ e → ((h₁.push ob).update e (Obj.mapFields fun x => x.setIfInBounds 1 (.ref h₁.objs.size))).get? b = (h₁.push ob).get? b := fun b hb => Heap.get?_update_other _ _ (Ne.symm hb)
  have hTe : h₁.objs.size ≠ e := Nat.ne_of_gt (Heap.lt_size he₁)
  have hd₃ := Obj.data_mapFields hd (fun x => x.setIfInBounds 1 (Value.ref h₁.objs.size))
  refine ⟨S₂.beside he₂ hd eb ea _, ⟨_, _, .ref h₁.objs.size, Heap.get?_update_self _ he₂ (Obj.isFreed_of_fields hd₃), (Obj.cls_mapFields _ _).trans hc, ?_, hd₃, by simp [hsz], ?_⟩, ⟨od, (oth dx (Ne.symm edx)).trans (Heap.get?_push_of_some _ hdx₁), hfl⟩, edx, eb, db, ea, da⟩
  · obtain ⟨c1, c2, c3, c4⟩ := oe
    dsimp only at hd hdi
    subst hd
    exact hdi
  · refine ⟨h₁.objs.size, ob, _, rfl, (oth _ hTe).trans (Heap.get?_push_size h₁ rfl), rfl, ?_, hTe, Nat.ne_of_gt (Heap.lt_size hdx₁), fun hm => ?_, S₁.baseFresh (Nat.le_refl _)⟩
    · first | (simp; done) | (rcases hpl with rfl | ⟨_, _, _, _, _, _, _, rfl⟩ <;> simp)
    · obtain ⟨q', hq', z⟩ := List.mem_map.mp hm
      have := Heap.lt_size (S₁.led q' hq').1
      rw [z] at this
      exact Nat.lt_irrefl _ this
theorem pend_note (T : FxOk K mg mb n X) {Q : Unit → Shared → Prop} {E : Value → Shared → Prop} (P : Pend K w prog X m ex cs μ sy d e dx tb s.heap) (q : ∀ h', Pend K w prog X m ex cs μ sy d e dx (some (rawInt X.L)) h' → Q () { s with heap := h' }) :
    wpAny (model prog w) X.A (noteFrame (.ref e) X.env) Q E s := by
  obtain ⟨S, ⟨oe, vs, v, he, hc, hdi, hd, h1, ht⟩, fl, edx, eb, db, ea, da⟩ := P
  have hsz := (Array.getElem?_eq_some_iff.mp h1).1
  unfold noteFrame
  simp only [T.frame]
  refine wpAny_bind (wpAny_field he hd h1 ?_)
  cases tb with
  | none =>
    obtain rfl : v = .none := ht
    rw [if_neg (by decide)]
    exact pend_entry T S he hc hdi hd hsz fl edx eb db ea da q
  | some f =>
    obtain ⟨Ta, oT, ts, rfl, hT, hdT, h3, hTe, hTd, hTl, hTb⟩ := ht
    rw [if_pos (show (Value.ref Ta != Value.none) = true from by simp)]
    refine wpAny_bind (wpAny_field hT hdT h3 ?_)
    by_cases hf : f = rawInt X.L
    · subst hf
      rw [if_pos (beq_self_eq_true _)]
      exact wpAny_pure (q s.heap ⟨S, ⟨oe, vs, _, he, hc, hdi, hd, h1, ⟨Ta, oT, ts, rfl, hT, hdT, h3, hTe, hTd, hTl, hTb⟩⟩, fl, edx, eb, db, ea, da⟩)
    · rw [if_neg (by simpa using hf)]
      refine wpAny_bind (wpAny_setField hT hdT (Array.getElem?_eq_some_iff.mp h3).1 ?_)
      obtain ⟨od, hdx, hfl⟩ := fl
      have oth : ∀ b, b ≠ Ta → (s.heap.update Ta (Obj.mapFields fun x => x.setIfInBounds 3 Value.none)).get? b = s.heap.get? b := fun b hb => Heap.get?_update_other _ _ (Ne.symm hb)
      exact pend_entry (s := { s with heap := s.heap.update Ta (Obj.mapFields fun x => x.setIfInBounds 3 Value.none) }) T (S.beside hT hdT hTb hTl _) ((oth e (Ne.symm hTe)).trans he) hc hdi hd hsz ⟨od, (oth dx (Ne.symm hTd)).trans hdx, hfl⟩ edx eb db ea da q
theorem pend_flight {Q : Unit → Shared → Prop} {E : Value → Shared → Prop} {A : Around} {fo : Option Addr} (P : Pend K w prog X m ex cs μ sy d e dx tb s.heap)
    (q : ∀ h', Pend K w prog X m ex cs μ sy d e dx (tb.map fun _ => fo.elim .none fun f => rawInt f) h' → Q () { s with heap := h' }) : wpAny (model prog w) A (setFlight (.ref e) fo) Q E s := by
  obtain ⟨S, ⟨oe, vs, v, he, hc, hdi, hd, h1, ht⟩, fl, edx, eb, db, ea, da⟩ := P
  unfold setFlight
  refine wpAny_bind (wpAny_field he hd h1 ?_)
  cases tb with
  | none =>
    obtain rfl : v = .none := ht
    rw [if_neg (by decide)]
    exact wpAny_pure (q s.heap ⟨S, ⟨oe, vs, _, he, hc, hdi, hd, h1, rfl⟩, fl, edx, eb, db, ea, da⟩)
  | some f =>
    obtain ⟨Ta, oT, ts, rfl, hT, hdT, h3, hTe, hTd, hTl, hTb⟩ := ht
    rw [if_pos (show (Value.ref Ta != Value.none) = true from by simp)]
    obtain ⟨od, hdx, hfl⟩ := fl
    have h3' := (Array.getElem?_eq_some_iff.mp h3).1
    refine wpAny_setField hT hdT h3' (q _ ?_)
    have oth : ∀ b, b ≠ Ta → (s.heap.update Ta (Obj.mapFields fun x => x.setIfInBounds 3 (fo.elim Value.none fun f => rawInt f))).get? b = s.heap.get? b := fun b hb => Heap.get?_update_other _ _ (Ne.symm hb)
    have hdT' := Obj.data_mapFields hdT (fun x => x.setIfInBounds 3 (fo.elim Value.none fun f => rawInt f))
    exact ⟨S.beside hT hdT hTb hTl _, ⟨oe, vs, _, (oth e (Ne.symm hTe)).trans he, hc, hdi, hd, h1, ⟨Ta, _, _, rfl, Heap.get?_update_self _ hT (Obj.isFreed_of_fields hdT'), hdT', by simp [h3'], hTe, hTd, hTl, hTb⟩⟩, ⟨od, (oth dx (Ne.symm hTd)).trans hdx, hfl⟩, edx, eb, db, ea, da⟩
theorem pend_leave (T : FxOk K mg mb n X) {Q : Unit → Shared → Prop} {E : Value → Shared → Prop} (P : Pend K w prog X m ex cs μ sy d e dx tb s.heap) (q : ∀ h', Pend K w prog X m ex cs μ sy d e dx (some .none) h' → Q () { s with heap := h' }) :
    wpAny (model prog w) X.A (leaving X.env (.ref e)) Q E s := by
  unfold leaving
  exact wpAny_bind (pend_note T P fun h' P' => pend_flight (s := { s with heap := h' }) (fo := none) P' fun h'' P'' => q h'' P'')
/-- what an exception leaves, as the mini evaluator tells it -/
def XO (K : Frag) (w : World) (prog : Program) (X : Fx) (ex : List (Addr × Obj)) : XRel := fun m cs μ sy d e s => (∃ dx tb, Pend K w prog X m ex cs μ sy d e dx tb s.heap) ∧ s.gens = #[] ∧ s.os = X.os
end
/-! ## Comparisons -/
section
variable {K : Frag} {w : World} {prog : Program} {X : Fx} {m : NsMap} {ex : List (Addr × Obj)} {XR : XRel} {cs cs₀ : List CO} {μ : Mem} {s : Shared} {mg mb : NsMap} {n : Nat}
theorem toPys_reads {as : List Addr} {f : V → Option PyData} {D : Nat} {h : Heap} (hf : ∀ v d val, f v = some d → VR K as v val → ∃ bs, Reads h val d bs ∧ d.canLay0 = true ∧ d.depth ≤ D) : ∀ {xs : List V} {ds : List PyData} {vs : List Value}, toPys f xs = some ds → All2 (VR K as) xs vs →
    ∃ bs, ReadsAll h vs ds bs ∧ PyData.canLayAll0 ds = true ∧ PyData.depthAll ds ≤ D
  | [], _, _, e, .nil => by cases e; exact ⟨[], .nil, rfl, Nat.zero_le _⟩
  | v :: r, _, _, e, .cons x y => by
    unfold toPys at e
    split at e
    · rename_i d ds h1 h2
      cases e
      obtain ⟨b1, r1, c1, d1⟩ := hf v d _ h1 x
      obtain ⟨b2, r2, c2, d2⟩ := toPys_reads hf h2 y
      refine ⟨b1 ++ b2, .cons r1 r2, ?_, ?_⟩
      · unfold PyData.canLayAll0; rw [c1, c2]; rfl
      · unfold PyData.depthAll; exact Nat.max_le.mpr ⟨d1, d2⟩
    · cases e
theorem toPy_reads (S : SR K w prog X m ex cs μ s) : ∀ (k : Nat) {v : V} {d : PyData} {val : Value}, toPy k μ v = some d → VR K (adr cs) v val → ∃ bs, Reads s.heap val d bs ∧ d.canLay0 = true ∧ d.depth ≤ k + 1 := by
  have plain : ∀ (k : Nat) {v : V} {d : PyData} {val : Value}, (∀ a, v ≠ .ref a) → toPy k μ v = some d → VR K (adr cs) v val → ∃ bs, Reads s.heap val d bs ∧ d.canLay0 = true ∧ d.depth ≤ 1 := by
    intro k v d val hn e h
    cases v with
    | none => rw [h.none_inv]; cases k <;> (cases e; exact ⟨[], .none, rfl, by decide⟩)
    | bool b => rw [h.bool_inv]; cases k <;> (cases e; exact ⟨[], .bool b, rfl, by simp [PyData.depth]⟩)
    | int i => obtain ⟨t, rfl⟩ := h.int_inv; cases k <;> (cases e; exact ⟨[], .int i t, rfl, by simp [PyData.depth]⟩)
    | str x =>
      obtain ⟨t, rfl⟩ := h.str_inv
      have e' : (if PyData.strOk x then some (PyData.str x) else none) = some d := by cases k <;> exact e
      split at e'
      · rename_i hs; cases e'; exact ⟨[], .str x t, by simpa [PyData.canLay0] using hs, by simp [PyData.depth]⟩
      · cases e'
    | ref a => exact absurd rfl (hn a)
    | top a => cases k <;> cases e
    | ty a => cases k <;> cases e
    | bi a => cases k <;> cases e
  intro k
  induction k with
  | zero =>
    intro v d val e h
    by_cases hr : ∃ a, v = .ref a
    · obtain ⟨a, rfl⟩ := hr; cases e
    · exact plain 0 (fun a z => hr ⟨a, z⟩) e h
  | succ k ih =>
    intro v d val e h
    by_cases hr : ∃ a, v = .ref a
    · obtain ⟨a, rfl⟩ := hr
      unfold toPy at e
      split at e
      · rename_i xs hm
        obtain ⟨y, rfl, hy⟩ := h.ref_inv
        cases hq : toPys (toPy k μ) xs with
        | none => rw [hq] at e; cases e
        | some ds =>
          rw [hq] at e; cases e
          obtain ⟨vs, nn, h1, h2, h3⟩ := isList_at S hy hm
          obtain ⟨bs, r1, c1, d1⟩ := toPys_reads (fun v d val => ih) hq h3
          refine ⟨y :: bs, .list h1 rfl rfl (by simpa using r1), c1, ?_⟩
          unfold PyData.depth
          omega
      · cases e
    · obtain ⟨bs, r, c, dd⟩ := plain (k + 1) (fun a z => hr ⟨a, z⟩) e h
      exact ⟨bs, r, c, by omega⟩

abbrev CQ (m : NsMap) : NsMap → List CO → Bool → Value → Prop := fun m' _ v x => m' = m ∧ x = .bool v
theorem lenDiff_lists {a b : V} (h : lenDiff μ a b = true) : ∃ x y xs ys, a = .ref x ∧ b = .ref y ∧ μ[x]? = some (.list xs) ∧ μ[y]? = some (.list ys) ∧ (xs.length != ys.length) = true := by
  unfold lenDiff at h
  split at h
  · split at h
    · exact ⟨_, _, _, _, rfl, rfl, by assumption, by assumption, h⟩
    · cases h
  · cases h
theorem eqM_core (T : FxOk K mg mb n X) (S : SR K w prog X m ex cs μ s) {a b : V} {va vb : Value} (ha : VR K (adr cs) a va) (hb : VR K (adr cs) b vb) {r : Out Bool × Mem} (e : eqM a b μ = some r) :
    ∃ k, r = (.ok k, μ) ∧ (∀ {Q : Value → Shared → Prop} {E : Value → Shared → Prop}, Q (.bool k) s → wpAny (model prog w) X.A (compareOp .Eq va vb) Q E s) ∧
      ∀ {Q : Value → Shared → Prop} {E : Value → Shared → Prop}, Q (.bool (!k)) s → wpAny (model prog w) X.A (compareOp .NotEq va vb) Q E s := by
  have hu := T.units
  unfold eqM at e
  split at e
  · rename_i hd
    cases e
    obtain ⟨x, y, xs, ys, rfl, rfl, h1, h2, h3⟩ := lenDiff_lists hd
    obtain ⟨p, rfl, hp⟩ := ha.ref_inv
    obtain ⟨q, rfl, hq⟩ := hb.ref_inv
    obtain ⟨vs, _, _, l1, r1⟩ := isList_at S hp h1
    obtain ⟨ws, _, _, l2, r2⟩ := isList_at S hq h2
    have hz : (vs.toArray.size != ws.toArray.size) = true := by simpa [← r1.length, ← r2.length] using h3
    exact ⟨false, rfl, fun q => SeqAt.eq_list_lengthsAt l1 l2 hz (by omega) q, fun q => SeqAt.RcNeAt.lists_lengths l1 l2 hz (by omega) prog w _ _ q⟩
  · split at e
    · rename_i x y h1 h2
      cases e
      obtain ⟨bs, r1, c1, d1⟩ := toPy_reads S 3 h1 ha
      obtain ⟨bs2, r2, c2, d2⟩ := toPy_reads S 3 h2 hb
      have : X.A.units + min x.depth y.depth < cLine := by have := Nat.min_le_left x.depth y.depth; omega
      exact ⟨_, rfl, fun q => SeqAt.compareEq_reads r1 r2 c1 c2 this q, fun q => SeqAt.compareNe_reads r1 r2 c1 c2 this q⟩
    · cases e

theorem same_refs {A : Around} {a b : Addr} {oa ob : Obj} {Q : Bool → Shared → Prop} {E : Value → Shared → Prop} (hne : a ≠ b) (ha : s.heap.get? a = some oa) (hb : s.heap.get? b = some ob) (ht : oa.cls ≠ .type "tuple" ∨ ob.cls ≠ .type "tuple") (q : Q false s) :
    wpAny (model prog w) A (isSame (.ref a) (.ref b)) Q E s := by
  show wpAny _ _ (if (a == b) = true then pure true else _) _ _ _
  rw [if_neg (by simpa using hne)]
  refine wpAny_bind (wpAny_load ha (wpAny_bind (wpAny_load hb ?_)))
  split
  · rename_i h1 h2 _ _
    rcases ht with z | z
    · exact absurd h1 z
    · exact absurd h2 z
  · exact wpAny_pure q
theorem noTup_cls {a : Nat} {x : Addr} (S : SR K w prog X m ex cs μ s) (hx : (adr cs)[a]? = some x) {o : MO} (hm : μ[a]? = some o) (hn : ∀ xs, o ≠ .tup xs) : ∃ ob, s.heap.get? x = some ob ∧ ob.cls ≠ .type "tuple" := by
  obtain ⟨c, hc, rfl, hO, hg, _⟩ := co_at S hx hm
  refine ⟨c.o, hg, ?_⟩
  cases o with
  | list xs => obtain ⟨vs, n, h1, _⟩ := hO; rw [h1]; show Value.type "list" ≠ _; decide
  | src xs => obtain ⟨vs, n, h1, _⟩ := hO; rw [h1]; show Value.type "list" ≠ _; decide
  | tup xs => exact absurd rfl (hn xs)
  | dict es =>
    obtain ⟨_, h2, _⟩ := hO
    rcases h2 with ⟨_, kvs, ⟨_, _, he, _⟩, _⟩ | ⟨_, kvs, ⟨_, _, he, _⟩, _⟩ <;> (rw [he.1]; decide)
  | inst C fs => obtain ⟨dx, ds, n, h1, _⟩ := hO; rw [h1]; exact fun z => nomatch z
theorem getM_ref {a : Nat} {f : MO → Mx Bool} {r : Out Bool × Mem} (e : bnd (getM a) f μ = some r) : ∃ o, μ[a]? = some o ∧ f o μ = some r := by
  rcases bnd_some e with ⟨_, _, _, q, _⟩ | ⟨o', μ', q, e⟩
  · obtain ⟨_, _, z⟩ := getM_some q; cases z
  · obtain ⟨o'', hm, z⟩ := getM_some q
    cases z
    exact ⟨_, hm, e⟩
theorem nodup_get {α : Type} : ∀ {l : List α}, l.Nodup → ∀ {a b : Nat} {x : α}, l[a]? = some x → l[b]? = some x → a = b
  | [], _, _, _, _, h, _ => by simp at h
  | y :: r, hn, 0, 0, _, _, _ => rfl
  | y :: r, hn, 0, b + 1, x, h1, h2 => by
    simp at h1; subst h1
    exact absurd (List.mem_of_getElem? (by simpa using h2)) (List.nodup_cons.mp hn).1
  | y :: r, hn, a + 1, 0, x, h1, h2 => by
    simp at h2; subst h2
    exact absurd (List.mem_of_getElem? (by simpa using h1)) (List.nodup_cons.mp hn).1
  | y :: r, hn, a + 1, b + 1, x, h1, h2 => by rw [nodup_get (List.nodup_cons.mp hn).2 (a := a) (b := b) (by simpa using h1) (by simpa using h2)]
theorem adr_inj (S : SR K w prog X m ex cs μ s) {a b : Nat} {x : Addr} (h1 : (adr cs)[a]? = some x) (h2 : (adr cs)[b]? = some x) : a = b := by
  have hd2 := (List.nodup_append.mp S.1.dist).2.1
  rw [List.map_append] at hd2
  have hd := (List.nodup_append.mp hd2).2.1
  have sub : ∀ cs : List CO, ((nw cs).map (·.1)).Nodup → (adr cs).Nodup := by
    intro cs
    induction cs with
    | nil => intro _; exact .nil
    | cons c r ih =>
      intro h
      have h' : (c.ents.map (·.1) ++ (nw r).map (·.1)).Nodup := by rw [← List.map_append]; exact h
      refine List.nodup_cons.mpr ⟨fun hm => ?_, ih (List.nodup_append.mp h').2.1⟩
      obtain ⟨c', hc', e⟩ := List.mem_map.mp hm
      exact (List.nodup_append.mp h').2.2 c.x (by simp [CO.ents]) c'.x (List.mem_map.mpr ⟨_, nw_mem hc' (.head _), rfl⟩) e.symm
  have hn := sub cs hd
  exact nodup_get hn h1 h2
theorem top_apart (T : FxOk K mg mb n X) (S : SR K w prog X m ex cs μ s) {a : Nat} {x : Addr} (h1 : (adr cs)[a]? = some x) {t : Addr} (ht : (K.lookup t).isSome = true) : x ≠ t ∧ ∃ o, s.heap.get? t = some o := by
  obtain ⟨o, ho⟩ := Option.isSome_iff_exists.mp ht
  have hb := T.top.inb t o ho
  refine ⟨fun z => ?_, o, S.1.stays _ _ hb⟩
  have hm : x ∈ adr cs := List.mem_of_getElem? h1
  obtain ⟨c, hc, e⟩ := List.mem_map.mp hm
  have := (S.1.led _ (List.mem_append_right _ (nw_mem hc (.head _)))).2.1
  dsimp only at this
  rw [e, z, hb] at this
  cases this
theorem isM_core (T : FxOk K mg mb n X) (S : SR K w prog X m ex cs μ s) {a b : V} {va vb : Value} (ha : VR K (adr cs) a va) (hb : VR K (adr cs) b vb) {r : Out Bool × Mem} (e : isM a b μ = some r) :
    ∃ k, r = (.ok k, μ) ∧ ∀ {Q : Bool → Shared → Prop} {E : Value → Shared → Prop}, Q k s → wpAny (model prog w) X.A (isSame va vb) Q E s := by
  unfold isM at e
  split at e
  · rename_i x y
    obtain ⟨p, rfl, hp⟩ := ha.ref_inv
    obtain ⟨q, rfl, hq⟩ := hb.ref_inv
    split at e
    · rename_i hxy
      subst hxy
      rw [hp] at hq; cases hq
      cases e
      exact ⟨true, rfl, fun q => wpAny_isSame_ref_self q⟩
    · rename_i hxy
      obtain ⟨o, hm, e⟩ := getM_ref e
      have key : (∀ xs, o ≠ .tup xs) → ∃ o2, μ[y]? = some o2 ∧ r = (.ok false, μ) := fun _ => by
        cases o with
        | tup _ => cases e
        | _ => obtain ⟨o2, h2, e2⟩ := getM_ref e; cases e2; exact ⟨o2, h2, rfl⟩
      have hno : ∀ xs, o ≠ .tup xs := by rintro xs rfl; cases e
      obtain ⟨o2, h2, rfl⟩ := key hno
      obtain ⟨ob, hg, hc⟩ := noTup_cls S hp hm hno
      obtain ⟨c2, hc2, rfl, _, hg2, _⟩ := co_at S hq h2
      exact ⟨false, rfl, fun z => same_refs (fun q => hxy (adr_inj S hp (q ▸ hq))) hg hg2 (.inl hc) z⟩
  · rename_i x t
    obtain ⟨p, rfl, hp⟩ := ha.ref_inv
    obtain ⟨rfl, ht⟩ := hb.top_inv
    obtain ⟨o, hm, e⟩ := getM_ref e
    have hno : ∀ xs, o ≠ .tup xs := by rintro xs rfl; cases e
    have : r = (.ok false, μ) := by cases o with
      | tup _ => cases e
      | _ => cases e; rfl
    subst this
    obtain ⟨ob, hg, hc⟩ := noTup_cls S hp hm hno
    obtain ⟨hne, o2, ho2⟩ := top_apart T S hp ht
    exact ⟨false, rfl, fun z => same_refs hne hg ho2 (.inl hc) z⟩
  · rename_i t x
    obtain ⟨p, rfl, hp⟩ := hb.ref_inv
    obtain ⟨rfl, ht⟩ := ha.top_inv
    obtain ⟨o, hm, e⟩ := getM_ref e
    have hno : ∀ xs, o ≠ .tup xs := by rintro xs rfl; cases e
    have : r = (.ok false, μ) := by cases o with
      | tup _ => cases e
      | _ => cases e; rfl
    subst this
    obtain ⟨ob, hg, hc⟩ := noTup_cls S hp hm hno
    obtain ⟨hne, o2, ho2⟩ := top_apart T S hp ht
    exact ⟨false, rfl, fun z => same_refs (Ne.symm hne) ho2 hg (.inr hc) z⟩
  · unfold opt at e
    cases hv : isV a b with
    | none => rw [hv] at e; cases e
    | some k =>
      rw [hv] at e; cases e
      refine ⟨k, rfl, fun {Q E} q => ?_⟩
      have pl : ∀ {va vb : Value} {k : Bool}, plainIs va vb = true → (va == vb) = k → Q k s → wpAny (model prog w) X.A (isSame va vb) Q E s := fun h1 h2 h3 => wpAny_isSame_plain h1 (h2 ▸ h3)
      unfold isV at hv
      split at hv
      case h_2 =>
        rename_i a' b' _ _ _
        cases hv; rw [ha.bool_inv, hb.bool_inv]
        exact pl rfl (by cases a' <;> cases b' <;> rfl) q
      case h_3 =>
        rename_i x y _ _ _
        obtain ⟨rfl, hx⟩ := ha.top_inv
        obtain ⟨rfl, hy⟩ := hb.top_inv
        split at hv
        · rename_i hxy; subst hxy; cases hv; exact wpAny_isSame_ref_self q
        · rename_i hxy
          split at hv
          · rename_i hp
            cases hv
            obtain ⟨ox, hox⟩ := Option.isSome_iff_exists.mp hx
            obtain ⟨oy, hoy⟩ := Option.isSome_iff_exists.mp hy
            have hn := List.all_eq_true.mp T.top.nil x (by simp only [topPair, Bool.and_eq_true, List.contains_iff_mem] at hp; exact hp.1)
            simp only [hox] at hn
            exact same_refs hxy (S.1.stays _ _ (T.top.inb _ _ hox)) (S.1.stays _ _ (T.top.inb _ _ hoy)) (.inl (by rw [beq_iff_eq.mp hn]; decide)) q
          · cases hv
      all_goals first
        | (cases hv; cases ha; cases hb; exact pl rfl rfl q)
        | (cases hv; cases ha; cases hb; exact pl rfl (by simp) q)
        | cases hv
end
/-! ## Comparisons told as the evaluator tells them; plain built-ins -/
section
variable {K : Frag} {w : World} {prog : Program} {X : Fx} {m : NsMap} {ex : List (Addr × Obj)} {XR : XRel} {cs cs₀ : List CO} {μ : Mem} {s : Shared} {mg mb : NsMap} {n : Nat}
theorem cmp_int {op : CmpOp} {i j : Int} {t u : Tok} {A : Around} {Q : Value → Shared → Prop} {E : Value → Shared → Prop} {k : Bool}
    (h : (op = .Lt ∧ k = decide (i < j)) ∨ (op = .LtE ∧ k = decide (i ≤ j)) ∨ (op = .Gt ∧ k = decide (i > j)) ∨ (op = .GtE ∧ k = decide (i ≥ j))) (q : Q (.bool k) s) : wpAny (model prog w) A (compareOp op (.int i t) (.int j u)) Q E s := by
  rcases h with ⟨rfl, rfl⟩ | ⟨rfl, rfl⟩ | ⟨rfl, rfl⟩ | ⟨rfl, rfl⟩
  · exact lt_int q
  · exact le_int q
  · exact gt_int q
  · exact ge_int q
/-- == of what stands in a written tuple -/
def eqW (x y : Value) : Bool := match y, x with
  | .none, .none => true
  | .int i _, .int j _ => i == j
  | .bool a, .bool b => a == b
  | .str a _, .str b _ => a == b
  | _, _ => false
theorem eqV_at {as : List Addr} {a p : V} {va vp : Value} {k : Bool} {A : Around} (ha : VR K as a va) (hp : VR K as p vp) (e : eqV a p = some k) : SeqAt.EqAt A s vp va (eqW va vp) ∧ eqW va vp = k := by
  unfold eqV at e
  split at e <;> cases e
  · rw [ha.none_inv, hp.none_inv]; exact ⟨SeqAt.EqAt.same .none, rfl⟩
  · rw [ha.bool_inv, hp.bool_inv]; exact ⟨SeqAt.EqAt.bool_bool _ _, by simp only [eqW]; exact Bool.beq_comm⟩
  · obtain ⟨t, rfl⟩ := ha.int_inv
    obtain ⟨u, rfl⟩ := hp.int_inv
    exact ⟨SeqAt.EqAt.int_int _ _ _ _, by simp only [eqW]; exact Bool.beq_comm⟩
  · obtain ⟨t, rfl⟩ := ha.str_inv
    obtain ⟨u, rfl⟩ := hp.str_inv
    exact ⟨SeqAt.EqAt.str_str _ _ _ _, by simp only [eqW]; exact Bool.beq_comm⟩
  · obtain ⟨t, rfl⟩ := ha.int_inv
    rw [hp.none_inv]; exact ⟨SeqAt.EqAt.none_int _ _, rfl⟩
  · obtain ⟨t, rfl⟩ := hp.int_inv
    rw [ha.none_inv]; exact ⟨SeqAt.EqAt.int_none _ _, rfl⟩
theorem opt_some {α : Type} {x : Option α} {r : Out α × Mem} (e : opt x μ = some r) : ∃ a, x = some a ∧ r = (.ok a, μ) := by
  unfold opt at e
  cases x with
  | none => cases e
  | some a => cases e; exact ⟨a, rfl, rfl⟩
theorem cmpM_snd (T : FxOk K mg mb n X) {op : CmpOp} {a b : V} {va vb : Value} (ha : VR K (adr cs₀) a va) (hb : VR K (adr cs₀) b vb) : Snd K w prog X ex XR m cs₀ (compareOp op va vb) (cmpM op a b) (CQ m) := fun cs μ s r Q E g S e p => by
  have ha' := ha.grow g
  have hb' := hb.grow g
  have hu := T.units
  unfold cmpM at e
  split at e
  · obtain ⟨k, rfl, h1, _⟩ := eqM_core T S ha' hb' e
    exact h1 (p s cs m _ (Grow.refl _) S ⟨rfl, rfl⟩)
  · rcases bnd_some e with ⟨_, _, _, q, _⟩ | ⟨k', μ', q, e⟩
    · obtain ⟨k, z, _⟩ := eqM_core T S ha' hb' q; cases z
    · obtain ⟨k, z, _, h2⟩ := eqM_core T S ha' hb' q
      cases z; cases e
      exact h2 (p s cs m _ (Grow.refl _) S ⟨rfl, rfl⟩)
  · split at e
    · obtain ⟨t, rfl⟩ := ha.int_inv
      obtain ⟨u, rfl⟩ := hb.int_inv
      cases e
      exact cmp_int (.inl ⟨rfl, rfl⟩) (p s cs m _ (Grow.refl _) S ⟨rfl, rfl⟩)
    · cases e
  · split at e
    · obtain ⟨t, rfl⟩ := ha.int_inv
      obtain ⟨u, rfl⟩ := hb.int_inv
      cases e
      exact cmp_int (.inr (.inl ⟨rfl, rfl⟩)) (p s cs m _ (Grow.refl _) S ⟨rfl, rfl⟩)
    · cases e
  · split at e
    · obtain ⟨t, rfl⟩ := ha.int_inv
      obtain ⟨u, rfl⟩ := hb.int_inv
      cases e
      exact cmp_int (.inr (.inr (.inl ⟨rfl, rfl⟩))) (p s cs m _ (Grow.refl _) S ⟨rfl, rfl⟩)
    · cases e
  · split at e
    · obtain ⟨t, rfl⟩ := ha.int_inv
      obtain ⟨u, rfl⟩ := hb.int_inv
      cases e
      exact cmp_int (.inr (.inr (.inr ⟨rfl, rfl⟩))) (p s cs m _ (Grow.refl _) S ⟨rfl, rfl⟩)
    · cases e
  · obtain ⟨k, rfl, h⟩ := isM_core T S ha' hb' e
    show wpAny _ _ (isSame va vb >>= fun c => pure (Value.bool c)) _ _ _
    exact wpAny_bind (h (wpAny_pure (p s cs m _ (Grow.refl _) S ⟨rfl, rfl⟩)))
  · rcases bnd_some e with ⟨_, _, _, q, _⟩ | ⟨k', μ', q, e⟩
    · obtain ⟨k, z, _⟩ := isM_core T S ha' hb' q; cases z
    · obtain ⟨k, z, h⟩ := isM_core T S ha' hb' q
      cases z; cases e
      show wpAny _ _ (isSame va vb >>= fun c => pure (Value.bool (!c))) _ _ _
      exact wpAny_bind (h (wpAny_pure (p s cs m _ (Grow.refl _) S ⟨rfl, rfl⟩)))
  · split at e
    · rename_i x
      obtain ⟨y, rfl, hy⟩ := hb'.ref_inv
      rcases bnd_some e with ⟨_, _, _, q, _⟩ | ⟨o, μ', q, e⟩
      · obtain ⟨_, _, z⟩ := getM_some q; cases z
      obtain ⟨o', hm, z⟩ := getM_some q
      cases z
      obtain ⟨c, hc, rfl, hO, hg, hns⟩ := co_at S hy hm
      cases o with
      | tup xs =>
        dsimp only at e
        split at e
        · rename_i p1 p2
          cases q1 : eqV a p1 with
          | none => rw [q1] at e; cases e
          | some k1 =>
          cases q2 : eqV a p2 with
          | none => rw [q1, q2] at e; cases e
          | some k2 =>
            rw [q1, q2] at e
            cases e
            obtain ⟨vs, nn, h1, h2, h3⟩ := hO
            obtain ⟨v1, v2, rfl, r1, r2⟩ : ∃ v1 v2, vs = [v1, v2] ∧ VR K (adr cs) p1 v1 ∧ VR K (adr cs) p2 v2 := by
              cases h3 with
              | cons a1 rest => cases rest with
                | cons a2 rest => cases rest with
                  | nil => exact ⟨_, _, rfl, a1, a2⟩
            have ht : s.heap.IsTuple c.x #[v1, v2] := ⟨_, hg, by rw [h1], nn, by rw [h1]⟩
            obtain ⟨f1, e1⟩ := eqV_at (s := s) (A := X.A.in1) ha' r1 q1
            obtain ⟨f2, e2⟩ := eqV_at (s := s) (A := X.A.in1) ha' r2 q2
            refine SeqAt.in_tupleAt (eqW va) ht (fun y hy => ?_) ?_
            · simp at hy
              rcases hy with rfl | rfl
              · exact f1
              · exact f2
            · have : (#[v1, v2] : Array Value).any (eqW va) = (k1 || k2) := by simp [e1, e2]
              rw [this]
              exact p s cs m _ (Grow.refl _) S ⟨rfl, rfl⟩
        · cases e
      | dict es =>
        dsimp only at e
        by_cases hk : kindKey a es = true
        · rw [if_pos hk] at e
          cases e
          have lo : (c.x == sysModules) = false := beq_eq_false_iff_ne.mpr hns
          obtain ⟨_, h2, h3⟩ := hO
          have strC : ∀ {k : Str} {t : Tok} {kvs : List (Str × Value)}, a = .str k → va = .str k t → c.o.IsDictOf (strKind prog w) kvs → All2 (fun p q => p.1 = .str q.1 ∧ VR K (adr cs) p.2 q.2) es kvs → wpAny (model prog w) X.A (compareOp .In va (.ref c.x)) Q E s := by
            rintro k t kvs rfl rfl hd hp
            refine wpAny_in_of (strKind_is prog w k t) lo (Heap.dictOf_iff.mpr ⟨_, hg, hd⟩).mapOf ?_
            have : (valueAt kvs k).isSome = (Mine.getD (V.str k) es).isSome := by
              cases hq : Mine.getD (V.str k) es with
              | none => rw [dget_none strInj hp hq]; rfl
              | some v => obtain ⟨val, h1, _⟩ := dget_some (P := VR K (adr cs)) strInj hp hq; rw [h1]; rfl
            rw [this]
            exact p _ cs m _ (Grow.refl _) S ⟨rfl, rfl⟩
          have intC : ∀ {k : Int} {t : Tok} {kvs : List (Int × Value)}, a = .int k → va = .int k t → c.o.IsDictOf (intKind prog w) kvs → All2 (fun p q => p.1 = .int q.1 ∧ VR K (adr cs) p.2 q.2) es kvs → wpAny (model prog w) X.A (compareOp .In va (.ref c.x)) Q E s := by
            rintro k t kvs rfl rfl hd hp
            refine wpAny_in_of (intKind_is prog w k t) lo (Heap.dictOf_iff.mpr ⟨_, hg, hd⟩).mapOf ?_
            have : (valueAt kvs k).isSome = (Mine.getD (V.int k) es).isSome := by
              cases hq : Mine.getD (V.int k) es with
              | none => rw [dget_none intInj hp hq]; rfl
              | some v => obtain ⟨val, h1, _⟩ := dget_some (P := VR K (adr cs)) intInj hp hq; rw [h1]; rfl
            rw [this]
            exact p _ cs m _ (Grow.refl _) S ⟨rfl, rfl⟩
          cases a with
          | str k =>
            obtain ⟨t, rfl⟩ := ha.str_inv
            cases es with
            | nil => exact strC rfl rfl (h3 rfl).1 .nil
            | cons q0 r =>
              rcases h2 with ⟨_, kvs, hd, hp⟩ | ⟨hs, _⟩
              · exact strC rfl rfl hd hp
              · exfalso
                obtain ⟨y, z⟩ := q0
                obtain ⟨j, hj⟩ := hs (y, z) (.head _)
                dsimp only at hj; rw [hj] at hk; cases hk
          | int k =>
            obtain ⟨t, rfl⟩ := ha.int_inv
            cases es with
            | nil => exact intC rfl rfl (h3 rfl).2 .nil
            | cons q0 r =>
              rcases h2 with ⟨hs, _⟩ | ⟨_, kvs, hd, hp⟩
              · exfalso
                obtain ⟨y, z⟩ := q0
                obtain ⟨j, hj⟩ := hs (y, z) (.head _)
                dsimp only at hj; rw [hj] at hk; cases hk
              · exact intC rfl rfl hd hp
          | _ => cases es <;> cases hk
        · rw [if_neg hk] at e; cases e
      | _ => cases e
    · cases e
  · cases e
/-- the tests' tree: a comparison, then its truth -/
theorem truthy_bool {b : Bool} {A : Around} {Q : Bool → Shared → Prop} {E : Value → Shared → Prop} (q : Q b s) : wpAny (model prog w) A (truthy (.bool b)) Q E s := wpAny_truthy_bool q
end
/-! ## Expressions, form by form -/
section
variable {K : Frag} {w : World} {prog : Program} {X : Fx} {m : NsMap} {ex : List (Addr × Obj)} {XR : XRel} {cs cs₀ : List CO} {μ : Mem} {s : Shared} {mg mb : NsMap} {n : Nat} {env : Env}
abbrev LQ (K : Frag) (m : NsMap) : NsMap → List CO → List V → List Value → Prop := fun m' cs' v x => m' = m ∧ All2 (VR K (adr cs')) v x
theorem Snd.none {α β : Type} {t : Sem α} {f : Mx β} {R : NsMap → List CO → β → α → Prop} (h : ∀ μ, f μ = none) : Snd K w prog X ex XR m cs₀ t f R := fun _ μ _ _ _ _ _ _ e _ => by rw [h μ] at e; cases e
theorem Snd.ite {α β : Type} {t : Sem α} {f : Mx β} {c : Prop} [Decidable c] {R : NsMap → List CO → β → α → Prop} (h : c → Snd K w prog X ex XR m cs₀ t f R) : Snd K w prog X ex XR m cs₀ t (if c then f else Mine.stuck) R := by
  split
  · exact h (by assumption)
  · exact Snd.stuck
/-- the mini evaluator reads, the model is silent -/
theorem Snd.quiet {α β γ : Type} {t : Sem α} {f : Mx γ} {v : γ → Mx β} {R : NsMap → List CO → β → α → Prop} (hf : ∀ μ r, f μ = some r → ∃ a, r = (.ok a, μ)) (h : ∀ a, Snd K w prog X ex XR m cs₀ t (v a) R) : Snd K w prog X ex XR m cs₀ t (bnd f v) R :=
  fun cs μ s r Q E g S e p => by
    rcases bnd_some e with ⟨_, _, _, q, _⟩ | ⟨a, μ', q, e⟩
    · obtain ⟨_, z⟩ := hf _ _ q; cases z
    · obtain ⟨_, z⟩ := hf _ _ q; cases z; exact h a cs μ s r Q E g S e p
theorem Snd.mapRet {α β : Type} {t : Sem α} {f : Mx β} {R : NsMap → List CO → β → α → Prop} (h : Snd K w prog X ex XR m cs₀ t (bnd f Mine.ret) R) : Snd K w prog X ex XR m cs₀ t f R :=
  fun cs μ s r Q E g S e p => h cs μ s r Q E g S (by unfold bnd; rw [e]; obtain ⟨o, μ'⟩ := r; cases o <;> rfl) p

theorem Snd.use {α β δ : Type} {t : Sem α} {f : Mx β} {R : NsMap → List CO → β → α → Prop} {v : β → Mx δ} {γ : Type} {R' : NsMap → List CO → δ → γ → Prop} {r : Out δ × Mem} {Q : γ → Shared → Prop} {E : Value → Shared → Prop} {Q' : α → Shared → Prop} (x : Snd K w prog X ex XR m cs₀ t f R)
    (g : Grow (adr cs₀) (adr cs)) (S : SR K w prog X m ex cs μ s) (e : bnd f v μ = some r) (p : Post K w prog X ex cs XR R' Q E r)
    (y : ∀ m₁ cs₁ b a μ₁ s₁, Grow (adr cs) (adr cs₁) → SR K w prog X m₁ ex cs₁ μ₁ s₁ → R m₁ cs₁ b a → v b μ₁ = some r → Post K w prog X ex cs₁ XR R' Q E r → Q' a s₁) : wpAny (model prog w) X.A t Q' E s := by
  rcases bnd_some e with ⟨sy, d, μ', q, rfl⟩ | ⟨a, μ', q, e⟩
  · exact x cs μ s _ _ E g S q fun s' cs' m' e' g' z => p s' cs' m' e' g' z
  · refine x cs μ s _ _ E g S q fun s' cs' m' a' g' S' z => y m' cs' a a' μ' s' g' S' z e ?_
    obtain ⟨o, μ''⟩ := r
    cases o with
    | ok b' => exact fun s'' cs'' m'' a' g'' S'' z' => p s'' cs'' m'' a' (g'.trans g'') S'' z'
    | exc sy d => exact fun s'' cs'' m'' e' g'' z' => p s'' cs'' m'' e' (g'.trans g'') z'

theorem BinOp_snd {l r : Expr} {op : Operator} {pos : Pos} {fl fr : Mx V} (hl : Snd K w prog X ex XR m cs₀ (eval l env) fl (VQ K m)) (hr : Snd K w prog X ex XR m cs₀ (eval r env) fr (VQ K m)) :
    Snd K w prog X ex XR m cs₀ (eval (.BinOp l op r pos) env) (bnd fl fun a => bnd fr fun b => binM op a b) (VQ K m) := by
  rw [arm_eval_BinOp]
  refine hl.bind fun m₁ cs₁ a va g h => ?_
  obtain ⟨rfl, ha⟩ := h
  refine (hr.grow g).holding.bind fun m₂ cs₂ b vb g' h => ?_
  obtain ⟨rfl, hb⟩ := h
  exact .stand (.operate (binM_snd (ha.grow g') hb))
theorem boolM_snd {v : V} {vv : Value} (hv : VR K (adr cs₀) v vv) : Snd K w prog X ex XR m cs₀ (truthy vv) (boolM v) (BQ m) := fun cs μ s r Q E g S e p => by
  unfold boolM at e
  split at e
  · cases hv; cases e
    exact truthy_bool (p s cs m _ (Grow.refl _) S ⟨rfl, rfl⟩)
  · cases e
theorem Not_snd {x : Expr} {pos : Pos} {f : Mx V} (hx : Snd K w prog X ex XR m cs₀ (eval x env) f (VQ K m)) : Snd K w prog X ex XR m cs₀ (eval (.UnaryOp .Not x pos) env) (bnd f fun v => bnd (boolM v) fun b => ret (.bool (!b))) (VQ K m) := by
  rw [arm_eval_UnaryOp]
  refine hx.bind fun m₁ cs₁ a va g h => ?_
  obtain ⟨rfl, ha⟩ := h
  refine .stand (.holding ?_)
  intro cs μ s r Q E g' S e p
  unfold boolM bnd at e
  cases a <;> first | (cases e; done) | skip
  cases ha; cases e
  exact not_value (truthy_bool (p s cs _ _ (Grow.refl _) S ⟨rfl, .bool⟩))
theorem USub_snd {x : Expr} {pos : Pos} {f : Mx V} (hx : Snd K w prog X ex XR m cs₀ (eval x env) f (VQ K m)) : Snd K w prog X ex XR m cs₀ (eval (.UnaryOp .USub x pos) env) (bnd f fun v => match v with
    | .int i => ret (.int (-i))
    | _ => stuck) (VQ K m) := by
  rw [arm_eval_UnaryOp]
  refine hx.bind fun m₁ cs₁ a va g h => ?_
  obtain ⟨rfl, ha⟩ := h
  refine .stand (.holding ?_)
  intro cs μ s r Q E g' S e p
  cases a <;> first | (cases e; done) | skip
  cases ha; cases e
  exact neg_int (p _ cs _ _ (Grow.refl _) S ⟨rfl, .int⟩)
theorem IfExp_snd {t b o : Expr} {pos : Pos} {ft : Mx Bool} {fb fo : Mx V} (ht : Snd K w prog X ex XR m cs₀ (isTrue t env (eval t env)) ft (BQ m)) (hb : Snd K w prog X ex XR m cs₀ (eval b env) fb (VQ K m)) (ho : Snd K w prog X ex XR m cs₀ (eval o env) fo (VQ K m)) :
    Snd K w prog X ex XR m cs₀ (eval (.IfExp t b o pos) env) (bnd ft fun c => if c then fb else fo) (VQ K m) := by
  rw [arm_eval_IfExp]
  refine ht.bind fun m₁ cs₁ c vc g h => ?_
  obtain ⟨rfl, rfl⟩ := h
  split
  · exact hb.grow g
  · exact ho.grow g
theorem nil_snd : Snd K w prog X ex XR m cs₀ (spliced []) (ret []) (LQ K m) := Snd.ret fun _ _ => ⟨rfl, .nil⟩
theorem cons_snd {e : Sem Value} {r : List (Bool × Sem Value)} {fe : Mx V} {fr : Mx (List V)} (he : Snd K w prog X ex XR m cs₀ e fe (VQ K m)) (hr : Snd K w prog X ex XR m cs₀ (spliced r) fr (LQ K m)) :
    Snd K w prog X ex XR m cs₀ (spliced ((false, e) :: r)) (bnd fe fun v => bnd fr fun vs => ret (v :: vs)) (LQ K m) := by
  rw [spliced]
  refine he.bind fun m₁ cs₁ a va g h => ?_
  obtain ⟨rfl, ha⟩ := h
  simp only [Bool.false_eq_true, if_false]
  show Snd K w prog X ex XR _ cs₁ (pure [va] >>= fun here => holding here (spliced r) >>= fun rest => pure (here ++ rest)) _ _
  rw [pure_bind]
  refine (hr.grow g).holding.bind fun m₂ cs₂ b vb g' h => ?_
  obtain ⟨rfl, hb⟩ := h
  exact Snd.ret fun cs gg => ⟨rfl, .cons (ha.grow (g'.trans gg)) (hb.mono fun _ _ z => z.grow gg)⟩
theorem newM_snd {o : MO} {t : Sem Value} {ob : Obj} (hfr : ob.isFreed = false) (ht : ∀ s Q E, Q (.ref s.heap.objs.size) { s with heap := s.heap.push ob } → wpAny (model prog w) X.A t Q E s) (ho : ∀ cs a, Grow (adr cs₀) (adr cs) → szOk o = true → OR K w prog (adr (cs ++ [⟨a, ob, none⟩])) o ⟨a, ob, none⟩) :
    Snd K w prog X ex XR m cs₀ t (newM o) (VQ K m) := fun cs μ s r Q E g S e p => by
  obtain ⟨lo, hl, N⟩ := S.1.news
  exact ht _ _ _ (post_new (tk := s.toks) S e p hl (S.1.fr.push _) (News.push S.1.fr N _ hfr) (ho cs _ g (newM_sz e)))
theorem newList_snd {vs : List V} {ws : List Value} (h : All2 (VR K (adr cs₀)) vs ws) : Snd K w prog X ex XR m cs₀ (newList ws) (newM (.list vs)) (VQ K m) := fun cs μ s r Q E g S e p => by
  have hz := newM_sz e
  simp only [szOk, decide_eq_true_eq] at hz
  rw [h.length] at hz
  exact newM_snd (cs₀ := cs₀) (o := .list vs) (ob := listObj ws 0) rfl (fun s Q E q => wpAny_newList q (Nat.le_trans hz big_line)) (fun cs a g _ => ⟨ws, 0, rfl, rfl, h.mono fun _ _ z => z.grow (g.trans (adr_push _ _))⟩) cs μ s r Q E g S e p
theorem newTuple_snd {vs : List V} {ws : List Value} (h : All2 (VR K (adr cs₀)) vs ws) : Snd K w prog X ex XR m cs₀ (newTuple ws) (newM (.tup vs)) (VQ K m) := fun cs μ s r Q E g S e p => by
  have hz := newM_sz e
  simp only [szOk, decide_eq_true_eq] at hz
  rw [h.length] at hz
  exact newM_snd (cs₀ := cs₀) (o := .tup vs) (ob := tupObj ws 0) rfl (fun s Q E q => wpAny_newTuple q (Nat.le_trans hz big_line)) (fun cs a g _ => ⟨ws, 0, rfl, rfl, h.mono fun _ _ z => z.grow (g.trans (adr_push _ _))⟩) cs μ s r Q E g S e p
theorem List_snd {es : List Expr} {pos : Pos} {f : Mx (List V)} (h : Snd K w prog X ex XR m cs₀ (spliced (backTo pos (starEach es env))) f (LQ K m)) : Snd K w prog X ex XR m cs₀ (eval (.List es pos) env) (bnd f fun vs => newM (.list vs)) (VQ K m) := by
  rw [arm_eval_List]
  refine .stand (h.bind fun m₁ cs₁ a va g h => ?_)
  obtain ⟨rfl, ha⟩ := h
  exact newList_snd ha
theorem Tuple_snd {es : List Expr} {k : Nat} {pos : Pos} {f : Mx (List V)} (h : Snd K w prog X ex XR m cs₀ (spliced (backTo pos (starEach es env))) f (LQ K m)) : Snd K w prog X ex XR m cs₀ (eval (.Tuple es k pos) env) (bnd f fun vs => newM (.tup vs)) (VQ K m) := by
  rw [arm_eval_Tuple]
  refine .stand (h.bind fun m₁ cs₁ a va g h => ?_)
  obtain ⟨rfl, ha⟩ := h
  exact newTuple_snd ha
theorem base_of {o : Expr} {x : Str} {whole : Sem Value} (h : plainBase o = true) : attributeBase o x env whole = whole := by
  unfold attributeBase
  split
  · cases h
  · rfl
theorem letGo_snd {α : Type} {base : Expr} {o r : Value} {t : Sem α} {β : Type} {f : Mx β} {R : NsMap → List CO → β → α → Prop} (x : Snd K w prog X ex XR m cs₀ t f R) : Snd K w prog X ex XR m cs₀ (letTemporaryGo base o r >>= fun _ => t) f R :=
  Snd.skip (u := fun _ => t) (fun _ _ _ q => wpAny_letTemporaryGo q) x
theorem Attribute_snd (T : FxOk K mg mb n X) {o : Expr} {x : Str} {pos : Pos} {f : Mx V} (hb : plainBase o = true) (h : Snd K w prog X ex XR m cs₀ (eval o env) f (VQ K m)) : Snd K w prog X ex XR m cs₀ (eval (.Attribute o x pos) env) (bnd f fun ov => attrM ov x) (VQ K m) := by
  rw [arm_eval_Attribute, base_of hb]
  refine h.bind fun m₁ cs₁ a va g h => ?_
  obtain ⟨rfl, ha⟩ := h
  refine .stand (.mapRet ((attrM_snd T ha).holding.bind fun m₂ cs₂ b vb g' h => ?_))
  obtain ⟨rfl, hb⟩ := h
  exact letGo_snd (Snd.ret fun cs gg => ⟨rfl, hb.grow gg⟩)
theorem Subscript_snd {o i : Expr} {pos : Pos} {fo fi : Mx V} (hn : noCut i = true) (ho : Snd K w prog X ex XR m cs₀ (eval o env) fo (VQ K m)) (hi : Snd K w prog X ex XR m cs₀ (eval i env) fi (VQ K m)) :
    Snd K w prog X ex XR m cs₀ (eval (.Subscript o i pos) env) (bnd fo fun ov => bnd fi fun iv => itemM ov iv) (VQ K m) := by
  show Snd K w prog X ex XR m cs₀ (eval o env >>= fun ov => holding [ov] (eval i env) >>= fun iv => standAt pos >>= fun _ => subscriptTail o i ov iv) _ _
  refine ho.bind fun m₁ cs₁ a va g h => ?_
  obtain ⟨rfl, ha⟩ := h
  refine (hi.grow g).holding.bind fun m₂ cs₂ b vb g' h => ?_
  obtain ⟨rfl, hb⟩ := h
  exact .stand (itemM_snd hn (ha.grow g') hb)
theorem Slice_snd {o : Expr} {l u : Option Expr} {p pos : Pos} {fo fl fu : Mx V} (ho : Snd K w prog X ex XR m cs₀ (eval o env) fo (VQ K m)) (hl : Snd K w prog X ex XR m cs₀ (valueOrNone (evalOpt l env)) fl (VQ K m)) (hu : Snd K w prog X ex XR m cs₀ (valueOrNone (evalOpt u env)) fu (VQ K m)) :
    Snd K w prog X ex XR m cs₀ (eval (.Subscript o (.Slice l u none p) pos) env) (bnd fo fun ov => bnd fl fun lv => bnd fu fun uv => sliceM ov lv uv) (VQ K m) := by
  show Snd K w prog X ex XR m cs₀ (eval o env >>= fun ov => holding [ov] (eval (.Slice l u none p) env) >>= fun iv => standAt pos >>= fun _ => subscriptTail o (.Slice l u none p) ov iv) _ _
  refine ho.bind fun m₁ cs₁ a va g h => ?_
  obtain ⟨rfl, ha⟩ := h
  intro cs μ s r Q E g₀ S e q
  refine wpAny_bind (wpAny_holding ?_)
  rw [arm_eval_Slice]
  refine wpAny_bind ((hl.grow g).use g₀ S e q fun m₁ cs₂ lv vl μ₁ s₁ g₁ S₁ h e₁ q₁ => ?_)
  obtain ⟨rfl, hlv⟩ := h
  refine wpAny_bind (wpAny_holding ((hu.grow (g.trans (g₀.trans g₁))).use (Grow.refl _) S₁ e₁ q₁ fun m₂ cs₃ uv vu μ₂ s₂ g₂ S₂ h e₂ q₂ => ?_))
  obtain ⟨rfl, huv⟩ := h
  refine wpAny_bind (wpAny_holding (wpAny_pure ?_))
  exact sliceM_snd (ha.grow (g₀.trans (g₁.trans g₂))) (hlv.grow g₂) huv _ _ _ _ _ _ (Grow.refl _) S₂ e₂ q₂
end
section
variable {K : Frag} {w : World} {prog : Program} {X : Fx} {m : NsMap} {ex : List (Addr × Obj)} {XR : XRel} {cs cs₀ : List CO} {μ : Mem} {s : Shared} {mg mb : NsMap} {n : Nat} {env : Env}
/-- and, or as values: each item but the last is a truth -/
theorem bool_one {op : BoolOp} {pos : Pos} {t : Sem Value} {f : Mx V} (h : Snd K w prog X ex XR m cs₀ t f (VQ K m)) : Snd K w prog X ex XR m cs₀ (boolOp pos op [t]) f (VQ K m) := by
  rw [boolOp]; exact h
theorem bool_cons {op : BoolOp} {pos : Pos} {t t' : Sem Value} {r : List (Sem Value)} {f fr : Mx V} (h : Snd K w prog X ex XR m cs₀ t f (VQ K m)) (hr : Snd K w prog X ex XR m cs₀ (boolOp pos op (t' :: r)) fr (VQ K m)) :
    Snd K w prog X ex XR m cs₀ (boolOp pos op (t :: t' :: r)) (bnd f fun v => bnd (boolM v) fun b => match op, b with
    | .And, false => ret v
    | .Or, true => ret v
    | _, _ => fr) (VQ K m) := by
  rw [boolOp]
  · refine h.bind fun m₁ cs₁ v vv g h => ?_
    obtain ⟨rfl, hv⟩ := h
    refine .stand ((boolM_snd hv).holding.bind fun m₂ cs₂ b vb g' h => ?_)
    obtain ⟨rfl, rfl⟩ := h
    cases op <;> cases vb <;> first
      | exact Snd.ret fun cs gg => ⟨rfl, hv.grow (g'.trans gg)⟩
      | exact hr.grow (g.trans g')
  · intro z; cases z
theorem allTrue_nil {op : BoolOp} : Snd K w prog X ex XR m cs₀ (allTrue op [] env) (ret (op == .And)) (BQ m) := Snd.ret fun _ _ => ⟨rfl, rfl⟩
theorem allTrue_cons {op : BoolOp} {x : Expr} {r : List Expr} {f fr : Mx Bool} (h : Snd K w prog X ex XR m cs₀ (isTrue x env (eval x env)) f (BQ m)) (hr : Snd K w prog X ex XR m cs₀ (allTrue op r env) fr (BQ m)) :
    Snd K w prog X ex XR m cs₀ (allTrue op (x :: r) env) (bnd f fun b => match op, b with
    | .And, false => ret false
    | .Or, true => ret true
    | _, _ => fr) (BQ m) := by
  rw [arm_allTrue_cons]
  refine h.bind fun m₁ cs₁ b vb g h => ?_
  obtain ⟨rfl, rfl⟩ := h
  cases op <;> cases vb <;> first
    | exact Snd.ret fun cs gg => ⟨rfl, rfl⟩
    | exact hr.grow g
theorem tNot_snd {x : Expr} {pos : Pos} {wh : Sem Value} {f : Mx Bool} (h : Snd K w prog X ex XR m cs₀ (isTrue x env (eval x env)) f (BQ m)) : Snd K w prog X ex XR m cs₀ (isTrue (.UnaryOp .Not x pos) env wh) (bnd f fun b => ret (!b)) (BQ m) := by
  rw [arm_isTrue_UnaryOp]
  refine h.bind fun m₁ cs₁ b vb g h => ?_
  obtain ⟨rfl, rfl⟩ := h
  exact Snd.ret fun _ _ => ⟨rfl, rfl⟩
theorem tIf_snd {t b o : Expr} {pos : Pos} {wh : Sem Value} {ft fb fo : Mx Bool} (ht : Snd K w prog X ex XR m cs₀ (isTrue t env (eval t env)) ft (BQ m)) (hb : Snd K w prog X ex XR m cs₀ (isTrue b env (eval b env)) fb (BQ m)) (ho : Snd K w prog X ex XR m cs₀ (isTrue o env (eval o env)) fo (BQ m)) :
    Snd K w prog X ex XR m cs₀ (isTrue (.IfExp t b o pos) env wh) (bnd ft fun c => if c then fb else fo) (BQ m) := by
  rw [arm_isTrue_IfExp]
  refine ht.bind fun m₁ cs₁ c vc g h => ?_
  obtain ⟨rfl, rfl⟩ := h
  split
  · exact hb.grow g
  · exact ho.grow g
theorem tPlain_snd {pos : Pos} {wh : Sem Value} {f : Mx V} (h : Snd K w prog X ex XR m cs₀ wh f (VQ K m)) : Snd K w prog X ex XR m cs₀ (wh >>= fun v => standAt pos >>= fun _ => holding [v] (truthy v)) (bnd f boolM) (BQ m) := by
  refine h.bind fun m₁ cs₁ v vv g h => ?_
  obtain ⟨rfl, hv⟩ := h
  exact .stand (boolM_snd hv).holding

theorem cmpV_snd (T : FxOk K mg mb n X) {op : CmpOp} {a b : V} {va vb : Value} (ha : VR K (adr cs₀) a va) (hb : VR K (adr cs₀) b vb) : Snd K w prog X ex XR m cs₀ (compareOp op va vb) (bnd (cmpM op a b) fun b => ret (.bool b)) (VQ K m) := by
  refine Snd.mono (R := fun m' _ v x => m' = m ∧ ∃ b : Bool, v = .bool b ∧ x = .bool b) ?_ ?_
  · intro cs μ s r Q E g S e p
    rcases bnd_some e with ⟨sy, d, μ', q, rfl⟩ | ⟨b, μ', q, e⟩
    · exact cmpM_snd (XR := XR) T ha hb cs μ s _ Q E g S q p
    · cases e
      refine cmpM_snd (XR := XR) T ha hb cs μ s _ Q E g S q fun s' cs' m' x g' S' h => p s' cs' m' x g' S' ⟨h.1, b, rfl, h.2⟩
  · rintro m' cs' v x ⟨rfl, b, rfl, rfl⟩; exact ⟨rfl, .bool⟩
theorem Compare_snd (T : FxOk K mg mb n X) {op : CmpOp} {pos : Pos} {l r : Expr} {fl fr : Mx V} (hm : ∀ t, markedBehindIn op r t = t) (hl : Snd K w prog X ex XR m cs₀ (eval l env) fl (VQ K m)) (hr : Snd K w prog X ex XR m cs₀ (eval r env) fr (VQ K m)) :
    Snd K w prog X ex XR m cs₀ (eval (.Compare l [op] [r] pos) env) (bnd fl fun a => bnd fr fun b => bnd (cmpM op a b) fun c => ret (.bool c)) (VQ K m) := by
  rw [arm_eval_Compare]
  refine hl.bind fun m₁ cs₁ a va g h => ?_
  obtain ⟨rfl, ha⟩ := h
  show Snd K w prog X ex XR _ cs₁ (compareChain pos va [op] [markedBehindIn op r (eval r env)]) _ _
  rw [hm, compareChain]
  refine (hr.grow g).holding.bind fun m₁ cs₁ b vb g h => ?_
  obtain ⟨rfl, hb⟩ := h
  exact .stand (.operate (cmpV_snd T (ha.grow g) hb))
theorem tcmp_one (T : FxOk K mg mb n X) {op : CmpOp} {pos : Pos} {a : V} {va : Value} {t : Sem Value} {f : Mx V} (ha : VR K (adr cs₀) a va) (h : Snd K w prog X ex XR m cs₀ t f (VQ K m)) :
    Snd K w prog X ex XR m cs₀ (testChain pos va [op] [t]) (bnd f fun b => cmpM op a b) (BQ m) := by
  rw [testChain]
  refine h.holding.bind fun m₁ cs₁ b vb g h => ?_
  obtain ⟨rfl, hb⟩ := h
  refine .stand (.mapRet ((Snd.operate (R := CQ _) (cmpM_snd T (ha.grow g) hb)).bind fun m₂ cs₂ c vc g' h => ?_))
  obtain ⟨rfl, rfl⟩ := h
  exact Snd.holding (Snd.step fun cs s μ Q E g S q => truthy_bool (q c s.toks ⟨rfl, rfl⟩))
theorem tcmp_cons (T : FxOk K mg mb n X) {op op' : CmpOp} {ops : List CmpOp} {pos : Pos} {a : V} {va : Value} {t t' : Sem Value} {ts : List (Sem Value)} {f : Mx V} {fr : V → Mx Bool} (ha : VR K (adr cs₀) a va) (h : Snd K w prog X ex XR m cs₀ t f (VQ K m))
    (hr : ∀ cs b vb, Grow (adr cs₀) (adr cs) → VR K (adr cs) b vb → Snd K w prog X ex XR m cs (testChain pos vb (op' :: ops) (t' :: ts)) (fr b) (BQ m)) :
    Snd K w prog X ex XR m cs₀ (testChain pos va (op :: op' :: ops) (t :: t' :: ts)) (bnd f fun b => bnd (cmpM op a b) fun c => if c then fr b else ret false) (BQ m) := by
  rw [testChain]
  · refine h.holding.bind fun m₁ cs₁ b vb g h => ?_
    obtain ⟨rfl, hb⟩ := h
    refine .stand ((cmpM_snd T (ha.grow g) hb).holding.bind fun m₂ cs₂ c vc g' h => ?_)
    obtain ⟨rfl, rfl⟩ := h
    refine Snd.skip (fun _ _ _ q => wpAny_release q) ?_
    show Snd K w prog X ex XR _ cs₂ (holding [Value.bool c, vb] (truthy (Value.bool c)) >>= fun c => if c = true then testChain pos vb (op' :: ops) (t' :: ts) else pure false) _ _
    intro cs μ s r Q E g₂ S e p
    refine wpAny_bind (wpAny_holding (truthy_bool ?_))
    cases c
    · cases e; exact wpAny_pure (p s cs _ _ (Grow.refl _) S ⟨rfl, rfl⟩)
    · exact hr cs b vb (g.trans (g'.trans g₂)) (hb.grow (g'.trans g₂)) cs μ s r Q E (Grow.refl _) S e p
  · intro z; cases z
theorem marked_not {op : CmpOp} {r : Expr} (h : ∀ a b c, r ≠ .Set a b c) (t : Sem Value) : markedBehindIn op r t = t := by
  unfold markedBehindIn behindInMarks
  split
  · rename_i z
    split at z
    · exact absurd rfl (h _ _ _)
    · cases z
  · rfl

/-! ### Calls: what is called, its arguments -/
theorem args_wp {f : Value} {as : List Expr} {pos : Pos} {Q : Args → Shared → Prop} {E : Value → Shared → Prop} {A : Around} (hs : (backTo pos (starEach as env)).any (·.1) = false)
    (h : wpAny (model prog w) A (spliced (backTo pos (starEach as env))) (fun vs s' => Q ⟨vs, []⟩ s') E s) : wpAny (model prog w) A (evalArgs f true (backTo pos (starEach as env)) []) Q E s := by
  revert hs h
  generalize backTo pos (starEach as env) = l
  intro hs h
  cases l with
  | nil =>
    unfold evalArgs
    refine wpAny_bind (wpAny_bind (wpAny_mono h (fun vs s' h' => ?_) fun _ _ x => x))
    exact wpAny_pure (wpAny_holding (wpAny_bind (wpAny_pure (wpAny_bind (wpAny_pure (wpAny_pure h'))))))
  | cons q r =>
    obtain ⟨st, x⟩ := q
    simp only [List.any_cons, Bool.or_eq_false_iff] at hs
    obtain ⟨rfl, _⟩ := hs
    exact Calls.evalArgs_plain h
theorem fn_keep (h : fnOk K = true) {a : Addr} (e : (fnT.lookup a).isSome = true) : keepIn K (.ref a) = true := by
  cases q : fnT.lookup a with
  | none => rw [q] at e; cases e
  | some x =>
    have := List.all_eq_true.mp h _ (lookup_mem q)
    simp only [Bool.and_eq_true] at this
    exact this.1
/-- the call's tail: its arguments are told, then the call -/
theorem callWith_snd (T : FxOk K mg mb n X) {C : CallT} {f : V} {vf : Value} {first : List V} {vfirst : List Value} {as : List Expr} {pos : Pos} {fa : Mx (List V)} (hm : mayCall f = true) (hf : VR K (adr cs₀) f vf) (h1 : All2 (VR K (adr cs₀)) first vfirst)
    (hs : (backTo pos (starEach as env)).any (·.1) = false) (ha : Snd K w prog X ex XR m cs₀ (spliced (backTo pos (starEach as env))) fa (LQ K m))
    (hc : ∀ cs vs ws, Grow (adr cs₀) (adr cs) → All2 (VR K (adr cs)) vs ws → Snd K w prog X ex XR m cs (call vf ws []) (callV C f vs) (VQ K m)) :
    Snd K w prog X ex XR m cs₀ (callWith pos vf vfirst (backTo pos (starEach as env)) []) (bnd fa fun vs => callV C f (first ++ vs)) (VQ K m) := fun cs μ s r Q E g S e p => by
  have hx : ∀ {vf' : Value}, vf' = vf → wpAny (model prog w) X.A (evalArgs vf' true (backTo pos (starEach as env)) []) (fun a s₁ => K.In s₁.heap ∧ wpAny (model prog w) X.A (call vf (vfirst ++ a.pos) a.kw) Q E s₁) E s := fun _ => by
    refine args_wp hs (ha.use g S e p fun m₁ cs₁ vs ws μ₁ s₁ g₁ S₁ h e₁ p₁ => ⟨T.top.inb.keeps S₁.1.stays, ?_⟩)
    obtain ⟨rfl, hv⟩ := h
    exact hc cs₁ _ _ (g.trans g₁) ((h1.mono fun _ _ z => z.grow (g.trans g₁)).append hv) _ _ _ _ _ _ (Grow.refl _) S₁ e₁ p₁
  cases hf with
  | bi => exact Calls.callWith_builtin hs (wpAny_mono (hx rfl) (fun _ _ q => q.2) fun _ _ q => q)
  | ty => exact PySem.callWith_type hs (wpAny_mono (hx rfl) (fun _ _ q => q.2) fun _ _ q => q)
  | @top a _ =>
    refine callWith_of (P := fun h => K.In h) (by rw [hs]; rfl) (keeps_K ?_) (hx rfl)
    unfold mayCall at hm
    rcases Bool.or_eq_true_iff.mp hm with z | z
    · exact fn_keep T.top.fn z
    · cases q : clT.lookup a with
      | none => rw [q] at z; cases z
      | some x => exact (cls_ok T.top.cl q).keep
  | _ => cases hm
theorem Call_snd (T : FxOk K mg mb n X) {C : CallT} {f : Expr} {as : List Expr} {pos : Pos} {ff : Mx V} {fa : Mx (List V)} (hn : ∀ o x p, f ≠ .Attribute o x p) (hs : (backTo pos (starEach as env)).any (·.1) = false) (hf : Snd K w prog X ex XR m cs₀ (eval f env) ff (VQ K m))
    (ha : Snd K w prog X ex XR m cs₀ (spliced (backTo pos (starEach as env))) fa (LQ K m))
    (hc : ∀ cs g vg vs ws, Grow (adr cs₀) (adr cs) → VR K (adr cs) g vg → All2 (VR K (adr cs)) vs ws → Snd K w prog X ex XR m cs (call vg ws []) (callV C g vs) (VQ K m)) :
    Snd K w prog X ex XR m cs₀ (eval (.Call f as [] pos) env) (bnd ff fun fv => if mayCall fv then bnd fa fun vs => callV C fv vs else stuck) (VQ K m) := by
  have e : eval (.Call f as [] pos) env = (eval f env >>= fun fv => callWith pos fv [] (backTo pos (starEach as env)) []) := by
    cases f <;> first | rfl | exact absurd rfl (hn _ _ _)
  rw [e]
  refine hf.bind fun m₁ cs₁ g vg gr h => ?_
  obtain ⟨rfl, hg⟩ := h
  refine .ite fun hm => ?_
  exact callWith_snd T hm hg (first := []) .nil hs (ha.grow gr) fun cs vs ws g' hv => hc cs g vg vs ws (gr.trans g') (hg.grow g') hv
theorem selM_snd (T : FxOk K mg mb n X) {o : V} {vo : Value} {x : Str} {pl : Sem Bool} (ho : VR K (adr cs₀) o vo) : Snd K w prog X ex XR m cs₀ (getMethod vo x pl) (selM o x) (fun m' cs' f p => m' = m ∧ p.2 = [vo] ∧ VR K (adr cs') f p.1) := fun cs μ s r Q E g S e p => by
  unfold selM at e
  split at e
  · rename_i a
    obtain ⟨y, rfl, hx⟩ := ho.ref_inv
    rcases bnd_some e with ⟨_, _, _, q, _⟩ | ⟨o', μ', q, e⟩
    · obtain ⟨_, _, z⟩ := getM_some q; cases z
    obtain ⟨o'', hm, z⟩ := getM_some q
    cases z
    cases o' with
    | inst C fs =>
      dsimp only at e
      cases hf : methT C x with
      | none => rw [hf] at e; cases e
      | some f =>
      cases hl : fs.lookup x with
      | some _ => rw [hf, hl] at e; cases e
      | none =>
        rw [hf, hl] at e
        cases e
        obtain ⟨c, dx, ds, nn, hc, hcx, h3, h4, h5, I, _⟩ := inst_at S (g.at hx) hm
        unfold methT at hf
        cases hcl : clT.lookup C with
        | none => rw [hcl] at hf; cases hf
        | some fm =>
          rw [hcl] at hf
          obtain ⟨fl, ml⟩ := fm
          have CO := cls_ok T.top.cl hcl
          have hme := CO.meth (x, f) (lookup_mem hf)
          refine method_inst S.1.fr T.top.inb I (plainGet_any CO.get) hme.1 hme.2 (getL_none h5 hl) (p s cs m _ (Grow.refl _) S ⟨rfl, rfl, .top ?_⟩)
          have := hme.2
          unfold isFn typeIn at this
          cases q : K.lookup f with
          | some _ => rfl
          | none => simp [q] at this
    | list xs =>
      dsimp only at e
      by_cases hx' : x = "append"
      · rw [if_pos hx'] at e
        cases e
        rw [hx']
        obtain ⟨c, hc, rfl, ⟨vs, nn, h1, h2, h3⟩, hg, _⟩ := co_at S (g.at hx) hm
        exact Calls.getMethod_list_append hg (by rw [h1]) (by rw [h1]) (p s cs m _ (Grow.refl _) S ⟨rfl, rfl, .bi⟩)
      · rw [if_neg hx'] at e; cases e
    | dict es =>
      dsimp only at e
      by_cases hx' : x = "get"
      · rw [if_pos hx'] at e
        cases e
        rw [hx']
        obtain ⟨c, hc, rfl, ⟨h1, h2, h3⟩, hg, _⟩ := co_at S (g.at hx) hm
        rcases h2 with ⟨_, kvs, hd, _⟩ | ⟨_, kvs, hd, _⟩
        · have hD := Heap.dictOf_iff.mpr ⟨_, hg, hd⟩
          exact getMethod_builtin hD.typeIs PySem.F.plainAttrs_dict PySem.F.slot_dict_get PySem.F.type_dict_get hD.mapOf.noDict (p s cs m _ (Grow.refl _) S ⟨rfl, rfl, .bi⟩)
        · have hD := Heap.dictOf_iff.mpr ⟨_, hg, hd⟩
          exact getMethod_builtin hD.typeIs PySem.F.plainAttrs_dict PySem.F.slot_dict_get PySem.F.type_dict_get hD.mapOf.noDict (p s cs m _ (Grow.refl _) S ⟨rfl, rfl, .bi⟩)
      · rw [if_neg hx'] at e; cases e
    | _ => cases e
  · cases e
theorem Method_snd (T : FxOk K mg mb n X) {C : CallT} {o : Expr} {x : Str} {ap : Pos} {as : List Expr} {pos : Pos} {fo : Mx V} {fa : Mx (List V)} (hp : ap.endLine = pos.line) (hn : as.length < 30) (hb : plainBase o = true) (hs : (backTo pos (starEach as env)).any (·.1) = false)
    (ho : Snd K w prog X ex XR m cs₀ (eval o env) fo (VQ K m)) (ha : Snd K w prog X ex XR m cs₀ (spliced (backTo pos (starEach as env))) fa (LQ K m))
    (hc : ∀ cs g vg vs ws, Grow (adr cs₀) (adr cs) → VR K (adr cs) g vg → All2 (VR K (adr cs)) vs ws → Snd K w prog X ex XR m cs (call vg ws []) (callV C g vs) (VQ K m)) :
    Snd K w prog X ex XR m cs₀ (eval (.Call (.Attribute o x ap) as [] pos) env) (bnd fo fun ov => bnd (selM ov x) fun f => if mayCall f then bnd fa fun vs => callV C f (ov :: vs) else stuck) (VQ K m) := by
  rw [arm_eval_Call, base_of hb]
  refine ho.bind fun m₁ cs₁ ov vo g h => ?_
  obtain ⟨rfl, hov⟩ := h
  have few : methodCallForm (as.length + ([] : List Keyword).length) (backTo pos (starEach as env)) (backToKw pos (keywordEach [] env)) = true := by
    unfold methodCallForm
    simp only [List.any_eq_false, Bool.not_eq_true] at hs
    simp only [Bool.and_eq_true, List.all_eq_true, Bool.not_eq_true', decide_eq_true_eq]
    refine ⟨⟨hs, ?_⟩, ?_⟩
    · intro x hx; cases hx
    · show as.length + 0 + 0 < 30
      exact hn
  refine .stand ?_
  unfold methodCall
  rw [few]
  refine (Snd.holding (t := calleeOf true o env vo x) (selM_snd T hov)).bind fun m₂ cs₂ f p g' h => ?_
  obtain ⟨vf, first⟩ := p
  obtain ⟨rfl, h2, hf⟩ := h
  dsimp only at h2 hf
  subst h2
  have hpos : methodCallPos true o env ap pos = pure pos := by
    unfold methodCallPos; simp [hp]
  refine .ite fun hm => ?_
  show Snd K w prog X ex XR _ cs₂ (methodCallPos true o env ap pos >>= fun cp => callWith cp vf [vo] (backTo pos (starEach as env)) []) _ _
  rw [hpos, pure_bind]
  exact callWith_snd T hm hf (first := [ov]) (.cons (hov.grow g') .nil) hs (ha.grow (g.trans g')) fun cs vs ws g'' hv => hc cs f vf vs ws (g.trans (g'.trans g'')) (hf.grow g'') hv
end
/-! ## The ledger's side list; displays of dicts -/
section
variable {K : Frag} {w : World} {prog : Program} {X : Fx} {m : NsMap} {ex : List (Addr × Obj)} {XR XR' : XRel} {cs cs₀ : List CO} {μ : Mem} {s : Shared} {mg mb : NsMap} {n : Nat} {env : Env} {h h' : Heap}
theorem SRh.lt (S : SRh K w prog X m ex cs μ h) : ∀ a ∈ X.L :: X.low.map (·.1) ++ (ex ++ nw cs).map (·.1), a < h.objs.size := fun a ha => by
  rcases List.mem_append.mp ha with z | z
  · rcases List.mem_cons.mp z with rfl | z
    · obtain ⟨o, _, _, ho, _⟩ := S.ns; exact Heap.lt_size ho
    · obtain ⟨p, hp, rfl⟩ := List.mem_map.mp z
      obtain ⟨o, _, _, ho, _⟩ := (S.low p hp).1; exact Heap.lt_size ho
  · obtain ⟨p, hp, rfl⟩ := List.mem_map.mp z
    exact Heap.lt_size (S.led p hp).1
/-- a new object beside the ledger -/
theorem SRh.exAdd (S : SRh K w prog X m ex cs μ h) (kb : ∀ b o, h.get? b = some o → h'.get? b = some o) {a : Addr} {o : Obj} (ha : h.objs.size ≤ a) (ho : h'.get? a = some o) : SRh K w prog X m ((a, o) :: ex) cs μ h' := by
  have S' := S.keep kb
  refine ⟨S'.stays, S'.ns, S'.above, S'.low, fun q hq => ?_, S.sz, S.fro, S.szs, ?_, S.O⟩
  · rcases List.mem_cons.mp hq with rfl | hq
    · exact ⟨ho, S.baseFresh ha, fun e => by dsimp only at e; rw [e] at ha; exact Nat.lt_irrefl _ (Nat.lt_of_lt_of_le S.sz (Nat.le_trans S.size_le ha))⟩
    · exact S'.led q hq
  · have hd := S.dist
    have hlt := S.lt
    rw [List.nodup_append] at hd ⊢
    refine ⟨hd.1, ?_, ?_⟩
    · show ((a, o).1 :: (ex ++ nw cs).map (·.1)).Nodup
      exact List.nodup_cons.mpr ⟨fun hm => Nat.lt_irrefl _ (Nat.lt_of_lt_of_le (hlt a (List.mem_append_right _ hm)) ha), hd.2.1⟩
    · intro x hx y hy
      rcases List.mem_cons.mp (show y ∈ (a, o).1 :: (ex ++ nw cs).map (·.1) from hy) with rfl | hy
      · rintro rfl; exact Nat.lt_irrefl _ (Nat.lt_of_lt_of_le (hlt _ (List.mem_append_left _ hx)) ha)
      · exact hd.2.2 x hx y hy
theorem SRh.exDrop {pre : List (Addr × Obj)} (S : SRh K w prog X m (pre ++ ex) cs μ h) : SRh K w prog X m ex cs μ h := by
  refine ⟨S.stays, S.ns, S.above, S.low, fun q hq => S.led q ?_, S.sz, S.fro, S.szs, ?_, S.O⟩
  · rw [List.append_assoc]; exact List.mem_append_right _ hq
  · have hd := S.dist
    rw [List.append_assoc, List.map_append] at hd
    rw [List.nodup_append] at hd ⊢
    refine ⟨hd.1, (List.nodup_append.mp hd.2.1).2.1, fun x hx y hy => hd.2.2 x hx y (List.mem_append_right _ hy)⟩
/-- what lies beside is changed -/
theorem SRh.exChange {pre pre' : List (Addr × Obj)} (S : SRh K w prog X m (pre ++ ex) cs μ h) (kb : ∀ b o, b ∉ pre.map (·.1) → h.get? b = some o → h'.get? b = some o) (hp : ∀ q ∈ pre', h'.get? q.1 = some q.2) (he : pre'.map (·.1) = pre.map (·.1)) :
    SRh K w prog X m (pre' ++ ex) cs μ h' := by
  have hd := S.dist
  have off : ∀ a, a ∈ X.L :: X.low.map (·.1) → a ∉ pre.map (·.1) := fun a ha hm => by
    rw [List.nodup_append] at hd
    exact hd.2.2 a ha a (by rw [List.append_assoc, List.map_append]; exact List.mem_append_left _ hm) rfl
  have off2 : ∀ q ∈ ex ++ nw cs, q.1 ∉ pre.map (·.1) := fun q hq hm => by
    rw [List.append_assoc, List.map_append] at hd
    have h2 := (List.nodup_append.mp hd).2.1
    exact (List.nodup_append.mp h2).2.2 q.1 hm q.1 (List.mem_map_of_mem hq) rfl
  have nsk : ∀ {L : Addr} {m' : NsMap}, h.Ns L m' → L ∉ pre.map (·.1) → h'.Ns L m' := fun ⟨o, es, ep, ho, rr⟩ hl => ⟨o, es, ep, kb _ _ hl ho, rr⟩
  refine ⟨fun b o e => kb _ _ (fun hm => ?_) (S.stays b o e), nsk S.ns (off _ (.head _)), S.above, fun p hp' => ⟨nsk (S.low p hp').1 (off _ (.tail _ (List.mem_map_of_mem hp'))), (S.low p hp').2⟩, fun q hq => ?_, S.sz, S.fro, S.szs, ?_, S.O⟩
  · obtain ⟨q, hq, rfl⟩ := List.mem_map.mp hm
    have := (S.led q (by rw [List.append_assoc]; exact List.mem_append_left _ hq)).2.1
    rw [this] at e; cases e
  · rw [List.append_assoc] at hq
    rcases List.mem_append.mp hq with z | z
    · have hm : q.1 ∈ pre.map (·.1) := he ▸ List.mem_map_of_mem z
      obtain ⟨q', hq', e⟩ := List.mem_map.mp hm
      exact ⟨hp q z, e ▸ (S.led q' (by rw [List.append_assoc]; exact List.mem_append_left _ hq')).2⟩
    · have := S.led q (by rw [List.append_assoc]; exact List.mem_append_right _ z)
      exact ⟨kb _ _ (off2 q z) this.1, this.2⟩
  · rw [List.append_assoc, List.map_append] at hd ⊢
    rw [he]; exact hd
/-- what lies beside becomes an object of the ledger's -/
theorem SRh.exGive {d : Addr} {o : Obj} {mo : MO} (S : SRh K w prog X m ((d, o) :: ex) cs μ h) (hz : szOk mo = true) (ho : OR K w prog (adr (cs ++ [⟨d, o, none⟩])) mo ⟨d, o, none⟩) : SRh K w prog X m ex (cs ++ [⟨d, o, none⟩]) (μ ++ [mo]) h := by
  have e1 : nw (cs ++ [⟨d, o, none⟩]) = nw cs ++ [(d, o)] := by rw [nw_append, nw_one]; rfl
  refine ⟨S.stays, S.ns, S.above, S.low, fun q hq => S.led q ?_, S.sz, by rw [List.getElem?_append_left (by exact (List.getElem?_eq_some_iff.mp S.fro).1)]; exact S.fro, fun o' ho' => by rcases List.mem_append.mp ho' with z | z; exact S.szs _ z; rw [List.mem_singleton.mp z]; exact hz, ?_, (S.O.mono fun _ _ z => z.grow ⟨[d], by rw [adr_append]; rfl⟩).append (.cons ho .nil)⟩
  · rw [e1] at hq
    simp only [List.mem_append, List.mem_cons, List.not_mem_nil, or_false] at hq ⊢
    rcases hq with z | z | z
    · exact .inl (.inr z)
    · exact .inr z
    · exact .inl (.inl z)
  · have hd := S.dist
    rw [e1]
    refine List.Perm.nodup_iff ?_ |>.mp hd
    refine List.Perm.append_left _ ?_
    refine List.Perm.map _ ?_
    show List.Perm ((d, o) :: (ex ++ nw cs)) (ex ++ (nw cs ++ [(d, o)]))
    rw [← List.append_assoc]
    exact (List.perm_append_singleton _ _).symm

/-- the parts of a display or of a call -/
inductive EsOk (K : Frag) (w : World) (prog : Program) (X : Fx) (ex : List (Addr × Obj)) (XR : XRel) (m : NsMap) (cs₀ : List CO) (env : Env) : List Expr → Mx (List V) → Prop
  | nil : EsOk K w prog X ex XR m cs₀ env [] (ret [])
  | cons {e r f fr} : Snd K w prog X ex XR m cs₀ (eval e env) f (VQ K m) → EsOk K w prog X ex XR m cs₀ env r fr → EsOk K w prog X ex XR m cs₀ env (e :: r) (bnd f fun v => bnd fr fun vs => ret (v :: vs))
theorem EsOk.grow {l : List Expr} {f : Mx (List V)} (x : EsOk K w prog X ex XR m cs₀ env l f) (g : Grow (adr cs₀) (adr cs)) : EsOk K w prog X ex XR m cs env l f := by
  induction x with
  | nil => exact .nil
  | cons a _ ih => exact .cons (a.grow g) ih
theorem starEach_cons {e : Expr} {r : List Expr} (h : ∀ a b, e ≠ .Starred a b) : starEach (e :: r) env = (false, eval e env) :: starEach r env := by
  cases e <;> first | rfl | exact absurd rfl (h _ _)
theorem noStar_cons {e : Expr} {r : List Expr} (h : noStar (e :: r) = true) : (∀ a b, e ≠ .Starred a b) ∧ noStar r = true :=
  ⟨fun a b z => by subst z; exact Bool.noConfusion h, by cases e <;> first | exact h | exact Bool.noConfusion h⟩
theorem keysOf_cons {q : Option Expr} {r : List (Option Expr)} {kv : List V} (h : keysOf (q :: r) = some kv) : ∃ x a b kv', q = some (.Constant (.str x) a b) ∧ keysOf r = some kv' ∧ kv = .str x :: kv' := by
  unfold keysOf at h
  split at h
  · rename_i z; cases z
  · rename_i z
    injection z with h1 h2
    subst h1; subst h2
    cases q2 : keysOf r with
    | none => rw [q2] at h; cases h
    | some kv' => rw [q2] at h; cases h; exact ⟨_, _, _, _, rfl, rfl, rfl⟩
  · cases h
theorem star_any : ∀ {l : List Expr}, noStar l = true → (pos : Pos) → (backTo pos (starEach l env)).any (·.1) = false
  | [], _, _ => rfl
  | e :: r, h, pos => by
    obtain ⟨h1, h2⟩ := noStar_cons h
    rw [starEach_cons h1]
    show (false || (backTo pos (starEach r env)).any (·.1)) = false
    rw [star_any h2]; rfl
theorem EsOk.spl {l : List Expr} {f : Mx (List V)} (x : EsOk K w prog X ex XR m cs₀ env l f) (h : noStar l = true) (pos : Pos) : Snd K w prog X ex XR m cs₀ (spliced (backTo pos (starEach l env))) f (LQ K m) := by
  induction x with
  | nil => exact nil_snd
  | cons a _ ih =>
    obtain ⟨h1, h2⟩ := noStar_cons h
    rw [starEach_cons h1]
    exact cons_snd a (ih h2)
abbrev PQ (K : Frag) (m : NsMap) (kv : List V) : NsMap → List CO → List V → List (Value × Value) → Prop := fun m' cs' vs ps => m' = m ∧ vs.length = kv.length ∧ All2 (fun p q => (∃ x t, p.1 = .str x ∧ q.1 = .str x t) ∧ VR K (adr cs') p.2 q.2) (kv.zip vs) ps
theorem zip_len {α β : Type} {x : α} {xs : List α} {y : β} {ys : List β} : (x :: xs).zip (y :: ys) = (x, y) :: xs.zip ys := rfl
theorem EsOk.pairs {l : List Expr} {f : Mx (List V)} (x : EsOk K w prog X ex XR m cs₀ env l f) (pos : Pos) : ∀ {ks : List (Option Expr)} {kv : List V}, keysOf ks = some kv → kv.length = l.length → Snd K w prog X ex XR m cs₀ (evalPairs (pairTrees ks l env pos)) f (PQ K m kv) := by
  induction x with
  | nil =>
    intro ks kv hk hl
    obtain rfl : kv = [] := List.length_eq_zero_iff.mp hl
    cases ks with
    | nil => exact Snd.ret fun _ _ => ⟨rfl, rfl, .nil⟩
    | cons q r =>
      obtain ⟨_, _, _, _, _, _, z⟩ := keysOf_cons hk
      cases z
  | @cons e r f fr a _ ih =>
    intro ks kv hk hl
    cases ks with
    | nil => cases hk; cases hl
    | cons q rs =>
      obtain ⟨x, c1, c2, kv', rfl, q2, rfl⟩ := keysOf_cons hk
      show Snd K w prog X ex XR m cs₀ (evalPairs ((eval (.Constant (.str x) c1 c2) env, eval e env >>= fun x => standAt pos >>= fun _ => pure x) :: pairTrees rs r env pos)) _ _
      rw [evalPairs]
      have hl' : kv'.length = r.length := by simpa using hl
      intro cs μ s r₀ Q E g S e₀ p
      refine wpAny_bind ?_
      show wpAny _ _ (constValue env (.str x)) _ _ _
      refine wpAny_mkText ?_
      have S' : SR K w prog X m ex cs μ { s with toks := s.toks + 1 } := S
      refine wpAny_bind (wpAny_holding (wpAny_bind ((a.grow g).use (Grow.refl _) S' e₀ p fun m₁ cs₁ v vv μ₁ s₁ g₁ S₁ hv e₁ p₁ => ?_)))
      obtain ⟨rfl, hv⟩ := hv
      refine wpAny_bind (wpAny_standAt (wpAny_pure (wpAny_bind (wpAny_holding (((ih q2 hl').grow (g.trans g₁)).use (Grow.refl _) S₁ e₁ p₁ fun m₂ cs₂ vs ps μ₂ s₂ g₂ S₂ hp e₂ p₂ => ?_)))))
      obtain ⟨rfl, hlen, hp⟩ := hp
      cases e₂
      exact wpAny_pure (p₂ _ _ _ _ (Grow.refl _) S₂ ⟨rfl, by simp [hlen], .cons ⟨⟨x, _, rfl, rfl⟩, hv.grow g₂⟩ hp⟩)
end
section
variable {K : Frag} {w : World} {prog : Program} {X : Fx} {m : NsMap} {ex : List (Addr × Obj)} {XR XR' : XRel} {cs cs₀ : List CO} {μ : Mem} {s : Shared} {mg mb : NsMap} {n : Nat} {env : Env} {h h' : Heap}
theorem noExc_some {α : Type} {f : Mx α} {r : Out α × Mem} (e : noExc f μ = some r) : ∃ a μ', f μ = some (.ok a, μ') ∧ r = (.ok a, μ') := by
  unfold noExc at e
  split at e
  · rename_i q; cases e; exact ⟨_, _, q, rfl⟩
  · cases e
theorem strPairs_of {as : List Addr} {l : List (V × V)} {ps : List (Value × Value)} (x : All2 (fun p q => (∃ x t, p.1 = .str x ∧ q.1 = .str x t) ∧ VR K as p.2 q.2) l ps) : allStrKeys ps = true ∧ All2 (fun p q => p.1 = .str q.1 ∧ VR K as p.2 q.2) l (strPairs ps) := by
  induction x with
  | nil => exact ⟨rfl, .nil⟩
  | @cons a b l r h _ ih =>
    obtain ⟨⟨x, t, h1, h2⟩, h3⟩ := h
    obtain ⟨b1, b2⟩ := b
    dsimp only at h2
    subst h2
    exact ⟨ih.1, .cons ⟨h1, h3⟩ ih.2⟩
theorem keys_nodup {l : List (V × V)} {kvs : List (Str × Value)} {P : V → Value → Prop} (x : All2 (fun p q => p.1 = .str q.1 ∧ P p.2 q.2) l kvs) (h : (l.map (·.1)).Nodup) : (kvs.map (·.1)).Nodup := by
  have e : l.map (·.1) = (kvs.map (·.1)).map V.str := by
    clear h
    induction x with
    | nil => rfl
    | cons a _ ih => simp [a.1, ih]
  rw [e] at h
  exact (List.pairwise_map.mp h).imp fun hne z => hne (by rw [z])
theorem keysOf_len : ∀ {ks : List (Option Expr)} {kv : List V}, keysOf ks = some kv → ks.length = kv.length ∧ ks.all (·.isSome) = true
  | [], _, h => by cases h; exact ⟨rfl, rfl⟩
  | q :: r, kv, h => by
    obtain ⟨x, a, b, kv', rfl, h2, rfl⟩ := keysOf_cons h
    obtain ⟨e1, e2⟩ := keysOf_len h2
    exact ⟨by simp [e1], by simpa using e2⟩
theorem keysOf_str : ∀ {ks : List (Option Expr)} {kv : List V}, keysOf ks = some kv → ∀ v ∈ kv, ∃ x, v = .str x
  | [], _, h => by cases h; exact fun v hv => nomatch hv
  | q :: r, kv, h => by
    obtain ⟨x, a, b, kv', rfl, h2, rfl⟩ := keysOf_cons h
    intro v hv
    rcases List.mem_cons.mp hv with rfl | hv
    · exact ⟨x, rfl⟩
    · exact keysOf_str h2 v hv
theorem SR.exAdd (S : SR K w prog X m ex cs μ s) (o : Obj) (hf : o.isFreed = false) : SR K w prog X m ((s.heap.objs.size, o) :: ex) cs μ { s with heap := s.heap.push o } :=
  ⟨S.1.exAdd (fun _ _ e => Heap.get?_push_of_some _ e) (Nat.le_refl _) (Heap.get?_push_size _ hf), S.2⟩
theorem empty_dict (d : Addr) {as : List Addr} : OR K w prog as (.dict []) ⟨d, { cls := .type "dict", data := .dict #[] }, none⟩ := by
  have h1 : Obj.IsDictOf (strKind prog w) { cls := .type "dict", data := .dict #[] } [] := by
    obtain ⟨o, ho, hd⟩ := Heap.dictOf_iff.mp (Heap.DictOf.new (knd := strKind prog w) ({} : Heap))
    rw [Heap.get?_push_size _ rfl] at ho
    exact (Option.some.inj ho) ▸ hd
  have h2 : Obj.IsDictOf (intKind prog w) { cls := .type "dict", data := .dict #[] } [] := by
    obtain ⟨o, ho, hd⟩ := Heap.dictOf_iff.mp (Heap.DictOf.new (knd := intKind prog w) ({} : Heap))
    rw [Heap.get?_push_size _ rfl] at ho
    exact (Option.some.inj ho) ▸ hd
  exact ⟨rfl, .inl ⟨(fun _ hp => nomatch hp), [], h1, .nil⟩, fun _ => ⟨h1, h2⟩⟩
theorem Dict_snd {ks : List (Option Expr)} {vs : List Expr} {pos : Pos} {kv : List V} {f : Mx (List V)} (hk : keysOf ks = some kv) (hn : kv.Nodup) (hl : kv.length = vs.length) (h15 : kv.length ≤ 15)
    (hx : ∀ q, EsOk K w prog X (q :: ex) (XO K w prog X (q :: ex)) m cs₀ env vs f) : Snd K w prog X ex XR m cs₀ (eval (.Dict ks vs pos) env) (bnd (noExc f) fun ws => newM (.dict (kv.zip ws))) (VQ K m) := fun cs μ s r Q E g S e p => by
  rcases bnd_some e with ⟨_, _, _, q, _⟩ | ⟨ws, μ', q, e⟩
  · obtain ⟨_, _, _, z⟩ := noExc_some q; cases z
  obtain ⟨_, _, q', z⟩ := noExc_some q
  cases z
  have hz := newM_sz e
  by_cases h0 : ks = []
  · subst h0
    cases hk
    obtain rfl : vs = [] := (List.length_eq_zero_iff.mp hl.symm)
    have hf := hx (0, default)
    cases hf
    cases q'
    have e' : newM (.dict []) μ = some r := e
    exact newM_snd (cs₀ := cs₀) (o := .dict []) (ob := { cls := .type "dict", data := .dict #[] }) rfl (fun s Q E q => wpAny_Dict_empty q) (fun cs a g _ => empty_dict a) cs μ s r Q E g S e' p
  · obtain ⟨e1, e2⟩ := keysOf_len hk
    have e3 : ks.length = vs.length := e1.trans hl
    have hpl := pairTrees_length ks vs env pos e2 e3
    refine wpAny_Dict_pairs (knd := strKind prog w) (zip_pairTrees ks vs env pos e2 e3) (fun z => h0 (List.length_eq_zero_iff.mp (by rw [← hpl, z]; rfl))) (by rw [hpl, e1]; exact h15) ?_
    have S' := S.exAdd { cls := .type "dict", data := .dict #[] } rfl
    refine ((hx _).pairs pos hk hl) cs μ _ _ _ _ g S' q' fun s' cs' m' ps g' S'' hR => ?_
    obtain ⟨rfl, hlen, hps⟩ := hR
    obtain ⟨k1, k2⟩ := strPairs_of hps
    have hmap : (kv.zip ws).map (·.1) = kv := List.map_fst_zip (Nat.le_of_eq hlen.symm)
    have k3 := keys_nodup k2 (by rw [hmap]; exact hn)
    have hd0 := (S''.1.led _ (.head _)).1
    refine ⟨strPairs ps, carries_strPairs prog w ps k1, ?_, fun h' hD hs => ?_⟩
    · obtain ⟨_, hh, _⟩ := empty_dict (K := K) (w := w) (prog := prog) (as := []) s.heap.objs.size
      rcases hh with ⟨_, kvs, hd, hp⟩ | ⟨_, kvs, hd, hp⟩
      · cases hp; exact Heap.dictOf_iff.mpr ⟨_, hd0, hd⟩
      · exact Heap.dictOf_iff.mpr ⟨_, hd0, ((empty_dict (K := K) (w := w) (prog := prog) (as := []) s.heap.objs.size).2.2 rfl).1⟩
    · rw [merged_nil_of_nodup _ k3] at hD
      obtain ⟨o', ho', hd'⟩ := Heap.dictOf_iff.mp hD
      have S3 : SRh K w prog X m' ((s.heap.objs.size, o') :: ex) cs' μ' h' :=
        SRh.exChange (pre := [(s.heap.objs.size, _)]) (pre' := [(s.heap.objs.size, o')]) S''.1 (fun b o hb e => (hs.2 b (by simpa using hb)).trans e) (fun q hq => by rw [List.mem_singleton.mp hq]; exact ho') rfl
      have kvs0 : kv ≠ [] := fun z => h0 (List.length_eq_zero_iff.mp (by rw [e1, z]; rfl))
      have S4 := S3.exGive (mo := .dict (kv.zip ws)) hz ⟨rfl, .inl ⟨fun p hp => keysOf_str hk _ (hmap ▸ List.mem_map_of_mem hp), _, hd', k2.mono fun _ _ z => ⟨z.1, z.2.grow (adr_push _ _)⟩⟩, fun z => absurd (by rw [z] at hmap; exact hmap.symm) kvs0⟩
      unfold newM at e
      rw [if_pos hz] at e
      cases e
      have hlen' : μ'.length = cs'.length := S''.1.O.length
      refine p _ _ m' _ (g'.trans (adr_push _ _)) ⟨S4, S''.2⟩ ⟨rfl, ?_⟩
      rw [hlen']
      exact .ref (adr_last _ _)
end
/-! ## Comprehensions -/
section
variable {K : Frag} {w : World} {prog : Program} {X : Fx} {m : NsMap} {ex : List (Addr × Obj)} {XR XR' : XRel} {cs cs₀ : List CO} {μ : Mem} {s : Shared} {mg mb : NsMap} {n : Nat} {env : Env} {h h' : Heap}
/-- what lies beside is forgotten, and may change -/
theorem SRh.exForget {pre : List (Addr × Obj)} (S : SRh K w prog X m (pre ++ ex) cs μ h) (kb : ∀ b o, b ∉ pre.map (·.1) → h.get? b = some o → h'.get? b = some o) : SRh K w prog X m ex cs μ h' := by
  have hd := S.dist
  have off : ∀ a, a ∈ X.L :: X.low.map (·.1) → a ∉ pre.map (·.1) := fun a ha hm => by
    rw [List.nodup_append] at hd
    exact hd.2.2 a ha a (by rw [List.append_assoc, List.map_append]; exact List.mem_append_left _ hm) rfl
  have off2 : ∀ q ∈ ex ++ nw cs, q.1 ∉ pre.map (·.1) := fun q hq hm => by
    rw [List.append_assoc, List.map_append] at hd
    have h2 := (List.nodup_append.mp hd).2.1
    exact (List.nodup_append.mp h2).2.2 q.1 hm q.1 (List.mem_map_of_mem hq) rfl
  have nsk : ∀ {L : Addr} {m' : NsMap}, h.Ns L m' → L ∉ pre.map (·.1) → h'.Ns L m' := fun ⟨o, es, ep, ho, rr⟩ hl => ⟨o, es, ep, kb _ _ hl ho, rr⟩
  refine ⟨fun b o e => kb _ _ (fun hm => ?_) (S.stays b o e), nsk S.ns (off _ (.head _)), S.above, fun p hp' => ⟨nsk (S.low p hp').1 (off _ (.tail _ (List.mem_map_of_mem hp'))), (S.low p hp').2⟩, fun q hq => ?_, S.sz, S.fro, S.szs, S.exDrop.dist, S.O⟩
  · obtain ⟨q, hq, rfl⟩ := List.mem_map.mp hm
    have := (S.led q (by rw [List.append_assoc]; exact List.mem_append_left _ hq)).2.1
    rw [this] at e; cases e
  · have := S.led q (by rw [List.append_assoc]; exact List.mem_append_right _ hq)
    exact ⟨kb _ _ (off2 q hq) this.1, this.2⟩

def clOf (env : Env) : List (Str × NameKind) → List (Str × Addr) → List (Str × Addr)
  | [], cs => cs
  | (n, k) :: r, cs => clOf env r (if k == .free then (n, (env.cells.lookup n).getD 0) :: cs else cs)
theorem closure_is {sc : Scope} (h : ∀ q ∈ sc.names, q.2 = .free → (env.cells.lookup q.1).isSome = true) : closureFor sc env = pure (clOf env sc.names []) := by
  unfold closureFor
  revert h
  generalize sc.names = l
  generalize ([] : List (Str × Addr)) = cs
  intro h
  induction l generalizing cs with
  | nil => rfl
  | cons q r ih =>
    obtain ⟨n, k⟩ := q
    have ih' := fun cs => ih cs fun q hq => h q (.tail _ hq)
    simp only [bind_pure] at ih' ⊢
    rw [List.forIn_cons]
    show _ = pure (clOf env r _)
    rw [← ih' _]
    by_cases hk : k = .free
    · subst hk
      have := h (n, .free) (.head _) rfl
      cases hl : env.cells.lookup n with
      | none => rw [hl] at this; cases this
      | some c => simp [cellOf, hl]
    · have hb : (k == NameKind.free) = false := by simpa using hk
      simp [hb]
theorem clOf_lookup {y : Str} : ∀ {l : List (Str × NameKind)} {cs : List (Str × Addr)}, (∀ q ∈ l, q.2 = .free → (env.cells.lookup q.1).isSome = true) → (∀ p ∈ cs, env.cells.lookup p.1 = some p.2) → ((y, NameKind.free) ∈ l ∨ y ∈ cs.map (·.1)) → (clOf env l cs).lookup y = env.cells.lookup y
  | [], cs, _, h2, h3 => by
    rcases h3 with z | z
    · cases z
    · show cs.lookup y = _
      induction cs with
      | nil => cases z
      | cons p r ih =>
        obtain ⟨a, b⟩ := p
        rw [List.lookup_cons]
        by_cases hy : y = a
        · subst hy; simp only [beq_self_eq_true]; exact (h2 (y, b) (.head _)).symm
        · rw [beq_eq_false_iff_ne.mpr hy]
          simp only [List.map_cons, List.mem_cons] at z
          exact ih (fun p hp => h2 p (.tail _ hp)) (z.resolve_left hy)
  | (n, k) :: r, cs, h1, h2, h3 => by
    rw [clOf]
    refine clOf_lookup (fun q hq => h1 q (.tail _ hq)) (fun p hp => ?_) ?_
    · split at hp
      · rename_i hk
        rcases List.mem_cons.mp hp with rfl | hp
        · have := h1 (n, k) (.head _) (by simpa using hk)
          dsimp only at this ⊢
          cases hl : env.cells.lookup n with
          | none => rw [hl] at this; cases this
          | some c => rfl
        · exact h2 p hp
      · exact h2 p hp
    · rcases h3 with z | z
      · rcases List.mem_cons.mp z with z | z
        · cases z; exact .inr (by simp)
        · exact .inl z
      · refine .inr ?_
        split
        · exact List.mem_cons_of_mem _ z
        · exact z
theorem relabel_lookup {sc : Scope} {y : Str} {q : NameKind} (h : sc.names.lookup y = some q) : (relabel sc env).names.lookup y = some (if (q == .free && env.scope.kind == .function && env.kindOf y == some .cell) then .cell else q) := by
  unfold relabel
  dsimp only
  revert h
  generalize sc.names = l
  intro h
  induction l with
  | nil => cases h
  | cons p r ih =>
    obtain ⟨a, b⟩ := p
    rw [List.lookup_cons] at h
    by_cases hy : y = a
    · subst hy
      simp only [beq_self_eq_true] at h
      cases h
      rw [List.map_cons]
      dsimp only
      split <;> simp [List.lookup_cons]
    · rw [beq_eq_false_iff_ne.mpr hy] at h
      rw [List.map_cons]
      dsimp only
      split <;> (rw [List.lookup_cons, beq_eq_false_iff_ne.mpr hy]; exact ih h)
structure CompK (k : Kinds) (ρ : Loc) (sc : Scope) (x : Str) : Prop where
  ok : namesOk sc.names = true
  own : sc.names.lookup x = some .local
  kind : sc.kind = .function
  nocell : ∀ q ∈ sc.names, q.2 ≠ .cell
  loc : ∀ q ∈ sc.names, q.2 = .local → sc.names.lookup q.1 = some .local
  free : ∀ q ∈ sc.names, q.2 = .free → k.lookup q.1 = some .cell ∧ (ρ.lookup q.1).isSome = true
theorem compK {k : Kinds} {ρ : Loc} {sc : Scope} {x : Str} (h : compOk k ρ sc x = true) : CompK k ρ sc x := by
  unfold compOk at h
  simp only [Bool.and_eq_true, beq_iff_eq, List.all_eq_true, Bool.or_eq_true, bne_iff_ne, ne_eq] at h
  obtain ⟨⟨⟨h1, h2⟩, h3⟩, h4⟩ := h
  refine ⟨h1, h2, h3, fun q hq => (h4 q hq).1.1, fun q hq e => ?_, fun q hq e => ?_⟩
  · exact (h4 q hq).1.2.resolve_left fun z => z e
  · exact (h4 q hq).2.resolve_left fun z => z e
theorem cell_of {k : Kinds} {ρ : Loc} (eo : EnvOk env k) (l : LR K X ex env m (adr cs) ρ) {y : Str} {v : V} (hk : k.lookup y = some .cell) (hv : ρ.lookup y = some v) : ∃ val c o, VR K (adr cs) v val ∧ env.kindOf y = some .cell ∧ env.cells.lookup y = some c ∧ (c, o) ∈ ex ∧ o.data = .cell (some val) := by
  obtain ⟨val, h1, h2⟩ := l y v hv
  have hc := eo.names y .cell hk (by decide)
  cases h2 with
  | loc _ h3 _ => rw [hc] at h3; cases h3
  | own h3 _ _ _ => rw [hc] at h3; cases h3
  | cell h3 h4 h5 h6 => exact ⟨val, _, _, h1, hc, h4, h5, h6⟩
end
section
variable {K : Frag} {w : World} {prog : Program} {X : Fx} {m : NsMap} {ex : List (Addr × Obj)} {XR XR' : XRel} {cs cs₀ : List CO} {μ : Mem} {s : Shared} {mg mb : NsMap} {n : Nat} {env : Env} {h h' : Heap}
theorem lookup_filter {f : Str × V → Bool} {y : Str} {v : V} : ∀ {l : Loc}, (∀ a b c, a = b → f (a, c) = f (b, c)) → (l.filter f).lookup y = some v → (∀ c d, f (y, c) = f (y, d)) → l.lookup y = some v ∧ f (y, v) = true
  | [], _, e, _ => by cases e
  | (a, b) :: r, hf, e, hc => by
    rw [List.filter_cons] at e
    split at e
    · rename_i hab
      rw [List.lookup_cons] at e ⊢
      by_cases hy : y = a
      · subst hy; simp only [beq_self_eq_true] at e ⊢; cases e; exact ⟨rfl, hab⟩
      · rw [beq_eq_false_iff_ne.mpr hy] at e ⊢
        exact lookup_filter hf e hc
    · rename_i hab
      obtain ⟨h1, h2⟩ := lookup_filter hf e hc
      rw [List.lookup_cons]
      by_cases hy : y = a
      · subst hy; rw [hc b v] at hab; exact absurd h2 hab
      · rw [beq_eq_false_iff_ne.mpr hy]; exact ⟨h1, h2⟩
theorem SRh.exPerm {ex' : List (Addr × Obj)} (S : SRh K w prog X m ex cs μ h) (p : ex.Perm ex') : SRh K w prog X m ex' cs μ h := by
  refine ⟨S.stays, S.ns, S.above, S.low, fun q hq => S.led q ?_, S.sz, S.fro, S.szs, ?_, S.O⟩
  · exact (p.append_right _).mem_iff.mpr hq
  · exact (List.Perm.nodup_iff (List.Perm.append_left _ ((p.append_right _).map _))).mp S.dist
def itObj (ax : Addr) (i : Nat) (o : Obj) : Prop := ∀ h : Heap, ∀ a, h.get? a = some o → h.IsListIter a ax i
theorem itObj_of {h : Heap} {a ax : Addr} {i : Nat} (x : h.IsListIter a ax i) : ∃ o, h.get? a = some o ∧ itObj ax i o := by
  obtain ⟨o, ho, r⟩ := x
  exact ⟨o, ho, fun h' a' e => ⟨o, e, r⟩⟩
theorem sameM_some {a : Nat} {xs : List V} {r : Out Unit × Mem} (e : sameM a xs μ = some r) : r = (.ok (), μ) ∧ μ[a]? = some (.list xs) := by
  unfold sameM at e
  rcases bnd_some e with ⟨_, _, _, q, _⟩ | ⟨o, μ', q, e⟩
  · obtain ⟨_, _, z⟩ := getM_some q; cases z
  obtain ⟨o', hm, z⟩ := getM_some q
  cases z
  cases o with
  | list ys =>
    dsimp only at e
    split at e
    · rename_i hy; cases e; exact ⟨rfl, hy ▸ hm⟩
    · cases e
  | _ => cases e
theorem comp_nil {a : Nat} {all : List V} {F : V → Mx V} {r : Out (List V) × Mem} (e : compM a all F [] μ = some r) : r = (.ok [], μ) ∧ μ[a]? = some (.list all) := by
  unfold compM at e
  rcases bnd_some e with ⟨_, _, _, q, _⟩ | ⟨_, μ', q, e⟩
  · obtain ⟨z, _⟩ := sameM_some q; cases z
  · obtain ⟨z, hm⟩ := sameM_some q; cases z; cases e; exact ⟨rfl, hm⟩
theorem comp_cons {a : Nat} {all : List V} {fe : V → Mx V} {v : V} {vs : List V} {r : Out (List V) × Mem} (e : compM a all (fun w => noExc (fe w)) (v :: vs) μ = some r) :
    μ[a]? = some (.list all) ∧ ∃ u μ₁, fe v μ = some (.ok u, μ₁) ∧ ((∃ s d μ₂, compM a all (fun w => noExc (fe w)) vs μ₁ = some (.exc s d, μ₂) ∧ r = (.exc s d, μ₂)) ∨ ∃ us μ₂, compM a all (fun w => noExc (fe w)) vs μ₁ = some (.ok us, μ₂) ∧ r = (.ok (u :: us), μ₂)) := by
  unfold compM at e
  rcases bnd_some e with ⟨_, _, _, q, _⟩ | ⟨_, μ', q, e⟩
  · obtain ⟨z, _⟩ := sameM_some q; cases z
  obtain ⟨z, hm⟩ := sameM_some q
  cases z
  rcases bnd_some e with ⟨_, _, _, q, _⟩ | ⟨u, μ', q, e⟩
  · obtain ⟨_, _, _, z⟩ := noExc_some q; cases z
  obtain ⟨_, _, q', z⟩ := noExc_some q
  cases z
  refine ⟨hm, u, μ', q', ?_⟩
  rcases bnd_some e with ⟨s, d, μ₂, q2, rfl⟩ | ⟨us, μ₂, q2, e⟩
  · exact .inl ⟨s, d, μ₂, q2, rfl⟩
  · cases e; exact .inr ⟨us, _, q2, rfl⟩
theorem comp_ok {a : Nat} {all : List V} {fe : V → Mx V} : ∀ {vs : List V} {μ : Mem} {r : Out (List V) × Mem}, compM a all (fun w => noExc (fe w)) vs μ = some r → ∃ us μ', r = (.ok us, μ')
  | [], μ, r, e => ⟨_, _, (comp_nil e).1⟩
  | v :: vs, μ, r, e => by
    obtain ⟨_, u, μ₁, _, z⟩ := comp_cons e
    rcases z with ⟨_, _, _, q, _⟩ | ⟨us, μ₂, _, rfl⟩
    · obtain ⟨_, _, z⟩ := comp_ok q; cases z
    · exact ⟨_, _, rfl⟩
theorem comp_env {k : Kinds} {ρ : Loc} {sc : Scope} {x : Str} (eo : EnvOk env k) (c : CompK k ρ sc x) (cenv : Env) (hsc : cenv.scope = relabel sc env) (hg : cenv.globals = env.globals) (hb : cenv.builtins = env.builtins) : EnvOk cenv sc.names :=
  ⟨fun y q hy hq => by
    unfold Env.kindOf
    rw [hsc, relabel_lookup hy]
    rw [if_neg (by simp [hq])], by rw [hsc]; exact c.kind, hg.trans eo.globals, hb.trans eo.builtins, c.ok⟩
theorem comp_lr {k : Kinds} {ρ : Loc} {sc : Scope} {x : Str} {v : V} {val : Value} {oC : Obj} {mC : NsMap} {exC : List (Addr × Obj)} (eo : EnvOk env k) (c : CompK k ρ sc x) (l : LR K X ex env m (adr cs) ρ) (cenv : Env) (hsc : cenv.scope = relabel sc env) (hcl : cenv.cells = clOf env sc.names [])
    (hex : ∀ q ∈ ex, q ∈ exC) (hC : (cenv.locals, oC) ∈ exC) (hn : NsObj oC mC) (hx : mC x = some val) (hv : VR K (adr cs) v val) : LR K X exC cenv m (adr cs) ((x, v) :: ρ.filter fun q => sc.names.lookup q.1 == some .free) := fun y u e => by
  have hcells : ∀ q ∈ sc.names, q.2 = .free → (env.cells.lookup q.1).isSome = true := fun q hq hf => by
    obtain ⟨h1, h2⟩ := c.free q hq hf
    cases hr : ρ.lookup q.1 with
    | none => rw [hr] at h2; cases h2
    | some v' => obtain ⟨_, _, _, _, _, h3, _⟩ := cell_of eo l h1 hr; rw [h3]; rfl
  rw [List.lookup_cons] at e
  by_cases hy : y = x
  · subst hy
    simp only [beq_self_eq_true] at e
    cases e
    refine ⟨val, hv, .own ?_ hC hn hx⟩
    unfold Env.kindOf
    rw [hsc, relabel_lookup c.own]
    rfl
  · rw [beq_eq_false_iff_ne.mpr hy] at e
    obtain ⟨h1, h2⟩ := lookup_filter (fun a b c h => by rw [h]) e (fun _ _ => rfl)
    have hf : sc.names.lookup y = some .free := by simpa using h2
    obtain ⟨h3, _⟩ := c.free (y, .free) (lookup_mem hf) rfl
    obtain ⟨val', cc, o, h4, h5, h6, h7, h8⟩ := cell_of eo l h3 h1
    refine ⟨val', h4, .cell (.inl ?_) (c := cc) ?_ (hex _ h7) h8⟩
    · unfold Env.kindOf
      rw [hsc, relabel_lookup hf, eo.kind, h5]
      rfl
    · rw [hcl, clOf_lookup (cs := []) hcells (fun _ hp => (nomatch hp)) (.inl (lookup_mem hf))]; exact h6

def CompInv (K : Frag) (w : World) (prog : Program) (X : Fx) (m : NsMap) (ex : List (Addr × Obj)) (cs₁ : List CO) (a : Nat) (ax I D C : Addr) (xs total : List V) (fe : V → Mx V) (μ₂ : Mem) (n : Nat) (s : Shared) : Prop :=
  ∃ i cs μ oI nD vsD oC mC done ws, n = (xs.drop i).length ∧ Grow (adr cs₁) (adr cs) ∧ SR K w prog X m ((I, oI) :: (D, listObj vsD nD) :: (C, oC) :: ex) cs μ s ∧ itObj ax i oI ∧ NsObj oC mC ∧ All2 (VR K (adr cs)) done vsD ∧ done.length = i ∧
    compM a xs (fun w => noExc (fe w)) (xs.drop i) μ = some (.ok ws, μ₂) ∧ total = done ++ ws
theorem comp_loop {elt iter : Expr} {x : Str} {px pos : Pos} {sc : Scope} {cenv : Env} {a : Nat} {ax I D : Addr} {xs total : List V} {fe : V → Mx V} {μ₂ : Mem} {R : Result → Shared → Prop} {cs₁ : List CO} (T : FxOk K mg mb n X) (hx : cenv.kindOf x = some .local) (hk : cenv.scope.kind = .function) (hxl : xs.length ≤ big) (hax : (adr cs₁)[a]? = some ax)
    (helt : ∀ exC cs v val oC mC, (∀ q ∈ ex, q ∈ exC) → (cenv.locals, oC) ∈ exC → NsObj oC mC → mC x = some val → VR K (adr cs) v val → Grow (adr cs₁) (adr cs) → Snd K w prog X exC (XO K w prog X exC) m cs (eval elt cenv) (fe v) (VQ K m))
    (fin : ∀ cs s oC mC vs n, Grow (adr cs₁) (adr cs) → SR K w prog X m ((D, listObj vs n) :: (cenv.locals, oC) :: ex) cs μ₂ s → NsObj oC mC → All2 (VR K (adr cs)) total vs → R (.ok .next) s)
    (k : Nat) (hI : CompInv K w prog X m ex cs₁ a ax I D cenv.locals xs total fe μ₂ k s) : codeAny (model prog w) X.A (.compLoop (.ListComp elt [⟨.Name x px, iter, [], 0⟩] sc pos) 0 (.ref I) (.ref D) cenv) R s := by
  refine codeAny_compLoop_list (CompInv K w prog X m ex cs₁ a ax I D cenv.locals xs total fe μ₂) ?_ k hI
  rintro k s ⟨i, cs, μ, oI, nD, vsD, oC, mC, done, ws, rfl, g, S, hit, nC, hd, hi, e, ht⟩
  have hI0 := (S.1.led _ (.head _)).1
  cases hr : xs.drop i with
  | nil =>
    rw [hr] at e
    obtain ⟨z, hm⟩ := comp_nil e
    cases z
    obtain ⟨vs, nn, ho, hl, hrl⟩ := isList_at S (g.at hax) hm
    have hnone : vs.toArray[i]? = none := by
      simp only [List.getElem?_toArray]
      rw [List.getElem?_eq_none_iff, ← hrl.length]
      exact List.drop_eq_nil_iff.mp hr
    refine wpAny_pyNext_list_end T.hnd (hit _ _ hI0) hl hnone fun h' hb => ?_
    have S' : SRh K w prog X m ((D, listObj vsD nD) :: (cenv.locals, oC) :: ex) cs _ h' := SRh.exForget (pre := [(I, oI)]) S.1 fun b o hbn eo => hb b o (by simpa using hbn) eo
    exact fin cs _ oC mC vsD nD g ⟨S', S.2⟩ nC (by rw [ht, List.append_nil]; exact hd)
  | cons v rest =>
    rw [hr] at e
    obtain ⟨hm, u, μ₁, e1, z⟩ := comp_cons e
    obtain ⟨us, μ₂', e2, z⟩ : ∃ us μ₂', compM a xs (fun w => noExc (fe w)) rest μ₁ = some (.ok us, μ₂') ∧ (Out.ok ws, μ₂) = (Out.ok (u :: us), μ₂') := by
      rcases z with ⟨_, _, _, _, z⟩ | z
      · cases z
      · exact z
    cases z
    have hv : xs[i]? = some v := by
      have := congrArg (fun l => l[0]?) hr
      simpa using this
    have hrest : xs.drop (i + 1) = rest := by rw [← List.drop_drop, hr]; rfl
    have hilt : i < xs.length := (List.getElem?_eq_some_iff.mp hv).1
    obtain ⟨vs, nn, ho, hl, hrl⟩ := isList_at S (g.at hax) hm
    obtain ⟨val, hval, hvv⟩ := hrl.get hv
    refine wpAny_pyNext_list_item (hit _ _ hI0) hl (by simpa using hval) fun h₁ hit₁ hs₁ => ?_
    obtain ⟨oI', hoI', nI'⟩ := itObj_of hit₁
    have S₁ : SRh K w prog X m ((I, oI') :: (D, listObj vsD nD) :: (cenv.locals, oC) :: ex) cs μ h₁ := SRh.exChange (pre := [(I, oI)]) (pre' := [(I, oI')]) S.1 (fun b o hbn eo => (hs₁.2 b (by simpa using hbn)).trans eo) (fun q hq => by rw [List.mem_singleton.mp hq]; exact hoI') rfl
    have hC₁ := (S₁.led (cenv.locals, oC) (.tail _ (.tail _ (.head _)))).1
    have hdist := (List.nodup_append.mp S₁.dist).2.1
    simp only [List.cons_append, List.map_cons, List.nodup_cons, List.mem_cons, not_or] at hdist
    refine wpAny_assign_Name (wpAny_storeName_local hx (nC _ _ hC₁) (fun h₂ hn₂ hs₂ => ?_) (by rw [hk]; rfl))
    obtain ⟨oC', hoC', nC'⟩ := nsObj_of hn₂
    have S₂ : SRh K w prog X m ((I, oI') :: (D, listObj vsD nD) :: (cenv.locals, oC') :: ex) cs μ h₂ := by
      refine SRh.exChange (pre := [(I, oI'), (D, listObj vsD nD), (cenv.locals, oC)]) (pre' := [(I, oI'), (D, listObj vsD nD), (cenv.locals, oC')]) S₁ (fun b o hbn eo => (hs₂.2 b (fun z => hbn (by simp [z]))).trans eo) (fun q hq => ?_) rfl
      simp only [List.mem_cons, List.not_mem_nil, or_false] at hq
      rcases hq with rfl | rfl | rfl
      · exact (hs₂.2 _ hdist.1.2.1).trans hoI'
      · exact (hs₂.2 _ hdist.2.1.1).trans (S₁.led (D, listObj vsD nD) (.tail _ (.head _))).1
      · exact hoC'
    refine helt ((I, oI') :: (D, listObj vsD nD) :: (cenv.locals, oC') :: ex) cs v val oC' _ (fun q hq => .tail _ (.tail _ (.tail _ hq))) (.tail _ (.tail _ (.head _))) nC' (by simp) hvv g cs μ _ _ _ _ (Grow.refl _) ⟨S₂, S.2⟩ e1 fun s₃ cs₃ m₃ uv g₃ S₃ hu => ?_
    obtain ⟨rfl, hu⟩ := hu
    have hD₃ := (S₃.1.led (D, listObj vsD nD) (.tail _ (.head _))).1
    refine wpAny_list_append_plain ⟨nD, hD₃⟩ (fun h₄ hp₄ hs₄ => ?_) ?_
    · obtain ⟨n₄, ho₄⟩ := hp₄
      have ho₄' : h₄.get? D = some (listObj (vsD ++ [uv]) n₄) := by rw [ho₄]; simp
      have S₄ : SRh K w prog X m₃ ((I, oI') :: (D, listObj (vsD ++ [uv]) n₄) :: (cenv.locals, oC') :: ex) cs₃ μ₁ h₄ := by
        refine SRh.exChange (pre := [(I, oI'), (D, listObj vsD nD)]) (pre' := [(I, oI'), (D, listObj (vsD ++ [uv]) n₄)]) S₃.1 (fun b o hbn eo => (hs₄.2 b (fun z => hbn (by simp [z]))).trans eo) (fun q hq => ?_) rfl
        simp only [List.mem_cons, List.not_mem_nil, or_false] at hq
        rcases hq with rfl | rfl
        · exact (hs₄.2 _ hdist.1.1).trans (S₃.1.led (I, oI') (.head _)).1
        · exact ho₄'
      refine ⟨_, ?_, i + 1, cs₃, μ₁, oI', n₄, vsD ++ [uv], oC', _, done ++ [u], us, rfl, g.trans g₃, ⟨S₄, S₃.2⟩, nI', nC', (hd.mono fun _ _ z => z.grow g₃).append (.cons hu .nil), by simp [hi], hrest ▸ e2, by rw [ht]; simp⟩
      rw [hrest]; simp
    · simp only [List.size_toArray]
      rw [← hd.length, hi]
      exact Nat.le_trans (Nat.le_of_lt hilt) (Nat.le_trans hxl big_line)
theorem comp_core {elt iter : Expr} {x : Str} {px pos cpos : Pos} {sc : Scope} {k : Kinds} {ρ : Loc} {f : Mx V} {fe : V → Mx V} {use : Option (Value → Sem Unit)} {Q : Value → Shared → Prop} {E : Value → Shared → Prop}
    (T : FxOk K mg mb n X) (eo : EnvOk env k) (l : LR K X ex env m (adr cs₀) ρ) (hok : compOk k ρ sc x = true) (hs : ∀ x, foldedSetIterable iter env x = pure x) (hi : Snd K w prog X ex XR m cs₀ (eval iter env) f (VQ K m))
    (helt : ∀ ex' env' cs v, EnvOk env' sc.names → LR K X ex' env' m (adr cs) ((x, v) :: ρ.filter fun q => sc.names.lookup q.1 == some .free) → Snd K w prog X ex' (XO K w prog X ex') m cs (eval elt env') (fe v) (VQ K m)) :
    ∀ cs μ s r, Grow (adr cs₀) (adr cs) → SR K w prog X m ex cs μ s → (bnd f fun v => bnd (listOfM v) fun p => bnd (compM p.1 p.2 (fun w => noExc (fe w)) p.2) fun ws => newM (.list ws)) μ = some r →
    (∀ sy d μ', r = (.exc sy d, μ') → ∀ s' cs' m' e, Grow (adr cs) (adr cs') → XR m' cs' μ' sy d e s' → E (.ref e) s') →
    (∀ v μ', r = (.ok v, μ') → ∀ cs' s' C oC mC D, Grow (adr cs) (adr cs') → SR K w prog X m ((C, oC) :: ex) cs' μ' s' → NsObj oC mC → VR K (adr cs') v (.ref D) → compPost (model prog w) X.A E use Q (.ref D) C (.ok .next) s') →
    wpAny (model prog w) X.A (comprehension (.ListComp elt [⟨.Name x px, iter, [], 0⟩] sc pos) sc env cpos (newList []) false (eval iter env) use) Q E s := fun cs μ s r g S e pe pf => by
  have c := compK hok
  have hcells : ∀ q ∈ sc.names, q.2 = .free → (env.cells.lookup q.1).isSome = true := fun q hq hf => by
    obtain ⟨h1, h2⟩ := c.free q hq hf
    cases hr : ρ.lookup q.1 with
    | none => rw [hr] at h2; cases h2
    | some v' => obtain ⟨_, _, _, _, _, h3, _⟩ := cell_of eo l h1 hr; rw [h3]; rfl
  refine wpAny_comprehension_free rfl hs (closure_is hcells) c.kind c.loc ?_
  rcases bnd_some e with ⟨sy, d, μ', q, rfl⟩ | ⟨v, μ₁, q, e⟩
  · exact hi cs μ s _ _ _ g S q fun s' cs' m' e' g' z => pe sy d μ' rfl s' cs' m' e' g' z
  refine hi cs μ s _ _ _ g S q fun s₁ cs₁ m₁ xv g₁ S₁ hv => ?_
  obtain ⟨rfl, hv⟩ := hv
  rcases bnd_some e with ⟨_, _, _, q2, _⟩ | ⟨pr, μ₂, q2, e⟩
  · obtain ⟨_, _, _, _, z⟩ := listOfM_some q2; cases z
  obtain ⟨a, xs, rfl, hm, z⟩ := listOfM_some q2
  cases z
  dsimp only at e
  obtain ⟨ax, rfl, hax⟩ := hv.ref_inv
  obtain ⟨vs, nn, ho, hl, hr⟩ := isList_at S₁ hax hm
  have hxl : xs.length ≤ big := szList S₁ hm
  refine wpAny_pyIter_list hl (wpAny_newList ?_)
  have Sa := S₁.exAdd { cls := .type "list_iterator", data := .fields #[.ref ax, .int 0 0] } rfl
  have Sb := Sa.exAdd (listObj [] 0) rfl
  refine wpAny_newFunctionEnv c.nocell (fun _ hx => (nomatch hx)) (fun h₃ hns₃ hsb₃ => ?_) c.kind
  obtain ⟨oC, hoC, nC⟩ := nsObj_of hns₃
  have Sc : SRh K w prog X m₁ ((_, oC) :: (_, listObj [] 0) :: (_, { cls := .type "list_iterator", data := .fields #[.ref ax, .int 0 0] }) :: ex) cs₁ μ₁ h₃ :=
    Sb.1.exAdd (fun b o e => (hsb₃.2 b (Nat.ne_of_lt (Heap.lt_size e))).trans (Heap.get?_push_of_some _ e)) (Nat.le_refl _) hoC
  have hI₃ := (Sc.led _ (.tail _ (.tail _ (.head _)))).1
  have hit₃ : itObj ax 0 { cls := .type "list_iterator", data := .fields #[.ref ax, .int 0 0] } := fun h a e => ⟨_, e, rfl, rfl⟩
  refine codeAny_compStart_list ?_ (wpAny_pyIter_listiter (hit₃ _ _ hI₃) ?_) <;> skip
  all_goals
    obtain ⟨ws, μ₂, q3, e4⟩ : ∃ ws μ₂, compM a xs (fun w => noExc (fe w)) xs μ₁ = some (.ok ws, μ₂) ∧ newM (.list ws) μ₂ = some r := by
      rcases bnd_some e with ⟨_, _, _, q3, _⟩ | ⟨ws, μ₂, q3, e⟩
      · obtain ⟨_, _, z⟩ := comp_ok q3; cases z
      · exact ⟨ws, μ₂, q3, e⟩
    have hz := newM_sz e4
    refine comp_loop (cs₁ := cs₁) (total := ws) (ex := ex) (m := m₁) T ?_ ?_ hxl hax (fun exC cs v val oC mC h1 h2 h3 h4 h5 h6 => ?_) (fun cs' s' oC' mC' vs' n' g' S' n'' ha => ?_) _
      ⟨0, cs₁, μ₁, _, 0, [], oC, _, [], ws, rfl, Grow.refl _, ⟨Sc.exPerm (by exact (List.Perm.swap _ _ _).trans (((List.Perm.swap _ _ _).cons _).trans ((List.Perm.swap _ _ _)))), S₁.2⟩, hit₃, nC, .nil, rfl, by simpa using q3, rfl⟩
    · show (relabel sc env).names.lookup x = _
      rw [relabel_lookup c.own]; rfl
    · exact c.kind
    · exact helt exC _ cs v (comp_env eo c _ rfl rfl rfl) (comp_lr eo c (l.grow (g.trans (g₁.trans h6))) _ rfl rfl h1 h2 h3 h4 h5)
    · have S5 := S'.1.exGive (mo := .list ws) hz ⟨vs', n', rfl, rfl, ha.mono fun _ _ z => z.grow (adr_push _ _)⟩
      unfold newM at e4
      rw [if_pos hz] at e4
      cases e4
      have hlen : μ₂.length = cs'.length := S'.1.O.length
      refine pf _ _ rfl _ s' _ oC' mC' _ (g₁.trans (g'.trans (adr_push _ _))) ⟨S5, S'.2⟩ n'' ?_
      rw [hlen]
      exact .ref (adr_last _ _)
end
/-! ## Expressions, all of them -/
section
variable {K : Frag} {w : World} {prog : Program} {X : Fx} {m : NsMap} {ex : List (Addr × Obj)} {XR XR' : XRel} {cs cs₀ : List CO} {μ : Mem} {s : Shared} {mg mb : NsMap} {n : Nat} {env : Env} {h h' : Heap} {k : Kinds} {ρ : Loc} {C : CallT}
theorem notSet_fold {e : Expr} (h : notSet e = true) (x : Value) : foldedSetIterable e env x = pure x := by
  cases e <;> first | rfl | cases h
theorem ListComp_snd {elt iter : Expr} {x : Str} {px pos : Pos} {sc : Scope} {f : Mx V} {fe : V → Mx V} (T : FxOk K mg mb n X) (eo : EnvOk env k) (l : LR K X ex env m (adr cs₀) ρ) (hok : compOk k ρ sc x = true) (hs : notSet iter = true) (hi : Snd K w prog X ex XR m cs₀ (eval iter env) f (VQ K m))
    (helt : ∀ ex' env' cs v, EnvOk env' sc.names → LR K X ex' env' m (adr cs) ((x, v) :: ρ.filter fun q => sc.names.lookup q.1 == some .free) → Snd K w prog X ex' (XO K w prog X ex') m cs (eval elt env') (fe v) (VQ K m)) :
    Snd K w prog X ex XR m cs₀ (eval (.ListComp elt [⟨.Name x px, iter, [], 0⟩] sc pos) env) (bnd f fun v => bnd (listOfM v) fun p => bnd (compM p.1 p.2 (fun w => noExc (fe w)) p.2) fun ws => newM (.list ws)) (VQ K m) := fun cs μ s r Q E g S e p => by
  rw [eval_ListComp]
  refine comp_core (XR := XR) (use := none) T eo l hok (notSet_fold hs) hi helt cs μ s r g S e (fun sy d μ' z => ?_) (fun v μ' z cs' s' C oC mC D g' S' nC hv => ?_)
  · subst z; exact p
  · subst z
    exact ⟨mC, nC _ _ (S'.1.led _ (.head _)).1, fun h' hs => p _ cs' m _ g' ⟨SRh.exForget (pre := [(C, oC)]) S'.1 fun b o hb e => (hs.2 b (by simpa using hb)).trans e, S'.2⟩ ⟨rfl, hv⟩⟩

def CallS (K : Frag) (w : World) (prog : Program) (X : Fx) (C : CallT) : Prop := ∀ ex m cs f args vf vargs, VR K (adr cs) f vf → All2 (VR K (adr cs)) args vargs → Snd K w prog X ex (XO K w prog X ex) m cs (call vf vargs []) (callV C f args) (VQ K m)
def PE (K : Frag) (w : World) (prog : Program) (X : Fx) (C : CallT) (e : Expr) : Prop := ∀ ex m cs env k ρ, EnvOk env k → LR K X ex env m (adr cs) ρ → Snd K w prog X ex (XO K w prog X ex) m cs (eval e env) (evE C k ρ e) (VQ K m)
def PT (K : Frag) (w : World) (prog : Program) (X : Fx) (C : CallT) (e : Expr) : Prop := ∀ ex m cs env k ρ, EnvOk env k → LR K X ex env m (adr cs) ρ → Snd K w prog X ex (XO K w prog X ex) m cs (isTrue e env (eval e env)) (evT C k ρ e (evE C k ρ e)) (BQ m)

theorem evAll_of {op : BoolOp} : ∀ {l : List Expr}, (∀ e ∈ l, PT K w prog X C e) → EnvOk env k → LR K X ex env m (adr cs) ρ → Snd K w prog X ex (XO K w prog X ex) m cs (allTrue op l env) (evAll C k ρ op l) (BQ m)
  | [], _, _, _ => by rw [evAll]; exact allTrue_nil
  | x :: r, h, eo, l => by rw [evAll]; exact allTrue_cons (h x (.head _) _ _ _ _ _ _ eo l) (evAll_of (fun e he => h e (.tail _ he)) eo l)
theorem evBool_of {op : BoolOp} {pos : Pos} : ∀ {l : List Expr}, (∀ e ∈ l, PE K w prog X C e) → EnvOk env k → LR K X ex env m (adr cs) ρ → Snd K w prog X ex (XO K w prog X ex) m cs (boolOp pos op (evalEach l env)) (evBool C k ρ op l) (VQ K m)
  | [], _, _, _ => by rw [evBool]; exact Snd.stuck
  | [x], h, eo, l => by rw [evBool]; exact bool_one (h x (.head _) _ _ _ _ _ _ eo l)
  | x :: y :: r, h, eo, l => by
    rw [evBool]
    · exact bool_cons (h x (.head _) _ _ _ _ _ _ eo l) (evBool_of (l := y :: r) (fun e he => h e (.tail _ he)) eo l)
    · intro z; cases z
theorem evEs_of : ∀ {l : List Expr}, (∀ e ∈ l, PE K w prog X C e) → EnvOk env k → LR K X ex env m (adr cs) ρ → EsOk K w prog X ex (XO K w prog X ex) m cs env l (evEs C k ρ l)
  | [], _, _, _ => by rw [evEs]; exact .nil
  | x :: r, h, eo, l => by rw [evEs]; exact .cons (h x (.head _) _ _ _ _ _ _ eo l) (evEs_of (fun e he => h e (.tail _ he)) eo l)
theorem evO_of {o : Option Expr} (h : ∀ e, o = some e → PE K w prog X C e) (eo : EnvOk env k) (l : LR K X ex env m (adr cs) ρ) : Snd K w prog X ex (XO K w prog X ex) m cs (valueOrNone (evalOpt o env)) (evO C k ρ o) (VQ K m) := by
  cases o with
  | none => rw [evO]; exact Snd.ret fun _ _ => ⟨rfl, .none⟩
  | some e => rw [evO]; exact h e rfl _ _ _ _ _ _ eo l
/-- a set display is never told -/
theorem marked_or {op : CmpOp} (r : Expr) : (∀ t, markedBehindIn op r t = t) ∨ ∀ μ, evE C k ρ r μ = none := by
  cases r with
  | Set a b c => right; intro μ; rfl
  | _ => left; exact marked_not (fun _ _ _ z => by cases z)
theorem evCmp_of (T : FxOk K mg mb n X) {pos : Pos} : ∀ {rs : List Expr} {ops : List CmpOp} {cs : List CO} {a : V} {va : Value}, (∀ e ∈ rs, PE K w prog X C e) → EnvOk env k → LR K X ex env m (adr cs) ρ → VR K (adr cs) a va → ops.length = rs.length →
    Snd K w prog X ex (XO K w prog X ex) m cs (testChain pos va ops (markedEach ops rs (evalEach rs env))) (evCmp C k ρ a ops rs) (BQ m)
  | [], ops, _, _, _, _, _, _, _, hl => by
    obtain rfl : ops = [] := List.length_eq_zero_iff.mp hl
    exact Snd.stuck
  | r :: rs, [], _, _, _, _, _, _, _, hl => by cases hl
  | [r], [op], cs, a, va, h, eo, l, ha, _ => by
    rw [evCmp]
    rcases marked_or (C := C) (k := k) (ρ := ρ) (op := op) r with hm | hm
    · show Snd K w prog X ex _ m cs (testChain pos va [op] [markedBehindIn op r (eval r env)]) _ _
      rw [hm]
      exact tcmp_one T ha (h r (.head _) _ _ _ _ _ _ eo l)
    · exact Snd.none fun μ => by unfold bnd; rw [hm]
  | r :: r' :: rs, op :: op' :: ops, cs, a, va, h, eo, l, ha, hl => by
    rw [evCmp]
    · have e : markedEach (op :: op' :: ops) (r :: r' :: rs) (evalEach (r :: r' :: rs) env) = eval r env :: markedEach (op' :: ops) (r' :: rs) (evalEach (r' :: rs) env) := rfl
      rw [e]
      have ht : ∃ t ts, markedEach (op' :: ops) (r' :: rs) (evalEach (r' :: rs) env) = t :: ts := by
        cases ops <;> cases rs <;> exact ⟨_, _, rfl⟩
      obtain ⟨t, ts, ht⟩ := ht
      rw [ht]
      refine tcmp_cons T ha (h r (.head _) _ _ _ _ _ _ eo l) fun cs' b vb g hb => ?_
      rw [← ht]
      exact evCmp_of T (rs := r' :: rs) (fun e he => h e (.tail _ he)) eo (l.grow g) hb (by simpa using hl)
    · intro z; cases z
  | [r], op :: op' :: ops, _, _, _, _, _, _, _, hl => by simp at hl
  | r :: r' :: rs, [op], _, _, _, _, _, _, _, hl => by simp at hl
end
section
variable {K : Frag} {w : World} {prog : Program} {X : Fx} {m : NsMap} {ex : List (Addr × Obj)} {XR XR' : XRel} {cs cs₀ : List CO} {μ : Mem} {s : Shared} {mg mb : NsMap} {n : Nat} {env : Env} {h h' : Heap} {k : Kinds} {ρ : Loc} {C : CallT}
theorem isTrue_plain {e : Expr} (h1 : ∀ x p, e ≠ .UnaryOp .Not x p) (h2 : ∀ a b c, e ≠ .BoolOp a b c) (h3 : ∀ a b c d, e ≠ .IfExp a b c d) (h4 : ∀ a b c d, e ≠ .Compare a b c d) (wh : Sem Value) :
    isTrue e env wh = (wh >>= fun v => standAt e.pos >>= fun _ => holding [v] (truthy v)) := by
  cases e with
  | UnaryOp op x p => cases op <;> first | rfl | exact absurd rfl (h1 _ _)
  | BoolOp a b c => exact absurd rfl (h2 _ _ _)
  | IfExp a b c d => exact absurd rfl (h3 _ _ _ _)
  | Compare a b c d => exact absurd rfl (h4 _ _ _ _)
  | _ => rfl
theorem evT_plain {e : Expr} (h1 : ∀ x p, e ≠ .UnaryOp .Not x p) (h2 : ∀ a b c, e ≠ .BoolOp a b c) (h3 : ∀ a b c d, e ≠ .IfExp a b c d) (h4 : ∀ a b c d, e ≠ .Compare a b c d) (wh : Mx V) : evT C k ρ e wh = bnd wh boolM := by
  cases e with
  | UnaryOp op x p => cases op <;> first | rfl | exact absurd rfl (h1 _ _)
  | BoolOp a b c => exact absurd rfl (h2 _ _ _)
  | IfExp a b c d => exact absurd rfl (h3 _ _ _ _)
  | Compare a b c d => exact absurd rfl (h4 _ _ _ _)
  | _ => rfl
theorem PT_plain {e : Expr} (h1 : ∀ x p, e ≠ .UnaryOp .Not x p) (h2 : ∀ a b c, e ≠ .BoolOp a b c) (h3 : ∀ a b c d, e ≠ .IfExp a b c d) (h4 : ∀ a b c d, e ≠ .Compare a b c d) (h : PE K w prog X C e) : PT K w prog X C e := fun ex m cs env k ρ eo l => by
  rw [isTrue_plain h1 h2 h3 h4, evT_plain h1 h2 h3 h4]
  exact tPlain_snd (h _ _ _ _ _ _ eo l)
theorem mem_lt {e : Expr} {l : List Expr} (h : e ∈ l) : sizeOf e < sizeOf l := List.sizeOf_lt_of_mem h
theorem ev_all (T : FxOk K mg mb n X) (HC : CallS K w prog X C) : ∀ (j : Nat) (e : Expr), sizeOf e < j → PE K w prog X C e ∧ PT K w prog X C e := by
  intro j
  induction j with
  | zero => intro e h; exact absurd h (Nat.not_lt_zero _)
  | succ j ih =>
    intro e hj
    have sub : ∀ e' : Expr, sizeOf e' < sizeOf e → PE K w prog X C e' ∧ PT K w prog X C e' := fun e' h => ih e' (Nat.lt_of_lt_of_le h (Nat.le_of_lt_succ hj))
    have hcall : ∀ {ex m cs₀}, ∀ cs g vg vs ws, Grow (adr cs₀) (adr cs) → VR K (adr cs) g vg → All2 (VR K (adr cs)) vs ws → Snd K w prog X ex (XO K w prog X ex) m cs (call vg ws []) (callV C g vs) (VQ K m) := fun cs g vg vs ws _ h1 h2 => HC _ _ _ _ _ _ _ h1 h2
    clear ih hj
    have main : PE K w prog X C e := by
      intro ex m cs env k ρ eo l
      cases e with
      | Constant c a b => exact const_snd c a b
      | Name x p => exact name_snd eo T l x p
      | BoolOp op vs p => exact evBool_of (fun e he => (sub e (by have := mem_lt he; simp only [Expr.BoolOp.sizeOf_spec]; omega)).1) eo l
      | BinOp a op b p => exact BinOp_snd ((sub a (by simp only [Expr.BinOp.sizeOf_spec]; omega)).1 _ _ _ _ _ _ eo l) ((sub b (by simp only [Expr.BinOp.sizeOf_spec]; omega)).1 _ _ _ _ _ _ eo l)
      | UnaryOp op x p =>
        have hx := (sub x (by simp only [Expr.UnaryOp.sizeOf_spec]; omega)).1 ex m cs env k ρ eo l
        cases op with
        | Not => exact Not_snd hx
        | USub => exact USub_snd hx
        | _ => exact Snd.stuck
      | IfExp t b o p =>
        exact IfExp_snd ((sub t (by simp only [Expr.IfExp.sizeOf_spec]; omega)).2 _ _ _ _ _ _ eo l) ((sub b (by simp only [Expr.IfExp.sizeOf_spec]; omega)).1 _ _ _ _ _ _ eo l) ((sub o (by simp only [Expr.IfExp.sizeOf_spec]; omega)).1 _ _ _ _ _ _ eo l)
      | Dict ks vs p =>
        show Snd K w prog X ex _ m cs _ (match keysOf ks with
          | some kv => if kv.Nodup ∧ kv.length = vs.length ∧ kv.length ≤ 15 then bnd (noExc (evEs C k ρ vs)) fun ws => newM (.dict (kv.zip ws)) else stuck
          | none => stuck) _
        cases hk : keysOf ks with
        | none => exact Snd.stuck
        | some kv =>
          refine Snd.ite fun hc => ?_
          exact Dict_snd hk hc.1 hc.2.1 hc.2.2 fun q => evEs_of (fun e he => (sub e (by have := mem_lt he; simp only [Expr.Dict.sizeOf_spec]; omega)).1) eo fun y u hy => by
            obtain ⟨val, h1, h2⟩ := l y u hy
            refine ⟨val, h1, ?_⟩
            cases h2 with
            | loc a b c => exact .loc a b c
            | cell a b c d => exact .cell a b (.tail _ c) d
            | own a b c d => exact .own a (.tail _ b) c d
      | List es p =>
        refine Snd.ite (f := bnd (evEs C k ρ es) fun vs => newM (.list vs)) fun hc => ?_
        exact List_snd ((evEs_of (fun e he => (sub e (by have := mem_lt he; simp only [Expr.List.sizeOf_spec]; omega)).1) eo l).spl hc p)
      | Tuple es a p =>
        refine Snd.ite (f := bnd (evEs C k ρ es) fun vs => newM (.tup vs)) fun hc => ?_
        exact Tuple_snd ((evEs_of (fun e he => (sub e (by have := mem_lt he; simp only [Expr.Tuple.sizeOf_spec]; omega)).1) eo l).spl hc p)
      | ListComp e gens sc p =>
        rcases gens with _ | ⟨⟨tg, it, ifs, asy⟩, rest⟩
        · exact Snd.stuck
        rcases rest with _ | ⟨g2, rest⟩
        rotate_left
        · refine Snd.none fun μ => ?_
          rw [evE]
          · rfl
          all_goals (intros; simp_all)
        rcases ifs with _ | ⟨i1, ifs⟩
        rotate_left
        · cases tg <;> exact Snd.stuck
        cases tg with
        | Name x px =>
          by_cases ha : asy = 0
          · subst ha
            refine Snd.ite (c := (compOk k ρ sc x && notSet it) = true) (f := bnd (evE C k ρ it) fun v => bnd (listOfM v) fun p => bnd (compM p.1 p.2 (fun w => noExc (evE C sc.names ((x, w) :: ρ.filter fun q => sc.names.lookup q.1 == some .free) e)) p.2) fun ws => newM (.list ws)) fun hc => ?_
            rw [Bool.and_eq_true] at hc
            exact ListComp_snd T eo l hc.1 hc.2 ((sub it (by simp only [Expr.ListComp.sizeOf_spec, List.cons.sizeOf_spec, Comprehension.mk.sizeOf_spec]; omega)).1 _ _ _ _ _ _ eo l)
              fun ex' env' cs v eo' l' => (sub e (by simp only [Expr.ListComp.sizeOf_spec]; omega)).1 _ _ _ _ _ _ eo' l'
          · refine Snd.none fun μ => ?_
            rw [evE]
            · rfl
            all_goals (intros; simp_all)
        | _ => exact Snd.stuck
      | Compare a ops rs p =>
        rcases ops with _ | ⟨op, ops⟩
        · exact Snd.stuck
        rcases ops with _ | ⟨op', ops⟩
        rotate_left
        · exact Snd.stuck
        rcases rs with _ | ⟨r, rs⟩
        · exact Snd.stuck
        rcases rs with _ | ⟨r', rs⟩
        rotate_left
        · exact Snd.stuck
        have ha := (sub a (by simp only [Expr.Compare.sizeOf_spec]; omega)).1 ex m cs env k ρ eo l
        have hr := (sub r (by simp only [Expr.Compare.sizeOf_spec, List.cons.sizeOf_spec]; omega)).1 ex m cs env k ρ eo l
        rcases marked_or (C := C) (k := k) (ρ := ρ) (op := op) r with hm | hm
        · exact Compare_snd T hm ha hr
        · show Snd K w prog X ex _ m cs (eval a env >>= fun av => compareChain p av [op] (markedEach [op] [r] (evalEach [r] env))) (bnd (evE C k ρ a) fun a => bnd (evE C k ρ r) fun b => bnd (cmpM op a b) fun c => ret (V.bool c)) _
          refine ha.bind fun _ _ _ _ _ _ => Snd.none fun μ => ?_
          unfold bnd; rw [hm]
      | Call f as kws p =>
        rcases kws with _ | ⟨kw, kws⟩
        rotate_left
        · cases f <;> exact Snd.stuck
        have has : ∀ pos, noStar as = true → Snd K w prog X ex (XO K w prog X ex) m cs (spliced (backTo pos (starEach as env))) (evEs C k ρ as) (LQ K m) := fun pos hc => (evEs_of (fun e he => (sub e (by have := mem_lt he; simp only [Expr.Call.sizeOf_spec]; omega)).1) eo l).spl hc pos
        by_cases hf : ∃ o x ap, f = .Attribute o x ap
        · obtain ⟨o, x, ap, rfl⟩ := hf
          refine Snd.ite (c := (ap.endLine == p.line && as.length < 30 && plainBase o && noStar as) = true) (f := bnd (evE C k ρ o) fun ov => bnd (selM ov x) fun f => if mayCall f then bnd (evEs C k ρ as) fun vs => callV C f (ov :: vs) else stuck) fun hc => ?_
          simp only [Bool.and_eq_true, beq_iff_eq, decide_eq_true_eq] at hc
          exact Method_snd T hc.1.1.1 hc.1.1.2 hc.1.2 (star_any hc.2 _) ((sub o (by simp only [Expr.Call.sizeOf_spec, Expr.Attribute.sizeOf_spec]; omega)).1 _ _ _ _ _ _ eo l) (has _ hc.2) hcall
        · have hn : ∀ o x p, f ≠ .Attribute o x p := fun o x p z => hf ⟨o, x, p, z⟩
          have e1 : evE C k ρ (.Call f as [] p) = if noStar as then bnd (evE C k ρ f) fun fv => if mayCall fv then bnd (evEs C k ρ as) fun vs => callV C fv vs else stuck else stuck := by
            cases f <;> first | rfl | exact absurd rfl (hn _ _ _)
          rw [e1]
          refine Snd.ite fun hc => ?_
          exact Call_snd T hn (star_any hc _) ((sub f (by simp only [Expr.Call.sizeOf_spec]; omega)).1 _ _ _ _ _ _ eo l) (has _ hc) hcall
      | Attribute o x p =>
        refine Snd.ite (c := plainBase o = true) (f := bnd (evE C k ρ o) fun ov => attrM ov x) fun hc => ?_
        exact Attribute_snd T hc ((sub o (by simp only [Expr.Attribute.sizeOf_spec]; omega)).1 _ _ _ _ _ _ eo l)
      | Subscript o i p =>
        have ho := (sub o (by simp only [Expr.Subscript.sizeOf_spec]; omega)).1 ex m cs env k ρ eo l
        by_cases hc : ∃ lo up st q, i = .Slice lo up st q
        · obtain ⟨lo, up, st, q, rfl⟩ := hc
          cases st with
          | none =>
            refine Slice_snd ho (evO_of (fun e he => ?_) eo l) (evO_of (fun e he => ?_) eo l)
            · exact (sub e (by subst he; simp only [Expr.Subscript.sizeOf_spec, Expr.Slice.sizeOf_spec, Option.some.sizeOf_spec]; omega)).1
            · exact (sub e (by subst he; simp only [Expr.Subscript.sizeOf_spec, Expr.Slice.sizeOf_spec, Option.some.sizeOf_spec]; omega)).1
          | some st =>
            show Snd K w prog X ex _ m cs (eval o env >>= fun ov => holding [ov] (eval (.Slice lo up (some st) q) env) >>= fun iv => standAt p >>= fun _ => subscriptTail o (.Slice lo up (some st) q) ov iv) (bnd (evE C k ρ o) fun ov => bnd (evE C k ρ (.Slice lo up (some st) q)) fun iv => itemM ov iv) _
            exact ho.bind fun _ _ _ _ _ _ => Snd.none fun μ => rfl
        · have hn : noCut i = true := by
            cases i <;> first | rfl | exact absurd ⟨_, _, _, _, rfl⟩ hc
          have e1 : evE C k ρ (.Subscript o i p) = bnd (evE C k ρ o) fun ov => bnd (evE C k ρ i) fun iv => itemM ov iv := by
            cases i <;> first | rfl | exact absurd ⟨_, _, _, _, rfl⟩ hc
          rw [e1]
          exact Subscript_snd hn ho ((sub i (by simp only [Expr.Subscript.sizeOf_spec]; omega)).1 _ _ _ _ _ _ eo l)
      | _ => exact Snd.stuck
    refine ⟨main, ?_⟩
    by_cases h1 : ∃ x p, e = .UnaryOp .Not x p
    · obtain ⟨x, p, rfl⟩ := h1
      exact fun ex m cs env k ρ eo l => tNot_snd ((sub x (by simp only [Expr.UnaryOp.sizeOf_spec]; omega)).2 _ _ _ _ _ _ eo l)
    by_cases h2 : ∃ a b c, e = .BoolOp a b c
    · obtain ⟨op, vs, p, rfl⟩ := h2
      exact fun ex m cs env k ρ eo l => evAll_of (fun e he => (sub e (by have := mem_lt he; simp only [Expr.BoolOp.sizeOf_spec]; omega)).2) eo l
    by_cases h3 : ∃ a b c d, e = .IfExp a b c d
    · obtain ⟨t, b, o, p, rfl⟩ := h3
      exact fun ex m cs env k ρ eo l => tIf_snd ((sub t (by simp only [Expr.IfExp.sizeOf_spec]; omega)).2 _ _ _ _ _ _ eo l) ((sub b (by simp only [Expr.IfExp.sizeOf_spec]; omega)).2 _ _ _ _ _ _ eo l) ((sub o (by simp only [Expr.IfExp.sizeOf_spec]; omega)).2 _ _ _ _ _ _ eo l)
    by_cases h4 : ∃ a b c d, e = .Compare a b c d
    · obtain ⟨a, ops, rs, p, rfl⟩ := h4
      intro ex m cs env k ρ eo l
      rw [arm_isTrue_Compare]
      refine Snd.ite (c := ops.length = rs.length) (f := bnd (evE C k ρ a) fun a => evCmp C k ρ a ops rs) fun hc => ?_
      refine ((sub a (by simp only [Expr.Compare.sizeOf_spec]; omega)).1 ex m cs env k ρ eo l).bind fun m₁ cs₁ av va g h => ?_
      obtain ⟨rfl, ha⟩ := h
      exact evCmp_of T (fun e he => (sub e (by have := mem_lt he; simp only [Expr.Compare.sizeOf_spec]; omega)).1) eo (l.grow g) ha hc
    exact PT_plain (fun x p z => h1 ⟨x, p, z⟩) (fun a b c z => h2 ⟨a, b, c, z⟩) (fun a b c d z => h3 ⟨a, b, c, d, z⟩) (fun a b c d z => h4 ⟨a, b, c, d, z⟩) main
theorem evE_snd (T : FxOk K mg mb n X) (HC : CallS K w prog X C) (e : Expr) (eo : EnvOk env k) (l : LR K X ex env m (adr cs) ρ) : Snd K w prog X ex (XO K w prog X ex) m cs (eval e env) (evE C k ρ e) (VQ K m) := (ev_all T HC _ e (Nat.lt_succ_self _)).1 _ _ _ _ _ _ eo l
theorem evT_snd (T : FxOk K mg mb n X) (HC : CallS K w prog X C) (e : Expr) (eo : EnvOk env k) (l : LR K X ex env m (adr cs) ρ) : Snd K w prog X ex (XO K w prog X ex) m cs (isTrue e env (eval e env)) (evT C k ρ e (evE C k ρ e)) (BQ m) := (ev_all T HC _ e (Nat.lt_succ_self _)).2 _ _ _ _ _ _ eo l
theorem evO_snd (T : FxOk K mg mb n X) (HC : CallS K w prog X C) (o : Option Expr) (eo : EnvOk env k) (l : LR K X ex env m (adr cs) ρ) : Snd K w prog X ex (XO K w prog X ex) m cs (valueOrNone (evalOpt o env)) (evO C k ρ o) (VQ K m) := evO_of (fun e _ => (ev_all T HC _ e (Nat.lt_succ_self _)).1) eo l
theorem evEs_ok (T : FxOk K mg mb n X) (HC : CallS K w prog X C) (es : List Expr) (eo : EnvOk env k) (l : LR K X ex env m (adr cs) ρ) : EsOk K w prog X ex (XO K w prog X ex) m cs env es (evEs C k ρ es) := evEs_of (fun e _ => (ev_all T HC _ e (Nat.lt_succ_self _)).1) eo l
end
/-! ## Stores -/
section
variable {K : Frag} {w : World} {prog : Program} {X : Fx} {m m' : NsMap} {ex : List (Addr × Obj)} {XR XR' : XRel} {cs cs₀ : List CO} {μ : Mem} {s : Shared} {mg mb : NsMap} {n : Nat} {h h' : Heap} {k : Kinds} {ρ : Loc} {C : CallT}
theorem SRh.store (S : SRh K w prog X m ex cs μ h) (hn : h'.Ns X.L m') (hs : Heap.SameBut X.L h h') : SRh K w prog X m' ex cs μ h' := by
  have hd := S.dist
  have nl : ∀ a ∈ X.low.map (·.1) ++ (ex ++ nw cs).map (·.1), a ≠ X.L := fun a ha z => (List.nodup_cons.mp hd).1 (z ▸ ha)
  refine ⟨fun b o e => (hs.2 b fun z => ?_).trans (S.stays b o e), hn, S.above, fun p hp => ⟨?_, (S.low p hp).2⟩, fun q hq => ⟨(hs.2 _ (nl _ (List.mem_append_right _ (List.mem_map_of_mem hq)))).trans (S.led q hq).1, (S.led q hq).2⟩, S.sz, S.fro, S.szs, hd, S.O⟩
  · rw [z, S.baseNone] at e; cases e
  · exact (S.low p hp).1.sameBut hs (nl _ (List.mem_append_left _ (List.mem_map_of_mem hp)))
structure BodyOk (X : Fx) (k : Kinds) : Prop where
  eo : EnvOk X.env k
  loc : X.env.locals = X.L
theorem lookup_setL {x y : Str} {v : V} : ∀ {ρ : Loc}, (setL x v ρ).lookup y = if y = x then some v else ρ.lookup y
  | [] => by
    unfold setL
    rw [List.lookup_cons]
    by_cases hy : y = x
    · subst hy; simp
    · rw [beq_eq_false_iff_ne.mpr hy, if_neg hy]
  | (a, b) :: r => by
    unfold setL
    by_cases ha : a = x
    · subst ha
      rw [if_pos rfl, List.lookup_cons, List.lookup_cons]
      by_cases hy : y = a
      · subst hy; simp
      · rw [beq_eq_false_iff_ne.mpr hy, if_neg hy]
    · rw [if_neg ha, List.lookup_cons, List.lookup_cons, lookup_setL (ρ := r)]
      by_cases hy : y = a
      · subst hy; simp [ha]
      · rw [beq_eq_false_iff_ne.mpr hy]
theorem LR.store (B : BodyOk X k) (l : LR K X ex X.env m (adr cs) ρ) {x : Str} {v : V} {val : Value} (hk : k.lookup x = some .local) (hv : VR K (adr cs) v val) : LR K X ex X.env (fun y => if y = x then some val else m y) (adr cs) (setL x v ρ) := fun y u e => by
  rw [lookup_setL] at e
  by_cases hy : y = x
  · subst hy
    rw [if_pos rfl] at e
    cases e
    exact ⟨val, hv, .loc B.loc (B.eo.names _ _ hk (by decide)) (if_pos rfl)⟩
  · rw [if_neg hy] at e
    obtain ⟨val', h1, h2⟩ := l y u e
    refine ⟨val', h1, ?_⟩
    cases h2 with
    | loc a b c => exact .loc a b ((if_neg hy).trans c)
    | cell a b c d => exact .cell a b c d
    | own a b c d => exact .own a b c d
abbrev AQ (K : Frag) (X : Fx) (ex : List (Addr × Obj)) : NsMap → List CO → Loc → Unit → Prop := fun m' cs' ρ' _ => LR K X ex X.env m' (adr cs') ρ'
theorem name_store (B : BodyOk X k) {x : Str} {v : V} {val : Value} {Q : Unit → Shared → Prop} {E : Value → Shared → Prop} (S : SR K w prog X m ex cs μ s) (hk : k.lookup x = some .local) (l : LR K X ex X.env m (adr cs) ρ) (hv : VR K (adr cs) v val)
    (q : ∀ s' m', SR K w prog X m' ex cs μ s' → LR K X ex X.env m' (adr cs) (setL x v ρ) → Q () s') : wpAny (model prog w) X.A (storeName X.env x val) Q E s := by
  refine wpAny_storeName_local (B.eo.names _ _ hk (by decide)) (B.loc ▸ S.1.ns) (fun h' hn hs => ?_) (by rw [B.eo.kind]; rfl)
  rw [B.loc] at hn hs
  exact q _ _ ⟨S.1.store hn hs, S.2⟩ (l.store B hk hv)
theorem rel_snd {vs ks : List Value} (l : LR K X ex X.env m (adr cs₀) ρ) : Snd K w prog X ex XR m cs₀ (release vs ks) (ret ρ) (AQ K X ex) := fun cs μ s r Q E g S e p => by
  cases e
  exact wpAny_release (p s cs m () (Grow.refl _) S (l.grow g))
theorem asg_snd (T : FxOk K mg mb n X) (B : BodyOk X k) (HC : CallS K w prog X C) {t : Expr} {v : V} {val : Value} (l : LR K X ex X.env m (adr cs₀) ρ) (hv : VR K (adr cs₀) v val) :
    Snd K w prog X ex (XO K w prog X ex) m cs₀ (assign t X.env val) (asg C k t v ρ) (AQ K X ex) := by
  cases t with
  | Name x p =>
    refine Snd.ite (c := k.lookup x = some .local) (f := ret (setL x v ρ)) fun hk => ?_
    intro cs μ s r Q E g S e p
    cases e
    exact wpAny_assign_Name (name_store B S hk (l.grow g) (hv.grow g) fun s' m' S' l' => p s' cs m' () (Grow.refl _) S' l')
  | Attribute o x p =>
    show Snd K w prog X ex _ m cs₀ _ (bnd (evE C k ρ o) fun ov => bnd (putAttrM ov x v) fun _ => ret ρ) _
    rw [arm_assign_Attribute]
    refine (evE_snd T HC o B.eo l).holding.bind fun m₁ cs₁ a va g h => ?_
    obtain ⟨rfl, ha⟩ := h
    refine .stand ((putAttrM_snd T ha (hv.grow g)).holding.bind fun m₂ cs₂ b vb g' h => ?_)
    cases h
    exact rel_snd (l.grow (g.trans g'))
  | Subscript o i p =>
    by_cases hc : ∃ lo up st q, i = .Slice lo up st q
    · obtain ⟨lo, up, st, q, rfl⟩ := hc
      cases st with
      | none =>
        show Snd K w prog X ex _ m cs₀ _ (bnd (evE C k ρ o) fun ov => bnd (evO C k ρ lo) fun lv => bnd (evO C k ρ up) fun uv => bnd (putSliceM ov lv uv v) fun _ => ret ρ) _
        rw [arm_assign_Subscript]
        refine (evE_snd T HC o B.eo l).holding.bind fun m₁ cs₁ a va g h => ?_
        obtain ⟨rfl, ha⟩ := h
        intro cs μ s r Q E g₀ S e p
        refine wpAny_bind (wpAny_holding ?_)
        rw [arm_eval_Slice]
        refine wpAny_bind ((evO_snd T HC lo B.eo (l.grow g)).use g₀ S e p fun m₁ cs₂ lv vl μ₁ s₁ g₁ S₁ h e₁ p₁ => ?_)
        obtain ⟨rfl, hlv⟩ := h
        refine wpAny_bind (wpAny_holding ((evO_snd T HC up B.eo (l.grow (g.trans (g₀.trans g₁)))).use (Grow.refl _) S₁ e₁ p₁ fun m₂ cs₃ uv vu μ₂ s₂ g₂ S₂ h e₂ p₂ => ?_))
        obtain ⟨rfl, huv⟩ := h
        refine wpAny_bind (wpAny_holding (wpAny_pure ?_))
        refine newFields_slice (wpAny_bind (wpAny_standAt (wpAny_bind (wpAny_holding ?_))))
        have S₃ := S₂.push (sliceObj vl vu)
        have hgo : Grow (adr cs₁) (adr cs₃) := g₀.trans (g₁.trans g₂)
        rcases bnd_some e₂ with ⟨sy, d, μ', q, rfl⟩ | ⟨u, μ', q, e⟩
        · exact putSliceM_snd (XR := XO K w prog X ex) (ha.grow hgo) (hlv.grow g₂) huv (hv.grow (g.trans hgo)) _ cs₃ μ₂ _ _ _ _ (Grow.refl _) S₃ (Heap.IsSliceOf.new ..) q p₂
        · cases e
          refine putSliceM_snd (XR := XO K w prog X ex) (ha.grow hgo) (hlv.grow g₂) huv (hv.grow (g.trans hgo)) _ cs₃ μ₂ _ _ _ _ (Grow.refl _) S₃ (Heap.IsSliceOf.new ..) q fun s' cs' m' a' g' S' h => ?_
          cases h
          exact wpAny_release (p₂ s' cs' _ () g' S' (l.grow (g.trans (hgo.trans g'))))
      | some st =>
        show Snd K w prog X ex _ m cs₀ _ (bnd (evE C k ρ o) fun ov => bnd (evE C k ρ (.Slice lo up (some st) q)) fun iv => bnd (putItemM ov iv v) fun _ => ret ρ) _
        rw [arm_assign_Subscript]
        exact (evE_snd T HC o B.eo l).holding.bind fun _ _ _ _ _ _ => Snd.none fun μ => rfl
    · have e1 : asg C k (.Subscript o i p) v ρ = bnd (evE C k ρ o) fun ov => bnd (evE C k ρ i) fun iv => bnd (putItemM ov iv v) fun _ => ret ρ := by
        cases i <;> first | rfl | exact absurd ⟨_, _, _, _, rfl⟩ hc
      rw [e1, arm_assign_Subscript]
      refine (evE_snd T HC o B.eo l).holding.bind fun m₁ cs₁ a va g h => ?_
      obtain ⟨rfl, ha⟩ := h
      refine (evE_snd T HC i B.eo (l.grow g)).holding.bind fun m₂ cs₂ b vb g' h => ?_
      obtain ⟨rfl, hb⟩ := h
      refine .stand ((setItem_snd (ha.grow g') hb (hv.grow (g.trans g'))).holding.bind fun m₃ cs₃ c vc g'' h => ?_)
      cases h
      exact rel_snd (l.grow (g.trans (g'.trans g'')))
  | _ => exact Snd.stuck
theorem tupM_some {v : V} {r : Out (List V) × Mem} (e : tupM v μ = some r) : ∃ a xs, v = .ref a ∧ μ[a]? = some (.tup xs) ∧ r = (.ok xs, μ) := by
  unfold tupM at e
  split at e
  · rename_i a
    rcases bnd_some e with ⟨_, _, _, q, _⟩ | ⟨o, μ', q, e⟩
    · obtain ⟨_, _, z⟩ := getM_some q; cases z
    obtain ⟨o', hm, z⟩ := getM_some q
    cases z
    cases o with
    | tup xs => cases e; exact ⟨a, xs, rfl, hm, rfl⟩
    | _ => cases e
  · cases e
theorem tuple_at (S : SR K w prog X m ex cs μ s) {a : Nat} {x : Addr} (hx : (adr cs)[a]? = some x) {xs : List V} (hm : μ[a]? = some (.tup xs)) : ∃ vs, s.heap.IsTuple x vs.toArray ∧ All2 (VR K (adr cs)) xs vs := by
  obtain ⟨c, hc, rfl, ⟨vs, n, h1, _, h3⟩, ho⟩ := list_at S hx hm
  exact ⟨vs, ⟨_, ho, by rw [h1], n, by rw [h1]⟩, h3⟩
theorem asgs_snd (T : FxOk K mg mb n X) (B : BodyOk X k) (HC : CallS K w prog X C) : ∀ {ts : List Expr} {vs : List V} {vals : List Value} {m : NsMap} {cs₀ : List CO} {ρ : Loc}, noStar ts = true → LR K X ex X.env m (adr cs₀) ρ → All2 (VR K (adr cs₀)) vs vals →
    Snd K w prog X ex (XO K w prog X ex) m cs₀ (assignInOrder ((assignEach ts X.env).map (·.2)) vals) (asgs C k ts vs ρ) (AQ K X ex)
  | [], vs, vals, m, cs₀, ρ, _, l, hv => by
    cases hv with
    | nil => exact Snd.ret (R := AQ K X ex) fun _ g => l.grow g
    | cons _ _ => exact Snd.stuck
  | t :: ts, vs, vals, m, cs₀, ρ, hs, l, hv => by
    obtain ⟨h1, h2⟩ := noStar_cons hs
    have e1 : assignEach (t :: ts) X.env = (false, assign t X.env) :: assignEach ts X.env := by
      cases t <;> first | rfl | exact absurd rfl (h1 _ _)
    rw [e1]
    cases hv with
    | nil => exact Snd.stuck
    | @cons v val vs vals ha hr =>
      show Snd K w prog X ex _ m cs₀ (holding vals (assign t X.env val) >>= fun _ => assignInOrder ((assignEach ts X.env).map (·.2)) vals) (bnd (asg C k t v ρ) fun ρ' => asgs C k ts vs ρ') _
      exact (asg_snd T B HC l ha).holding.bind fun m₁ cs₁ ρ' _ g l' => asgs_snd T B HC h2 l' (hr.mono fun _ _ z => z.grow g)
theorem assignEach_star : ∀ {ts : List Expr}, noStar ts = true → (assignEach ts X.env).findIdx? (·.1) = none ∧ (assignEach ts X.env).length = ts.length
  | [], _ => ⟨rfl, rfl⟩
  | t :: ts, hs => by
    obtain ⟨h1, h2⟩ := noStar_cons hs
    have e1 : assignEach (t :: ts) X.env = (false, assign t X.env) :: assignEach ts X.env := by
      cases t <;> first | rfl | exact absurd rfl (h1 _ _)
    obtain ⟨h3, h4⟩ := assignEach_star h2
    rw [e1]
    refine ⟨?_, by simp [h4]⟩
    rw [List.findIdx?_cons]
    simp [h3]
theorem SR.fresh {h' : Heap} (S : SR K w prog X m ex cs μ s) (hb : Heap.ExtBut s.heap.objs.size s.heap h') : SR K w prog X m ex cs μ { s with heap := h' } :=
  ⟨S.1.keep fun b o e => hb b o (Nat.ne_of_lt (Heap.lt_size e)) e, S.2⟩
theorem asgT_snd (T : FxOk K mg mb n X) (B : BodyOk X k) (HC : CallS K w prog X C) {t : Expr} {v : V} {val : Value} (l : LR K X ex X.env m (adr cs₀) ρ) (hv : VR K (adr cs₀) v val) :
    Snd K w prog X ex (XO K w prog X ex) m cs₀ (assign t X.env val) (asgT C k t v ρ) (AQ K X ex) := by
  by_cases ht : ∃ ts a p, t = .Tuple ts a p
  · obtain ⟨ts, a, p, rfl⟩ := ht
    refine Snd.ite (c := noStar ts = true) (f := bnd (tupM v) fun xs => if xs.length = ts.length then asgs C k ts xs ρ else stuck) fun hs => ?_
    intro cs μ s r Q E g S e q
    rcases bnd_some e with ⟨_, _, _, z, _⟩ | ⟨xs, μ', z, e⟩
    · obtain ⟨_, _, _, _, z⟩ := tupM_some z; cases z
    obtain ⟨ad, ys, rfl, hm, z⟩ := tupM_some z
    cases z
    split at e
    · rename_i hlen
      obtain ⟨y, rfl, hy⟩ := hv.ref_inv
      obtain ⟨vs, htup, hr⟩ := tuple_at S (g.at hy) hm
      obtain ⟨f1, f2⟩ := assignEach_star (X := X) hs
      refine wpAny_assign_Tuple T.hnd htup (by rw [f2, List.size_toArray, ← hr.length, hlen]) f1 fun h' hb => ?_
      exact asgs_snd T B HC hs (l.grow g) hr cs _ _ r Q E (Grow.refl _) (S.fresh hb) e q
    · cases e
  · have e1 : asgT C k t v ρ = asg C k t v ρ := by
      cases t <;> first | rfl | exact absurd ⟨_, _, _, rfl⟩ ht
    rw [e1]
    exact asg_snd T B HC l hv
theorem nst_snd (B : BodyOk X k) : ∀ {xs : List Str} {vs : List V} {vals : List Value} {m : NsMap} {cs₀ : List CO} {ρ : Loc}, (∀ x ∈ xs, k.lookup x = some .local) → xs.length = vs.length → LR K X ex X.env m (adr cs₀) ρ → All2 (VR K (adr cs₀)) vs vals →
    Snd K w prog X ex XR m cs₀ (assignInOrder (xs.map fun n => bindName X.env n) vals) (ret (nst xs vs ρ)) (AQ K X ex)
  | [], vs, vals, m, cs₀, ρ, _, hl, l, hv => by
    obtain rfl : vs = [] := List.length_eq_zero_iff.mp hl.symm
    exact Snd.ret (R := AQ K X ex) fun _ g => l.grow g
  | x :: xs, vs, vals, m, cs₀, ρ, hk, hl, l, hv => by
    cases hv with
    | nil => cases hl
    | @cons v val vs vals ha hr =>
      intro cs μ s r Q E g S e p
      refine wpAny_bind (wpAny_holding (wpAny_bindName (name_store B S (hk x (.head _)) (l.grow g) (ha.grow g) fun s' m' S' l' => ?_)))
      exact nst_snd B (fun y hy => hk y (.tail _ hy)) (by simpa using hl) l' (hr.mono fun _ _ z => z.grow g) cs μ s' r Q E (Grow.refl _) S' e p
end
/-! ## Statements -/
section
variable {K : Frag} {w : World} {prog : Program} {X : Fx} {m m' : NsMap} {ex : List (Addr × Obj)} {XR XR' : XRel} {cs cs₀ : List CO} {μ : Mem} {s : Shared} {mg mb : NsMap} {n : Nat} {h h' : Heap} {k : Kinds} {ρ : Loc} {C : CallT} {env : Env}
theorem namesIn_gen {f : Expr → Option Str} {line : Nat} (eo : EnvOk env k) (h1 : ∀ id pos, f (.Name id pos) = if env.kindOf id == some .local && pos.line == line then some id else none) (h2 : ∀ t, (∀ id pos, t ≠ .Name id pos) → f t = none) :
    ∀ {ts : List Expr}, localNames k ts = true → ts.filterMap f = namesIn line ts
  | [], _ => rfl
  | t :: ts, h => by
    by_cases ht : ∃ id pos, t = .Name id pos
    · obtain ⟨id, pos, rfl⟩ := ht
      unfold localNames at h
      simp only [Bool.and_eq_true, beq_iff_eq] at h
      have hk := eo.names id .local h.1 (by decide)
      unfold namesIn
      rw [List.filterMap_cons, namesIn_gen eo h1 h2 h.2, h1, hk]
      by_cases hp : (pos.line == line) = true
      · simp [hp]
      · simp [hp]
    · have ht' : ∀ id pos, t ≠ .Name id pos := fun id pos z => ht ⟨id, pos, z⟩
      have h3 : localNames k ts = true := by cases t <;> first | exact h | exact absurd rfl (ht' _ _)
      have h4 : namesIn line (t :: ts) = namesIn line ts := by cases t <;> first | rfl | exact absurd rfl (ht' _ _)
      rw [List.filterMap_cons, namesIn_gen eo h1 h2 h3, h2 t ht', h4]
theorem namesIn_local {line : Nat} : ∀ {ts : List Expr}, localNames k ts = true → ∀ x ∈ namesIn line ts, k.lookup x = some .local
  | [], _, x, hx => nomatch hx
  | t :: ts, h, x, hx => by
    cases t with
    | Name id pos =>
      unfold localNames at h
      simp only [Bool.and_eq_true, beq_iff_eq] at h
      unfold namesIn at hx
      split at hx
      · rcases List.mem_cons.mp hx with rfl | hx
        · exact h.1
        · exact namesIn_local h.2 x hx
      · exact namesIn_local h.2 x hx
    | _ =>
      have h2 : localNames k ts = true := h
      exact namesIn_local h2 x hx
theorem anyStar_gen {f : Expr → Bool} (h1 : ∀ a b, f (.Starred a b) = true) (h2 : ∀ t, (∀ a b, t ≠ .Starred a b) → f t = false) : ∀ {ts : List Expr}, ts.any f = anyStar ts
  | [] => rfl
  | t :: ts => by
    rw [List.any_cons, anyStar_gen h1 h2]
    by_cases ht : ∃ a b, t = .Starred a b
    · obtain ⟨a, b, rfl⟩ := ht
      rw [h1]; rfl
    · have ht' : ∀ a b, t ≠ .Starred a b := fun a b z => ht ⟨a, b, z⟩
      rw [h2 t ht']
      cases t <;> first | rfl | exact absurd rfl (ht' _ _)
theorem block_fn (eo : EnvOk env k) : env.blockKind = .function := by
  unfold Env.blockKind
  rw [eo.kind]; rfl
theorem swapT_ok (eo : EnvOk env k) {t v : Expr} {r : Option (List Str)} (h : swapT k t v = some r) : swappedStores [t] v env = pure r ∧ ∀ names, r = some names → ∀ x ∈ names, k.lookup x = some .local := by
  unfold swapT at h
  split at h
  · rename_i ts a p vs b q
    split at h
    · rename_i hl
      unfold swappedStores
      dsimp only
      rw [namesIn_gen eo (fun _ _ => rfl) (fun t ht => by cases t <;> first | rfl | exact absurd rfl (ht _ _)) hl, anyStar_gen (fun _ _ => rfl) (fun t ht => by cases t <;> first | rfl | exact absurd rfl (ht _ _)), block_fn eo]
      dsimp only at h
      simp only [bne_self_eq_false, Bool.or_false]
      split at h
      · rename_i h1
        cases h
        refine ⟨?_, fun _ z => nomatch z⟩
        rw [if_pos h1]
      rename_i h1
      rw [if_neg h1]
      split at h
      · rename_i h2
        cases h
        refine ⟨?_, fun _ z => nomatch z⟩
        simp only [h2, if_true]
      rename_i h2
      split at h
      · rename_i h3
        cases h
        refine ⟨?_, fun _ z => nomatch z⟩
        simp only [h2, h3, if_true, if_false, Bool.false_eq_true]
      rename_i h3
      split at h
      · rename_i h4
        cases h
        refine ⟨?_, fun _ z => nomatch z⟩
        simp only [h2, h3, h4, if_true, if_false, Bool.false_eq_true]
      rename_i h4
      split at h
      · cases h
      rename_i h5
      cases h
      refine ⟨?_, fun names z => by cases z; exact namesIn_local hl⟩
      simp only [h2, h3, h4, h5, if_false, Bool.false_eq_true]
    · cases h
  · cases h
  · rename_i z1 z2
    cases h
    refine ⟨?_, fun _ z => nomatch z⟩
    cases t <;> first | rfl | exact (z1 _ _ rfl).elim | (cases v <;> first | rfl | exact (z2 _ _ _ _ _ _ rfl rfl).elim | exact (z1 _ _ _ _ _ _ rfl rfl).elim | exact (z2 _ _ rfl).elim)
theorem swaps_not {e : Expr} {t : Option Expr} {l : Nat} (h : notComp e = true) : swapsWith e t l env = pure false := by
  cases e <;> first | rfl | cases h
theorem swaps_use (eo : EnvOk env k) {x : Str} {px p : Pos} {elt : Expr} {gens : List Comprehension} {sc : Scope} {l : Nat} (h : useOk k (.Name x px) (.ListComp elt gens sc p) = true) : k.lookup x = some .local ∧ swapsWith (.ListComp elt gens sc p) (some (.Name x px)) l env = pure true := by
  unfold useOk at h
  simp only [Bool.and_eq_true, beq_iff_eq] at h
  refine ⟨h.1.1, ?_⟩
  have h2 : swapsWith (.ListComp elt gens sc p) (some (.Name x px)) l env = pure (env.blockKind == .function && env.kindOf x == some .local && px.line == p.line && !(sc.names.any fun (n, k) => n == x && (k == .local || k == .cell))) := rfl
  rw [h2, block_fn eo, eo.names _ _ h.1.1 (by decide), h.1.2]
  have h3 := h.2
  simp only [beq_self_eq_true, Bool.true_and]
  exact congrArg pure h3
def FlowR (K : Frag) (as : List Addr) (o : Option V) (f : Flow) : Prop := match o with
  | none => f = .next
  | some v => ∃ val, f = .ret val ∧ VR K as v val
abbrev SQ (K : Frag) (X : Fx) (ex : List (Addr × Obj)) : NsMap → List CO → Option V × Loc → Flow → Prop := fun m' cs' r f => LR K X ex X.env m' (adr cs') r.2 ∧ FlowR K (adr cs') r.1 f
def PS (K : Frag) (w : World) (prog : Program) (X : Fx) (ex : List (Addr × Obj)) (k : Kinds) (C : CallT) (st : Stmt) : Prop := ∀ m cs ρ, LR K X ex X.env m (adr cs) ρ → Snd K w prog X ex (XO K w prog X ex) m cs (exec st X.env) (exS C k st ρ) (SQ K X ex)
def PSs (K : Frag) (w : World) (prog : Program) (X : Fx) (ex : List (Addr × Obj)) (k : Kinds) (C : CallT) (st : List Stmt) : Prop := ∀ m cs ρ, LR K X ex X.env m (adr cs) ρ → Snd K w prog X ex (XO K w prog X ex) m cs (execs st X.env) (exSs C k st ρ) (SQ K X ex)
theorem exSs_of : ∀ {l : List Stmt}, (∀ st ∈ l, PS K w prog X ex k C st) → PSs K w prog X ex k C l
  | [], _ => fun m cs ρ l => Snd.ret (R := SQ K X ex) fun _ g => ⟨l.grow g, rfl⟩
  | st :: r, h => fun m cs ρ l => by
    show Snd K w prog X ex _ m cs (exec st X.env >>= fun f => match f with | .next => execs r X.env | f => pure f) (bnd (exS C k st ρ) fun
      | (some v, ρ') => ret (some v, ρ')
      | (none, ρ') => exSs C k r ρ') _
    refine (h st (.head _) m cs ρ l).bind fun m₁ cs₁ q f g hq => ?_
    obtain ⟨o, ρ'⟩ := q
    obtain ⟨h1, h2⟩ := hq
    dsimp only at h1 h2
    cases o with
    | none =>
      cases (show f = .next from h2)
      exact exSs_of (fun s hs => h s (.tail _ hs)) m₁ cs₁ ρ' h1
    | some v =>
      obtain ⟨val, rfl, hv⟩ := h2
      exact Snd.ret (R := SQ K X ex) fun _ g => ⟨h1.grow g, val, rfl, hv.grow g⟩
theorem not_inter (eo : EnvOk env k) : interactive env = false := by
  unfold interactive; rw [eo.kind]; rfl
theorem Expr_snd (T : FxOk K mg mb n X) (B : BodyOk X k) (HC : CallS K w prog X C) {e : Expr} {p : Pos} : PS K w prog X ex k C (.Expr e p) := fun m cs ρ l => by
  refine Snd.ite (c := notComp e = true) (f := bnd (evE C k ρ e) fun _ => ret (none, ρ)) fun hn => ?_
  rw [exec_Expr X.env e p (not_inter B.eo) (swaps_not hn)]
  refine .stand ((evE_snd T HC e B.eo l).bind fun m₁ cs₁ v vv g h => ?_)
  obtain ⟨rfl, hv⟩ := h
  intro cs μ s r Q E g' S e' q
  cases e'
  exact wpAny_dropValue (q s cs _ _ (Grow.refl _) S ⟨l.grow (g.trans g'), rfl⟩)
theorem Return_snd (T : FxOk K mg mb n X) (B : BodyOk X k) (HC : CallS K w prog X C) {e : Option Expr} {p : Pos} : PS K w prog X ex k C (.Return e p) := fun m cs ρ l => by
  cases e with
  | none => exact .stand (Snd.ret (R := SQ K X ex) fun _ g => ⟨l.grow g, _, rfl, .none⟩)
  | some e =>
    show Snd K w prog X ex _ m cs (standAt p >>= fun _ => eval e X.env >>= fun v => pure (Flow.ret v)) (bnd (evE C k ρ e) fun v => ret (some v, ρ)) _
    refine .stand ((evE_snd T HC e B.eo l).bind fun m₁ cs₁ v vv g h => ?_)
    obtain ⟨rfl, hv⟩ := h
    exact Snd.ret (R := SQ K X ex) fun _ g' => ⟨l.grow (g.trans g'), vv, rfl, hv.grow g'⟩
theorem If_snd (T : FxOk K mg mb n X) (B : BodyOk X k) (HC : CallS K w prog X C) {t : Expr} {b o : List Stmt} {p : Pos} (hb : PSs K w prog X ex k C b) (ho : PSs K w prog X ex k C o) : PS K w prog X ex k C (.If t b o p) := fun m cs ρ l => by
  rw [arm_exec_If]
  show Snd K w prog X ex _ m cs _ (bnd (evT C k ρ t (evE C k ρ t)) fun c => if c then exSs C k b ρ else exSs C k o ρ) _
  refine .stand ((evT_snd T HC t B.eo l).bind fun m₁ cs₁ c vc g h => ?_)
  obtain ⟨rfl, rfl⟩ := h
  split
  · exact hb _ _ _ (l.grow g)
  · exact ho _ _ _ (l.grow g)
theorem asgW_snd (T : FxOk K mg mb n X) (B : BodyOk X k) (HC : CallS K w prog X C) {t : Expr} {v : V} {val : Value} {sw : Option (List Str)} (hsw : ∀ names, sw = some names → ∀ x ∈ names, k.lookup x = some .local) (ht : ∀ a b, t ≠ .Starred a b) (l : LR K X ex X.env m (adr cs₀) ρ) (hv : VR K (adr cs₀) v val) :
    Snd K w prog X ex (XO K w prog X ex) m cs₀ (assignStores X.env val sw ((assignEach [t] X.env).map (·.2))) (bnd (asgW C k t v ρ sw) fun ρ' => ret (none, ρ')) (SQ K X ex) := by
  cases sw with
  | none =>
    have e1 : assignEach [t] X.env = [(false, assign t X.env)] := by
      cases t <;> first | rfl | exact absurd rfl (ht _ _)
    rw [e1]
    show Snd K w prog X ex _ m cs₀ (assign t X.env val >>= fun _ => pure Flow.next) (bnd (asgT C k t v ρ) fun ρ' => ret (none, ρ')) _
    exact (asgT_snd T B HC l hv).bind fun m₁ cs₁ ρ' _ g l' => Snd.ret (R := SQ K X ex) fun _ g' => ⟨LR.grow l' g', rfl⟩
  | some names =>
    intro cs μ s r Q E g S e q
    unfold asgW at e
    rcases bnd_some e with ⟨_, _, _, z, _⟩ | ⟨ρ', μ', z, e⟩
    · exfalso
      rcases bnd_some z with ⟨_, _, _, z, _⟩ | ⟨xs, μ', z, e⟩
      · obtain ⟨_, _, _, _, z⟩ := tupM_some z; cases z
      · split at e <;> cases e
    cases e
    rcases bnd_some z with ⟨_, _, _, z, _⟩ | ⟨xs, μ'', z, e⟩
    · obtain ⟨_, _, _, _, z⟩ := tupM_some z; cases z
    obtain ⟨ad, ys, rfl, hm, z⟩ := tupM_some z
    cases z
    split at e
    · rename_i hlen
      cases e
      obtain ⟨y, rfl, hy⟩ := hv.ref_inv
      obtain ⟨vs, htup, hr⟩ := tuple_at S (g.at hy) hm
      unfold assignStores
      refine wpAny_bind (wpAny_rule (wpAny_bind ?_))
      have hsz : names.length = vs.toArray.size := by rw [List.size_toArray, ← hr.length, hlen]
      rw [hsz]
      refine wpAny_unpackItems_tuple T.hnd htup fun h' hb => ?_
      have hrr : All2 (VR K (adr cs)) xs.reverse vs.toArray.toList.reverse := by
        have rev : ∀ {a : List V} {b : List Value}, All2 (VR K (adr cs)) a b → All2 (VR K (adr cs)) a.reverse b.reverse := by
          intro a b z
          induction z with
          | nil => exact .nil
          | cons x _ ih => rw [List.reverse_cons, List.reverse_cons]; exact ih.append (.cons x .nil)
        simpa using rev hr
      refine wpAny_bind (nst_snd (XR := XO K w prog X ex) B (fun x hx => hsw names rfl x (List.mem_reverse.mp hx)) (by simp [hlen]) (l.grow g) hrr cs _ _ _ _ _ (Grow.refl _) (S.fresh hb) rfl fun s' cs' m' _ g' S' l' => ?_)
      exact wpAny_pure (q s' cs' m' _ g' S' ⟨l', rfl⟩)
    · cases e
end
section
variable {K : Frag} {w : World} {prog : Program} {X : Fx} {m m' : NsMap} {ex : List (Addr × Obj)} {XR XR' : XRel} {cs cs₀ : List CO} {μ : Mem} {s : Shared} {mg mb : NsMap} {n : Nat} {h h' : Heap} {k : Kinds} {ρ : Loc} {C : CallT} {env : Env}
theorem evE_comp {elt : Expr} {gens : List Comprehension} {sc : Scope} {p : Pos} {r : Out V × Mem} (e : evE C k ρ (.ListComp elt gens sc p) μ = some r) : ∃ x px it, gens = [⟨.Name x px, it, [], 0⟩] ∧ compOk k ρ sc x = true ∧ notSet it = true ∧
    (bnd (evE C k ρ it) fun v => bnd (listOfM v) fun p => bnd (compM p.1 p.2 (fun w => noExc (evE C sc.names ((x, w) :: ρ.filter fun q => sc.names.lookup q.1 == some .free) elt)) p.2) fun ws => newM (.list ws)) μ = some r := by
  by_cases hg : ∃ x px it, gens = [⟨.Name x px, it, [], 0⟩]
  · obtain ⟨x, px, it, rfl⟩ := hg
    have e2 : (if compOk k ρ sc x && notSet it then bnd (evE C k ρ it) fun v => bnd (listOfM v) fun p => bnd (compM p.1 p.2 (fun w => noExc (evE C sc.names ((x, w) :: ρ.filter fun q => sc.names.lookup q.1 == some .free) elt)) p.2) fun ws => newM (.list ws) else stuck) μ = some r := e
    split at e2
    · rename_i hc
      rw [Bool.and_eq_true] at hc
      exact ⟨x, px, it, rfl, hc.1, hc.2, e2⟩
    · cases e2
  · exfalso
    have z : evE C k ρ (.ListComp elt gens sc p) μ = none := by
      clear e
      rw [evE]
      · rfl
      all_goals (repeat intro z)
      all_goals first | (cases z; done) | (cases z; exact hg ⟨_, _, _, rfl⟩)
    rw [z] at e; cases e
end
section
variable {K : Frag} {w : World} {prog : Program} {X : Fx} {m m' : NsMap} {ex : List (Addr × Obj)} {XR XR' : XRel} {cs cs₀ : List CO} {μ : Mem} {s : Shared} {mg mb : NsMap} {n : Nat} {h h' : Heap} {k : Kinds} {ρ : Loc} {C : CallT} {env : Env}
theorem useOk_shape {t e : Expr} (h : useOk k t e = true) : ∃ x px a b sc p, t = .Name x px ∧ e = .ListComp a b sc p := by
  unfold useOk at h
  split at h
  · exact ⟨_, _, _, _, _, _, rfl, rfl⟩
  · cases h
theorem swapT_other {t e : Expr} {sw : Option (List Str)} (ht : ∀ ts a p, t ≠ .Tuple ts a p) (h : swapT k t e = some sw) : sw = none := by
  unfold swapT at h
  split at h
  · exact absurd rfl (ht _ _ _)
  · cases h
  · cases h; rfl
theorem bnd_ran {α β : Type} {f : Mx α} {v : α → Mx β} {r : Out β × Mem} (e : bnd f v μ = some r) : ∃ r₁, f μ = some r₁ ∧ (∀ sy d μ', r₁ = (.exc sy d, μ') → r = (.exc sy d, μ')) ∧ ∀ a μ', r₁ = (.ok a, μ') → v a μ' = some r := by
  rcases bnd_some e with ⟨sy, d, μ', q, rfl⟩ | ⟨a, μ', q, e⟩
  · exact ⟨_, q, (fun _ _ _ z => by cases z; rfl), fun _ _ z => by cases z⟩
  · exact ⟨_, q, (fun _ _ _ z => by cases z), fun _ _ z => by cases z; exact e⟩
theorem use_snd (T : FxOk K mg mb n X) (B : BodyOk X k) (HC : CallS K w prog X C) {x : Str} {px : Pos} {elt : Expr} {gens : List Comprehension} {sc : Scope} {p : Pos} (u1 : k.lookup x = some .local) (l : LR K X ex X.env m (adr cs₀) ρ) :
    Snd K w prog X ex (XO K w prog X ex) m cs₀ (evalThenUse (.ListComp elt gens sc p) X.env (fun v => assign (.Name x px) X.env v) >>= fun _ => pure Flow.next) (bnd (evE C k ρ (.ListComp elt gens sc p)) fun v => ret ((none : Option V), setL x v ρ)) (SQ K X ex) := fun cs μ s r Q E g S e q => by
  obtain ⟨r₁, e₁, e2, e3⟩ := bnd_ran e
  obtain ⟨y, py, it, rfl, hok, hns, e₄⟩ := evE_comp e₁
  refine wpAny_bind (wpAny_bind ?_)
  refine comp_core (XR := XO K w prog X ex) (cs₀ := cs₀) T B.eo l hok (notSet_fold hns) (evE_snd T HC it B.eo l) (fun ex' env' cs v eo' l' => evE_snd T HC elt eo' l') cs μ s r₁ g S e₄ (fun sy d μ' z => ?_) (fun v μ' z cs' s' Cc oC mC D g' S' nC hv => ?_)
  · cases e2 sy d μ' z
    exact q
  · cases e3 v μ' z
    show wpAny _ _ (assign (.Name x px) X.env (.ref D)) _ _ _
    refine wpAny_assign_Name ?_
    refine wpAny_storeName_local (B.eo.names _ _ u1 (by decide)) (B.loc ▸ S'.1.ns) (fun h' hn' hs' => ?_) (by rw [B.eo.kind]; rfl)
    rw [B.loc] at hn' hs'
    have S5 := S'.1.store hn' hs'
    exact ⟨mC, nC _ _ (S5.led _ (.head _)).1, fun h'' hs'' => wpAny_pure (wpAny_pure (q _ cs' _ _ g' ⟨SRh.exForget (pre := [(Cc, oC)]) S5 fun b o hb e => (hs''.2 b (by simpa using hb)).trans e, S'.2⟩ ⟨(l.grow (g.trans g')).store B u1 hv, rfl⟩))⟩
theorem Assign_snd (T : FxOk K mg mb n X) (B : BodyOk X k) (HC : CallS K w prog X C) {ts : List Expr} {e : Expr} {p : Pos} : PS K w prog X ex k C (.Assign ts e p) := fun m cs ρ l => by
  rcases ts with _ | ⟨t, ts⟩
  · exact Snd.stuck
  rcases ts with _ | ⟨t', ts⟩
  rotate_left
  · exact Snd.stuck
  show Snd K w prog X ex _ m cs _ (match swapT k t e with
    | some sw => if notComp e || useOk k t e then bnd (evE C k ρ e) fun v => bnd (asgW C k t v ρ sw) fun ρ' => ret (none, ρ') else stuck
    | none => stuck) _
  cases hsw : swapT k t e with
  | none => exact Snd.stuck
  | some sw =>
  obtain ⟨w1, w2⟩ := swapT_ok B.eo hsw
  refine Snd.ite fun hc => ?_
  rw [arm_exec_Assign]
  refine .stand ?_
  by_cases hn : notComp e = true
  · have h1 : swapsWithSole [t] e p.line X.env = pure false := swaps_not hn
    rw [h1, pure_bind, if_neg (by decide)]
    refine (evE_snd T HC e B.eo l).bind fun m₁ cs₁ v vv g h => ?_
    obtain ⟨rfl, hv⟩ := h
    rw [w1, pure_bind]
    by_cases hst : ∃ a b, t = .Starred a b
    · obtain ⟨a, b, rfl⟩ := hst
      have := swapT_other (fun _ _ _ z => by cases z) hsw
      subst this
      exact Snd.none fun μ => rfl
    · exact asgW_snd T B HC w2 (fun a b z => hst ⟨a, b, z⟩) (l.grow g) hv
  · rw [Bool.eq_false_iff.mpr hn, Bool.false_or] at hc
    obtain ⟨x, px, elt, gens, sc, pc, rfl, rfl⟩ := useOk_shape hc
    obtain ⟨u1, u2⟩ := swaps_use (l := p.line) B.eo hc
    have h1 : swapsWithSole [.Name x px] (.ListComp elt gens sc pc) p.line X.env = pure true := u2
    rw [h1, pure_bind, if_pos rfl]
    have := swapT_other (fun _ _ _ z => by cases z) hsw
    subst this
    have em : (fun v => bnd (asgW C k (.Name x px) v ρ none) fun ρ' => ret ((none : Option V), ρ')) = fun v => ret ((none : Option V), setL x v ρ) := by
      funext v μ
      show bnd (if k.lookup x = some .local then ret (setL x v ρ) else stuck) _ μ = _
      rw [if_pos u1]; rfl
    rw [em]
    exact use_snd T B HC u1 l
end
/-! ## Loops over lists -/
section
variable {K : Frag} {w : World} {prog : Program} {X : Fx} {m m' : NsMap} {ex ex' : List (Addr × Obj)} {XR XR' : XRel} {cs cs₀ : List CO} {μ : Mem} {s : Shared} {mg mb : NsMap} {n : Nat} {h h' : Heap} {k : Kinds} {ρ : Loc} {C : CallT} {env : Env}
theorem LR.wide {as : List Addr} (l : LR K X ex env m as ρ) (hx : ∀ q ∈ ex, q ∈ ex') : LR K X ex' env m as ρ := fun y u e => by
  obtain ⟨val, h1, h2⟩ := l y u e
  refine ⟨val, h1, ?_⟩
  cases h2 with
  | loc a b c => exact .loc a b c
  | cell a b c d => exact .cell a b (hx _ c) d
  | own a b c d => exact .own a (hx _ b) c d
/-- an object that is neither cell nor namespace leaves the side list -/
theorem LR.back {as : List Addr} {I : Addr} {oI : Obj} (l : LR K X ((I, oI) :: ex) env m as ρ) (h1 : ∀ v, oI.data ≠ .cell v) (h2 : env.locals ≠ I) : LR K X ex env m as ρ := fun y u e => by
  obtain ⟨val, h3, h4⟩ := l y u e
  refine ⟨val, h3, ?_⟩
  cases h4 with
  | loc a b c => exact .loc a b c
  | cell a b c d =>
    rcases List.mem_cons.mp c with z | z
    · cases z; exact absurd d (h1 _)
    · exact .cell a b z d
  | own a b c d =>
    rcases List.mem_cons.mp b with z | z
    · cases z; exact absurd rfl h2
    · exact .own a z c d
theorem Pend.drop {pre : List (Addr × Obj)} {sy d : V} {e dx : Addr} {tb : Option Value} (P : Pend K w prog X m (pre ++ ex) cs μ sy d e dx tb h) : Pend K w prog X m ex cs μ sy d e dx tb h := by
  obtain ⟨S, ⟨oe, vs, v, he, hc, hdi, hd, h1, ht⟩, fl, edx, eb, db, ea, da⟩ := P
  have sub : ∀ a, a ∈ (ex ++ nw cs).map (·.1) → a ∈ ((pre ++ ex) ++ nw cs).map (·.1) := fun a ha => by
    rw [List.append_assoc, List.map_append]; exact List.mem_append_right _ ha
  refine ⟨S.exDrop, ⟨oe, vs, v, he, hc, hdi, hd, h1, ?_⟩, fl, edx, eb, db, fun z => ea (sub _ z), da⟩
  cases tb with
  | none => exact ht
  | some f => obtain ⟨Ta, oT, ts, a, b, c, d', e', f', g', h'⟩ := ht; exact ⟨Ta, oT, ts, a, b, c, d', e', f', fun z => g' (sub _ z), h'⟩
theorem own_go {M : Model} {A : Around} {t : Expr} {I l : Addr} {i : Nat} {v : Value} {Q : Unit → Shared → Prop} {E : Value → Shared → Prop} (hit : s.heap.IsListIter I l i) (q : Q () s) : wpAny M A (letOwnedTupleGo t (.ref I) v) Q E s := by
  obtain ⟨o, ho, hc, hd⟩ := hit
  have core : wpAny M A (match (Value.ref I, v) with
    | (.ref r, .ref a) => do
      let o ← load r
      match o.cls, o.data with
      | .type n, .fields vs =>
        if ["enumerate", "zip", "dict_itemiterator", "dict_reverseitemiterator", "odict_iterator", "itertools.zip_longest", "itertools.pairwise"].contains n && vs[0]? == some (rawInt a) then
          rule "for.unpacks-the-owned-tuple"
          updateField r 0 .none
      | _, _ => pure ()
    | _ => pure ()) Q E s := by
    cases v with
    | ref a =>
      refine wpAny_bind (wpAny_load ho ?_)
      rw [hc, hd]
      dsimp only
      rw [if_neg (by simp)]
      exact wpAny_pure q
    | _ => exact wpAny_pure q
  cases t with
  | Tuple a b c => exact core
  | List a b => exact core
  | _ => exact wpAny_pure q
theorem forLoop_any {R : Result → Shared → Prop} {target : Expr} {it : Value} {body orelse : List Stmt} {A : Around} (I : Nat → Shared → Prop)
    (turn : ∀ n s, I n s → wpAny (model prog w) A (pyNext it) (fun r s₁ => match r with
      | none => wpAny (model prog w) A (execs orelse env) (fun f s₃ => R (.ok f) s₃) (notedBy (model prog w) A env fun e s' => R (.error e) s') s₁
      | some v => wpAny (model prog w) A (letOwnedTupleGo target it v) (fun _ s₂ => wpAny (model prog w) A (assign target env v) (fun _ s₂ => wpAny (model prog w) A (execs body env) (fun f s₃ => match f with
          | .next | .cont => ∃ m, m < n ∧ I m s₃
          | .brk => R (.ok .next) s₃
          | .ret v => R (.ok (.ret v)) s₃) (notedBy (model prog w) A env fun e s' => R (.error e) s') s₂) (notedBy (model prog w) A env fun e s' => R (.error e) s') s₂) (notedBy (model prog w) A env fun e s' => R (.error e) s') s₁) (notedBy (model prog w) A env fun e s' => R (.error e) s') s)
    (n : Nat) (h : I n s) : codeAny (model prog w) A (.forLoop target it body orelse env) R s := by
  refine codeAny_loop' rfl I (fun n s hI => ?_) n h
  show wpAny _ _ ((forTurn target it body orelse env).onRaise (fun x => do noteFrame x env; theTreesLotGoes x)) _ _ s
  refine wpAny_noted ?_
  simp only [forTurn]
  refine wpAny_bind (wpAny_standAt (wpAny_bind (wpAny_onRaise (wpAny_mono (turn n s hI) (fun r s₁ h₁ => ?_) fun _ _ h' => wpAny_standAt h'))))
  cases r with
  | none => exact wpAny_pure (.inr ⟨rfl, codeAny_block h₁⟩)
  | some v =>
    refine wpAny_bind (wpAny_mono h₁ (fun _ s₁ h₁ => ?_) fun _ _ h' => h')
    refine wpAny_bind (wpAny_mono h₁ (fun _ s₂ h₂ => wpAny_bind (wpAny_mono h₂ (fun f s₃ h₃ => ?_) fun _ _ h' => h')) fun _ _ h' => h')
    cases f with
    | next => exact wpAny_pure (.inl ⟨rfl, h₃⟩)
    | cont => exact wpAny_pure (.inl ⟨rfl, h₃⟩)
    | brk => exact wpAny_pure h₃
    | ret v => exact wpAny_pure h₃
end
section
variable {K : Frag} {w : World} {prog : Program} {X : Fx} {m m' : NsMap} {ex ex' : List (Addr × Obj)} {XR XR' : XRel} {cs cs₀ : List CO} {μ : Mem} {s : Shared} {mg mb : NsMap} {n : Nat} {h h' : Heap} {k : Kinds} {ρ : Loc} {C : CallT} {env : Env}
theorem note_back (T : FxOk K mg mb n X) {sy d : V} {e dx : Addr} {tb : Option Value} {E : Value → Shared → Prop} {E' : Value → Shared → Prop} (P : Pend K w prog X m ex cs μ sy d e dx tb s.heap) (q : ∀ h' tb', Pend K w prog X m ex cs μ sy d e dx tb' h' → E (.ref e) { s with heap := h' }) :
    wpAny (model prog w) X.A (noteFrame (.ref e) X.env) (fun _ s' => cameBackBy (model prog w) X.A X.env E (.ref e) s') E' s := by
  refine pend_note T P fun h' P' => ?_
  have P₀ := P'
  obtain ⟨S, ⟨oe, vs, v, he, hc, hdi, hd, h1, ht⟩, fl, edx, eb, db, ea, da⟩ := P'
  obtain ⟨Ta, oT, ts, rfl, _⟩ := ht
  unfold cameBackBy
  refine wpAny_bind (wpAny_field he hd h1 ?_)
  rw [if_neg (by simp)]
  rw [T.frame]
  exact pend_flight (s := { s with heap := h' }) (fo := some X.L) P₀ fun h'' P'' => q h'' _ P''
theorem bnd_assoc {α β γ : Type} (f : Mx α) (g : α → Mx β) (h : β → Mx γ) : bnd (bnd f g) h = bnd f fun a => bnd (g a) h := by
  funext μ
  unfold bnd
  cases f μ with
  | none => rfl
  | some r => obtain ⟨o, μ'⟩ := r; cases o <;> rfl
theorem each_nil {σ : Type} {a : Nat} {all : List V} {F : V → σ → Mx (Option V × σ)} {st : σ} {r : Out (Option V × σ) × Mem} (e : eachM a all F [] st μ = some r) : r = (.ok (none, st), μ) ∧ μ[a]? = some (.list all) := by
  unfold eachM at e
  rcases bnd_some e with ⟨_, _, _, q, _⟩ | ⟨_, μ', q, e⟩
  · obtain ⟨z, _⟩ := sameM_some q; cases z
  · obtain ⟨z, hm⟩ := sameM_some q; cases z; cases e; exact ⟨rfl, hm⟩
theorem each_cons {σ : Type} {a : Nat} {all : List V} {F : V → σ → Mx (Option V × σ)} {st : σ} {v : V} {vs : List V} {r : Out (Option V × σ) × Mem} (e : eachM a all F (v :: vs) st μ = some r) : μ[a]? = some (.list all) ∧ (bnd (F v st) fun
    | (some w, s') => ret (some w, s')
    | (none, s') => eachM a all F vs s') μ = some r := by
  unfold eachM at e
  rcases bnd_some e with ⟨_, _, _, q, _⟩ | ⟨_, μ', q, e⟩
  · obtain ⟨z, _⟩ := sameM_some q; cases z
  · obtain ⟨z, hm⟩ := sameM_some q; cases z; exact ⟨hm, e⟩
def LoopInv (K : Frag) (w : World) (prog : Program) (X : Fx) (ex : List (Addr × Obj)) (cs₁ : List CO) (a : Nat) (ax I : Addr) (xs : List V) (F : V → Loc → Mx (Option V × Loc)) (r : Out (Option V × Loc) × Mem) (n : Nat) (s : Shared) : Prop :=
  ∃ i cs μ oI m ρ, n = (xs.drop i).length ∧ Grow (adr cs₁) (adr cs) ∧ SR K w prog X m ((I, oI) :: ex) cs μ s ∧ itObj ax i oI ∧ LR K X ex X.env m (adr cs) ρ ∧ eachM a xs F (xs.drop i) ρ μ = some r
theorem for_loop (T : FxOk K mg mb n X) (B : BodyOk X k) (HC : CallS K w prog X C) {t : Expr} {b : List Stmt} (hb : ∀ ex, PSs K w prog X ex k C b) {a : Nat} {ax I : Addr} {xs : List V} {cs₁ : List CO} {r : Out (Option V × Loc) × Mem} {Q : Flow → Shared → Prop} {E : Value → Shared → Prop} (hax : (adr cs₁)[a]? = some ax)
    (q : Post K w prog X ex cs₁ (XO K w prog X ex) (SQ K X ex) Q E r) (j : Nat) (hI : LoopInv K w prog X ex cs₁ a ax I xs (fun v ρ' => bnd (asgT C k t v ρ') fun ρ'' => exSs C k b ρ'') r j s) :
    codeAny (model prog w) X.A (.forLoop t (.ref I) b [] X.env) (fun r s' => match r with | .ok f => Q f s' | .error e => cameBackBy (model prog w) X.A X.env E e s') s := by
  refine forLoop_any (LoopInv K w prog X ex cs₁ a ax I xs (fun v ρ' => bnd (asgT C k t v ρ') fun ρ'' => exSs C k b ρ'') r) ?_ j hI
  rintro j s ⟨i, cs, μ, oI, m, ρ, rfl, g, S, hit, l, e⟩
  have hI0 := (S.1.led _ (.head _)).1
  cases hr : xs.drop i with
  | nil =>
    rw [hr] at e
    obtain ⟨z, hm⟩ := each_nil e
    subst z
    obtain ⟨vs, nn, ho, hl, hrl⟩ := isList_at S (g.at hax) hm
    have hnone : vs.toArray[i]? = none := by
      simp only [List.getElem?_toArray]
      rw [List.getElem?_eq_none_iff, ← hrl.length]
      exact List.drop_eq_nil_iff.mp hr
    refine wpAny_pyNext_list_end T.hnd (hit _ _ hI0) hl hnone fun h' hb' => ?_
    have S' : SRh K w prog X m ex cs μ h' := SRh.exForget (pre := [(I, oI)]) S.1 fun b o hbn eo => hb' b o (by simpa using hbn) eo
    exact wpAny_execs_nil (q _ cs m .next g ⟨S', S.2⟩ ⟨l, rfl⟩)
  | cons v rest =>
    rw [hr] at e
    obtain ⟨hm, e1⟩ := each_cons e
    have hv : xs[i]? = some v := by
      have := congrArg (fun l => l[0]?) hr
      simpa using this
    have hrest : xs.drop (i + 1) = rest := by rw [← List.drop_drop, hr]; rfl
    obtain ⟨vs, nn, ho, hl, hrl⟩ := isList_at S (g.at hax) hm
    obtain ⟨val, hval, hvv⟩ := hrl.get hv
    refine wpAny_pyNext_list_item (hit _ _ hI0) hl (by simpa using hval) fun h₁ hit₁ hs₁ => ?_
    obtain ⟨oI', hoI', nI'⟩ := itObj_of hit₁
    have S₁ : SR K w prog X m ((I, oI') :: ex) cs μ { s with heap := h₁ } := ⟨SRh.exChange (pre := [(I, oI)]) (pre' := [(I, oI')]) S.1 (fun b o hbn eo => (hs₁.2 b (by simpa using hbn)).trans eo) (fun q hq => by rw [List.mem_singleton.mp hq]; exact hoI') rfl, S.2⟩
    have notcell : ∀ v, oI'.data ≠ .cell v := fun v z => by
      obtain ⟨o, ho', _, hd⟩ := nI' _ _ hoI'
      rw [hoI'] at ho'; cases ho'; rw [hd] at z; cases z
    have hLI : X.env.locals ≠ I := fun z => by
      have hd := S.1.dist
      rw [← z, B.loc] at hd
      exact (List.nodup_cons.mp hd).1 (List.mem_append_right _ (.head _))
    refine own_go (s := { s with heap := h₁ }) hit₁ ?_
    have hE : Post K w prog X ((I, oI') :: ex) cs (XO K w prog X ((I, oI') :: ex)) (SQ K X ((I, oI') :: ex)) (fun _ _ => True) (notedBy (model prog w) X.A X.env fun e s' => cameBackBy (model prog w) X.A X.env E e s') r := by
      obtain ⟨o, μ'⟩ := r
      cases o with
      | ok _ => exact fun _ _ _ _ _ _ _ => trivial
      | exc sy d =>
        intro s' cs' m' e' g' z
        obtain ⟨⟨dx, tb, P⟩, z2⟩ := z
        exact note_back T (E' := _) P fun h' tb' P' => q _ cs' m' e' (g.trans g') ⟨⟨dx, tb', P'.drop (pre := [(I, oI')])⟩, z2⟩
    rw [bnd_assoc] at e1
    have l₁ : LR K X ((I, oI') :: ex) X.env m (adr cs) ρ := l.wide fun q hq => .tail _ hq
    refine (asgT_snd T B HC l₁ hvv).use (Grow.refl _) S₁ e1 hE fun m₁ cs₂ ρ₂ _ μ₂ s₂ g₂ S₂ l₂ e₂ hE₂ => ?_
    refine (hb ((I, oI') :: ex) m₁ cs₂ ρ₂ l₂).use (Grow.refl _) S₂ e₂ hE₂ fun m₃ cs₃ o₃ f₃ μ₃ s₃ g₃ S₃ hf e₃ _ => ?_
    obtain ⟨o, ρ₃⟩ := o₃
    obtain ⟨l₃, hf⟩ := hf
    dsimp only at l₃ hf
    cases o with
    | none =>
      cases (show f₃ = .next from hf)
      refine ⟨_, ?_, i + 1, cs₃, μ₃, oI', m₃, ρ₃, rfl, g.trans (g₂.trans g₃), S₃, nI', l₃.back notcell hLI, hrest ▸ e₃⟩
      rw [hrest]; simp
    | some u =>
      obtain ⟨uv, rfl, hu⟩ := hf
      have e₄ : some ((Out.ok ((some u : Option V), ρ₃), μ₃) : Out (Option V × Loc) × Mem) = some r := e₃
      cases e₄
      exact q s₃ cs₃ m₃ _ (g.trans (g₂.trans g₃)) ⟨SRh.exDrop (pre := [(I, oI')]) S₃.1, S₃.2⟩ ⟨l₃.back notcell hLI, uv, rfl, hu⟩
theorem For_list (T : FxOk K mg mb n X) (B : BodyOk X k) (HC : CallS K w prog X C) {t it : Expr} {b : List Stmt} {p : Pos} (hn : notSet it = true) (hb : ∀ ex, PSs K w prog X ex k C b) (l : LR K X ex X.env m (adr cs₀) ρ) :
    Snd K w prog X ex (XO K w prog X ex) m cs₀ (exec (.For t it b [] p) X.env) (bnd (evE C k ρ it) fun v => bnd (listOfM v) fun p => eachM p.1 p.2 (fun v ρ' => bnd (asgT C k t v ρ') fun ρ'' => exSs C k b ρ'') p.2 ρ) (SQ K X ex) := fun cs μ s r Q E g S e q => by
  refine wpAny_For ?_ (notSet_fold hn)
  refine (evE_snd T HC it B.eo l).use g S e q fun m₁ cs₁ v xv μ₁ s₁ g₁ S₁ hv e₁ q₁ => ?_
  obtain ⟨rfl, hv⟩ := hv
  rcases bnd_some e₁ with ⟨_, _, _, z, _⟩ | ⟨pr, μ₂, z, e₁⟩
  · obtain ⟨_, _, _, _, z⟩ := listOfM_some z; cases z
  obtain ⟨a, xs, rfl, hm, z⟩ := listOfM_some z
  cases z
  dsimp only at e₁
  obtain ⟨ax, rfl, hax⟩ := hv.ref_inv
  obtain ⟨vs, nn, ho, hl, hr⟩ := isList_at S₁ hax hm
  refine wpAny_pyIter_list hl ?_
  have Sa := S₁.exAdd { cls := .type "list_iterator", data := .fields #[.ref ax, .int 0 0] } rfl
  exact for_loop T B HC hb hax q₁ _ ⟨0, cs₁, _, _, _, ρ, rfl, Grow.refl _, Sa, (fun h a e => ⟨_, e, rfl, rfl⟩), l.grow (g.trans g₁), e₁⟩
end
/-! ## Loops over a range -/
section
variable {K : Frag} {w : World} {prog : Program} {X : Fx} {m m' : NsMap} {ex ex' : List (Addr × Obj)} {XR XR' : XRel} {cs cs₀ : List CO} {μ : Mem} {s : Shared} {mg mb : NsMap} {n : Nat} {h h' : Heap} {k : Kinds} {ρ : Loc} {C : CallT} {env : Env}
abbrev rgObj (x left : Int) : Obj := { cls := .type "range_iterator", dict := none, data := .fields #[rawInt x, rawInt left, rawInt 1], slots := #[] }
def RangeInv (K : Frag) (w : World) (prog : Program) (X : Fx) (ex : List (Addr × Obj)) (cs₁ : List CO) (I : Addr) (F : V → Loc → Mx (Option V × Loc)) (r : Out (Option V × Loc) × Mem) (n : Nat) (s : Shared) : Prop :=
  ∃ i cs μ m ρ, Grow (adr cs₁) (adr cs) ∧ SR K w prog X m ((I, rgObj (i : Nat) n) :: ex) cs μ s ∧ LR K X ex X.env m (adr cs) ρ ∧ rangeM F n i ρ μ = some r
theorem range_go {M : Model} {A : Around} {t : Expr} {I : Addr} {x left : Int} {v : Value} {Q : Unit → Shared → Prop} {E : Value → Shared → Prop} (hit : IsRangeIter s.heap I x left 1) (q : Q () s) : wpAny M A (letOwnedTupleGo t (.ref I) v) Q E s := by
  have core : wpAny M A (match (Value.ref I, v) with
    | (.ref r, .ref a) => do
      let o ← load r
      match o.cls, o.data with
      | .type n, .fields vs =>
        if ["enumerate", "zip", "dict_itemiterator", "dict_reverseitemiterator", "odict_iterator", "itertools.zip_longest", "itertools.pairwise"].contains n && vs[0]? == some (rawInt a) then
          rule "for.unpacks-the-owned-tuple"
          updateField r 0 .none
      | _, _ => pure ()
    | _ => pure ()) Q E s := by
    cases v with
    | ref a =>
      refine wpAny_bind (wpAny_load hit ?_)
      dsimp only
      rw [if_neg (by simp)]
      exact wpAny_pure q
    | _ => exact wpAny_pure q
  cases t with
  | Tuple a b c => exact core
  | List a b => exact core
  | _ => exact wpAny_pure q
theorem range_succ {σ : Type} {F : V → σ → Mx (Option V × σ)} {st : σ} {j i : Nat} {r : Out (Option V × σ) × Mem} (e : rangeM F (j + 1) i st μ = some r) : (bnd (F (.int i) st) fun
    | (some w, s') => ret (some w, s')
    | (none, s') => rangeM F j (i + 1) s') μ = some r := by
  unfold rangeM at e
  exact e
theorem range_loop (T : FxOk K mg mb n X) (B : BodyOk X k) (HC : CallS K w prog X C) {t : Expr} {b : List Stmt} (hb : ∀ ex, PSs K w prog X ex k C b) {I : Addr} {cs₁ : List CO} {r : Out (Option V × Loc) × Mem} {Q : Flow → Shared → Prop} {E : Value → Shared → Prop}
    (q : Post K w prog X ex cs₁ (XO K w prog X ex) (SQ K X ex) Q E r) (j : Nat) (hI : RangeInv K w prog X ex cs₁ I (fun v ρ' => bnd (asgT C k t v ρ') fun ρ'' => exSs C k b ρ'') r j s) :
    codeAny (model prog w) X.A (.forLoop t (.ref I) b [] X.env) (fun r s' => match r with | .ok f => Q f s' | .error e => cameBackBy (model prog w) X.A X.env E e s') s := by
  refine forLoop_any (RangeInv K w prog X ex cs₁ I (fun v ρ' => bnd (asgT C k t v ρ') fun ρ'' => exSs C k b ρ'') r) ?_ j hI
  rintro j s ⟨i, cs, μ, m, ρ, g, S, l, e⟩
  have hI0 := (S.1.led _ (.head _)).1
  cases j with
  | zero =>
    have e' : some ((Out.ok ((none : Option V), ρ), μ) : Out (Option V × Loc) × Mem) = some r := e
    cases e'
    refine wpAny_pyNext_range_end T.hnd hI0 (by simp) fun h' hb' => ?_
    have S' : SRh K w prog X m ex cs μ h' := SRh.exForget (pre := [(I, _)]) S.1 fun b o hbn eo => hb' b o (by simpa using hbn) eo
    exact wpAny_execs_nil (q _ cs m .next g ⟨S', S.2⟩ ⟨l, rfl⟩)
  | succ j =>
    have e1 := range_succ e
    refine wpAny_pyNext_range_item hI0 (by omega) fun h₁ hit₁ hs₁ => ?_
    have hit₂ : IsRangeIter h₁ I ((i + 1 : Nat) : Int) (j : Nat) 1 := by
      have e1 : ((i + 1 : Nat) : Int) = (i : Int) + 1 := by omega
      have e2 : ((j : Nat) : Int) = ((j + 1 : Nat) : Int) - 1 := by omega
      rw [e1, e2]; exact hit₁
    have S₁ : SR K w prog X m ((I, rgObj ((i + 1 : Nat) : Int) (j : Nat)) :: ex) cs μ { s with heap := h₁, toks := s.toks + 1 } := ⟨SRh.exChange (pre := [(I, _)]) (pre' := [(I, rgObj ((i + 1 : Nat) : Int) (j : Nat))]) S.1 (fun b o hbn eo => (hs₁.2 b (by simpa using hbn)).trans eo) (fun q hq => by rw [List.mem_singleton.mp hq]; exact hit₂) rfl, S.2⟩
    have hLI : X.env.locals ≠ I := fun z => by
      have hd := S.1.dist
      rw [← z, B.loc] at hd
      exact (List.nodup_cons.mp hd).1 (List.mem_append_right _ (.head _))
    refine range_go (s := { s with heap := h₁, toks := s.toks + 1 }) hit₂ ?_
    have hE : Post K w prog X ((I, rgObj ((i + 1 : Nat) : Int) (j : Nat)) :: ex) cs (XO K w prog X ((I, rgObj ((i + 1 : Nat) : Int) (j : Nat)) :: ex)) (SQ K X ((I, rgObj ((i + 1 : Nat) : Int) (j : Nat)) :: ex)) (fun _ _ => True) (notedBy (model prog w) X.A X.env fun e s' => cameBackBy (model prog w) X.A X.env E e s') r := by
      obtain ⟨o, μ'⟩ := r
      cases o with
      | ok _ => exact fun _ _ _ _ _ _ _ => trivial
      | exc sy d =>
        intro s' cs' m' e' g' z
        obtain ⟨⟨dx, tb, P⟩, z2⟩ := z
        exact note_back T (E' := _) P fun h' tb' P' => q _ cs' m' e' (g.trans g') ⟨⟨dx, tb', P'.drop (pre := [(I, _)])⟩, z2⟩
    rw [bnd_assoc] at e1
    have l₁ : LR K X ((I, rgObj ((i + 1 : Nat) : Int) (j : Nat)) :: ex) X.env m (adr cs) ρ := l.wide fun q hq => .tail _ hq
    refine (asgT_snd T B HC l₁ .int).use (Grow.refl _) S₁ e1 hE fun m₁ cs₂ ρ₂ _ μ₂ s₂ g₂ S₂ l₂ e₂ hE₂ => ?_
    refine (hb _ m₁ cs₂ ρ₂ l₂).use (Grow.refl _) S₂ e₂ hE₂ fun m₃ cs₃ o₃ f₃ μ₃ s₃ g₃ S₃ hf e₃ _ => ?_
    obtain ⟨o, ρ₃⟩ := o₃
    obtain ⟨l₃, hf⟩ := hf
    dsimp only at l₃ hf
    cases o with
    | none =>
      cases (show f₃ = .next from hf)
      exact ⟨j, Nat.lt_succ_self _, i + 1, cs₃, μ₃, m₃, ρ₃, g.trans (g₂.trans g₃), S₃, l₃.back (fun v z => by cases z) hLI, e₃⟩
    | some u =>
      obtain ⟨uv, rfl, hu⟩ := hf
      have e₄ : some ((Out.ok ((some u : Option V), ρ₃), μ₃) : Out (Option V × Loc) × Mem) = some r := e₃
      cases e₄
      exact q s₃ cs₃ m₃ _ (g.trans (g₂.trans g₃)) ⟨SRh.exDrop (pre := [(I, _)]) S₃.1, S₃.2⟩ ⟨l₃.back (fun v z => by cases z) hLI, uv, rfl, hu⟩
theorem For_range (T : FxOk K mg mb n X) (B : BodyOk X k) (HC : CallS K w prog X C) {t it e : Expr} {b : List Stmt} {p : Pos} (hr : rangeOf k ρ it = some e) (hb : ∀ ex, PSs K w prog X ex k C b) (l : LR K X ex X.env m (adr cs₀) ρ) :
    Snd K w prog X ex (XO K w prog X ex) m cs₀ (exec (.For t it b [] p) X.env) (bnd (evE C k ρ e) fun
      | .int n => if small n then rangeM (fun v ρ' => bnd (asgT C k t v ρ') fun ρ'' => exSs C k b ρ'') n.toNat 0 ρ else stuck
      | _ => stuck) (SQ K X ex) := by
  unfold rangeOf at hr
  split at hr
  · rename_i x p1 e' p2
    split at hr
    · rename_i hx
      cases hr
      by_cases hst : noStar [e] = true
      · intro cs μ s r Q E g S e₀ q
        refine wpAny_For ?_
        show wpAny _ _ (eval (.Name x p1) X.env >>= fun fv => callWith p2 fv [] (backTo p2 (starEach [e] X.env)) []) _ _ _
        have hname := name_snd (K := K) (w := w) (prog := prog) (m := m) (XR := XO K w prog X ex) B.eo T (l.grow g) x p1 cs μ s (.ok (.ty "range"), μ)
        refine wpAny_bind (hname _ _ (Grow.refl _) S (by rw [hx]; rfl) fun s₁ cs₁ m₁ fv g₁ S₁ hf => ?_)
        obtain ⟨rfl, hf⟩ := hf
        rw [hf.ty_inv]
        refine PySem.callWith_type (star_any hst _) (args_wp (star_any hst _) ?_)
        have hs := (EsOk.cons (evE_snd T HC e B.eo (l.grow (g.trans g₁))) EsOk.nil).spl hst p2
        have e₁ : (bnd (bnd (evE C k ρ e) fun v => bnd (ret []) fun vs => ret (v :: vs)) fun vs => match vs with
          | [.int n] => if small n then rangeM (fun v ρ' => bnd (asgT C k t v ρ') fun ρ'' => exSs C k b ρ'') n.toNat 0 ρ else stuck
          | _ => stuck) μ = some r := by
          rw [bnd_assoc]
          unfold bnd at e₀ ⊢
          revert e₀
          cases evE C k ρ e μ with
          | none => intro z; cases z
          | some o =>
            obtain ⟨o, μ'⟩ := o
            cases o with
            | exc _ _ => exact id
            | ok v => cases v <;> exact id
        have q₁ : Post K w prog X ex cs₁ (XO K w prog X ex) (SQ K X ex) Q E r := by
          obtain ⟨o, μ'⟩ := r
          cases o with
          | ok _ => exact fun s' cs' m' a g' => q s' cs' m' a (g₁.trans g')
          | exc _ _ => exact fun s' cs' m' a g' => q s' cs' m' a (g₁.trans g')
        refine hs.use (Grow.refl _) S₁ e₁ q₁ fun m₂ cs₂ vs ws μ₂ s₂ g₂ S₂ hv e₂ q₂ => ?_
        obtain ⟨rfl, hv⟩ := hv
        split at e₂
        · rename_i nn
          split at e₂
          · rename_i hsm
            cases hv with
            | cons h1 h2 =>
            cases h2
            obtain ⟨tk, rfl⟩ := h1.int_inv
            simp only [small, decide_eq_true_eq] at hsm
            refine call_range_1 ?_
            refine wpAny_pyIter_range (IsRange.new _ _ _ _ _ _ _) (small_one (by decide) (by decide) (by omega) (by omega)) ?_
            have hsz : Builtin.Range.rangeSize 0 nn 1 = ((nn.toNat : Nat) : Int) := by
              rw [rangeSize_one]
              split <;> omega
            have Sr := S₂.push { cls := .type "range", data := .fields #[.int 0 s₂.toks, .int nn tk, .int 1 (s₂.toks + 1)] }
            have Sa := Sr.exAdd (rgObj 0 nn.toNat) rfl
            refine range_loop T B HC hb (I := (s₂.heap.push { cls := .type "range", data := .fields #[.int 0 s₂.toks, .int nn tk, .int 1 (s₂.toks + 1)] }).objs.size) q₂ nn.toNat ⟨0, cs₂, μ₂, _, ρ, Grow.refl _, ?_, l.grow (g.trans (g₁.trans g₂)), e₂⟩
            rw [hsz]
            exact Sa
          · cases e₂
        · cases e₂
      · refine Snd.none fun μ => ?_
        have : evE C k ρ e μ = none := by
          cases e <;> first | rfl | exact absurd rfl hst
        unfold bnd; rw [this]
    · cases hr
  · cases hr
end
section
variable {K : Frag} {w : World} {prog : Program} {X : Fx} {m m' : NsMap} {ex ex' : List (Addr × Obj)} {XR XR' : XRel} {cs cs₀ : List CO} {μ : Mem} {s : Shared} {mg mb : NsMap} {n : Nat} {h h' : Heap} {k : Kinds} {ρ : Loc} {C : CallT} {env : Env}
theorem For_snd (T : FxOk K mg mb n X) (B : BodyOk X k) (HC : CallS K w prog X C) {t it : Expr} {b o : List Stmt} {p : Pos} (hb : ∀ ex, PSs K w prog X ex k C b) : PS K w prog X ex k C (.For t it b o p) := fun m cs ρ l => by
  cases o with
  | cons _ _ => exact Snd.stuck
  | nil =>
    show Snd K w prog X ex _ m cs _ (match rangeOf k ρ it with
      | some e => bnd (evE C k ρ e) fun
        | .int n => if small n then rangeM (fun v ρ' => bnd (asgT C k t v ρ') fun ρ'' => exSs C k b ρ'') n.toNat 0 ρ else stuck
        | _ => stuck
      | none => if notSet it then bnd (evE C k ρ it) fun v => bnd (listOfM v) fun p => eachM p.1 p.2 (fun v ρ' => bnd (asgT C k t v ρ') fun ρ'' => exSs C k b ρ'') p.2 ρ else stuck) _
    cases hr : rangeOf k ρ it with
    | some e => exact For_range T B HC hr hb l
    | none => exact Snd.ite fun hn => For_list T B HC hn hb l
end
section
variable {K : Frag} {w : World} {prog : Program} {X : Fx} {m m' : NsMap} {ex ex' : List (Addr × Obj)} {XR XR' : XRel} {cs cs₀ : List CO} {μ : Mem} {s : Shared} {mg mb : NsMap} {n : Nat} {h h' : Heap} {k : Kinds} {ρ : Loc} {C : CallT} {env : Env}
/-- every statement, given raises and tries -/
theorem exS_all (T : FxOk K mg mb n X) (B : BodyOk X k) (HC : CallS K w prog X C) (hR : ∀ ex e c p, PS K w prog X ex k C (.Raise e c p)) (hT : ∀ ex b hs o f p, (∀ ex, PSs K w prog X ex k C b) → PS K w prog X ex k C (.Try b hs o f p)) :
    ∀ (j : Nat) (st : Stmt), sizeOf st < j → ∀ ex, PS K w prog X ex k C st := by
  intro j
  induction j with
  | zero => intro st hj; exact absurd hj (Nat.not_lt_zero _)
  | succ j ih =>
    intro st hj ex
    have sub : ∀ l : List Stmt, sizeOf l < sizeOf st → ∀ ex, PSs K w prog X ex k C l := fun l hl ex => exSs_of fun st' hs => ih st' (Nat.lt_of_lt_of_le (Nat.lt_trans (List.sizeOf_lt_of_mem hs) hl) (Nat.le_of_lt_succ hj)) ex
    clear ih hj
    cases st with
    | Expr e p => exact Expr_snd T B HC
    | Return e p => exact Return_snd T B HC
    | Assign ts e p => exact Assign_snd T B HC
    | If t b o p => exact If_snd T B HC (sub b (by simp only [Stmt.If.sizeOf_spec]; omega) ex) (sub o (by simp only [Stmt.If.sizeOf_spec]; omega) ex)
    | For t it b o p => exact For_snd T B HC (sub b (by simp only [Stmt.For.sizeOf_spec]; omega))
    | Raise e c p => exact hR ex e c p
    | Try b hs o f p => exact hT ex b hs o f p (sub b (by simp only [Stmt.Try.sizeOf_spec]; omega))
    | _ => exact fun m cs ρ l => Snd.stuck
end
/-! ## Built-ins -/
section
variable {K : Frag} {w : World} {prog : Program} {X : Fx} {m m' : NsMap} {ex ex' : List (Addr × Obj)} {XR XR' : XRel} {cs cs₀ : List CO} {μ : Mem} {s : Shared} {mg mb : NsMap} {n : Nat} {h h' : Heap} {k : Kinds} {ρ : Loc} {C : CallT} {env : Env}
theorem SR.keeps {h' : Heap} {tk : Nat} (S : SR K w prog X m ex cs μ s) (hb : ∀ b o, s.heap.get? b = some o → h'.get? b = some o) : SR K w prog X m ex cs μ { s with heap := h', toks := tk } := ⟨S.1.keep hb, S.2⟩
theorem len_snd {a : Nat} {vo : Value} (ho : VR K (adr cs₀) (.ref a) vo) : Snd K w prog X ex XR m cs₀ (call (.builtin "len") [vo] []) (bnd (getM a) fun
    | .list xs => ret (.int xs.length)
    | .tup xs => ret (.int xs.length)
    | _ => stuck) (VQ K m) := fun cs μ s r Q E g S e p => by
  obtain ⟨x, rfl, hx⟩ := ho.ref_inv
  rcases bnd_some e with ⟨_, _, _, q, _⟩ | ⟨o, μ', q, e⟩
  · obtain ⟨_, _, z⟩ := getM_some q; cases z
  obtain ⟨o', hm, z⟩ := getM_some q
  cases z
  have hb1 : big = 1000 := rfl
  have hz := S.1.szs o (List.mem_of_getElem? hm)
  cases o with
  | list xs =>
    cases e
    obtain ⟨vs, nn, ho, hl, hr⟩ := isList_at S (g.at hx) hm
    simp only [szOk, decide_eq_true_eq] at hz
    have hl2 := hr.length
    refine Calls.call_len_list hl (by simp only [List.size_toArray]; omega) ?_
    exact p _ cs m _ (Grow.refl _) S ⟨rfl, by rw [List.size_toArray, ← hl2]; exact .int⟩
  | tup xs =>
    cases e
    obtain ⟨vs, ht, hr⟩ := tuple_at S (g.at hx) hm
    simp only [szOk, decide_eq_true_eq] at hz
    have hl2 := hr.length
    refine len_tuple ht (by simp only [List.size_toArray]; omega) ?_
    exact p _ cs m _ (Grow.refl _) S ⟨rfl, by rw [List.size_toArray, ← hl2]; exact .int⟩
  | _ => cases e
theorem min_snd (T : FxOk K mg mb n X) {i j : Int} {va vb : Value} (ha : VR K (adr cs₀) (.int i) va) (hb : VR K (adr cs₀) (.int j) vb) : Snd K w prog X ex XR m cs₀ (call (.builtin "min") [va, vb] []) (ret (.int (if j < i then j else i))) (VQ K m) := fun cs μ s r Q E g S e p => by
  obtain ⟨t, rfl⟩ := ha.int_inv
  obtain ⟨u, rfl⟩ := hb.int_inv
  cases e
  refine min_two_ints T.hnd fun h' tk hk => p _ cs m _ (Grow.refl _) (S.keeps hk) ⟨rfl, ?_⟩
  split <;> exact .int
theorem max_snd (T : FxOk K mg mb n X) {i j : Int} {va vb : Value} (ha : VR K (adr cs₀) (.int i) va) (hb : VR K (adr cs₀) (.int j) vb) : Snd K w prog X ex XR m cs₀ (call (.builtin "max") [va, vb] []) (ret (.int (if i < j then j else i))) (VQ K m) := fun cs μ s r Q E g S e p => by
  obtain ⟨t, rfl⟩ := ha.int_inv
  obtain ⟨u, rfl⟩ := hb.int_inv
  cases e
  refine max_two_ints T.hnd fun h' tk hk => p _ cs m _ (Grow.refl _) (S.keeps hk) ⟨rfl, ?_⟩
  by_cases hij : i < j
  · rw [if_pos hij, if_pos (show j > i from hij)]; exact .int
  · rw [if_neg hij, if_neg (show ¬ j > i from hij)]; exact .int
theorem abs_snd {i : Int} {va : Value} (ha : VR K (adr cs₀) (.int i) va) : Snd K w prog X ex XR m cs₀ (call (.builtin "abs") [va] []) (ret (.int i.natAbs)) (VQ K m) := fun cs μ s r Q E g S e p => by
  obtain ⟨t, rfl⟩ := ha.int_inv
  cases e
  refine call_abs_int fun u tk => p _ cs m _ (Grow.refl _) S ⟨rfl, ?_⟩
  have : (if i < 0 then -i else i) = (i.natAbs : Int) := by split <;> omega
  rw [this]; exact .int
theorem append_snd {a : Nat} {v : V} {vo vv : Value} (ho : VR K (adr cs₀) (.ref a) vo) (hv : VR K (adr cs₀) v vv) : Snd K w prog X ex XR m cs₀ (call (.builtin "list.append") [vo, vv] []) (bnd (getM a) fun
    | .list xs => bnd (setM a (.list (xs ++ [v]))) fun _ => ret .none
    | _ => stuck) (VQ K m) := fun cs μ s r Q E g S e p => by
  obtain ⟨x, rfl, hx⟩ := ho.ref_inv
  rcases bnd_some e with ⟨_, _, _, q, _⟩ | ⟨o, μ', q, e⟩
  · obtain ⟨_, _, z⟩ := getM_some q; cases z
  obtain ⟨o', hm, z⟩ := getM_some q
  cases z
  cases o with
  | list xs =>
    rcases bnd_some e with ⟨_, _, _, q, _⟩ | ⟨u, μ', q, e⟩
    · obtain ⟨_, _, z⟩ := setM_some q; cases z
    obtain ⟨hz, h0, z⟩ := setM_some q
    cases z; cases e
    obtain ⟨c, hc, rfl, ⟨vs, nn, h1, h2, h3⟩, hg, _⟩ := co_at S (g.at hx) hm
    have hb1 : xs.length ≤ big := szList S hm
    refine wpAny_list_append_plain ⟨nn, by rw [hg, h1]⟩ (fun h' hp hs => ?_) (by simp only [List.size_toArray]; rw [← h3.length]; exact Nat.le_trans hb1 big_line)
    obtain ⟨n', ho'⟩ := hp
    have ho'' : h'.get? c.x = some (listObj (vs ++ [vv]) n') := by rw [ho']; simp
    have hadr := adr_set (c' := ⟨c.x, listObj (vs ++ [vv]) n', none⟩) hc rfl
    refine p _ (cs.set a ⟨c.x, listObj (vs ++ [vv]) n', none⟩) m _ (by rw [hadr]; exact Grow.refl _) ⟨S.1.change (d := c.x) h0 hz hc (by simp [CO.ents]) (fun b hb => hs.2 b hb) rfl (by simp [CO.ents, h2]) (fun q hq => ?_) ⟨_, _, rfl, rfl, h3.append (.cons (hv.grow g) .nil)⟩, S.2⟩ ⟨rfl, .none⟩
    simp only [CO.ents, Option.toList_none, List.mem_cons, List.not_mem_nil, or_false] at hq
    rw [hq]; exact ho''
  | _ => cases e
end
section
variable {K : Frag} {w : World} {prog : Program} {X : Fx} {m m' : NsMap} {ex ex' : List (Addr × Obj)} {XR XR' : XRel} {cs cs₀ : List CO} {μ : Mem} {s : Shared} {mg mb : NsMap} {n : Nat} {h h' : Heap} {k : Kinds} {ρ : Loc} {C : CallT} {env : Env}
theorem get_snd {a : Nat} {i d : V} {vo vi vd : Value} (ho : VR K (adr cs₀) (.ref a) vo) (hi : VR K (adr cs₀) i vi) (hd : VR K (adr cs₀) d vd) : Snd K w prog X ex XR m cs₀ (call (.builtin "dict.get") [vo, vi, vd] []) (bnd (getM a) fun
    | .dict es => if kindKey i es then ret ((getD i es).getD d) else stuck
    | _ => stuck) (VQ K m) := fun cs μ s r Q E g S e p => by
  obtain ⟨x, rfl, hx⟩ := ho.ref_inv
  rcases bnd_some e with ⟨_, _, _, q, _⟩ | ⟨o, μ', q, e⟩
  · obtain ⟨_, _, z⟩ := getM_some q; cases z
  obtain ⟨o', hm, z⟩ := getM_some q
  cases z
  cases o with
  | dict es =>
    dsimp only at e
    by_cases hk : kindKey i es = true
    · rw [if_pos hk] at e
      cases e
      obtain ⟨c, hc, rfl, hO, hg, hns⟩ := co_at S (g.at hx) hm
      have lo : (c.x == sysModules) = false := beq_eq_false_iff_ne.mpr hns
      obtain ⟨_, h2, h3⟩ := hO
      have strC : ∀ {k : Str} {t : Tok} {kvs : List (Str × Value)}, i = .str k → vi = .str k t → c.o.IsDictOf (strKind prog w) kvs → All2 (fun p q => p.1 = .str q.1 ∧ VR K (adr cs) p.2 q.2) es kvs → wpAny (model prog w) X.A (call (.builtin "dict.get") [.ref c.x, vi, vd] []) Q E s := by
        rintro k t kvs rfl rfl hdo hp
        have hD := Heap.dictOf_iff.mpr ⟨_, hg, hdo⟩
        refine call_meetsIn PySem.F.slot_dict_get hD.typeIs PySem.F.entry_dict_get (PySem.F.args_dict_get_3 _ _ _) (meets_dict_get_default (strKind prog w) c.x (strKind_is prog w k t) lo vd) ⟨_, hD.mapOf, ?_⟩
        refine p _ cs m _ (Grow.refl _) S ⟨rfl, ?_⟩
        cases hq : Mine.getD (V.str k) es with
        | none => rw [dget_none strInj hp hq]; exact hd.grow g
        | some v => obtain ⟨val, h1, h4⟩ := dget_some (P := VR K (adr cs)) strInj hp hq; rw [h1]; exact h4
      have intC : ∀ {k : Int} {t : Tok} {kvs : List (Int × Value)}, i = .int k → vi = .int k t → c.o.IsDictOf (intKind prog w) kvs → All2 (fun p q => p.1 = .int q.1 ∧ VR K (adr cs) p.2 q.2) es kvs → wpAny (model prog w) X.A (call (.builtin "dict.get") [.ref c.x, vi, vd] []) Q E s := by
        rintro k t kvs rfl rfl hdo hp
        have hD := Heap.dictOf_iff.mpr ⟨_, hg, hdo⟩
        refine call_meetsIn PySem.F.slot_dict_get hD.typeIs PySem.F.entry_dict_get (PySem.F.args_dict_get_3 _ _ _) (meets_dict_get_default (intKind prog w) c.x (intKind_is prog w k t) lo vd) ⟨_, hD.mapOf, ?_⟩
        refine p _ cs m _ (Grow.refl _) S ⟨rfl, ?_⟩
        cases hq : Mine.getD (V.int k) es with
        | none => rw [dget_none intInj hp hq]; exact hd.grow g
        | some v => obtain ⟨val, h1, h4⟩ := dget_some (P := VR K (adr cs)) intInj hp hq; rw [h1]; exact h4
      cases i with
      | str k =>
        obtain ⟨t, rfl⟩ := hi.str_inv
        cases es with
        | nil => exact strC rfl rfl (h3 rfl).1 .nil
        | cons q0 r =>
          rcases h2 with ⟨_, kvs, hd, hp⟩ | ⟨hs, _⟩
          · exact strC rfl rfl hd hp
          · exfalso
            obtain ⟨y, z⟩ := q0
            obtain ⟨j, hj⟩ := hs (y, z) (.head _)
            dsimp only at hj; rw [hj] at hk; cases hk
      | int k =>
        obtain ⟨t, rfl⟩ := hi.int_inv
        cases es with
        | nil => exact intC rfl rfl (h3 rfl).2 .nil
        | cons q0 r =>
          rcases h2 with ⟨hs, _⟩ | ⟨_, kvs, hd, hp⟩
          · exfalso
            obtain ⟨y, z⟩ := q0
            obtain ⟨j, hj⟩ := hs (y, z) (.head _)
            dsimp only at hj; rw [hj] at hk; cases hk
          · exact intC rfl rfl hd hp
      | _ => cases es <;> cases hk
    · rw [if_neg hk] at e; cases e
  | _ => cases e
end
section
variable {K : Frag} {w : World} {prog : Program} {X : Fx} {m m' : NsMap} {ex ex' : List (Addr × Obj)} {XR XR' : XRel} {cs cs₀ : List CO} {μ : Mem} {s : Shared} {mg mb : NsMap} {n : Nat} {h h' : Heap} {k : Kinds} {ρ : Loc} {C : CallT} {env : Env}
theorem post_more {o : MO} {c : CO} {Q : Value → Shared → Prop} {E : Value → Shared → Prop} {tk : Nat} (S : SR K w prog X m ex cs μ s) {r : Out V × Mem} (e : newM o μ = some r) (p : Post K w prog X ex cs XR (VQ K m) Q E r)
    (hk : ∀ b o, s.heap.get? b = some o → h'.get? b = some o) (hc : ∀ q ∈ c.ents, h'.get? q.1 = some q.2 ∧ s.heap.objs.size ≤ q.1) (hn : (c.ents.map (·.1)).Nodup) (ho : OR K w prog (adr (cs ++ [c])) o c) : Q (.ref c.x) { s with heap := h', toks := tk } := by
  unfold newM at e
  split at e
  · rename_i hz
    cases e
    have hlen : μ.length = cs.length := S.1.O.length
    refine p _ _ m _ (adr_push _ _) ⟨S.1.more hz hk hc hn ho, S.2⟩ ⟨rfl, ?_⟩
    rw [hlen]
    exact .ref (adr_last _ _)
  · cases e
theorem list_snd {v : V} {vo : Value} (ho : VR K (adr cs₀) v vo) : Snd K w prog X ex XR m cs₀ (call (.type "list") [vo] []) (bnd (listOfM v) fun p => newM (.list p.2)) (VQ K m) := fun cs μ s r Q E g S e p => by
  rcases bnd_some e with ⟨_, _, _, z, _⟩ | ⟨pr, μ', z, e⟩
  · obtain ⟨_, _, _, _, z⟩ := listOfM_some z; cases z
  obtain ⟨a, xs, rfl, hm, z⟩ := listOfM_some z
  cases z
  obtain ⟨x, rfl, hx⟩ := ho.ref_inv
  obtain ⟨vs, nn, hg, hl, hr⟩ := isList_at S (g.at hx) hm
  have hz : vs.toArray.size ≤ sizeLine := by
    rw [List.size_toArray, ← hr.length]
    exact Nat.le_trans (szList S hm) big_line
  refine call_list_seq (hsz := hz) x (.inl rfl) hg rfl rfl fun h' c' hk hD => ?_
  refine post_more (c := ⟨_, _, none⟩) (tk := s.toks) S e p hk (fun q hq => ?_) (by simp [CO.ents]) ⟨vs, c', rfl, rfl, hr.mono fun _ _ z => z.grow (adr_push _ _)⟩
  simp only [CO.ents, Option.toList_none, List.mem_cons, List.not_mem_nil, or_false] at hq
  subst hq
  exact ⟨hD, Nat.le_refl _⟩
end
section
variable {K : Frag} {w : World} {prog : Program} {X : Fx} {m m' : NsMap} {ex ex' : List (Addr × Obj)} {XR XR' : XRel} {cs cs₀ : List CO} {μ : Mem} {s : Shared} {mg mb : NsMap} {n : Nat} {h h' : Heap} {k : Kinds} {ρ : Loc} {C : CallT} {env : Env}
theorem SRh.pushedAt (S : SRh K w prog X m ex cs μ h) {o : MO} (hz : szOk o = true) {lo : List (Addr × Obj)} {ob : Obj} {D : Addr} (hl : LowOk lo X.low) (F : Fr X.base X.L h' m) (N : News X.base X.L h' ((D, ob) :: (lo ++ (ex ++ nw cs)))) (hlt : ∀ q ∈ lo ++ (ex ++ nw cs), q.1 < D) (hsys : D ≠ sysModules)
    (ho : OR K w prog (adr (cs ++ [⟨D, ob, none⟩])) o ⟨D, ob, none⟩) : SRh K w prog X m ex (cs ++ [⟨D, ob, none⟩]) (μ ++ [o]) h' := by
  refine S.ofNews hl F (fun q hq => N q ?_) (fun q hq => ?_) (by rw [List.getElem?_append_left (by exact (List.getElem?_eq_some_iff.mp S.fro).1)]; exact S.fro) (fun o' ho' => by rcases List.mem_append.mp ho' with z | z; exact S.szs _ z; rw [List.mem_singleton.mp z]; exact hz) ?_ ((S.O.mono fun _ _ z => z.grow ⟨[D], by rw [adr_append]; rfl⟩).append (.cons ho .nil))
  · rw [nw_append, nw_one] at hq
    simp only [CO.ents, Option.toList_none, List.mem_append, List.mem_cons, List.not_mem_nil, or_false] at hq ⊢
    rcases hq with z | z | z | z
    · exact .inr (.inl z)
    · exact .inr (.inr (.inl z))
    · exact .inr (.inr (.inr z))
    · exact .inl z
  · rw [nw_append, nw_one] at hq
    simp only [CO.ents, Option.toList_none, List.mem_append, List.mem_cons, List.not_mem_nil, or_false] at hq
    rcases hq with z | z | z
    · exact (S.led q (List.mem_append_left _ z)).2.2
    · exact (S.led q (List.mem_append_right _ z)).2.2
    · rw [z]; exact hsys
  · rw [nw_append, nw_one, ← List.append_assoc ex, List.map_append, ← List.append_assoc]
    refine List.nodup_append.mpr ⟨S.dist, by simp [CO.ents], fun a ha b hb e => ?_⟩
    subst e
    simp only [CO.ents, Option.toList_none, List.map_cons, List.map_nil, List.mem_cons, List.not_mem_nil, or_false] at hb
    subst hb
    rcases List.mem_append.mp ha with z | z
    · rcases List.mem_cons.mp z with z | z
      · exact (N _ (.head _)).2.1 z
      · rw [← hl.map] at z
        obtain ⟨q, hq, e⟩ := List.mem_map.mp z
        have := hlt q (List.mem_append_left _ hq)
        rw [e] at this; exact Nat.lt_irrefl _ this
    · obtain ⟨q, hq, e⟩ := List.mem_map.mp z
      have := hlt q (List.mem_append_right _ hq)
      rw [e] at this; exact Nat.lt_irrefl _ this
end
/-! ## isinstance -/
section
variable {K : Frag} {w : World} {prog : Program} {X : Fx} {m m' : NsMap} {ex ex' : List (Addr × Obj)} {XR XR' : XRel} {cs cs₀ : List CO} {μ : Mem} {s : Shared} {mg mb : NsMap} {n : Nat} {A : Around} {E : Value → Shared → Prop} {Q : Value → Shared → Prop}
theorem ty_int : typeOf (.type "int") = pure (.type "type") := by first | rfl | (rw [typeOf]; rfl)
theorem ty_bool : typeOf (.type "bool") = pure (.type "type") := by first | rfl | (rw [typeOf]; rfl)
structure IsoAt (K : Frag) (D : Addr) : Prop where
  hg : plainGet K D "__class__" = true
  hd : hasDictIn K D = true
  ha : findIn K (.ref D) "__class__" = some (some (.builtin "object.__class__"))
  hm : mroIn K D (.type "object") = some true
  ni : kin_notT K D "int" = true
  nb : kin_notT K D "bool" = true
  cc : (([178, 290] : List Addr).all fun C => if D = C then isIn K (.ref D) C else kin_not K D C) = true
structure IsoAll (K : Frag) : Prop where
  cl : ∀ c ∈ clT, IsoAt K c.1
  hn : specialIn K (.builtin "object.__class__") "__get__" = some (some (.builtin "getset_descriptor.__get__"))
  ht : takesIn K (.builtin "object.__class__") = some true
  i1 : isNotIn K "int" 178 = true
  i2 : isNotIn K "int" 290 = true
  d1 : instDict K 135 = true
  d2 : instDict K 138 = true
theorem iso_all (h : isoOk K = true) : IsoAll K := by
  unfold isoOk at h
  simp only [Bool.and_eq_true, beq_iff_eq] at h
  obtain ⟨⟨⟨⟨⟨⟨a, b⟩, c⟩, d⟩, e⟩, f⟩, g⟩ := h
  refine ⟨fun c hc => ?_, b, c, d, e, f, g⟩
  have := List.all_eq_true.mp a c hc
  simp only [Bool.and_eq_true, beq_iff_eq] at this
  obtain ⟨⟨⟨⟨⟨⟨a, b⟩, c⟩, d⟩, e⟩, f⟩, g⟩ := this
  exact ⟨a, b, c, d, e, f, g⟩
theorem iso_inst (Z : IsoAll K) {x C D : Addr} {ox od : Obj} (Y : IsoAt K D) (X' : K.In s.heap) (I : W.InstAt s.heap x ox D (some od)) (hC : C = 178 ∨ C = 290) (h : ∀ tk, Q (.bool (D == C)) { s with toks := tk }) :
    wpAny (model prog w) A (call (.builtin "isinstance") [.ref x, .ref C] []) Q E s := by
  have hc := List.all_eq_true.mp Y.cc C (by rcases hC with rfl | rfl <;> simp)
  by_cases e : D = C
  · rw [if_pos e] at hc
    have : (D == C) = true := beq_iff_eq.mpr e
    rw [this] at h
    exact isi_call X' (fun M => I.type) hc (by intro q; cases q) (h s.toks)
  · rw [if_neg e] at hc
    have : (D == C) = false := beq_eq_false_iff_ne.mpr e
    rw [this] at h
    exact kin_callC X' I hc Y.hg Y.hd Y.ha Z.hn Z.ht Y.hm (h _)
theorem iso_instT (Z : IsoAll K) {x D : Addr} {ox od : Obj} {t : String} (Y : IsoAt K D) (X' : K.In s.heap) (I : W.InstAt s.heap x ox D (some od)) (hC : t = "int" ∨ t = "bool") (h : ∀ tk, Q (.bool false) { s with toks := tk }) :
    wpAny (model prog w) A (call (.builtin "isinstance") [.ref x, .type t] []) Q E s := by
  rcases hC with rfl | rfl
  · exact kin_callT X' I Y.ni ty_int Y.hg Y.hd Y.ha Z.hn Z.ht Y.hm (h _)
  · exact kin_callT X' I Y.nb ty_bool Y.hg Y.hd Y.ha Z.hn Z.ht Y.hm (h _)
theorem sym_mem : (129, (clT.lookup 129).getD ([], [])) ∈ clT := by decide +kernel
theorem iso_at {C : Addr} (Z : IsoAll K) (h : (clT.lookup C).isSome = true) : IsoAt K C := by
  obtain ⟨v, hv⟩ := Option.isSome_iff_exists.mp h
  exact Z.cl (C, v) (lookup_mem hv)
theorem top_inst {a : Addr} {h : Heap} (X' : K.In h) (hd : instDict K a = true) : ∃ ox od, W.InstAt h a ox 129 (some od) := by
  unfold instDict at hd
  split at hd
  · rename_i o ho
    simp only [Bool.and_eq_true, beq_iff_eq] at hd
    obtain ⟨⟨h1, h2⟩, h3⟩ := hd
    split at h3
    · rename_i dx hdx
      obtain ⟨od, hod⟩ := Option.isSome_iff_exists.mp h3
      exact ⟨o, od, X' _ _ ho, h1, h2, by rw [hdx]; exact X' _ _ hod⟩
    · cases h3
  · cases hd
theorem isInst_snd (T : FxOk K mg mb n X) {v c : V} {vv vc : Value} (hv : VR K (adr cs₀) v vv) (hc : VR K (adr cs₀) c vc) :
    Snd K w prog X ex XR m cs₀ (call (.builtin "isinstance") [vv, vc] []) (bnd (isInstM v c) fun r => ret (.bool r)) (VQ K m) := fun cs μ s r Q E g S e p => by
  have Z := iso_all T.top.iso
  have X' := T.top.inb.keeps S.1.stays
  have fin : ∀ {b : Bool} {tk : Nat}, r = (.ok (.bool b), μ) → Q (.bool b) { s with toks := tk } := by
    rintro b tk rfl
    exact p _ cs m _ (Grow.refl _) ⟨S.1, S.2⟩ ⟨rfl, .bool⟩
  have fin0 : ∀ {b : Bool}, r = (.ok (.bool b), μ) → Q (.bool b) s := by
    rintro b rfl
    exact p _ cs m _ (Grow.refl _) ⟨S.1, S.2⟩ ⟨rfl, .bool⟩
  have two : ∀ {a : Addr}, a = 135 ∨ a = 138 → instDict K a = true := by rintro a (rfl | rfl); exact Z.d1; exact Z.d2
  have ret1 : ∀ {b : Bool}, bnd (ret b) (fun r => ret (.bool r)) μ = some r → r = (.ok (.bool b), μ) := fun z => by cases z; rfl
  unfold isInstM at e
  split at e
  · obtain ⟨t, rfl⟩ := hv.int_inv
    obtain rfl := hc.ty_inv
    exact IsiPair.int_int (fin0 (ret1 e))
  · obtain rfl := hv.bool_inv
    obtain rfl := hc.ty_inv
    exact IsiPair.bool_int (fin0 (ret1 e))
  · obtain rfl := hv.bool_inv
    obtain rfl := hc.ty_inv
    exact IsiPair.bool_bool (fin0 (ret1 e))
  · rename_i a
    obtain ⟨rfl, _⟩ := hv.top_inv
    obtain rfl := hc.ty_inv
    by_cases ha : a = 135 ∨ a = 138
    · rw [if_pos ha] at e
      obtain ⟨ox, od, I⟩ := top_inst X' (two ha)
      exact iso_instT Z (Z.cl _ sym_mem) X' I (.inl rfl) fun tk => fin (ret1 e)
    · rw [if_neg ha] at e; cases e
  · rename_i a
    obtain ⟨rfl, _⟩ := hv.top_inv
    obtain rfl := hc.ty_inv
    by_cases ha : a = 135 ∨ a = 138
    · rw [if_pos ha] at e
      obtain ⟨ox, od, I⟩ := top_inst X' (two ha)
      exact iso_instT Z (Z.cl _ sym_mem) X' I (.inr rfl) fun tk => fin (ret1 e)
    · rw [if_neg ha] at e; cases e
  · obtain ⟨t, rfl⟩ := hv.int_inv
    obtain rfl := hc.ty_inv
    exact IsiPair.int_bool (fin (ret1 e))
  all_goals try
    rename_i a
    obtain ⟨x, rfl, hx⟩ := hv.ref_inv
    rcases bnd_some e with ⟨_, _, _, q, _⟩ | ⟨b, μ', q, e⟩
    · rcases bnd_some q with ⟨_, _, _, q, _⟩ | ⟨o, μ₁, q, q'⟩
      · obtain ⟨_, _, z⟩ := getM_some q; cases z
      · obtain ⟨_, _, z⟩ := getM_some q
        cases z
        cases o with
        | inst C fs => dsimp only at q'; by_cases hcl : (clT.lookup C).isSome = true; (rw [if_pos hcl] at q'; cases q'); (rw [if_neg hcl] at q'; cases q')
        | _ => cases q'
    rcases bnd_some q with ⟨_, _, _, q, z⟩ | ⟨o, μ₁, q, q'⟩
    · cases z
    obtain ⟨o', hm, z⟩ := getM_some q
    cases z
    cases o with
    | inst C fs =>
      dsimp only at q'
      by_cases hcl : (clT.lookup C).isSome = true
      · rw [if_pos hcl] at q'
        cases q'
        cases e
        obtain ⟨c', dx, ds, nn, _, _, _, _, _, I, _⟩ := inst_at S (g.at hx) hm
        first
          | (obtain ⟨rfl, _⟩ := hc.top_inv; exact iso_inst Z (iso_at Z hcl) X' I (.inl rfl) fun tk => fin rfl)
          | (obtain ⟨rfl, _⟩ := hc.top_inv; exact iso_inst Z (iso_at Z hcl) X' I (.inr rfl) fun tk => fin rfl)
          | (obtain rfl := hc.ty_inv; exact iso_instT Z (iso_at Z hcl) X' I (.inl rfl) fun tk => fin rfl)
          | (obtain rfl := hc.ty_inv; exact iso_instT Z (iso_at Z hcl) X' I (.inr rfl) fun tk => fin rfl)
      · rw [if_neg hcl] at q'; cases q'
    | _ => cases q'
  · rename_i a
    obtain ⟨rfl, _⟩ := hv.top_inv
    obtain ⟨rfl, _⟩ := hc.top_inv
    by_cases ha : a = 135 ∨ a = 138
    · rw [if_pos ha] at e
      obtain ⟨ox, od, I⟩ := top_inst X' (two ha)
      exact iso_inst Z (Z.cl _ sym_mem) X' I (.inl rfl) fun tk => fin (ret1 e)
    · rw [if_neg ha] at e; cases e
  · rename_i a
    obtain ⟨rfl, _⟩ := hv.top_inv
    obtain ⟨rfl, _⟩ := hc.top_inv
    by_cases ha : a = 135 ∨ a = 138
    · rw [if_pos ha] at e
      obtain ⟨ox, od, I⟩ := top_inst X' (two ha)
      exact iso_inst Z (Z.cl _ sym_mem) X' I (.inr rfl) fun tk => fin (ret1 e)
    · rw [if_neg ha] at e; cases e
  · obtain ⟨t, rfl⟩ := hv.int_inv
    obtain ⟨rfl, _⟩ := hc.top_inv
    exact isn_call (P := fun _ => True) X' (fun M => Looks.of_pure rfl) Z.i1 (by intro q; cases q) trivial int_cls (fin (ret1 e))
  · obtain ⟨t, rfl⟩ := hv.int_inv
    obtain ⟨rfl, _⟩ := hc.top_inv
    exact isn_call (P := fun _ => True) X' (fun M => Looks.of_pure rfl) Z.i2 (by intro q; cases q) trivial int_cls (fin (ret1 e))
  · cases e
end
/-! ## sorted(dict of ints) -/
theorem insI_perm (i : Int) : ∀ l, (insI i l).Perm (i :: l)
  | [] => .refl _
  | j :: r => by
    unfold insI
    split
    · exact .refl _
    · exact ((insI_perm i r).cons j).trans (.swap i j r)
theorem sortI_perm : ∀ l, (sortI l).Perm l
  | [] => .refl _
  | i :: r => (insI_perm i _).trans ((sortI_perm r).cons i)
theorem insI_sorted (i : Int) : ∀ {l : List Int}, l.Pairwise (· ≤ ·) → (insI i l).Pairwise (· ≤ ·)
  | [], _ => List.pairwise_singleton _ _
  | j :: r, h => by
    obtain ⟨h1, h2⟩ := List.pairwise_cons.mp h
    unfold insI
    split
    · rename_i hij
      refine List.pairwise_cons.mpr ⟨fun x hx => ?_, h⟩
      rcases List.mem_cons.mp hx with rfl | hx
      · exact hij
      · exact Int.le_trans hij (h1 x hx)
    · rename_i hij
      refine List.pairwise_cons.mpr ⟨fun x hx => ?_, insI_sorted i h2⟩
      rcases List.mem_cons.mp ((insI_perm i r).mem_iff.mp hx) with rfl | hx
      · omega
      · exact h1 x hx
theorem sortI_sorted : ∀ l, (sortI l).Pairwise (· ≤ ·)
  | [] => .nil
  | i :: r => insI_sorted i (sortI_sorted r)
theorem sortI_eq {l r : List Int} (p : r.Perm l) (s : r.Pairwise (· ≤ ·)) : r = sortI l :=
  List.Perm.eq_of_pairwise (fun _ _ _ _ h1 h2 => Int.le_antisymm h1 h2) s (sortI_sorted l) (p.trans (sortI_perm l).symm)
section
variable {K : Frag} {w : World} {prog : Program} {X : Fx} {m m' : NsMap} {ex ex' : List (Addr × Obj)} {XR XR' : XRel} {cs cs₀ : List CO} {μ : Mem} {s : Shared} {mg mb : NsMap} {n : Nat} {h h' : Heap} {k : Kinds} {ρ : Loc} {C : CallT} {env : Env}
theorem intsAre_all2 {as : List Addr} : ∀ {vs : List Value} {ns : List Int}, IntsAre vs ns → All2 (VR K as) (ns.map .int) vs
  | _, _, .nil => .nil
  | _, _, .cons i t r => .cons .int (intsAre_all2 r)
theorem keyInts_pairs {P : V → Value → Prop} : ∀ {es : List (V × V)} {kvs : List (Int × Value)} {is : List Int}, All2 (fun p q => p.1 = .int q.1 ∧ P p.2 q.2) es kvs → keyInts es = some is → is = kvs.map (·.1)
  | _, _, _, .nil, e => by cases e; rfl
  | _, _, is, .cons (a := a) (b := b) (l := l) x z, e => by
    obtain ⟨p1, p2⟩ := a
    obtain ⟨x1, x2⟩ := x
    dsimp only at x1
    subst x1
    unfold keyInts at e
    cases hq : keyInts l with
    | none => rw [hq] at e; cases e
    | some js => rw [hq] at e; cases e; rw [keyInts_pairs z hq]; rfl
theorem ints_of : ∀ {kvs : List (Int × Value)} {vs : List Value}, vs.length = kvs.length → (∀ (j : Nat) (v : Value), vs[j]? = some v → ∃ k x, kvs[j]? = some (k, x) ∧ (intKind prog w).is k v = true) → IntsAre vs (kvs.map (·.1))
  | [], [], _, _ => .nil
  | [], _ :: _, h, _ => by simp at h
  | _ :: _, [], h, _ => by simp at h
  | q :: kvs, v :: vs, h, hk => by
    obtain ⟨k, x, h1, h2⟩ := hk 0 v rfl
    simp only [List.getElem?_cons_zero, Option.some.injEq] at h1
    subst h1
    obtain ⟨t, rfl⟩ := Value.isInt_shape h2
    exact .cons k t (ints_of (by simpa using h) fun j u hu => by simpa using hk (j + 1) u (by simpa using hu))
theorem gt_sys (T : FxOk K mg mb n X) (S : SRh K w prog X m ex cs μ h) {D : Addr} (hlt : ∀ q ∈ ex ++ nw cs, q.1 < D) : D ≠ sysModules := fun e => by
  have hm : X.c0 ∈ cs := List.mem_of_getElem? S.fro
  have hq := nw_mem hm (q := (X.c0.x, X.c0.o)) (.head _)
  have h1 := S.led _ (List.mem_append_right _ hq)
  have h2 := hlt _ (List.mem_append_right _ hq)
  obtain ⟨o, _, _, ho, _⟩ := T.top.b
  have h3 : X.c0.x ≠ 0 := fun z => by have := h1.2.1; rw [show (X.c0.x, X.c0.o).1 = X.c0.x from rfl, z] at this; rw [show (0 : Addr) = builtinsNs from rfl, ho] at this; cases this
  dsimp only at h2
  rw [e] at h2
  have : (sysModules : Nat) = 1 := rfl
  have h4 : (X.c0.x : Nat) < 1 := h2
  exact h3 (Nat.lt_one_iff.mp h4)
theorem sorted_snd (T : FxOk K mg mb n X) {a : Nat} {vo : Value} (ho : VR K (adr cs₀) (.ref a) vo) : Snd K w prog X ex XR m cs₀ (call (.builtin "sorted") [vo] []) (bnd (getM a) fun
    | .dict es => match keyInts es with
      | some is => if is.length < 64 then newM (.list ((sortI is).map .int)) else stuck
      | none => stuck
    | _ => stuck) (VQ K m) := fun cs μ s r Q E g S e p => by
  obtain ⟨x, rfl, hx⟩ := ho.ref_inv
  rcases bnd_some e with ⟨_, _, _, q, _⟩ | ⟨o, μ', q, e⟩
  · obtain ⟨_, _, z⟩ := getM_some q; cases z
  obtain ⟨o', hm, z⟩ := getM_some q
  cases z
  cases o with
  | dict es =>
    dsimp only at e
    cases hk : keyInts es with
    | none => rw [hk] at e; cases e
    | some is =>
      rw [hk] at e
      dsimp only at e
      by_cases hlen : is.length < 64
      · rw [if_pos hlen] at e
        obtain ⟨c, hc, rfl, hO, hg, hns⟩ := co_at S (g.at hx) hm
        have lo : (c.x == sysModules) = false := beq_eq_false_iff_ne.mpr hns
        obtain ⟨_, h2, h3⟩ := hO
        obtain ⟨kvs, hdo, hp⟩ : ∃ kvs, c.o.IsDictOf (intKind prog w) kvs ∧ All2 (fun p q => p.1 = .int q.1 ∧ VR K (adr cs) p.2 q.2) es kvs := by
          cases es with
          | nil => exact ⟨[], (h3 rfl).2, .nil⟩
          | cons q0 r =>
            rcases h2 with ⟨hs, _⟩ | ⟨_, kvs, hd, hp⟩
            · exfalso
              obtain ⟨y, z⟩ := q0
              obtain ⟨j, hj⟩ := hs (y, z) (.head _)
              dsimp only at hj; rw [hj] at hk; cases hk
            · exact ⟨kvs, hd, hp⟩
        have his := keyInts_pairs hp hk
        subst his
        rw [List.length_map] at hlen
        have hD := Heap.dictOf_iff.mpr ⟨_, hg, hdo⟩
        obtain ⟨ep, hat⟩ := hD.dictAt
        obtain ⟨lo', hl, N⟩ := S.1.news
        refine kdu_sorted (kdl_dict (knd := intKind prog w) (kvs := kvs) (ep := ep) lo) T.hnd S.1.fr N hat (kdl_size (by omega)) fun D h' tk vs F' N' l1 hl1 hv => ?_
        have hints := ints_of hl1 hv
        refine ksk_lsort (news' := fun o => (D, o) :: (lo' ++ (ex ++ nw cs))) F' N' (fun o => .head fun q hq => Nat.ne_of_lt (l1 q hq)) (by simp) hints (by simp only [List.length_map]; exact hlen) fun vs' ns' c' h'' F'' N'' hi hle hP hS _ => ?_
        have hsort := sortI_eq hP hS
        subst hsort
        have hz := newM_sz e
        unfold newM at e
        rw [if_pos hz] at e
        cases e
        have hml : μ.length = cs.length := S.1.O.length
        have Sx := S.1.pushedAt (h' := h'') (o := .list ((sortI (kvs.map (·.1))).map .int)) (ob := listObj vs' c') (D := D) hz hl F'' N'' l1 (gt_sys T S.1 fun q hq => l1 q (List.mem_append_right _ hq)) ⟨vs', c', rfl, rfl, intsAre_all2 hi⟩
        refine p _ _ m _ (adr_push _ _) ⟨Sx, S.2⟩ ⟨rfl, ?_⟩
        rw [hml]
        exact .ref (adr_last _ _)
      · rw [if_neg hlen] at e; cases e
  | _ => cases e
end
/-! ## dict(list of pairs) -/
theorem x_entry_loop : entryFor table "dict.update.loop" = some Builtin.«dict.update.loop» := entryFor_of_tree (by kernel_rfl)
theorem x_plain_loop : plainId "dict.update.loop" = true := by decide +kernel
theorem x_no_keys : typeLookup (.type "list") "keys" = pure none := by rw [typeLookup_type, builtinLookup_eq_fast]; kernel_rfl
section
variable {w : World} {prog : Program} {A : Around} {E : Value → Shared → Prop} {s : Shared}
theorem getAttr?_miss_list {a : Addr} {xs : Array Value} {k : Nat} {name : Str} {Q : Option Value → Shared → Prop}
    (hx : s.heap.get? a = some { cls := .type "list", dict := none, data := .seq xs k, slots := #[] }) (hmiss : typeLookup (.type "list") name = pure none) (hname : (["__module__", "__name__", "__qualname__", "__doc__", "__annotations__"] : List Str).contains name = false) (hA : A.handled = none)
    (h : ∀ h' tk, (∀ b o, s.heap.get? b = some o → h'.get? b = some o) → Q none { s with heap := h', toks := tk }) (hsz : name.length + 100 ≤ sizeLine := by size_fits) :
    wpAny (model prog w) A (getAttr? (.ref a) name) Q E s := by
  obtain ⟨hp, g, d, tk, os⟩ := s
  have hT : ∀ tk', (⟨hp, g, d, tk', os⟩ : Shared).TypeIs (.ref a) "list" := fun _ => ⟨_, hx, rfl⟩
  have f1 := sub_AttributeError
  have f3 := F.slot_list_getattribute.lookup
  have f4 := F.slot_list_getattribute.bind (.ref a)
  have f5 := am_list_getattr_none
  unfold getAttr? getAttrBy? getAttrBy
  repeat (any_goals (first | assumption | exact hT _ | ((with_reducible show wpAny _ _ (call (Value.builtin "list.__getattribute__") _ _) _ _ _); refine call_meets F.slot_list_getattribute (hT _) am_entry_list_getattribute (F.args_list_getattribute_2 _ _) (meets_getattribute_miss_list a xs k _ name _ hmiss hname hsz) ⟨hx, hA, fun h' tk' e hx' => ?_⟩) | wp_step))
  obtain ⟨t', u', he⟩ := hx'.there
  show wpAny _ _ (getattributeRaised _ _ _ _ _ _ _) _ _ _
  unfold getattributeRaised
  repeat (any_goals (first | assumption | wp_step))
  exact h _ _ hx'.keeps
theorem upd_loop (hh : A.handled = none) {R : Result → Shared → Prop} {D I l : Addr} {items : Array Value} {kvs : List (Str × Value)} {res : Value} (hDI : D ≠ I) (hlD : l ≠ D) (hlI : l ≠ I) (hz : items.size ≤ 1000) (hlen : kvs.length = items.size) (hnd : (kvs.map (·.1)).Nodup) :
    ∀ (k i : Nat) (s : Shared), items.size - i = k → i ≤ items.size → s.heap.IsListIter I l i → s.heap.IsList l items →
      (∀ (j : Nat) (v : Value) (kv : Str × Value), items[j]? = some v → kvs[j]? = some kv → ∃ a t, v = .ref a ∧ a ≠ D ∧ a ≠ I ∧ ∃ n, s.heap.get? a = some (tupObj [.str kv.1 t, kv.2] n)) → s.heap.DictOf (strKind prog w) D (kvs.take i) →
      (∀ h' tk, (∀ b o, b ≠ D → b ≠ I → s.heap.get? b = some o → h'.get? b = some o) → h'.DictOf (strKind prog w) D kvs → R (.ok (.ret res)) { s with heap := h', toks := tk }) →
      codeAny (model prog w) A (.builtin "dict.update.loop" ⟨[.ref D, .ref I, rawInt i, res], []⟩) R s := by
  intro k
  induction k with
  | zero =>
    intro i s hk hi hit hl hp hD hR
    have hin : i = items.size := by omega
    subst hin
    refine codeAny_builtin x_entry_loop ?_
    rw [Around.under_plainId x_plain_loop _]
    show wpAny _ A.in1 (pyNext (.ref I) >>= _) _ _ s
    refine wpAny_bind (wpAny_pyNext_list_end hh hit hl (by simp) fun h' hs => ?_)
    refine wpAny_bind (wpAny_pure ?_)
    refine wpAny_pure ?_
    refine hR h' s.toks (fun b o _ hb ho => hs b o hb ho) ?_
    rw [← hlen, List.take_length] at hD
    exact hD.at fun o ho => hs D o hDI ho
  | succ k ih =>
    intro i s hk hi hit hl hp hD hR
    have hlt : i < items.size := by omega
    refine codeAny_builtin x_entry_loop ?_
    rw [Around.under_plainId x_plain_loop _]
    show wpAny _ A.in1 (pyNext (.ref I) >>= _) _ _ s
    refine wpAny_bind (wpAny_pyNext_list_item hit hl (x := items[i]) (by simp [hlt]) fun h' hit' hs' => ?_)
    obtain ⟨hx0, hx1⟩ : ∃ v, items[i]? = some v := ⟨items[i], by simp [hlt]⟩
    obtain ⟨kv, hkv⟩ : ∃ kv, kvs[i]? = some kv := ⟨kvs[i]'(by omega), by simp⟩
    have hxe : hx0 = items[i] := by simpa [hlt] using hx1.symm
    subst hxe
    obtain ⟨a, t, ha, haD, haI, n, hg⟩ := hp i _ kv hx1 hkv
    rw [ha]
    have hg' : h'.get? a = some (tupObj [.str kv.1 t, kv.2] n) := (hs'.2 a haI).trans hg
    have hD' : h'.DictOf (strKind prog w) D (kvs.take i) := hD.at fun o ho => (hs'.2 D hDI).trans ho
    refine wpAny_bind ?_
    refine wpAny_holding ?_
    unfold Builtin.Dict.pairItems seqItems?
    have hT : ({ s with heap := h' } : Shared).TypeIs (.ref a) "tuple" := ⟨_, hg', rfl⟩
    have hst : stored (kvs.take i) kv.1 kv.2 = kvs.take (i + 1) := by
      have hsp : kvs.take (i + 1) = kvs.take i ++ [kv] := by rw [List.take_add_one, hkv]; rfl
      have hni : ¬ ((kvs.take i).any fun q => decide (q.1 = kv.1)) = true := fun ha => by
        obtain ⟨q, hq, hqe⟩ := List.any_eq_true.mp ha
        have hnd' : ((kvs.take (i + 1)).map (·.1)).Nodup := List.Nodup.sublist ((List.take_sublist _ _).map _) hnd
        rw [hsp, List.map_append] at hnd'
        exact (List.nodup_append.mp hnd').2.2 q.1 (List.mem_map_of_mem hq) kv.1 (by simp) (of_decide_eq_true hqe)
      rw [stored, if_neg hni, hsp]
    refine wpAny_bind (wpAny_tryCatch (wpAny_bind (wpAny_typeOf (T := "tuple") hT ?_)))
    rw [if_pos (by decide)]
    refine wpAny_bind (wpAny_bind (wpAny_load hg' (wpAny_pure ?_)))
    refine wpAny_pure ?_
    refine wpAny_holding (wpAny_dictSet_pairs (knd := strKind prog w) (k := kv.1) (strKind_is prog w _ _) hD' (fun h'' hD'' hs'' => ?_) (by have h9 : (1000 : Nat) ≤ sizeLine := (by decide); rw [List.length_take]; exact Nat.le_trans (Nat.min_le_right _ _) (by omega)))
    rw [hst] at hD''
    have kp : ∀ b o, b ≠ D → b ≠ I → s.heap.get? b = some o → h''.get? b = some o := fun b o h1 h2 ho => (hs''.2 b h1).trans ((hs'.2 b h2).trans ho)
    refine wpAny_pure ⟨plainId_quiet x_plain_loop _, ?_⟩
    refine ih (i + 1) _ (by omega) (by omega) (hit'.at fun o ho => (hs''.2 I (Ne.symm hDI)).trans ho) (hl.at fun o ho => kp l o hlD hlI ho) (fun j v kv' h1 h2 => ?_) hD'' (fun h3 tk hk3 hD3 => hR h3 tk (fun b o h1 h2 ho => hk3 b o h1 h2 (kp b o h1 h2 ho)) hD3)
    obtain ⟨a', t', e1, e2, e3, n', e4⟩ := hp j v kv' h1 h2
    exact ⟨a', t', e1, e2, e3, n', kp a' _ e2 e3 e4⟩
theorem dict_pairs (hh : A.handled = none) {l : Addr} {n : Nat} {vs : List Value} {kvs : List (Str × Value)} {Q : Value → Shared → Prop} (hl : s.heap.get? l = some (listObj vs n)) (hz : vs.length ≤ 1000) (hsys : sysModules < s.heap.objs.size)
    (hp : All2 (fun v kv => ∃ a t n, v = .ref a ∧ s.heap.get? a = some (tupObj [.str kv.1 t, kv.2] n)) vs kvs) (hnd : (kvs.map (·.1)).Nodup)
    (h : ∀ h' tk o, (∀ b o, s.heap.get? b = some o → h'.get? b = some o) → h'.get? s.heap.objs.size = some o → o.IsDictOf (strKind prog w) kvs → Q (.ref s.heap.objs.size) { s with heap := h', toks := tk }) :
    wpAny (model prog w) A (call (.type "dict") [.ref l] []) Q E s := by
  refine callType_codes (Q₁ := fun obj s₁ => obj = .ref s.heap.objs.size ∧ s₁ = { s with heap := s.heap.push { cls := .type "dict", data := .dict #[] } }) F.kt_called_dict (F.kt_typeCall_dict_1 _) F.entry_dict_init (kt_code_dict_new _ ⟨rfl, rfl⟩) ?_
  rintro obj s₁ ⟨rfl, rfl⟩
  have hnew : (s.heap.push { cls := .type "dict", data := .dict #[] }).DictOf (strKind prog w) s.heap.objs.size [] := Heap.DictOf.new s.heap
  have hl' : (s.heap.push { cls := .type "dict", data := .dict #[] }).get? l = some (listObj vs n) := Heap.get?_push_of_some _ hl
  have hlD : l ≠ s.heap.objs.size := Nat.ne_of_lt (Heap.lt_size hl)
  refine ⟨hnew.typeIs, F.args_dict_init_2 _ _, ?_⟩
  unfold Builtin.«dict.__init__»
  refine wpAny_bind ?_
  unfold Builtin.Dict.selfAndRest
  refine wpAny_bind (wpAny_notOrdered_dict hnew.typeIs ?_)
  show wpAny _ _ (pure (s.heap.objs.size, [Value.ref l])) _ _ _
  refine wpAny_pure ?_
  show wpAny _ _ (Builtin.Dict.updateFrom "dict.__init__" s.heap.objs.size (.ref l) [] .none) _ _ _
  unfold Builtin.Dict.updateFrom
  refine wpAny_bind (wpAny_typeOf (T := "list") ⟨_, hl', rfl⟩ ?_)
  rw [if_pos (by decide)]
  refine wpAny_bind (getAttr?_miss_list hl' x_no_keys (by decide +kernel) hh (fun h1 tk1 k1 => ?_))
  rw [if_pos (show (none : Option Value).isNone = true from rfl)]
  refine wpAny_bind (wpAny_rule ?_)
  have hl1 : h1.get? l = some (listObj vs n) := k1 _ _ hl'
  have hlL : h1.IsList l vs.toArray := ⟨_, hl1, rfl, n, rfl⟩
  refine wpAny_bind (wpAny_pyIter_list hlL ?_)
  have hsz1 : s.heap.objs.size < h1.objs.size := by
    obtain ⟨o, _, _, ho, _⟩ := hnew
    exact Heap.lt_size (k1 _ _ ho)
  have pk : ∀ b o, s.heap.get? b = some o → (h1.push { cls := .type "list_iterator", data := .fields #[.ref l, .int 0 0] }).get? b = some o := fun b o ho => Heap.get?_push_of_some _ (k1 _ _ (Heap.get?_push_of_some _ ho))
  refine wpAny_pure ⟨plainId_quiet x_plain_loop _, ?_⟩
  refine upd_loop (A := A.in1) (kvs := kvs) (items := vs.toArray) hh (Nat.ne_of_lt hsz1) hlD (Nat.ne_of_lt (Heap.lt_size hl1)) (by simpa using hz) (by rw [List.size_toArray, hp.length]) hnd _ 0 { s with heap := h1.push { cls := .type "list_iterator", data := .fields #[.ref l, .int 0 0] }, toks := tk1 } rfl (Nat.zero_le _) ⟨_, Heap.get?_push_size _ rfl, rfl, rfl⟩ ⟨listObj vs n, Heap.get?_push_of_some _ hl1, rfl, n, rfl⟩ (fun j v kv h1 h2 => ?_) ?_ (fun h' tk hk hD => ?_)
  · rw [List.getElem?_toArray] at h1
    obtain ⟨kv', h3, a, t, n', rfl, h4⟩ := hp.get h1
    rw [h2] at h3; cases h3
    exact ⟨a, t, rfl, Nat.ne_of_lt (Heap.lt_size h4), Nat.ne_of_lt (Nat.lt_trans (Heap.lt_size h4) hsz1), n', pk _ _ h4⟩
  · rw [List.take_zero]
    exact hnew.at fun o ho => Heap.get?_push_of_some _ (k1 _ _ ho)
  · obtain ⟨o, ho, hd⟩ := Heap.dictOf_iff.mp hD
    exact ⟨rfl, h h' tk o (fun b o ho => hk b o (Nat.ne_of_lt (Heap.lt_size ho)) (Nat.ne_of_lt (Nat.lt_trans (Heap.lt_size ho) hsz1)) (pk _ _ ho)) ho hd⟩
end
section
variable {K : Frag} {w : World} {prog : Program} {X : Fx} {m m' : NsMap} {ex ex' : List (Addr × Obj)} {XR XR' : XRel} {cs cs₀ : List CO} {μ : Mem} {s : Shared} {mg mb : NsMap} {n : Nat} {h h' : Heap} {k : Kinds} {ρ : Loc} {C : CallT} {env : Env}
theorem pairs_at (S : SR K w prog X m ex cs μ s) : ∀ {xs : List V} {vs : List Value} {es : List (V × V)}, All2 (VR K (adr cs)) xs vs → pairsD μ xs = some es →
    allStr es ∧ ∃ kvs : List (Str × Value), All2 (fun p q => p.1 = .str q.1 ∧ VR K (adr cs) p.2 q.2) es kvs ∧ All2 (fun v kv => ∃ a t n, v = .ref a ∧ s.heap.get? a = some (tupObj [.str kv.1 t, kv.2] n)) vs kvs
  | _, _, _, .nil, e => by cases e; exact ⟨(fun p hp => nomatch hp), [], .nil, .nil⟩
  | _, _, es, .cons (a := x) (b := v) (l := l) hx z, e => by
    unfold pairsD at e
    cases x with
    | ref a =>
      obtain ⟨y, rfl, hy⟩ := hx.ref_inv
      change (match μ[a]? with | some (.tup [.str k, v]) => (pairsD μ l).map ((.str k, v) :: ·) | _ => none) = some es at e
      cases hm : μ[a]? with
      | none => rw [hm] at e; cases e
      | some o =>
        rw [hm] at e
        cases o with
        | tup ys =>
          split at e
          · rename_i q k v' hq
            cases hq
            cases hr : pairsD μ l with
            | none => rw [hr] at e; cases e
            | some r =>
              rw [hr] at e
              cases e
              obtain ⟨hs, kvs, h1, h2⟩ := pairs_at S z hr
              obtain ⟨c, hc, rfl, ⟨ws, nn, h3, _, h4⟩, hg, _⟩ := co_at S hy hm
              cases h4 with
              | cons g1 h4 =>
                cases h4 with
                | cons g2 h4 =>
                  cases h4
                  obtain ⟨t, rfl⟩ := g1.str_inv
                  rw [h3] at hg
                  exact ⟨fun p hp => by rcases List.mem_cons.mp hp with rfl | hp; exact ⟨_, rfl⟩; exact hs p hp, (k, _) :: kvs, .cons ⟨rfl, g2⟩ h1, .cons ⟨_, t, nn, rfl, hg⟩ h2⟩
          · cases e
        | _ => cases e
    | _ => cases e
theorem isDict_nil {o : Obj} (h : o.IsDictOf (strKind prog w) []) : o.IsDictOf (intKind prog w) [] := by
  obtain ⟨es, ep, h1, h2, h3, h4, h5⟩ := h
  have : es = #[] := by
    have := h4.length
    simpa using this
  subst this
  exact ⟨#[], ep, h1, h2, fun e he => absurd he (by simp), .nil, List.nodup_nil⟩
theorem nodup_keys {P : V → Value → Prop} : ∀ {es : List (V × V)} {kvs : List (Str × Value)}, All2 (fun p q => p.1 = .str q.1 ∧ P p.2 q.2) es kvs → (es.map (·.1)).Nodup → (kvs.map (·.1)).Nodup
  | _, _, .nil, _ => List.nodup_nil
  | _, _, .cons (a := a) (b := b) (l := l) (r := r) x z, h => by
    rw [List.map_cons, List.nodup_cons] at h ⊢
    refine ⟨fun hm => h.1 ?_, nodup_keys z h.2⟩
    rw [x.1]
    clear h
    revert hm
    induction z with
    | nil => intro hm; cases hm
    | cons y z ih =>
      intro hm
      rw [List.map_cons] at hm ⊢
      rcases List.mem_cons.mp hm with e | hm
      · rw [y.1, ← e]; exact .head _
      · exact .tail _ (ih hm)
theorem dict_snd (T : FxOk K mg mb n X) {v : V} {vo : Value} (ho : VR K (adr cs₀) v vo) : Snd K w prog X ex XR m cs₀ (call (.type "dict") [vo] []) (bnd (listOfM v) fun p => fun μ => match pairsD μ p.2 with
    | some es => if (es.map (·.1)).Nodup then newM (.dict es) μ else none
    | none => none) (VQ K m) := fun cs μ s r Q E g S e p => by
  rcases bnd_some e with ⟨_, _, _, z, _⟩ | ⟨pr, μ', z, e⟩
  · obtain ⟨_, _, _, _, z⟩ := listOfM_some z; cases z
  obtain ⟨a, xs, rfl, hm, z⟩ := listOfM_some z
  cases z
  obtain ⟨x, rfl, hx⟩ := ho.ref_inv
  obtain ⟨vs, nn, hg, hl, hr⟩ := isList_at S (g.at hx) hm
  dsimp only at e
  cases hq : pairsD μ xs with
  | none => rw [hq] at e; cases e
  | some es =>
    rw [hq] at e
    dsimp only at e
    by_cases hnd : (es.map (·.1)).Nodup
    · rw [if_pos hnd] at e
      obtain ⟨hs, kvs, h1, h2⟩ := pairs_at S hr hq
      have hsz : sysModules < s.heap.objs.size := Nat.lt_of_lt_of_le S.1.sz S.1.size_le
      refine dict_pairs T.hnd hg (by rw [← hr.length]; exact szList S hm) hsz h2 (nodup_keys h1 hnd) fun h' tk o hk hD hd => ?_
      refine post_more (c := ⟨_, o, none⟩) (tk := tk) S e p hk (fun q hq => ?_) (by simp [CO.ents]) ⟨rfl, .inl ⟨hs, kvs, hd, h1.mono fun _ _ z => ⟨z.1, z.2.grow (adr_push _ _)⟩⟩, fun z => ?_⟩
      · simp only [CO.ents, Option.toList_none, List.mem_cons, List.not_mem_nil, or_false] at hq
        subst hq
        exact ⟨hD, Nat.le_refl _⟩
      · subst z; cases h1; exact ⟨hd, isDict_nil hd⟩
    · rw [if_neg hnd] at e; cases e
end
/-! ## All built-ins -/
section
variable {K : Frag} {w : World} {prog : Program} {X : Fx} {m m' : NsMap} {ex ex' : List (Addr × Obj)} {XR XR' : XRel} {cs cs₀ : List CO} {μ : Mem} {s : Shared} {mg mb : NsMap} {n : Nat} {h h' : Heap} {k : Kinds} {ρ : Loc} {C : CallT} {env : Env}
theorem all2_1 {α β : Type} {R : α → β → Prop} {a : α} {l : List β} (h : All2 R [a] l) : ∃ b, l = [b] ∧ R a b := by
  cases h with | cons x z => cases z; exact ⟨_, rfl, x⟩
theorem all2_2 {α β : Type} {R : α → β → Prop} {a a' : α} {l : List β} (h : All2 R [a, a'] l) : ∃ b b', l = [b, b'] ∧ R a b ∧ R a' b' := by
  cases h with | cons x z => cases z with | cons y z => cases z; exact ⟨_, _, rfl, x, y⟩
theorem all2_3 {α β : Type} {R : α → β → Prop} {a a' a'' : α} {l : List β} (h : All2 R [a, a', a''] l) : ∃ b b' b'', l = [b, b', b''] ∧ R a b ∧ R a' b' ∧ R a'' b'' := by
  cases h with | cons x z => cases z with | cons y z => cases z with | cons u z => cases z; exact ⟨_, _, _, rfl, x, y, u⟩
theorem callB_snd (T : FxOk K mg mb n X) {b : String} {args : List V} {vargs : List Value} (h : All2 (VR K (adr cs₀)) args vargs) : Snd K w prog X ex XR m cs₀ (call (.builtin b) vargs []) (callB b args) (VQ K m) := by
  unfold callB
  split
  · obtain ⟨v, rfl, h1⟩ := all2_1 h; exact len_snd h1
  · obtain ⟨v, v', rfl, h1, h2⟩ := all2_2 h; exact min_snd T h1 h2
  · obtain ⟨v, v', rfl, h1, h2⟩ := all2_2 h; exact max_snd T h1 h2
  · obtain ⟨v, rfl, h1⟩ := all2_1 h; exact abs_snd h1
  · obtain ⟨v, v', rfl, h1, h2⟩ := all2_2 h; exact isInst_snd T h1 h2
  · obtain ⟨v, v', rfl, h1, h2⟩ := all2_2 h; exact append_snd h1 h2
  · obtain ⟨v, v', v'', rfl, h1, h2, h3⟩ := all2_3 h; exact get_snd h1 h2 h3
  · obtain ⟨v, rfl, h1⟩ := all2_1 h; exact sorted_snd T h1
  · exact Snd.stuck
theorem callT_snd (T : FxOk K mg mb n X) {b : String} {args : List V} {vargs : List Value} (h : All2 (VR K (adr cs₀)) args vargs) : Snd K w prog X ex XR m cs₀ (call (.type b) vargs []) (callT b args) (VQ K m) := by
  unfold callT
  split
  · obtain ⟨v, rfl, h1⟩ := all2_1 h; exact list_snd h1
  · obtain ⟨v, rfl, h1⟩ := all2_1 h; exact dict_snd T h1
  · exact Snd.stuck
/-- what calls do, given the defs and classes -/
theorem callS_of (T : FxOk K mg mb n X) (hC : ∀ ex m cs a args vargs, All2 (VR K (adr cs)) args vargs → Snd K w prog X ex (XO K w prog X ex) m cs (call (.ref a) vargs []) (C (.top a) args) (VQ K m)) (hno : ∀ f args, (∀ a, f ≠ .top a) → C f args = stuck) : CallS K w prog X C := fun ex m cs f args vf vargs hf hargs => by
  unfold callV
  split
  · rename_i b
    obtain rfl := hf.bi_inv
    exact callB_snd T hargs
  · rename_i b
    obtain rfl := hf.ty_inv
    exact callT_snd T hargs
  · rename_i h1 h2
    by_cases ht : ∃ a, f = .top a
    · obtain ⟨a, rfl⟩ := ht
      obtain ⟨rfl, _⟩ := hf.top_inv
      exact hC ex m cs a args vargs hargs
    · rw [hno f args fun a e => ht ⟨a, e⟩]
      exact Snd.stuck
end
/-! ## Parameters bound -/
theorem lookup_zip_none {β : Type} {x : Str} : ∀ {P : List Str} {us : List β}, x ∉ P → (P.zip us).lookup x = none
  | [], _, _ => by simp
  | _ :: _, [], _ => by simp
  | p :: P, u :: us, h => by
    rw [List.zip_cons_cons, List.lookup_cons, beq_eq_false_iff_ne.mpr (show x ≠ p from fun e => h (by rw [e]; exact .head _))]
    exact lookup_zip_none fun hm => h (.tail _ hm)
theorem filterMap_zip {β : Type} {g : Str → Option β} : ∀ {P : List Str} {us : List β}, P.length = us.length → (∀ (i : Nat) (p : Str), P[i]? = some p → g p = us[i]?) → P.filterMap (fun n => (g n).map (n, ·)) = P.zip us
  | [], us, _, _ => by simp
  | p :: P, [], h, _ => by simp at h
  | p :: P, u :: us, h, hg => by
    rw [List.filterMap_cons, hg 0 p rfl]
    simp only [List.getElem?_cons_zero, Option.map_some, List.zip_cons_cons]
    rw [filterMap_zip (by simpa using h) fun i q hq => by simpa using hg (i + 1) q (by simpa using hq)]
theorem lookup_zip {β : Type} : ∀ {P : List Str} {us : List β} {i : Nat} {p : Str}, P.Nodup → P[i]? = some p → (P.zip us).lookup p = us[i]?
  | [], _, _, _, _, e => by simp at e
  | q :: P, [], i, p, _, _ => by simp
  | q :: P, u :: us, 0, p, _, e => by simp at e; subst e; simp
  | q :: P, u :: us, i + 1, p, h, e => by
    simp only [List.getElem?_cons_succ] at e
    obtain ⟨h1, h2⟩ := List.nodup_cons.mp h
    rw [List.zip_cons_cons, List.lookup_cons, beq_eq_false_iff_ne.mpr (show p ≠ q from fun z => h1 (by rw [← z]; exact List.mem_of_getElem? e))]
    simpa using lookup_zip h2 e
theorem lookup_append' {β : Type} {x : Str} : ∀ {l r : List (Str × β)}, (l ++ r).lookup x = (l.lookup x <|> r.lookup x)
  | [], r => by simp
  | (y, v) :: l, r => by
    rw [List.cons_append, List.lookup_cons, List.lookup_cons, lookup_append' (l := l)]
    cases (x == y) <;> simp
section
variable {w : World} {prog : Program} {A : Around} {E : Value → Shared → Prop} {s : Shared}
def argNames (p : Arguments) : List Str := p.args.map (·.arg)
structure PlainArgs (p : Arguments) : Prop where
  po : p.posonlyargs = []
  ko : p.kwonlyargs = []
  va : p.vararg = none
  ka : p.kwarg = none
  nd : (argNames p).Nodup
theorem bind_loop {A0 : List (Str × Value)} {Q : List (Str × Value) → Shared → Prop} : ∀ (rest sl pre : List (Str × Value)) (s : Shared), (∀ n, sl.lookup n = (A0.lookup n <|> pre.lookup n)) → (∀ sl', (∀ n, sl'.lookup n = (A0.lookup n <|> (pre ++ rest).lookup n)) → Q sl' s) →
    wpAny (model prog w) A (forIn rest sl fun x __s => if (List.lookup x.fst __s).isNone = true then pure (ForInStep.yield (__s ++ [(x.fst, x.snd)])) else pure (ForInStep.yield __s)) Q E s
  | [], sl, pre, s, h, q => by
    rw [List.forIn_nil]
    exact wpAny_pure (q sl fun n => by rw [List.append_nil]; exact h n)
  | (x, d) :: rest, sl, pre, s, h, q => by
    rw [List.forIn_cons]
    by_cases hx : (List.lookup x sl).isNone = true
    · rw [if_pos hx]
      refine wpAny_bind (wpAny_pure ?_)
      refine bind_loop rest _ (pre ++ [(x, d)]) s (fun n => ?_) (fun sl' h' => q sl' fun n => by rw [h' n, List.append_assoc]; rfl)
      rw [lookup_append', lookup_append', h n]
      cases A0.lookup n <;> simp
    · rw [if_neg hx]
      refine wpAny_bind (wpAny_pure ?_)
      refine bind_loop rest _ (pre ++ [(x, d)]) s (fun n => ?_) (fun sl' h' => q sl' fun n => by rw [h' n, List.append_assoc]; rfl)
      rw [lookup_append', h n]
      by_cases hn : n = x
      · subst hn
        rw [h n] at hx
        cases h1 : A0.lookup n with
        | some _ => simp
        | none =>
          rw [h1] at hx
          cases h2 : pre.lookup n with
          | some _ => simp
          | none => rw [h2] at hx; simp at hx
      · have : List.lookup n [(x, d)] = none := by rw [List.lookup_cons, beq_eq_false_iff_ne.mpr hn]; rfl
        rw [this]
        cases pre.lookup n <;> simp
theorem bind_plain {fd : FuncData} {vals ds : List Value} {Q : List (Str × Value) → Shared → Prop} (Pa : PlainArgs fd.params) (hd : ∀ Q' : Option (Array Value) → Shared → Prop, (∀ x, (x.getD #[]).toList = ds → Q' x s) → wpAny (model prog w) A (seqItems? fd.defaults) Q' E s)
    (h1 : vals.length ≤ (argNames fd.params).length) (h2 : (argNames fd.params).length - vals.length ≤ ds.length) (h3 : ds.length ≤ (argNames fd.params).length)
    (q : Q ((argNames fd.params).zip (vals ++ ds.drop (ds.length - ((argNames fd.params).length - vals.length)))) s) : wpAny (model prog w) A (bindArgs fd ⟨vals, []⟩) Q E s := by
  obtain ⟨po, ko, va, ka, nd⟩ := Pa
  unfold bindArgs
  simp only [po, ko, va, ka, List.map_nil, List.nil_append, List.append_nil, List.forIn_nil]
  change wpAny _ _ _ _ _ _
  rw [show List.map (fun x => x.arg) fd.params.args = argNames fd.params from rfl]
  generalize argNames fd.params = P at *
  have hf : P.length - ds.length ≤ vals.length := by omega
  refine wpAny_bind (wpAny_pure (wpAny_bind (hd _ fun x hx => ?_)))
  rw [hx]
  dsimp only
  rw [if_neg (by simp; omega), show ds.length - P.length = 0 by omega, List.drop_zero]
  have hsome : ∀ p ∈ P.take vals.length, ((P.zip vals).lookup p).isSome = true := fun p hp => by
    obtain ⟨i, hi⟩ := List.mem_iff_getElem?.mp hp
    have hi2 : i < vals.length := by have := (List.getElem?_eq_some_iff.mp hi).1; rw [List.length_take] at this; omega
    rw [List.getElem?_take_of_lt hi2] at hi
    rw [lookup_zip nd hi]; simp [hi2]
  have hmiss : (List.filter (fun n => (List.lookup n (P.zip vals)).isNone) (P.take (P.length - ds.length))) = [] := List.filter_eq_nil_iff.mpr fun p hp => by
    have := hsome p ((List.take_sublist_take_left hf).subset hp)
    cases hq : (P.zip vals).lookup p with
    | none => rw [hq] at this; cases this
    | some _ => simp
  rw [hmiss]
  simp only [List.isEmpty_nil, Bool.not_true, Bool.false_eq_true, if_false]
  refine wpAny_bind (bind_loop (A0 := P.zip vals) _ _ [] _ (fun n => by simp) (fun sl hsl => ?_))
  refine wpAny_bind (wpAny_pure ?_)
  rw [if_neg (by simp)]
  refine wpAny_pure ?_
  have hl : P.length = (vals ++ ds.drop (ds.length - (P.length - vals.length))).length := by rw [List.length_append, List.length_drop]; omega
  rw [filterMap_zip hl fun i p hp => ?_]
  · exact q
  have hi := (List.getElem?_eq_some_iff.mp hp).1
  rw [hsl p, lookup_zip nd hp, List.nil_append]
  by_cases hlt : i < vals.length
  · rw [List.getElem?_append_left hlt]
    simp [hlt]
  · rw [List.getElem?_append_right (by omega), List.getElem?_eq_none (l := vals) (by omega), List.getElem?_drop]
    have hp' : (P.drop (P.length - ds.length))[i - (P.length - ds.length)]? = some p := by rw [List.getElem?_drop]; rw [show P.length - ds.length + (i - (P.length - ds.length)) = i by omega]; exact hp
    rw [lookup_zip ((List.drop_sublist _ _).nodup nd) hp']
    have e9 : i - (P.length - ds.length) = ds.length - (P.length - vals.length) + (i - vals.length) := by omega
    rw [e9]
    rfl
end
/-! ## The entry into a def, and the way back -/
def plainB (p : Arguments) : Bool := p.posonlyargs.isEmpty && p.kwonlyargs.isEmpty && p.vararg.isNone && p.kwarg.isNone && decide ((argNames p).Nodup)
def cellsOk (p : Arguments) (sc : Scope) : Bool := sc.names.all fun q => q.2 != .cell || (argNames p).contains q.1
def prmB : Bool := fnT.all fun x => match stmtAt x.2.2.1 x.2.2.2 with
  | some (.FunctionDef _ a b _ _ _ sc _ _ _) => plainB a && !sc.isCoroutine && !sc.isGenerator && sc.kind == .function && namesOk sc.names && ((argNames a).all fun p => sc.names.lookup p == some .local || sc.names.lookup p == some .cell) && decide (((dsT.lookup x.1).getD []).length ≤ a.args.length)
  | _ => false
set_option maxRecDepth 1000000 in
theorem prm_ok : prmB = true := by decide +kernel
section
variable {M : Model} {kindOf : Str → Option NameKind}
theorem bindL_other {x : Str} : ∀ {l : List (Str × Value)} {m : NsMap}, x ∉ l.map (·.1) → bindL kindOf l m x = m x
  | [], _, _ => rfl
  | (y, v) :: r, m, h => by
    unfold bindL
    rw [bindL_other fun hm => h (.tail _ hm)]
    have hy : x ≠ y := fun e => h (by rw [e]; exact .head _)
    split
    · exact if_neg hy
    · rfl
theorem bindC_other {x : Str} : ∀ {l : List (Str × Value)} {m : NsMap}, x ∉ l.map (·.1) → bindC kindOf l m x = m x
  | [], _, _ => rfl
  | (y, v) :: r, m, h => by
    unfold bindC
    rw [bindC_other fun hm => h (.tail _ hm)]
    have hy : x ≠ y := fun e => h (by rw [e]; exact .head _)
    split
    · rfl
    · exact if_neg hy
theorem bindL_at {x : Str} {v : Value} : ∀ {l : List (Str × Value)} {m : NsMap}, (l.map (·.1)).Nodup → (x, v) ∈ l → kindOf x = some .local → bindL kindOf l m x = some v
  | (y, u) :: r, m, h, hm, hk => by
    obtain ⟨h1, h2⟩ := List.nodup_cons.mp h
    unfold bindL
    rcases List.mem_cons.mp hm with e | hm
    · cases e
      rw [bindL_other h1, if_pos hk]
      exact if_pos rfl
    · exact bindL_at h2 hm hk
theorem bindC_at {x : Str} {v : Value} : ∀ {l : List (Str × Value)} {m : NsMap}, (l.map (·.1)).Nodup → (x, v) ∈ l → kindOf x ≠ some .local → bindC kindOf l m x = some v
  | (y, u) :: r, m, h, hm, hk => by
    obtain ⟨h1, h2⟩ := List.nodup_cons.mp h
    unfold bindC
    rcases List.mem_cons.mp hm with e | hm
    · cases e
      rw [bindC_other h1, if_neg hk]
      exact if_pos rfl
    · exact bindC_at h2 hm hk
theorem cells_keep {x : Str} : ∀ {l : List (Str × NameKind)} {n : Nat} {acc : List (Str × Addr)}, (acc.lookup x).isSome = true → ((cellsFrom n l acc).lookup x).isSome = true
  | [], _, _, h => h
  | (y, k) :: r, n, acc, h => by
    unfold cellsFrom
    split
    · refine cells_keep ?_
      rw [List.lookup_cons]
      cases (x == y)
      · exact h
      · rfl
    · exact cells_keep h
theorem cells_have {x : Str} : ∀ {l : List (Str × NameKind)} {n : Nat} {acc : List (Str × Addr)}, l.lookup x = some .cell → ((cellsFrom n l acc).lookup x).isSome = true
  | [], _, _, h => by cases h
  | (y, k) :: r, n, acc, h => by
    rw [List.lookup_cons] at h
    unfold cellsFrom
    by_cases hx : (x == y) = true
    · rw [hx] at h
      cases h
      rw [if_pos (by decide)]
      refine cells_keep ?_
      rw [List.lookup_cons, hx]; rfl
    · rw [Bool.not_eq_true] at hx
      rw [hx] at h
      split <;> exact cells_have h
theorem cells_of {s s₁ : Shared} {L' : Addr} {m' cm : NsMap} {cells : List (Str × Addr)} (x : InCallC s L' m' cells cm s₁) : ∀ {P : List Str}, P.Nodup →
    ∃ ce : List (Addr × Obj), (∀ p ∈ P, ∀ c, cells.lookup p = some c → ∃ o, (c, o) ∈ ce ∧ o.data = .cell (cm p)) ∧ (∀ q ∈ ce, s₁.heap.get? q.1 = some q.2 ∧ L' < q.1 ∧ ∃ p ∈ P, cells.lookup p = some q.1) ∧ (ce.map (·.1)).Nodup
  | [], _ => ⟨[], (fun p hp => nomatch hp), (fun q hq => nomatch hq), List.nodup_nil⟩
  | p :: P, h => by
    obtain ⟨h1, h2⟩ := List.nodup_cons.mp h
    obtain ⟨ce, a, b, c⟩ := cells_of x h2
    cases hl : cells.lookup p with
    | none =>
      refine ⟨ce, fun p' hp' c' hc' => ?_, fun q hq => ?_, c⟩
      · rcases List.mem_cons.mp hp' with rfl | hp'
        · rw [hl] at hc'; cases hc'
        · exact a p' hp' c' hc'
      · obtain ⟨b1, b2, p', b3, b4⟩ := b q hq
        exact ⟨b1, b2, p', .tail _ b3, b4⟩
    | some d =>
      obtain ⟨o, ho, hd⟩ := x.cell p d hl
      refine ⟨(d, o) :: ce, fun p' hp' c' hc' => ?_, fun q hq => ?_, List.nodup_cons.mpr ⟨fun hm => ?_, c⟩⟩
      · rcases List.mem_cons.mp hp' with rfl | hp'
        · rw [hl] at hc'; cases hc'
          exact ⟨o, .head _, hd⟩
        · obtain ⟨o', e1, e2⟩ := a p' hp' c' hc'
          exact ⟨o', .tail _ e1, e2⟩
      · rcases List.mem_cons.mp hq with rfl | hq
        · exact ⟨ho, x.above p d (lookup_mem hl), p, .head _, hl⟩
        · obtain ⟨b1, b2, p', b3, b4⟩ := b q hq
          exact ⟨b1, b2, p', .tail _ b3, b4⟩
      · obtain ⟨q, hq, e⟩ := List.mem_map.mp hm
        obtain ⟨_, _, p', b3, b4⟩ := b q hq
        rw [e] at b4
        have := name_of_addr x.apart (lookup_mem hl) (lookup_mem b4)
        exact h1 (by rw [this]; exact b3)
end
/-! ## What is known of a def -/
structure FnIs (K : Frag) (a : Addr) (fn : Fn) (o : Obj) (fd : FuncData) : Prop where
  look : K.lookup a = some o
  data : o.data = .func fd
  body : fd.body = .stmts fn.body
  names : fn.names = fd.scope.names
  ps : fn.ps = argNames fd.params
  glob : fd.globals = mainGlobals
  clo : fd.closure = []
  blt : fd.builtins = builtinsNs
  code : codeIn K fd.code fd.qualname = true
  plain : PlainArgs fd.params
  co : fd.scope.isCoroutine = false
  gen : fd.scope.isGenerator = false
  kind : fd.scope.kind = .function
  ok : namesOk fd.scope.names = true
  par : ∀ p ∈ argNames fd.params, fd.scope.names.lookup p = some .local ∨ fd.scope.names.lookup p = some .cell
  dlen : fn.ds.length ≤ fn.ps.length
  dfl : (fn.ds = [] ∧ fd.defaults = .none) ∨ ∃ t ot its nn, fd.defaults = .ref t ∧ K.lookup t = some ot ∧ ot.data = .seq its nn ∧ ∀ as, All2 (VR K as) fn.ds its.toList
theorem map_at {α β : Type} {f g : α → β} : ∀ {l : List α}, l.map f = l.map g → ∀ x ∈ l, f x = g x
  | [], _, x, hx => nomatch hx
  | y :: r, h, x, hx => by
    simp only [List.map_cons, List.cons.injEq] at h
    rcases List.mem_cons.mp hx with rfl | hx
    · exact h.1
    · exact map_at h.2 x hx
theorem vals_ok {K : Frag} : ∀ {ds : List V} {vs : List Value}, (∀ v ∈ ds, ∀ a, v ≠ .top a) → valsOk ds vs = true → ∀ as, All2 (VR K as) ds vs
  | [], [], _, _, as => .nil
  | [], _ :: _, _, h, _ => by cases h
  | _ :: _, [], _, h, _ => by cases h
  | v :: ds, x :: vs, ht, h, as => by
    unfold valsOk at h
    rw [Bool.and_eq_true] at h
    refine .cons ?_ (vals_ok (fun u hu => ht u (.tail _ hu)) h.2 as)
    have h1 := h.1
    unfold valOk at h1
    split at h1
    · exact absurd rfl (ht _ (.head _) _)
    · rw [beq_iff_eq.mp h1]; exact .int
    · exact .none
    · rw [beq_iff_eq.mp h1]; exact .bool
    · cases h1
theorem ds_top : (dsT.all fun p => p.2.all fun v => match v with | .top _ => false | _ => true) = true := by decide +kernel
theorem fn_is {K : Frag} {mg mb : NsMap} {base : Heap} (T : TopOk K mg mb base) {a : Addr} {fn : Fn} (h : fnAt a = some fn) : ∃ o fd, FnIs K a fn o fd := by
  unfold fnAt at h
  obtain ⟨x, hx, h⟩ := Option.bind_eq_some_iff.mp h
  obtain ⟨st, hst, h⟩ := Option.bind_eq_some_iff.mp h
  have hm : (a, x) ∈ fnT := lookup_mem hx
  have hd := map_at T.dat _ hm
  dsimp only at hd
  rw [hst] at hd
  have hp := List.all_eq_true.mp prm_ok _ hm
  dsimp only at hp
  rw [hst] at hp
  split at h
  · rename_i nm p b dl re tc sc doc tp pos
    cases h
    have hf := List.all_eq_true.mp T.fn _ hm
    have hdf := List.all_eq_true.mp T.dfl _ hm
    simp only [Bool.and_eq_true] at hf
    obtain ⟨hk, hf⟩ := hf
    unfold fnData at hd
    split at hd
    · rename_i c d fd sl ho
      rw [ho] at hf hdf
      simp only [Bool.and_eq_true, beq_iff_eq, List.isEmpty_iff] at hf
      have hd' : some (fd.params, fd.body, fd.scope) = some (p, FuncBody.stmts b, sc) := hd
      simp only [Option.some.injEq, Prod.mk.injEq] at hd'
      obtain ⟨rfl, hb, rfl⟩ := hd'
      simp only [Bool.and_eq_true, Bool.not_eq_true', beq_iff_eq, decide_eq_true_eq, plainB, List.isEmpty_iff, Option.isNone_iff_eq_none, List.all_eq_true, Bool.or_eq_true] at hp
      obtain ⟨⟨⟨⟨⟨⟨⟨⟨⟨⟨p1, p2⟩, p3⟩, p4⟩, p5⟩, p6⟩, p7⟩, p8⟩, p9⟩, p10⟩, p11⟩ := hp
      obtain ⟨⟨⟨⟨f1, f2⟩, f3⟩, f4⟩, f5⟩ := hf
      refine ⟨_, fd, ho, rfl, hb, rfl, rfl, f2, f3, f4, by rw [f1]; exact f5, ⟨p1, p2, p3, p4, p5⟩, p6, p7, p8, p9, p10, by simpa using p11, ?_⟩
      dsimp only at hdf ⊢
      split at hdf
      · rename_i e1 e2
        rw [e1, e2]
        exact .inl ⟨rfl, rfl⟩
      · rename_i ds t e1 e2
        rw [e1, e2]
        split at hdf
        · rename_i cc dd its nn ss e3
          refine .inr ⟨t, _, its, nn, rfl, e3, rfl, fun as => vals_ok (fun v hv a' z => ?_) hdf as⟩
          have h1 := List.all_eq_true.mp ds_top _ (lookup_mem e1)
          have h2 := List.all_eq_true.mp h1 v hv
          rw [z] at h2; cases h2
        · cases hdf
      · cases hdf
    · cases hd
  · cases h
/-! ## A call's frame -/
section
variable {K : Frag} {w : World} {prog : Program} {X : Fx} {m m' : NsMap} {ex ex' : List (Addr × Obj)} {XR XR' : XRel} {cs cs₀ : List CO} {μ : Mem} {s : Shared} {mg mb : NsMap} {n : Nat} {h h' : Heap} {k : Kinds} {ρ : Loc} {C : CallT} {env : Env}
def subFx (X : Fx) (m : NsMap) (A : Around) (env : Env) : Fx := { A := A, env := env, outer := X.env :: X.outer, L := env.locals, low := (X.L, m) :: X.low, base := X.base, os := X.os, c0 := X.c0 }
theorem SRh.up {A : Around} (S : SRh K w prog (subFx X m A env) m' (ex' ++ ex) cs μ h) (hsz : X.base.objs.size ≤ X.L) : SRh K w prog X m ex cs μ h := by
  refine ⟨S.stays, (S.low _ (.head _)).1, hsz, fun p hp => S.low p (.tail _ hp), fun q hq => S.led q (by rcases List.mem_append.mp hq with z | z; exact List.mem_append_left _ (List.mem_append_right _ z); exact List.mem_append_right _ z), S.sz, S.fro, S.szs, ?_, S.O⟩
  have hd := S.dist
  refine List.Sublist.nodup ?_ hd
  simp only [subFx, List.map_cons, List.map_append, List.cons_append, List.append_assoc]
  refine List.Sublist.cons _ (List.Sublist.cons_cons _ (List.Sublist.append (List.Sublist.refl _) (List.sublist_append_right _ _)))
theorem Pend.up {A : Around} {sy d : V} {e dx : Addr} {tb : Option Value} (P : Pend K w prog (subFx X m A env) m' (ex' ++ ex) cs μ sy d e dx tb h) (hsz : X.base.objs.size ≤ X.L) : Pend K w prog X m ex cs μ sy d e dx tb h := by
  obtain ⟨S, ⟨oe, vs, v, h1, h2, h3, h4, h5, h6⟩, fl, edx, eb, db, ea, da⟩ := P
  have sub : ∀ {x : Addr}, x ∈ (ex ++ nw cs).map (·.1) → x ∈ ((ex' ++ ex) ++ nw cs).map (·.1) := fun hx => by
    rw [List.append_assoc, List.map_append]; exact List.mem_append_right _ hx
  refine ⟨S.up hsz, ⟨oe, vs, v, h1, h2, h3, h4, h5, ?_⟩, fl, edx, eb, db, fun z => ea (sub z), fun z => da (.tail _ z)⟩
  cases tb with
  | none => exact h6
  | some f =>
    obtain ⟨Ta, oT, ts, a1, a2, a3, a4, a5, a6, a7, a8⟩ := h6
    exact ⟨Ta, oT, ts, a1, a2, a3, a4, a5, a6, fun z => a7 (sub z), a8⟩
theorem SRh.old (S : SRh K w prog X m ex cs μ h) {a : Addr} (ha : a ∈ X.L :: X.low.map (·.1) ++ (ex ++ nw cs).map (·.1)) : a < h.objs.size := by
  rcases List.mem_append.mp ha with z | z
  · rcases List.mem_cons.mp z with rfl | z
    · obtain ⟨o, _, _, ho, _⟩ := S.ns; exact Heap.lt_size ho
    · obtain ⟨p, hp, rfl⟩ := List.mem_map.mp z
      obtain ⟨o, _, _, ho, _⟩ := (S.low p hp).1; exact Heap.lt_size ho
  · obtain ⟨p, hp, rfl⟩ := List.mem_map.mp z
    exact Heap.lt_size (S.led p hp).1
theorem zip_at {as : List Addr} {y : Str} {u : V} : ∀ {P : List Str} {full : List V} {vals : List Value}, All2 (VR K as) full vals → (P.zip full).lookup y = some u → ∃ val, (y, val) ∈ P.zip vals ∧ VR K as u val
  | [], _, _, _, h => by simp at h
  | _ :: _, _, _, .nil, h => by simp at h
  | p :: P, _, _, .cons (a := a) (b := b) x z, h => by
    rw [List.zip_cons_cons, List.lookup_cons] at h
    by_cases hy : (y == p) = true
    · rw [hy] at h; cases h
      rw [eq_of_beq hy]
      exact ⟨b, .head _, x⟩
    · rw [Bool.not_eq_true] at hy
      rw [hy] at h
      obtain ⟨v, h1, h2⟩ := zip_at z h
      exact ⟨v, .tail _ h1, h2⟩
theorem all2_len {α β : Type} {R : α → β → Prop} {l : List α} {r : List β} (h : All2 R l r) : l.length = r.length := h.length
theorem enter0 (T : FxOk K mg mb (n + 1) X) (A : Around) (hA : A.frames = X.A.frames) (hA2 : A.depth ≤ X.A.depth + 1) (hA3 : A.units ≤ X.A.units + 4) (hA4 : A.handled = none)
    (S : SR K w prog X m ex cs μ s) {a : Addr} {fn : Fn} {o : Obj} {fd : FuncData} {vargs : List Value} (F : FnIs K a fn o fd) (hlen : vargs.length ≤ fn.ps.length ∧ fn.ps.length - vargs.length ≤ fn.ds.length) {R : Result → Shared → Prop}
    (body : ∀ env ce m' s' dv, (∀ as, All2 (VR K as) fn.ds dv) → (∀ b o, s.heap.get? b = some o → s'.heap.get? b = some o) → (s.heap.get? env.locals = none ∧ ∀ q ∈ ce, s.heap.get? q.1 = none) → FxOk K mg mb n (subFx X m (A.deeper env) env) → BodyOk (subFx X m (A.deeper env) env) fn.names → SR K w prog (subFx X m (A.deeper env) env) m' (ce ++ ex) cs μ s' →
      (∀ y val, (y, val) ∈ fn.ps.zip (vargs ++ dv.drop (fn.ds.length - (fn.ps.length - vargs.length))) → NameAt (subFx X m (A.deeper env) env) m' (ce ++ ex) env y val) →
      wpAny (model prog w) (A.deeper env) (execs fn.body env) (fun f s' => R (.ok (.ret (match f with | .ret v => v | _ => .none))) s')
        (fun e s' => wpAny (model prog w) (A.deeper env) (leaving env e) (fun _ s'' => R (.error e) s'') (fun e' s'' => R (.error e') s'') s') s') :
    codeAny (model prog w) A (.call (.ref a) ⟨vargs, []⟩) R s := by
  have X' := T.top.inb.keeps S.1.stays
  have hroom : A.depth < recursionLimit := by have := T.depth; omega
  have hlim := T.top.nolimit
  rw [F.ps] at hlen
  have fin : ∀ dv : List Value, (∀ as, All2 (VR K as) fn.ds dv) → (∀ Q' : Option (Array Value) → Shared → Prop, (∀ x, (x.getD #[]).toList = dv → Q' x s) → wpAny (model prog w) A.in1 (seqItems? fd.defaults) Q' (fun e s' => R (.error e) s') s) →
      codeAny (model prog w) A (.call (.ref a) ⟨vargs, []⟩) R s := fun dv hdv hseq => by
      refine codeAny_call_function hroom (X' _ _ F.look) F.data F.co F.gen F.body (codeRec_of X' F.code) ?_
      have hdl := F.dlen
      rw [F.ps] at hdl
      have hdvl := (hdv []).length
      refine bind_plain F.plain hseq (by omega) (by omega) (by omega) ?_
      rw [F.clo]
      have hlenF : (argNames fd.params).length = (vargs ++ dv.drop (dv.length - ((argNames fd.params).length - vargs.length))).length := by
        rw [List.length_append, List.length_drop]; omega
      have body' := fun env ce m' s' => body env ce m' s' dv hdv
      rw [F.ps, hdvl] at body'
      generalize vargs ++ dv.drop (dv.length - ((argNames fd.params).length - vargs.length)) = vals at hlenF body' ⊢
      have hnames : ((argNames fd.params).zip vals).map (·.1) = argNames fd.params := by rw [List.map_fst_zip]; omega
      refine wpAny_newFunctionEnv_cells F.kind (fun x hx => ?_) fun env he s' x => ?_
      · have hp : x.1 ∈ argNames fd.params := (List.of_mem_zip hx).1
        rcases F.par _ hp with z | z
        · exact .inl z
        · exact .inr ⟨z, cells_have z⟩
      subst he
      obtain ⟨h', tk, rfl⟩ := x.toInCall.same
      have keep := x.toInCall.keep
      dsimp only at keep
      have ndn : (((argNames fd.params).zip vals).map (·.1)).Nodup := by rw [hnames]; exact F.plain.nd
      obtain ⟨ce, c1, c2, c3⟩ := cells_of x (P := argNames fd.params) F.plain.nd
      refine ⟨hlim.keeps fun b o e => keep _ _ (S.1.stays b o e), codeAny_func ?_⟩
      refine body' _ ce _ _ keep ⟨Heap.get?_none_of_le (Nat.le_refl _), fun q hq => Heap.get?_none_of_le (Nat.le_of_lt (c2 q hq).2.1)⟩ ⟨T.top, ?_, rfl, F.kind, .cons ⟨T.frame, T.kind⟩ T.low, ?_, ?_, hA4⟩ ⟨⟨fun y q hq _ => ?_, F.kind, F.glob, F.blt, by rw [F.names]; exact F.ok⟩, rfl⟩ ⟨⟨?_, x.toInCall.ns, S.1.size_le, ?_, ?_, S.1.sz, S.1.fro, S.1.szs, ?_, S.1.O⟩, S.2⟩ ?_
      · show A.frames.map _ = _
        rw [hA, T.frames]; rfl
      · show A.depth + 1 + 2 * n + 8 < recursionLimit
        have := T.depth; omega
      · show A.units + 3 + 8 * n + 40 < cLine
        have := T.units; omega
      · rw [F.names] at hq; exact hq
      · exact fun b o e => keep _ _ (S.1.stays b o e)
      · intro p hp
        rcases List.mem_cons.mp hp with rfl | hp
        · exact ⟨S.1.ns.keeps keep, S.1.baseNone⟩
        · exact ⟨(S.1.low p hp).1.keeps keep, (S.1.low p hp).2⟩
      · intro q hq
        rw [List.append_assoc] at hq
        rcases List.mem_append.mp hq with z | z
        · obtain ⟨g1, g2, _⟩ := c2 q z
          have g3 : s.heap.objs.size ≤ q.1 := Nat.le_of_lt g2
          exact ⟨g1, S.1.baseFresh g3, fun e => by rw [e] at g3; exact Nat.lt_irrefl _ (Nat.lt_of_lt_of_le S.1.sz (Nat.le_trans S.1.size_le g3))⟩
        · exact ⟨keep _ _ (S.1.led q z).1, (S.1.led q z).2⟩
      · show (s.heap.objs.size :: (X.L :: X.low.map (·.1)) ++ ((ce ++ ex) ++ nw cs).map (·.1)).Nodup
        rw [List.append_assoc, List.map_append, ← List.append_assoc]
        have hperm : (s.heap.objs.size :: (X.L :: X.low.map (·.1)) ++ ce.map (·.1) ++ (ex ++ nw cs).map (·.1)).Perm ((s.heap.objs.size :: ce.map (·.1)) ++ ((X.L :: X.low.map (·.1)) ++ (ex ++ nw cs).map (·.1))) := by
          rw [← List.append_assoc]
          refine List.Perm.append_right _ ?_
          exact (List.perm_append_comm (l₁ := X.L :: X.low.map (·.1)) (l₂ := ce.map (·.1))).cons _
        rw [hperm.nodup_iff]
        refine List.nodup_append.mpr ⟨List.nodup_cons.mpr ⟨fun hm => ?_, c3⟩, S.1.dist, fun u hu v hv e => ?_⟩
        · obtain ⟨q, hq, e⟩ := List.mem_map.mp hm
          have g2 := (c2 q hq).2.1
          rw [e] at g2
          exact Nat.lt_irrefl _ g2
        · subst e
          have h1 := S.1.old hv
          rcases List.mem_cons.mp hu with rfl | hu
          · exact Nat.lt_irrefl _ h1
          · obtain ⟨q, hq, e⟩ := List.mem_map.mp hu
            have g2 : s.heap.objs.size < q.1 := (c2 q hq).2.1
            rw [e] at g2
            exact Nat.lt_irrefl _ (Nat.lt_trans h1 g2)
      · intro y val hm
        have hp : y ∈ argNames fd.params := (List.of_mem_zip hm).1
        rcases F.par y hp with hk | hk
        · exact .loc rfl hk (bindL_at ndn hm hk)
        · obtain ⟨c, hc⟩ := Option.isSome_iff_exists.mp (cells_have (n := s.heap.objs.size + 1) (acc := []) hk)
          obtain ⟨oc, e1, e2⟩ := c1 y hp c hc
          exact .cell (.inl hk) hc (List.mem_append_left _ e1) (by rw [e2, bindC_at ndn hm (by rw [show Env.kindOf _ y = fd.scope.names.lookup y from rfl, hk]; decide)])
  rcases F.dfl with ⟨h1, h2⟩ | ⟨t, ot, its, nn, h1, h2, h3, h4⟩
  · refine fin [] (fun _ => by rw [h1]; exact .nil) fun Q' q => ?_
    rw [h2]
    exact wpAny_bind (wpAny_pure (wpAny_pure (q _ rfl)))
  · refine fin its.toList h4 fun Q' q => ?_
    rw [h1]
    unfold seqItems?
    refine wpAny_bind (wpAny_load (X' _ _ h2) ?_)
    rw [h3]
    exact wpAny_pure (q _ rfl)
theorem enter (T : FxOk K mg mb (n + 1) X) (A : Around) (hA : A.frames = X.A.frames) (hA2 : A.depth ≤ X.A.depth + 1) (hA3 : A.units ≤ X.A.units + 4) (hA4 : A.handled = none)
    (S : SR K w prog X m ex cs μ s) {a : Addr} {fn : Fn} {args : List V} {vargs : List Value} (hf : fnAt a = some fn) (hargs : All2 (VR K (adr cs)) args vargs) (hb : bindA fn.ps fn.ds args = some ρ) {R : Result → Shared → Prop}
    (body : ∀ env ce m' s', FxOk K mg mb n (subFx X m (A.deeper env) env) → BodyOk (subFx X m (A.deeper env) env) fn.names → SR K w prog (subFx X m (A.deeper env) env) m' (ce ++ ex) cs μ s' → LR K (subFx X m (A.deeper env) env) (ce ++ ex) env m' (adr cs) ρ →
      wpAny (model prog w) (A.deeper env) (execs fn.body env) (fun f s' => R (.ok (.ret (match f with | .ret v => v | _ => .none))) s')
        (fun e s' => wpAny (model prog w) (A.deeper env) (leaving env e) (fun _ s'' => R (.error e) s'') (fun e' s'' => R (.error e') s'') s') s') :
    codeAny (model prog w) A (.call (.ref a) ⟨vargs, []⟩) R s := by
  obtain ⟨o, fd, F⟩ := fn_is T.top hf
  unfold bindA at hb
  split at hb
  · rename_i hlen
    cases hb
    have hal := hargs.length
    rw [hal] at hlen
    refine enter0 T A hA hA2 hA3 hA4 S F hlen fun env ce m' s' dv hdv _ _ T' B' S' hN => body env ce m' s' T' B' S' fun y u hy => ?_
    rw [hal] at hy
    obtain ⟨val, hm, hv⟩ := zip_at (hargs.append ((hdv _).drop _)) hy
    exact ⟨val, hv, hN y val hm⟩
  · cases hb
end
/-! ## A def called -/
section
variable {K : Frag} {w : World} {prog : Program} {X : Fx} {m m' : NsMap} {ex ex' : List (Addr × Obj)} {XR XR' : XRel} {cs cs₀ : List CO} {μ : Mem} {s : Shared} {mg mb : NsMap} {n : Nat} {h h' : Heap} {k : Kinds} {ρ : Loc} {C : CallT} {env : Env}
theorem fn_code (T : FxOk K mg mb (n + 1) X) (HB : ∀ X', FxOk K mg mb n X' → ∀ ex k, BodyOk X' k → ∀ body, PSs K w prog X' ex k C body) (A : Around) (hA : A.frames = X.A.frames) (hA2 : A.depth ≤ X.A.depth + 1) (hA3 : A.units ≤ X.A.units + 4) (hA4 : A.handled = none)
    {a : Addr} {fn : Fn} (hf : fnAt a = some fn) {args : List V} {vargs : List Value} (S : SR K w prog X m ex cs μ s) (hargs : All2 (VR K (adr cs)) args vargs) {r : Out V × Mem} (e : runFn C fn args μ = some r) {Q : Value → Shared → Prop} {E : Value → Shared → Prop} (p : Post K w prog X ex cs (XO K w prog X ex) (VQ K m) Q E r) :
    codeAny (model prog w) A (.call (.ref a) ⟨vargs, []⟩) (fun r s' => match r with | .ok (.ret v) => Q v s' | .ok _ => False | .error e => E e s') s := by
  unfold runFn at e
  cases hb : bindA fn.ps fn.ds args with
  | none => rw [hb] at e; cases e
  | some ρ =>
    rw [hb] at e
    have e' : bnd (exSs C fn.names fn.body ρ) (fun r => ret (r.1.getD .none)) μ = some r := e
    refine enter T A hA hA2 hA3 hA4 S hf hargs hb fun env ce m' s' T' B' S' L' => ?_
    rcases bnd_some e' with ⟨sy, d, μ', z, rfl⟩ | ⟨q, μ', z, e⟩
    · refine HB _ T' (ce ++ ex) _ B' fn.body m' cs ρ L' cs μ s' _ _ _ (Grow.refl _) S' z fun s'' cs'' m'' e' g'' hx => ?_
      obtain ⟨⟨dx, tb, P⟩, hg, hos⟩ := hx
      exact pend_leave T' P fun h'' P' => p { s'' with heap := h'' } cs'' m e' g'' ⟨⟨dx, _, P'.up S.1.above⟩, hg, hos⟩
    · cases e
      refine HB _ T' (ce ++ ex) _ B' fn.body m' cs ρ L' cs μ s' _ _ _ (Grow.refl _) S' z fun s'' cs'' m'' f g'' S'' hx => ?_
      obtain ⟨o, ρ'⟩ := q
      obtain ⟨_, h2⟩ := hx
      cases o with
      | none =>
        cases (show f = .next from h2)
        exact p s'' cs'' m _ g'' ⟨S''.1.up S.1.above, S''.2⟩ ⟨rfl, .none⟩
      | some v =>
        obtain ⟨vv, h3, h4⟩ := h2
        cases (show f = .ret vv from h3)
        exact p s'' cs'' m _ g'' ⟨S''.1.up S.1.above, S''.2⟩ ⟨rfl, h4⟩
theorem fn_snd (T : FxOk K mg mb (n + 1) X) (HB : ∀ X', FxOk K mg mb n X' → ∀ ex k, BodyOk X' k → ∀ body, PSs K w prog X' ex k C body) {a : Addr} {fn : Fn} (hf : fnAt a = some fn) {args : List V} {vargs : List Value}
    (hargs : All2 (VR K (adr cs₀)) args vargs) : Snd K w prog X ex (XO K w prog X ex) m cs₀ (call (.ref a) vargs []) (runFn C fn args) (VQ K m) := fun cs μ s r Q E g S e p =>
  wpAny_call (fn_code T HB X.A rfl (Nat.le_succ _) (Nat.le_add_right _ _) T.hnd hf S (hargs.mono fun _ _ z => z.grow g) e p)
end
/-! ## A class called -/
section
variable {K : Frag} {w : World} {prog : Program} {X : Fx} {m m' : NsMap} {ex ex' : List (Addr × Obj)} {XR XR' : XRel} {cs cs₀ : List CO} {μ : Mem} {s : Shared} {mg mb : NsMap} {n : Nat} {h h' : Heap} {k : Kinds} {ρ : Loc} {C : CallT} {env : Env}
theorem under_new {A : Around} {a : Addr} {l : List Value} : (A.under (.builtin "type.__call__" ⟨.ref a :: l, []⟩)).frames = A.frames ∧ (A.under (.builtin "type.__call__" ⟨.ref a :: l, []⟩)).depth ≤ A.depth + 1 ∧ (A.under (.builtin "type.__call__" ⟨.ref a :: l, []⟩)).units ≤ A.units + 4 ∧ (A.under (.builtin "type.__call__" ⟨.ref a :: l, []⟩)).handled = A.handled :=
  ⟨rfl, Nat.le_refl _, Nat.add_le_add_left (show 1 + 3 * 0 ≤ 4 by decide) _, rfl⟩
theorem push2 (S : SRh K w prog X m ex cs μ h) {a : Addr} : SRh K w prog X m ex (cs ++ [⟨h.objs.size + 1, instObj a h.objs.size, some (h.objs.size, emptyDict)⟩]) (μ ++ [.inst a []]) ((h.push emptyDict).push (instObj a h.objs.size)) := by
  refine S.more rfl (fun b o hb => Heap.get?_push_of_some _ (Heap.get?_push_of_some _ hb)) (fun q hq => ?_) (by simp [CO.ents]) ⟨h.objs.size, [], 0, rfl, rfl, rfl, rfl, .nil, fun _ => rfl⟩
  simp only [CO.ents, Option.toList_some, List.mem_cons, List.not_mem_nil, or_false] at hq
  rcases hq with rfl | rfl
  · exact ⟨by heap_get, Nat.le_succ _⟩
  · exact ⟨Heap.get?_push_of_some _ (Heap.get?_push_size _ rfl), Nat.le_refl _⟩
theorem cls_snd (T : FxOk K mg mb (n + 1) X) (HB : ∀ X', FxOk K mg mb n X' → ∀ ex k, BodyOk X' k → ∀ body, PSs K w prog X' ex k C body) {a i : Addr} {fn : Fn} (hm : methT a "__init__" = some i) (hf : fnAt i = some fn) {args : List V} {vargs : List Value}
    (hargs : All2 (VR K (adr cs₀)) args vargs) : Snd K w prog X ex (XO K w prog X ex) m cs₀ (call (.ref a) vargs []) (bnd (newM (.inst a [])) fun v => bnd (runFn C fn (v :: args)) fun
      | .none => ret v
      | _ => stuck) (VQ K m) := fun cs μ s r Q E g S e p => by
  have X' := T.top.inb.keeps S.1.stays
  unfold methT at hm
  cases hcl : clT.lookup a with
  | none => rw [hcl] at hm; cases hm
  | some fm =>
    rw [hcl] at hm
    obtain ⟨fl, ml⟩ := fm
    have CO := cls_ok T.top.cl hcl
    have hme := CO.meth ("__init__", i) (lookup_mem hm)
    have e : bnd (runFn C fn (.ref μ.length :: args)) (fun x => match x with | .none => ret (.ref μ.length) | _ => stuck) (μ ++ [.inst a []]) = some r := e
    obtain ⟨u1, u2, u3, u4⟩ := under_new (A := X.A) (a := a) (l := vargs)
    obtain ⟨hh, gg, d, tk, os⟩ := s
    refine wpAny_call (make_core (makes_of X' CO.makes) (looks_findIn X' hme.1) (fun self => bind_fn X' self (beq_iff_eq.mp hme.2)) (.inl rfl) ?_)
    have hlen : μ.length = cs.length := S.1.O.length
    have S2 : SR K w prog X m ex _ _ ⟨(hh.push emptyDict).push (instObj a hh.objs.size), gg, d, tk, os⟩ := ⟨push2 S.1, S.2⟩
    have g2 := adr_push cs ⟨hh.objs.size + 1, instObj a hh.objs.size, some (hh.objs.size, emptyDict)⟩
    have hv : VR K (adr (cs ++ [⟨hh.objs.size + 1, instObj a hh.objs.size, some (hh.objs.size, emptyDict)⟩])) (.ref μ.length) (.ref (hh.objs.size + 1)) := by rw [hlen]; exact .ref (adr_last _ _)
    have hargs2 := hargs.mono fun _ _ z => VR.grow (g.trans g2) z
    obtain ⟨r0, z, p0⟩ : ∃ r0, runFn C fn (.ref μ.length :: args) (μ ++ [.inst a []]) = some r0 ∧ Post K w prog X ex (cs ++ [⟨hh.objs.size + 1, instObj a hh.objs.size, some (hh.objs.size, emptyDict)⟩]) (XO K w prog X ex) (VQ K m) (fun v s' => v = .none ∧ Q (.ref (hh.objs.size + 1)) s') E r0 := by
      rcases bnd_some e with ⟨sy, dd, μ', z, rfl⟩ | ⟨v, μ', z, e⟩
      · exact ⟨_, z, fun s' cs' m' e' g' hx => p s' cs' m' e' (g2.trans g') hx⟩
      · cases v with
        | none =>
          cases e
          refine ⟨_, z, fun s' cs' m' a' g' S' hx => ?_⟩
          obtain ⟨rfl, hv'⟩ := hx
          exact ⟨hv'.none_inv, p s' cs' _ _ (g2.trans g') S' ⟨rfl, hv.grow g'⟩⟩
        | _ => cases e
    refine codeAny_mono (fn_code T HB _ u1 u2 u3 (u4.trans T.hnd) hf S2 (.cons hv hargs2) z p0) fun r s' hr => ?_
    rcases r with er | (_ | _ | _ | v)
    · exact hr
    · exact hr
    · exact hr
    · exact hr
    · exact hr
end
/-! ## The own exception: its class, a first store -/
structure ExcIs (K : Frag) (nm q : Str) (bs : List Value) (sn : List Str) (sub : List Value) (ab : Bool) (col : Option Bool) (dd : Option Addr) (k0 k1 k2 k3 k5 : Option Value) (mN : NsMap) : Prop where
  cls : K.lookup 483 = some (excClassObj nm q 483 482 bs excMro true sn sub ab col dd k0 k1 k2 k3 k5 "Exception.__new__")
  ns : ∀ h : Heap, K.In h → h.Ns 482 mN
  init : mN "__init__" = some (.ref 480)
  set : mN "__setattr__" = none
  sym : mN "symbol" = none
  dat : mN "data" = none
  ga : mN "__getattribute__" = none
  gat : mN "__getattr__" = none
  fn : ∃ o, K.lookup 480 = some o ∧ o.cls = .type "function"
  keep : keepIn K (.ref 483) = true
theorem exc_is {K : Frag} (h : excOk K = true) : ∃ nm q bs sn sub ab col dd k0 k1 k2 k3 k5 mN, ExcIs K nm q bs sn sub ab col dd k0 k1 k2 k3 k5 mN := by
  unfold excOk at h
  simp only [Bool.and_eq_true] at h
  obtain ⟨⟨⟨h1, h2⟩, h3⟩, h4⟩ := h
  split at h1
  · rename_i t dd cd k0 k1 k2 k3 nw k5 ho
    simp only [Bool.and_eq_true, beq_iff_eq, Bool.not_eq_true'] at h1
    obtain ⟨⟨⟨⟨⟨rfl, rfl⟩, e1⟩, e2⟩, e3⟩, e4⟩ := h1
    split at h2
    · rename_i c2 d2 es ep sl2 ho2
      simp only [Bool.and_eq_true, beq_iff_eq, List.all_cons, List.all_nil, Bool.and_true] at h2
      obtain ⟨⟨a1, a2⟩, a3, a4, a5, a6, a7⟩ := h2
      split at h3
      · rename_i o3 ho3
        obtain ⟨nm, bs, mro, ns, q, hdct, sn, sub, ab, col, hdel⟩ := cd
        dsimp only at e1 e2 e3 e4
        subst e1 e2 e3 e4
        refine ⟨nm, q, bs, sn, sub, ab, col, dd, k0, k1, k2, k3, k5, nsFind es, ho, fun h X => ⟨_, es, ep, X _ _ ho2, rfl, fun e he => ?_, fun _ => rfl⟩, a2, a3, a4, a5, a6, a7, ⟨o3, ho3, beq_iff_eq.mp h3⟩, h4⟩
        have := Array.all_eq_true_iff_forall_mem.mp a1 e he
        unfold isStrKey at this
        split at this
        · rename_i n t hk; exact ⟨n, t, hk⟩
        · cases this
      · cases h3
    · cases h2
  · cases h1
theorem x_sym : typeLookup (.type "Exception") "symbol" = pure none := by rw [typeLookup_type, builtinLookup_eq_fast]; kernel_rfl
theorem x_dat : typeLookup (.type "Exception") "data" = pure none := by rw [typeLookup_type, builtinLookup_eq_fast]; kernel_rfl
section
variable {prog : Program} {w : World} {A : Around} {E : Value → Shared → Prop} {h : Heap} {g : Array GenState} {d : Drawn} {t : Nat} {os : OsState}
variable {nm q : Str} {C N x : Addr} {bs bm : List Value} {sn : List Str} {sub : List Value} {ab : Bool} {col : Option Bool} {dd : Option Addr} {k0 k1 k2 k3 k5 : Option Value} {B newId sa owner : String}
  {mN mA : Str → Option Value} {name : Str} {v : Value}
theorem first_store {o : Obj} {Q : Unit → Shared → Prop} (SF : StoreFacts B bm sa owner) (hC : h.get? C = some (excClassObj nm q C N bs bm true sn sub ab col dd k0 k1 k2 k3 k5 newId)) (hn : h.Ns N mN) (hns : mN "__setattr__" = none) (hna : mN name = none)
    (hB : typeLookup (.type B) name = pure none) (hx : h.get? x = some o) (hc : o.cls = .ref C) (hnc : ∀ c, o.data ≠ .cls c) (hdn : o.dict = none)
    (hq : ∀ h' tk', h'.get? x = some { o with dict := some h.objs.size } → h'.Ns1 h.objs.size (fun y => if y = name then some v else none) → (∀ b ob, b ≠ x → h.get? b = some ob → h'.get? b = some ob) → Q () ⟨h', g, d, tk', os⟩) :
    wpAny (model prog w) A (setAttr (.ref x) name v) Q E ⟨h, g, d, t, os⟩ := by
  have f3 := SF.slot.bind (.ref x)
  have hpass := SF.passes (.ref x)
  unfold setAttr callSpecial? specialOf
  repeat (any_goals (first | assumption | (with_reducible refine wpAny_loadPart_at hx ?_; rw [hc]) | (with_reducible refine wpAny_typeLookup_exc hC hn SF.mro SF.slot.lookup ?_; rw [hns]) | wp_step))
  refine codeAny_call_builtin SF.slot.plain SF.entry (wpAny_check_sa SF hC hx hc ?_)
  unfold Builtin.«object.__setattr__»
  repeat (first | rw [refuse_eq] | (rw [refuseLoop_ref, hpass]) | (with_reducible refine wpAny_loadPart_at hx ?_; rw [hc]) | with_reducible refine wpAny_mroOf_exc hC ?_ | (with_reducible refine wpAny_typeLookup_exc hC hn SF.mro hB ?_; rw [hna]) | wp_step)
  rw [hdn, if_neg (by simp [typeHasDict])]
  split
  · rename_i hcd; cases hcd
  split
  · rename_i c hcd; exact absurd hcd (hnc c)
  have hx1 : (h.push emptyDict).get? x = some o := Heap.get?_push_of_some _ hx
  have hxs : x ≠ h.objs.size := Nat.ne_of_lt (Heap.lt_size hx)
  refine wpAny_bind (wpAny_alloc' ?_)
  refine wpAny_bind (wpAny_update' hx1 ?_)
  refine wpAny_pure ?_
  have hgd : ((h.push emptyDict).update x fun o => { o with dict := some h.objs.size }).get? h.objs.size = some emptyDict := (Heap.get?_update_ne _ _ _ _ hxs.symm).trans (Heap.get?_push_at rfl rfl)
  have hnd : ((h.push emptyDict).update x fun o => { o with dict := some h.objs.size }).Ns h.objs.size (fun _ => none) := ⟨_, #[], _, hgd, rfl, fun e he => absurd he (by simp), fun _ => rfl⟩
  show wpAny _ _ (Builtin.ObjectAttr.storeInDict h.objs.size (.str name t) name v) _ _ _
  unfold Builtin.ObjectAttr.storeInDict Builtin.ObjectAttr.newKeyGuard
  refine wpAny_bind (wpAny_pure (wpAny_bind (wpAny_nsSet1 (Heap.Ns1.of_empty hnd) fun h' hn' hs => ?_)))
  obtain ⟨oD, esD, epD, hoD, hdD, hcD⟩ := hn'.count (Within.cons name v Within.nil)
  refine wpAny_bind (wpAny_lookBehind hoD (by rw [hdD]; exact pastItsLine_dict (Nat.le_trans hcD (by rw [List.length_cons, List.length_nil, sizeLine_eq]; omega))) ?_)
  refine wpAny_pure (wpAny_pure (wpAny_pure (hq h' _ ?_ hn' fun b ob hb hob => ?_)))
  · refine (hs.2 x hxs).trans (Heap.get?_update_self _ hx1 ?_)
    have hfr := (Heap.get?_some_iff.mp hx).2
    obtain ⟨oc, od, odt, osl⟩ := o
    cases odt <;> first | rfl | exact hfr
  · exact (hs.2 b (Nat.ne_of_lt (Heap.lt_size hob))).trans ((Heap.get?_update_ne _ _ _ _ hb).trans (Heap.get?_push_of_some _ hob))
end
/-! ## The own exception made -/
theorem fn480 : ∃ fn p1 p2 p3 p4 p5 p6 p7 p8, fnAt 480 = some fn ∧ fn.ps = ([("self" : Str), ("symbol" : Str), ("data" : Str)] : List Str) ∧ fn.ds = [] ∧ fn.names = ([(("self" : Str), NameKind.local), (("symbol" : Str), NameKind.local), (("data" : Str), NameKind.local)] : Kinds) ∧
    fn.body = [.Assign [.Attribute (.Name "self" p1) "symbol" p2] (.Name "symbol" p3) p4, .Assign [.Attribute (.Name "self" p5) "data" p6] (.Name "data" p7) p8] :=
  ⟨_, _, _, _, _, _, _, _, _, rfl, rfl, rfl, rfl, rfl⟩
section
variable {K : Frag} {w : World} {prog : Program} {X : Fx} {m m' : NsMap} {ex ex' : List (Addr × Obj)} {XR XR' : XRel} {cs cs₀ : List CO} {μ : Mem} {s : Shared} {mg mb : NsMap} {n : Nat} {h h' : Heap} {k : Kinds} {ρ : Loc} {C : CallT} {env : Env}
theorem SRh.but (S : SRh K w prog X m ex cs μ h) {e dx : Addr} (hk : ∀ b o, b ≠ e → b ≠ dx → h.get? b = some o → h'.get? b = some o) (eb : X.base.get? e = none) (db : X.base.get? dx = none)
    (ea : e ∉ X.L :: X.low.map (·.1) ++ (ex ++ nw cs).map (·.1)) (da : dx ∉ X.L :: X.low.map (·.1) ++ (ex ++ nw cs).map (·.1)) : SRh K w prog X m ex cs μ h' := by
  have ns : ∀ {a : Addr} {m' : NsMap}, a ∈ X.L :: X.low.map (·.1) ++ (ex ++ nw cs).map (·.1) → h.Ns a m' → h'.Ns a m' := fun ha ⟨o, es, ep, ho, r⟩ => ⟨o, es, ep, hk _ _ (fun z => ea (z ▸ ha)) (fun z => da (z ▸ ha)) ho, r⟩
  refine ⟨fun b o q => hk b o (fun z => by rw [z, eb] at q; cases q) (fun z => by rw [z, db] at q; cases q) (S.stays b o q), ns (.head _) S.ns, S.above, fun p hp => ⟨ns (List.mem_append_left _ (.tail _ (List.mem_map_of_mem hp))) (S.low p hp).1, (S.low p hp).2⟩, fun q hq => ⟨?_, (S.led q hq).2⟩, S.sz, S.fro, S.szs, S.dist, S.O⟩
  have hm : q.1 ∈ X.L :: X.low.map (·.1) ++ (ex ++ nw cs).map (·.1) := List.mem_append_right _ (List.mem_map_of_mem hq)
  exact hk _ _ (fun z => ea (z ▸ hm)) (fun z => da (z ▸ hm)) (S.led q hq).1
theorem SRh.here (S : SRh K w prog X m ex cs μ h) {a : Addr} (ha : a ∈ X.L :: X.low.map (·.1) ++ (ex ++ nw cs).map (·.1)) : ∃ o, h.get? a = some o := by
  rcases List.mem_append.mp ha with z | z
  · rcases List.mem_cons.mp z with rfl | z
    · obtain ⟨o, _, _, ho, _⟩ := S.ns; exact ⟨o, ho⟩
    · obtain ⟨p, hp, rfl⟩ := List.mem_map.mp z
      obtain ⟨o, _, _, ho, _⟩ := (S.low p hp).1; exact ⟨o, ho⟩
  · obtain ⟨p, hp, rfl⟩ := List.mem_map.mp z
    exact ⟨_, (S.led p hp).1⟩
theorem asg_attr (eo : EnvOk X.env k) (S : SR K w prog X m ex cs μ s) {x y f : Str} {p1 p2 p3 p4 : Pos} {vo vv : Value} {Q : Flow → Shared → Prop} {E : Value → Shared → Prop} (hx : NameAt X m ex X.env x vo) (hy : NameAt X m ex X.env y vv)
    (bx : (x == ("__debug__" : Str)) = false ∧ (x == ("__classdict__" : Str)) = false) (bY : (y == ("__debug__" : Str)) = false ∧ (y == ("__classdict__" : Str)) = false)
    (q : wpAny (model prog w) X.A (setAttr vo f vv) (fun _ s' => Q .next s') E s) : wpAny (model prog w) X.A (exec (.Assign [.Attribute (.Name x p1) f p2] (.Name y p3) p4) X.env) Q E s := by
  rw [arm_exec_Assign]
  refine wpAny_bind (wpAny_standAt ?_)
  have h1 : swapsWithSole [.Attribute (.Name x p1) f p2] (.Name y p3) p4.line X.env = pure false := swaps_not (t := some (.Attribute (.Name x p1) f p2)) (l := p4.line) (env := X.env) (show notComp (.Name y p3) = true from rfl)
  rw [h1, pure_bind, if_neg (by decide)]
  refine wpAny_bind (name_own eo S hy bY ?_)
  have hsw : swapT k (.Attribute (.Name x p1) f p2) (.Name y p3) = some none := rfl
  rw [(swapT_ok eo hsw).1, pure_bind]
  show wpAny _ _ (assign (.Attribute (.Name x p1) f p2) X.env vv >>= fun _ => pure Flow.next) _ _ _
  rw [arm_assign_Attribute]
  refine wpAny_bind (wpAny_bind (wpAny_holding (name_own eo S hx bx ?_)))
  refine wpAny_bind (wpAny_standAt (wpAny_bind (wpAny_holding (wpAny_mono q (fun _ s' hq => ?_) fun _ _ z => z))))
  exact wpAny_release (wpAny_pure hq)
theorem exc_made (T : FxOk K mg mb (n + 1) X) (S : SR K w prog X m ex cs μ s) {sy d : V} {vs vd : Value} (hs : VR K (adr cs) sy vs) {Q : Value → Shared → Prop} {E : Value → Shared → Prop}
    (q : ∀ s' e dx, Pend K w prog X m ex cs μ sy d e dx none s'.heap → s'.gens = #[] → s'.os = X.os → Q (.ref e) s') : wpAny (model prog w) X.A (call (.ref 483) [vs, vd] []) Q E s := by
  have X' := T.top.inb.keeps S.1.stays
  obtain ⟨nm, q', bs, sn, sub, ab, col, dd, k0, k1, k2, k3, k5, mN, Z⟩ := exc_is T.top.exc
  obtain ⟨fn, p1, p2, p3, p4, p5, p6, p7, p8, hf, f1, f2, f3, f4⟩ := fn480
  obtain ⟨of, fd, F⟩ := fn_is T.top hf
  obtain ⟨oI, hoI, hoc⟩ := Z.fn
  obtain ⟨hh, gg, d', tk, os⟩ := s
  have hC := X' _ _ Z.cls
  refine wpAny_call_exc_init PySem.F.excBase_Exception hC (Z.ns _ X') Z.init (X' _ _ hoI) hoc (fun h1 e hm => ?_) (by show 2 ≤ sizeLine; decide)
  have S1 : SR K w prog X m ex cs μ ⟨h1, gg, d', tk, os⟩ := S.keeps (tk := tk) hm.keeps
  obtain ⟨u1, u2, u3, u4⟩ := under_new (A := X.A) (a := 483) (l := [vs, vd])
  obtain ⟨t0, he1, _, _⟩ := hm.there
  refine wpAny_call (enter0 T _ u1 u2 u3 (u4.trans T.hnd) S1 F (vargs := [.ref e, vs, vd]) (by rw [f1, f2]; exact ⟨Nat.le_refl _, Nat.le_refl _⟩) fun env ce m' s1 dv hdv keep new T' B' S' hN => ?_)
  have hdv0 : dv = [] := by have := hdv []; rw [f2] at this; cases this; rfl
  subst hdv0
  rw [f1] at hN
  have nSelf := hN "self" (.ref e) (.head _)
  have nSym := hN "symbol" vs (.tail _ (.head _))
  have nDat := hN "data" vd (.tail _ (.tail _ (.head _)))
  have eo := B'.eo
  -- where nothing of the exception lies
  have ea : e ∉ env.locals :: (X.L :: X.low.map (·.1)) ++ ((ce ++ ex) ++ nw cs).map (·.1) := fun hmem => by
    have hs1 : h1.get? e ≠ none := by rw [he1]; exact fun z => by cases z
    have old : e ∉ X.L :: X.low.map (·.1) ++ (ex ++ nw cs).map (·.1) := fun z => by
      obtain ⟨o, ho⟩ := S.1.here z
      rw [hm.new] at ho; cases ho
    rw [List.append_assoc, List.map_append] at hmem
    rcases List.mem_append.mp hmem with z | z
    · rcases List.mem_cons.mp z with z | z
      · rw [z] at hs1; exact hs1 new.1
      · exact old (List.mem_append_left _ z)
    · rcases List.mem_append.mp z with z | z
      · obtain ⟨q, hq, z⟩ := List.mem_map.mp z
        rw [← z] at hs1; exact hs1 (new.2 q hq)
      · exact old (List.mem_append_right _ z)
  have eb : X.base.get? e = none := by
    cases hq : X.base.get? e with
    | none => rfl
    | some o => have := S.1.stays _ _ hq; rw [hm.new] at this; cases this
  obtain ⟨hs1, gs1, ds1, ts1, os1⟩ := s1
  have he2 := keep _ _ he1
  dsimp only at he2 S'
  have da : hs1.objs.size ∉ env.locals :: (X.L :: X.low.map (·.1)) ++ ((ce ++ ex) ++ nw cs).map (·.1) := fun hmem => Nat.lt_irrefl _ (S'.1.old hmem)
  have db : X.base.get? hs1.objs.size = none := S'.1.baseFresh (Nat.le_refl _)
  have edx : e ≠ hs1.objs.size := Nat.ne_of_lt (Heap.lt_size he2)
  rw [f4]
  show wpAny _ _ (exec _ env >>= fun f => match f with | .next => execs [_] env | f => pure f) _ _ _
  have X1 := T.top.inb.keeps S'.1.stays
  refine wpAny_bind (asg_attr (X := subFx X m _ env) eo S' nSelf nSym ⟨by decide +kernel, by decide +kernel⟩ ⟨by decide +kernel, by decide +kernel⟩ ?_)
  refine first_store PySem.F.store_Exception (X1 _ _ Z.cls) (Z.ns _ X1) Z.set Z.sym x_sym he2 rfl (fun c z => by cases z) rfl fun h2 tk2 g1 g2 g3 => ?_
  have S2 : SR K w prog (subFx X m _ env) m' (ce ++ ex) cs μ ⟨h2, gs1, ds1, tk2, os1⟩ := ⟨S'.1.but (e := e) (dx := hs1.objs.size) (fun b o hb _ ho => g3 b o hb ho) eb db ea da, S'.2⟩
  show wpAny _ _ (exec _ env >>= fun f => match f with | .next => execs [] env | f => pure f) _ _ _
  have X2 := T.top.inb.keeps S2.1.stays
  refine wpAny_bind (asg_attr (X := subFx X m _ env) eo S2 nSelf nDat ⟨by decide +kernel, by decide +kernel⟩ ⟨by decide +kernel, by decide +kernel⟩ ?_)
  refine store_attr (ns := ["symbol"]) PySem.F.store_Exception (X2 _ _ Z.cls) (Z.ns _ X2) Z.set Z.dat x_dat (fun z => ?_) ⟨_, g1, rfl, (fun c z => by cases z), .inr ⟨_, rfl, edx.symm, g2⟩⟩ (fun h3 tk3 i1 i2 i3 => ?_) (Within.cons _ _ Within.nil)
  · rw [z, X2 _ _ Z.cls] at g1; cases g1
  · obtain ⟨o1, j1, j2, j3, j4, j5⟩ := i3 _ g1
    have S3 : SRh K w prog (subFx X m _ env) m' (ce ++ ex) cs μ h3 := S2.1.but (e := e) (dx := hs1.objs.size) (fun b o hb hb2 ho => i2 b o hb (fun o₀ dx' y1 y2 => by rw [g1] at y1; cases y1; cases y2; exact hb2) ho) eb db ea da
    refine wpAny_pure ⟨rfl, q _ e hs1.objs.size ?_ S'.2.1 S'.2.2⟩
    refine Pend.up (A := _) (env := env) (m' := m') (ex' := ce) ⟨S3, ⟨o1, _, .none, j1, j2, j5 _ rfl, j3, rfl, rfl⟩, ?_, edx, eb, db, fun z => ea (List.mem_append_right _ z), fun z => da (List.mem_append_left _ z)⟩ S.1.above
    obtain ⟨o2, y1, y2, y3, y4⟩ := i1
    rw [j1] at y1; cases y1
    rcases y4 with ⟨y5, _⟩ | ⟨dx', y5, y6, od, es, ep, y7, y8, y9, _, y10⟩
    · rw [j5 _ rfl] at y5; cases y5
    · rw [j5 _ rfl] at y5; cases y5
      exact ⟨od, y7, es, ep, vs, y8, y9, (y10 "symbol").trans (by rfl), hs⟩
end
/-! ## raise -/
section
variable {K : Frag} {w : World} {prog : Program} {X : Fx} {m m' : NsMap} {ex ex' : List (Addr × Obj)} {XR XR' : XRel} {cs cs₀ : List CO} {μ : Mem} {s : Shared} {mg mb : NsMap} {n : Nat} {h h' : Heap} {k : Kinds} {ρ : Loc} {C : CallT} {env : Env}
theorem raise_made {M : Model} {A : Around} {E : Value → Shared → Prop} {nm q : Str} {C N : Addr} {bs bm : List Value} {hdct : Bool} {sn : List Str} {sub : List Value} {ab : Bool} {col : Option Bool} {dd : Option Addr} {k0 k1 k2 k3 k5 : Option Value} {newId : String} {x : Sem Value} {Q : Flow → Shared → Prop}
    (hbase : bm.contains (.type "BaseException") = true) (hh : A.handled = none)
    (h : wpAny M A x (fun v s₁ => ∃ e oe vs, v = .ref e ∧ s₁.heap.get? C = some (excClassObj nm q C N bs bm hdct sn sub ab col dd k0 k1 k2 k3 k5 newId) ∧ s₁.heap.get? e = some oe ∧ oe.cls = .ref C ∧ oe.data = .fields vs ∧ vs[1]? = some .none ∧ E (.ref e) s₁) E s) :
    wpAny M A (raiseStmt env (some x) none) Q E s := by
  have hcB : (Value.ref C :: bm).contains (.type "BaseException") = true := by rw [List.contains_cons, hbase, Bool.or_true]
  unfold raiseStmt
  refine wpAny_bind (wpAny_mono h (fun v s₁ h₁ => ?_) fun _ _ x => x)
  obtain ⟨e, oe, vs, rfl, hC, he, hcl, hda, hv1, hE⟩ := h₁
  obtain ⟨hp, g, d, tk, os⟩ := s₁
  obtain ⟨oc, od, oda, osl⟩ := oe
  dsimp only at hcl hda
  subst hcl hda
  repeat (first | with_reducible refine wpAny_loadPart_at he ?_ | with_reducible refine wpAny_loadPart_at hC ?_ | (with_reducible refine wpAny_isSubtype_exc hC ?_; rw [hcB]) | wp_step)
  rw [hv1]
  refine wpAny_pure ?_
  rw [if_neg (by decide)]
  exact wpAny_pure (wpAny_raiseNew_none hh hE)
theorem Raise_snd (T : FxOk K mg mb (n + 1) X) (B : BodyOk X k) (HC : CallS K w prog X C) {e c : Option Expr} {p : Pos} : PS K w prog X ex k C (.Raise e c p) := fun m cs ρ l => by
  have other : (∀ x xp as cp, ¬ (e = some (.Call (.Name x xp) as [] cp) ∧ c = none)) → Snd K w prog X ex (XO K w prog X ex) m cs (exec (.Raise e c p) X.env) (exS C k (.Raise e c p) ρ) (SQ K X ex) := fun h => by
    have : exS C k (.Raise e c p) ρ = stuck := by
      unfold exS
      split <;> first | rfl | (rename_i z; cases z; exact absurd ⟨rfl, rfl⟩ (h _ _ _ _)) | (exfalso; rename_i z; cases z)
    rw [this]; exact Snd.stuck
  by_cases hsh : ∃ x xp as cp, e = some (.Call (.Name x xp) as [] cp) ∧ c = none
  · obtain ⟨x, xp, as, cp, rfl, rfl⟩ := hsh
    refine Snd.ite (c := nameV k ρ x = some (.top 483) ∧ noStar as = true) (f := bnd (evEs C k ρ as) fun
      | [s, d] => fun μ => some (.exc s d, μ)
      | _ => stuck) fun hc => ?_
    obtain ⟨hn, hst⟩ := hc
    intro cs₁ μ s r Q E g S e q
    obtain ⟨nm, q', bs, sn, sub, ab, col, dd, k0, k1, k2, k3, k5, mN, Z⟩ := exc_is T.top.exc
    rw [arm_exec_Raise]
    refine wpAny_bind (wpAny_standAt (raise_made (C := 483) (nm := nm) (q := q') (N := 482) (bs := bs) (bm := excMro) (hdct := true) (sn := sn) (sub := sub) (ab := ab) (col := col) (dd := dd) (k0 := k0) (k1 := k1) (k2 := k2) (k3 := k3) (k5 := k5) (newId := "Exception.__new__") (by decide) T.hnd ?_))
    have e0 : eval (.Call (.Name x xp) as [] cp) X.env = (eval (.Name x xp) X.env >>= fun fv => callWith cp fv [] (backTo cp (starEach as X.env)) []) := rfl
    refine wpAny_bind ?_
    show wpAny _ _ (eval (.Call (.Name x xp) as [] cp) X.env) _ _ _
    rw [e0]
    have hname := name_snd (w := w) (prog := prog) (ex := ex) (XR := XO K w prog X ex) B.eo T l x xp
    refine wpAny_bind (hname cs₁ μ s (.ok (.top 483), μ) _ _ g S (by rw [hn]; rfl) fun s' cs' m' a g' S' hx => ?_)
    obtain ⟨rfl, ha⟩ := hx
    obtain ⟨rfl, _⟩ := ha.top_inv
    have q' : Post K w prog X ex cs' (XO K w prog X ex) (SQ K X ex) Q E r := by
      obtain ⟨o, μ'⟩ := r
      cases o with
      | ok b' => exact fun s'' cs'' m'' a' g'' S'' z' => q s'' cs'' m'' a' (g'.trans g'') S'' z'
      | exc sy d => exact fun s'' cs'' m'' e' g'' z' => q s'' cs'' m'' e' (g'.trans g'') z'
    have hargs := (evEs_ok T HC as B.eo (l.grow (g.trans g'))).spl hst cp
    refine callWith_of (P := fun h => K.In h) (by rw [star_any hst]; rfl) (keeps_K Z.keep) (args_wp (star_any hst _) (hargs.use (Grow.refl _) S' e q' fun m₁ cs₂ vs ws μ₁ s₁ g₁ S₁ hv e₁ p₁ => ⟨T.top.inb.keeps S₁.1.stays, ?_⟩))
    obtain ⟨rfl, hv⟩ := hv
    rcases vs with _ | ⟨sy, _ | ⟨d, _ | ⟨_, _⟩⟩⟩
    · cases e₁
    · cases e₁
    · cases e₁
      obtain ⟨vs, vd, rfl, h1, h2⟩ := all2_2 hv
      refine exc_made (d := d) T S₁ h1 fun s₂ e dx P hg hos => ?_
      refine wpAny_bind (wpAny_standAt (wpAny_pure ?_))
      obtain ⟨oe, ves, v, b1, b2, b3, b4, b5, b6⟩ := P.obj
      cases (show v = .none from b6)
      exact ⟨e, oe, ves, rfl, T.top.inb.keeps P.S.stays _ _ Z.cls, b1, b2, b4, b5, p₁ s₂ cs₂ _ e (Grow.refl _) ⟨⟨dx, none, P⟩, hg, hos⟩⟩
    · cases e₁
  · exact other fun x xp as cp z => hsh ⟨x, xp, as, cp, z⟩
end
/-! ## The field of an exception read -/
section
variable {prog : Program} {w : World} {A : Around} {E : Value → Shared → Prop} {h : Heap} {g : Array GenState} {d : Drawn} {t : Nat} {os : OsState}
variable {nm q : Str} {C N x : Addr} {bs bm : List Value} {sn : List Str} {sub : List Value} {ab : Bool} {col : Option Bool} {dd : Option Addr} {k0 k1 k2 k3 k5 : Option Value} {B newId sa owner : String}
  {mN mA : Str → Option Value} {name : Str} {v : Value}
theorem exc_check {M : Model} {o : Obj} {nameV : Value} {Q : Unit → Shared → Prop} (hC : h.get? C = some (excClassObj nm q C N bs excMro true sn sub ab col dd k0 k1 k2 k3 k5 newId)) (hx : h.get? x = some o) (hc : o.cls = .ref C) (hq : Q () ⟨h, g, d, t, os⟩) :
    wpAny M A (checkBuiltinCall "BaseException.__getattribute__" ⟨[.ref x, nameV], []⟩) Q E ⟨h, g, d, t, os⟩ := by
  have hk : builtinKind "BaseException.__getattribute__" = some .slot := by decide +kernel
  have hsplit : splitId "BaseException.__getattribute__" = some ("BaseException", "__getattribute__") := by decide +kernel
  have hcB : (Value.ref C :: excMro).contains (.type "BaseException") = true := by rw [List.contains_cons]; simp [excMro]
  have ha := F.args_bexc_ga (.ref x) nameV
  simp only [checkBuiltinCall, hk, hsplit]
  refine wpAny_bind ?_
  unfold isInstance
  repeat (first | (with_reducible refine wpAny_loadPart_at hx ?_; rw [hc]) | (with_reducible refine wpAny_isSubtype_exc hC ?_; rw [hcB]) | wp_step)
  exact hq
theorem exc_get {o od : Obj} {dx : Addr} {es : Array DictEntry} {ep : Nat} {expr : Bool} {Q : Value → Shared → Prop} (hC : h.get? C = some (excClassObj nm q C N bs excMro true sn sub ab col dd k0 k1 k2 k3 k5 newId)) (hn : h.Ns N mN) (hng : mN "__getattribute__" = none) (hnh : mN "__getattr__" = none) (hna : mN name = none)
    (hB : typeLookup (.type "Exception") name = pure none) (hx : h.get? x = some o) (hc : o.cls = .ref C) (hnc : ∀ c, o.data ≠ .cls c) (hd : o.dict = some dx) (hdx : h.get? dx = some od) (hod : od.data = .dict es ep) (hsk : StrKeys es) (hv : nsFind es name = some v) (hh : handedOut v = pure v) (hq : Q v ⟨h, g, d, t + 1, os⟩) :
    wpAny (model prog w) A (getAttr (.ref x) name expr) Q E ⟨h, g, d, t, os⟩ := by
  have FB := PySem.F.attrBase_Exception
  have f3 := FB.ga.bind (.ref x)
  have hx0 : (expr && onTheHeap (Value.builtin "BaseException.__getattribute__")) = false := by cases expr <;> rfl
  have hx2 : (Value.builtin "BaseException.__getattribute__" == Value.builtin "object.__getattribute__") = false := by decide +kernel
  have hx1 : (onTheHeap (Value.ref C) && Value.builtin "BaseException.__getattribute__" == Value.builtin "object.__getattribute__") = false := by rw [hx2]; rfl
  have hns : h.Ns dx (nsFind es) := ⟨od, es, ep, hdx, hod, hsk, fun _ => rfl⟩
  unfold getAttr getAttrBy
  repeat (any_goals (first | assumption | (with_reducible refine wpAny_loadPart_at hx ?_; rw [hc]) | (with_reducible refine wpAny_typeLookup_exc hC hn FB.mro FB.ga.lookup ?_; rw [hng]) | (with_reducible refine wpAny_typeLookup_exc hC hn FB.mro FB.noGetattr ?_; rw [hnh]) | wp_step))
  refine codeAny_call_builtin FB.ga.plain F.entry_bexc_ga (exc_check hC hx hc ?_)
  unfold Builtin.«object.__getattribute__»
  repeat (first | (with_reducible refine wpAny_loadPart_at hx ?_; rw [hc]) | (with_reducible refine wpAny_typeLookup_exc hC hn FB.mro hB ?_; rw [hna]) | wp_step)
  split
  · rename_i c hcd; exact absurd hcd (hnc c)
  unfold instanceDict
  repeat (first | (with_reducible refine wpAny_loadPart_at hx ?_; rw [hc]) | with_reducible refine wpAny_loadPart_at hC ?_ | wp_step)
  rw [hd]
  repeat (first | (with_reducible refine wpAny_nsGet hns ?_; rw [hv]) | wp_step)
  exact hq
end
/-! ## try -/
section
variable {K : Frag} {w : World} {prog : Program} {X : Fx} {m m' : NsMap} {ex ex' : List (Addr × Obj)} {XR XR' : XRel} {cs cs₀ : List CO} {μ : Mem} {s : Shared} {mg mb : NsMap} {n : Nat} {h h' : Heap} {k : Kinds} {ρ : Loc} {C : CallT} {env : Env}
theorem ite_or {c : Prop} [Decidable c] {α : Type} {F G : α} {P : α → Prop} (h : c → P F) : (if c then F else G) = G ∨ P (if c then F else G) := by
  split
  · rename_i hc; exact .inr (h hc)
  · exact .inl rfl
def TryIs (C : CallT) (k : Kinds) (b : List Stmt) (hs : List ExceptHandler) (o f : List Stmt) (ρ : Loc) (z : Mx (Option V × Loc)) : Prop := ∃ x xp nn tx c1 c2 np ap lp rp hp, hs = [.ExceptHandler (some (.Name x xp)) (some nn) [.Return (some (.List [.Constant (.str tx) c1 c2, .Attribute (.Name nn np) "symbol" ap] lp)) rp] hp] ∧ o = [] ∧ f = [] ∧
    k.lookup x = some .globalImplicit ∧ globV x = some (.top 483) ∧ k.lookup nn = some .local ∧ z = fun μ => match exSs C k b ρ μ with
      | none => none
      | some (.ok r, μ') => some (.ok r, μ')
      | some (.exc s _, μ') => if plainV s then (bnd (newM (.list [.str tx, s])) fun v => ret (some v, [])) μ' else none
theorem try_shape (b : List Stmt) (hs : List ExceptHandler) (o f : List Stmt) (p : Pos) (ρ : Loc) : exS C k (.Try b hs o f p) ρ = stuck ∨ TryIs C k b hs o f ρ (exS C k (.Try b hs o f p) ρ) := by
  unfold exS
  split
  all_goals first
    | (exfalso; rename_i hq; cases hq; done)
    | (left; rfl)
    | skip
  all_goals (rename_i hq; cases hq)
  refine ite_or (P := TryIs C k _ _ _ _ _) fun hc => ?_
  obtain ⟨h1, h2, h3, h4, h5⟩ := hc
  subst h4 h5
  exact ⟨_, _, _, _, _, _, _, _, _, _, _, rfl, rfl, rfl, h1, h2, h3, rfl⟩
theorem symbol_get (T : FxOk K mg mb n X) (B : BodyOk X k) {A : Around} {nn : Str} {np ap : Pos} {e dx : Addr} {sy d : V} {oe od : Obj} (hn : k.lookup nn = some .local) (hp : plainV sy = true) (S : SR K w prog X m ex cs μ s) (hm : m nn = some (.ref e)) (he : s.heap.get? e = some oe) (hc : oe.cls = .ref 483) (hnc : ∀ c, oe.data ≠ .cls c) (hd : oe.dict = some dx) (hdx : s.heap.get? dx = some od) (hF : ExF K cs sy od)
    {Q : Value → Shared → Prop} {E : Value → Shared → Prop} (q : ∀ v tk, VR K (adr cs) sy v → Q v { s with toks := tk }) : wpAny (model prog w) A (eval (.Attribute (.Name nn np) "symbol" ap) X.env) Q E s := by
  obtain ⟨nm, q', bs, sn, sub, ab, col, dd, k0, k1, k2, k3, k5, mN, Z⟩ := exc_is T.top.exc
  obtain ⟨es, ep, vs, h1, h2, h3, h4⟩ := hF
  have X' := T.top.inb.keeps S.1.stays
  rw [arm_eval_Attribute, base_of rfl]
  refine wpAny_bind (wpAny_Name (wpAny_loadName_local B.eo.kind (B.eo.names _ _ hn (by decide)) (B.loc ▸ S.1.ns) hm ?_) (kindOf_ok B.eo hn).2.1)
  refine wpAny_bind (wpAny_standAt (wpAny_bind (wpAny_holding ?_)))
  obtain ⟨hh, g, dr, tk, os⟩ := s
  refine exc_get (X' _ _ Z.cls) (Z.ns _ X') Z.ga Z.gat Z.sym x_sym he hc hnc hd hdx h1 h2 h3 ?_ ?_
  · exact handedOut_of (handed_of h4 hp)
  · exact wpAny_bind (wpAny_letTemporaryGo (wpAny_pure (q _ _ h4)))
theorem Try_snd (T : FxOk K mg mb n X) (B : BodyOk X k) {b : List Stmt} {hs : List ExceptHandler} {o f : List Stmt} {p : Pos} (hb : ∀ ex, PSs K w prog X ex k C b) : PS K w prog X ex k C (.Try b hs o f p) := fun m cs ρ l => by
  rcases try_shape (C := C) (k := k) b hs o f p ρ with hst | hsh
  · rw [hst]; exact Snd.stuck
  obtain ⟨x, xp, nn, tx, c1, c2, np, ap, lp, rp, hp, rfl, rfl, rfl, hx, hg, hn, hz⟩ := hsh
  rw [hz]
  intro cs₁ μ s r Q E g S e q
  refine wpAny_Try_except ?_
  dsimp only at e
  cases hr : exSs C k b ρ μ with
  | none => rw [hr] at e; cases e
  | some q0 =>
    obtain ⟨o0, μ'⟩ := q0
    rw [hr] at e
    cases o0 with
    | ok r0 =>
      cases e
      refine hb ex m cs ρ l cs₁ μ s _ _ _ g S hr (fun s' cs' m' fl g' S' hf => ?_)
      obtain ⟨ov, ρ'⟩ := r0
      obtain ⟨h1, h2⟩ := hf
      cases ov with
      | none =>
        cases (show fl = .next from h2)
        exact wpAny_execs_nil (q s' cs' m' .next g' S' ⟨h1, rfl⟩)
      | some v =>
        obtain ⟨vv, h3, h4⟩ := h2
        cases (show fl = .ret vv from h3)
        exact q s' cs' m' (.ret vv) g' S' ⟨h1, vv, rfl, h4⟩
    | exc sy d =>
      by_cases hpl : plainV sy = true
      · have e : (if plainV sy then (bnd (newM (.list [.str tx, sy])) fun v => ret ((some v : Option V), ([] : Loc))) μ' else none) = some r := e
        rw [if_pos hpl] at e
        obtain ⟨nm, q', bs, sn, sub, ab, col, dd, k0, k1, k2, k3, k5, mN, Z⟩ := exc_is T.top.exc
        refine hb ex m cs ρ l cs₁ μ s _ _ _ g S hr (fun s' cs' m' e' g' hx' => ?_)
        obtain ⟨⟨dx, tb, P⟩, hgens, hos⟩ := hx'
        refine pend_note T P fun h1 P1 => ?_
        refine pend_flight (s := { s' with heap := h1 }) (fo := none) P1 fun h2 P2 => ?_
        have X2 := T.top.inb.keeps P2.S.stays
        refine wpAny_handleBy_cons (codeAny_handlers_test ?_) (by intro z; cases z)
        obtain ⟨k1', k2', _⟩ := kindOf_ok B.eo hx
        have hgl : glT.lookup x = some (.top 483) := by
          unfold globV at hg
          split at hg
          · rename_i v' hv'; rw [hv']; exact hg
          · have hmem := lookup_mem hg
            simp [biT] at hmem
        obtain ⟨val, hv1, hv2⟩ := glob_of T.top.inb T.top.g T.top.gl hgl
        obtain ⟨rfl, _⟩ := (hv2 []).top_inv
        refine Calls.Name_function_global B.eo.kind (k1' (by decide)) (Calls.loadGlobal_global (B.eo.globals ▸ T.top.g.keeps P2.S.stays) hv1 ?_) k2'
        obtain ⟨oe, ves, v, b1, b2, b3, b4, b5, b6⟩ := P2.obj
        refine wpAny_excMatches_sub_self (X2 _ _ Z.cls) b1 b2 (by decide) ?_
        refine codeAny_handlers_suite_as ?_
        refine pend_flight (s := { s' with heap := h2 }) (fo := none) P2 fun h3 P3 => ?_
        obtain ⟨oe, ves, v, b1, b2, b3, b4, b5, b6⟩ := P3.obj
        obtain ⟨od, f1, f2⟩ := P3.flds
        refine wpAny_storeName_local (B.eo.names _ _ hn (by decide)) (B.loc ▸ P3.S.ns) (fun h4 hn4 hs4 => ?_) (by rw [B.eo.kind]; rfl)
        rw [B.loc] at hn4 hs4
        have S4 : SRh K w prog X _ ex cs' μ' h4 := P3.S.store hn4 hs4
        have ne : e' ≠ X.L := fun z => by
          obtain ⟨o', es, ep, ho, hd', _⟩ := P3.S.ns
          rw [← z, b1] at ho; cases ho; rw [b4] at hd'; cases hd'
        have he4 : h4.get? e' = some oe := (hs4.2 e' ne).trans b1
        have hx4 : h4.get? dx = some od := (hs4.2 dx fun z => P3.da (z ▸ List.mem_cons_self)).trans f1
        have hz : szOk (.list [.str tx, sy]) = true := by
          rcases bnd_some e with ⟨_, _, _, z, _⟩ | ⟨_, _, z, _⟩ <;> exact newM_sz z
        have er : r = (.ok (some (.ref μ'.length), []), μ' ++ [.list [.str tx, sy]]) := by
          have e2 : newM (.list [.str tx, sy]) μ' = some (.ok (.ref μ'.length), μ' ++ [.list [.str tx, sy]]) := by unfold newM; rw [if_pos hz]
          unfold bnd at e
          rw [e2] at e
          cases e; rfl
        subst er
        show wpAny _ _ (exec (.Return (some (.List [.Constant (.str tx) c1 c2, .Attribute (.Name nn np) "symbol" ap] lp)) rp) X.env >>= fun f => match f with | .next => execs [] X.env | f => pure f) _ _ _
        refine wpAny_bind ?_
        show wpAny _ _ (standAt rp >>= fun _ => eval (.List [.Constant (.str tx) c1 c2, .Attribute (.Name nn np) "symbol" ap] lp) X.env >>= fun v => pure (Flow.ret v)) _ _ _
        refine wpAny_bind (wpAny_standAt (wpAny_bind ?_))
        rw [arm_eval_List]
        refine wpAny_bind (wpAny_standAt (wpAny_bind ?_))
        show wpAny _ _ (spliced [(false, eval (.Constant (.str tx) c1 c2) X.env), (false, eval (.Attribute (.Name nn np) "symbol" ap) X.env)]) _ _ _
        rw [spliced]
        refine wpAny_bind ?_
        show wpAny _ _ (constValue X.env (.str tx)) _ _ _
        refine wpAny_mkText ?_
        simp only [Bool.false_eq_true, if_false]
        rw [pure_bind]
        refine wpAny_bind (wpAny_holding ?_)
        rw [spliced]
        refine wpAny_bind ?_
        refine symbol_get (m := fun y => if y = nn then some (.ref e') else m' y) (cs := cs') (μ := μ') (ex := ex) (oe := oe) (od := od) (e := e') (dx := dx) (sy := sy) (d := d) T B hn hpl ?_ (if_pos rfl) ?_ b2 (fun c z => by rw [b4] at z; cases z) b3 ?_ f2 fun vs tk hvs => ?_
        · exact ⟨S4, hgens, hos⟩
        · exact he4
        · exact hx4
        simp only [Bool.false_eq_true, if_false]
        rw [pure_bind, spliced]
        refine wpAny_bind (wpAny_holding (wpAny_pure (wpAny_pure (wpAny_pure ?_))))
        refine wpAny_newList ?_ (by show 2 ≤ sizeLine; decide)
        refine wpAny_pure (wpAny_pure ?_)
        dsimp only [List.append_eq, List.cons_append, List.nil_append]
        have hlen : μ'.length = cs'.length := S4.O.length
        have S5 : SRh K w prog X (fun y => if y = nn then some (.ref e') else m' y) ex (cs' ++ [⟨h4.objs.size, listObj [.str tx (s'.toks + 1), vs] 0, none⟩]) (μ' ++ [.list [.str tx, sy]]) (h4.push (listObj [.str tx (s'.toks + 1), vs] 0)) := by
          refine S4.more hz (fun b o hb => Heap.get?_push_of_some _ hb) (fun q hq => ?_) (by simp [CO.ents]) ⟨_, 0, rfl, rfl, .cons .str (.cons (hvs.grow (adr_push _ _)) .nil)⟩
          simp only [CO.ents, Option.toList_none, List.mem_cons, List.not_mem_nil, or_false] at hq
          subst hq
          exact ⟨Heap.get?_push_size _ rfl, Nat.le_refl _⟩
        refine wpAny_nameGoes (B.eo.names _ _ hn (by decide)) (B.loc ▸ S5.ns) (by rw [B.eo.kind]; rfl) fun h6 m6 hn6 hs6 => ?_
        rw [B.loc] at hn6 hs6
        refine q _ (cs' ++ [⟨h4.objs.size, listObj [.str tx (s'.toks + 1), vs] 0, none⟩]) m6 _ (g'.trans (adr_push _ _)) ⟨S5.store hn6 hs6, hgens, hos⟩ ⟨(fun y u hy => by cases hy), _, rfl, ?_⟩
        rw [hlen]
        exact .ref (adr_last _ _)
      · have e : (if plainV sy then (bnd (newM (.list [.str tx, sy])) fun v => ret ((some v : Option V), ([] : Loc))) μ' else none) = some r := e
        rw [if_neg hpl] at e; cases e
end
/-! ## Every call -/
section
variable {K : Frag} {w : World} {prog : Program} {X : Fx} {m m' : NsMap} {ex ex' : List (Addr × Obj)} {XR XR' : XRel} {cs cs₀ : List CO} {μ : Mem} {s : Shared} {mg mb : NsMap} {n : Nat} {h h' : Heap} {k : Kinds} {ρ : Loc} {C : CallT} {env : Env}
theorem FxOk.less (T : FxOk K mg mb (n + 1) X) : FxOk K mg mb n X := ⟨T.top, T.frames, T.frame, T.kind, T.low, by have := T.depth; omega, by have := T.units; omega, T.hnd⟩
theorem body_all (T : FxOk K mg mb (n + 1) X) (HC : CallS K w prog X C) (B : BodyOk X k) (body : List Stmt) : PSs K w prog X ex k C body :=
  exSs_of fun st _ => exS_all T B HC (fun _ _ _ _ => Raise_snd T B HC) (fun _ _ _ _ _ _ hb => Try_snd T B hb) _ st (Nat.lt_succ_self _) ex
theorem init_fn : (clT.all fun c => match c.2.2.lookup ("__init__" : Str) with
  | some i => (fnAt i).isSome
  | none => true) = true := by decide +kernel
theorem calls_all (j : Nat) : ∀ n, n ≤ j → ∀ X, FxOk K mg mb (n + 1) X → CallS K w prog X (callN n) := by
  induction j with
  | zero =>
    intro n hn X T
    obtain rfl : n = 0 := Nat.le_zero.mp hn
    exact callS_of T (fun _ _ _ _ _ _ _ => Snd.stuck) fun _ _ _ => rfl
  | succ j ih =>
    intro n hn X T
    cases n with
    | zero => exact ih 0 (Nat.zero_le _) X T
    | succ n =>
      refine callS_of T (fun ex m cs a args vargs hargs => ?_) (fun f args hf => by cases f <;> first | rfl | exact absurd rfl (hf _))
      have HB : ∀ X', FxOk K mg mb (n + 1) X' → ∀ ex k, BodyOk X' k → ∀ body, PSs K w prog X' ex k (callN n) body := fun X' T' ex k B body => body_all T' (ih n (by omega) X' T') B body
      cases hfn : fnAt a with
      | some fn =>
        have e : callN (n + 1) (.top a) args = runFn (callN n) fn args := by
          show (match fnAt a with | some fn => runFn (callN n) fn args | none => _) = _
          rw [hfn]; try rfl
        rw [e]
        exact fn_snd T HB hfn hargs
      | none =>
        have e : callN (n + 1) (.top a) args = (if a = 483 then stuck else match methT a "__init__" with
          | some i => bnd (newM (.inst a [])) fun v => bnd (callN n (.top i) (v :: args)) fun
            | .none => ret v
            | _ => stuck
          | none => stuck) := by
          show (match fnAt a with | some fn => runFn (callN n) fn args | none => _) = _
          rw [hfn]; try rfl
        rw [e]
        by_cases ha : a = 483
        · rw [if_pos ha]; exact Snd.stuck
        · rw [if_neg ha]
          cases hm : methT a "__init__" with
          | none => exact Snd.stuck
          | some i =>
            have hfi : ∃ fi, fnAt i = some fi := by
              unfold methT at hm
              obtain ⟨c, hc, hm⟩ := Option.bind_eq_some_iff.mp hm
              have := List.all_eq_true.mp init_fn _ (lookup_mem hc)
              dsimp only at this
              rw [hm] at this
              exact Option.isSome_iff_exists.mp this
            obtain ⟨fi, hfi⟩ := hfi
            cases n with
            | zero => exact Snd.none fun μ => rfl
            | succ n =>
              have e2 : ∀ v, callN (n + 1) (.top i) (v :: args) = runFn (callN n) fi (v :: args) := fun v => by
                show (match fnAt i with | some fn => runFn (callN n) fn (v :: args) | none => _) = _
                rw [hfi]; try rfl
              simp only [e2]
              exact cls_snd T (fun X' T' ex k B body => body_all T'.less (ih n (by omega) X' T'.less) B body) hm hfi hargs
end
/-! ## The law's own call -/
section
variable {K : Frag} {w : World} {prog : Program} {mg mb : NsMap} {n : Nat} {s : Shared} {l : Addr} {ol : Obj} {vs : List Value} {xs : List V}
def lawFx (A : Around) (env : Env) (base : Heap) (os : OsState) (l : Addr) (ol : Obj) : Fx := { A := A, env := env, outer := [], L := env.locals, low := [], base := base, os := os, c0 := ⟨l, ol, none⟩ }
theorem law_enter (A : Around) (hA : A.frames = some []) (hA2 : A.depth + 2 * n + 9 < recursionLimit) (hA3 : A.units + 3 + 8 * n + 40 < cLine) (hA4 : A.handled = none) {base : Heap} (T : TopOk K mg mb base) (hsub : base.StaysIn s.heap) (hsize : base.objs.size = s.heap.objs.size) (hsys : sysModules < base.objs.size)
    (hl : s.heap.get? l = some ol) (hlb : base.get? l = none) (hls : l ≠ sysModules) {nn : Nat} (hlc : ol.cls = .type "list") (hld : ol.data = .seq vs.toArray nn) (hx : All2 (VR K [l]) xs vs) (hxs : xs.length ≤ big) (hg : s.gens = #[])
    {a : Addr} {fn : Fn} {p0 : Str} (hf : fnAt a = some fn) (hps : fn.ps = [p0]) (hds : fn.ds = []) {R : Result → Shared → Prop}
    (body : ∀ env ce m' s', FxOk K mg mb n (lawFx (A.deeper env) env base s.os l ol) → BodyOk (lawFx (A.deeper env) env base s.os l ol) fn.names → SR K w prog (lawFx (A.deeper env) env base s.os l ol) m' ce [⟨l, ol, none⟩] [.src xs] s' → LR K (lawFx (A.deeper env) env base s.os l ol) ce env m' [l] [(p0, .ref 0)] →
      wpAny (model prog w) (A.deeper env) (execs fn.body env) (fun f s' => R (.ok (.ret (match f with | .ret v => v | _ => .none))) s')
        (fun e s' => wpAny (model prog w) (A.deeper env) (leaving env e) (fun _ s'' => R (.error e) s'') (fun e' s'' => R (.error e') s'') s') s') :
    codeAny (model prog w) A (.call (.ref a) ⟨[.ref l], []⟩) R s := by
  obtain ⟨o, fd, F⟩ := fn_is T hf
  have X' := T.inb.keeps hsub
  have hroom : A.depth < recursionLimit := by omega
  have hseq : ∀ Q' : Option (Array Value) → Shared → Prop, (∀ x, (x.getD #[]).toList = [] → Q' x s) → wpAny (model prog w) A.in1 (seqItems? fd.defaults) Q' (fun e s' => R (.error e) s') s := fun Q' q => by
    rcases F.dfl with ⟨h1, h2⟩ | ⟨t, ot, its, nn, h1, h2, h3, h4⟩
    · rw [h2]; exact wpAny_bind (wpAny_pure (wpAny_pure (q _ rfl)))
    · rw [h1]
      unfold seqItems?
      refine wpAny_bind (wpAny_load (X' _ _ h2) ?_)
      rw [h3]
      have := h4 []
      rw [hds] at this
      have hL : its.toList = [] := by
        generalize its.toList = L at this
        cases this; rfl
      exact wpAny_pure (q _ hL)
  have hP : argNames fd.params = [p0] := by rw [← F.ps, hps]
  refine codeAny_call_function hroom (X' _ _ F.look) F.data F.co F.gen F.body (codeRec_of X' F.code) ?_
  refine bind_plain F.plain hseq (by rw [hP]; exact Nat.le_refl _) (by rw [hP]; exact Nat.le_refl _) (by rw [hP]; exact Nat.zero_le _) ?_
  rw [F.clo, hP]
  show wpAny _ _ (newFunctionEnv fd.scope fd.globals [] [(p0, .ref l)] _ _ _ _ _) _ _ _
  have hmem : p0 ∈ argNames fd.params := by rw [hP]; exact .head _
  refine wpAny_newFunctionEnv_cells F.kind (fun x hx => ?_) fun env he s' x => ?_
  · obtain rfl := List.mem_singleton.mp hx
    rcases F.par _ hmem with z | z
    · exact .inl z
    · exact .inr ⟨z, cells_have z⟩
  subst he
  obtain ⟨h', tk, rfl⟩ := x.toInCall.same
  have keep := x.toInCall.keep
  dsimp only at keep
  have ndn : ([(p0, Value.ref l)].map (·.1)).Nodup := by simp
  obtain ⟨ce, c1, c2, c3⟩ := cells_of x (P := [p0]) (by simp)
  have kb : ∀ b o, base.get? b = some o → h'.get? b = some o := fun b o e => keep _ _ (hsub b o e)
  refine ⟨T.nolimit.keeps kb, codeAny_func ?_⟩
  refine body _ ce _ _ ⟨T, ?_, rfl, F.kind, .nil, ?_, ?_, hA4⟩ ⟨⟨fun y q hq _ => ?_, F.kind, F.glob, F.blt, by rw [F.names]; exact F.ok⟩, rfl⟩ ⟨⟨kb, x.toInCall.ns, Nat.le_of_eq hsize, (fun p hp => nomatch hp), ?_, hsys, rfl, ?_, ?_, .cons ⟨vs, nn, hlc, hld, rfl, hx⟩ .nil⟩, hg, rfl⟩ ?_
  · show A.frames.map _ = _
    rw [hA]; rfl
  · show A.depth + 1 + 2 * n + 8 < recursionLimit
    omega
  · show A.units + 3 + 8 * n + 40 < cLine
    exact hA3
  · rw [F.names] at hq; exact hq
  · intro q hq
    rcases List.mem_append.mp hq with z | z
    · obtain ⟨g1, g2, _⟩ := c2 q z
      have g3 : s.heap.objs.size < q.1 := g2
      refine ⟨g1, ?_, fun e => ?_⟩
      · show base.get? q.1 = none
        cases hb : base.get? q.1 with
        | none => rfl
        | some o => exact absurd (Nat.lt_trans g3 (hsize ▸ Heap.lt_size hb)) (Nat.lt_irrefl _)
      · rw [e] at g3; exact Nat.lt_irrefl _ (Nat.lt_trans g3 (hsize ▸ hsys))
    · obtain rfl := List.mem_singleton.mp (show q ∈ [(l, ol)] from z)
      exact ⟨keep _ _ hl, hlb, hls⟩
  · intro o ho
    obtain rfl := List.mem_singleton.mp ho
    simpa [szOk] using hxs
  · show (s.heap.objs.size :: [] ++ (ce ++ [(l, ol)]).map (·.1)).Nodup
    have hlt := Heap.lt_size hl
    rw [List.map_append]
    show (s.heap.objs.size :: (ce.map (·.1) ++ [l])).Nodup
    refine List.nodup_cons.mpr ⟨fun hm => ?_, List.nodup_append.mpr ⟨c3, by simp, fun u hu v hv e => ?_⟩⟩
    · rcases List.mem_append.mp hm with z | z
      · obtain ⟨q, hq, e⟩ := List.mem_map.mp z
        have g2 : s.heap.objs.size < q.1 := (c2 q hq).2.1
        rw [e] at g2; exact Nat.lt_irrefl _ g2
      · rw [← List.mem_singleton.mp z] at hlt; exact Nat.lt_irrefl _ hlt
    · obtain ⟨q, hq, e2⟩ := List.mem_map.mp hu
      have g2 : s.heap.objs.size < q.1 := (c2 q hq).2.1
      rw [e2, e, List.mem_singleton.mp hv] at g2
      exact Nat.lt_irrefl _ (Nat.lt_trans g2 hlt)
  · intro y u hy
    rw [List.lookup_cons] at hy
    by_cases hyp : (y == p0) = true
    · rw [hyp] at hy
      cases hy
      rw [eq_of_beq hyp]
      refine ⟨.ref l, .ref rfl, ?_⟩
      rcases F.par _ hmem with hk | hk
      · exact .loc rfl hk (bindL_at ndn (.head _) hk)
      · obtain ⟨c, hc⟩ := Option.isSome_iff_exists.mp (cells_have (n := s.heap.objs.size + 1) (acc := []) hk)
        obtain ⟨oc, e1, e2⟩ := c1 p0 (.head _) c hc
        exact .cell (.inl hk) hc e1 (by rw [e2, bindC_at ndn (.head _) (by rw [show Env.kindOf _ p0 = fd.scope.names.lookup p0 from rfl, hk]; decide)])
    · rw [Bool.not_eq_true] at hyp
      rw [hyp] at hy; cases hy
theorem callN_fn {n : Nat} {a : Addr} {fn : Fn} {args : List V} (h : fnAt a = some fn) : callN (n + 1) (.top a) args = runFn (callN n) fn args := by
  show (match fnAt a with | some fn => runFn (callN n) fn args | none => (if a = 483 then stuck else match methT a "__init__" with
          | some i => bnd (newM (.inst a [])) fun v => bnd (callN n (.top i) (v :: args)) fun
            | .none => ret v
            | _ => stuck
          | none => stuck)) = _
  rw [h]
theorem fn1330 : ∃ fn, fnAt 1330 = some fn ∧ fn.ps = ([("script" : Str)] : List Str) ∧ fn.ds = [] := ⟨_, rfl, rfl, rfl⟩
theorem law_call {base : Heap} (T : TopOk K mg mb base) (hsub : base.StaysIn s.heap) (hsize : base.objs.size = s.heap.objs.size) (hsys : sysModules < base.objs.size) (hall : ∀ b o, s.heap.get? b = some o → b ≠ l → base.get? b = some o)
    (hl : s.heap.get? l = some ol) (hlb : base.get? l = none) (hls : l ≠ sysModules) {nn : Nat} (hlc : ol.cls = .type "list") (hld : ol.data = .seq vs.toArray nn) (hx : All2 (VR K [l]) xs vs) (hxs : xs.length ≤ big) (hg : s.gens = #[])
    {μ' : Mem} (hrun : callN 20 (.top 1330) [.ref 0] [.src xs] = some (.ok (.bool true), μ')) {Q : Value → Shared → Prop} {E : Value → Shared → Prop}
    (q : ∀ s', (∀ b o, s.heap.get? b = some o → s'.heap.get? b = some o) → s'.os = s.os → s'.gens = #[] → Q (.bool true) s') : wpAny (model prog w) callerA (call (.ref 1330) [.ref l] []) Q E s := by
  obtain ⟨fn, hf, hps, hds⟩ := fn1330
  have e0 : callN 20 (.top 1330) [.ref 0] = runFn (callN 19) fn [.ref 0] := by
    exact callN_fn hf
  rw [e0] at hrun
  have hb : bindA fn.ps fn.ds [.ref 0] = some [(("script" : Str), V.ref 0)] := by rw [hps, hds]; rfl
  have e1 : bnd (exSs (callN 19) fn.names fn.body [(("script" : Str), V.ref 0)]) (fun r => ret (r.1.getD .none)) [.src xs] = some (.ok (.bool true), μ') := by
    unfold runFn at hrun
    rw [hb] at hrun
    exact hrun
  refine wpAny_call (law_enter (n := 20) callerA rfl (by decide +kernel) (by decide +kernel) rfl T hsub hsize hsys hl hlb hls hlc hld hx hxs hg hf hps hds fun env ce m' s' T' B' S' L' => ?_)
  have HC : CallS K w prog (lawFx (callerA.deeper env) env base s.os l ol) (callN 19) := calls_all 19 19 (Nat.le_refl _) _ T'
  have hbody := body_all (ex := ce) (C := callN 19) T' HC B' fn.body
  rcases bnd_some e1 with ⟨_, _, _, z, z2⟩ | ⟨⟨ov, ρ'⟩, μ'', z, z2⟩
  · cases z2
  refine hbody m' [⟨l, ol, none⟩] _ L' _ _ s' _ _ _ (Grow.refl _) S' z fun s'' cs'' m'' f g'' S'' hx' => ?_
  obtain ⟨_, h2⟩ := hx'
  have fin : Q (.bool true) s'' := by
    refine q s'' (fun b o hbo => ?_) S''.2.2 S''.2.1
    by_cases hbl : b = l
    · subst hbl
      rw [hl] at hbo; cases hbo
      exact (S''.1.led (b, ol) (List.mem_append_right _ (nw_mem (List.mem_of_getElem? S''.1.fro) (.head _)))).1
    · exact S''.1.stays b o (hall b o hbo hbl)
  cases ov with
  | none => cases z2
  | some v =>
    cases z2
    obtain ⟨vv, h3, h4⟩ := h2
    cases (show f = .ret vv from h3)
    cases h4.bool_inv
    exact fin
end
/-! ## The mini evaluator, its continuations pushed to the leaves -/
theorem bnd_ret {α : Type} (m : Mx α) : bnd m ret = m := by
  funext μ
  unfold bnd
  cases m μ with
  | none => rfl
  | some q => obtain ⟨o, μ'⟩ := q; cases o <;> rfl
theorem bnd_ite {α β : Type} {c : Prop} [Decidable c] (a b : Mx α) (f : α → Mx β) : bnd (if c then a else b) f = if c then bnd a f else bnd b f := by split <;> rfl
theorem bnd_congr {α β : Type} (m : Mx α) {f g : α → Mx β} (h : ∀ a, f a = g a) : bnd m f = bnd m g := by rw [show f = g from funext h]
def negM : V → Mx V
  | .int i => ret (.int (-i))
  | _ => stuck
def stepT {α : Type} (op : BoolOp) (b : Bool) (K : Bool → Mx α) (rest : Mx α) : Mx α := match op, b with
  | .And, false => K false
  | .Or, true => K true
  | _, _ => rest
mutual
def kE {α : Type} (C : CallT) (k : Kinds) (ρ : Loc) : Expr → (V → Mx α) → Mx α
  | .Constant c _ _, K => bnd (opt (constV c)) K
  | .Name x _, K => bnd (opt (nameV k ρ x)) K
  | .BinOp l op r _, K => kE C k ρ l fun a => kE C k ρ r fun b => bnd (binM op a b) K
  | .UnaryOp .Not x _, K => kE C k ρ x fun v => bnd (boolM v) fun b => K (.bool (!b))
  | .UnaryOp .USub x _, K => kE C k ρ x fun v => bnd (negM v) K
  | .IfExp t b o _, K => bnd (kT C k ρ t (kE C k ρ t) fun c => if c then kE C k ρ b ret else kE C k ρ o ret) K
  | .List es _, K => if noStar es then kEs C k ρ es fun vs => bnd (newM (.list vs)) K else stuck
  | .Tuple es _ _, K => if noStar es then kEs C k ρ es fun vs => bnd (newM (.tup vs)) K else stuck
  | .Compare l [op] [r] _, K => kE C k ρ l fun a => kE C k ρ r fun b => bnd (cmpM op a b) fun c => K (.bool c)
  | .Call (.Attribute o x ap) as [] pos, K => if ap.endLine == pos.line && as.length < 30 && plainBase o && noStar as then kE C k ρ o fun ov => bnd (selM ov x) fun f => if mayCall f then kEs C k ρ as fun vs => bnd (callV C f (ov :: vs)) K else stuck else stuck
  | .Call f as [] _, K => if noStar as then kE C k ρ f fun fv => if mayCall fv then kEs C k ρ as fun vs => bnd (callV C fv vs) K else stuck else stuck
  | .Attribute o x _, K => if plainBase o then kE C k ρ o fun ov => bnd (attrM ov x) K else stuck
  | .Subscript o (.Slice l u none _) _, K => kE C k ρ o fun ov => kO C k ρ l fun lv => kO C k ρ u fun uv => bnd (sliceM ov lv uv) K
  | .Subscript o i _, K => kE C k ρ o fun ov => kE C k ρ i fun iv => bnd (itemM ov iv) K
  | .BoolOp op vs _, K => bnd (kBool C k ρ op vs ret) K
  | .ListComp e [⟨.Name x _, it, [], 0⟩] sc _, K => if compOk k ρ sc x && notSet it then kE C k ρ it fun v => bnd (listOfM v) fun p =>
      bnd (compM p.1 p.2 (fun w => noExc (kE C sc.names ((x, w) :: ρ.filter fun q => sc.names.lookup q.1 == some .free) e ret)) p.2) fun ws => bnd (newM (.list ws)) K else stuck
  | e, K => bnd (evE C k ρ e) K
def kT {α : Type} (C : CallT) (k : Kinds) (ρ : Loc) : Expr → ((V → Mx α) → Mx α) → (Bool → Mx α) → Mx α
  | .UnaryOp .Not x _, _, K => kT C k ρ x (kE C k ρ x) fun b => K (!b)
  | .BoolOp op vs _, _, K => bnd (kAll C k ρ op vs ret) K
  | .IfExp t b o _, _, K => bnd (kT C k ρ t (kE C k ρ t) fun c => if c then kT C k ρ b (kE C k ρ b) ret else kT C k ρ o (kE C k ρ o) ret) K
  | .Compare l [op] [r] _, _, K => kE C k ρ l fun a => kE C k ρ r fun b => bnd (cmpM op a b) K
  | .Compare l ops rs _, _, K => if ops.length = rs.length then kE C k ρ l fun a => bnd (kCmp C k ρ a ops rs ret) K else stuck
  | _, whole, K => whole fun v => bnd (boolM v) K
def kAll {α : Type} (C : CallT) (k : Kinds) (ρ : Loc) (op : BoolOp) : List Expr → (Bool → Mx α) → Mx α
  | [], K => K (op == .And)
  | x :: r, K => kT C k ρ x (kE C k ρ x) fun b => stepT op b K (kAll C k ρ op r K)
def kBool {α : Type} (C : CallT) (k : Kinds) (ρ : Loc) (op : BoolOp) : List Expr → (V → Mx α) → Mx α
  | [], K => stuck
  | [x], K => kE C k ρ x K
  | x :: r, K => kE C k ρ x fun v => bnd (boolM v) fun b => stepT op b (fun _ => K v) (kBool C k ρ op r K)
def kCmp {α : Type} (C : CallT) (k : Kinds) (ρ : Loc) (a : V) : List CmpOp → List Expr → (Bool → Mx α) → Mx α
  | [op], [r], K => kE C k ρ r fun b => bnd (cmpM op a b) K
  | op :: ops, r :: rs, K => kE C k ρ r fun b => bnd (cmpM op a b) fun c => if c then kCmp C k ρ b ops rs K else K false
  | _, _, K => stuck
def kEs {α : Type} (C : CallT) (k : Kinds) (ρ : Loc) : List Expr → (List V → Mx α) → Mx α
  | [], K => K []
  | e :: r, K => kE C k ρ e fun v => kEs C k ρ r fun vs => K (v :: vs)
def kO {α : Type} (C : CallT) (k : Kinds) (ρ : Loc) : Option Expr → (V → Mx α) → Mx α
  | none, K => K .none
  | some e, K => kE C k ρ e K
end

theorem kAll_of {C : CallT} {k : Kinds} {ρ : Loc} {op : BoolOp} : ∀ {l : List Expr}, (∀ e ∈ l, ∀ {α : Type} (K : Bool → Mx α), kT C k ρ e (kE C k ρ e) K = bnd (evT C k ρ e (evE C k ρ e)) K) → ∀ {α : Type} (K : Bool → Mx α), kAll C k ρ op l K = bnd (evAll C k ρ op l) K
  | [], _, _, K => by rw [kAll, evAll]; rfl
  | x :: r, h, _, K => by
    rw [kAll, evAll, h x (.head _), bnd_assoc]
    refine bnd_congr _ fun b => ?_
    rw [kAll_of (fun e he => h e (.tail _ he))]
    unfold stepT
    cases op <;> cases b <;> rfl
theorem kBool_of {C : CallT} {k : Kinds} {ρ : Loc} {op : BoolOp} : ∀ {l : List Expr}, (∀ e ∈ l, ∀ {α : Type} (K : V → Mx α), kE C k ρ e K = bnd (evE C k ρ e) K) → ∀ {α : Type} (K : V → Mx α), kBool C k ρ op l K = bnd (evBool C k ρ op l) K
  | [], _, _, K => by rw [kBool, evBool]; rfl
  | [x], h, _, K => by rw [kBool, evBool, h x (.head _)]
  | x :: y :: r, h, _, K => by
    rw [kBool, evBool, h x (.head _), bnd_assoc]
    · refine bnd_congr _ fun v => ?_
      rw [bnd_assoc]
      refine bnd_congr _ fun b => ?_
      rw [kBool_of (fun e he => h e (.tail _ he))]
      unfold stepT
      cases op <;> cases b <;> rfl
    all_goals (intro z; cases z)
theorem kCmp_of {C : CallT} {k : Kinds} {ρ : Loc} : ∀ {rs : List Expr} {ops : List CmpOp} {a : V}, (∀ e ∈ rs, ∀ {α : Type} (K : V → Mx α), kE C k ρ e K = bnd (evE C k ρ e) K) → ∀ {α : Type} (K : Bool → Mx α), kCmp C k ρ a ops rs K = bnd (evCmp C k ρ a ops rs) K
  | [], ops, a, _, _, K => by
    cases ops with
    | nil => unfold kCmp evCmp; rfl
    | cons x l => cases l <;> (unfold kCmp evCmp; rfl)
  | [r], [op], a, h, _, K => by rw [kCmp, evCmp, h r (.head _), bnd_assoc]
  | [r], [], a, h, _, K => by unfold kCmp evCmp; rfl
  | r :: s :: rs, [], a, h, _, K => by unfold kCmp evCmp; rfl
  | r :: rs, op :: op2 :: ops, a, h, _, K => by
    rw [kCmp, evCmp, h r (.head _), bnd_assoc]
    · refine bnd_congr _ fun b => ?_
      rw [bnd_assoc]
      refine bnd_congr _ fun c => ?_
      rw [bnd_ite, kCmp_of (fun e he => h e (.tail _ he))]
      rfl
    all_goals (intros; simp_all)
  | r :: s :: rs, [op], a, h, _, K => by
    rw [kCmp, evCmp, h r (.head _), bnd_assoc]
    · refine bnd_congr _ fun b => ?_
      rw [bnd_assoc]
      refine bnd_congr _ fun c => ?_
      rw [bnd_ite, kCmp_of (fun e he => h e (.tail _ he))]
      rfl
    all_goals (intros; simp_all)
theorem kEs_of {C : CallT} {k : Kinds} {ρ : Loc} : ∀ {l : List Expr}, (∀ e ∈ l, ∀ {α : Type} (K : V → Mx α), kE C k ρ e K = bnd (evE C k ρ e) K) → ∀ {α : Type} (K : List V → Mx α), kEs C k ρ l K = bnd (evEs C k ρ l) K
  | [], _, _, K => by rw [kEs, evEs]; rfl
  | e :: r, h, _, K => by
    rw [kEs, evEs, h e (.head _), bnd_assoc]
    refine bnd_congr _ fun v => ?_
    rw [kEs_of (fun e he => h e (.tail _ he)), bnd_assoc]
    rfl

theorem k_all (j : Nat) : ∀ e : Expr, sizeOf e < j → ∀ (C : CallT) (k : Kinds) (ρ : Loc) {α : Type}, (∀ K : V → Mx α, kE C k ρ e K = bnd (evE C k ρ e) K) ∧ (∀ K : Bool → Mx α, kT C k ρ e (kE C k ρ e) K = bnd (evT C k ρ e (evE C k ρ e)) K) := by
  induction j with
  | zero => intro e h; exact absurd h (Nat.not_lt_zero _)
  | succ j ih =>
    intro e hj C k ρ α
    have sE : ∀ x : Expr, sizeOf x < sizeOf e → ∀ {α : Type} (K : V → Mx α), kE C k ρ x K = bnd (evE C k ρ x) K := fun x hx α K => (ih x (Nat.lt_of_lt_of_le hx (Nat.le_of_lt_succ hj)) C k ρ).1 K
    have sT : ∀ x : Expr, sizeOf x < sizeOf e → ∀ {α : Type} (K : Bool → Mx α), kT C k ρ x (kE C k ρ x) K = bnd (evT C k ρ x (evE C k ρ x)) K := fun x hx α K => (ih x (Nat.lt_of_lt_of_le hx (Nat.le_of_lt_succ hj)) C k ρ).2 K
    have hE : ∀ K : V → Mx α, kE C k ρ e K = bnd (evE C k ρ e) K := fun K => by
      unfold kE
      split
      · rfl
      · rfl
      · rw [evE, bnd_assoc, sE _ (by simp only [Expr.BinOp.sizeOf_spec]; omega)]
        refine bnd_congr _ fun a => ?_
        rw [bnd_assoc, sE _ (by simp only [Expr.BinOp.sizeOf_spec]; omega)]
      · rw [evE, bnd_assoc, sE _ (by simp only [Expr.UnaryOp.sizeOf_spec]; omega)]
        refine bnd_congr _ fun a => ?_
        rw [bnd_assoc]; rfl
      · rw [evE, bnd_assoc, sE _ (by simp only [Expr.UnaryOp.sizeOf_spec]; omega)]
        rfl
      · rw [evE, sT _ (by simp only [Expr.IfExp.sizeOf_spec]; omega)]
        congr 1
        refine bnd_congr _ fun c => ?_
        rw [sE _ (by simp only [Expr.IfExp.sizeOf_spec]; omega), sE _ (by simp only [Expr.IfExp.sizeOf_spec]; omega), bnd_ret, bnd_ret]
      · rw [evE, bnd_ite]
        split
        · rw [bnd_assoc, kEs_of fun x hx => sE x (by have := List.sizeOf_lt_of_mem hx; simp only [Expr.List.sizeOf_spec]; omega)]
        · rfl
      · rw [evE, bnd_ite]
        split
        · rw [bnd_assoc, kEs_of fun x hx => sE x (by have := List.sizeOf_lt_of_mem hx; simp only [Expr.Tuple.sizeOf_spec]; omega)]
        · rfl
      · rw [evE, bnd_assoc, sE _ (by simp only [Expr.Compare.sizeOf_spec]; omega)]
        refine bnd_congr _ fun a => ?_
        rw [bnd_assoc, sE _ (by simp only [Expr.Compare.sizeOf_spec, List.cons.sizeOf_spec]; omega)]
        refine bnd_congr _ fun b => ?_
        rw [bnd_assoc]; rfl
      · rw [evE, bnd_ite]
        split
        · rw [bnd_assoc, sE _ (by simp only [Expr.Call.sizeOf_spec, Expr.Attribute.sizeOf_spec]; omega)]
          refine bnd_congr _ fun a => ?_
          rw [bnd_assoc]
          refine bnd_congr _ fun f => ?_
          rw [bnd_ite]
          split
          · rw [bnd_assoc, kEs_of fun x hx => sE x (by have := List.sizeOf_lt_of_mem hx; simp only [Expr.Call.sizeOf_spec]; omega)]
          · rfl
        · rfl
      · rename_i hno
        rw [evE, bnd_ite]
        · split
          · rw [bnd_assoc, sE _ (by simp only [Expr.Call.sizeOf_spec]; omega)]
            refine bnd_congr _ fun f => ?_
            rw [bnd_ite]
            split
            · rw [bnd_assoc, kEs_of fun x hx => sE x (by have := List.sizeOf_lt_of_mem hx; simp only [Expr.Call.sizeOf_spec]; omega)]
            · rfl
          · rfl
        · exact hno
      · rw [evE, bnd_ite]
        split
        · rw [bnd_assoc, sE _ (by simp only [Expr.Attribute.sizeOf_spec]; omega)]
        · rfl
      · rename_i l u _ _
        rw [evE, bnd_assoc, sE _ (by simp only [Expr.Subscript.sizeOf_spec]; omega)]
        refine bnd_congr _ fun a => ?_
        have kO1 : ∀ (o : Option Expr), (∀ x, o = some x → ∀ {α : Type} (K : V → Mx α), kE C k ρ x K = bnd (evE C k ρ x) K) → ∀ {α : Type} (K : V → Mx α), kO C k ρ o K = bnd (evO C k ρ o) K := fun o ho α K => by
          cases o with
          | none => rw [kO, evO]; rfl
          | some x => rw [kO, evO, ho x rfl]
        rw [kO1 l (fun x hx => sE x (by subst hx; simp only [Expr.Subscript.sizeOf_spec, Expr.Slice.sizeOf_spec, Option.some.sizeOf_spec]; omega)), bnd_assoc]
        refine bnd_congr _ fun b => ?_
        rw [kO1 u (fun x hx => sE x (by subst hx; simp only [Expr.Subscript.sizeOf_spec, Expr.Slice.sizeOf_spec, Option.some.sizeOf_spec]; omega)), bnd_assoc]
      · rename_i hno
        rw [evE, bnd_assoc, sE _ (by simp only [Expr.Subscript.sizeOf_spec]; omega)]
        · refine bnd_congr _ fun a => ?_
          rw [bnd_assoc, sE _ (by simp only [Expr.Subscript.sizeOf_spec]; omega)]
        · exact hno
      · rw [evE, kBool_of fun x hx => sE x (by have := List.sizeOf_lt_of_mem hx; simp only [Expr.BoolOp.sizeOf_spec]; omega), bnd_ret]
      · rename_i el x xp it sc lp
        rw [evE, bnd_ite]
        split
        · rw [bnd_assoc, sE it (by simp only [Expr.ListComp.sizeOf_spec, List.cons.sizeOf_spec, Comprehension.mk.sizeOf_spec]; omega)]
          refine bnd_congr _ fun v => ?_
          rw [bnd_assoc]
          refine bnd_congr _ fun p => ?_
          rw [bnd_assoc]
          have : (fun w => noExc (kE C sc.names ((x, w) :: ρ.filter fun q => sc.names.lookup q.1 == some .free) el ret)) = fun w => noExc (evE C sc.names ((x, w) :: ρ.filter fun q => sc.names.lookup q.1 == some .free) el) := by
            funext w
            rw [(ih el (by simp only [Expr.ListComp.sizeOf_spec] at hj; omega) C sc.names _).1 ret, bnd_ret]
          rw [this]
        · rfl
      · rfl
    refine ⟨hE, fun K => ?_⟩
    unfold kT
    split
    · rw [evT, bnd_assoc, sT _ (by simp only [Expr.UnaryOp.sizeOf_spec]; omega)]; rfl
    · rw [evT, kAll_of fun x hx => sT x (by have := List.sizeOf_lt_of_mem hx; simp only [Expr.BoolOp.sizeOf_spec]; omega), bnd_ret]
    · rw [evT, sT _ (by simp only [Expr.IfExp.sizeOf_spec]; omega)]
      congr 1
      refine bnd_congr _ fun c => ?_
      rw [sT _ (by simp only [Expr.IfExp.sizeOf_spec]; omega), sT _ (by simp only [Expr.IfExp.sizeOf_spec]; omega), bnd_ret, bnd_ret]
    · rw [evT]
      simp only [List.length_cons, List.length_nil, if_true]
      rw [bnd_assoc, sE _ (by simp only [Expr.Compare.sizeOf_spec]; omega)]
      refine bnd_congr _ fun a => ?_
      rw [evCmp, bnd_assoc, sE _ (by simp only [Expr.Compare.sizeOf_spec, List.cons.sizeOf_spec]; omega)]
    · rw [evT, bnd_ite]
      split
      · rw [bnd_assoc, sE _ (by simp only [Expr.Compare.sizeOf_spec]; omega)]
        refine bnd_congr _ fun a => ?_
        rw [kCmp_of fun x hx => sE x (by have := List.sizeOf_lt_of_mem hx; simp only [Expr.Compare.sizeOf_spec]; omega), bnd_ret]
      · rfl
    · rw [evT, hE, bnd_assoc]
      all_goals assumption
theorem kE_eq {α : Type} {C : CallT} {k : Kinds} {ρ : Loc} (e : Expr) (K : V → Mx α) : kE C k ρ e K = bnd (evE C k ρ e) K := (k_all _ e (Nat.lt_succ_self _) C k ρ).1 K
theorem kT_eq {α : Type} {C : CallT} {k : Kinds} {ρ : Loc} (e : Expr) (K : Bool → Mx α) : kT C k ρ e (kE C k ρ e) K = bnd (evT C k ρ e (evE C k ρ e)) K := (k_all _ e (Nat.lt_succ_self _) C k ρ).2 K
theorem kEs_eq {α : Type} {C : CallT} {k : Kinds} {ρ : Loc} (l : List Expr) (K : List V → Mx α) : kEs C k ρ l K = bnd (evEs C k ρ l) K := kEs_of (fun e _ _ K => kE_eq e K) K
theorem kO_eq {α : Type} {C : CallT} {k : Kinds} {ρ : Loc} (o : Option Expr) (K : V → Mx α) : kO C k ρ o K = bnd (evO C k ρ o) K := by
  cases o with
  | none => rw [kO, evO]; rfl
  | some x => rw [kO, evO, kE_eq]
/-! ## Statements, their continuations at the leaves -/
def raiseM {α : Type} : List V → Mx α
  | [s, d] => fun μ => some (.exc s d, μ)
  | _ => stuck
def kAsg {α : Type} (C : CallT) (k : Kinds) (t : Expr) (v : V) (ρ : Loc) (K : Loc → Mx α) : Mx α := match t with
  | .Name x _ => if k.lookup x = some .local then K (setL x v ρ) else stuck
  | .Attribute o x _ => kE C k ρ o fun ov => bnd (putAttrM ov x v) fun _ => K ρ
  | .Subscript o (.Slice l u none _) _ => kE C k ρ o fun ov => kO C k ρ l fun lv => kO C k ρ u fun uv => bnd (putSliceM ov lv uv v) fun _ => K ρ
  | .Subscript o i _ => kE C k ρ o fun ov => kE C k ρ i fun iv => bnd (putItemM ov iv v) fun _ => K ρ
  | _ => stuck
def kAsgs {α : Type} (C : CallT) (k : Kinds) : List Expr → List V → Loc → (Loc → Mx α) → Mx α
  | [], [], ρ, K => K ρ
  | t :: ts, v :: vs, ρ, K => kAsg C k t v ρ fun ρ' => kAsgs C k ts vs ρ' K
  | _, _, _, _ => stuck
def tup2 {α : Type} (xs : List V) (F : V → V → Mx α) : Mx α := if xs.length = 2 then (match xs with
  | a :: r => (match r with
    | b :: r2 => (match r2 with
      | [] => F a b
      | _ :: _ => stuck)
    | [] => stuck)
  | [] => stuck) else stuck
def kAsgT {α : Type} (C : CallT) (k : Kinds) (t : Expr) (v : V) (ρ : Loc) (K : Loc → Mx α) : Mx α := match t with
  | .Tuple [t1, t2] _ _ => if noStar [t1, t2] then bnd (tupM v) fun xs => tup2 xs fun a b => kAsg C k t1 a ρ fun ρ' => kAsg C k t2 b ρ' K else stuck
  | .Tuple ts _ _ => if noStar ts then bnd (tupM v) fun xs => if xs.length = ts.length then kAsgs C k ts xs ρ K else stuck else stuck
  | t => kAsg C k t v ρ K
def kAsgW {α : Type} (C : CallT) (k : Kinds) (t : Expr) (v : V) (ρ : Loc) (sw : Option (List Str)) (K : Loc → Mx α) : Mx α := match sw with
  | none => kAsgT C k t v ρ K
  | some names => bnd (tupM v) fun xs => if xs.length = names.length then K (nst names.reverse xs.reverse ρ) else stuck
/-- the stores of a tuple display, its items known -/
def kAsgD {α : Type} (C : CallT) (k : Kinds) (t : Expr) (vs : List V) (ρ : Loc) (sw : Option (List Str)) (K : Loc → Mx α) : Mx α := match sw with
  | none => (match t with
    | .Tuple ts _ _ => if noStar ts then (if vs.length = ts.length then kAsgs C k ts vs ρ K else stuck) else stuck
    | _ => stuck)
  | some names => if vs.length = names.length then K (nst names.reverse vs.reverse ρ) else stuck
def isTup : Expr → Option (List Expr)
  | .Tuple es _ _ => some es
  | _ => none
def seqK {α : Type} (q : Option V × Loc) (K : Option V × Loc → Mx α) (G : Loc → Mx α) : Mx α := match q with
  | (some v, ρ') => K (some v, ρ')
  | (none, ρ') => G ρ'
def tryK {α : Type} (tx : Str) (f : Mx (Option V × Loc)) (K : Option V × Loc → Mx α) : Mx α := fun μ => match f μ with
  | none => none
  | some (.ok r, μ') => K r μ'
  | some (.exc s _, μ') => if plainV s then (bnd (newM (.list [.str tx, s])) fun v => K (some v, [])) μ' else none
def rangeK {α : Type} (v : V) (turn : V → Loc → Mx (Option V × Loc)) (ρ : Loc) (K : Option V × Loc → Mx α) : Mx α := match v with
  | .int n => if small n then bnd (rangeM turn n.toNat 0 ρ) K else stuck
  | _ => stuck
mutual
def kS {α : Type} (C : CallT) (k : Kinds) : Stmt → Loc → (Option V × Loc → Mx α) → Mx α
  | .Expr e _, ρ, K => if notComp e then kE C k ρ e fun _ => K (none, ρ) else stuck
  | .Return (some e) _, ρ, K => kE C k ρ e fun v => K (some v, ρ)
  | .Return none _, ρ, K => K (some .none, ρ)
  | .Assign [t] e _, ρ, K => (match swapT k t e with
    | some sw => if notComp e || useOk k t e then (match isTup t, isTup e with
        | some _, some es => if noStar es then kEs C k ρ es fun vs => bnd (newM (.tup vs)) fun _ => kAsgD C k t vs ρ sw fun ρ' => K (none, ρ') else stuck
        | _, _ => kE C k ρ e fun v => kAsgW C k t v ρ sw fun ρ' => K (none, ρ')) else stuck
    | none => stuck)
  | .If t b o _, ρ, K => kT C k ρ t (kE C k ρ t) fun c => if c then kSs C k b ρ K else kSs C k o ρ K
  | .Raise (some (.Call (.Name x _) as [] _)) none _, ρ, K => if nameV k ρ x = some (.top 483) ∧ noStar as = true then kEs C k ρ as raiseM else stuck
  | .Try b [.ExceptHandler (some (.Name x _)) (some n) [.Return (some (.List [.Constant (.str tx) _ _, .Attribute (.Name n' _) at' _] _)) _] _] [] [] _, ρ, K =>
    if k.lookup x = some .globalImplicit ∧ globV x = some (.top 483) ∧ k.lookup n = some .local ∧ n' = n ∧ at' = "symbol" then tryK tx (exSs C k b ρ) K else stuck
  | .For t it b [] _, ρ, K => (match rangeOf k ρ it with
    | some e => kE C k ρ e fun v => rangeK v (fun v ρ' => bnd (asgT C k t v ρ') fun ρ'' => exSs C k b ρ'') ρ K
    | none => if notSet it then kE C k ρ it fun v => bnd (listOfM v) fun p =>
      bnd (eachM p.1 p.2 (fun v ρ' => bnd (asgT C k t v ρ') fun ρ'' => exSs C k b ρ'') p.2 ρ) K else stuck)
  | s, ρ, K => bnd (exS C k s ρ) K
def kSs {α : Type} (C : CallT) (k : Kinds) : List Stmt → Loc → (Option V × Loc → Mx α) → Mx α
  | [], ρ, K => K (none, ρ)
  | s :: r, ρ, K => kS C k s ρ fun q => seqK q K fun ρ' => kSs C k r ρ' K
end
section
variable {α : Type} {C : CallT} {k : Kinds} {ρ : Loc}
theorem kAsg_eq {t : Expr} {v : V} {K : Loc → Mx α} : kAsg C k t v ρ K = bnd (asg C k t v ρ) K := by
  unfold kAsg
  split
  · rw [asg, bnd_ite]; rfl
  · rw [asg, kE_eq, bnd_assoc]
    refine bnd_congr _ fun a => ?_
    rw [bnd_assoc]; rfl
  · rw [asg, kE_eq, bnd_assoc]
    refine bnd_congr _ fun a => ?_
    rw [kO_eq, bnd_assoc]
    refine bnd_congr _ fun b => ?_
    rw [kO_eq, bnd_assoc]
    refine bnd_congr _ fun c => ?_
    rw [bnd_assoc]; rfl
  · rename_i hno
    rw [asg, kE_eq, bnd_assoc]
    · refine bnd_congr _ fun a => ?_
      rw [kE_eq, bnd_assoc]
      refine bnd_congr _ fun b => ?_
      rw [bnd_assoc]; rfl
    · exact hno
  · rw [asg]
    · rfl
    all_goals assumption
theorem kAsgs_eq : ∀ {ts : List Expr} {vs : List V} {ρ : Loc} {K : Loc → Mx α}, kAsgs C k ts vs ρ K = bnd (asgs C k ts vs ρ) K
  | [], [], _, _ => rfl
  | [], _ :: _, _, _ => rfl
  | _ :: _, [], _, _ => rfl
  | t :: ts, v :: vs, ρ, K => by
    rw [kAsgs, asgs, kAsg_eq, bnd_assoc]
    exact bnd_congr _ fun ρ' => kAsgs_eq
theorem kAsgT_eq {t : Expr} {v : V} {K : Loc → Mx α} : kAsgT C k t v ρ K = bnd (asgT C k t v ρ) K := by
  unfold kAsgT
  split
  · rw [asgT, bnd_ite]
    split
    · rw [bnd_assoc]
      refine bnd_congr _ fun xs => ?_
      unfold tup2
      rw [bnd_ite]
      by_cases hx : xs.length = 2
      · rw [if_pos hx, if_pos (by simpa using hx)]
        rcases xs with _ | ⟨a, _ | ⟨b, _ | ⟨c, r⟩⟩⟩
        · cases hx
        · cases hx
        · dsimp only
          rw [kAsg_eq, asgs, bnd_assoc]
          refine bnd_congr _ fun ρ' => ?_
          rw [kAsg_eq, asgs, bnd_assoc]
          rfl
        · simp at hx
      · rw [if_neg hx, if_neg (by simpa using hx)]; rfl
    · rfl
  · rw [asgT, bnd_ite]
    split
    · rw [bnd_assoc]
      refine bnd_congr _ fun xs => ?_
      rw [bnd_ite, kAsgs_eq]; rfl
    · rfl
  · rw [asgT]
    · exact kAsg_eq
    · assumption
theorem kAsgW_eq {t : Expr} {v : V} {sw : Option (List Str)} {K : Loc → Mx α} : kAsgW C k t v ρ sw K = bnd (asgW C k t v ρ sw) K := by
  unfold kAsgW asgW
  split
  · exact kAsgT_eq
  · rw [bnd_assoc]
    refine bnd_congr _ fun xs => ?_
    rw [bnd_ite]; rfl
theorem bnd_val {α β : Type} {f : Mx α} {g : α → Mx β} {μ μ' : Mem} {a : α} (e : f μ = some (.ok a, μ')) : bnd f g μ = g a μ' := by
  unfold bnd; rw [e]
theorem bnd_same {α β : Type} {f g : Mx α} {K : α → Mx β} {μ μ' : Mem} (e : f μ = g μ') : bnd f K μ = bnd g K μ' := by
  unfold bnd; rw [e]
theorem bnd_none {α β : Type} {f : Mx α} {K : α → Mx β} {μ : Mem} (e : f μ = none) : bnd f K μ = none := by
  unfold bnd; rw [e]
theorem new_tup {β : Type} {vs : List V} {F : V → List V → Mx β} : bnd (newM (.tup vs)) (fun v => bnd (tupM v) (F v)) = bnd (newM (.tup vs)) fun v => F v vs := by
  funext μ
  by_cases hz : szOk (.tup vs) = true
  · have e1 : newM (.tup vs) μ = some (.ok (.ref μ.length), μ ++ [.tup vs]) := by unfold newM; rw [if_pos hz]
    have e2 : tupM (.ref μ.length) (μ ++ [.tup vs]) = some (.ok vs, μ ++ [.tup vs]) := by
      unfold tupM bnd getM
      simp
      rfl
    rw [bnd_val e1, bnd_val e1, bnd_val e2]
  · have e1 : newM (.tup vs) μ = none := by unfold newM; rw [if_neg hz]
    unfold bnd
    rw [e1]
theorem kAsgD_eq {t : Expr} {ts : List Expr} (ht : isTup t = some ts) {vs : List V} {sw : Option (List Str)} {K : Loc → Mx α} : bnd (newM (.tup vs)) (fun _ => kAsgD C k t vs ρ sw K) = bnd (bnd (newM (.tup vs)) fun v => asgW C k t v ρ sw) K := by
  rw [bnd_assoc]
  cases t with
  | Tuple ts' a b =>
    cases sw with
    | none =>
      show bnd (newM (.tup vs)) (fun _ => if noStar ts' then (if vs.length = ts'.length then kAsgs C k ts' vs ρ K else stuck) else stuck) = bnd (newM (.tup vs)) fun v => bnd (if noStar ts' then bnd (tupM v) fun xs => if xs.length = ts'.length then asgs C k ts' xs ρ else stuck else stuck) K
      by_cases hn : noStar ts' = true
      · have : ∀ v, bnd (if noStar ts' then bnd (tupM v) fun xs => if xs.length = ts'.length then asgs C k ts' xs ρ else stuck else stuck) K = bnd (tupM v) fun xs => bnd (if xs.length = ts'.length then asgs C k ts' xs ρ else stuck) K := fun v => by rw [if_pos hn, bnd_assoc]
        simp only [this]
        rw [new_tup (F := fun _ xs => bnd (if xs.length = ts'.length then asgs C k ts' xs ρ else stuck) K)]
        refine bnd_congr _ fun v => ?_
        rw [if_pos hn, bnd_ite, kAsgs_eq]; rfl
      · simp only [if_neg hn]; rfl
    | some names =>
      show bnd (newM (.tup vs)) (fun _ => if vs.length = names.length then K (nst names.reverse vs.reverse ρ) else stuck) = bnd (newM (.tup vs)) fun v => bnd (bnd (tupM v) fun xs => if xs.length = names.length then ret (nst names.reverse xs.reverse ρ) else stuck) K
      have : ∀ v, bnd (bnd (tupM v) fun xs => if xs.length = names.length then ret (nst names.reverse xs.reverse ρ) else stuck) K = bnd (tupM v) fun xs => bnd (if xs.length = names.length then ret (nst names.reverse xs.reverse ρ) else stuck) K := fun v => bnd_assoc _ _ _
      simp only [this]
      rw [new_tup (F := fun _ xs => bnd (if xs.length = names.length then ret (nst names.reverse xs.reverse ρ) else stuck) K)]
      refine bnd_congr _ fun v => ?_
      rw [bnd_ite]; rfl
  | _ => cases ht
theorem tryK_eq {tx : Str} {f : Mx (Option V × Loc)} {K : Option V × Loc → Mx α} : tryK tx f K = bnd (fun μ => match f μ with
      | none => none
      | some (.ok r, μ') => some (.ok r, μ')
      | some (.exc s _, μ') => if plainV s then (bnd (newM (.list [.str tx, s])) fun v => ret (some v, [])) μ' else none) K := by
  funext μ
  cases hf : f μ with
  | none =>
    have h1 : tryK tx f K μ = none := by unfold tryK; rw [hf]
    rw [h1]
    unfold bnd
    simp only [hf]
  | some q =>
    obtain ⟨o, μ'⟩ := q
    cases o with
    | ok r =>
      have h1 : tryK tx f K μ = K r μ' := by unfold tryK; rw [hf]
      rw [h1]
      exact (bnd_val (a := r) (μ' := μ') (by simp only [hf])).symm
    | exc s d =>
      have h1 : tryK tx f K μ = if plainV s then (bnd (newM (.list [.str tx, s])) fun v => K (some v, [])) μ' else none := by unfold tryK; rw [hf]
      rw [h1]
      have h2 := congrFun (bnd_assoc (newM (.list [.str tx, s])) (fun v => ret ((some v : Option V), ([] : Loc))) K) μ'
      by_cases hp : plainV s = true
      · rw [if_pos hp]
        refine h2.symm.trans ?_
        refine (bnd_same ?_).symm
        simp only [hf, hp, if_true]
      · rw [if_neg hp]
        refine (bnd_none ?_).symm
        simp only [hf, hp]
        rfl
end
section
variable {α : Type} {C : CallT} {k : Kinds} {ρ : Loc}
theorem raise_eq {β : Type} {K : Option V × Loc → Mx β} (l : List V) : (raiseM l : Mx β) = bnd (match l with
      | [s, d] => fun μ => some (.exc s d, μ)
      | _ => stuck : Mx (Option V × Loc)) K := by
  unfold raiseM
  rcases l with _ | ⟨a, _ | ⟨b, _ | ⟨c, r⟩⟩⟩ <;> rfl
theorem ite_bnd {α β : Type} {c : Prop} [d1 : Decidable c] [d2 : Decidable c] {A : Mx α} {B : Mx β} {K : β → Mx α} (h : A = bnd B K) : (if c then A else stuck) = bnd (@ite _ c d2 B stuck) K := by
  by_cases hc : c
  · rw [if_pos hc, if_pos hc]; exact h
  · rw [if_neg hc, if_neg hc]; rfl
theorem kSs_of : ∀ {l : List Stmt}, (∀ st ∈ l, ∀ (ρ : Loc) (K : Option V × Loc → Mx α), kS C k st ρ K = bnd (exS C k st ρ) K) → ∀ (ρ : Loc) (K : Option V × Loc → Mx α), kSs C k l ρ K = bnd (exSs C k l ρ) K
  | [], _, ρ, K => by rw [kSs, exSs]; rfl
  | st :: r, h, ρ, K => by
    rw [kSs, exSs, h st (.head _), bnd_assoc]
    refine bnd_congr _ fun q => ?_
    obtain ⟨o, ρ'⟩ := q
    cases o with
    | some v => rfl
    | none => exact kSs_of (fun s hs => h s (.tail _ hs)) ρ' K
theorem kS_all (j : Nat) : ∀ st : Stmt, sizeOf st < j → ∀ (ρ : Loc) (K : Option V × Loc → Mx α), kS C k st ρ K = bnd (exS C k st ρ) K := by
  induction j with
  | zero => intro st h; exact absurd h (Nat.not_lt_zero _)
  | succ j ih =>
    intro st hj ρ K
    have sub : ∀ l : List Stmt, sizeOf l < sizeOf st → ∀ (ρ : Loc) (K : Option V × Loc → Mx α), kSs C k l ρ K = bnd (exSs C k l ρ) K := fun l hl => kSs_of fun s hs => ih s (Nat.lt_of_lt_of_le (Nat.lt_trans (List.sizeOf_lt_of_mem hs) hl) (Nat.le_of_lt_succ hj))
    clear ih hj
    unfold kS
    split
    · rw [exS, bnd_ite, kE_eq]
      split
      · rw [bnd_assoc]; rfl
      · rfl
    · rw [exS, kE_eq, bnd_assoc]; rfl
    · rw [exS]; rfl
    · rename_i t e p
      rw [exS]
      split
      · rename_i sw hsw
        rw [hsw]
        dsimp only
        rw [bnd_ite]
        split
        · have gen : (kE C k ρ e fun v => kAsgW C k t v ρ sw fun ρ' => K (none, ρ')) = bnd (bnd (evE C k ρ e) fun v => bnd (asgW C k t v ρ sw) fun ρ' => ret (none, ρ')) K := by
            rw [kE_eq, bnd_assoc]
            refine bnd_congr _ fun v => ?_
            rw [kAsgW_eq, bnd_assoc]; rfl
          split
          · rename_i ts es ht he
            rw [← gen, kE_eq]
            cases e with
            | Tuple es' a b =>
              cases he
              rw [evE, bnd_ite]
              split
              · rw [kEs_eq, bnd_assoc]
                refine bnd_congr _ fun vs => ?_
                rw [kAsgD_eq ht, bnd_assoc]
                refine bnd_congr _ fun v => ?_
                rw [kAsgW_eq]
              · rfl
            | _ => cases he
          · exact gen
        · rfl
      · rename_i hsw
        rw [hsw]; rfl
    · rw [exS, kT_eq, bnd_assoc]
      refine bnd_congr _ fun c => ?_
      rw [bnd_ite, sub _ (by simp only [Stmt.If.sizeOf_spec]; omega), sub _ (by simp only [Stmt.If.sizeOf_spec]; omega)]
    · rw [exS, bnd_ite]
      split
      · rw [kEs_eq, bnd_assoc]
        refine bnd_congr _ fun vs => ?_
        exact raise_eq vs
      · rfl
    · rw [exS]
      exact ite_bnd tryK_eq
    · rename_i t it b lp
      rw [exS]
      split
      · rename_i e he
        rw [he, kE_eq]
        dsimp only
        rw [bnd_assoc]
        refine bnd_congr _ fun v => ?_
        unfold rangeK
        cases v <;> first | rfl | skip
        rename_i n
        dsimp only
        rw [bnd_ite]; rfl
      · rename_i he
        rw [he]
        dsimp only
        rw [bnd_ite]
        split
        · rw [kE_eq, bnd_assoc]
          refine bnd_congr _ fun v => ?_
          rw [bnd_assoc]
        · rfl
    · rfl
theorem kSs_eq (l : List Stmt) (ρ : Loc) (K : Option V × Loc → Mx α) : kSs C k l ρ K = bnd (exSs C k l ρ) K := kSs_of (fun st _ => kS_all _ st (Nat.lt_succ_self _)) ρ K
end
theorem runFn_k (C : CallT) (f : Fn) (args : List V) (ρ : Loc) (h : bindA f.ps f.ds args = some ρ) : runFn C f args = kSs C f.names f.body ρ fun r => ret (r.1.getD .none) := by
  rw [kSs_eq]
  unfold runFn
  rw [h]; rfl
theorem exSs_k (C : CallT) (k : Kinds) (l : List Stmt) (ρ : Loc) : exSs C k l ρ = kSs C k l ρ ret := by rw [kSs_eq, bnd_ret]
def fnOf (a : Addr) : Fn := (fnAt a).getD ⟨[], [], [], []⟩
def stOf (a : Addr) (i : Nat) : Stmt := ((fnOf a).body[i]?).getD (.Return none default)
def tryBody : Stmt → List Stmt
  | .Try b _ _ _ _ => b
  | _ => []
def forTurn (C : CallT) (k : Kinds) (st : Stmt) : V → Loc → Mx (Option V × Loc) := match st with
  | .For t _ b _ _ => fun v ρ' => bnd (asgT C k t v ρ') fun ρ'' => exSs C k b ρ''
  | _ => fun _ _ => stuck
def forBody : Stmt → List Stmt
  | .For _ _ b _ _ => b
  | _ => []
def turnK (C : CallT) (k : Kinds) (st : Stmt) (v : V) (ρ : Loc) : Mx (Option V × Loc) := match st with
  | .For t _ b _ _ => kAsgT C k t v ρ fun ρ'' => kSs C k b ρ'' ret
  | _ => stuck
theorem forTurn_k (C : CallT) (k : Kinds) (st : Stmt) (v : V) (ρ : Loc) : forTurn C k st v ρ = turnK C k st v ρ := by
  unfold forTurn turnK
  cases st <;> try rfl
  dsimp only
  rw [kAsgT_eq]
  exact bnd_congr _ fun ρ'' => exSs_k C k _ ρ''
theorem lookup_set {x y : Str} {v : V} {ρ : Loc} : (setL x v ρ).lookup y = if y = x then some v else ρ.lookup y := lookup_setL
theorem kSs_drop {α : Type} {C : CallT} {k : Kinds} {l : List Stmt} {s : Stmt} {r : List Stmt} (h : l = s :: r) (ρ : Loc) (K : Option V × Loc → Mx α) : kSs C k l ρ K = kS C k s ρ fun q => seqK q K fun ρ' => kSs C k r ρ' K := by
  subst h; rw [kSs]
/-! ## The defs as programs (printed by gensh.py, genst.py, genx.py, checked by the kernel) -/
theorem s42 (C : CallT) (a0 : V) : runFn C (fnOf 42) [a0] = bnd (attrM a0 "cells") fun x1 => bnd (callB "len" [x1]) fun x2 => bnd (attrM a0 "gap_end") fun x3 => bnd (binM .Sub x2 x3) fun x4 => bnd (attrM a0 "gap_start") fun x5 => bnd (binM .Add x4 x5) fun x6 => ret x6 :=
  (runFn_k C (fnOf 42) [a0] [("self", a0)] (by kernel_rfl)).trans (by kernel_rfl)
theorem s49 (C : CallT) (a0 a1 : V) : runFn C (fnOf 49) [a0, a1] = bnd (attrM a0 "gap_start") fun x1 => bnd (cmpM .Lt a1 x1) fun c2 => if c2 then bnd (attrM a0 "cells") fun x3 => bnd (itemM x3 a1) fun x4 => ret x4 else bnd (attrM a0 "cells") fun x5 => bnd (attrM a0 "gap_start") fun x6 => bnd (binM .Sub a1 x6) fun x7 => bnd (attrM a0 "gap_end") fun x8 => bnd (binM .Add x7 x8) fun x9 => bnd (itemM x5 x9) fun x10 => ret x10 :=
  (runFn_k C (fnOf 49) [a0, a1] [("self", a0), ("at", a1)] (by kernel_rfl)).trans (by kernel_rfl)
theorem s56 (C : CallT) (a0 a1 a2 : V) : runFn C (fnOf 56) [a0, a1, a2] = bnd (attrM a0 "gap_end") fun x1 => bnd (attrM a0 "gap_start") fun x2 => bnd (binM .Sub x1 x2) fun x3 => bnd (attrM a0 "gap_start") fun x4 => bnd (cmpM .LtE a2 x4) fun c5 => if c5 then bnd (attrM a0 "cells") fun x6 => bnd (sliceM x6 a1 a2) fun x7 => ret x7 else bnd (attrM a0 "gap_start") fun x8 => bnd (cmpM .GtE a1 x8) fun c9 => if c9 then bnd (attrM a0 "cells") fun x10 => bnd (binM .Add a1 x3) fun x11 => bnd (binM .Add a2 x3) fun x12 => bnd (sliceM x10 x11 x12) fun x13 => ret x13 else bnd (attrM a0 "cells") fun x14 => bnd (attrM a0 "gap_start") fun x15 => bnd (sliceM x14 a1 x15) fun x16 => bnd (attrM a0 "cells") fun x17 => bnd (attrM a0 "gap_end") fun x18 => bnd (binM .Add a2 x3) fun x19 => bnd (sliceM x17 x18 x19) fun x20 => bnd (binM .Add x16 x20) fun x21 => ret x21 :=
  (runFn_k C (fnOf 56) [a0, a1, a2] [("self", a0), ("start", a1), ("end", a2)] (by kernel_rfl)).trans (by kernel_rfl)
theorem s63 (C : CallT) (a0 a1 : V) : runFn C (fnOf 63) [a0, a1] = bnd (attrM a0 "gap_start") fun x1 => bnd (cmpM .Lt a1 x1) fun c2 => if c2 then bnd (attrM a0 "cells") fun x3 => bnd (attrM a0 "gap_start") fun x4 => bnd (sliceM x3 a1 x4) fun x5 => bnd (attrM a0 "cells") fun x6 => bnd (attrM a0 "gap_end") fun x7 => bnd (callB "len" [x5]) fun x8 => bnd (binM .Sub x7 x8) fun x9 => bnd (attrM a0 "gap_end") fun x10 => bnd (putSliceM x6 x9 x10 x5) fun _ => bnd (attrM a0 "gap_end") fun x11 => bnd (callB "len" [x5]) fun x12 => bnd (binM .Sub x11 x12) fun x13 => bnd (putAttrM a0 "gap_end" x13) fun _ => bnd (putAttrM a0 "gap_start" a1) fun _ => ret V.none else bnd (attrM a0 "cells") fun x14 => bnd (attrM a0 "gap_end") fun x15 => bnd (attrM a0 "gap_end") fun x16 => bnd (binM .Add x16 a1) fun x17 => bnd (attrM a0 "gap_start") fun x18 => bnd (binM .Sub x17 x18) fun x19 => bnd (sliceM x14 x15 x19) fun x20 => bnd (attrM a0 "cells") fun x21 => bnd (attrM a0 "gap_start") fun x22 => bnd (attrM a0 "gap_start") fun x23 => bnd (callB "len" [x20]) fun x24 => bnd (binM .Add x23 x24) fun x25 => bnd (putSliceM x21 x22 x25 x20) fun _ => bnd (attrM a0 "gap_end") fun x26 => bnd (callB "len" [x20]) fun x27 => bnd (binM .Add x26 x27) fun x28 => bnd (putAttrM a0 "gap_end" x28) fun _ => bnd (putAttrM a0 "gap_start" a1) fun _ => ret V.none :=
  (runFn_k C (fnOf 63) [a0, a1] [("self", a0), ("at", a1)] (by kernel_rfl)).trans (by kernel_rfl)
theorem s70 (C : CallT) (a0 a1 : V) : runFn C (fnOf 70) [a0, a1] = bnd (attrM a0 "gap_end") fun x1 => bnd (attrM a0 "gap_start") fun x2 => bnd (binM .Sub x1 x2) fun x3 => bnd (binM .Sub a1 x3) fun x4 => bnd (cmpM .Gt x4 (V.int 0)) fun c5 => if c5 then bnd (newM (.list [(V.int 0)])) fun x6 => bnd (attrM a0 "room") fun x7 => bnd (binM .Add x4 x7) fun x8 => bnd (binM .Mult x6 x8) fun x9 => bnd (attrM a0 "cells") fun x10 => bnd (attrM a0 "gap_end") fun x11 => bnd (attrM a0 "gap_end") fun x12 => bnd (putSliceM x10 x11 x12 x9) fun _ => bnd (attrM a0 "gap_end") fun x13 => bnd (binM .Add x13 x4) fun x14 => bnd (attrM a0 "room") fun x15 => bnd (binM .Add x14 x15) fun x16 => bnd (putAttrM a0 "gap_end" x16) fun _ => ret V.none else ret V.none :=
  (runFn_k C (fnOf 70) [a0, a1] [("self", a0), ("wanted", a1)] (by kernel_rfl)).trans (by kernel_rfl)
theorem s77 (C : CallT) (a0 a1 a2 : V) : runFn C (fnOf 77) [a0, a1, a2] = bnd (selM a0 "widen_gap") fun f1 => if mayCall f1 then bnd (callB "len" [a2]) fun x2 => bnd (callV C f1 [a0, x2]) fun x3 => bnd (selM a0 "move_gap") fun f4 => if mayCall f4 then bnd (callV C f4 [a0, a1]) fun x5 => bnd (attrM a0 "cells") fun x6 => bnd (callB "len" [a2]) fun x7 => bnd (binM .Add a1 x7) fun x8 => bnd (putSliceM x6 a1 x8 a2) fun _ => bnd (callB "len" [a2]) fun x9 => bnd (binM .Add a1 x9) fun x10 => bnd (putAttrM a0 "gap_start" x10) fun _ => ret V.none else stuck else stuck :=
  (runFn_k C (fnOf 77) [a0, a1, a2] [("self", a0), ("at", a1), ("codes", a2)] (by kernel_rfl)).trans (by kernel_rfl)
theorem s84 (C : CallT) (a0 a1 a2 : V) : runFn C (fnOf 84) [a0, a1, a2] = bnd (selM a0 "codes") fun f1 => if mayCall f1 then bnd (callV C f1 [a0, a1, a2]) fun x2 => bnd (attrM a0 "gap_start") fun x3 => bnd (cmpM .Lt a2 x3) fun c4 => if c4 then bnd (selM a0 "move_gap") fun f5 => if mayCall f5 then bnd (callV C f5 [a0, a2]) fun x6 => bnd (attrM a0 "gap_start") fun x7 => bnd (cmpM .Gt a1 x7) fun c8 => if c8 then bnd (selM a0 "move_gap") fun f9 => if mayCall f9 then bnd (callV C f9 [a0, a1]) fun x10 => bnd (attrM a0 "gap_end") fun x11 => bnd (binM .Add x11 a2) fun x12 => bnd (attrM a0 "gap_start") fun x13 => bnd (binM .Sub x12 x13) fun x14 => bnd (putAttrM a0 "gap_end" x14) fun _ => bnd (putAttrM a0 "gap_start" a1) fun _ => ret x2 else stuck else bnd (attrM a0 "gap_end") fun x15 => bnd (binM .Add x15 a2) fun x16 => bnd (attrM a0 "gap_start") fun x17 => bnd (binM .Sub x16 x17) fun x18 => bnd (putAttrM a0 "gap_end" x18) fun _ => bnd (putAttrM a0 "gap_start" a1) fun _ => ret x2 else stuck else bnd (attrM a0 "gap_start") fun x19 => bnd (cmpM .Gt a1 x19) fun c20 => if c20 then bnd (selM a0 "move_gap") fun f21 => if mayCall f21 then bnd (callV C f21 [a0, a1]) fun x22 => bnd (attrM a0 "gap_end") fun x23 => bnd (binM .Add x23 a2) fun x24 => bnd (attrM a0 "gap_start") fun x25 => bnd (binM .Sub x24 x25) fun x26 => bnd (putAttrM a0 "gap_end" x26) fun _ => bnd (putAttrM a0 "gap_start" a1) fun _ => ret x2 else stuck else bnd (attrM a0 "gap_end") fun x27 => bnd (binM .Add x27 a2) fun x28 => bnd (attrM a0 "gap_start") fun x29 => bnd (binM .Sub x28 x29) fun x30 => bnd (putAttrM a0 "gap_end" x30) fun _ => bnd (putAttrM a0 "gap_start" a1) fun _ => ret x2 else stuck :=
  (runFn_k C (fnOf 84) [a0, a1, a2] [("self", a0), ("start", a1), ("end", a2)] (by kernel_rfl)).trans (by kernel_rfl)
theorem s245 (C : CallT) (a0 : V) : runFn C (fnOf 245) [a0] = bnd (bnd (callB "isinstance" [a0, (V.ty "int")]) fun x1 => bnd (boolM x1) fun b2 => stepT .And b2 (fun _ => ret x1) (bnd (callB "isinstance" [a0, (V.ty "bool")]) fun x3 => bnd (boolM x3) fun b4 => ret (V.bool (!b4)))) fun x5 => ret x5 :=
  (runFn_k C (fnOf 245) [a0] [("datum", a0)] (by kernel_rfl)).trans (by kernel_rfl)
theorem s252 (C : CallT) (a0 : V) : runFn C (fnOf 252) [a0] = bnd (bnd (boolM a0) fun b1 => if b1 then ret (V.top 138) else ret (V.top 135)) fun x2 => ret x2 :=
  (runFn_k C (fnOf 252) [a0] [("flag", a0)] (by kernel_rfl)).trans (by kernel_rfl)
theorem s266 (C : CallT) (a0 a1 a2 : V) : runFn C (fnOf 266) [a0, a1, a2] = bnd (putAttrM a0 "number" a1) fun _ => bnd (putAttrM a0 "advances" a2) fun _ => bnd (putAttrM a0 "buffer" V.none) fun _ => bnd (putAttrM a0 "position" (V.int 0)) fun _ => ret V.none :=
  (runFn_k C (fnOf 266) [a0, a1, a2] [("self", a0), ("number", a1), ("advances", a2)] (by kernel_rfl)).trans (by kernel_rfl)
theorem s313 (C : CallT) (a0 : V) : runFn C (fnOf 313) [a0] = bnd (attrM a0 "rows") fun x1 => bnd (callB "sorted" [x1]) fun x2 => ret x2 :=
  (runFn_k C (fnOf 313) [a0] [("self", a0)] (by kernel_rfl)).trans (by kernel_rfl)
theorem s320 (C : CallT) (a0 a1 a2 : V) : runFn C (fnOf 320) [a0, a1, a2] = bnd (attrM a0 "rows") fun x1 => bnd (attrM a1 "number") fun x2 => bnd (putItemM x1 x2 a1) fun _ => bnd (putAttrM a1 "position" a2) fun _ => ret V.none :=
  (runFn_k C (fnOf 320) [a0, a1, a2] [("self", a0), ("marker", a1), ("position", a2)] (by kernel_rfl)).trans (by kernel_rfl)
theorem s341 (C : CallT) (a0 a1 a2 a3 : V) : runFn C (fnOf 341) [a0, a1, a2, a3] = bnd (selM a0 "numbers") fun f2 => if mayCall f2 then bnd (callV C f2 [a0]) fun x3 => bnd (listOfM x3) fun p4 => bnd (eachM p4.1 p4.2 (forTurn C (fnOf 341).names (stOf 341 0)) p4.2 [("self", a0), ("start", a1), ("end", a2), ("is_before", a3)]) fun q1 => seqK q1 (fun r => ret (r.1.getD .none)) fun ρ => kSs C (fnOf 341).names ((fnOf 341).body.drop 1) ρ fun r => ret (r.1.getD .none) else stuck :=
  (runFn_k C (fnOf 341) [a0, a1, a2, a3] [("self", a0), ("start", a1), ("end", a2), ("is_before", a3)] (by kernel_rfl)).trans (by kernel_rfl)
theorem s348 (C : CallT) (a0 a1 a2 : V) : runFn C (fnOf 348) [a0, a1, a2] = bnd (selM a0 "numbers") fun f2 => if mayCall f2 then bnd (callV C f2 [a0]) fun x3 => bnd (listOfM x3) fun p4 => bnd (eachM p4.1 p4.2 (forTurn C (fnOf 348).names (stOf 348 0)) p4.2 [("self", a0), ("start", a1), ("end", a2)]) fun q1 => seqK q1 (fun r => ret (r.1.getD .none)) fun ρ => kSs C (fnOf 348).names ((fnOf 348).body.drop 1) ρ fun r => ret (r.1.getD .none) else stuck :=
  (runFn_k C (fnOf 348) [a0, a1, a2] [("self", a0), ("start", a1), ("end", a2)] (by kernel_rfl)).trans (by kernel_rfl)
theorem s398 (C : CallT) (a0 : V) : runFn C (fnOf 398) [a0] = bnd (attrM a0 "begv") fun x1 => ret x1 :=
  (runFn_k C (fnOf 398) [a0] [("self", a0)] (by kernel_rfl)).trans (by kernel_rfl)
theorem s405 (C : CallT) (a0 : V) : runFn C (fnOf 405) [a0] = bnd (attrM a0 "zv") fun x1 => ret x1 :=
  (runFn_k C (fnOf 405) [a0] [("self", a0)] (by kernel_rfl)).trans (by kernel_rfl)
theorem s412 (C : CallT) (a0 : V) : runFn C (fnOf 412) [a0] = bnd (attrM a0 "text") fun x1 => bnd (selM x1 "size") fun f2 => if mayCall f2 then bnd (callV C f2 [x1]) fun x3 => ret x3 else stuck :=
  (runFn_k C (fnOf 412) [a0] [("self", a0)] (by kernel_rfl)).trans (by kernel_rfl)
theorem s419 (C : CallT) (a0 a1 : V) : runFn C (fnOf 419) [a0, a1] = bnd (bnd (attrM a0 "begv") fun x1 => bnd (cmpM .Lt a1 x1) fun c2 => stepT .Or c2 ret (bnd (attrM a0 "zv") fun x3 => bnd (cmpM .GtE a1 x3) fun c4 => stepT .Or c4 ret (ret false))) fun c5 => if c5 then ret (V.int (-1)) else bnd (attrM a0 "text") fun x6 => bnd (selM x6 "code") fun f7 => if mayCall f7 then bnd (binM .Sub a1 (V.int 1)) fun x8 => bnd (callV C f7 [x6, x8]) fun x9 => ret x9 else stuck :=
  (runFn_k C (fnOf 419) [a0, a1] [("self", a0), ("place", a1)] (by kernel_rfl)).trans (by kernel_rfl)
theorem s426 (C : CallT) (a0 a1 a2 : V) : runFn C (fnOf 426) [a0, a1, a2] = bnd (attrM a0 "text") fun x1 => bnd (selM x1 "codes") fun f2 => if mayCall f2 then bnd (binM .Sub a1 (V.int 1)) fun x3 => bnd (binM .Sub a2 (V.int 1)) fun x4 => bnd (callV C f2 [x1, x3, x4]) fun x5 => ret x5 else stuck :=
  (runFn_k C (fnOf 426) [a0, a1, a2] [("self", a0), ("start", a1), ("end", a2)] (by kernel_rfl)).trans (by kernel_rfl)
theorem s433 (C : CallT) (a0 a1 : V) : runFn C (fnOf 433) [a0, a1] = bnd (attrM a0 "begv") fun x1 => bnd (callB "max" [a1, x1]) fun x2 => bnd (attrM a0 "zv") fun x3 => bnd (callB "min" [x2, x3]) fun x4 => bnd (putAttrM a0 "point" x4) fun _ => bnd (attrM a0 "point") fun x5 => ret x5 :=
  (runFn_k C (fnOf 433) [a0, a1] [("self", a0), ("place", a1)] (by kernel_rfl)).trans (by kernel_rfl)
theorem s461 (C : CallT) (a0 a1 : V) : runFn C (fnOf 461) [a0, a1] = bnd (attrM a0 "ticks") fun x1 => bnd (binM .Add x1 (V.int 1)) fun x2 => bnd (putAttrM a0 "ticks" x2) fun _ => bnd (boolM a1) fun b3 => if b3 then bnd (attrM a0 "ticks") fun x4 => bnd (putAttrM a0 "codes_ticks" x4) fun _ => ret V.none else ret V.none :=
  (runFn_k C (fnOf 461) [a0, a1] [("self", a0), ("are_codes", a1)] (by kernel_rfl)).trans (by kernel_rfl)
theorem s493 (C : CallT) (a0 : V) : runFn C (fnOf 493) [a0] = bnd (attrM a0 "is_read_only") fun x1 => bnd (boolM x1) fun b2 => if b2 then bnd (attrM a0 "name") fun x3 => bnd (newM (.list [x3])) fun x4 => raiseM [(V.str "buffer-read-only"), x4] else ret V.none :=
  (runFn_k C (fnOf 493) [a0] [("buffer", a0)] (by kernel_rfl)).trans (by kernel_rfl)
theorem s500 (C : CallT) (a0 a1 a2 : V) : runFn C (fnOf 500) [a0, a1, a2] = bnd (callB "min" [a1, a2]) fun x1 => bnd (callB "max" [a1, a2]) fun x2 => bnd (newM (.tup [x1, x2])) fun _ => bnd (bnd (attrM a0 "begv") fun x3 => bnd (cmpM .Lt x1 x3) fun c4 => stepT .Or c4 ret (bnd (attrM a0 "zv") fun x5 => bnd (cmpM .Gt x2 x5) fun c6 => stepT .Or c6 ret (ret false))) fun c7 => if c7 then bnd (newM (.list [a1, a2])) fun x8 => raiseM [(V.str "args-out-of-range"), x8] else bnd (newM (.tup [x1, x2])) fun x9 => ret x9 :=
  (runFn_k C (fnOf 500) [a0, a1, a2] [("buffer", a0), ("start", a1), ("end", a2)] (by kernel_rfl)).trans (by kernel_rfl)
theorem s507 (C : CallT) (a0 a1 a2 : V) : runFn C (fnOf 507) [a0, a1, a2] = bnd (attrM a0 "listeners") fun x2 => bnd (callT "list" [x2]) fun x3 => bnd (listOfM x3) fun p4 => bnd (eachM p4.1 p4.2 (forTurn C (fnOf 507).names (stOf 507 0)) p4.2 [("buffer", a0), ("start", a1), ("end", a2)]) fun q1 => seqK q1 (fun r => ret (r.1.getD .none)) fun ρ => kSs C (fnOf 507).names ((fnOf 507).body.drop 1) ρ fun r => ret (r.1.getD .none) :=
  (runFn_k C (fnOf 507) [a0, a1, a2] [("buffer", a0), ("start", a1), ("end", a2)] (by kernel_rfl)).trans (by kernel_rfl)
theorem s514 (C : CallT) (a0 a1 a2 a3 : V) : runFn C (fnOf 514) [a0, a1, a2, a3] = bnd (selM a0 "touch") fun f1 => if mayCall f1 then bnd (callV C f1 [a0, (V.bool true)]) fun x2 => bnd (attrM a0 "listeners") fun x4 => bnd (callT "list" [x4]) fun x5 => bnd (listOfM x5) fun p6 => bnd (eachM p6.1 p6.2 (forTurn C (fnOf 514).names (stOf 514 1)) p6.2 [("buffer", a0), ("start", a1), ("end", a2), ("old_length", a3)]) fun q3 => seqK q3 (fun r => ret (r.1.getD .none)) fun ρ => kSs C (fnOf 514).names ((fnOf 514).body.drop 2) ρ fun r => ret (r.1.getD .none) else stuck :=
  (runFn_k C (fnOf 514) [a0, a1, a2, a3] [("buffer", a0), ("start", a1), ("end", a2), ("old_length", a3)] (by kernel_rfl)).trans (by kernel_rfl)
theorem s521 (C : CallT) (a0 a1 a2 : V) : runFn C (fnOf 521) [a0, a1, a2] = bnd (attrM a0 "undo") fun x1 => bnd (cmpM .IsNot x1 V.none) fun c2 => if c2 then bnd (attrM a0 "undo") fun x3 => bnd (selM x3 "text_goes") fun f4 => if mayCall f4 then bnd (callV C f4 [x3, a0, a1, a2]) fun x5 => bnd (attrM a0 "text") fun x6 => bnd (selM x6 "delete") fun f7 => if mayCall f7 then bnd (binM .Sub a1 (V.int 1)) fun x8 => bnd (binM .Sub a2 (V.int 1)) fun x9 => bnd (callV C f7 [x6, x8, x9]) fun x10 => bnd (attrM a0 "zv") fun x11 => bnd (binM .Sub a2 a1) fun x12 => bnd (binM .Sub x11 x12) fun x13 => bnd (putAttrM a0 "zv" x13) fun _ => bnd (attrM a0 "point") fun x14 => bnd (cmpM .Gt x14 a1) fun c15 => if c15 then bnd (attrM a0 "point") fun x16 => bnd (binM .Sub a2 a1) fun x17 => bnd (binM .Sub x16 x17) fun x18 => bnd (callB "max" [a1, x18]) fun x19 => bnd (putAttrM a0 "point" x19) fun _ => ret x10 else ret x10 else stuck else stuck else bnd (attrM a0 "text") fun x20 => bnd (selM x20 "delete") fun f21 => if mayCall f21 then bnd (binM .Sub a1 (V.int 1)) fun x22 => bnd (binM .Sub a2 (V.int 1)) fun x23 => bnd (callV C f21 [x20, x22, x23]) fun x24 => bnd (attrM a0 "zv") fun x25 => bnd (binM .Sub a2 a1) fun x26 => bnd (binM .Sub x25 x26) fun x27 => bnd (putAttrM a0 "zv" x27) fun _ => bnd (attrM a0 "point") fun x28 => bnd (cmpM .Gt x28 a1) fun c29 => if c29 then bnd (attrM a0 "point") fun x30 => bnd (binM .Sub a2 a1) fun x31 => bnd (binM .Sub x30 x31) fun x32 => bnd (callB "max" [a1, x32]) fun x33 => bnd (putAttrM a0 "point" x33) fun _ => ret x24 else ret x24 else stuck :=
  (runFn_k C (fnOf 521) [a0, a1, a2] [("buffer", a0), ("start", a1), ("end", a2)] (by kernel_rfl)).trans (by kernel_rfl)
theorem s528 (C : CallT) (a0 a1 a2 : V) : runFn C (fnOf 528) [a0, a1, a2] = bnd (attrM a0 "undo") fun x1 => bnd (cmpM .IsNot x1 V.none) fun c2 => if c2 then bnd (attrM a0 "undo") fun x3 => bnd (selM x3 "text_comes") fun f4 => if mayCall f4 then bnd (callB "len" [a2]) fun x5 => bnd (callV C f4 [x3, a0, a1, x5]) fun x6 => bnd (attrM a0 "text") fun x7 => bnd (selM x7 "insert") fun f8 => if mayCall f8 then bnd (binM .Sub a1 (V.int 1)) fun x9 => bnd (callV C f8 [x7, x9, a2]) fun x10 => bnd (attrM a0 "zv") fun x11 => bnd (callB "len" [a2]) fun x12 => bnd (binM .Add x11 x12) fun x13 => bnd (putAttrM a0 "zv" x13) fun _ => bnd (attrM a0 "point") fun x14 => bnd (cmpM .Gt x14 a1) fun c15 => if c15 then bnd (attrM a0 "point") fun x16 => bnd (callB "len" [a2]) fun x17 => bnd (binM .Add x16 x17) fun x18 => bnd (putAttrM a0 "point" x18) fun _ => ret V.none else ret V.none else stuck else stuck else bnd (attrM a0 "text") fun x19 => bnd (selM x19 "insert") fun f20 => if mayCall f20 then bnd (binM .Sub a1 (V.int 1)) fun x21 => bnd (callV C f20 [x19, x21, a2]) fun x22 => bnd (attrM a0 "zv") fun x23 => bnd (callB "len" [a2]) fun x24 => bnd (binM .Add x23 x24) fun x25 => bnd (putAttrM a0 "zv" x25) fun _ => bnd (attrM a0 "point") fun x26 => bnd (cmpM .Gt x26 a1) fun c27 => if c27 then bnd (attrM a0 "point") fun x28 => bnd (callB "len" [a2]) fun x29 => bnd (binM .Add x28 x29) fun x30 => bnd (putAttrM a0 "point" x30) fun _ => ret V.none else ret V.none else stuck :=
  (runFn_k C (fnOf 528) [a0, a1, a2] [("buffer", a0), ("place", a1), ("codes", a2)] (by kernel_rfl)).trans (by kernel_rfl)
theorem s535 (C : CallT) (a0 a1 a2 : V) : runFn C (fnOf 535) [a0, a1, a2] = bnd (attrM a0 "props") fun x1 => bnd (cmpM .IsNot x1 V.none) fun c2 => if c2 then bnd (attrM a0 "props") fun x3 => bnd (selM x3 "text_gone") fun f4 => if mayCall f4 then bnd (binM .Sub a1 (V.int 1)) fun x5 => bnd (binM .Sub a2 (V.int 1)) fun x6 => bnd (callV C f4 [x3, x5, x6]) fun x7 => bnd (attrM a0 "overlays") fun x8 => bnd (cmpM .IsNot x8 V.none) fun c9 => if c9 then bnd (attrM a0 "overlays") fun x10 => bnd (selM x10 "text_gone") fun f11 => if mayCall f11 then bnd (binM .Sub a1 (V.int 1)) fun x12 => bnd (binM .Sub a2 (V.int 1)) fun x13 => bnd (callV C f11 [x10, x12, x13]) fun x14 => ret V.none else stuck else ret V.none else stuck else bnd (attrM a0 "overlays") fun x15 => bnd (cmpM .IsNot x15 V.none) fun c16 => if c16 then bnd (attrM a0 "overlays") fun x17 => bnd (selM x17 "text_gone") fun f18 => if mayCall f18 then bnd (binM .Sub a1 (V.int 1)) fun x19 => bnd (binM .Sub a2 (V.int 1)) fun x20 => bnd (callV C f18 [x17, x19, x20]) fun x21 => ret V.none else stuck else ret V.none :=
  (runFn_k C (fnOf 535) [a0, a1, a2] [("buffer", a0), ("start", a1), ("end", a2)] (by kernel_rfl)).trans (by kernel_rfl)
theorem s542 (C : CallT) (a0 a1 a2 a3 : V) : runFn C (fnOf 542) [a0, a1, a2, a3] = bnd (attrM a0 "props") fun x1 => bnd (cmpM .IsNot x1 V.none) fun c2 => if c2 then bnd (attrM a0 "props") fun x3 => bnd (selM x3 "text_came") fun f4 => if mayCall f4 then bnd (binM .Sub a1 (V.int 1)) fun x5 => bnd (callV C f4 [x3, x5, a2]) fun x6 => bnd (attrM a0 "overlays") fun x7 => bnd (cmpM .IsNot x7 V.none) fun c8 => if c8 then bnd (attrM a0 "overlays") fun x9 => bnd (selM x9 "text_came") fun f10 => if mayCall f10 then bnd (binM .Sub a1 (V.int 1)) fun x11 => bnd (callV C f10 [x9, x11, a2, a3]) fun x12 => ret V.none else stuck else ret V.none else stuck else bnd (attrM a0 "overlays") fun x13 => bnd (cmpM .IsNot x13 V.none) fun c14 => if c14 then bnd (attrM a0 "overlays") fun x15 => bnd (selM x15 "text_came") fun f16 => if mayCall f16 then bnd (binM .Sub a1 (V.int 1)) fun x17 => bnd (callV C f16 [x15, x17, a2, a3]) fun x18 => ret V.none else stuck else ret V.none :=
  (runFn_k C (fnOf 542) [a0, a1, a2, a3] [("buffer", a0), ("place", a1), ("many", a2), ("before_markers", a3)] (by kernel_rfl)).trans (by kernel_rfl)
theorem s549 (C : CallT) (a0 a1 a2 a3 a4 : V) : runFn C (fnOf 549) [a0, a1, a2, a3, a4] = bnd (C (V.top 493) [a0]) fun x1 => bnd (C (V.top 500) [a0, a1, a1]) fun x2 => bnd (callB "len" [a2]) fun x3 => bnd (cmpM .Eq x3 (V.int 0)) fun c4 => if c4 then ret V.none else bnd (C (V.top 507) [a0, a1, a1]) fun x5 => bnd (C (V.top 528) [a0, a1, a2]) fun x6 => bnd (boolM a4) fun b7 => if b7 then bnd (callB "len" [a2]) fun x8 => bnd (binM .Add a1 x8) fun x9 => bnd (putAttrM a0 "point" x9) fun _ => bnd (attrM a0 "markers") fun x10 => bnd (selM x10 "inserted") fun f11 => if mayCall f11 then bnd (callB "len" [a2]) fun x12 => bnd (binM .Add a1 x12) fun x13 => bnd (callV C f11 [x10, a1, x13, a3]) fun x14 => bnd (callB "len" [a2]) fun x15 => bnd (C (V.top 542) [a0, a1, x15, a3]) fun x16 => bnd (callB "len" [a2]) fun x17 => bnd (binM .Add a1 x17) fun x18 => bnd (C (V.top 514) [a0, a1, x18, (V.int 0)]) fun x19 => ret V.none else stuck else bnd (attrM a0 "markers") fun x20 => bnd (selM x20 "inserted") fun f21 => if mayCall f21 then bnd (callB "len" [a2]) fun x22 => bnd (binM .Add a1 x22) fun x23 => bnd (callV C f21 [x20, a1, x23, a3]) fun x24 => bnd (callB "len" [a2]) fun x25 => bnd (C (V.top 542) [a0, a1, x25, a3]) fun x26 => bnd (callB "len" [a2]) fun x27 => bnd (binM .Add a1 x27) fun x28 => bnd (C (V.top 514) [a0, a1, x28, (V.int 0)]) fun x29 => ret V.none else stuck :=
  (runFn_k C (fnOf 549) [a0, a1, a2, a3, a4] [("buffer", a0), ("place", a1), ("codes", a2), ("before_markers", a3), ("is_point_behind", a4)] (by kernel_rfl)).trans (by kernel_rfl)
theorem s564 (C : CallT) (a0 a1 a2 : V) : runFn C (fnOf 564) [a0, a1, a2] = bnd (C (V.top 493) [a0]) fun x1 => bnd (C (V.top 500) [a0, a1, a2]) fun x2 => bnd (tupM x2) fun xs3 => tup2 xs3 fun u4 u5 => bnd (cmpM .Eq u4 u5) fun c6 => if c6 then bnd (newM (.list [])) fun x7 => ret x7 else bnd (C (V.top 507) [a0, u4, u5]) fun x8 => bnd (C (V.top 521) [a0, u4, u5]) fun x9 => bnd (attrM a0 "markers") fun x10 => bnd (selM x10 "deleted") fun f11 => if mayCall f11 then bnd (callV C f11 [x10, u4, u5]) fun x12 => bnd (C (V.top 535) [a0, u4, u5]) fun x13 => bnd (binM .Sub u5 u4) fun x14 => bnd (C (V.top 514) [a0, u4, u4, x14]) fun x15 => ret x9 else stuck :=
  (runFn_k C (fnOf 564) [a0, a1, a2] [("buffer", a0), ("start", a1), ("end", a2)] (by kernel_rfl)).trans (by kernel_rfl)
theorem s571 (C : CallT) (a0 : V) : runFn C (fnOf 571) [a0] = bnd (C (V.top 493) [a0]) fun x1 => bnd (selM a0 "size") fun f2 => if mayCall f2 then bnd (callV C f2 [a0]) fun x3 => bnd (binM .Add x3 (V.int 1)) fun x4 => bnd (newM (.tup [(V.int 1), x4])) fun _ => bnd (putAttrM a0 "begv" (V.int 1)) fun _ => bnd (putAttrM a0 "zv" x4) fun _ => bnd (attrM a0 "begv") fun x5 => bnd (attrM a0 "zv") fun x6 => bnd (C (V.top 564) [a0, x5, x6]) fun x7 => ret x7 else stuck :=
  (runFn_k C (fnOf 571) [a0] [("buffer", a0)] (by kernel_rfl)).trans (by kernel_rfl)
theorem s578 (C : CallT) (a0 a1 a2 : V) : runFn C (fnOf 578) [a0, a1, a2] = bnd (callB "min" [a1, a2]) fun x1 => bnd (callB "max" [a1, a2]) fun x2 => bnd (newM (.tup [x1, x2])) fun _ => bnd (bnd (cmpM .Lt x1 (V.int 1)) fun c3 => stepT .Or c3 ret (bnd (selM a0 "size") fun f4 => if mayCall f4 then bnd (callV C f4 [a0]) fun x5 => bnd (binM .Add x5 (V.int 1)) fun x6 => bnd (cmpM .Gt x2 x6) fun c7 => stepT .Or c7 ret (ret false) else stuck)) fun c8 => if c8 then bnd (newM (.list [a1, a2])) fun x9 => raiseM [(V.str "args-out-of-range"), x9] else bnd (newM (.tup [x1, x2])) fun _ => bnd (putAttrM a0 "begv" x1) fun _ => bnd (putAttrM a0 "zv" x2) fun _ => bnd (selM a0 "goto") fun f10 => if mayCall f10 then bnd (attrM a0 "point") fun x11 => bnd (callV C f10 [a0, x11]) fun x12 => ret V.none else stuck :=
  (runFn_k C (fnOf 578) [a0, a1, a2] [("buffer", a0), ("start", a1), ("end", a2)] (by kernel_rfl)).trans (by kernel_rfl)
theorem s585 (C : CallT) (a0 : V) : runFn C (fnOf 585) [a0] = bnd (selM a0 "size") fun f1 => if mayCall f1 then bnd (callV C f1 [a0]) fun x2 => bnd (binM .Add x2 (V.int 1)) fun x3 => bnd (newM (.tup [(V.int 1), x3])) fun _ => bnd (putAttrM a0 "begv" (V.int 1)) fun _ => bnd (putAttrM a0 "zv" x3) fun _ => ret V.none else stuck :=
  (runFn_k C (fnOf 585) [a0] [("buffer", a0)] (by kernel_rfl)).trans (by kernel_rfl)
theorem s592 (C : CallT) (a0 : V) : runFn C (fnOf 592) [a0] = bnd (C (V.top 245) [a0]) fun x1 => bnd (boolM x1) fun b2 => if b2 then ret a0 else bnd (callB "isinstance" [a0, (V.top 290)]) fun x3 => bnd (boolM x3) fun b4 => if (!b4) then bnd (newM (.list [(V.str "number-or-marker-p"), a0])) fun x5 => raiseM [(V.str "wrong-type-argument"), x5] else bnd (attrM a0 "buffer") fun x6 => bnd (cmpM .Is x6 V.none) fun c7 => if c7 then bnd (newM (.list [(V.str "Marker does not point anywhere")])) fun x8 => raiseM [(V.str "error"), x8] else bnd (attrM a0 "position") fun x9 => ret x9 :=
  (runFn_k C (fnOf 592) [a0] [("value", a0)] (by kernel_rfl)).trans (by kernel_rfl)
theorem s599 (C : CallT) (a0 a1 a2 : V) : runFn C (fnOf 599) [a0, a1, a2] = bnd (bnd (attrM a0 "buffer") fun x1 => bnd (cmpM .IsNot x1 V.none) fun c2 => stepT .And c2 ret (bnd (attrM a0 "buffer") fun x3 => bnd (cmpM .IsNot x3 a1) fun c4 => stepT .And c4 ret (ret true))) fun c5 => if c5 then bnd (attrM a0 "buffer") fun x6 => bnd (attrM x6 "markers") fun x7 => bnd (selM x7 "drop") fun f8 => if mayCall f8 then bnd (callV C f8 [x7, a0]) fun x9 => bnd (putAttrM a0 "buffer" a1) fun _ => bnd (cmpM .Is a1 V.none) fun c10 => if c10 then bnd (putAttrM a0 "position" (V.int 0)) fun _ => ret V.none else bnd (attrM a1 "markers") fun x11 => bnd (selM x11 "put") fun f12 => if mayCall f12 then bnd (callB "max" [a2, (V.int 1)]) fun x13 => bnd (selM a1 "size") fun f14 => if mayCall f14 then bnd (callV C f14 [a1]) fun x15 => bnd (binM .Add x15 (V.int 1)) fun x16 => bnd (callB "min" [x13, x16]) fun x17 => bnd (callV C f12 [x11, a0, x17]) fun x18 => ret V.none else stuck else stuck else stuck else bnd (putAttrM a0 "buffer" a1) fun _ => bnd (cmpM .Is a1 V.none) fun c19 => if c19 then bnd (putAttrM a0 "position" (V.int 0)) fun _ => ret V.none else bnd (attrM a1 "markers") fun x20 => bnd (selM x20 "put") fun f21 => if mayCall f21 then bnd (callB "max" [a2, (V.int 1)]) fun x22 => bnd (selM a1 "size") fun f23 => if mayCall f23 then bnd (callV C f23 [a1]) fun x24 => bnd (binM .Add x24 (V.int 1)) fun x25 => bnd (callB "min" [x22, x25]) fun x26 => bnd (callV C f21 [x20, a0, x26]) fun x27 => ret V.none else stuck else stuck :=
  (runFn_k C (fnOf 599) [a0, a1, a2] [("marker", a0), ("buffer", a1), ("place", a2)] (by kernel_rfl)).trans (by kernel_rfl)
theorem s620 (C : CallT) (a0 : V) : runFn C (fnOf 620) [a0] = bnd (attrM a0 "point") fun x1 => bnd (selM a0 "begin") fun f2 => if mayCall f2 then bnd (callV C f2 [a0]) fun x3 => bnd (cmpM .Eq x1 x3) fun c4 => ret (V.bool c4) else stuck :=
  (runFn_k C (fnOf 620) [a0] [("buffer", a0)] (by kernel_rfl)).trans (by kernel_rfl)
theorem s627 (C : CallT) (a0 : V) : runFn C (fnOf 627) [a0] = bnd (attrM a0 "point") fun x1 => bnd (selM a0 "end") fun f2 => if mayCall f2 then bnd (callV C f2 [a0]) fun x3 => bnd (cmpM .Eq x1 x3) fun c4 => ret (V.bool c4) else stuck :=
  (runFn_k C (fnOf 627) [a0] [("buffer", a0)] (by kernel_rfl)).trans (by kernel_rfl)
theorem s634 (C : CallT) (a0 : V) : runFn C (fnOf 634) [a0] = bnd (bnd (C (V.top 620) [a0]) fun x1 => bnd (boolM x1) fun b2 => stepT .Or b2 (fun _ => ret x1) (bnd (attrM a0 "point") fun x3 => bnd (C (V.top 613) [a0, x3]) fun x4 => bnd (cmpM .Eq x4 (V.int (10))) fun c5 => ret (V.bool c5))) fun x6 => ret x6 :=
  (runFn_k C (fnOf 634) [a0] [("buffer", a0)] (by kernel_rfl)).trans (by kernel_rfl)
theorem s641 (C : CallT) (a0 : V) : runFn C (fnOf 641) [a0] = bnd (bnd (C (V.top 627) [a0]) fun x1 => bnd (boolM x1) fun b2 => stepT .Or b2 (fun _ => ret x1) (bnd (attrM a0 "point") fun x3 => bnd (C (V.top 606) [a0, x3]) fun x4 => bnd (cmpM .Eq x4 (V.int (10))) fun c5 => ret (V.bool c5))) fun x6 => ret x6 :=
  (runFn_k C (fnOf 641) [a0] [("buffer", a0)] (by kernel_rfl)).trans (by kernel_rfl)
theorem s606 (C : CallT) (a0 a1 : V) : runFn C (fnOf 606) [a0, a1] = bnd (selM a0 "code_at") fun f1 => if mayCall f1 then bnd (callV C f1 [a0, a1]) fun x2 => ret x2 else stuck :=
  (runFn_k C (fnOf 606) [a0, a1] [("buffer", a0), ("place", a1)] (by kernel_rfl)).trans (by kernel_rfl)
theorem s613 (C : CallT) (a0 a1 : V) : runFn C (fnOf 613) [a0, a1] = bnd (bnd (selM a0 "end") fun f1 => if mayCall f1 then bnd (callV C f1 [a0]) fun x2 => bnd (cmpM .Gt a1 x2) fun c3 => if c3 then ret (V.int (-1)) else bnd (selM a0 "code_at") fun f4 => if mayCall f4 then bnd (binM .Sub a1 (V.int 1)) fun x5 => bnd (callV C f4 [a0, x5]) fun x6 => ret x6 else stuck else stuck) fun x7 => ret x7 :=
  (runFn_k C (fnOf 613) [a0, a1] [("buffer", a0), ("place", a1)] (by kernel_rfl)).trans (by kernel_rfl)
theorem s648 (C : CallT) (a0 a1 a2 : V) : runFn C (fnOf 648) [a0, a1, a2] = bnd (C (V.top 500) [a0, a1, a2]) fun x1 => bnd (tupM x1) fun xs2 => tup2 xs2 fun u3 u4 => bnd (selM a0 "codes") fun f5 => if mayCall f5 then bnd (callV C f5 [a0, u3, u4]) fun x6 => ret x6 else stuck :=
  (runFn_k C (fnOf 648) [a0, a1, a2] [("buffer", a0), ("start", a1), ("end", a2)] (by kernel_rfl)).trans (by kernel_rfl)
theorem s655 (C : CallT) (a0 : V) : runFn C (fnOf 655) [a0] = bnd (attrM a0 "current") fun x1 => bnd (cmpM .Is x1 V.none) fun c2 => if c2 then bnd (newM (.list [(V.str "No current buffer")])) fun x3 => raiseM [(V.str "error"), x3] else bnd (attrM a0 "current") fun x4 => ret x4 :=
  (runFn_k C (fnOf 655) [a0] [("world", a0)] (by kernel_rfl)).trans (by kernel_rfl)
theorem s662 (C : CallT) (a0 : V) : runFn C (fnOf 662) [a0] = bnd (bnd (C (V.top 245) [a0]) fun x1 => bnd (boolM x1) fun b2 => stepT .Or (!b2) ret (bnd (bnd (cmpM .LtE (V.int 0) a0) fun c3 => if c3 then bnd (cmpM .Lt a0 (V.int (1114112))) fun c4 => ret c4 else ret false) fun c5 => stepT .Or (!c5) ret (ret false))) fun c6 => if c6 then bnd (newM (.list [(V.str "characterp"), a0])) fun x7 => raiseM [(V.str "wrong-type-argument"), x7] else ret a0 :=
  (runFn_k C (fnOf 662) [a0] [("value", a0)] (by kernel_rfl)).trans (by kernel_rfl)
theorem s669 (C : CallT) (a0 : V) : runFn C (fnOf 669) [a0] = bnd (callB "isinstance" [a0, (V.top 290)]) fun x1 => bnd (boolM x1) fun b2 => if (!b2) then bnd (newM (.list [(V.str "markerp"), a0])) fun x3 => raiseM [(V.str "wrong-type-argument"), x3] else ret a0 :=
  (runFn_k C (fnOf 669) [a0] [("value", a0)] (by kernel_rfl)).trans (by kernel_rfl)
theorem s676 (C : CallT) (a0 a1 a2 : V) : runFn C (fnOf 676) [a0, a1, a2] = bnd (bnd (callB "len" [a1]) fun x1 => bnd (cmpM .LtE x1 a2) fun c2 => stepT .Or c2 ret (bnd (itemM a1 a2) fun x3 => bnd (cmpM .Is x3 (V.top 135)) fun c4 => stepT .Or c4 ret (ret false))) fun c5 => if c5 then bnd (C (V.top 655) [a0]) fun x6 => bnd (attrM x6 "point") fun x7 => ret x7 else bnd (itemM a1 a2) fun x8 => bnd (C (V.top 592) [x8]) fun x9 => ret x9 :=
  (runFn_k C (fnOf 676) [a0, a1, a2] [("world", a0), ("args", a1), ("at", a2)] (by kernel_rfl)).trans (by kernel_rfl)
theorem s683 (C : CallT) (a0 a1 : V) : runFn C (fnOf 683) [a0, a1] = bnd (C (V.top 655) [a0]) fun x1 => bnd (attrM x1 "point") fun x2 => ret x2 :=
  (runFn_k C (fnOf 683) [a0, a1] [("world", a0), ("args", a1)] (by kernel_rfl)).trans (by kernel_rfl)
theorem s690 (C : CallT) (a0 a1 : V) : runFn C (fnOf 690) [a0, a1] = bnd (C (V.top 655) [a0]) fun x1 => bnd (selM x1 "begin") fun f2 => if mayCall f2 then bnd (callV C f2 [x1]) fun x3 => ret x3 else stuck :=
  (runFn_k C (fnOf 690) [a0, a1] [("world", a0), ("args", a1)] (by kernel_rfl)).trans (by kernel_rfl)
theorem s697 (C : CallT) (a0 a1 : V) : runFn C (fnOf 697) [a0, a1] = bnd (C (V.top 655) [a0]) fun x1 => bnd (selM x1 "end") fun f2 => if mayCall f2 then bnd (callV C f2 [x1]) fun x3 => ret x3 else stuck :=
  (runFn_k C (fnOf 697) [a0, a1] [("world", a0), ("args", a1)] (by kernel_rfl)).trans (by kernel_rfl)
theorem s704 (C : CallT) (a0 a1 : V) : runFn C (fnOf 704) [a0, a1] = bnd (C (V.top 655) [a0]) fun x1 => bnd (selM x1 "goto") fun f2 => if mayCall f2 then bnd (itemM a1 (V.int 0)) fun x3 => bnd (C (V.top 592) [x3]) fun x4 => bnd (callV C f2 [x1, x4]) fun x5 => bnd (itemM a1 (V.int 0)) fun x6 => ret x6 else stuck :=
  (runFn_k C (fnOf 704) [a0, a1] [("world", a0), ("args", a1)] (by kernel_rfl)).trans (by kernel_rfl)
theorem s711 (C : CallT) (a0 : V) : runFn C (fnOf 711) [a0] = bnd (bnd (cmpM .Eq a0 (V.int (-1))) fun c1 => if c1 then ret (V.top 135) else ret a0) fun x2 => ret x2 :=
  (runFn_k C (fnOf 711) [a0] [("code", a0)] (by kernel_rfl)).trans (by kernel_rfl)
theorem s718 (C : CallT) (a0 a1 : V) : runFn C (fnOf 718) [a0, a1] = bnd (C (V.top 655) [a0]) fun x1 => bnd (selM x1 "code_at") fun f2 => if mayCall f2 then bnd (C (V.top 676) [a0, a1, (V.int 0)]) fun x3 => bnd (callV C f2 [x1, x3]) fun x4 => bnd (C (V.top 711) [x4]) fun x5 => ret x5 else stuck :=
  (runFn_k C (fnOf 718) [a0, a1] [("world", a0), ("args", a1)] (by kernel_rfl)).trans (by kernel_rfl)
theorem s725 (C : CallT) (a0 a1 : V) : runFn C (fnOf 725) [a0, a1] = bnd (C (V.top 655) [a0]) fun x1 => bnd (selM x1 "code_at") fun f2 => if mayCall f2 then bnd (C (V.top 676) [a0, a1, (V.int 0)]) fun x3 => bnd (binM .Sub x3 (V.int 1)) fun x4 => bnd (callV C f2 [x1, x4]) fun x5 => bnd (C (V.top 711) [x5]) fun x6 => ret x6 else stuck :=
  (runFn_k C (fnOf 725) [a0, a1] [("world", a0), ("args", a1)] (by kernel_rfl)).trans (by kernel_rfl)
theorem s732 (C : CallT) (a0 a1 : V) : runFn C (fnOf 732) [a0, a1] = bnd (C (V.top 655) [a0]) fun x1 => bnd (selM x1 "code_at") fun f2 => if mayCall f2 then bnd (C (V.top 655) [a0]) fun x3 => bnd (attrM x3 "point") fun x4 => bnd (callV C f2 [x1, x4]) fun x5 => bnd (callB "max" [(V.int 0), x5]) fun x6 => ret x6 else stuck :=
  (runFn_k C (fnOf 732) [a0, a1] [("world", a0), ("args", a1)] (by kernel_rfl)).trans (by kernel_rfl)
theorem s739 (C : CallT) (a0 a1 : V) : runFn C (fnOf 739) [a0, a1] = bnd (C (V.top 655) [a0]) fun x1 => bnd (selM x1 "code_at") fun f2 => if mayCall f2 then bnd (C (V.top 655) [a0]) fun x3 => bnd (attrM x3 "point") fun x4 => bnd (binM .Sub x4 (V.int 1)) fun x5 => bnd (callV C f2 [x1, x5]) fun x6 => bnd (callB "max" [(V.int 0), x6]) fun x7 => ret x7 else stuck :=
  (runFn_k C (fnOf 739) [a0, a1] [("world", a0), ("args", a1)] (by kernel_rfl)).trans (by kernel_rfl)
theorem s746 (C : CallT) (a0 a1 : V) : runFn C (fnOf 746) [a0, a1] = bnd (C (V.top 655) [a0]) fun x1 => bnd (C (V.top 620) [x1]) fun x2 => bnd (C (V.top 252) [x2]) fun x3 => ret x3 :=
  (runFn_k C (fnOf 746) [a0, a1] [("world", a0), ("args", a1)] (by kernel_rfl)).trans (by kernel_rfl)
theorem s753 (C : CallT) (a0 a1 : V) : runFn C (fnOf 753) [a0, a1] = bnd (C (V.top 655) [a0]) fun x1 => bnd (C (V.top 627) [x1]) fun x2 => bnd (C (V.top 252) [x2]) fun x3 => ret x3 :=
  (runFn_k C (fnOf 753) [a0, a1] [("world", a0), ("args", a1)] (by kernel_rfl)).trans (by kernel_rfl)
theorem s760 (C : CallT) (a0 a1 : V) : runFn C (fnOf 760) [a0, a1] = bnd (C (V.top 655) [a0]) fun x1 => bnd (C (V.top 634) [x1]) fun x2 => bnd (C (V.top 252) [x2]) fun x3 => ret x3 :=
  (runFn_k C (fnOf 760) [a0, a1] [("world", a0), ("args", a1)] (by kernel_rfl)).trans (by kernel_rfl)
theorem s767 (C : CallT) (a0 a1 : V) : runFn C (fnOf 767) [a0, a1] = bnd (C (V.top 655) [a0]) fun x1 => bnd (C (V.top 641) [x1]) fun x2 => bnd (C (V.top 252) [x2]) fun x3 => ret x3 :=
  (runFn_k C (fnOf 767) [a0, a1] [("world", a0), ("args", a1)] (by kernel_rfl)).trans (by kernel_rfl)
theorem s774 (C : CallT) (a0 a1 : V) : runFn C (fnOf 774) [a0, a1] = bnd (C (V.top 655) [a0]) fun x1 => bnd (listOfM a1) fun p3 => bnd (eachM p3.1 p3.2 (forTurn C (fnOf 774).names (stOf 774 1)) p3.2 [("world", a0), ("args", a1), ("buffer", x1)]) fun q2 => seqK q2 (fun r => ret (r.1.getD .none)) fun ρ => kSs C (fnOf 774).names ((fnOf 774).body.drop 2) ρ fun r => ret (r.1.getD .none) :=
  (runFn_k C (fnOf 774) [a0, a1] [("world", a0), ("args", a1)] (by kernel_rfl)).trans (by kernel_rfl)
theorem s781 (C : CallT) (a0 a1 : V) : runFn C (fnOf 781) [a0, a1] = bnd (bnd (bnd (callB "len" [a1]) fun x1 => bnd (cmpM .Lt x1 (V.int 2)) fun c2 => stepT .Or c2 ret (bnd (itemM a1 (V.int 1)) fun x3 => bnd (cmpM .Is x3 (V.top 135)) fun c4 => stepT .Or c4 ret (ret false))) fun c5 => if c5 then ret (V.int 1) else bnd (itemM a1 (V.int 1)) fun x6 => bnd (C (V.top 592) [x6]) fun x7 => ret x7) fun x8 => bnd (C (V.top 655) [a0]) fun x9 => bnd (itemM a1 (V.int 0)) fun x10 => bnd (C (V.top 662) [x10]) fun x11 => bnd (newM (.list [x11])) fun x12 => bnd (callB "max" [(V.int 0), x8]) fun x13 => bnd (binM .Mult x12 x13) fun x14 => bnd (C (V.top 557) [x9, x14]) fun x15 => ret (V.top 135) :=
  (runFn_k C (fnOf 781) [a0, a1] [("world", a0), ("args", a1)] (by kernel_rfl)).trans (by kernel_rfl)
theorem s788 (C : CallT) (a0 a1 : V) : runFn C (fnOf 788) [a0, a1] = bnd (C (V.top 655) [a0]) fun x1 => bnd (itemM a1 (V.int 0)) fun x2 => bnd (C (V.top 592) [x2]) fun x3 => bnd (itemM a1 (V.int 1)) fun x4 => bnd (C (V.top 592) [x4]) fun x5 => bnd (C (V.top 564) [x1, x3, x5]) fun x6 => ret (V.top 135) :=
  (runFn_k C (fnOf 788) [a0, a1] [("world", a0), ("args", a1)] (by kernel_rfl)).trans (by kernel_rfl)
theorem s795 (C : CallT) (a0 a1 : V) : runFn C (fnOf 795) [a0, a1] = bnd (C (V.top 655) [a0]) fun x1 => bnd (C (V.top 571) [x1]) fun x2 => ret (V.top 135) :=
  (runFn_k C (fnOf 795) [a0, a1] [("world", a0), ("args", a1)] (by kernel_rfl)).trans (by kernel_rfl)
theorem s802 (C : CallT) (a0 a1 : V) : runFn C (fnOf 802) [a0, a1] = bnd (C (V.top 655) [a0]) fun x1 => bnd (itemM a1 (V.int 0)) fun x2 => bnd (C (V.top 592) [x2]) fun x3 => bnd (itemM a1 (V.int 1)) fun x4 => bnd (C (V.top 592) [x4]) fun x5 => bnd (C (V.top 648) [x1, x3, x5]) fun x6 => bnd (C (V.top 178) [x6]) fun x7 => ret x7 :=
  (runFn_k C (fnOf 802) [a0, a1] [("world", a0), ("args", a1)] (by kernel_rfl)).trans (by kernel_rfl)
theorem s809 (C : CallT) (a0 a1 : V) : runFn C (fnOf 809) [a0, a1] = bnd (C (V.top 655) [a0]) fun x1 => bnd (selM x1 "codes") fun f2 => if mayCall f2 then bnd (selM x1 "begin") fun f3 => if mayCall f3 then bnd (callV C f3 [x1]) fun x4 => bnd (selM x1 "end") fun f5 => if mayCall f5 then bnd (callV C f5 [x1]) fun x6 => bnd (callV C f2 [x1, x4, x6]) fun x7 => bnd (C (V.top 178) [x7]) fun x8 => ret x8 else stuck else stuck else stuck :=
  (runFn_k C (fnOf 809) [a0, a1] [("world", a0), ("args", a1)] (by kernel_rfl)).trans (by kernel_rfl)
theorem s816 (C : CallT) (a0 a1 : V) : runFn C (fnOf 816) [a0, a1] = bnd (C (V.top 655) [a0]) fun x1 => bnd (selM x1 "size") fun f2 => if mayCall f2 then bnd (callV C f2 [x1]) fun x3 => ret x3 else stuck :=
  (runFn_k C (fnOf 816) [a0, a1] [("world", a0), ("args", a1)] (by kernel_rfl)).trans (by kernel_rfl)
theorem s823 (C : CallT) (a0 a1 : V) : runFn C (fnOf 823) [a0, a1] = bnd (C (V.top 655) [a0]) fun x1 => bnd (itemM a1 (V.int 0)) fun x2 => bnd (C (V.top 592) [x2]) fun x3 => bnd (itemM a1 (V.int 1)) fun x4 => bnd (C (V.top 592) [x4]) fun x5 => bnd (C (V.top 578) [x1, x3, x5]) fun x6 => ret (V.top 135) :=
  (runFn_k C (fnOf 823) [a0, a1] [("world", a0), ("args", a1)] (by kernel_rfl)).trans (by kernel_rfl)
theorem s830 (C : CallT) (a0 a1 : V) : runFn C (fnOf 830) [a0, a1] = bnd (C (V.top 655) [a0]) fun x1 => bnd (C (V.top 585) [x1]) fun x2 => ret (V.top 135) :=
  (runFn_k C (fnOf 830) [a0, a1] [("world", a0), ("args", a1)] (by kernel_rfl)).trans (by kernel_rfl)
theorem s872 (C : CallT) (a0 a1 : V) : runFn C (fnOf 872) [a0, a1] = bnd (itemM a1 (V.int 0)) fun x1 => bnd (C (V.top 669) [x1]) fun x2 => bnd (bnd (bnd (callB "len" [a1]) fun x3 => bnd (cmpM .Gt x3 (V.int 2)) fun c4 => stepT .And c4 ret (bnd (itemM a1 (V.int 2)) fun x5 => bnd (callB "isinstance" [x5, (V.top 464)]) fun x6 => bnd (boolM x6) fun b7 => stepT .And b7 ret (ret true))) fun c8 => if c8 then bnd (itemM a1 (V.int 2)) fun x9 => ret x9 else bnd (C (V.top 655) [a0]) fun x10 => ret x10) fun x11 => bnd (itemM a1 (V.int 1)) fun x12 => bnd (cmpM .Is x12 (V.top 135)) fun c13 => if c13 then bnd (C (V.top 599) [x2, V.none, (V.int 0)]) fun x14 => ret x2 else bnd (itemM a1 (V.int 1)) fun x15 => bnd (C (V.top 592) [x15]) fun x16 => bnd (C (V.top 599) [x2, x11, x16]) fun x17 => ret x2 :=
  (runFn_k C (fnOf 872) [a0, a1] [("world", a0), ("args", a1)] (by kernel_rfl)).trans (by kernel_rfl)
theorem s865 (C : CallT) (a0 a1 : V) : runFn C (fnOf 865) [a0, a1] = bnd (selM a0 "fresh_marker") fun f1 => if mayCall f1 then bnd (callV C f1 [a0]) fun x2 => bnd (bnd (callB "len" [a1]) fun x3 => bnd (cmpM .Gt x3 (V.int 1)) fun c4 => bnd (boolM (V.bool c4)) fun b5 => stepT .And b5 (fun _ => ret (V.bool c4)) (bnd (itemM a1 (V.int 1)) fun x6 => bnd (cmpM .IsNot x6 (V.top 135)) fun c7 => ret (V.bool c7))) fun x8 => bnd (C (V.top 290) [x2, x8]) fun x9 => bnd (itemM a1 (V.int 0)) fun x10 => bnd (callB "isinstance" [x10, (V.top 290)]) fun x11 => bnd (boolM x11) fun b12 => if b12 then bnd (itemM a1 (V.int 0)) fun x13 => bnd (attrM x13 "buffer") fun x14 => bnd (itemM a1 (V.int 0)) fun x15 => bnd (attrM x15 "position") fun x16 => bnd (C (V.top 599) [x9, x14, x16]) fun x17 => ret x9 else bnd (C (V.top 655) [a0]) fun x18 => bnd (itemM a1 (V.int 0)) fun x19 => bnd (C (V.top 592) [x19]) fun x20 => bnd (C (V.top 599) [x9, x18, x20]) fun x21 => ret x9 else stuck :=
  (runFn_k C (fnOf 865) [a0, a1] [("world", a0), ("args", a1)] (by kernel_rfl)).trans (by kernel_rfl)
theorem s879 (C : CallT) (a0 a1 : V) : runFn C (fnOf 879) [a0, a1] = bnd (itemM a1 (V.int 0)) fun x1 => bnd (C (V.top 669) [x1]) fun x2 => bnd (bnd (attrM x2 "buffer") fun x3 => bnd (cmpM .Is x3 V.none) fun c4 => if c4 then ret (V.top 135) else bnd (attrM x2 "position") fun x5 => ret x5) fun x6 => ret x6 :=
  (runFn_k C (fnOf 879) [a0, a1] [("world", a0), ("args", a1)] (by kernel_rfl)).trans (by kernel_rfl)
theorem s1243 (C : CallT) (a0 : V) : runFn C (fnOf 1243) [a0] = bnd (attrM a0 "last_marker") fun x1 => bnd (binM .Add x1 (V.int 1)) fun x2 => bnd (putAttrM a0 "last_marker" x2) fun _ => bnd (attrM a0 "last_marker") fun x3 => ret x3 :=
  (runFn_k C (fnOf 1243) [a0] [("self", a0)] (by kernel_rfl)).trans (by kernel_rfl)
theorem s1264 (C : CallT) (a0 a1 : V) : runFn C (fnOf 1264) [a0, a1] = bnd (itemM a0 (V.int 1)) fun x1 => bnd (binM .Add x1 (V.int 1)) fun x2 => bnd (putItemM a0 (V.int 1) x2) fun _ => bnd (itemM a0 (V.int 1)) fun x3 => bnd (itemM a0 (V.int 0)) fun x4 => bnd (callB "len" [x4]) fun x5 => bnd (cmpM .LtE x3 x5) fun c6 => if c6 then bnd (itemM a0 (V.int 0)) fun x7 => bnd (itemM a0 (V.int 1)) fun x8 => bnd (binM .Sub x8 (V.int 1)) fun x9 => bnd (itemM x7 x9) fun x10 => bnd (binM .Mod x10 a1) fun x11 => ret x11 else bnd (itemM a0 (V.int 1)) fun x12 => bnd (itemM a0 (V.int 1)) fun x13 => bnd (binM .Mult x12 x13) fun x14 => bnd (binM .Mult x14 (V.int 29)) fun x15 => bnd (itemM a0 (V.int 1)) fun x16 => bnd (binM .Mult (V.int 13) x16) fun x17 => bnd (binM .Add x15 x17) fun x18 => bnd (itemM a0 (V.int 0)) fun x19 => bnd (callB "len" [x19]) fun x20 => bnd (binM .Mult (V.int 5) x20) fun x21 => bnd (binM .Add x18 x21) fun x22 => bnd (binM .FloorDiv x22 (V.int 3)) fun x23 => bnd (binM .Mod x23 a1) fun x24 => ret x24 :=
  (runFn_k C (fnOf 1264) [a0, a1] [("deck", a0), ("many", a1)] (by kernel_rfl)).trans (by kernel_rfl)
theorem s1271 (C : CallT) (a0 a1 a2 a3 : V) : runFn C (fnOf 1271) [a0, a1, a2, a3] = tryK "refused" (exSs C (fnOf 1271).names (tryBody (stOf 1271 0)) [("deeds", a0), ("name", a1), ("world", a2), ("args", a3)]) fun q1 => seqK q1 (fun r => ret (r.1.getD .none)) fun ρ => kSs C (fnOf 1271).names ((fnOf 1271).body.drop 1) ρ fun r => ret (r.1.getD .none) :=
  (runFn_k C (fnOf 1271) [a0, a1, a2, a3] [("deeds", a0), ("name", a1), ("world", a2), ("args", a3)] (by kernel_rfl)).trans (by kernel_rfl)
theorem s1278 (C : CallT) (a0 a1 : V) : runFn C (fnOf 1278) [a0, a1] = bnd (itemM a1 (V.str "text")) fun x1 => bnd (callB "len" [x1]) fun x2 => bnd (binM .Add x2 (V.int 4)) fun x3 => bnd (C (V.top 1264) [a0, x3]) fun x4 => bnd (binM .Sub x4 (V.int 1)) fun x5 => ret x5 :=
  (runFn_k C (fnOf 1278) [a0, a1] [("deck", a0), ("own", a1)] (by kernel_rfl)).trans (by kernel_rfl)
theorem s1285 (C : CallT) (a0 a1 : V) : runFn C (fnOf 1285) [a0, a1] = bnd (bnd (itemM a0 (V.str "low")) fun x1 => bnd (bnd (cmpM .LtE x1 a1) fun c2 => if c2 then bnd (itemM a0 (V.str "high")) fun x3 => bnd (cmpM .Lt a1 x3) fun c4 => ret c4 else ret false) fun c5 => if c5 then bnd (itemM a0 (V.str "text")) fun x6 => bnd (binM .Sub a1 (V.int 1)) fun x7 => bnd (itemM x6 x7) fun x8 => ret x8 else ret V.none) fun x9 => ret x9 :=
  (runFn_k C (fnOf 1285) [a0, a1] [("own", a0), ("place", a1)] (by kernel_rfl)).trans (by kernel_rfl)
theorem s1292 (C : CallT) (a0 a1 : V) : runFn C (fnOf 1292) [a0, a1] = bnd (itemM a0 (V.str "point")) fun x1 => bnd (itemM a0 (V.str "text")) fun x2 => bnd (binM .Sub x1 (V.int 1)) fun x3 => bnd (sliceM x2 V.none x3) fun x4 => bnd (binM .Add x4 a1) fun x5 => bnd (itemM a0 (V.str "text")) fun x6 => bnd (binM .Sub x1 (V.int 1)) fun x7 => bnd (sliceM x6 x7 V.none) fun x8 => bnd (binM .Add x5 x8) fun x9 => bnd (putItemM a0 (V.str "text") x9) fun _ => bnd (itemM a0 (V.str "spots")) fun x11 => bnd (listOfM x11) fun p12 => bnd (eachM p12.1 p12.2 (forTurn C (fnOf 1292).names (stOf 1292 2)) p12.2 [("own", a0), ("signs", a1), ("at", x1)]) fun q10 => seqK q10 (fun r => ret (r.1.getD .none)) fun ρ => kSs C (fnOf 1292).names ((fnOf 1292).body.drop 3) ρ fun r => ret (r.1.getD .none) :=
  (runFn_k C (fnOf 1292) [a0, a1] [("own", a0), ("signs", a1)] (by kernel_rfl)).trans (by kernel_rfl)
theorem s1299 (C : CallT) (a0 a1 a2 : V) : runFn C (fnOf 1299) [a0, a1, a2] = bnd (itemM a0 (V.str "text")) fun x1 => bnd (binM .Sub a1 (V.int 1)) fun x2 => bnd (sliceM x1 V.none x2) fun x3 => bnd (itemM a0 (V.str "text")) fun x4 => bnd (binM .Sub a2 (V.int 1)) fun x5 => bnd (sliceM x4 x5 V.none) fun x6 => bnd (binM .Add x3 x6) fun x7 => bnd (putItemM a0 (V.str "text") x7) fun _ => bnd (itemM a0 (V.str "spots")) fun x9 => bnd (listOfM x9) fun p10 => bnd (eachM p10.1 p10.2 (forTurn C (fnOf 1299).names (stOf 1299 1)) p10.2 [("own", a0), ("low", a1), ("high", a2)]) fun q8 => seqK q8 (fun r => ret (r.1.getD .none)) fun ρ => kSs C (fnOf 1299).names ((fnOf 1299).body.drop 2) ρ fun r => ret (r.1.getD .none) :=
  (runFn_k C (fnOf 1299) [a0, a1, a2] [("own", a0), ("low", a1), ("high", a2)] (by kernel_rfl)).trans (by kernel_rfl)
theorem s1306 (C : CallT) (a0 a1 a2 a3 : V) : runFn C (fnOf 1306) [a0, a1, a2, a3] = bnd (C (V.top 1278) [a0, a1]) fun x1 => bnd (C (V.top 1278) [a0, a1]) fun x2 => bnd (newM (.tup [x1, x2])) fun _ => bnd (callB "min" [x1, x2]) fun x3 => bnd (callB "max" [x1, x2]) fun x4 => bnd (C (V.top 1264) [a0, (V.int 3)]) fun x5 => bnd (newM (.tup [x3, x4, x5])) fun _ => bnd (newM (.list [(V.str "delete-region"), (V.str "narrow-to-region"), (V.str "buffer-substring")])) fun x6 => bnd (itemM x6 x5) fun x7 => bnd (newM (.list [x1, x2])) fun x8 => bnd (C (V.top 1271) [a2, x7, a3, x8]) fun x9 => bnd (cmpM .Eq x5 (V.int 1)) fun c10 => if c10 then bnd (bnd (cmpM .Lt x3 (V.int 1)) fun c11 => stepT .Or c11 ret (bnd (itemM a1 (V.str "text")) fun x12 => bnd (callB "len" [x12]) fun x13 => bnd (binM .Add x13 (V.int 1)) fun x14 => bnd (cmpM .Gt x4 x14) fun c15 => stepT .Or c15 ret (ret false))) fun c16 => if c16 then bnd (newM (.list [(V.str "refused"), (V.str "args-out-of-range")])) fun x17 => bnd (newM (.tup [x9, x17])) fun x18 => ret x18 else bnd (itemM a1 (V.str "point")) fun x19 => bnd (callB "max" [x19, x3]) fun x20 => bnd (callB "min" [x20, x4]) fun x21 => bnd (newM (.tup [x3, x4, x21])) fun _ => bnd (putItemM a1 (V.str "low") x3) fun _ => bnd (putItemM a1 (V.str "high") x4) fun _ => bnd (putItemM a1 (V.str "point") x21) fun _ => bnd (newM (.list [(V.str "nil")])) fun x22 => bnd (newM (.tup [x9, x22])) fun x23 => ret x23 else bnd (bnd (itemM a1 (V.str "low")) fun x24 => bnd (cmpM .Lt x3 x24) fun c25 => stepT .Or c25 ret (bnd (itemM a1 (V.str "high")) fun x26 => bnd (cmpM .Gt x4 x26) fun c27 => stepT .Or c27 ret (ret false))) fun c28 => if c28 then bnd (newM (.list [(V.str "refused"), (V.str "args-out-of-range")])) fun x29 => bnd (newM (.tup [x9, x29])) fun x30 => ret x30 else bnd (cmpM .Eq x5 (V.int 2)) fun c31 => if c31 then bnd (itemM a1 (V.str "text")) fun x32 => bnd (binM .Sub x3 (V.int 1)) fun x33 => bnd (binM .Sub x4 (V.int 1)) fun x34 => bnd (sliceM x32 x33 x34) fun x35 => bnd (newM (.list [(V.str "text"), x35])) fun x36 => bnd (newM (.tup [x9, x36])) fun x37 => ret x37 else bnd (C (V.top 1299) [a1, x3, x4]) fun x38 => bnd (newM (.list [(V.str "nil")])) fun x39 => bnd (newM (.tup [x9, x39])) fun x40 => ret x40 :=
  (runFn_k C (fnOf 1306) [a0, a1, a2, a3] [("deck", a0), ("own", a1), ("deeds", a2), ("world", a3)] (by kernel_rfl)).trans (by kernel_rfl)
theorem s1313 (C : CallT) (a0 a1 a2 a3 a4 : V) : runFn C (fnOf 1313) [a0, a1, a2, a3, a4] = bnd (C (V.top 1278) [a0, a1]) fun x1 => bnd (itemM a1 (V.str "text")) fun x2 => bnd (callB "len" [x2]) fun x3 => bnd (newM (.tup [x1, x3])) fun _ => bnd (callB "max" [x1, (V.int 1)]) fun x4 => bnd (binM .Add x3 (V.int 1)) fun x5 => bnd (callB "min" [x4, x5]) fun x6 => bnd (bnd (newM (.list [])) fun x7 => bnd (cmpM .Eq a4 x7) fun c8 => stepT .Or c8 ret (bnd (C (V.top 1264) [a0, (V.int 2)]) fun x9 => bnd (cmpM .Eq x9 (V.int 0)) fun c10 => stepT .Or c10 ret (ret false))) fun c11 => if c11 then bnd (C (V.top 1264) [a0, (V.int 2)]) fun x12 => bnd (cmpM .Eq x12 (V.int 1)) fun c13 => bnd (selM a4 "append") fun f14 => if mayCall f14 then bnd (itemM a2 (V.str "copy-marker")) fun x15 => if mayCall x15 then bnd (bnd (boolM (V.bool c13)) fun b16 => if b16 then ret (V.top 138) else ret (V.top 135)) fun x17 => bnd (newM (.list [x1, x17])) fun x18 => bnd (callV C x15 [a3, x18]) fun x19 => bnd (callV C f14 [a4, x19]) fun x20 => bnd (itemM a1 (V.str "spots")) fun x21 => bnd (selM x21 "append") fun f22 => if mayCall f22 then bnd (newM (.list [x6, (V.bool c13)])) fun x23 => bnd (callV C f22 [x21, x23]) fun x24 => ret (V.bool true) else stuck else stuck else stuck else bnd (callB "len" [a4]) fun x25 => bnd (C (V.top 1264) [a0, x25]) fun x26 => bnd (itemM a1 (V.str "spots")) fun x27 => bnd (itemM x27 x26) fun x28 => bnd (putItemM x28 (V.int 0) x6) fun _ => bnd (itemM a2 (V.str "set-marker")) fun x29 => if mayCall x29 then bnd (itemM a4 x26) fun x30 => bnd (newM (.list [x30, x1])) fun x31 => bnd (callV C x29 [a3, x31]) fun x32 => bnd (itemM a4 x26) fun x33 => bnd (cmpM .Is x32 x33) fun c34 => ret (V.bool c34) else stuck :=
  (runFn_k C (fnOf 1313) [a0, a1, a2, a3, a4] [("deck", a0), ("own", a1), ("deeds", a2), ("world", a3), ("things", a4)] (by kernel_rfl)).trans (by kernel_rfl)
theorem s1320 (C : CallT) (a0 a1 a2 a3 : V) : runFn C (fnOf 1320) [a0, a1, a2, a3] = bnd (C (V.top 1264) [a0, (V.int 6)]) fun x1 => bnd (C (V.top 1278) [a0, a1]) fun x2 => bnd (newM (.tup [x1, x2])) fun _ => bnd (cmpM .Eq x1 (V.int 0)) fun c3 => if c3 then bnd (itemM a1 (V.str "low")) fun x4 => bnd (callB "max" [x2, x4]) fun x5 => bnd (itemM a1 (V.str "high")) fun x6 => bnd (callB "min" [x5, x6]) fun x7 => bnd (putItemM a1 (V.str "point") x7) fun _ => bnd (newM (.list [x2])) fun x8 => bnd (C (V.top 1271) [a2, (V.str "goto-char"), a3, x8]) fun x9 => bnd (newM (.list [(V.str "told"), x2])) fun x10 => bnd (newM (.tup [x9, x10])) fun x11 => ret x11 else bnd (cmpM .Eq x1 (V.int 1)) fun c12 => if c12 then bnd (C (V.top 1285) [a1, x2]) fun x13 => bnd (newM (.list [x2])) fun x14 => bnd (C (V.top 1271) [a2, (V.str "char-after"), a3, x14]) fun x15 => bnd (bnd (cmpM .Is x13 V.none) fun c16 => if c16 then bnd (newM (.list [(V.str "nil")])) fun x17 => ret x17 else bnd (newM (.list [(V.str "told"), x13])) fun x18 => ret x18) fun x19 => bnd (newM (.tup [x15, x19])) fun x20 => ret x20 else bnd (cmpM .Eq x1 (V.int 2)) fun c21 => if c21 then bnd (binM .Sub x2 (V.int 1)) fun x22 => bnd (C (V.top 1285) [a1, x22]) fun x23 => bnd (newM (.list [x2])) fun x24 => bnd (C (V.top 1271) [a2, (V.str "char-before"), a3, x24]) fun x25 => bnd (bnd (cmpM .Is x23 V.none) fun c26 => if c26 then bnd (newM (.list [(V.str "nil")])) fun x27 => ret x27 else bnd (newM (.list [(V.str "told"), x23])) fun x28 => ret x28) fun x29 => bnd (newM (.tup [x25, x29])) fun x30 => ret x30 else bnd (cmpM .Eq x1 (V.int 3)) fun c31 => if c31 then bnd (itemM a1 (V.str "text")) fun x32 => bnd (callB "len" [x32]) fun x33 => bnd (binM .Add x33 (V.int 1)) fun x34 => bnd (newM (.tup [(V.int 1), x34])) fun _ => bnd (putItemM a1 (V.str "low") (V.int 1)) fun _ => bnd (putItemM a1 (V.str "high") x34) fun _ => bnd (newM (.list [])) fun x35 => bnd (C (V.top 1271) [a2, (V.str "widen"), a3, x35]) fun x36 => bnd (newM (.list [(V.str "nil")])) fun x37 => bnd (newM (.tup [x36, x37])) fun x38 => ret x38 else bnd (cmpM .Eq x1 (V.int 4)) fun c39 => if c39 then bnd (itemM a1 (V.str "text")) fun x40 => bnd (callB "len" [x40]) fun x41 => bnd (binM .Add x41 (V.int 1)) fun x42 => bnd (newM (.tup [(V.int 1), x42])) fun _ => bnd (putItemM a1 (V.str "low") (V.int 1)) fun _ => bnd (putItemM a1 (V.str "high") x42) fun _ => bnd (itemM a1 (V.str "high")) fun x43 => bnd (C (V.top 1299) [a1, (V.int 1), x43]) fun x44 => bnd (newM (.list [])) fun x45 => bnd (C (V.top 1271) [a2, (V.str "erase-buffer"), a3, x45]) fun x46 => bnd (newM (.list [(V.str "nil")])) fun x47 => bnd (newM (.tup [x46, x47])) fun x48 => ret x48 else bnd (newM (.list [(V.top 135)])) fun x49 => bnd (C (V.top 1271) [a2, (V.str "insert"), a3, x49]) fun x50 => bnd (newM (.list [(V.str "refused"), (V.str "wrong-type-argument")])) fun x51 => bnd (newM (.tup [x50, x51])) fun x52 => ret x52 :=
  (runFn_k C (fnOf 1320) [a0, a1, a2, a3] [("deck", a0), ("own", a1), ("deeds", a2), ("world", a3)] (by kernel_rfl)).trans (by kernel_rfl)
theorem s175 (C : CallT) (a0 a1 : V) : runFn C (fnOf 175) [a0, a1] = bnd (putAttrM a0 "codes" a1) fun _ => bnd (putAttrM a0 "spans" V.none) fun _ => ret V.none :=
  (runFn_k C (fnOf 175) [a0, a1] [("self", a0), ("codes", a1), ("spans", V.none)] (by kernel_rfl)).trans (by kernel_rfl)
theorem s557 (C : CallT) (a0 a1 : V) : runFn C (fnOf 557) [a0, a1] = bnd (attrM a0 "point") fun x1 => bnd (C (V.top 549) [a0, x1, a1, (V.bool false), (V.bool true)]) fun x2 => ret V.none :=
  (runFn_k C (fnOf 557) [a0, a1] [("buffer", a0), ("codes", a1), ("before_markers", (V.bool false))] (by kernel_rfl)).trans (by kernel_rfl)
theorem s1325_0 (C : CallT) (K : Option V × Loc → Mx V) (a0 a1 a2 a3 : V) : kS C (fnOf 1325).names (stOf 1325 0) [("own", a0), ("deeds", a1), ("world", a2), ("things", a3)] K = bnd (itemM a0 (V.str "point")) fun x1 => bnd (itemM a0 (V.str "low")) fun x2 => bnd (itemM a0 (V.str "high")) fun x3 => bnd (newM (.tup [x1, x2, x3])) fun _ => K (none, [("own", a0), ("deeds", a1), ("world", a2), ("things", a3), ("high", x3), ("low", x2), ("point", x1)]) := by kernel_rfl
theorem s1325_1 (C : CallT) (K : Option V × Loc → Mx V) (b0 b1 b2 b3 b4 b5 b6 : V) : kS C (fnOf 1325).names (stOf 1325 1) [("own", b0), ("deeds", b1), ("world", b2), ("things", b3), ("high", b4), ("low", b5), ("point", b6)] K = bnd (newM (.list [(V.str "point"), (V.str "point-min"), (V.str "point-max"), (V.str "buffer-size")])) fun x1 => K (none, [("own", b0), ("deeds", b1), ("world", b2), ("things", b3), ("high", b4), ("low", b5), ("point", b6), ("wanted", x1)]) := by kernel_rfl
theorem s1325_2 (C : CallT) (K : Option V × Loc → Mx V) (b0 b1 b2 b3 b4 b5 b6 b7 : V) : kS C (fnOf 1325).names (stOf 1325 2) [("own", b0), ("deeds", b1), ("world", b2), ("things", b3), ("high", b4), ("low", b5), ("point", b6), ("wanted", b7)] K = bnd (listOfM b7) fun p1 => bnd (compM p1.1 p1.2 (fun w2 => noExc (bnd (itemM b1 w2) fun x4 => if mayCall x4 then bnd (newM (.list [])) fun x5 => bnd (callV C x4 [b2, x5]) fun x6 => ret x6 else stuck)) p1.2) fun ws3 => bnd (newM (.list ws3)) fun x7 => bnd (itemM b0 (V.str "text")) fun x8 => bnd (callB "len" [x8]) fun x9 => bnd (newM (.list [b6, b5, b4, x9])) fun x10 => bnd (cmpM .NotEq x7 x10) fun c11 => if c11 then K (some (V.bool false), [("own", b0), ("deeds", b1), ("world", b2), ("things", b3), ("high", b4), ("low", b5), ("point", b6), ("wanted", b7)]) else K (none, [("own", b0), ("deeds", b1), ("world", b2), ("things", b3), ("high", b4), ("low", b5), ("point", b6), ("wanted", b7)]) := by kernel_rfl
theorem s1325_3 (C : CallT) (K : Option V × Loc → Mx V) (b0 b1 b2 b3 b4 b5 b6 b7 : V) : kS C (fnOf 1325).names (stOf 1325 3) [("own", b0), ("deeds", b1), ("world", b2), ("things", b3), ("high", b4), ("low", b5), ("point", b6), ("wanted", b7)] K = bnd (binM .Sub b6 (V.int 1)) fun x1 => bnd (C (V.top 1285) [b0, x1]) fun x2 => bnd (C (V.top 1285) [b0, b6]) fun x3 => bnd (newM (.tup [x2, x3])) fun _ => K (none, [("own", b0), ("deeds", b1), ("world", b2), ("things", b3), ("high", b4), ("low", b5), ("point", b6), ("wanted", b7), ("behind", x3), ("ahead", x2)]) := by kernel_rfl
theorem s1325_4 (C : CallT) (K : Option V × Loc → Mx V) (b0 b1 b2 b3 b4 b5 b6 b7 b8 b9 : V) : kS C (fnOf 1325).names (stOf 1325 4) [("own", b0), ("deeds", b1), ("world", b2), ("things", b3), ("high", b4), ("low", b5), ("point", b6), ("wanted", b7), ("behind", b8), ("ahead", b9)] K = bnd (cmpM .Eq b6 b5) fun c1 => bnd (cmpM .Eq b6 b4) fun c2 => bnd (newM (.tup [V.none, (V.int 10)])) fun x3 => bnd (cmpM .In b9 x3) fun c4 => bnd (newM (.tup [V.none, (V.int 10)])) fun x5 => bnd (cmpM .In b8 x5) fun c6 => bnd (newM (.list [(V.bool c1), (V.bool c2), (V.bool c4), (V.bool c6)])) fun x7 => K (none, [("own", b0), ("deeds", b1), ("world", b2), ("things", b3), ("high", b4), ("low", b5), ("point", b6), ("wanted", b7), ("behind", b8), ("ahead", b9), ("due", x7)]) := by kernel_rfl
theorem s1325_5 (C : CallT) (K : Option V × Loc → Mx V) (b0 b1 b2 b3 b4 b5 b6 b7 b8 b9 b10 : V) : kS C (fnOf 1325).names (stOf 1325 5) [("own", b0), ("deeds", b1), ("world", b2), ("things", b3), ("high", b4), ("low", b5), ("point", b6), ("wanted", b7), ("behind", b8), ("ahead", b9), ("due", b10)] K = bnd (newM (.list [(V.str "bobp"), (V.str "eobp"), (V.str "bolp"), (V.str "eolp")])) fun x1 => bnd (listOfM x1) fun p2 => bnd (compM p2.1 p2.2 (fun w3 => noExc (bnd (itemM b1 w3) fun x5 => if mayCall x5 then bnd (newM (.list [])) fun x6 => bnd (callV C x5 [b2, x6]) fun x7 => bnd (cmpM .Is x7 (V.top 138)) fun c8 => ret (V.bool c8) else stuck)) p2.2) fun ws4 => bnd (newM (.list ws4)) fun x9 => bnd (cmpM .NotEq x9 b10) fun c10 => if c10 then K (some (V.bool false), [("own", b0), ("deeds", b1), ("world", b2), ("things", b3), ("high", b4), ("low", b5), ("point", b6), ("wanted", b7), ("behind", b8), ("ahead", b9), ("due", b10)]) else K (none, [("own", b0), ("deeds", b1), ("world", b2), ("things", b3), ("high", b4), ("low", b5), ("point", b6), ("wanted", b7), ("behind", b8), ("ahead", b9), ("due", b10)]) := by kernel_rfl
theorem s1325_6 (C : CallT) (K : Option V × Loc → Mx V) (b0 b1 b2 b3 b4 b5 b6 b7 b8 b9 b10 : V) : kS C (fnOf 1325).names (stOf 1325 6) [("own", b0), ("deeds", b1), ("world", b2), ("things", b3), ("high", b4), ("low", b5), ("point", b6), ("wanted", b7), ("behind", b8), ("ahead", b9), ("due", b10)] K = bnd (newM (.list [(V.str "preceding-char"), (V.str "following-char")])) fun x1 => bnd (listOfM x1) fun p2 => bnd (compM p2.1 p2.2 (fun w3 => noExc (bnd (itemM b1 w3) fun x5 => if mayCall x5 then bnd (newM (.list [])) fun x6 => bnd (callV C x5 [b2, x6]) fun x7 => ret x7 else stuck)) p2.2) fun ws4 => bnd (newM (.list ws4)) fun x8 => K (none, [("own", b0), ("deeds", b1), ("world", b2), ("things", b3), ("high", b4), ("low", b5), ("point", b6), ("wanted", b7), ("behind", b8), ("ahead", b9), ("due", b10), ("signs", x8)]) := by kernel_rfl
theorem s1325_7 (C : CallT) (K : Option V × Loc → Mx V) (b0 b1 b2 b3 b4 b5 b6 b7 b8 b9 b10 b11 : V) : kS C (fnOf 1325).names (stOf 1325 7) [("own", b0), ("deeds", b1), ("world", b2), ("things", b3), ("high", b4), ("low", b5), ("point", b6), ("wanted", b7), ("behind", b8), ("ahead", b9), ("due", b10), ("signs", b11)] K = bnd (newM (.list [b9, b8])) fun x1 => bnd (listOfM x1) fun p2 => bnd (compM p2.1 p2.2 (fun w3 => noExc (bnd (bnd (cmpM .Is w3 V.none) fun c5 => if c5 then ret (V.int 0) else ret w3) fun x6 => ret x6)) p2.2) fun ws4 => bnd (newM (.list ws4)) fun x7 => bnd (cmpM .NotEq b11 x7) fun c8 => if c8 then K (some (V.bool false), [("own", b0), ("deeds", b1), ("world", b2), ("things", b3), ("high", b4), ("low", b5), ("point", b6), ("wanted", b7), ("behind", b8), ("ahead", b9), ("due", b10), ("signs", b11)]) else K (none, [("own", b0), ("deeds", b1), ("world", b2), ("things", b3), ("high", b4), ("low", b5), ("point", b6), ("wanted", b7), ("behind", b8), ("ahead", b9), ("due", b10), ("signs", b11)]) := by kernel_rfl
theorem s1325_8 (C : CallT) (K : Option V × Loc → Mx V) (b0 b1 b2 b3 b4 b5 b6 b7 b8 b9 b10 b11 : V) : kS C (fnOf 1325).names (stOf 1325 8) [("own", b0), ("deeds", b1), ("world", b2), ("things", b3), ("high", b4), ("low", b5), ("point", b6), ("wanted", b7), ("behind", b8), ("ahead", b9), ("due", b10), ("signs", b11)] K = bnd (itemM b1 (V.str "buffer-string")) fun x1 => if mayCall x1 then bnd (newM (.list [])) fun x2 => bnd (callV C x1 [b2, x2]) fun x3 => bnd (attrM x3 "codes") fun x4 => bnd (itemM b0 (V.str "text")) fun x5 => bnd (binM .Sub b5 (V.int 1)) fun x6 => bnd (binM .Sub b4 (V.int 1)) fun x7 => bnd (sliceM x5 x6 x7) fun x8 => bnd (cmpM .NotEq x4 x8) fun c9 => if c9 then K (some (V.bool false), [("own", b0), ("deeds", b1), ("world", b2), ("things", b3), ("high", b4), ("low", b5), ("point", b6), ("wanted", b7), ("behind", b8), ("ahead", b9), ("due", b10), ("signs", b11)]) else K (none, [("own", b0), ("deeds", b1), ("world", b2), ("things", b3), ("high", b4), ("low", b5), ("point", b6), ("wanted", b7), ("behind", b8), ("ahead", b9), ("due", b10), ("signs", b11)]) else stuck := by kernel_rfl
theorem s1325_9 (C : CallT) (K : Option V × Loc → Mx V) (b0 b1 b2 b3 b4 b5 b6 b7 b8 b9 b10 b11 : V) : kS C (fnOf 1325).names (stOf 1325 9) [("own", b0), ("deeds", b1), ("world", b2), ("things", b3), ("high", b4), ("low", b5), ("point", b6), ("wanted", b7), ("behind", b8), ("ahead", b9), ("due", b10), ("signs", b11)] K = bnd (listOfM b3) fun p1 => bnd (compM p1.1 p1.2 (fun w2 => noExc (bnd (itemM b1 (V.str "marker-position")) fun x4 => if mayCall x4 then bnd (newM (.list [w2])) fun x5 => bnd (callV C x4 [b2, x5]) fun x6 => ret x6 else stuck)) p1.2) fun ws3 => bnd (newM (.list ws3)) fun x7 => bnd (itemM b0 (V.str "spots")) fun x8 => bnd (listOfM x8) fun p9 => bnd (compM p9.1 p9.2 (fun w10 => noExc (bnd (itemM w10 (V.int 0)) fun x12 => ret x12)) p9.2) fun ws11 => bnd (newM (.list ws11)) fun x13 => bnd (cmpM .Eq x7 x13) fun c14 => K (some (V.bool c14), [("own", b0), ("deeds", b1), ("world", b2), ("things", b3), ("high", b4), ("low", b5), ("point", b6), ("wanted", b7), ("behind", b8), ("ahead", b9), ("due", b10), ("signs", b11)]) := by kernel_rfl
theorem t341 (C : CallT) (a0 a1 a2 a3 v : V) (ρt : Loc) : forTurn C (fnOf 341).names (stOf 341 0) v (("self", a0) :: ("start", a1) :: ("end", a2) :: ("is_before", a3) :: ρt : Loc) = bnd (attrM a0 "rows") fun x1 => bnd (opt (List.lookup ("number" : Str) (setL "number" v (ρt)))) fun x2 => bnd (itemM x1 x2) fun x3 => bnd (bnd (opt (List.lookup ("marker" : Str) (setL "marker" x3 (setL "number" v (ρt))))) fun x4 => bnd (attrM x4 "position") fun x5 => bnd (cmpM .Gt x5 a1) fun c6 => stepT .Or c6 ret (bnd (bnd (opt (List.lookup ("marker" : Str) (setL "marker" x3 (setL "number" v (ρt))))) fun x7 => bnd (attrM x7 "position") fun x8 => bnd (cmpM .Eq x8 a1) fun c9 => stepT .And c9 ret (bnd (bnd (boolM a3) fun b10 => stepT .Or b10 ret (bnd (opt (List.lookup ("marker" : Str) (setL "marker" x3 (setL "number" v (ρt))))) fun x11 => bnd (attrM x11 "advances") fun x12 => bnd (boolM x12) fun b13 => stepT .Or b13 ret (ret false))) fun c14 => stepT .And c14 ret (ret true))) fun c15 => stepT .Or c15 ret (ret false))) fun c16 => if c16 then bnd (opt (List.lookup ("marker" : Str) (setL "marker" x3 (setL "number" v (ρt))))) fun x17 => bnd (attrM x17 "position") fun x18 => bnd (binM .Add x18 a2) fun x19 => bnd (binM .Sub x19 a1) fun x20 => bnd (opt (List.lookup ("marker" : Str) (setL "marker" x3 (setL "number" v (ρt))))) fun x21 => bnd (putAttrM x21 "position" x20) fun _ => ret (none, (("self", a0) :: ("start", a1) :: ("end", a2) :: ("is_before", a3) :: setL "marker" x3 (setL "number" v (ρt)) : Loc)) else ret (none, (("self", a0) :: ("start", a1) :: ("end", a2) :: ("is_before", a3) :: setL "marker" x3 (setL "number" v (ρt)) : Loc)) :=
  (forTurn_k C _ _ v _).trans (by kernel_rfl)
theorem t348 (C : CallT) (a0 a1 a2 v : V) (ρt : Loc) : forTurn C (fnOf 348).names (stOf 348 0) v (("self", a0) :: ("start", a1) :: ("end", a2) :: ρt : Loc) = bnd (attrM a0 "rows") fun x1 => bnd (opt (List.lookup ("number" : Str) (setL "number" v (ρt)))) fun x2 => bnd (itemM x1 x2) fun x3 => bnd (opt (List.lookup ("marker" : Str) (setL "marker" x3 (setL "number" v (ρt))))) fun x4 => bnd (attrM x4 "position") fun x5 => bnd (cmpM .Gt x5 a2) fun c6 => if c6 then bnd (opt (List.lookup ("marker" : Str) (setL "marker" x3 (setL "number" v (ρt))))) fun x7 => bnd (attrM x7 "position") fun x8 => bnd (binM .Sub a2 a1) fun x9 => bnd (binM .Sub x8 x9) fun x10 => bnd (opt (List.lookup ("marker" : Str) (setL "marker" x3 (setL "number" v (ρt))))) fun x11 => bnd (putAttrM x11 "position" x10) fun _ => ret (none, (("self", a0) :: ("start", a1) :: ("end", a2) :: setL "marker" x3 (setL "number" v (ρt)) : Loc)) else bnd (opt (List.lookup ("marker" : Str) (setL "marker" x3 (setL "number" v (ρt))))) fun x12 => bnd (attrM x12 "position") fun x13 => bnd (cmpM .Gt x13 a1) fun c14 => if c14 then bnd (opt (List.lookup ("marker" : Str) (setL "marker" x3 (setL "number" v (ρt))))) fun x15 => bnd (putAttrM x15 "position" a1) fun _ => ret (none, (("self", a0) :: ("start", a1) :: ("end", a2) :: setL "marker" x3 (setL "number" v (ρt)) : Loc)) else ret (none, (("self", a0) :: ("start", a1) :: ("end", a2) :: setL "marker" x3 (setL "number" v (ρt)) : Loc)) :=
  (forTurn_k C _ _ v _).trans (by kernel_rfl)
theorem t774 (C : CallT) (a0 a1 a2 v : V) (ρt : Loc) : forTurn C (fnOf 774).names (stOf 774 1) v (("world", a0) :: ("args", a1) :: ("buffer", a2) :: ρt : Loc) = bnd (opt (List.lookup ("value" : Str) (setL "value" v (ρt)))) fun x1 => bnd (callB "isinstance" [x1, (V.top 178)]) fun x2 => bnd (boolM x2) fun b3 => if b3 then bnd (opt (List.lookup ("value" : Str) (setL "value" v (ρt)))) fun x4 => bnd (attrM x4 "codes") fun x5 => bnd (callT "list" [x5]) fun x6 => bnd (C (V.top 557) [a2, x6]) fun x7 => ret (none, (("world", a0) :: ("args", a1) :: ("buffer", a2) :: setL "value" v (ρt) : Loc)) else bnd (opt (List.lookup ("value" : Str) (setL "value" v (ρt)))) fun x8 => bnd (C (V.top 662) [x8]) fun x9 => bnd (newM (.list [x9])) fun x10 => bnd (C (V.top 557) [a2, x10]) fun x11 => ret (none, (("world", a0) :: ("args", a1) :: ("buffer", a2) :: setL "value" v (ρt) : Loc)) :=
  (forTurn_k C _ _ v _).trans (by kernel_rfl)
theorem t1292 (C : CallT) (a0 a1 a2 v : V) (ρt : Loc) : forTurn C (fnOf 1292).names (stOf 1292 2) v (("own", a0) :: ("signs", a1) :: ("at", a2) :: ρt : Loc) = bnd (bnd (opt (List.lookup ("spot" : Str) (setL "spot" v (ρt)))) fun x1 => bnd (itemM x1 (V.int 0)) fun x2 => bnd (cmpM .Gt x2 a2) fun c3 => stepT .Or c3 ret (bnd (bnd (opt (List.lookup ("spot" : Str) (setL "spot" v (ρt)))) fun x4 => bnd (itemM x4 (V.int 0)) fun x5 => bnd (cmpM .Eq x5 a2) fun c6 => stepT .And c6 ret (bnd (opt (List.lookup ("spot" : Str) (setL "spot" v (ρt)))) fun x7 => bnd (itemM x7 (V.int 1)) fun x8 => bnd (boolM x8) fun b9 => stepT .And b9 ret (ret true))) fun c10 => stepT .Or c10 ret (ret false))) fun c11 => if c11 then bnd (opt (List.lookup ("spot" : Str) (setL "spot" v (ρt)))) fun x12 => bnd (itemM x12 (V.int 0)) fun x13 => bnd (callB "len" [a1]) fun x14 => bnd (binM .Add x13 x14) fun x15 => bnd (opt (List.lookup ("spot" : Str) (setL "spot" v (ρt)))) fun x16 => bnd (putItemM x16 (V.int 0) x15) fun _ => ret (none, (("own", a0) :: ("signs", a1) :: ("at", a2) :: setL "spot" v (ρt) : Loc)) else ret (none, (("own", a0) :: ("signs", a1) :: ("at", a2) :: setL "spot" v (ρt) : Loc)) :=
  (forTurn_k C _ _ v _).trans (by kernel_rfl)
theorem t1299 (C : CallT) (a0 a1 a2 v : V) (ρt : Loc) : forTurn C (fnOf 1299).names (stOf 1299 1) v (("own", a0) :: ("low", a1) :: ("high", a2) :: ρt : Loc) = bnd (opt (List.lookup ("spot" : Str) (setL "spot" v (ρt)))) fun x1 => bnd (itemM x1 (V.int 0)) fun x2 => bnd (cmpM .Gt x2 a1) fun c3 => if c3 then bnd (opt (List.lookup ("spot" : Str) (setL "spot" v (ρt)))) fun x4 => bnd (itemM x4 (V.int 0)) fun x5 => bnd (binM .Sub a2 a1) fun x6 => bnd (binM .Sub x5 x6) fun x7 => bnd (callB "max" [a1, x7]) fun x8 => bnd (opt (List.lookup ("spot" : Str) (setL "spot" v (ρt)))) fun x9 => bnd (putItemM x9 (V.int 0) x8) fun _ => ret (none, (("own", a0) :: ("low", a1) :: ("high", a2) :: setL "spot" v (ρt) : Loc)) else ret (none, (("own", a0) :: ("low", a1) :: ("high", a2) :: setL "spot" v (ρt) : Loc)) :=
  (forTurn_k C _ _ v _).trans (by kernel_rfl)
theorem t1330 (C : CallT) (a0 a1 a2 a3 a4 a5 v : V) (ρt : Loc) : forTurn C (fnOf 1330).names (stOf 1330 5) v (("script", a0) :: ("things", a1) :: ("world", a2) :: ("deck", a3) :: ("deeds", a4) :: ("own", a5) :: ρt : Loc) = bnd (C (V.top 1264) [a3, (V.int 5)]) fun x1 => bnd (opt (List.lookup ("way" : Str) (setL "way" x1 (setL "turn" v (ρt))))) fun x2 => bnd (cmpM .Eq x2 (V.int 0)) fun c3 => if c3 then bnd (newM (.list [(V.int 101)])) fun x4 => bnd (newM (.list [(V.int 102), (V.int 10)])) fun x5 => bnd (newM (.list [])) fun x6 => bnd (newM (.list [(V.int 103)])) fun x7 => bnd (binM .Mult x7 (V.int 3)) fun x8 => bnd (newM (.list [x4, x5, x6, x8])) fun x9 => bnd (C (V.top 1264) [a3, (V.int 4)]) fun x10 => bnd (itemM x9 x10) fun x11 => bnd (opt (List.lookup ("signs" : Str) (setL "signs" x11 (setL "way" x1 (setL "turn" v (ρt)))))) fun x12 => bnd (callT "list" [x12]) fun x13 => bnd (C (V.top 178) [x13]) fun x14 => bnd (newM (.list [x14])) fun x15 => bnd (C (V.top 1271) [a4, (V.str "insert"), a2, x15]) fun x16 => bnd (opt (List.lookup ("signs" : Str) (setL "signs" x11 (setL "way" x1 (setL "turn" v (ρt)))))) fun x17 => bnd (C (V.top 1292) [a5, x17]) fun x18 => bnd (newM (.tup [x16, x18])) fun x19 => bnd (bnd (opt (List.lookup ("given" : Str) (setL "given" x19 (setL "signs" x11 (setL "way" x1 (setL "turn" v (ρt))))))) fun x20 => bnd (itemM x20 (V.int 0)) fun x21 => bnd (opt (List.lookup ("given" : Str) (setL "given" x19 (setL "signs" x11 (setL "way" x1 (setL "turn" v (ρt))))))) fun x22 => bnd (itemM x22 (V.int 1)) fun x23 => bnd (cmpM .NotEq x21 x23) fun c24 => stepT .Or c24 ret (bnd (C (V.top 1325) [a5, a4, a2, a1]) fun x25 => bnd (boolM x25) fun b26 => stepT .Or (!b26) ret (ret false))) fun c27 => if c27 then ret (some (V.bool false), (("script", a0) :: ("things", a1) :: ("world", a2) :: ("deck", a3) :: ("deeds", a4) :: ("own", a5) :: setL "given" x19 (setL "signs" x11 (setL "way" x1 (setL "turn" v (ρt)))) : Loc)) else ret (none, (("script", a0) :: ("things", a1) :: ("world", a2) :: ("deck", a3) :: ("deeds", a4) :: ("own", a5) :: setL "given" x19 (setL "signs" x11 (setL "way" x1 (setL "turn" v (ρt)))) : Loc)) else bnd (opt (List.lookup ("way" : Str) (setL "way" x1 (setL "turn" v (ρt))))) fun x28 => bnd (cmpM .Eq x28 (V.int 1)) fun c29 => if c29 then bnd (C (V.top 1264) [a3, (V.int 4)]) fun x30 => bnd (binM .Sub x30 (V.int 1)) fun x31 => bnd (opt (List.lookup ("many" : Str) (setL "many" x31 (setL "way" x1 (setL "turn" v (ρt)))))) fun x32 => bnd (newM (.list [(V.int 120), x32])) fun x33 => bnd (C (V.top 1271) [a4, (V.str "insert-char"), a2, x33]) fun x34 => bnd (newM (.list [(V.int 120)])) fun x35 => bnd (opt (List.lookup ("many" : Str) (setL "many" x31 (setL "way" x1 (setL "turn" v (ρt)))))) fun x36 => bnd (callB "max" [(V.int 0), x36]) fun x37 => bnd (binM .Mult x35 x37) fun x38 => bnd (C (V.top 1292) [a5, x38]) fun x39 => bnd (newM (.tup [x34, x39])) fun x40 => bnd (bnd (opt (List.lookup ("given" : Str) (setL "given" x40 (setL "many" x31 (setL "way" x1 (setL "turn" v (ρt))))))) fun x41 => bnd (itemM x41 (V.int 0)) fun x42 => bnd (opt (List.lookup ("given" : Str) (setL "given" x40 (setL "many" x31 (setL "way" x1 (setL "turn" v (ρt))))))) fun x43 => bnd (itemM x43 (V.int 1)) fun x44 => bnd (cmpM .NotEq x42 x44) fun c45 => stepT .Or c45 ret (bnd (C (V.top 1325) [a5, a4, a2, a1]) fun x46 => bnd (boolM x46) fun b47 => stepT .Or (!b47) ret (ret false))) fun c48 => if c48 then ret (some (V.bool false), (("script", a0) :: ("things", a1) :: ("world", a2) :: ("deck", a3) :: ("deeds", a4) :: ("own", a5) :: setL "given" x40 (setL "many" x31 (setL "way" x1 (setL "turn" v (ρt)))) : Loc)) else ret (none, (("script", a0) :: ("things", a1) :: ("world", a2) :: ("deck", a3) :: ("deeds", a4) :: ("own", a5) :: setL "given" x40 (setL "many" x31 (setL "way" x1 (setL "turn" v (ρt)))) : Loc)) else bnd (opt (List.lookup ("way" : Str) (setL "way" x1 (setL "turn" v (ρt))))) fun x49 => bnd (cmpM .Eq x49 (V.int 2)) fun c50 => if c50 then bnd (C (V.top 1306) [a3, a5, a4, a2]) fun x51 => bnd (bnd (opt (List.lookup ("given" : Str) (setL "given" x51 (setL "way" x1 (setL "turn" v (ρt)))))) fun x52 => bnd (itemM x52 (V.int 0)) fun x53 => bnd (opt (List.lookup ("given" : Str) (setL "given" x51 (setL "way" x1 (setL "turn" v (ρt)))))) fun x54 => bnd (itemM x54 (V.int 1)) fun x55 => bnd (cmpM .NotEq x53 x55) fun c56 => stepT .Or c56 ret (bnd (C (V.top 1325) [a5, a4, a2, a1]) fun x57 => bnd (boolM x57) fun b58 => stepT .Or (!b58) ret (ret false))) fun c59 => if c59 then ret (some (V.bool false), (("script", a0) :: ("things", a1) :: ("world", a2) :: ("deck", a3) :: ("deeds", a4) :: ("own", a5) :: setL "given" x51 (setL "way" x1 (setL "turn" v (ρt))) : Loc)) else ret (none, (("script", a0) :: ("things", a1) :: ("world", a2) :: ("deck", a3) :: ("deeds", a4) :: ("own", a5) :: setL "given" x51 (setL "way" x1 (setL "turn" v (ρt))) : Loc)) else bnd (opt (List.lookup ("way" : Str) (setL "way" x1 (setL "turn" v (ρt))))) fun x60 => bnd (cmpM .Eq x60 (V.int 3)) fun c61 => if c61 then bnd (C (V.top 1313) [a3, a5, a4, a2, a1]) fun x62 => bnd (newM (.tup [x62, (V.bool true)])) fun x63 => bnd (bnd (opt (List.lookup ("given" : Str) (setL "given" x63 (setL "way" x1 (setL "turn" v (ρt)))))) fun x64 => bnd (itemM x64 (V.int 0)) fun x65 => bnd (opt (List.lookup ("given" : Str) (setL "given" x63 (setL "way" x1 (setL "turn" v (ρt)))))) fun x66 => bnd (itemM x66 (V.int 1)) fun x67 => bnd (cmpM .NotEq x65 x67) fun c68 => stepT .Or c68 ret (bnd (C (V.top 1325) [a5, a4, a2, a1]) fun x69 => bnd (boolM x69) fun b70 => stepT .Or (!b70) ret (ret false))) fun c71 => if c71 then ret (some (V.bool false), (("script", a0) :: ("things", a1) :: ("world", a2) :: ("deck", a3) :: ("deeds", a4) :: ("own", a5) :: setL "given" x63 (setL "way" x1 (setL "turn" v (ρt))) : Loc)) else ret (none, (("script", a0) :: ("things", a1) :: ("world", a2) :: ("deck", a3) :: ("deeds", a4) :: ("own", a5) :: setL "given" x63 (setL "way" x1 (setL "turn" v (ρt))) : Loc)) else bnd (C (V.top 1320) [a3, a5, a4, a2]) fun x72 => bnd (bnd (opt (List.lookup ("given" : Str) (setL "given" x72 (setL "way" x1 (setL "turn" v (ρt)))))) fun x73 => bnd (itemM x73 (V.int 0)) fun x74 => bnd (opt (List.lookup ("given" : Str) (setL "given" x72 (setL "way" x1 (setL "turn" v (ρt)))))) fun x75 => bnd (itemM x75 (V.int 1)) fun x76 => bnd (cmpM .NotEq x74 x76) fun c77 => stepT .Or c77 ret (bnd (C (V.top 1325) [a5, a4, a2, a1]) fun x78 => bnd (boolM x78) fun b79 => stepT .Or (!b79) ret (ret false))) fun c80 => if c80 then ret (some (V.bool false), (("script", a0) :: ("things", a1) :: ("world", a2) :: ("deck", a3) :: ("deeds", a4) :: ("own", a5) :: setL "given" x72 (setL "way" x1 (setL "turn" v (ρt))) : Loc)) else ret (none, (("script", a0) :: ("things", a1) :: ("world", a2) :: ("deck", a3) :: ("deeds", a4) :: ("own", a5) :: setL "given" x72 (setL "way" x1 (setL "turn" v (ρt))) : Loc)) :=
  (forTurn_k C _ _ v _).trans (by kernel_rfl)
theorem u1271 (C : CallT) (a0 a1 a2 a3 : V) : exSs C (fnOf 1271).names (tryBody (stOf 1271 0)) [("deeds", a0), ("name", a1), ("world", a2), ("args", a3)] = bnd (itemM a0 a1) fun x1 => if mayCall x1 then bnd (callV C x1 [a2, a3]) fun x2 => ret ((none : Option V), ([("deeds", a0), ("name", a1), ("world", a2), ("args", a3), ("value", x2)] : Loc)) else stuck :=
  (exSs_k C _ _ _).trans (by kernel_rfl)
theorem r1271 (C : CallT) (a0 a1 a2 a3 a4 : V) : (kSs C (fnOf 1271).names ((fnOf 1271).body.drop 1) [("deeds", a0), ("name", a1), ("world", a2), ("args", a3), ("value", a4)] fun r => ret (r.1.getD .none)) = bnd (callB "isinstance" [a4, (V.top 178)]) fun x1 => bnd (boolM x1) fun b2 => if b2 then bnd (attrM a4 "codes") fun x3 => bnd (newM (.list [(V.str "text"), x3])) fun x4 => ret x4 else bnd (bnd (cmpM .Is a4 (V.top 135)) fun c5 => if c5 then bnd (newM (.list [(V.str "nil")])) fun x6 => ret x6 else bnd (bnd (cmpM .Is a4 (V.top 138)) fun c7 => if c7 then bnd (newM (.list [(V.str "t")])) fun x8 => ret x8 else bnd (newM (.list [(V.str "told"), a4])) fun x9 => ret x9) fun x10 => ret x10) fun x11 => ret x11 := by kernel_rfl
/-! ## The memory of the law -/
structure St where
  dk : Int
  pt : Int
  lo : Int
  hi : Int
  t1 : Int
  t2 : Int
  cells : List Int
  gs : Int
  ge : Int
  lm : Int
  ths : List Nat
  thl : List Nat
  mks : List (Int × Bool)
  op : Int
  ol : Int
  oh : Int
  txa : Nat
  txt : List Int
  sps : List Nat
  spv : List (Int × Bool)
def il (l : List Int) : MO := .list (l.map .int)
def wF (st : St) : Loc := [("obarray", .ref 5), ("cells", .ref 8), ("variables", .ref 11), ("bare", .ref 15), ("current", .ref 19), ("machine", .none), ("last_marker", .int st.lm)]
def bF (st : St) : Loc := [("number", .int 1), ("name", .str "b"), ("text", .ref 21), ("markers", .ref 26), ("point", .int st.pt), ("begv", .int st.lo), ("zv", .int st.hi), ("mark", .none), ("is_live", .bool true), ("is_read_only", .bool false), ("ticks", .int st.t1), ("codes_ticks", .int st.t2),
  ("saved_ticks", .int 1), ("listeners", .ref 28), ("undo", .none), ("props", .none), ("overlays", .none), ("locals", .none), ("syntax", .none), ("file", .none)]
def gF (st : St) : Loc := [("room", .int 8), ("cells", .ref 25), ("gap_start", .int st.gs), ("gap_end", .int st.ge)]
def oF (st : St) : List (V × V) := [(.str "text", .ref st.txa), (.str "point", .int st.op), (.str "low", .int st.ol), (.str "high", .int st.oh), (.str "spots", .ref 166)]
def rowsL : Int → List Nat → List (V × V)
  | _, [] => []
  | i, a :: r => (.int i, .ref a) :: rowsL (i + 1) r
def deedsT : List (Str × Addr) := [("point", 683), ("point-min", 690), ("point-max", 697), ("goto-char", 704), ("char-after", 718), ("char-before", 725), ("following-char", 732), ("preceding-char", 739), ("bobp", 746), ("eobp", 753), ("bolp", 760), ("eolp", 767), ("buffer-size", 816),
  ("insert", 774), ("insert-char", 781), ("delete-region", 788), ("erase-buffer", 795), ("buffer-substring", 802), ("buffer-substring-no-properties", 802), ("buffer-string", 809), ("narrow-to-region", 823), ("widen", 830), ("buffer-modified-p", 837), ("set-buffer-modified-p", 844),
  ("make-marker", 851), ("point-marker", 858), ("copy-marker", 865), ("set-marker", 872), ("marker-position", 879), ("marker-buffer", 886), ("marker-insertion-type", 893), ("set-marker-insertion-type", 900)]
def deedsL : List (V × V) := deedsT.map fun p => (V.str p.1, V.top p.2)
def mkO (i : Int) (p : Int × Bool) : MO := .inst 290 [("number", .int i), ("advances", .bool p.2), ("buffer", .ref 19), ("position", .int p.1)]
def spO (p : Int × Bool) : MO := .list [.int p.1, .bool p.2]
def mkL : Int → List Nat → List (Int × Bool) → List (Nat × MO)
  | i, a :: r, p :: q => (a, mkO i p) :: mkL (i + 1) r q
  | _, _, _ => []
def spL : List Nat → List (Int × Bool) → List (Nat × MO)
  | a :: r, p :: q => (a, spO p) :: spL r q
  | _, _ => []
def fixL (ds : List Int) (st : St) : List (Nat × MO) := [(2, il ds), (3, .list [.ref 2, .int st.dk]), (4, .inst 1253 (wF st)), (17, .list (st.thl.map .ref)), (19, .inst 464 (bF st)), (21, .inst 108 (gF st)), (25, il st.cells), (26, .inst 358 [("rows", .ref 27)]),
  (27, .dict (rowsL 1 st.ths)), (28, .list []), (164, .dict deedsL), (166, .list (st.sps.map .ref)), (167, .dict (oF st))]
def Holds (L : List (Nat × MO)) (μ : Mem) : Prop := ∀ q ∈ L, μ[q.1]? = some q.2
structure H (ds : List Int) (st : St) (μ : Mem) : Prop where
  fix : Holds (fixL ds st) μ
  mrk : Holds (mkL 1 st.ths st.mks) μ
  sp : Holds (spL st.sps st.spv) μ
  tx : μ[st.txa]? = some (il st.txt)
  lm : st.ths.length = st.mks.length
  ls : st.sps.length = st.spv.length
  bigT : 168 ≤ st.txa
  bigM : ∀ a ∈ st.ths, 168 ≤ a ∧ a < μ.length
  bigS : ∀ a ∈ st.sps, 168 ≤ a ∧ a < μ.length
  nd : (st.ths ++ st.sps).Nodup
  tn : st.txa ∉ st.ths ++ st.sps
abbrev St.L (st : St) : List Nat := st.ths ++ st.sps
def Free (L : List Nat) (a : Nat) : Prop := 168 ≤ a ∧ a ∉ L
structure Keep (L : List Nat) (μ μ' : Mem) : Prop where
  get : ∀ a o, Free L a → μ[a]? = some o → μ'[a]? = some o
  len : μ.length ≤ μ'.length
theorem Keep.refl (st : List Nat) (μ : Mem) : Keep st μ μ := ⟨fun _ _ _ h => h, Nat.le_refl _⟩
theorem Keep.trans {st : List Nat} {a b c : Mem} (x : Keep st a b) (y : Keep st b c) : Keep st a c := ⟨fun i o f h => y.get i o f (x.get i o f h), Nat.le_trans x.len y.len⟩
theorem Keep.push (st : List Nat) (μ : Mem) (o : MO) : Keep st μ (μ ++ [o]) := ⟨fun a ob _ h => by rw [List.getElem?_append_left (List.getElem?_eq_some_iff.mp h).1]; exact h, by simp⟩
theorem Holds.push {L : List (Nat × MO)} {μ : Mem} (h : Holds L μ) (o : MO) : Holds L (μ ++ [o]) := fun q hq => by
  have := h q hq
  rw [List.getElem?_append_left (List.getElem?_eq_some_iff.mp this).1]; exact this
theorem Holds.set {L L' : List (Nat × MO)} {μ : Mem} {a : Nat} {o : MO} (h : Holds L μ) (ha : a < μ.length) (hL : ∀ q ∈ L', q = (a, o) ∨ (q ∈ L ∧ q.1 ≠ a)) : Holds L' (μ.set a o) := fun q hq => by
  rcases hL q hq with rfl | ⟨h1, h2⟩
  · simp [ha]
  · rw [List.getElem?_set_ne (Ne.symm h2)]; exact h q h1
theorem mkL_mem : ∀ {i : Int} {ths : List Nat} {mks : List (Int × Bool)} {q : Nat × MO}, q ∈ mkL i ths mks → q.1 ∈ ths
  | i, a :: r, p :: q', q, h => by
    unfold mkL at h
    rcases List.mem_cons.mp h with rfl | h
    · exact .head _
    · exact .tail _ (mkL_mem h)
  | _, [], _, _, h => by unfold mkL at h; cases h
  | _, _ :: _, [], _, h => by unfold mkL at h; cases h
theorem spL_mem : ∀ {ths : List Nat} {mks : List (Int × Bool)} {q : Nat × MO}, q ∈ spL ths mks → q.1 ∈ ths
  | a :: r, p :: q', q, h => by
    unfold spL at h
    rcases List.mem_cons.mp h with rfl | h
    · exact .head _
    · exact .tail _ (spL_mem h)
  | [], _, _, h => by unfold spL at h; cases h
  | _ :: _, [], _, h => by unfold spL at h; cases h
section
variable {ds : List Int} {st : St} {μ μ' : Mem}
theorem H.push (h : H ds st μ) (o : MO) : H ds st (μ ++ [o]) := ⟨h.fix.push o, h.mrk.push o, h.sp.push o, by rw [List.getElem?_append_left (List.getElem?_eq_some_iff.mp h.tx).1]; exact h.tx, h.lm, h.ls, h.bigT, fun a ha => ⟨(h.bigM a ha).1, by have := (h.bigM a ha).2; simp; omega⟩, fun a ha => ⟨(h.bigS a ha).1, by have := (h.bigS a ha).2; simp; omega⟩, h.nd, h.tn⟩
/-- one of the fixed objects is stored -/
theorem H.setF (h : H ds st μ) {st' : St} {f : Nat} {o : MO} (hf : f < 168) (hF : ∀ q ∈ fixL ds st', q = (f, o) ∨ (q ∈ fixL ds st ∧ q.1 ≠ f)) (hd : (st'.ths, st'.mks, st'.sps, st'.spv, st'.txa, st'.txt) = (st.ths, st.mks, st.sps, st.spv, st.txa, st.txt)) (hl : f < μ.length) : H ds st' (μ.set f o) := by
  simp only [Prod.mk.injEq] at hd
  obtain ⟨d1, d2, d3, d4, d5, d6⟩ := hd
  refine ⟨h.fix.set hl hF, ?_, ?_, ?_, by rw [d1, d2]; exact h.lm, by rw [d3, d4]; exact h.ls, by rw [d5]; exact h.bigT, by rw [d1]; simpa using h.bigM, by rw [d3]; simpa using h.bigS, by rw [d1, d3]; exact h.nd, by rw [d1, d3, d5]; exact h.tn⟩
  · rw [d1, d2]
    exact h.mrk.set hl fun q hq => .inr ⟨hq, fun e => by have := (h.bigM _ (mkL_mem hq)).1; omega⟩
  · rw [d3, d4]
    exact h.sp.set hl fun q hq => .inr ⟨hq, fun e => by have := (h.bigS _ (spL_mem hq)).1; omega⟩
  · rw [d5, d6, List.getElem?_set_ne (by have := h.bigT; omega)]; exact h.tx
theorem Keep.setF {L : List Nat} {f : Nat} {o : MO} (hf : f < 168) : Keep L μ (μ.set f o) := ⟨fun a ob fr hm => by rw [List.getElem?_set_ne (by have := fr.1; omega)]; exact hm, by simp⟩
theorem H.at (h : H ds st μ) {a : Nat} {o : MO} (hm : (a, o) ∈ fixL ds st) : μ[a]? = some o := h.fix _ hm
theorem H.lt (h : H ds st μ) {a : Nat} {o : MO} (hm : (a, o) ∈ fixL ds st) : a < μ.length := (List.getElem?_eq_some_iff.mp (h.at hm)).1
theorem H.len (h : H ds st μ) : 167 < μ.length := h.lt (a := 167) (o := .dict (oF st)) (by unfold fixL; simp)
theorem H.free (h : H ds st μ) : Free st.L μ.length := by
  refine ⟨h.len, fun hm => ?_⟩
  rcases List.mem_append.mp hm with z | z
  · exact Nat.lt_irrefl _ (h.bigM _ z).2
  · exact Nat.lt_irrefl _ (h.bigS _ z).2
theorem H.freeT (h : H ds st μ) : Free st.L st.txa := ⟨h.bigT, h.tn⟩
end
/-! ## What is read of it -/
section
variable {α : Type} {ds : List Int} {st : St} {μ μ' : Mem}
theorem attr_bnd {a : Nat} {C : Addr} {fs : Loc} {x : Str} {v : V} (hm : μ[a]? = some (.inst C fs)) (hk : (fieldsT C).contains x = true) (hv : fs.lookup x = some v) (hp : plainV v = true) (K : V → Mx α) : bnd (attrM (.ref a) x) K μ = K v μ := by
  refine bnd_val ?_
  show bnd (getM a) _ μ = _
  refine (bnd_val (a := .inst C fs) (μ' := μ) (by unfold getM; rw [hm]; rfl)).trans ?_
  dsimp only
  rw [if_pos hk, hv]
  dsimp only
  rw [if_pos hp]; rfl
theorem sel_bnd {a : Nat} {C : Addr} {fs : Loc} {x : Str} {f : Addr} (hm : μ[a]? = some (.inst C fs)) (hk : methT C x = some f) (hv : fs.lookup x = none) (K : V → Mx α) : bnd (selM (.ref a) x) K μ = K (.top f) μ := by
  refine bnd_val ?_
  show bnd (getM a) _ μ = _
  refine (bnd_val (a := .inst C fs) (μ' := μ) (by unfold getM; rw [hm]; rfl)).trans ?_
  dsimp only
  rw [hk, hv]; rfl
theorem len_bnd {a : Nat} {l : List Int} (hm : μ[a]? = some (il l)) (K : V → Mx α) : bnd (callB "len" [.ref a]) K μ = K (.int l.length) μ := by
  refine bnd_val ?_
  show bnd (getM a) _ μ = _
  refine (bnd_val (a := il l) (μ' := μ) (by unfold getM; rw [hm]; rfl)).trans ?_
  show ret (V.int ((l.map V.int).length : Int)) μ = _
  rw [List.length_map]; rfl
theorem item_bnd {a : Nat} {xs : List V} {i : Int} {v : V} (hm : μ[a]? = some (.list xs)) (hi : 0 ≤ i ∧ small i = true) (hv : xs[i.toNat]? = some v) (K : V → Mx α) : bnd (itemM (.ref a) (.int i)) K μ = K v μ := by
  refine bnd_val ?_
  show bnd (getM a) _ μ = _
  refine (bnd_val (a := .list xs) (μ' := μ) (by unfold getM; rw [hm]; rfl)).trans ?_
  dsimp only
  rw [if_pos hi, hv]; rfl
theorem ditem_bnd {a : Nat} {es : List (V × V)} {k : Str} {v : V} (hm : μ[a]? = some (.dict es)) (hv : getD (.str k) es = some v) (K : V → Mx α) : bnd (itemM (.ref a) (.str k)) K μ = K v μ := by
  refine bnd_val ?_
  show bnd (getM a) _ μ = _
  refine (bnd_val (a := .dict es) (μ' := μ) (by unfold getM; rw [hm]; rfl)).trans ?_
  dsimp only
  rw [if_pos (by rfl), hv]; rfl
theorem ditem_int {a : Nat} {es : List (V × V)} {k : Int} {v : V} (hm : μ[a]? = some (.dict es)) (hv : getD (.int k) es = some v) (K : V → Mx α) : bnd (itemM (.ref a) (.int k)) K μ = K v μ := by
  refine bnd_val ?_
  show bnd (getM a) _ μ = _
  refine (bnd_val (a := .dict es) (μ' := μ) (by unfold getM; rw [hm]; rfl)).trans ?_
  dsimp only
  rw [if_pos (by rfl), hv]; rfl
theorem new_bnd {o : MO} (hz : szOk o = true) (K : V → Mx α) : bnd (newM o) K μ = K (.ref μ.length) (μ ++ [o]) := bnd_val (by unfold newM; rw [if_pos hz])
theorem listOf_bnd {a : Nat} {xs : List V} (hm : μ[a]? = some (.list xs)) (K : Nat × List V → Mx α) : bnd (listOfM (.ref a)) K μ = K (a, xs) μ := by
  refine bnd_val ?_
  show bnd (getM a) _ μ = _
  exact (bnd_val (a := .list xs) (μ' := μ) (by unfold getM; rw [hm]; rfl)).trans rfl
theorem tup_bnd {a : Nat} {xs : List V} (hm : μ[a]? = some (.tup xs)) (K : List V → Mx α) : bnd (tupM (.ref a)) K μ = K xs μ := by
  refine bnd_val ?_
  show bnd (getM a) _ μ = _
  exact (bnd_val (a := .tup xs) (μ' := μ) (by unfold getM; rw [hm]; rfl)).trans rfl
theorem last_get (o : MO) : (μ ++ [o])[μ.length]? = some o := by simp
theorem rd0 (h : H ds st μ) (K : V → Mx α) : bnd (attrM (.ref 19) "text") K μ = K (.ref 21) μ := attr_bnd (h.at (o := .inst 464 (bF st)) (by unfold fixL; simp)) (by kernel_rfl) (by kernel_rfl) (by kernel_rfl) K
theorem rd1 (h : H ds st μ) (K : V → Mx α) : bnd (attrM (.ref 19) "markers") K μ = K (.ref 26) μ := attr_bnd (h.at (o := .inst 464 (bF st)) (by unfold fixL; simp)) (by kernel_rfl) (by kernel_rfl) (by kernel_rfl) K
theorem rd2 (h : H ds st μ) (K : V → Mx α) : bnd (attrM (.ref 19) "point") K μ = K (.int st.pt) μ := attr_bnd (h.at (o := .inst 464 (bF st)) (by unfold fixL; simp)) (by kernel_rfl) (by kernel_rfl) (by kernel_rfl) K
theorem rd3 (h : H ds st μ) (K : V → Mx α) : bnd (attrM (.ref 19) "begv") K μ = K (.int st.lo) μ := attr_bnd (h.at (o := .inst 464 (bF st)) (by unfold fixL; simp)) (by kernel_rfl) (by kernel_rfl) (by kernel_rfl) K
theorem rd4 (h : H ds st μ) (K : V → Mx α) : bnd (attrM (.ref 19) "zv") K μ = K (.int st.hi) μ := attr_bnd (h.at (o := .inst 464 (bF st)) (by unfold fixL; simp)) (by kernel_rfl) (by kernel_rfl) (by kernel_rfl) K
theorem rd5 (h : H ds st μ) (K : V → Mx α) : bnd (attrM (.ref 19) "is_read_only") K μ = K (.bool false) μ := attr_bnd (h.at (o := .inst 464 (bF st)) (by unfold fixL; simp)) (by kernel_rfl) (by kernel_rfl) (by kernel_rfl) K
theorem rd6 (h : H ds st μ) (K : V → Mx α) : bnd (attrM (.ref 19) "ticks") K μ = K (.int st.t1) μ := attr_bnd (h.at (o := .inst 464 (bF st)) (by unfold fixL; simp)) (by kernel_rfl) (by kernel_rfl) (by kernel_rfl) K
theorem rd7 (h : H ds st μ) (K : V → Mx α) : bnd (attrM (.ref 19) "listeners") K μ = K (.ref 28) μ := attr_bnd (h.at (o := .inst 464 (bF st)) (by unfold fixL; simp)) (by kernel_rfl) (by kernel_rfl) (by kernel_rfl) K
theorem rd8 (h : H ds st μ) (K : V → Mx α) : bnd (attrM (.ref 19) "undo") K μ = K (.none) μ := attr_bnd (h.at (o := .inst 464 (bF st)) (by unfold fixL; simp)) (by kernel_rfl) (by kernel_rfl) (by kernel_rfl) K
theorem rd9 (h : H ds st μ) (K : V → Mx α) : bnd (attrM (.ref 19) "props") K μ = K (.none) μ := attr_bnd (h.at (o := .inst 464 (bF st)) (by unfold fixL; simp)) (by kernel_rfl) (by kernel_rfl) (by kernel_rfl) K
theorem rd10 (h : H ds st μ) (K : V → Mx α) : bnd (attrM (.ref 19) "overlays") K μ = K (.none) μ := attr_bnd (h.at (o := .inst 464 (bF st)) (by unfold fixL; simp)) (by kernel_rfl) (by kernel_rfl) (by kernel_rfl) K
theorem rd11 (h : H ds st μ) (K : V → Mx α) : bnd (attrM (.ref 21) "cells") K μ = K (.ref 25) μ := attr_bnd (h.at (o := .inst 108 (gF st)) (by unfold fixL; simp)) (by kernel_rfl) (by kernel_rfl) (by kernel_rfl) K
theorem rd12 (h : H ds st μ) (K : V → Mx α) : bnd (attrM (.ref 21) "gap_start") K μ = K (.int st.gs) μ := attr_bnd (h.at (o := .inst 108 (gF st)) (by unfold fixL; simp)) (by kernel_rfl) (by kernel_rfl) (by kernel_rfl) K
theorem rd13 (h : H ds st μ) (K : V → Mx α) : bnd (attrM (.ref 21) "gap_end") K μ = K (.int st.ge) μ := attr_bnd (h.at (o := .inst 108 (gF st)) (by unfold fixL; simp)) (by kernel_rfl) (by kernel_rfl) (by kernel_rfl) K
theorem rd14 (h : H ds st μ) (K : V → Mx α) : bnd (attrM (.ref 21) "room") K μ = K (.int 8) μ := attr_bnd (h.at (o := .inst 108 (gF st)) (by unfold fixL; simp)) (by kernel_rfl) (by kernel_rfl) (by kernel_rfl) K
theorem rd15 (h : H ds st μ) (K : V → Mx α) : bnd (attrM (.ref 26) "rows") K μ = K (.ref 27) μ := attr_bnd (h.at (o := .inst 358 [("rows", .ref 27)]) (by unfold fixL; simp)) (by kernel_rfl) (by kernel_rfl) (by kernel_rfl) K
theorem rd16 (h : H ds st μ) (K : V → Mx α) : bnd (attrM (.ref 4) "current") K μ = K (.ref 19) μ := attr_bnd (h.at (o := .inst 1253 (wF st)) (by unfold fixL; simp)) (by kernel_rfl) (by kernel_rfl) (by kernel_rfl) K
theorem rd17 (h : H ds st μ) (K : V → Mx α) : bnd (attrM (.ref 4) "last_marker") K μ = K (.int st.lm) μ := attr_bnd (h.at (o := .inst 1253 (wF st)) (by unfold fixL; simp)) (by kernel_rfl) (by kernel_rfl) (by kernel_rfl) K
theorem rd18 (h : H ds st μ) (K : V → Mx α) : bnd (selM (.ref 21) "size") K μ = K (.top 42) μ := sel_bnd (h.at (o := .inst 108 (gF st)) (by unfold fixL; simp)) (by kernel_rfl) (by kernel_rfl) K
theorem rd19 (h : H ds st μ) (K : V → Mx α) : bnd (selM (.ref 21) "code") K μ = K (.top 49) μ := sel_bnd (h.at (o := .inst 108 (gF st)) (by unfold fixL; simp)) (by kernel_rfl) (by kernel_rfl) K
theorem rd20 (h : H ds st μ) (K : V → Mx α) : bnd (selM (.ref 21) "codes") K μ = K (.top 56) μ := sel_bnd (h.at (o := .inst 108 (gF st)) (by unfold fixL; simp)) (by kernel_rfl) (by kernel_rfl) K
theorem rd21 (h : H ds st μ) (K : V → Mx α) : bnd (selM (.ref 21) "move_gap") K μ = K (.top 63) μ := sel_bnd (h.at (o := .inst 108 (gF st)) (by unfold fixL; simp)) (by kernel_rfl) (by kernel_rfl) K
theorem rd22 (h : H ds st μ) (K : V → Mx α) : bnd (selM (.ref 21) "widen_gap") K μ = K (.top 70) μ := sel_bnd (h.at (o := .inst 108 (gF st)) (by unfold fixL; simp)) (by kernel_rfl) (by kernel_rfl) K
theorem rd23 (h : H ds st μ) (K : V → Mx α) : bnd (selM (.ref 21) "insert") K μ = K (.top 77) μ := sel_bnd (h.at (o := .inst 108 (gF st)) (by unfold fixL; simp)) (by kernel_rfl) (by kernel_rfl) K
theorem rd24 (h : H ds st μ) (K : V → Mx α) : bnd (selM (.ref 21) "delete") K μ = K (.top 84) μ := sel_bnd (h.at (o := .inst 108 (gF st)) (by unfold fixL; simp)) (by kernel_rfl) (by kernel_rfl) K
theorem rd25 (h : H ds st μ) (K : V → Mx α) : bnd (selM (.ref 26) "numbers") K μ = K (.top 313) μ := sel_bnd (h.at (o := .inst 358 [("rows", .ref 27)]) (by unfold fixL; simp)) (by kernel_rfl) (by kernel_rfl) K
theorem rd26 (h : H ds st μ) (K : V → Mx α) : bnd (selM (.ref 26) "put") K μ = K (.top 320) μ := sel_bnd (h.at (o := .inst 358 [("rows", .ref 27)]) (by unfold fixL; simp)) (by kernel_rfl) (by kernel_rfl) K
theorem rd27 (h : H ds st μ) (K : V → Mx α) : bnd (selM (.ref 26) "inserted") K μ = K (.top 341) μ := sel_bnd (h.at (o := .inst 358 [("rows", .ref 27)]) (by unfold fixL; simp)) (by kernel_rfl) (by kernel_rfl) K
theorem rd28 (h : H ds st μ) (K : V → Mx α) : bnd (selM (.ref 26) "deleted") K μ = K (.top 348) μ := sel_bnd (h.at (o := .inst 358 [("rows", .ref 27)]) (by unfold fixL; simp)) (by kernel_rfl) (by kernel_rfl) K
theorem rd29 (h : H ds st μ) (K : V → Mx α) : bnd (selM (.ref 19) "begin") K μ = K (.top 398) μ := sel_bnd (h.at (o := .inst 464 (bF st)) (by unfold fixL; simp)) (by kernel_rfl) (by kernel_rfl) K
theorem rd30 (h : H ds st μ) (K : V → Mx α) : bnd (selM (.ref 19) "end") K μ = K (.top 405) μ := sel_bnd (h.at (o := .inst 464 (bF st)) (by unfold fixL; simp)) (by kernel_rfl) (by kernel_rfl) K
theorem rd31 (h : H ds st μ) (K : V → Mx α) : bnd (selM (.ref 19) "size") K μ = K (.top 412) μ := sel_bnd (h.at (o := .inst 464 (bF st)) (by unfold fixL; simp)) (by kernel_rfl) (by kernel_rfl) K
theorem rd32 (h : H ds st μ) (K : V → Mx α) : bnd (selM (.ref 19) "code_at") K μ = K (.top 419) μ := sel_bnd (h.at (o := .inst 464 (bF st)) (by unfold fixL; simp)) (by kernel_rfl) (by kernel_rfl) K
theorem rd33 (h : H ds st μ) (K : V → Mx α) : bnd (selM (.ref 19) "codes") K μ = K (.top 426) μ := sel_bnd (h.at (o := .inst 464 (bF st)) (by unfold fixL; simp)) (by kernel_rfl) (by kernel_rfl) K
theorem rd34 (h : H ds st μ) (K : V → Mx α) : bnd (selM (.ref 19) "goto") K μ = K (.top 433) μ := sel_bnd (h.at (o := .inst 464 (bF st)) (by unfold fixL; simp)) (by kernel_rfl) (by kernel_rfl) K
theorem rd35 (h : H ds st μ) (K : V → Mx α) : bnd (selM (.ref 19) "touch") K μ = K (.top 461) μ := sel_bnd (h.at (o := .inst 464 (bF st)) (by unfold fixL; simp)) (by kernel_rfl) (by kernel_rfl) K
theorem rd36 (h : H ds st μ) (K : V → Mx α) : bnd (selM (.ref 4) "fresh_marker") K μ = K (.top 1243) μ := sel_bnd (h.at (o := .inst 1253 (wF st)) (by unfold fixL; simp)) (by kernel_rfl) (by kernel_rfl) K
theorem rd37 (h : H ds st μ) (K : V → Mx α) : bnd (callB "len" [.ref 25]) K μ = K (.int st.cells.length) μ := len_bnd (h.at (o := il st.cells) (by unfold fixL; simp)) K
theorem rd38 (h : H ds st μ) (K : V → Mx α) : bnd (callB "len" [.ref 2]) K μ = K (.int ds.length) μ := len_bnd (h.at (o := il ds) (by unfold fixL; simp)) K
theorem rd39 (h : H ds st μ) (K : V → Mx α) : bnd (itemM (.ref 3) (.int 0)) K μ = K (.ref 2) μ := item_bnd (h.at (o := .list [.ref 2, .int st.dk]) (by unfold fixL; simp)) (by decide) (by kernel_rfl) K
theorem rd40 (h : H ds st μ) (K : V → Mx α) : bnd (itemM (.ref 3) (.int 1)) K μ = K (.int st.dk) μ := item_bnd (h.at (o := .list [.ref 2, .int st.dk]) (by unfold fixL; simp)) (by decide) (by kernel_rfl) K
theorem rd41 (h : H ds st μ) (K : V → Mx α) : bnd (itemM (.ref 167) (.str "text")) K μ = K (.ref st.txa) μ := ditem_bnd (h.at (o := .dict (oF st)) (by unfold fixL; simp)) (by kernel_rfl) K
theorem rd42 (h : H ds st μ) (K : V → Mx α) : bnd (itemM (.ref 167) (.str "point")) K μ = K (.int st.op) μ := ditem_bnd (h.at (o := .dict (oF st)) (by unfold fixL; simp)) (by kernel_rfl) K
theorem rd43 (h : H ds st μ) (K : V → Mx α) : bnd (itemM (.ref 167) (.str "low")) K μ = K (.int st.ol) μ := ditem_bnd (h.at (o := .dict (oF st)) (by unfold fixL; simp)) (by kernel_rfl) K
theorem rd44 (h : H ds st μ) (K : V → Mx α) : bnd (itemM (.ref 167) (.str "high")) K μ = K (.int st.oh) μ := ditem_bnd (h.at (o := .dict (oF st)) (by unfold fixL; simp)) (by kernel_rfl) K
theorem rd45 (h : H ds st μ) (K : V → Mx α) : bnd (itemM (.ref 167) (.str "spots")) K μ = K (.ref 166) μ := ditem_bnd (h.at (o := .dict (oF st)) (by unfold fixL; simp)) (by kernel_rfl) K
theorem rd46 (h : H ds st μ) (K : V → Mx α) : bnd (itemM (.ref 164) (.str "point")) K μ = K (.top 683) μ := ditem_bnd (h.at (o := .dict deedsL) (by unfold fixL; simp)) (by kernel_rfl) K
theorem rd47 (h : H ds st μ) (K : V → Mx α) : bnd (itemM (.ref 164) (.str "point-min")) K μ = K (.top 690) μ := ditem_bnd (h.at (o := .dict deedsL) (by unfold fixL; simp)) (by kernel_rfl) K
theorem rd48 (h : H ds st μ) (K : V → Mx α) : bnd (itemM (.ref 164) (.str "point-max")) K μ = K (.top 697) μ := ditem_bnd (h.at (o := .dict deedsL) (by unfold fixL; simp)) (by kernel_rfl) K
theorem rd49 (h : H ds st μ) (K : V → Mx α) : bnd (itemM (.ref 164) (.str "goto-char")) K μ = K (.top 704) μ := ditem_bnd (h.at (o := .dict deedsL) (by unfold fixL; simp)) (by kernel_rfl) K
theorem rd50 (h : H ds st μ) (K : V → Mx α) : bnd (itemM (.ref 164) (.str "char-after")) K μ = K (.top 718) μ := ditem_bnd (h.at (o := .dict deedsL) (by unfold fixL; simp)) (by kernel_rfl) K
theorem rd51 (h : H ds st μ) (K : V → Mx α) : bnd (itemM (.ref 164) (.str "char-before")) K μ = K (.top 725) μ := ditem_bnd (h.at (o := .dict deedsL) (by unfold fixL; simp)) (by kernel_rfl) K
theorem rd52 (h : H ds st μ) (K : V → Mx α) : bnd (itemM (.ref 164) (.str "following-char")) K μ = K (.top 732) μ := ditem_bnd (h.at (o := .dict deedsL) (by unfold fixL; simp)) (by kernel_rfl) K
theorem rd53 (h : H ds st μ) (K : V → Mx α) : bnd (itemM (.ref 164) (.str "preceding-char")) K μ = K (.top 739) μ := ditem_bnd (h.at (o := .dict deedsL) (by unfold fixL; simp)) (by kernel_rfl) K
theorem rd54 (h : H ds st μ) (K : V → Mx α) : bnd (itemM (.ref 164) (.str "bobp")) K μ = K (.top 746) μ := ditem_bnd (h.at (o := .dict deedsL) (by unfold fixL; simp)) (by kernel_rfl) K
theorem rd55 (h : H ds st μ) (K : V → Mx α) : bnd (itemM (.ref 164) (.str "eobp")) K μ = K (.top 753) μ := ditem_bnd (h.at (o := .dict deedsL) (by unfold fixL; simp)) (by kernel_rfl) K
theorem rd56 (h : H ds st μ) (K : V → Mx α) : bnd (itemM (.ref 164) (.str "bolp")) K μ = K (.top 760) μ := ditem_bnd (h.at (o := .dict deedsL) (by unfold fixL; simp)) (by kernel_rfl) K
theorem rd57 (h : H ds st μ) (K : V → Mx α) : bnd (itemM (.ref 164) (.str "eolp")) K μ = K (.top 767) μ := ditem_bnd (h.at (o := .dict deedsL) (by unfold fixL; simp)) (by kernel_rfl) K
theorem rd58 (h : H ds st μ) (K : V → Mx α) : bnd (itemM (.ref 164) (.str "buffer-size")) K μ = K (.top 816) μ := ditem_bnd (h.at (o := .dict deedsL) (by unfold fixL; simp)) (by kernel_rfl) K
theorem rd59 (h : H ds st μ) (K : V → Mx α) : bnd (itemM (.ref 164) (.str "insert")) K μ = K (.top 774) μ := ditem_bnd (h.at (o := .dict deedsL) (by unfold fixL; simp)) (by kernel_rfl) K
theorem rd60 (h : H ds st μ) (K : V → Mx α) : bnd (itemM (.ref 164) (.str "insert-char")) K μ = K (.top 781) μ := ditem_bnd (h.at (o := .dict deedsL) (by unfold fixL; simp)) (by kernel_rfl) K
theorem rd61 (h : H ds st μ) (K : V → Mx α) : bnd (itemM (.ref 164) (.str "delete-region")) K μ = K (.top 788) μ := ditem_bnd (h.at (o := .dict deedsL) (by unfold fixL; simp)) (by kernel_rfl) K
theorem rd62 (h : H ds st μ) (K : V → Mx α) : bnd (itemM (.ref 164) (.str "erase-buffer")) K μ = K (.top 795) μ := ditem_bnd (h.at (o := .dict deedsL) (by unfold fixL; simp)) (by kernel_rfl) K
theorem rd63 (h : H ds st μ) (K : V → Mx α) : bnd (itemM (.ref 164) (.str "buffer-substring")) K μ = K (.top 802) μ := ditem_bnd (h.at (o := .dict deedsL) (by unfold fixL; simp)) (by kernel_rfl) K
theorem rd64 (h : H ds st μ) (K : V → Mx α) : bnd (itemM (.ref 164) (.str "buffer-substring-no-properties")) K μ = K (.top 802) μ := ditem_bnd (h.at (o := .dict deedsL) (by unfold fixL; simp)) (by kernel_rfl) K
theorem rd65 (h : H ds st μ) (K : V → Mx α) : bnd (itemM (.ref 164) (.str "buffer-string")) K μ = K (.top 809) μ := ditem_bnd (h.at (o := .dict deedsL) (by unfold fixL; simp)) (by kernel_rfl) K
theorem rd66 (h : H ds st μ) (K : V → Mx α) : bnd (itemM (.ref 164) (.str "narrow-to-region")) K μ = K (.top 823) μ := ditem_bnd (h.at (o := .dict deedsL) (by unfold fixL; simp)) (by kernel_rfl) K
theorem rd67 (h : H ds st μ) (K : V → Mx α) : bnd (itemM (.ref 164) (.str "widen")) K μ = K (.top 830) μ := ditem_bnd (h.at (o := .dict deedsL) (by unfold fixL; simp)) (by kernel_rfl) K
theorem rd68 (h : H ds st μ) (K : V → Mx α) : bnd (itemM (.ref 164) (.str "buffer-modified-p")) K μ = K (.top 837) μ := ditem_bnd (h.at (o := .dict deedsL) (by unfold fixL; simp)) (by kernel_rfl) K
theorem rd69 (h : H ds st μ) (K : V → Mx α) : bnd (itemM (.ref 164) (.str "set-buffer-modified-p")) K μ = K (.top 844) μ := ditem_bnd (h.at (o := .dict deedsL) (by unfold fixL; simp)) (by kernel_rfl) K
theorem rd70 (h : H ds st μ) (K : V → Mx α) : bnd (itemM (.ref 164) (.str "make-marker")) K μ = K (.top 851) μ := ditem_bnd (h.at (o := .dict deedsL) (by unfold fixL; simp)) (by kernel_rfl) K
theorem rd71 (h : H ds st μ) (K : V → Mx α) : bnd (itemM (.ref 164) (.str "point-marker")) K μ = K (.top 858) μ := ditem_bnd (h.at (o := .dict deedsL) (by unfold fixL; simp)) (by kernel_rfl) K
theorem rd72 (h : H ds st μ) (K : V → Mx α) : bnd (itemM (.ref 164) (.str "copy-marker")) K μ = K (.top 865) μ := ditem_bnd (h.at (o := .dict deedsL) (by unfold fixL; simp)) (by kernel_rfl) K
theorem rd73 (h : H ds st μ) (K : V → Mx α) : bnd (itemM (.ref 164) (.str "set-marker")) K μ = K (.top 872) μ := ditem_bnd (h.at (o := .dict deedsL) (by unfold fixL; simp)) (by kernel_rfl) K
theorem rd74 (h : H ds st μ) (K : V → Mx α) : bnd (itemM (.ref 164) (.str "marker-position")) K μ = K (.top 879) μ := ditem_bnd (h.at (o := .dict deedsL) (by unfold fixL; simp)) (by kernel_rfl) K
theorem rd75 (h : H ds st μ) (K : V → Mx α) : bnd (itemM (.ref 164) (.str "marker-buffer")) K μ = K (.top 886) μ := ditem_bnd (h.at (o := .dict deedsL) (by unfold fixL; simp)) (by kernel_rfl) K
theorem rd76 (h : H ds st μ) (K : V → Mx α) : bnd (itemM (.ref 164) (.str "marker-insertion-type")) K μ = K (.top 893) μ := ditem_bnd (h.at (o := .dict deedsL) (by unfold fixL; simp)) (by kernel_rfl) K
theorem rd77 (h : H ds st μ) (K : V → Mx α) : bnd (itemM (.ref 164) (.str "set-marker-insertion-type")) K μ = K (.top 900) μ := ditem_bnd (h.at (o := .dict deedsL) (by unfold fixL; simp)) (by kernel_rfl) K
end
theorem R {ds : List Int} {st : St} {μ : Mem} (h : H ds st μ) : (∀ (α : Type) (K : V → Mx α), bnd (attrM (.ref 19) "text") K μ = K (.ref 21) μ) ∧
  (∀ (α : Type) (K : V → Mx α), bnd (attrM (.ref 19) "markers") K μ = K (.ref 26) μ) ∧
  (∀ (α : Type) (K : V → Mx α), bnd (attrM (.ref 19) "point") K μ = K (.int st.pt) μ) ∧
  (∀ (α : Type) (K : V → Mx α), bnd (attrM (.ref 19) "begv") K μ = K (.int st.lo) μ) ∧
  (∀ (α : Type) (K : V → Mx α), bnd (attrM (.ref 19) "zv") K μ = K (.int st.hi) μ) ∧
  (∀ (α : Type) (K : V → Mx α), bnd (attrM (.ref 19) "is_read_only") K μ = K (.bool false) μ) ∧
  (∀ (α : Type) (K : V → Mx α), bnd (attrM (.ref 19) "ticks") K μ = K (.int st.t1) μ) ∧
  (∀ (α : Type) (K : V → Mx α), bnd (attrM (.ref 19) "listeners") K μ = K (.ref 28) μ) ∧
  (∀ (α : Type) (K : V → Mx α), bnd (attrM (.ref 19) "undo") K μ = K (.none) μ) ∧
  (∀ (α : Type) (K : V → Mx α), bnd (attrM (.ref 19) "props") K μ = K (.none) μ) ∧
  (∀ (α : Type) (K : V → Mx α), bnd (attrM (.ref 19) "overlays") K μ = K (.none) μ) ∧
  (∀ (α : Type) (K : V → Mx α), bnd (attrM (.ref 21) "cells") K μ = K (.ref 25) μ) ∧
  (∀ (α : Type) (K : V → Mx α), bnd (attrM (.ref 21) "gap_start") K μ = K (.int st.gs) μ) ∧
  (∀ (α : Type) (K : V → Mx α), bnd (attrM (.ref 21) "gap_end") K μ = K (.int st.ge) μ) ∧
  (∀ (α : Type) (K : V → Mx α), bnd (attrM (.ref 21) "room") K μ = K (.int 8) μ) ∧
  (∀ (α : Type) (K : V → Mx α), bnd (attrM (.ref 26) "rows") K μ = K (.ref 27) μ) ∧
  (∀ (α : Type) (K : V → Mx α), bnd (attrM (.ref 4) "current") K μ = K (.ref 19) μ) ∧
  (∀ (α : Type) (K : V → Mx α), bnd (attrM (.ref 4) "last_marker") K μ = K (.int st.lm) μ) ∧
  (∀ (α : Type) (K : V → Mx α), bnd (selM (.ref 21) "size") K μ = K (.top 42) μ) ∧
  (∀ (α : Type) (K : V → Mx α), bnd (selM (.ref 21) "code") K μ = K (.top 49) μ) ∧
  (∀ (α : Type) (K : V → Mx α), bnd (selM (.ref 21) "codes") K μ = K (.top 56) μ) ∧
  (∀ (α : Type) (K : V → Mx α), bnd (selM (.ref 21) "move_gap") K μ = K (.top 63) μ) ∧
  (∀ (α : Type) (K : V → Mx α), bnd (selM (.ref 21) "widen_gap") K μ = K (.top 70) μ) ∧
  (∀ (α : Type) (K : V → Mx α), bnd (selM (.ref 21) "insert") K μ = K (.top 77) μ) ∧
  (∀ (α : Type) (K : V → Mx α), bnd (selM (.ref 21) "delete") K μ = K (.top 84) μ) ∧
  (∀ (α : Type) (K : V → Mx α), bnd (selM (.ref 26) "numbers") K μ = K (.top 313) μ) ∧
  (∀ (α : Type) (K : V → Mx α), bnd (selM (.ref 26) "put") K μ = K (.top 320) μ) ∧
  (∀ (α : Type) (K : V → Mx α), bnd (selM (.ref 26) "inserted") K μ = K (.top 341) μ) ∧
  (∀ (α : Type) (K : V → Mx α), bnd (selM (.ref 26) "deleted") K μ = K (.top 348) μ) ∧
  (∀ (α : Type) (K : V → Mx α), bnd (selM (.ref 19) "begin") K μ = K (.top 398) μ) ∧
  (∀ (α : Type) (K : V → Mx α), bnd (selM (.ref 19) "end") K μ = K (.top 405) μ) ∧
  (∀ (α : Type) (K : V → Mx α), bnd (selM (.ref 19) "size") K μ = K (.top 412) μ) ∧
  (∀ (α : Type) (K : V → Mx α), bnd (selM (.ref 19) "code_at") K μ = K (.top 419) μ) ∧
  (∀ (α : Type) (K : V → Mx α), bnd (selM (.ref 19) "codes") K μ = K (.top 426) μ) ∧
  (∀ (α : Type) (K : V → Mx α), bnd (selM (.ref 19) "goto") K μ = K (.top 433) μ) ∧
  (∀ (α : Type) (K : V → Mx α), bnd (selM (.ref 19) "touch") K μ = K (.top 461) μ) ∧
  (∀ (α : Type) (K : V → Mx α), bnd (selM (.ref 4) "fresh_marker") K μ = K (.top 1243) μ) ∧
  (∀ (α : Type) (K : V → Mx α), bnd (callB "len" [.ref 25]) K μ = K (.int st.cells.length) μ) ∧
  (∀ (α : Type) (K : V → Mx α), bnd (callB "len" [.ref 2]) K μ = K (.int ds.length) μ) ∧
  (∀ (α : Type) (K : V → Mx α), bnd (itemM (.ref 3) (.int 0)) K μ = K (.ref 2) μ) ∧
  (∀ (α : Type) (K : V → Mx α), bnd (itemM (.ref 3) (.int 1)) K μ = K (.int st.dk) μ) ∧
  (∀ (α : Type) (K : V → Mx α), bnd (itemM (.ref 167) (.str "text")) K μ = K (.ref st.txa) μ) ∧
  (∀ (α : Type) (K : V → Mx α), bnd (itemM (.ref 167) (.str "point")) K μ = K (.int st.op) μ) ∧
  (∀ (α : Type) (K : V → Mx α), bnd (itemM (.ref 167) (.str "low")) K μ = K (.int st.ol) μ) ∧
  (∀ (α : Type) (K : V → Mx α), bnd (itemM (.ref 167) (.str "high")) K μ = K (.int st.oh) μ) ∧
  (∀ (α : Type) (K : V → Mx α), bnd (itemM (.ref 167) (.str "spots")) K μ = K (.ref 166) μ) ∧
  (∀ (α : Type) (K : V → Mx α), bnd (itemM (.ref 164) (.str "point")) K μ = K (.top 683) μ) ∧
  (∀ (α : Type) (K : V → Mx α), bnd (itemM (.ref 164) (.str "point-min")) K μ = K (.top 690) μ) ∧
  (∀ (α : Type) (K : V → Mx α), bnd (itemM (.ref 164) (.str "point-max")) K μ = K (.top 697) μ) ∧
  (∀ (α : Type) (K : V → Mx α), bnd (itemM (.ref 164) (.str "goto-char")) K μ = K (.top 704) μ) ∧
  (∀ (α : Type) (K : V → Mx α), bnd (itemM (.ref 164) (.str "char-after")) K μ = K (.top 718) μ) ∧
  (∀ (α : Type) (K : V → Mx α), bnd (itemM (.ref 164) (.str "char-before")) K μ = K (.top 725) μ) ∧
  (∀ (α : Type) (K : V → Mx α), bnd (itemM (.ref 164) (.str "following-char")) K μ = K (.top 732) μ) ∧
  (∀ (α : Type) (K : V → Mx α), bnd (itemM (.ref 164) (.str "preceding-char")) K μ = K (.top 739) μ) ∧
  (∀ (α : Type) (K : V → Mx α), bnd (itemM (.ref 164) (.str "bobp")) K μ = K (.top 746) μ) ∧
  (∀ (α : Type) (K : V → Mx α), bnd (itemM (.ref 164) (.str "eobp")) K μ = K (.top 753) μ) ∧
  (∀ (α : Type) (K : V → Mx α), bnd (itemM (.ref 164) (.str "bolp")) K μ = K (.top 760) μ) ∧
  (∀ (α : Type) (K : V → Mx α), bnd (itemM (.ref 164) (.str "eolp")) K μ = K (.top 767) μ) ∧
  (∀ (α : Type) (K : V → Mx α), bnd (itemM (.ref 164) (.str "buffer-size")) K μ = K (.top 816) μ) ∧
  (∀ (α : Type) (K : V → Mx α), bnd (itemM (.ref 164) (.str "insert")) K μ = K (.top 774) μ) ∧
  (∀ (α : Type) (K : V → Mx α), bnd (itemM (.ref 164) (.str "insert-char")) K μ = K (.top 781) μ) ∧
  (∀ (α : Type) (K : V → Mx α), bnd (itemM (.ref 164) (.str "delete-region")) K μ = K (.top 788) μ) ∧
  (∀ (α : Type) (K : V → Mx α), bnd (itemM (.ref 164) (.str "erase-buffer")) K μ = K (.top 795) μ) ∧
  (∀ (α : Type) (K : V → Mx α), bnd (itemM (.ref 164) (.str "buffer-substring")) K μ = K (.top 802) μ) ∧
  (∀ (α : Type) (K : V → Mx α), bnd (itemM (.ref 164) (.str "buffer-substring-no-properties")) K μ = K (.top 802) μ) ∧
  (∀ (α : Type) (K : V → Mx α), bnd (itemM (.ref 164) (.str "buffer-string")) K μ = K (.top 809) μ) ∧
  (∀ (α : Type) (K : V → Mx α), bnd (itemM (.ref 164) (.str "narrow-to-region")) K μ = K (.top 823) μ) ∧
  (∀ (α : Type) (K : V → Mx α), bnd (itemM (.ref 164) (.str "widen")) K μ = K (.top 830) μ) ∧
  (∀ (α : Type) (K : V → Mx α), bnd (itemM (.ref 164) (.str "buffer-modified-p")) K μ = K (.top 837) μ) ∧
  (∀ (α : Type) (K : V → Mx α), bnd (itemM (.ref 164) (.str "set-buffer-modified-p")) K μ = K (.top 844) μ) ∧
  (∀ (α : Type) (K : V → Mx α), bnd (itemM (.ref 164) (.str "make-marker")) K μ = K (.top 851) μ) ∧
  (∀ (α : Type) (K : V → Mx α), bnd (itemM (.ref 164) (.str "point-marker")) K μ = K (.top 858) μ) ∧
  (∀ (α : Type) (K : V → Mx α), bnd (itemM (.ref 164) (.str "copy-marker")) K μ = K (.top 865) μ) ∧
  (∀ (α : Type) (K : V → Mx α), bnd (itemM (.ref 164) (.str "set-marker")) K μ = K (.top 872) μ) ∧
  (∀ (α : Type) (K : V → Mx α), bnd (itemM (.ref 164) (.str "marker-position")) K μ = K (.top 879) μ) ∧
  (∀ (α : Type) (K : V → Mx α), bnd (itemM (.ref 164) (.str "marker-buffer")) K μ = K (.top 886) μ) ∧
  (∀ (α : Type) (K : V → Mx α), bnd (itemM (.ref 164) (.str "marker-insertion-type")) K μ = K (.top 893) μ) ∧
  (∀ (α : Type) (K : V → Mx α), bnd (itemM (.ref 164) (.str "set-marker-insertion-type")) K μ = K (.top 900) μ) :=
  ⟨fun _ => rd0 h, fun _ => rd1 h, fun _ => rd2 h, fun _ => rd3 h, fun _ => rd4 h, fun _ => rd5 h, fun _ => rd6 h, fun _ => rd7 h, fun _ => rd8 h, fun _ => rd9 h, fun _ => rd10 h, fun _ => rd11 h, fun _ => rd12 h, fun _ => rd13 h, fun _ => rd14 h, fun _ => rd15 h, fun _ => rd16 h, fun _ => rd17 h, fun _ => rd18 h, fun _ => rd19 h, fun _ => rd20 h, fun _ => rd21 h, fun _ => rd22 h, fun _ => rd23 h, fun _ => rd24 h, fun _ => rd25 h, fun _ => rd26 h, fun _ => rd27 h, fun _ => rd28 h, fun _ => rd29 h, fun _ => rd30 h, fun _ => rd31 h, fun _ => rd32 h, fun _ => rd33 h, fun _ => rd34 h, fun _ => rd35 h, fun _ => rd36 h, fun _ => rd37 h, fun _ => rd38 h, fun _ => rd39 h, fun _ => rd40 h, fun _ => rd41 h, fun _ => rd42 h, fun _ => rd43 h, fun _ => rd44 h, fun _ => rd45 h, fun _ => rd46 h, fun _ => rd47 h, fun _ => rd48 h, fun _ => rd49 h, fun _ => rd50 h, fun _ => rd51 h, fun _ => rd52 h, fun _ => rd53 h, fun _ => rd54 h, fun _ => rd55 h, fun _ => rd56 h, fun _ => rd57 h, fun _ => rd58 h, fun _ => rd59 h, fun _ => rd60 h, fun _ => rd61 h, fun _ => rd62 h, fun _ => rd63 h, fun _ => rd64 h, fun _ => rd65 h, fun _ => rd66 h, fun _ => rd67 h, fun _ => rd68 h, fun _ => rd69 h, fun _ => rd70 h, fun _ => rd71 h, fun _ => rd72 h, fun _ => rd73 h, fun _ => rd74 h, fun _ => rd75 h, fun _ => rd76 h, fun _ => rd77 h⟩
/-! ## What needs no memory -/
theorem eqv_int (a b : Int) : PyData.eqv (.int a) (.int b) = decide (a = b) := by
  unfold PyData.eqv
  try rfl
  try (simp)
theorem P : (∀ (α : Type) (a b : Int) (K : Bool → Mx α) (μ : Mem), bnd (cmpM .Lt (.int a) (.int b)) K μ = K (decide (a < b)) μ) ∧
  (∀ (α : Type) (a b : Int) (K : Bool → Mx α) (μ : Mem), bnd (cmpM .LtE (.int a) (.int b)) K μ = K (decide (a ≤ b)) μ) ∧
  (∀ (α : Type) (a b : Int) (K : Bool → Mx α) (μ : Mem), bnd (cmpM .Gt (.int a) (.int b)) K μ = K (decide (a > b)) μ) ∧
  (∀ (α : Type) (a b : Int) (K : Bool → Mx α) (μ : Mem), bnd (cmpM .GtE (.int a) (.int b)) K μ = K (decide (a ≥ b)) μ) ∧
  (∀ (α : Type) (a b : Int) (K : Bool → Mx α) (μ : Mem), bnd (cmpM .Eq (.int a) (.int b)) K μ = K (decide (a = b)) μ) ∧
  (∀ (α : Type) (a b : Int) (K : Bool → Mx α) (μ : Mem), bnd (cmpM .NotEq (.int a) (.int b)) K μ = K (!decide (a = b)) μ) ∧
  (∀ (α : Type) (K : Bool → Mx α) (μ : Mem), bnd (cmpM .Is .none .none) K μ = K true μ) ∧
  (∀ (α : Type) (K : Bool → Mx α) (μ : Mem), bnd (cmpM .IsNot .none .none) K μ = K false μ) ∧
  (∀ (α : Type) (a : Nat) (K : Bool → Mx α) (μ : Mem), bnd (cmpM .Is (.ref a) .none) K μ = K false μ) ∧
  (∀ (α : Type) (a : Nat) (K : Bool → Mx α) (μ : Mem), bnd (cmpM .IsNot (.ref a) .none) K μ = K true μ) ∧
  (∀ (α : Type) (a : Int) (K : Bool → Mx α) (μ : Mem), bnd (cmpM .Is (.int a) .none) K μ = K false μ) ∧
  (∀ (α : Type) (a : Int) (b : Addr) (K : Bool → Mx α) (μ : Mem), bnd (cmpM .Is (.int a) (.top b)) K μ = K false μ) ∧
  (∀ (α : Type) (a : Int) (b : Addr) (K : Bool → Mx α) (μ : Mem), bnd (cmpM .IsNot (.int a) (.top b)) K μ = K true μ) ∧
  (∀ (α : Type) (K : Bool → Mx α) (μ : Mem), bnd (cmpM .Is (.top 135) (.top 135)) K μ = K true μ) ∧
  (∀ (α : Type) (K : Bool → Mx α) (μ : Mem), bnd (cmpM .Is (.top 138) (.top 138)) K μ = K true μ) ∧
  (∀ (α : Type) (K : Bool → Mx α) (μ : Mem), bnd (cmpM .Is (.top 138) (.top 135)) K μ = K false μ) ∧
  (∀ (α : Type) (K : Bool → Mx α) (μ : Mem), bnd (cmpM .Is (.top 135) (.top 138)) K μ = K false μ) ∧
  (∀ (α : Type) (K : Bool → Mx α) (μ : Mem), bnd (cmpM .IsNot (.top 138) (.top 135)) K μ = K true μ) ∧
  (∀ (α : Type) (K : Bool → Mx α) (μ : Mem), bnd (cmpM .IsNot (.top 135) (.top 135)) K μ = K false μ) ∧
  (∀ (α : Type) (a b : Int) (K : V → Mx α) (μ : Mem), bnd (binM .Add (.int a) (.int b)) K μ = K (.int (a + b)) μ) ∧
  (∀ (α : Type) (a b : Int) (K : V → Mx α) (μ : Mem), bnd (binM .Sub (.int a) (.int b)) K μ = K (.int (a - b)) μ) ∧
  (∀ (α : Type) (a b : Int) (K : V → Mx α) (μ : Mem), bnd (callB "min" [.int a, .int b]) K μ = K (.int (if b < a then b else a)) μ) ∧
  (∀ (α : Type) (a b : Int) (K : V → Mx α) (μ : Mem), bnd (callB "max" [.int a, .int b]) K μ = K (.int (if a < b then b else a)) μ) ∧
  (∀ (α : Type) (b : Bool) (K : Bool → Mx α) (μ : Mem), bnd (boolM (.bool b)) K μ = K b μ) ∧
  (∀ (α β : Type) (v : α) (K : α → Mx β) (μ : Mem), bnd (ret v) K μ = K v μ) ∧
  (∀ (α β : Type) (v : α) (K : α → Mx β) (μ : Mem), bnd (opt (some v)) K μ = K v μ) ∧
  (∀ (α : Type) (a : Int) (K : V → Mx α) (μ : Mem), bnd (callB "isinstance" [.int a, .ty "int"]) K μ = K (.bool true) μ) ∧
  (∀ (α : Type) (a : Int) (K : V → Mx α) (μ : Mem), bnd (callB "isinstance" [.int a, .ty "bool"]) K μ = K (.bool false) μ) ∧
  (∀ (α : Type) (a : Int) (K : V → Mx α) (μ : Mem), bnd (callB "isinstance" [.int a, .top 178]) K μ = K (.bool false) μ) ∧
  (∀ (α : Type) (a : Int) (K : V → Mx α) (μ : Mem), bnd (callB "isinstance" [.int a, .top 290]) K μ = K (.bool false) μ) ∧
  (∀ (α : Type) (K : V → Mx α) (μ : Mem), bnd (callB "isinstance" [.top 135, .top 178]) K μ = K (.bool false) μ) ∧
  (∀ (α : Type) (K : V → Mx α) (μ : Mem), bnd (callB "isinstance" [.top 138, .top 178]) K μ = K (.bool false) μ) ∧
  (∀ (α : Type) (K : V → Mx α) (μ : Mem), bnd (callB "isinstance" [.top 135, .ty "int"]) K μ = K (.bool false) μ) := by
  refine ⟨?_, ?_, ?_, ?_, ?_, ?_, ?_, ?_, ?_, ?_, ?_, ?_, ?_, ?_, ?_, ?_, ?_, ?_, ?_, ?_, ?_, ?_, ?_, ?_, ?_, ?_, ?_, ?_, ?_, ?_, ?_, ?_, ?_⟩
  all_goals (intros; first | rfl | (refine bnd_val ?_; rfl) | skip)
/-! ## What is stored -/
section
variable {α : Type} {ds : List Int} {st : St} {μ μ' : Mem}
theorem putA_bnd {a : Nat} {C : Addr} {fs : Loc} {x : Str} {v : V} (h0 : a ≠ 0) (hm : μ[a]? = some (.inst C fs)) (hk : (fieldsT C).contains x = true) (hz : szOk (.inst C (setL x v fs)) = true) (K : Unit → Mx α) : bnd (putAttrM (.ref a) x v) K μ = K () (μ.set a (.inst C (setL x v fs))) := by
  refine bnd_val ?_
  show bnd (getM a) _ μ = _
  refine (bnd_val (a := .inst C fs) (μ' := μ) (by unfold getM; rw [hm]; rfl)).trans ?_
  dsimp only
  rw [if_pos hk]
  unfold setM
  rw [if_pos ⟨hz, h0⟩]
theorem putD_bnd {a : Nat} {es : List (V × V)} {k v : V} (h0 : a ≠ 0) (hm : μ[a]? = some (.dict es)) (hk : kindKey k es = true) (hz : szOk (.dict (setD k v es)) = true) (K : Unit → Mx α) : bnd (putItemM (.ref a) k v) K μ = K () (μ.set a (.dict (setD k v es))) := by
  refine bnd_val ?_
  show bnd (getM a) _ μ = _
  refine (bnd_val (a := .dict es) (μ' := μ) (by unfold getM; rw [hm]; rfl)).trans ?_
  dsimp only
  rw [if_pos hk]
  unfold setM
  rw [if_pos ⟨hz, h0⟩]
theorem putI_bnd {a : Nat} {xs : List V} {k : Int} {v : V} (h0 : a ≠ 0) (hm : μ[a]? = some (.list xs)) (hk : 0 ≤ k ∧ small k = true ∧ k.toNat < xs.length) (hz : szOk (.list (xs.set k.toNat v)) = true) (K : Unit → Mx α) : bnd (putItemM (.ref a) (.int k) v) K μ = K () (μ.set a (.list (xs.set k.toNat v))) := by
  refine bnd_val ?_
  show bnd (getM a) _ μ = _
  refine (bnd_val (a := .list xs) (μ' := μ) (by unfold getM; rw [hm]; rfl)).trans ?_
  dsimp only
  rw [if_pos hk]
  unfold setM
  rw [if_pos ⟨hz, h0⟩]
theorem app_bnd {a : Nat} {xs : List V} {v : V} (h0 : a ≠ 0) (hm : μ[a]? = some (.list xs)) (hz : szOk (.list (xs ++ [v])) = true) (K : V → Mx α) : bnd (callB "list.append" [.ref a, v]) K μ = K .none (μ.set a (.list (xs ++ [v]))) := by
  refine bnd_val ?_
  show bnd (getM a) _ μ = _
  refine (bnd_val (a := .list xs) (μ' := μ) (by unfold getM; rw [hm]; rfl)).trans ?_
  show bnd (setM a _) _ μ = _
  refine (bnd_val (a := ()) (μ' := μ.set a (.list (xs ++ [v]))) (by unfold setM; rw [if_pos ⟨hz, h0⟩])).trans rfl
theorem small_of {i : Int} (h1 : -100000 ≤ i) (h2 : i ≤ 100000) : small i = true := by
  unfold small
  have : (2 : Nat) ^ 40 = 1099511627776 := by decide
  simp only [decide_eq_true_eq, this]
  omega
/-- the buffer's numbers -/
theorem H.buf (h : H ds st μ) (pt lo hi t1 t2 : Int) : H ds { st with pt := pt, lo := lo, hi := hi, t1 := t1, t2 := t2 } (μ.set 19 (.inst 464 (bF { st with pt := pt, lo := lo, hi := hi, t1 := t1, t2 := t2 }))) := by
  refine h.setF (by omega) (fun q hq => ?_) rfl (h.lt (a := 19) (o := .inst 464 (bF st)) (by unfold fixL; simp))
  simp only [fixL, List.mem_cons, List.not_mem_nil, or_false] at hq ⊢
  rcases hq with rfl | rfl | rfl | rfl | rfl | rfl | rfl | rfl | rfl | rfl | rfl | rfl | rfl <;> first | exact .inl rfl | (right; refine ⟨?_, by simp⟩; simp [wF, gF, oF])
theorem H.gap (h : H ds st μ) (gs ge : Int) : H ds { st with gs := gs, ge := ge } (μ.set 21 (.inst 108 (gF { st with gs := gs, ge := ge }))) := by
  refine h.setF (by omega) (fun q hq => ?_) rfl (h.lt (a := 21) (o := .inst 108 (gF st)) (by unfold fixL; simp))
  simp only [fixL, List.mem_cons, List.not_mem_nil, or_false] at hq ⊢
  rcases hq with rfl | rfl | rfl | rfl | rfl | rfl | rfl | rfl | rfl | rfl | rfl | rfl | rfl <;> first | exact .inl rfl | (right; refine ⟨?_, by simp⟩; simp [wF, bF, oF])
theorem H.cel (h : H ds st μ) (cells : List Int) : H ds { st with cells := cells } (μ.set 25 (il cells)) := by
  refine h.setF (by omega) (fun q hq => ?_) rfl (h.lt (a := 25) (o := il st.cells) (by unfold fixL; simp))
  simp only [fixL, List.mem_cons, List.not_mem_nil, or_false] at hq ⊢
  rcases hq with rfl | rfl | rfl | rfl | rfl | rfl | rfl | rfl | rfl | rfl | rfl | rfl | rfl <;> first | exact .inl rfl | (right; refine ⟨?_, by simp⟩; simp [wF, gF, oF, bF])
theorem H.dck (h : H ds st μ) (dk : Int) : H ds { st with dk := dk } (μ.set 3 (.list [.ref 2, .int dk])) := by
  refine h.setF (by omega) (fun q hq => ?_) rfl (h.lt (a := 3) (o := .list [.ref 2, .int st.dk]) (by unfold fixL; simp))
  simp only [fixL, List.mem_cons, List.not_mem_nil, or_false] at hq ⊢
  rcases hq with rfl | rfl | rfl | rfl | rfl | rfl | rfl | rfl | rfl | rfl | rfl | rfl | rfl <;> first | exact .inl rfl | (right; refine ⟨?_, by simp⟩; simp [wF, gF, oF, bF])
theorem H.wld (h : H ds st μ) (lm : Int) : H ds { st with lm := lm } (μ.set 4 (.inst 1253 (wF { st with lm := lm }))) := by
  refine h.setF (by omega) (fun q hq => ?_) rfl (h.lt (a := 4) (o := .inst 1253 (wF st)) (by unfold fixL; simp))
  simp only [fixL, List.mem_cons, List.not_mem_nil, or_false] at hq ⊢
  rcases hq with rfl | rfl | rfl | rfl | rfl | rfl | rfl | rfl | rfl | rfl | rfl | rfl | rfl <;> first | exact .inl rfl | (right; refine ⟨?_, by simp⟩; simp [wF, gF, oF, bF])
theorem H.own (h : H ds st μ) (op ol oh : Int) : H ds { st with op := op, ol := ol, oh := oh } (μ.set 167 (.dict (oF { st with op := op, ol := ol, oh := oh }))) := by
  refine h.setF (by omega) (fun q hq => ?_) rfl (h.lt (a := 167) (o := .dict (oF st)) (by unfold fixL; simp))
  simp only [fixL, List.mem_cons, List.not_mem_nil, or_false] at hq ⊢
  rcases hq with rfl | rfl | rfl | rfl | rfl | rfl | rfl | rfl | rfl | rfl | rfl | rfl | rfl <;> first | exact .inl rfl | (right; refine ⟨?_, by simp⟩; simp [wF, gF, oF, bF])
end
/-! ## Steps that end well -/
def Go {α : Type} (x : Option (Out α × Mem)) (Q : α → Mem → Prop) : Prop := ∃ a μ', x = some (.ok a, μ') ∧ Q a μ'
section
variable {α β : Type} {ds : List Int} {st : St} {μ μ' : Mem}
theorem go_ret {a : α} {Q : α → Mem → Prop} (h : Q a μ) : Go (ret a μ) Q := ⟨a, μ, rfl, h⟩
theorem go_bnd {m : Mx α} {K : α → Mx β} {R : α → Mem → Prop} {Q : β → Mem → Prop} (e : Go (m μ) R) (k : ∀ a μ', R a μ' → Go (K a μ') Q) : Go (bnd m K μ) Q := by
  obtain ⟨a, μ', e, r⟩ := e
  rw [bnd_val e]; exact k a μ' r
theorem go_mono {x : Option (Out α × Mem)} {R Q : α → Mem → Prop} (e : Go x R) (k : ∀ a μ', R a μ' → Q a μ') : Go x Q := by
  obtain ⟨a, μ', e, r⟩ := e
  exact ⟨a, μ', e, k a μ' r⟩
theorem go_eq {x y : Option (Out α × Mem)} {Q : α → Mem → Prop} (e : x = y) (h : Go y Q) : Go x Q := e ▸ h
theorem callF {n : Nat} {a : Addr} {args : List V} (h : (fnAt a).isSome = true) : callN (n + 1) (.top a) args = runFn (callN n) (fnOf a) args := by
  refine callN_fn ?_
  unfold fnOf
  cases h2 : fnAt a with
  | none => rw [h2] at h; cases h
  | some f => rfl
/-! A new object, a stored field -/
theorem st_new {o : MO} {K : V → Mx β} {Q : β → Mem → Prop} (h : H ds st μ) (hz : szOk o = true) (k : ∀ a μ', H ds st μ' → Keep st.L μ μ' → μ.length ≤ a → Free st.L a → μ'[a]? = some o → Go (K (.ref a) μ') Q) : Go (bnd (newM o) K μ) Q := by
  rw [new_bnd hz]
  exact k μ.length _ (h.push o) (Keep.push _ _ _) (Nat.le_refl _) h.free (last_get o)
theorem H.pos (h : H ds st μ) {f : Nat} (_ : f < 168) : f < μ.length := by have := h.len; omega
theorem st_pt {x : Int} {K : Unit → Mx β} {Q : β → Mem → Prop} (h : H ds st μ) (k : ∀ μ', H ds { st with pt := x } μ' → Keep st.L μ μ' → Go (K () μ') Q) : Go (bnd (putAttrM (.ref 19) "point" (.int x)) K μ) Q := by
  rw [putA_bnd (by decide) (h.at (o := .inst 464 (bF st)) (by unfold fixL; simp)) (by kernel_rfl) (by kernel_rfl)]
  exact k _ (h.buf x st.lo st.hi st.t1 st.t2) (Keep.setF (by omega))
theorem st_lo {x : Int} {K : Unit → Mx β} {Q : β → Mem → Prop} (h : H ds st μ) (k : ∀ μ', H ds { st with lo := x } μ' → Keep st.L μ μ' → Go (K () μ') Q) : Go (bnd (putAttrM (.ref 19) "begv" (.int x)) K μ) Q := by
  rw [putA_bnd (by decide) (h.at (o := .inst 464 (bF st)) (by unfold fixL; simp)) (by kernel_rfl) (by kernel_rfl)]
  exact k _ (h.buf st.pt x st.hi st.t1 st.t2) (Keep.setF (by omega))
theorem st_hi {x : Int} {K : Unit → Mx β} {Q : β → Mem → Prop} (h : H ds st μ) (k : ∀ μ', H ds { st with hi := x } μ' → Keep st.L μ μ' → Go (K () μ') Q) : Go (bnd (putAttrM (.ref 19) "zv" (.int x)) K μ) Q := by
  rw [putA_bnd (by decide) (h.at (o := .inst 464 (bF st)) (by unfold fixL; simp)) (by kernel_rfl) (by kernel_rfl)]
  exact k _ (h.buf st.pt st.lo x st.t1 st.t2) (Keep.setF (by omega))
theorem st_t1 {x : Int} {K : Unit → Mx β} {Q : β → Mem → Prop} (h : H ds st μ) (k : ∀ μ', H ds { st with t1 := x } μ' → Keep st.L μ μ' → Go (K () μ') Q) : Go (bnd (putAttrM (.ref 19) "ticks" (.int x)) K μ) Q := by
  rw [putA_bnd (by decide) (h.at (o := .inst 464 (bF st)) (by unfold fixL; simp)) (by kernel_rfl) (by kernel_rfl)]
  exact k _ (h.buf st.pt st.lo st.hi x st.t2) (Keep.setF (by omega))
theorem st_t2 {x : Int} {K : Unit → Mx β} {Q : β → Mem → Prop} (h : H ds st μ) (k : ∀ μ', H ds { st with t2 := x } μ' → Keep st.L μ μ' → Go (K () μ') Q) : Go (bnd (putAttrM (.ref 19) "codes_ticks" (.int x)) K μ) Q := by
  rw [putA_bnd (by decide) (h.at (o := .inst 464 (bF st)) (by unfold fixL; simp)) (by kernel_rfl) (by kernel_rfl)]
  exact k _ (h.buf st.pt st.lo st.hi st.t1 x) (Keep.setF (by omega))
theorem st_gs {x : Int} {K : Unit → Mx β} {Q : β → Mem → Prop} (h : H ds st μ) (k : ∀ μ', H ds { st with gs := x } μ' → Keep st.L μ μ' → Go (K () μ') Q) : Go (bnd (putAttrM (.ref 21) "gap_start" (.int x)) K μ) Q := by
  rw [putA_bnd (by decide) (h.at (o := .inst 108 (gF st)) (by unfold fixL; simp)) (by kernel_rfl) (by kernel_rfl)]
  exact k _ (h.gap x st.ge) (Keep.setF (by omega))
theorem st_ge {x : Int} {K : Unit → Mx β} {Q : β → Mem → Prop} (h : H ds st μ) (k : ∀ μ', H ds { st with ge := x } μ' → Keep st.L μ μ' → Go (K () μ') Q) : Go (bnd (putAttrM (.ref 21) "gap_end" (.int x)) K μ) Q := by
  rw [putA_bnd (by decide) (h.at (o := .inst 108 (gF st)) (by unfold fixL; simp)) (by kernel_rfl) (by kernel_rfl)]
  exact k _ (h.gap st.gs x) (Keep.setF (by omega))
theorem st_lm {x : Int} {K : Unit → Mx β} {Q : β → Mem → Prop} (h : H ds st μ) (k : ∀ μ', H ds { st with lm := x } μ' → Keep st.L μ μ' → Go (K () μ') Q) : Go (bnd (putAttrM (.ref 4) "last_marker" (.int x)) K μ) Q := by
  rw [putA_bnd (by decide) (h.at (o := .inst 1253 (wF st)) (by unfold fixL; simp)) (by kernel_rfl) (by kernel_rfl)]
  exact k _ (h.wld x) (Keep.setF (by omega))
theorem st_dk {x : Int} {K : Unit → Mx β} {Q : β → Mem → Prop} (h : H ds st μ) (k : ∀ μ', H ds { st with dk := x } μ' → Keep st.L μ μ' → Go (K () μ') Q) : Go (bnd (putItemM (.ref 3) (.int 1) (.int x)) K μ) Q := by
  rw [putI_bnd (by decide) (h.at (o := .list [.ref 2, .int st.dk]) (by unfold fixL; simp)) ⟨by decide, by decide, Nat.lt_succ_self _⟩ (by kernel_rfl)]
  exact k _ (h.dck x) (Keep.setF (by omega))
theorem st_op {x : Int} {K : Unit → Mx β} {Q : β → Mem → Prop} (h : H ds st μ) (k : ∀ μ', H ds { st with op := x } μ' → Keep st.L μ μ' → Go (K () μ') Q) : Go (bnd (putItemM (.ref 167) (.str "point") (.int x)) K μ) Q := by
  rw [putD_bnd (by decide) (h.at (o := .dict (oF st)) (by unfold fixL; simp)) (by kernel_rfl) (by kernel_rfl)]
  exact k _ (h.own x st.ol st.oh) (Keep.setF (by omega))
theorem st_ol {x : Int} {K : Unit → Mx β} {Q : β → Mem → Prop} (h : H ds st μ) (k : ∀ μ', H ds { st with ol := x } μ' → Keep st.L μ μ' → Go (K () μ') Q) : Go (bnd (putItemM (.ref 167) (.str "low") (.int x)) K μ) Q := by
  rw [putD_bnd (by decide) (h.at (o := .dict (oF st)) (by unfold fixL; simp)) (by kernel_rfl) (by kernel_rfl)]
  exact k _ (h.own st.op x st.oh) (Keep.setF (by omega))
theorem st_oh {x : Int} {K : Unit → Mx β} {Q : β → Mem → Prop} (h : H ds st μ) (k : ∀ μ', H ds { st with oh := x } μ' → Keep st.L μ μ' → Go (K () μ') Q) : Go (bnd (putItemM (.ref 167) (.str "high") (.int x)) K μ) Q := by
  rw [putD_bnd (by decide) (h.at (o := .dict (oF st)) (by unfold fixL; simp)) (by kernel_rfl) (by kernel_rfl)]
  exact k _ (h.own st.op st.ol x) (Keep.setF (by omega))
/-! Slices -/
theorem cut_of {n : Nat} {i : Int} (h : 0 ≤ i) : cutAt n i = min i.toNat n := by unfold cutAt; rw [if_neg (by omega)]
theorem dropTake {l : List Int} {i j : Nat} : (l.take (min j l.length)).drop (min i l.length) = (l.take j).drop i := by
  rw [show l.take (min j l.length) = l.take j from by rw [← List.take_take, List.take_length]]
  rcases Nat.le_total i l.length with z | z
  · rw [Nat.min_eq_left z]
  · rw [Nat.min_eq_right z, List.drop_eq_nil_of_le (by simp; omega), List.drop_eq_nil_of_le (by simp; omega)]
theorem il_cut (l : List Int) (i j : Nat) : ((l.map V.int).take j).drop i = ((l.take j).drop i).map V.int := by rw [List.map_drop, List.map_take]
theorem szIl {l : List Int} (h : l.length ≤ 1000) : szOk (il l) = true := by unfold szOk il; simp only [List.length_map, decide_eq_true_eq]; exact h
theorem srcOf_bnd {a : Nat} {xs : List V} (hm : μ[a]? = some (.list xs)) (K : List V → Mx α) : bnd (srcOfM (.ref a)) K μ = K xs μ := by
  refine bnd_val ?_
  show bnd (getM a) _ μ = _
  exact (bnd_val (a := .list xs) (μ' := μ) (by unfold getM; rw [hm]; rfl)).trans rfl
theorem slice_go {a : Nat} {l : List Int} {lv uv : V} {i j : Nat} {K : V → Mx β} {Q : β → Mem → Prop} (h : H ds st μ) (hm : μ[a]? = some (il l)) (hl : l.length ≤ 1000) (hs : sliceOf (l.map .int) lv uv = some (i, j))
    (k : ∀ a μ', H ds st μ' → Keep st.L μ μ' → μ.length ≤ a → Free st.L a → μ'[a]? = some (il ((l.take j).drop i)) → Go (K (.ref a) μ') Q) : Go (bnd (sliceM (.ref a) lv uv) K μ) Q := by
  refine go_eq (y := bnd (newM (il ((l.take j).drop i))) K μ) ?_ (st_new h (szIl (by simp; omega)) k)
  unfold sliceM
  rw [bnd_assoc, srcOf_bnd hm, bnd_assoc, hs]
  show bnd (newM _) K μ = _
  rw [il_cut]; rfl
theorem sl_ii {l : List Int} {i j : Int} (hi : 0 ≤ i) (hi' : i ≤ 100000) (hj : 0 ≤ j) (hj' : j ≤ 100000) : sliceOf (l.map .int) (.int i) (.int j) = some (min i.toNat l.length, min j.toNat l.length) := by
  unfold sliceOf
  dsimp only
  rw [small_of (by omega) hi', small_of (by omega) hj', cut_of hi, cut_of hj, List.length_map]; rfl
theorem sl_n {l : List Int} {j : Int} (hj : 0 ≤ j) (hj' : j ≤ 100000) : sliceOf (l.map .int) .none (.int j) = some (0, min j.toNat l.length) := by
  unfold sliceOf
  dsimp only
  rw [small_of (by omega) hj', cut_of hj, List.length_map]; rfl
theorem sl_i {l : List Int} {i : Int} (hi : 0 ≤ i) (hi' : i ≤ 100000) : sliceOf (l.map .int) (.int i) .none = some (min i.toNat l.length, l.length) := by
  unfold sliceOf
  dsimp only
  rw [small_of (by omega) hi', cut_of hi, List.length_map]; rfl
theorem slice_ii {a : Nat} {l : List Int} {i j : Int} {K : V → Mx β} {Q : β → Mem → Prop} (h : H ds st μ) (hm : μ[a]? = some (il l)) (hl : l.length ≤ 1000) (hi : 0 ≤ i) (hi' : i ≤ 100000) (hj : 0 ≤ j) (hj' : j ≤ 100000)
    (k : ∀ a μ', H ds st μ' → Keep st.L μ μ' → μ.length ≤ a → Free st.L a → μ'[a]? = some (il ((l.take j.toNat).drop i.toNat)) → Go (K (.ref a) μ') Q) : Go (bnd (sliceM (.ref a) (.int i) (.int j)) K μ) Q := by
  refine slice_go h hm hl (sl_ii hi hi' hj hj') ?_
  rw [dropTake]; exact k
theorem slice_n {a : Nat} {l : List Int} {j : Int} {K : V → Mx β} {Q : β → Mem → Prop} (h : H ds st μ) (hm : μ[a]? = some (il l)) (hl : l.length ≤ 1000) (hj : 0 ≤ j) (hj' : j ≤ 100000)
    (k : ∀ a μ', H ds st μ' → Keep st.L μ μ' → μ.length ≤ a → Free st.L a → μ'[a]? = some (il (l.take j.toNat)) → Go (K (.ref a) μ') Q) : Go (bnd (sliceM (.ref a) .none (.int j)) K μ) Q := by
  refine slice_go h hm hl (sl_n hj hj') ?_
  rw [List.drop_zero, show l.take (min j.toNat l.length) = l.take j.toNat from by rw [← List.take_take, List.take_length]]; exact k
theorem slice_i {a : Nat} {l : List Int} {i : Int} {K : V → Mx β} {Q : β → Mem → Prop} (h : H ds st μ) (hm : μ[a]? = some (il l)) (hl : l.length ≤ 1000) (hi : 0 ≤ i) (hi' : i ≤ 100000)
    (k : ∀ a μ', H ds st μ' → Keep st.L μ μ' → μ.length ≤ a → Free st.L a → μ'[a]? = some (il (l.drop i.toNat)) → Go (K (.ref a) μ') Q) : Go (bnd (sliceM (.ref a) (.int i) .none) K μ) Q := by
  refine slice_go h hm hl (sl_i hi hi') ?_
  have e := dropTake (l := l) (i := i.toNat) (j := l.length)
  rw [Nat.min_self, List.take_length] at e
  rw [List.take_length, e]; exact k
theorem add_go {a b : Nat} {l m : List Int} {K : V → Mx β} {Q : β → Mem → Prop} (h : H ds st μ) (ha : μ[a]? = some (il l)) (hb : μ[b]? = some (il m)) (hl : l.length + m.length ≤ 1000)
    (k : ∀ a μ', H ds st μ' → Keep st.L μ μ' → μ.length ≤ a → Free st.L a → μ'[a]? = some (il (l ++ m)) → Go (K (.ref a) μ') Q) : Go (bnd (binM .Add (.ref a) (.ref b)) K μ) Q := by
  refine go_eq (y := bnd (newM (il (l ++ m))) K μ) ?_ (st_new h (szIl (by simp; omega)) k)
  show bnd (bnd (listOfM (.ref a)) fun p => bnd (listOfM (.ref b)) fun q => newM (.list (p.2 ++ q.2))) K μ = _
  rw [bnd_assoc, listOf_bnd ha, bnd_assoc, listOf_bnd hb]
  unfold il
  rw [List.map_append]
theorem mul_go {a : Nat} {i : Int} {v : Int} {K : V → Mx β} {Q : β → Mem → Prop} (h : H ds st μ) (ha : μ[a]? = some (il [v])) (h2 : i ≤ 1000) (h1 : -1000 ≤ i)
    (k : ∀ a μ', H ds st μ' → Keep st.L μ μ' → μ.length ≤ a → Free st.L a → μ'[a]? = some (il (List.replicate i.toNat v)) → Go (K (.ref a) μ') Q) : Go (bnd (binM .Mult (.ref a) (.int i)) K μ) Q := by
  refine go_eq (y := bnd (newM (il (List.replicate i.toNat v))) K μ) ?_ (st_new h (szIl (by simp; omega)) k)
  show bnd (bnd (listOfM (.ref a)) fun p => match p.2 with
    | [v] => if i.toNat ≤ big ∧ small i then newM (.list (List.replicate i.toNat v)) else stuck
    | _ => stuck) K μ = _
  rw [bnd_assoc, listOf_bnd ha]
  dsimp only [List.map]
  rw [if_pos ⟨by unfold big; omega, small_of (by omega) (by omega)⟩]
  unfold il
  rw [List.map_replicate]
theorem st_cells {c : Nat} {w : List Int} {i j : Int} {K : Unit → Mx β} {Q : β → Mem → Prop} (h : H ds st μ) (hc : μ[c]? = some (il w)) (hf : Free st.L c) (hi : 0 ≤ i) (hij : i ≤ j) (hj : j ≤ st.cells.length) (hl : st.cells.length ≤ 500) (hw : w.length ≤ 500)
    (k : ∀ μ', H ds { st with cells := st.cells.take i.toNat ++ w ++ st.cells.drop j.toNat } μ' → Keep st.L μ μ' → Go (K () μ') Q) : Go (bnd (putSliceM (.ref 25) (.int i) (.int j) (.ref c)) K μ) Q := by
  have hm : μ[25]? = some (il st.cells) := h.at (by unfold fixL; simp)
  refine go_eq (y := K () (μ.set 25 (il (st.cells.take i.toNat ++ w ++ st.cells.drop j.toNat)))) ?_ (k _ (h.cel _) (Keep.setF (by omega)))
  unfold putSliceM
  rw [bnd_assoc, listOf_bnd hm, bnd_assoc, listOf_bnd hc, bnd_assoc, sl_ii hi (by omega) (by omega) (by omega)]
  show bnd (if (25 : Nat) ≠ c then _ else _) K μ = _
  rw [if_pos (by have := hf.1; omega)]
  have e : (st.cells.map V.int).take (min i.toNat st.cells.length) ++ w.map V.int ++ (st.cells.map V.int).drop (max (min i.toNat st.cells.length) (min j.toNat st.cells.length)) = (st.cells.take i.toNat ++ w ++ st.cells.drop j.toNat).map V.int := by
    rw [Nat.min_eq_left (by omega), Nat.min_eq_left (by omega), Nat.max_eq_right (by omega)]
    simp
  refine bnd_val ?_
  dsimp only
  rw [e]
  unfold setM
  rw [if_pos ⟨by exact szIl (by simp; omega), by decide⟩]; rfl
end
/-! ## What may be called, and the gap -/
theorem M : (∀ b, mayCall (.bi b) = true) ∧ (∀ b, mayCall (.ty b) = true) ∧ (∀ (C : CallT) a l, callV C (.top a) l = C (.top a) l) ∧ (∀ (C : CallT) b l, callV C (.bi b) l = callB b l) ∧ (∀ (C : CallT) b l, callV C (.ty b) l = callT b l) ∧
  mayCall (.top 42) = true ∧ mayCall (.top 49) = true ∧ mayCall (.top 56) = true ∧ mayCall (.top 63) = true ∧ mayCall (.top 70) = true ∧ mayCall (.top 77) = true ∧ mayCall (.top 84) = true ∧ mayCall (.top 175) = true ∧ mayCall (.top 245) = true ∧ mayCall (.top 252) = true ∧ mayCall (.top 266) = true ∧ mayCall (.top 313) = true ∧ mayCall (.top 320) = true ∧ mayCall (.top 341) = true ∧ mayCall (.top 348) = true ∧ mayCall (.top 398) = true ∧ mayCall (.top 405) = true ∧ mayCall (.top 412) = true ∧ mayCall (.top 419) = true ∧ mayCall (.top 426) = true ∧ mayCall (.top 433) = true ∧ mayCall (.top 461) = true ∧ mayCall (.top 493) = true ∧ mayCall (.top 500) = true ∧ mayCall (.top 507) = true ∧ mayCall (.top 514) = true ∧ mayCall (.top 521) = true ∧ mayCall (.top 528) = true ∧ mayCall (.top 535) = true ∧ mayCall (.top 542) = true ∧ mayCall (.top 549) = true ∧ mayCall (.top 557) = true ∧ mayCall (.top 564) = true ∧ mayCall (.top 571) = true ∧ mayCall (.top 578) = true ∧ mayCall (.top 585) = true ∧ mayCall (.top 592) = true ∧ mayCall (.top 599) = true ∧ mayCall (.top 606) = true ∧ mayCall (.top 613) = true ∧ mayCall (.top 620) = true ∧ mayCall (.top 627) = true ∧ mayCall (.top 634) = true ∧ mayCall (.top 641) = true ∧ mayCall (.top 648) = true ∧ mayCall (.top 655) = true ∧ mayCall (.top 662) = true ∧ mayCall (.top 669) = true ∧ mayCall (.top 676) = true ∧ mayCall (.top 683) = true ∧ mayCall (.top 690) = true ∧ mayCall (.top 697) = true ∧ mayCall (.top 704) = true ∧ mayCall (.top 711) = true ∧ mayCall (.top 718) = true ∧ mayCall (.top 725) = true ∧ mayCall (.top 732) = true ∧ mayCall (.top 739) = true ∧ mayCall (.top 746) = true ∧ mayCall (.top 753) = true ∧ mayCall (.top 760) = true ∧ mayCall (.top 767) = true ∧ mayCall (.top 774) = true ∧ mayCall (.top 781) = true ∧ mayCall (.top 788) = true ∧ mayCall (.top 795) = true ∧ mayCall (.top 802) = true ∧ mayCall (.top 809) = true ∧ mayCall (.top 816) = true ∧ mayCall (.top 823) = true ∧ mayCall (.top 830) = true ∧ mayCall (.top 865) = true ∧ mayCall (.top 872) = true ∧ mayCall (.top 879) = true ∧ mayCall (.top 1243) = true ∧ mayCall (.top 1264) = true ∧ mayCall (.top 1271) = true ∧ mayCall (.top 1278) = true ∧ mayCall (.top 1285) = true ∧ mayCall (.top 1292) = true ∧ mayCall (.top 1299) = true ∧ mayCall (.top 1306) = true ∧ mayCall (.top 1313) = true ∧ mayCall (.top 1320) = true ∧ mayCall (.top 290) = true ∧ mayCall (.top 178) = true ∧ mayCall (.top 837) = true ∧ mayCall (.top 844) = true ∧ mayCall (.top 851) = true ∧ mayCall (.top 858) = true ∧ mayCall (.top 886) = true ∧ mayCall (.top 893) = true ∧ mayCall (.top 900) = true := by
  refine ⟨fun _ => rfl, fun _ => rfl, fun _ _ _ => rfl, fun _ _ _ => rfl, fun _ _ _ => rfl, ?_, ?_, ?_, ?_, ?_, ?_, ?_, ?_, ?_, ?_, ?_, ?_, ?_, ?_, ?_, ?_, ?_, ?_, ?_, ?_, ?_, ?_, ?_, ?_, ?_, ?_, ?_, ?_, ?_, ?_, ?_, ?_, ?_, ?_, ?_, ?_, ?_, ?_, ?_, ?_, ?_, ?_, ?_, ?_, ?_, ?_, ?_, ?_, ?_, ?_, ?_, ?_, ?_, ?_, ?_, ?_, ?_, ?_, ?_, ?_, ?_, ?_, ?_, ?_, ?_, ?_, ?_, ?_, ?_, ?_, ?_, ?_, ?_, ?_, ?_, ?_, ?_, ?_, ?_, ?_, ?_, ?_, ?_, ?_, ?_, ?_, ?_, ?_, ?_, ?_, ?_, ?_, ?_⟩ <;> kernel_rfl
structure GI (st : St) (t : List Int) : Prop where
  a : 0 ≤ st.gs
  b : st.gs ≤ st.ge
  c : st.ge ≤ st.cells.length
  d : st.cells.length ≤ 400
  e : st.cells.take st.gs.toNat ++ st.cells.drop st.ge.toNat = t
theorem GI.len {st : St} {t : List Int} (g : GI st t) : (t.length : Int) = st.cells.length - st.ge + st.gs := by
  have := g.a; have := g.b; have := g.c
  rw [← g.e, List.length_append, List.length_take, List.length_drop]
  omega
theorem GI.get {st : St} {t : List Int} (g : GI st t) (i : Nat) : t[i]? = if i < st.gs.toNat then st.cells[i]? else st.cells[i - st.gs.toNat + st.ge.toNat]? := by
  have := g.a; have := g.b; have := g.c
  rw [← g.e, List.getElem?_append, List.length_take, Nat.min_eq_left (by omega), List.getElem?_take, List.getElem?_drop]
  split
  · rfl
  · congr 1; omega
theorem cut_get (l : List Int) (i j k : Nat) : ((l.take j).drop i)[k]? = if i + k < j then l[i + k]? else none := by
  rw [List.getElem?_drop, List.getElem?_take]
section
variable {α β : Type} {ds : List Int} {st : St} {μ μ' : Mem}
theorem g42 (h : H ds st μ) (n : Nat) {t : List Int} (g : GI st t) (K : V → Mx α) : bnd (callN (n + 1) (.top 42) [.ref 21]) K μ = K (.int t.length) μ := by
  rw [g.len, callF (by kernel_rfl), s42]
  simp only [bnd_assoc, R h, P]
theorem il_get (l : List Int) (i : Nat) : (l.map V.int)[i]? = (l[i]?).map V.int := List.getElem?_map ..
theorem H.cells (h : H ds st μ) : μ[25]? = some (il st.cells) := h.at (by unfold fixL; simp)
theorem g49 (h : H ds st μ) (n : Nat) {t : List Int} (g : GI st t) {p c : Int} (hp : 0 ≤ p) (hc : t[p.toNat]? = some c) (K : V → Mx α) : bnd (callN (n + 1) (.top 49) [.ref 21, .int p]) K μ = K (.int c) μ := by
  have a := g.a; have b := g.b; have cc := g.c; have d := g.d
  have hlt := (List.getElem?_eq_some_iff.mp hc).1
  have hl := g.len
  rw [g.get] at hc
  rw [callF (by kernel_rfl), s49]
  simp only [bnd_assoc, R h, P, decide_eq_true_eq]
  by_cases z : p < st.gs
  · rw [if_pos z]
    rw [if_pos (by omega)] at hc
    simp only [bnd_assoc, R h]
    rw [item_bnd h.cells ⟨hp, small_of (by omega) (by omega)⟩ (v := .int c) (by rw [il_get, hc]; rfl)]
    simp only [P]
  · rw [if_neg z]
    rw [if_neg (by omega)] at hc
    simp only [bnd_assoc, R h, P]
    rw [item_bnd h.cells ⟨by omega, small_of (by omega) (by omega)⟩ (v := .int c) (by rw [il_get, show (p - st.gs + st.ge).toNat = p.toNat - st.gs.toNat + st.ge.toNat from by omega, hc]; rfl)]
    simp only [P]
theorem g56 (h : H ds st μ) (n : Nat) {t : List Int} (g : GI st t) {s e : Int} (hs : 0 ≤ s) (hse : s ≤ e) (he : e ≤ t.length) : Go (callN (n + 1) (.top 56) [.ref 21, .int s, .int e] μ) fun v μ' => ∃ a, v = .ref a ∧ H ds st μ' ∧ Keep st.L μ μ' ∧ μ.length ≤ a ∧ Free st.L a ∧ μ'[a]? = some (il ((t.take e.toNat).drop s.toNat)) := by
  have a := g.a; have b := g.b; have cc := g.c; have d := g.d
  have hl := g.len
  rw [callF (by kernel_rfl), s56]
  simp only [bnd_assoc, R h, P, decide_eq_true_eq]
  by_cases z : e ≤ st.gs
  · rw [if_pos z]
    simp only [bnd_assoc, R h]
    refine slice_ii h h.cells (by omega) hs (by omega) (by omega) (by omega) fun a μ1 h1 k1 l1 f1 m1 => go_ret ⟨a, rfl, h1, k1, l1, f1, ?_⟩
    rw [m1]
    congr 2
    apply List.ext_getElem?; intro i
    rw [cut_get, cut_get, g.get]
    split
    · rw [if_pos (by omega)]
    · rfl
  · rw [if_neg z]
    simp only [bnd_assoc, R h, P, decide_eq_true_eq, ge_iff_le]
    by_cases z2 : st.gs ≤ s
    · rw [if_pos z2]
      simp only [bnd_assoc, R h, P]
      refine slice_ii h h.cells (by omega) (by omega) (by omega) (by omega) (by omega) fun a μ1 h1 k1 l1 f1 m1 => go_ret ⟨a, rfl, h1, k1, l1, f1, ?_⟩
      rw [m1]
      congr 2
      apply List.ext_getElem?; intro i
      rw [cut_get, cut_get, g.get]
      rw [show (s + (st.ge - st.gs)).toNat + i = s.toNat + i - st.gs.toNat + st.ge.toNat from by omega]
      by_cases y : s.toNat + i < e.toNat
      · rw [if_pos (by omega), if_pos y, if_neg (by omega)]
      · rw [if_neg (by omega), if_neg y]
    · rw [if_neg z2]
      simp only [bnd_assoc, R h, P]
      refine slice_ii h h.cells (by omega) (by omega) (by omega) (by omega) (by omega) fun a1 μ1 h1 k1 l1 f1 m1 => ?_
      simp only [R h1, P]
      refine slice_ii h1 h1.cells (by omega) (by omega) (by omega) (by omega) (by omega) fun a2 μ2 h2 k2 l2 f2 m2 => ?_
      refine add_go h2 (k2.get _ _ f1 m1) m2 (by simp; omega) fun a3 μ3 h3 k3 l3 f3 m3 => go_ret ⟨a3, rfl, h3, (k1.trans k2).trans k3, by have := k1.len; have := k2.len; omega, f3, ?_⟩
      rw [m3]
      congr 2
      apply List.ext_getElem?; intro i
      rw [List.getElem?_append, cut_get, cut_get, cut_get, g.get, List.length_drop, List.length_take, Nat.min_eq_left (by omega)]
      by_cases y : i < st.gs.toNat - s.toNat
      · rw [if_pos y, if_pos (by omega), if_pos (by omega), if_pos (by omega)]
      · rw [if_neg y]
        rw [show st.ge.toNat + (i - (st.gs.toNat - s.toNat)) = s.toNat + i - st.gs.toNat + st.ge.toNat from by omega]
        by_cases y2 : s.toNat + i < e.toNat
        · rw [if_pos (by omega), if_pos y2, if_neg (by omega)]
        · rw [if_neg (by omega), if_neg y2]
end
/-! ## The gap moved, widened; signs put in and taken out -/
theorem GI.of {st : St} {t : List Int} (a : 0 ≤ st.gs) (b : st.gs ≤ st.ge) (c : st.ge ≤ st.cells.length) (d : st.cells.length ≤ 400) (e : ∀ i, (if i < st.gs.toNat then st.cells[i]? else st.cells[i - st.gs.toNat + st.ge.toNat]?) = t[i]?) : GI st t := by
  refine ⟨a, b, c, d, List.ext_getElem? fun i => ?_⟩
  rw [← e, List.getElem?_append, List.length_take, Nat.min_eq_left (by omega), List.getElem?_take, List.getElem?_drop]
  split
  · rfl
  · congr 1; omega
theorem splice_get {l w : List Int} {a b : Nat} (ha : a ≤ l.length) (i : Nat) : (l.take a ++ w ++ l.drop b)[i]? = if i < a then l[i]? else if i < a + w.length then w[i - a]? else l[i - a - w.length + b]? := by
  rw [List.append_assoc, List.getElem?_append, List.length_take, Nat.min_eq_left ha, List.getElem?_take, List.getElem?_append, List.getElem?_drop]
  by_cases z : i < a
  · rw [if_pos z, if_pos z, if_pos z]
  · rw [if_neg z, if_neg z]
    by_cases y : i < a + w.length
    · rw [if_pos (by omega), if_pos y]
    · rw [if_neg (by omega), if_neg y]; congr 1; omega
section
variable {α β : Type} {ds : List Int} {st : St} {μ μ' : Mem}
theorem g63 (h : H ds st μ) (n : Nat) {t : List Int} (g : GI st t) {p : Int} (hp : 0 ≤ p) (hpt : p ≤ t.length) : Go (callN (n + 1) (.top 63) [.ref 21, .int p] μ) fun v μ' => v = .none ∧ ∃ cs ge, H ds { st with cells := cs, gs := p, ge := ge } μ' ∧ GI { st with cells := cs, gs := p, ge := ge } t ∧ ge - p = st.ge - st.gs ∧ Keep st.L μ μ' := by
  have a := g.a; have b := g.b; have cc := g.c; have d := g.d
  have hl := g.len
  rw [callF (by kernel_rfl), s63]
  simp only [R h, P, decide_eq_true_eq]
  by_cases z : p < st.gs
  · rw [if_pos z]
    simp only [R h]
    refine slice_ii h h.cells (by omega) hp (by omega) (by omega) (by omega) fun a1 μ1 h1 k1 l1 f1 m1 => ?_
    have hm : (((st.cells.take st.gs.toNat).drop p.toNat).length : Int) = st.gs - p := by simp only [List.length_drop, List.length_take]; omega
    simp only [R h1, P, len_bnd m1, hm]
    refine st_cells h1 m1 f1 (by omega) (by omega) (by omega) (by omega) (by omega) fun μ2 h2 k2 => ?_
    simp only [R h2, P, len_bnd (k2.get _ _ f1 m1), hm]
    refine st_ge h2 fun μ3 h3 k3 => ?_
    refine st_gs h3 fun μ4 h4 k4 => go_ret ⟨rfl, _, _, h4, ?_, by dsimp only; omega, ((k1.trans k2).trans k3).trans k4⟩
    refine GI.of hp (by dsimp only; omega) ?_ ?_ fun i => ?_
    · dsimp only; simp only [List.length_append, List.length_take, List.length_drop]; omega
    · dsimp only; simp only [List.length_append, List.length_take, List.length_drop]; omega
    · dsimp only
      rw [splice_get (by omega), splice_get (by omega), cut_get, cut_get, g.get]
      have hm' : ((st.cells.take st.gs.toNat).drop p.toNat).length = st.gs.toNat - p.toNat := by simp only [List.length_drop, List.length_take]; omega
      rw [hm']
      by_cases y : i < p.toNat
      · rw [if_pos y, if_pos (by omega), if_pos (by omega)]
      · rw [if_neg y]
        rw [if_neg (by omega)]
        by_cases y2 : i < st.gs.toNat
        · rw [if_pos (by omega), if_pos (by omega), if_pos y2]
          congr 1; omega
        · rw [if_neg (by omega), if_neg y2]
          congr 1; omega
  · rw [if_neg z]
    simp only [R h, P]
    refine slice_ii h h.cells (by omega) (by omega) (by omega) (by omega) (by omega) fun a1 μ1 h1 k1 l1 f1 m1 => ?_
    have hm : (((st.cells.take (st.ge + p - st.gs).toNat).drop st.ge.toNat).length : Int) = p - st.gs := by simp only [List.length_drop, List.length_take]; omega
    simp only [R h1, P, len_bnd m1, hm]
    refine st_cells h1 m1 f1 (by omega) (by omega) (by omega) (by omega) (by omega) fun μ2 h2 k2 => ?_
    simp only [R h2, P, len_bnd (k2.get _ _ f1 m1), hm]
    refine st_ge h2 fun μ3 h3 k3 => ?_
    refine st_gs h3 fun μ4 h4 k4 => go_ret ⟨rfl, _, _, h4, ?_, by dsimp only; omega, ((k1.trans k2).trans k3).trans k4⟩
    have hm' : ((st.cells.take (st.ge + p - st.gs).toNat).drop st.ge.toNat).length = p.toNat - st.gs.toNat := by simp only [List.length_drop, List.length_take]; omega
    refine GI.of hp (by dsimp only; omega) ?_ ?_ fun i => ?_
    · dsimp only; simp only [List.length_append, List.length_take, List.length_drop]; omega
    · dsimp only; simp only [List.length_append, List.length_take, List.length_drop]; omega
    · dsimp only
      rw [splice_get (by omega), splice_get (by omega), cut_get, cut_get, g.get, hm']
      by_cases y : i < st.gs.toNat
      · rw [if_pos (by omega), if_pos y, if_pos y]
      · by_cases y2 : i < p.toNat
        · rw [if_pos y2, if_neg y, if_pos (by omega), if_pos (by omega), if_neg y]
          congr 1; omega
        · rw [if_neg y2, if_neg (by omega), if_neg (by omega), if_neg y]
          congr 1; omega
theorem g70 (h : H ds st μ) (n : Nat) {t : List Int} (g : GI st t) {w : Int} (hw : 0 ≤ w) (hwt : t.length + w ≤ 300) : Go (callN (n + 1) (.top 70) [.ref 21, .int w] μ) fun v μ' => v = .none ∧ ∃ cs ge, H ds { st with cells := cs, ge := ge } μ' ∧ GI { st with cells := cs, ge := ge } t ∧ w ≤ ge - st.gs ∧ Keep st.L μ μ' := by
  have a := g.a; have b := g.b; have cc := g.c; have d := g.d
  have hl := g.len
  rw [callF (by kernel_rfl), s70]
  simp only [R h, P, decide_eq_true_eq, gt_iff_lt]
  by_cases z : 0 < w - (st.ge - st.gs)
  · rw [if_pos z]
    refine st_new h rfl fun a1 μ1 h1 k1 l1 f1 m1 => ?_
    simp only [R h1, P]
    refine mul_go h1 (v := 0) m1 (by omega) (by omega) fun a2 μ2 h2 k2 l2 f2 m2 => ?_
    simp only [R h2]
    refine st_cells h2 m2 f2 (by omega) (by omega) (by omega) (by omega) (by simp; omega) fun μ3 h3 k3 => ?_
    simp only [R h3, P]
    refine st_ge h3 fun μ4 h4 k4 => go_ret ⟨rfl, _, _, h4, ?_, by (try dsimp only); omega, ((k1.trans k2).trans k3).trans k4⟩
    refine GI.of a (by dsimp only; omega) ?_ ?_ fun i => ?_
    · dsimp only; simp only [List.length_append, List.length_take, List.length_drop, List.length_replicate]; omega
    · dsimp only; simp only [List.length_append, List.length_take, List.length_drop, List.length_replicate]; omega
    · dsimp only
      rw [splice_get (by omega), splice_get (by omega), g.get, List.length_replicate]
      by_cases y : i < st.gs.toNat
      · rw [if_pos y, if_pos (by omega), if_pos y]
      · rw [if_neg y, if_neg (by omega), if_neg (by omega), if_neg y]
        congr 1; omega
  · rw [if_neg z]
    exact go_ret ⟨rfl, st.cells, st.ge, h, g, by omega, Keep.refl _ _⟩
theorem g77 (h : H ds st μ) (n : Nat) {t w : List Int} {c : Nat} (g : GI st t) (hc : μ[c]? = some (il w)) (hf : Free st.L c) {p : Int} (hp : 0 ≤ p) (hpt : p ≤ t.length) (hwt : t.length + w.length ≤ 300) : Go (callN (n + 2) (.top 77) [.ref 21, .int p, .ref c] μ) fun v μ' => v = .none ∧ ∃ cs gs ge, H ds { st with cells := cs, gs := gs, ge := ge } μ' ∧ GI { st with cells := cs, gs := gs, ge := ge } (t.take p.toNat ++ w ++ t.drop p.toNat) ∧ Keep st.L μ μ' := by
  rw [callF (by kernel_rfl), s77]
  simp only [R h, P, M, ↓reduceIte, len_bnd hc]
  refine go_bnd (g70 h _ g (w := w.length) (by omega) (by omega)) fun v μ1 ⟨hv, cs1, ge1, h1, g1, r1, k1⟩ => ?_
  simp only [R h1, P, M, ↓reduceIte]
  refine go_bnd (g63 h1 _ g1 hp hpt) fun v μ2 ⟨hv, cs2, ge2, h2, g2, r2, k2⟩ => ?_
  have hc2 := k2.get _ _ hf (k1.get _ _ hf hc)
  have a := g2.a; have b := g2.b; have cc := g2.c; have d := g2.d; have hl := g2.len
  simp only at a b cc d hl r1 r2
  simp only [R h2, P, len_bnd hc2]
  refine st_cells h2 hc2 hf hp (by omega) (by dsimp only; omega) (by dsimp only; omega) (by omega) fun μ3 h3 k3 => ?_
  simp only [len_bnd (k3.get _ _ hf hc2), P]
  refine st_gs h3 fun μ4 h4 k4 => go_ret ⟨rfl, _, _, _, h4, ?_, ((k1.trans k2).trans k3).trans k4⟩
  refine GI.of (by dsimp only; omega) (by dsimp only; omega) ?_ ?_ fun i => ?_
  · dsimp only; simp only [List.length_append, List.length_take, List.length_drop]; omega
  · dsimp only; simp only [List.length_append, List.length_take, List.length_drop]; omega
  · have gg := fun i => g2.get i
    dsimp only at gg ⊢
    rw [splice_get (by omega), splice_get (by omega), splice_get (by omega), gg, gg]
    by_cases y : i < p.toNat
    · rw [if_pos y, if_pos (by omega), if_pos y, if_pos y]
    · by_cases y2 : i < p.toNat + w.length
      · rw [if_neg y, if_neg y, if_pos (by omega), if_pos y2, if_pos (by omega)]
      · rw [if_neg (by omega), if_neg (by omega), if_neg (by omega), if_neg y, if_neg y2, if_neg (by omega)]
        congr 1; omega
theorem g84 (h : H ds st μ) (n : Nat) {t : List Int} (g : GI st t) {s e : Int} (hs : 0 ≤ s) (hse : s ≤ e) (he : e ≤ t.length) : Go (callN (n + 2) (.top 84) [.ref 21, .int s, .int e] μ) fun v μ' => ∃ cs gs ge, H ds { st with cells := cs, gs := gs, ge := ge } μ' ∧ GI { st with cells := cs, gs := gs, ge := ge } (t.take s.toNat ++ t.drop e.toNat) ∧ Keep st.L μ μ' := by
  rw [callF (by kernel_rfl), s84]
  simp only [R h, P, M, ↓reduceIte]
  refine go_bnd (g56 h _ g hs hse he) fun v μ1 ⟨a1, hv, h1, k1, l1, f1, m1⟩ => ?_
  simp only [R h1, P, M, ↓reduceIte, decide_eq_true_eq, gt_iff_lt]
  have fin : ∀ (st2 : St) (μ2 : Mem), H ds st2 μ2 → GI st2 t → (∃ cs gs ge, st2 = { st with cells := cs, gs := gs, ge := ge }) → Keep st.L μ1 μ2 → s ≤ st2.gs → st2.gs ≤ e →
      Go ((bnd (putAttrM (.ref 21) "gap_end" (.int (st2.ge + e - st2.gs))) fun _ => bnd (putAttrM (.ref 21) "gap_start" (.int s)) fun _ => ret v) μ2) fun v μ' => ∃ cs gs ge, H ds { st with cells := cs, gs := gs, ge := ge } μ' ∧ GI { st with cells := cs, gs := gs, ge := ge } (t.take s.toNat ++ t.drop e.toNat) ∧ Keep st.L μ μ' := by
    intro st2 μ2 h2 g2 hst k2 r1 r2
    have a := g2.a; have b := g2.b; have cc := g2.c; have d := g2.d; have hl := g2.len
    have gg := fun i => g2.get i
    obtain ⟨cs, gs, ge, rfl⟩ := hst
    refine st_ge h2 fun μ3 h3 k3 => ?_
    refine st_gs h3 fun μ4 h4 k4 => go_ret ⟨_, _, _, h4, ?_, ((k1.trans k2).trans k3).trans k4⟩
    dsimp only at a b cc d hl gg r1 r2
    refine GI.of hs (by dsimp only; omega) (by dsimp only; omega) d fun i => ?_
    dsimp only
    rw [List.getElem?_append, List.length_take, Nat.min_eq_left (by omega), List.getElem?_take, List.getElem?_drop, gg, gg]
    by_cases y : i < s.toNat
    · rw [if_pos y, if_pos y, if_pos y, if_pos (by omega)]
    · rw [if_neg y, if_neg y, if_neg (by omega)]
      congr 1; omega
  by_cases z1 : e < st.gs
  · rw [if_pos z1]
    simp only [R h1, P, M, ↓reduceIte]
    refine go_bnd (g63 h1 _ g (p := e) (by omega) he) fun v μ2 ⟨hv, cs2, ge2, h2, g2, r2, k2⟩ => ?_
    simp only [R h2, P, M, ↓reduceIte, decide_eq_true_eq, gt_iff_lt]
    rw [if_neg (by omega)]
    simp only [R h2, P]
    exact fin _ _ h2 g2 ⟨_, _, _, rfl⟩ k2 (by dsimp only; omega) (by dsimp only; omega)
  · rw [if_neg z1]
    simp only [R h1, P, M, ↓reduceIte, decide_eq_true_eq, gt_iff_lt]
    by_cases z2 : st.gs < s
    · rw [if_pos z2]
      simp only [R h1, P, M, ↓reduceIte]
      refine go_bnd (g63 h1 _ g (p := s) (by omega) (by omega)) fun v μ2 ⟨hv, cs2, ge2, h2, g2, r2, k2⟩ => ?_
      simp only [R h2, P]
      exact fin _ _ h2 g2 ⟨_, _, _, rfl⟩ k2 (by dsimp only; omega) (by dsimp only; omega)
    · rw [if_neg z2]
      simp only [R h1, P]
      exact fin _ _ h1 g ⟨st.cells, st.gs, st.ge, rfl⟩ (Keep.refl _ _) (by omega) (by omega)
end
/-! ## What only reads -/
theorem stepOr {α : Type} (b : Bool) (K : Bool → Mx α) (r : Mx α) : stepT .Or b K r = if b = true then K true else r := by cases b <;> rfl
theorem stepAnd {α : Type} (b : Bool) (K : Bool → Mx α) (r : Mx α) : stepT .And b K r = if b = true then r else K false := by cases b <;> rfl
theorem ite_ap {α : Type} {c : Prop} [Decidable c] (f g : Mx α) (μ : Mem) : (if c then f else g) μ = if c then f μ else g μ := by split <;> rfl
theorem X : (∀ (α : Type) (b : Bool) (K : Bool → Mx α) (r : Mx α), stepT .Or b K r = if b = true then K true else r) ∧ (∀ (α : Type) (b : Bool) (K : Bool → Mx α) (r : Mx α), stepT .And b K r = if b = true then r else K false) := ⟨fun _ => stepOr, fun _ => stepAnd⟩
section
variable {α β : Type} {ds : List Int} {st : St} {μ μ' : Mem}
theorem b245i (n : Nat) (i : Int) (K : V → Mx α) : bnd (callN (n + 1) (.top 245) [.int i]) K μ = K (.bool true) μ := by
  rw [callF (by kernel_rfl), s245]
  simp only [bnd_assoc, bnd_ite, X, P, ↓reduceIte, Bool.not_false]
theorem b245n (n : Nat) (K : V → Mx α) : bnd (callN (n + 1) (.top 245) [.top 135]) K μ = K (.bool false) μ := by
  rw [callF (by kernel_rfl), s245]
  simp only [bnd_assoc, bnd_ite, X, P, ↓reduceIte, Bool.not_false, Bool.false_eq_true]
theorem b252 (n : Nat) (b : Bool) (K : V → Mx α) : bnd (callN (n + 1) (.top 252) [.bool b]) K μ = K (if b = true then .top 138 else .top 135) μ := by
  rw [callF (by kernel_rfl), s252]
  cases b <;> simp only [bnd_assoc, bnd_ite, X, P, ↓reduceIte, Bool.false_eq_true]
theorem b592 (n : Nat) (i : Int) (K : V → Mx α) : bnd (callN (n + 2) (.top 592) [.int i]) K μ = K (.int i) μ := by
  rw [callF (by kernel_rfl), s592]
  simp only [bnd_assoc, b245i, P, ↓reduceIte]
theorem b662 (n : Nat) {i : Int} (h0 : 0 ≤ i) (h1 : i < 1114112) (K : V → Mx α) : bnd (callN (n + 2) (.top 662) [.int i]) K μ = K (.int i) μ := by
  rw [callF (by kernel_rfl), s662]
  simp only [bnd_assoc, bnd_ite, b245i, X, P, ↓reduceIte, Bool.not_true, Bool.false_eq_true, decide_eq_true_eq, h0, h1]
  simp only [h0, h1, decide_true, decide_false, P, ↓reduceIte, Bool.not_true, Bool.false_eq_true]
theorem b711 (n : Nat) (c : Int) (K : V → Mx α) : bnd (callN (n + 1) (.top 711) [.int c]) K μ = K (if c = -1 then .top 135 else .int c) μ := by
  rw [callF (by kernel_rfl), s711]
  simp only [bnd_assoc, bnd_ite, X, P, decide_eq_true_eq]
  split <;> simp only [P]
theorem b655 (h : H ds st μ) (n : Nat) (K : V → Mx α) : bnd (callN (n + 1) (.top 655) [.ref 4]) K μ = K (.ref 19) μ := by
  rw [callF (by kernel_rfl), s655]
  simp only [bnd_assoc, R h, P, ↓reduceIte, Bool.false_eq_true]
theorem b398 (h : H ds st μ) (n : Nat) (K : V → Mx α) : bnd (callN (n + 1) (.top 398) [.ref 19]) K μ = K (.int st.lo) μ := by
  rw [callF (by kernel_rfl), s398]
  simp only [bnd_assoc, R h, P]
theorem b405 (h : H ds st μ) (n : Nat) (K : V → Mx α) : bnd (callN (n + 1) (.top 405) [.ref 19]) K μ = K (.int st.hi) μ := by
  rw [callF (by kernel_rfl), s405]
  simp only [bnd_assoc, R h, P]
theorem b412 (h : H ds st μ) (n : Nat) {t : List Int} (g : GI st t) (K : V → Mx α) : bnd (callN (n + 2) (.top 412) [.ref 19]) K μ = K (.int t.length) μ := by
  rw [callF (by kernel_rfl), s412]
  simp only [bnd_assoc, R h, P, M, ↓reduceIte, bnd_ite, g42 h _ g]
def codeAt (st : St) (t : List Int) (p : Int) : Int := if p < st.lo ∨ st.hi ≤ p then -1 else (t[(p - 1).toNat]?).getD 0
/-- the bounds of what can be reached lie in the text -/
structure Bd (st : St) (t : List Int) : Prop where
  lo : 1 ≤ st.lo
  pl : st.lo ≤ st.pt
  ph : st.pt ≤ st.hi
  hi : st.hi ≤ t.length + 1
theorem b419 (h : H ds st μ) (n : Nat) {t : List Int} (g : GI st t) (b : Bd st t) (p : Int) (K : V → Mx α) : bnd (callN (n + 2) (.top 419) [.ref 19, .int p]) K μ = K (.int (codeAt st t p)) μ := by
  have lo := b.lo; have hi := b.hi
  rw [callF (by kernel_rfl), s419]
  unfold codeAt
  simp only [bnd_assoc, bnd_ite, X, R h, P, M, ↓reduceIte, decide_eq_true_eq, ite_ap, Bool.false_eq_true, ge_iff_le]
  by_cases z : p < st.lo
  · rw [if_pos z, if_pos (.inl z)]
  · rw [if_neg z]
    by_cases y : st.hi ≤ p
    · rw [if_pos y, if_pos (.inr y)]
    · rw [if_neg y, if_neg (by omega)]
      have hlt : (p - 1).toNat < t.length := by omega
      rw [List.getElem?_eq_getElem hlt]
      rw [g49 h _ g (by omega) (List.getElem?_eq_getElem hlt)]
      rfl
theorem b606 (h : H ds st μ) (n : Nat) {t : List Int} (g : GI st t) (b : Bd st t) (p : Int) (K : V → Mx α) : bnd (callN (n + 3) (.top 606) [.ref 19, .int p]) K μ = K (.int (codeAt st t p)) μ := by
  rw [callF (by kernel_rfl), s606]
  simp only [bnd_assoc, bnd_ite, R h, P, M, ↓reduceIte, b419 h _ g b]
theorem b613 (h : H ds st μ) (n : Nat) {t : List Int} (g : GI st t) (b : Bd st t) (p : Int) (hp : p ≤ st.hi) (K : V → Mx α) : bnd (callN (n + 3) (.top 613) [.ref 19, .int p]) K μ = K (.int (codeAt st t (p - 1))) μ := by
  rw [callF (by kernel_rfl), s613]
  simp only [bnd_assoc, bnd_ite, R h, P, M, ↓reduceIte, b405 h, ite_ap, decide_eq_true_eq, b419 h _ g b]
  rw [if_neg (by omega)]
theorem b620 (h : H ds st μ) (n : Nat) (K : V → Mx α) : bnd (callN (n + 2) (.top 620) [.ref 19]) K μ = K (.bool (decide (st.pt = st.lo))) μ := by
  rw [callF (by kernel_rfl), s620]
  simp only [bnd_assoc, bnd_ite, R h, P, M, ↓reduceIte, b398 h]
theorem b627 (h : H ds st μ) (n : Nat) (K : V → Mx α) : bnd (callN (n + 2) (.top 627) [.ref 19]) K μ = K (.bool (decide (st.pt = st.hi))) μ := by
  rw [callF (by kernel_rfl), s627]
  simp only [bnd_assoc, bnd_ite, R h, P, M, ↓reduceIte, b405 h]
theorem b634 (h : H ds st μ) (n : Nat) {t : List Int} (g : GI st t) (b : Bd st t) (K : V → Mx α) : bnd (callN (n + 4) (.top 634) [.ref 19]) K μ = K (.bool (decide (st.pt = st.lo) || decide (codeAt st t (st.pt - 1) = 10))) μ := by
  rw [callF (by kernel_rfl), s634]
  simp only [bnd_assoc, bnd_ite, X, R h, P, M, ↓reduceIte, b620 h, ite_ap, b613 h _ g b _ b.ph]
  by_cases z : st.pt = st.lo
  · simp [z]
  · simp [z]
theorem b641 (h : H ds st μ) (n : Nat) {t : List Int} (g : GI st t) (b : Bd st t) (K : V → Mx α) : bnd (callN (n + 4) (.top 641) [.ref 19]) K μ = K (.bool (decide (st.pt = st.hi) || decide (codeAt st t st.pt = 10))) μ := by
  rw [callF (by kernel_rfl), s641]
  simp only [bnd_assoc, bnd_ite, X, R h, P, M, ↓reduceIte, b627 h, ite_ap, b606 h _ g b]
  by_cases z : st.pt = st.hi
  · simp [z]
  · simp [z]
theorem len_list {a : Nat} {xs : List V} (hm : μ[a]? = some (.list xs)) (K : V → Mx α) : bnd (callB "len" [.ref a]) K μ = K (.int xs.length) μ := by
  refine bnd_val ?_
  show bnd (getM a) _ μ = _
  exact (bnd_val (a := .list xs) (μ' := μ) (by unfold getM; rw [hm]; rfl)).trans rfl
theorem it0 {a : Nat} {x : V} {xs : List V} (hm : μ[a]? = some (.list (x :: xs))) (K : V → Mx α) : bnd (itemM (.ref a) (.int 0)) K μ = K x μ := item_bnd hm (by decide) rfl K
theorem it1 {a : Nat} {x y : V} {xs : List V} (hm : μ[a]? = some (.list (x :: y :: xs))) (K : V → Mx α) : bnd (itemM (.ref a) (.int 1)) K μ = K y μ := item_bnd hm (by decide) rfl K
theorem it2 {a : Nat} {x y z : V} {xs : List V} (hm : μ[a]? = some (.list (x :: y :: z :: xs))) (K : V → Mx α) : bnd (itemM (.ref a) (.int 2)) K μ = K z μ := item_bnd hm (by decide) rfl K
theorem b676 (n : Nat) {a : Nat} {p : Int} {w : V} (hm : μ[a]? = some (.list [.int p])) (K : V → Mx α) : bnd (callN (n + 3) (.top 676) [w, .ref a, .int 0]) K μ = K (.int p) μ := by
  rw [callF (by kernel_rfl), s676]
  simp only [bnd_assoc, bnd_ite, X, P, M, ↓reduceIte, len_list hm, it0 hm, List.length_cons, List.length_nil, ite_ap, b592]
  simp
/-! the deeds that only read -/
theorem b683 (h : H ds st μ) (n : Nat) (w : V) (K : V → Mx α) : bnd (callN (n + 2) (.top 683) [.ref 4, w]) K μ = K (.int st.pt) μ := by
  rw [callF (by kernel_rfl), s683]
  simp only [bnd_assoc, b655 h, R h, P]
theorem b690 (h : H ds st μ) (n : Nat) (w : V) (K : V → Mx α) : bnd (callN (n + 2) (.top 690) [.ref 4, w]) K μ = K (.int st.lo) μ := by
  rw [callF (by kernel_rfl), s690]
  simp only [bnd_assoc, bnd_ite, b655 h, R h, P, M, ↓reduceIte, b398 h]
theorem b697 (h : H ds st μ) (n : Nat) (w : V) (K : V → Mx α) : bnd (callN (n + 2) (.top 697) [.ref 4, w]) K μ = K (.int st.hi) μ := by
  rw [callF (by kernel_rfl), s697]
  simp only [bnd_assoc, bnd_ite, b655 h, R h, P, M, ↓reduceIte, b405 h]
theorem b816 (h : H ds st μ) (n : Nat) {t : List Int} (g : GI st t) (w : V) (K : V → Mx α) : bnd (callN (n + 3) (.top 816) [.ref 4, w]) K μ = K (.int t.length) μ := by
  rw [callF (by kernel_rfl), s816]
  simp only [bnd_assoc, bnd_ite, b655 h, R h, P, M, ↓reduceIte, b412 h _ g]
theorem b718 (h : H ds st μ) (n : Nat) {t : List Int} (g : GI st t) (b : Bd st t) {a : Nat} {p : Int} (hm : μ[a]? = some (.list [.int p])) (K : V → Mx α) : bnd (callN (n + 4) (.top 718) [.ref 4, .ref a]) K μ = K (if codeAt st t p = -1 then .top 135 else .int (codeAt st t p)) μ := by
  rw [callF (by kernel_rfl), s718]
  simp only [bnd_assoc, bnd_ite, b655 h, R h, P, M, ↓reduceIte, b676 _ hm, b419 h _ g b, b711]
theorem b725 (h : H ds st μ) (n : Nat) {t : List Int} (g : GI st t) (b : Bd st t) {a : Nat} {p : Int} (hm : μ[a]? = some (.list [.int p])) (K : V → Mx α) : bnd (callN (n + 4) (.top 725) [.ref 4, .ref a]) K μ = K (if codeAt st t (p - 1) = -1 then .top 135 else .int (codeAt st t (p - 1))) μ := by
  rw [callF (by kernel_rfl), s725]
  simp only [bnd_assoc, bnd_ite, b655 h, R h, P, M, ↓reduceIte, b676 _ hm, b419 h _ g b, b711]
theorem b732 (h : H ds st μ) (n : Nat) {t : List Int} (g : GI st t) (b : Bd st t) (w : V) (K : V → Mx α) : bnd (callN (n + 3) (.top 732) [.ref 4, w]) K μ = K (.int (if 0 < codeAt st t st.pt then codeAt st t st.pt else 0)) μ := by
  rw [callF (by kernel_rfl), s732]
  simp only [bnd_assoc, bnd_ite, b655 h, R h, P, M, ↓reduceIte, b419 h _ g b]
theorem b739 (h : H ds st μ) (n : Nat) {t : List Int} (g : GI st t) (b : Bd st t) (w : V) (K : V → Mx α) : bnd (callN (n + 3) (.top 739) [.ref 4, w]) K μ = K (.int (if 0 < codeAt st t (st.pt - 1) then codeAt st t (st.pt - 1) else 0)) μ := by
  rw [callF (by kernel_rfl), s739]
  simp only [bnd_assoc, bnd_ite, b655 h, R h, P, M, ↓reduceIte, b419 h _ g b]
theorem b746 (h : H ds st μ) (n : Nat) (w : V) (K : V → Mx α) : bnd (callN (n + 3) (.top 746) [.ref 4, w]) K μ = K (if decide (st.pt = st.lo) = true then .top 138 else .top 135) μ := by
  rw [callF (by kernel_rfl), s746]
  simp only [bnd_assoc, bnd_ite, b655 h, P, M, ↓reduceIte, b620 h, b252]
theorem b753 (h : H ds st μ) (n : Nat) (w : V) (K : V → Mx α) : bnd (callN (n + 3) (.top 753) [.ref 4, w]) K μ = K (if decide (st.pt = st.hi) = true then .top 138 else .top 135) μ := by
  rw [callF (by kernel_rfl), s753]
  simp only [bnd_assoc, bnd_ite, b655 h, P, M, ↓reduceIte, b627 h, b252]
theorem b760 (h : H ds st μ) (n : Nat) {t : List Int} (g : GI st t) (b : Bd st t) (w : V) (K : V → Mx α) : bnd (callN (n + 5) (.top 760) [.ref 4, w]) K μ = K (if (decide (st.pt = st.lo) || decide (codeAt st t (st.pt - 1) = 10)) = true then .top 138 else .top 135) μ := by
  rw [callF (by kernel_rfl), s760]
  simp only [bnd_assoc, bnd_ite, b655 h, P, M, ↓reduceIte, b634 h _ g b, b252]
theorem b767 (h : H ds st μ) (n : Nat) {t : List Int} (g : GI st t) (b : Bd st t) (w : V) (K : V → Mx α) : bnd (callN (n + 5) (.top 767) [.ref 4, w]) K μ = K (if (decide (st.pt = st.hi) || decide (codeAt st t st.pt = 10)) = true then .top 138 else .top 135) μ := by
  rw [callF (by kernel_rfl), s767]
  simp only [bnd_assoc, bnd_ite, b655 h, P, M, ↓reduceIte, b641 h _ g b, b252]
end
/-! ## Steps that raise, loops, and the editing that touches no marker -/
def Ex {α : Type} (x : Option (Out α × Mem)) (s : V) (Q : Mem → Prop) : Prop := ∃ d μ', x = some (.exc s d, μ') ∧ Q μ'
def clip (p lo hi : Int) : Int := if hi < (if p < lo then lo else p) then hi else if p < lo then lo else p
def mn (a b : Int) : Int := if b < a then b else a
def mx (a b : Int) : Int := if a < b then b else a
section
variable {α β : Type} {ds : List Int} {st : St} {μ μ' : Mem}
theorem ex_bnd {m : Mx α} {K : α → Mx β} {s : V} {Q : Mem → Prop} (e : Ex (m μ) s Q) : Ex (bnd m K μ) s Q := by
  obtain ⟨d, μ', e, q⟩ := e
  refine ⟨d, μ', ?_, q⟩
  unfold bnd; rw [e]
theorem ex_go {m : Mx α} {K : α → Mx β} {R : α → Mem → Prop} {s : V} {Q : Mem → Prop} (e : Go (m μ) R) (k : ∀ a μ', R a μ' → Ex (K a μ') s Q) : Ex (bnd m K μ) s Q := by
  obtain ⟨a, μ', e, r⟩ := e
  rw [bnd_val e]; exact k a μ' r
theorem ex_mono {x : Option (Out α × Mem)} {s : V} {R Q : Mem → Prop} (e : Ex x s R) (k : ∀ μ', R μ' → Q μ') : Ex x s Q := by
  obtain ⟨d, μ', e, r⟩ := e
  exact ⟨d, μ', e, k μ' r⟩
theorem ex_new {o : MO} {K : V → Mx β} {s : V} {Q : Mem → Prop} (h : H ds st μ) (hz : szOk o = true) (k : ∀ a μ', H ds st μ' → Keep st.L μ μ' → μ.length ≤ a → Free st.L a → μ'[a]? = some o → Ex (K (.ref a) μ') s Q) : Ex (bnd (newM o) K μ) s Q := by
  rw [new_bnd hz]
  exact k μ.length _ (h.push o) (Keep.push _ _ _) (Nat.le_refl _) h.free (last_get o)
theorem same_bnd {a : Nat} {xs : List V} (hm : μ[a]? = some (.list xs)) (K : Unit → Mx α) : bnd (sameM a xs) K μ = K () μ := by
  refine bnd_val ?_
  show bnd (getM a) _ μ = _
  refine (bnd_val (a := .list xs) (μ' := μ) (by unfold getM; rw [hm]; rfl)).trans ?_
  dsimp only
  rw [if_pos rfl]; rfl
theorem eachN {σ : Type} {a : Nat} {all : List V} {turn : V → σ → Mx (Option V × σ)} {s : σ} (hm : μ[a]? = some (.list all)) (K : Option V × σ → Mx α) : bnd (eachM a all turn [] s) K μ = K (none, s) μ := by
  rw [eachM, bnd_assoc, same_bnd hm]; rfl
theorem each_go {σ : Type} {a : Nat} {all : List V} {turn : V → σ → Mx (Option V × σ)} (I : List V → σ → Mem → Prop) (hI : ∀ r s μ, I r s μ → μ[a]? = some (.list all)) (hT : ∀ v r s μ, I (v :: r) s μ → Go (turn v s μ) fun q μ' => ∃ s', q = (none, s') ∧ I r s' μ') :
    ∀ (r : List V) (s : σ) (μ : Mem), I r s μ → Go (eachM a all turn r s μ) fun q μ' => ∃ s', q = (none, s') ∧ I [] s' μ'
  | [], s, μ, i => by
    rw [eachM, same_bnd (hI _ _ _ i)]
    exact go_ret ⟨s, rfl, i⟩
  | v :: r, s, μ, i => by
    rw [eachM, same_bnd (hI _ _ _ i)]
    refine go_bnd (hT v r s μ i) fun q μ' ⟨s', hq, i'⟩ => ?_
    subst hq
    exact each_go I hI hT r s' μ' i'
theorem seq_none {α : Type} {K : Option V × Loc → Mx α} {ρ : Loc} {f : Loc → Mx α} : seqK ((none : Option V), ρ) K f = f ρ := rfl
theorem GI.re {st st' : St} {t : List Int} (g : GI st t) (h1 : st'.cells = st.cells) (h2 : st'.gs = st.gs) (h3 : st'.ge = st.ge) : GI st' t := ⟨by rw [h2]; exact g.a, by rw [h2, h3]; exact g.b, by rw [h1, h3]; exact g.c, by rw [h1]; exact g.d, by rw [h1, h2, h3]; exact g.e⟩
theorem g433 (h : H ds st μ) (n : Nat) (p : Int) : Go (callN (n + 1) (.top 433) [.ref 19, .int p] μ) fun v μ' => v = .int (clip p st.lo st.hi) ∧ H ds { st with pt := clip p st.lo st.hi } μ' ∧ Keep st.L μ μ' := by
  rw [callF (by kernel_rfl), s433]
  simp only [R h, P]
  refine st_pt h fun μ1 h1 k1 => ?_
  simp only [R h1, P]
  exact go_ret ⟨rfl, h1, k1⟩
theorem g461 (h : H ds st μ) (n : Nat) : Go (callN (n + 1) (.top 461) [.ref 19, .bool true] μ) fun _ μ' => H ds { st with t1 := st.t1 + 1, t2 := st.t1 + 1 } μ' ∧ Keep st.L μ μ' := by
  rw [callF (by kernel_rfl), s461]
  simp only [R h, P]
  refine st_t1 h fun μ1 h1 k1 => ?_
  simp only [R h1, P, ↓reduceIte]
  refine st_t2 h1 fun μ2 h2 k2 => go_ret ⟨h2, k1.trans k2⟩
theorem b493 (h : H ds st μ) (n : Nat) (K : V → Mx α) : bnd (callN (n + 1) (.top 493) [.ref 19]) K μ = K .none μ := by
  rw [callF (by kernel_rfl), s493]
  simp only [bnd_assoc, bnd_ite, R h, P, ↓reduceIte, Bool.false_eq_true]
theorem g500 (h : H ds st μ) (n : Nat) {a b : Int} (h1 : st.lo ≤ mn a b) (h2 : mx a b ≤ st.hi) : Go (callN (n + 1) (.top 500) [.ref 19, .int a, .int b] μ) fun v μ' => ∃ c, v = .ref c ∧ H ds st μ' ∧ Keep st.L μ μ' ∧ Free st.L c ∧ μ'[c]? = some (.tup [.int (mn a b), .int (mx a b)]) := by
  unfold mn mx at *
  rw [callF (by kernel_rfl), s500]
  simp only [R h, P]
  refine st_new h (by rfl) fun c1 μ1 h1 k1 l1 f1 m1 => ?_
  simp only [bnd_assoc, bnd_ite, X, R h1, P, ↓reduceIte, ite_ap, decide_eq_true_eq, gt_iff_lt, Bool.false_eq_true]
  rw [if_neg (by omega), if_neg (by omega)]
  refine st_new h1 (by rfl) fun c2 μ2 h2 k2 l2 f2 m2 => go_ret ⟨c2, rfl, h2, k1.trans k2, f2, m2⟩
theorem x500 (h : H ds st μ) (n : Nat) {a b : Int} (hx : mn a b < st.lo ∨ st.hi < mx a b) : Ex (callN (n + 1) (.top 500) [.ref 19, .int a, .int b] μ) (.str "args-out-of-range") fun μ' => H ds st μ' ∧ Keep st.L μ μ' := by
  unfold mn mx at *
  rw [callF (by kernel_rfl), s500]
  simp only [R h, P]
  refine ex_new h (by rfl) fun c1 μ1 h1 k1 l1 f1 m1 => ?_
  simp only [bnd_assoc, bnd_ite, X, R h1, P, ↓reduceIte, ite_ap, decide_eq_true_eq, gt_iff_lt, Bool.false_eq_true]
  have e : ∀ x y : Option (Out V × Mem), (if (if b < a then b else a) < st.lo then x else if st.hi < (if a < b then b else a) then x else y) = x := by
    intro x y
    by_cases z : (if b < a then b else a) < st.lo
    · rw [if_pos z]
    · rw [if_neg z, if_pos (by omega)]
  rw [e]
  refine ex_new h1 (by rfl) fun c2 μ2 h2 k2 l2 f2 m2 => ⟨_, μ2, rfl, h2, k1.trans k2⟩
theorem lst_bnd {a : Nat} {xs : List V} (hm : μ[a]? = some (.list xs)) (K : V → Mx α) : bnd (callT "list" [.ref a]) K μ = bnd (newM (.list xs)) K μ := by
  show bnd (bnd (listOfM (.ref a)) _) K μ = _
  rw [bnd_assoc, listOf_bnd hm]
theorem H.lis (h : H ds st μ) : μ[28]? = some (.list []) := h.at (by unfold fixL; simp)
theorem e507 {C : CallT} {ρ : Loc} {K : Option V × Loc → Mx V} : kSs C (fnOf 507).names ((fnOf 507).body.drop 1) ρ K = K (none, ρ) := by kernel_rfl
theorem e514 {C : CallT} {ρ : Loc} {K : Option V × Loc → Mx V} : kSs C (fnOf 514).names ((fnOf 514).body.drop 2) ρ K = K (none, ρ) := by kernel_rfl
theorem g507 (h : H ds st μ) (n : Nat) (x y : V) : Go (callN (n + 1) (.top 507) [.ref 19, x, y] μ) fun _ μ' => H ds st μ' ∧ Keep st.L μ μ' := by
  rw [callF (by kernel_rfl), s507]
  simp only [R h, lst_bnd h.lis]
  refine st_new h (by rfl) fun c1 μ1 h1 k1 l1 f1 m1 => ?_
  rw [listOf_bnd m1, eachN m1, seq_none, e507]
  exact go_ret ⟨h1, k1⟩
theorem g514 (h : H ds st μ) (n : Nat) (x y z : V) : Go (callN (n + 2) (.top 514) [.ref 19, x, y, z] μ) fun _ μ' => ∃ t1 t2, H ds { st with t1 := t1, t2 := t2 } μ' ∧ Keep st.L μ μ' := by
  rw [callF (by kernel_rfl), s514]
  simp only [R h, M, ↓reduceIte]
  refine go_bnd (g461 h _) fun v μ1 ⟨h1, k1⟩ => ?_
  simp only [R h1, lst_bnd h1.lis]
  refine st_new h1 (by rfl) fun c1 μ2 h2 k2 l2 f2 m2 => ?_
  rw [listOf_bnd m2, eachN m2, seq_none, e514]
  exact go_ret ⟨_, _, h2, k1.trans k2⟩
theorem b535 (h : H ds st μ) (n : Nat) (x y : V) (K : V → Mx α) : bnd (callN (n + 1) (.top 535) [.ref 19, x, y]) K μ = K .none μ := by
  rw [callF (by kernel_rfl), s535]
  simp only [bnd_assoc, bnd_ite, R h, P, ↓reduceIte, Bool.false_eq_true]
theorem b542 (h : H ds st μ) (n : Nat) (x y z : V) (K : V → Mx α) : bnd (callN (n + 1) (.top 542) [.ref 19, x, y, z]) K μ = K .none μ := by
  rw [callF (by kernel_rfl), s542]
  simp only [bnd_assoc, bnd_ite, R h, P, ↓reduceIte, Bool.false_eq_true]
/-- signs come at point -/
theorem g528 (h : H ds st μ) (n : Nat) {t w : List Int} {c : Nat} (g : GI st t) (hc : μ[c]? = some (il w)) (hf : Free st.L c) (hp : 1 ≤ st.pt) (hpt : st.pt ≤ t.length + 1) (hwt : t.length + w.length ≤ 300) : Go (callN (n + 3) (.top 528) [.ref 19, .int st.pt, .ref c] μ) fun _ μ' => ∃ cs gs ge, H ds { st with cells := cs, gs := gs, ge := ge, hi := st.hi + w.length } μ' ∧ GI { st with cells := cs, gs := gs, ge := ge, hi := st.hi + w.length } (t.take (st.pt - 1).toNat ++ w ++ t.drop (st.pt - 1).toNat) ∧ Keep st.L μ μ' := by
  rw [callF (by kernel_rfl), s528]
  simp only [R h, P, M, ↓reduceIte, Bool.false_eq_true, ite_ap]
  refine go_bnd (g77 h _ g hc hf (p := st.pt - 1) (by omega) (by omega) hwt) fun v μ1 ⟨hv, cs, gs, ge, h1, g1, k1⟩ => ?_
  simp only [R h1, P, len_bnd (k1.get _ _ hf hc)]
  refine st_hi h1 fun μ2 h2 k2 => ?_
  simp only [R h2, P, ite_ap, decide_eq_true_eq, gt_iff_lt, Int.lt_irrefl, ↓reduceIte]
  exact go_ret ⟨cs, gs, ge, h2, g1.re rfl rfl rfl, k1.trans k2⟩
/-- signs go -/
theorem g521 (h : H ds st μ) (n : Nat) {t : List Int} (g : GI st t) {s e : Int} (hs : 1 ≤ s) (hse : s ≤ e) (he : e ≤ t.length + 1) : Go (callN (n + 3) (.top 521) [.ref 19, .int s, .int e] μ) fun _ μ' => ∃ cs gs ge, H ds { st with cells := cs, gs := gs, ge := ge, hi := st.hi - (e - s), pt := if s < st.pt then mx s (st.pt - (e - s)) else st.pt } μ' ∧ GI { st with cells := cs, gs := gs, ge := ge, hi := st.hi - (e - s), pt := if s < st.pt then mx s (st.pt - (e - s)) else st.pt } (t.take (s - 1).toNat ++ t.drop (e - 1).toNat) ∧ Keep st.L μ μ' := by
  rw [callF (by kernel_rfl), s521]
  simp only [R h, P, M, ↓reduceIte, Bool.false_eq_true, ite_ap]
  refine go_bnd (g84 h _ g (s := s - 1) (e := e - 1) (by omega) (by omega) (by omega)) fun v μ1 ⟨cs, gs, ge, h1, g1, k1⟩ => ?_
  simp only [R h1, P]
  refine st_hi h1 fun μ2 h2 k2 => ?_
  simp only [R h2, P, ite_ap, decide_eq_true_eq, gt_iff_lt]
  by_cases z : s < st.pt
  · rw [if_pos z]
    refine st_pt h2 fun μ3 h3 k3 => go_ret ⟨cs, gs, ge, ?_, g1.re rfl rfl rfl, (k1.trans k2).trans k3⟩
    rw [if_pos z]; exact h3
  · rw [if_neg z]
    refine go_ret ⟨cs, gs, ge, ?_, g1.re rfl rfl rfl, k1.trans k2⟩
    rw [if_neg z]; exact h2
end
/-! ## The markers and the spots -/
def kk : Int → Nat → List Int
  | _, 0 => []
  | i, n + 1 => i :: kk (i + 1) n
theorem keyInts_rows : ∀ (i : Int) (ths : List Nat), keyInts (rowsL i ths) = some (kk i ths.length)
  | i, [] => rfl
  | i, a :: r => by rw [rowsL, keyInts, keyInts_rows (i + 1) r]; rfl
theorem sort_kk : ∀ (i : Int) (n : Nat), sortI (kk i n) = kk i n
  | i, 0 => rfl
  | i, n + 1 => by
    rw [kk, sortI, sort_kk (i + 1) n]
    cases n with
    | zero => rfl
    | succ m => rw [kk, insI, if_pos (by omega)]
theorem kk_len : ∀ (i : Int) (n : Nat), (kk i n).length = n
  | i, 0 => rfl
  | i, n + 1 => by rw [kk, List.length_cons, kk_len]
theorem rows_get : ∀ (i : Int) (ths : List Nat) (j : Nat), getD (.int (i + j)) (rowsL i ths) = (ths[j]?).map V.ref
  | i, [], j => rfl
  | i, a :: r, 0 => by rw [rowsL, getD, if_pos (by simp)]; rfl
  | i, a :: r, j + 1 => by
    rw [rowsL, getD, if_neg (by intro e; injection e with e; omega)]
    have := rows_get (i + 1) r j
    rw [show i + 1 + (j : Int) = i + ((j + 1 : Nat) : Int) from by push_cast; omega] at this
    rw [this]; rfl
theorem mkL_set : ∀ {i : Int} {ths : List Nat} {mks : List (Int × Bool)} {j : Nat} {a : Nat} {p : Int × Bool}, ths.Nodup → ths[j]? = some a → ∀ q ∈ mkL i ths (mks.set j p), q = (a, mkO (i + j) p) ∨ (q ∈ mkL i ths mks ∧ q.1 ≠ a)
  | i, [], mks, j, a, p, _, h, _, _ => by cases h
  | i, b :: r, [], j, a, p, _, h, q, hq => by
    simp only [List.set_nil] at hq
    unfold mkL at hq; cases hq
  | i, b :: r, m :: ms, 0, a, p, nd, h, q, hq => by
    rw [List.set_cons_zero, mkL] at hq
    simp only [List.getElem?_cons_zero, Option.some.injEq] at h
    subst h
    rcases List.mem_cons.mp hq with rfl | hq
    · left; simp
    · right
      refine ⟨by rw [mkL]; exact .tail _ hq, fun e => ?_⟩
      exact (List.nodup_cons.mp nd).1 (e ▸ mkL_mem hq)
  | i, b :: r, m :: ms, j + 1, a, p, nd, h, q, hq => by
    rw [List.set_cons_succ, mkL] at hq
    rw [List.getElem?_cons_succ] at h
    rcases List.mem_cons.mp hq with rfl | hq
    · right
      refine ⟨by rw [mkL]; exact .head _, fun e => ?_⟩
      exact (List.nodup_cons.mp nd).1 ((show b = a from e) ▸ List.mem_of_getElem? h)
    · rcases mkL_set (List.nodup_cons.mp nd).2 h q hq with e | ⟨e1, e2⟩
      · left; rw [e, show i + 1 + (j : Int) = i + ((j + 1 : Nat) : Int) from by push_cast; omega]
      · right; exact ⟨by rw [mkL]; exact .tail _ e1, e2⟩
theorem spL_set : ∀ {ths : List Nat} {mks : List (Int × Bool)} {j : Nat} {a : Nat} {p : Int × Bool}, ths.Nodup → ths[j]? = some a → ∀ q ∈ spL ths (mks.set j p), q = (a, spO p) ∨ (q ∈ spL ths mks ∧ q.1 ≠ a)
  | [], mks, j, a, p, _, h, _, _ => by cases h
  | b :: r, [], j, a, p, _, h, q, hq => by
    simp only [List.set_nil] at hq
    unfold spL at hq; cases hq
  | b :: r, m :: ms, 0, a, p, nd, h, q, hq => by
    rw [List.set_cons_zero, spL] at hq
    simp only [List.getElem?_cons_zero, Option.some.injEq] at h
    subst h
    rcases List.mem_cons.mp hq with rfl | hq
    · left; rfl
    · right
      refine ⟨by rw [spL]; exact .tail _ hq, fun e => ?_⟩
      exact (List.nodup_cons.mp nd).1 (e ▸ spL_mem hq)
  | b :: r, m :: ms, j + 1, a, p, nd, h, q, hq => by
    rw [List.set_cons_succ, spL] at hq
    rw [List.getElem?_cons_succ] at h
    rcases List.mem_cons.mp hq with rfl | hq
    · right
      refine ⟨by rw [spL]; exact .head _, fun e => ?_⟩
      exact (List.nodup_cons.mp nd).1 ((show b = a from e) ▸ List.mem_of_getElem? h)
    · rcases spL_set (List.nodup_cons.mp nd).2 h q hq with e | ⟨e1, e2⟩
      · left; exact e
      · right; exact ⟨by rw [spL]; exact .tail _ e1, e2⟩
theorem mkL_get : ∀ {i : Int} {ths : List Nat} {mks : List (Int × Bool)} {j : Nat} {a : Nat} {p : Int × Bool}, ths[j]? = some a → mks[j]? = some p → (a, mkO (i + j) p) ∈ mkL i ths mks
  | i, [], _, _, _, _, h, _ => by cases h
  | i, _ :: _, [], _, _, _, _, h => by cases h
  | i, b :: r, m :: ms, 0, a, p, h, h2 => by
    simp only [List.getElem?_cons_zero, Option.some.injEq] at h h2
    subst h; subst h2
    rw [mkL]; simp
  | i, b :: r, m :: ms, j + 1, a, p, h, h2 => by
    rw [List.getElem?_cons_succ] at h h2
    have := mkL_get (i := i + 1) h h2
    rw [show i + 1 + (j : Int) = i + ((j + 1 : Nat) : Int) from by push_cast; omega] at this
    rw [mkL]; exact .tail _ this
theorem spL_get : ∀ {ths : List Nat} {mks : List (Int × Bool)} {j : Nat} {a : Nat} {p : Int × Bool}, ths[j]? = some a → mks[j]? = some p → (a, spO p) ∈ spL ths mks
  | [], _, _, _, _, h, _ => by cases h
  | _ :: _, [], _, _, _, _, h => by cases h
  | b :: r, m :: ms, 0, a, p, h, h2 => by
    simp only [List.getElem?_cons_zero, Option.some.injEq] at h h2
    subst h; subst h2
    rw [spL]; exact .head _
  | b :: r, m :: ms, j + 1, a, p, h, h2 => by
    rw [List.getElem?_cons_succ] at h h2
    rw [spL]; exact .tail _ (spL_get h h2)
section
variable {α β : Type} {ds : List Int} {st : St} {μ μ' : Mem}
theorem H.ndT (h : H ds st μ) : st.ths.Nodup := (List.nodup_append.mp h.nd).1
theorem H.ndS (h : H ds st μ) : st.sps.Nodup := (List.nodup_append.mp h.nd).2.1
theorem H.disj (h : H ds st μ) {a : Nat} (h1 : a ∈ st.ths) (h2 : a ∈ st.sps) : False := (List.nodup_append.mp h.nd).2.2 a h1 a h2 rfl
theorem Holds.setNe {L : List (Nat × MO)} (h : Holds L μ) {a : Nat} {o : MO} (hn : ∀ q ∈ L, q.1 ≠ a) : Holds L (μ.set a o) := fun q hq => by
  rw [List.getElem?_set_ne (Ne.symm (hn q hq))]; exact h q hq
theorem fix_lt {q : Nat × MO} (hq : q ∈ fixL ds st) : q.1 < 168 := by
  unfold fixL at hq
  simp only [List.mem_cons, List.not_mem_nil, or_false] at hq
  rcases hq with rfl | rfl | rfl | rfl | rfl | rfl | rfl | rfl | rfl | rfl | rfl | rfl | rfl <;> simp
/-- a marker's numbers are stored -/
theorem H.setM (h : H ds st μ) {j a : Nat} {p : Int × Bool} (hj : st.ths[j]? = some a) : H ds { st with mks := st.mks.set j p } (μ.set a (mkO (1 + j) p)) := by
  have ha := List.mem_of_getElem? hj
  have hb := h.bigM a ha
  refine ⟨?_, ?_, ?_, ?_, by simpa using h.lm, h.ls, h.bigT, by simpa using h.bigM, by simpa using h.bigS, h.nd, h.tn⟩
  · show Holds (fixL ds st) _
    exact h.fix.setNe fun q hq => by have := fix_lt hq; omega
  · exact h.mrk.set hb.2 (mkL_set h.ndT hj)
  · exact h.sp.setNe fun q hq e => h.disj ha (e ▸ spL_mem hq)
  · show (μ.set a _)[st.txa]? = _
    rw [List.getElem?_set_ne (fun (e : a = st.txa) => h.tn (e ▸ List.mem_append_left _ ha))]; exact h.tx
/-- a spot is stored -/
theorem H.setS (h : H ds st μ) {j a : Nat} {p : Int × Bool} (hj : st.sps[j]? = some a) : H ds { st with spv := st.spv.set j p } (μ.set a (spO p)) := by
  have ha := List.mem_of_getElem? hj
  have hb := h.bigS a ha
  refine ⟨?_, ?_, ?_, ?_, h.lm, by simpa using h.ls, h.bigT, by simpa using h.bigM, by simpa using h.bigS, h.nd, h.tn⟩
  · show Holds (fixL ds st) _
    exact h.fix.setNe fun q hq => by have := fix_lt hq; omega
  · exact h.mrk.setNe fun q hq e => h.disj (e ▸ mkL_mem hq) ha
  · exact h.sp.set hb.2 (spL_set h.ndS hj)
  · show (μ.set a _)[st.txa]? = _
    rw [List.getElem?_set_ne (fun (e : a = st.txa) => h.tn (e ▸ List.mem_append_right _ ha))]; exact h.tx
theorem Keep.set {L : List Nat} {a : Nat} {o : MO} (ha : a ∈ L) : Keep L μ (μ.set a o) := ⟨fun b ob hb hm => by rw [List.getElem?_set_ne (fun (e : a = b) => hb.2 (e ▸ ha))]; exact hm, by simp⟩
theorem H.mkr (h : H ds st μ) {j a : Nat} {p : Int × Bool} (hj : st.ths[j]? = some a) (hp : st.mks[j]? = some p) : μ[a]? = some (mkO (1 + j) p) := h.mrk _ (mkL_get hj hp)
theorem H.spt (h : H ds st μ) {j a : Nat} {p : Int × Bool} (hj : st.sps[j]? = some a) (hp : st.spv[j]? = some p) : μ[a]? = some (spO p) := h.sp _ (spL_get hj hp)
theorem mk_pos {a : Nat} {i : Int} {p : Int × Bool} (hm : μ[a]? = some (mkO i p)) (K : V → Mx α) : bnd (attrM (.ref a) "position") K μ = K (.int p.1) μ := attr_bnd hm (by kernel_rfl) (by kernel_rfl) (by kernel_rfl) K
theorem mk_adv {a : Nat} {i : Int} {p : Int × Bool} (hm : μ[a]? = some (mkO i p)) (K : V → Mx α) : bnd (attrM (.ref a) "advances") K μ = K (.bool p.2) μ := attr_bnd hm (by kernel_rfl) (by kernel_rfl) (by kernel_rfl) K
theorem mk_num {a : Nat} {i : Int} {p : Int × Bool} (hm : μ[a]? = some (mkO i p)) (K : V → Mx α) : bnd (attrM (.ref a) "number") K μ = K (.int i) μ := attr_bnd hm (by kernel_rfl) (by kernel_rfl) (by kernel_rfl) K
theorem mk_buf {a : Nat} {i : Int} {p : Int × Bool} (hm : μ[a]? = some (mkO i p)) (K : V → Mx α) : bnd (attrM (.ref a) "buffer") K μ = K (.ref 19) μ := attr_bnd hm (by kernel_rfl) (by kernel_rfl) (by kernel_rfl) K
theorem H.rows (h : H ds st μ) {j a : Nat} (hj : st.ths[j]? = some a) (K : V → Mx α) : bnd (itemM (.ref 27) (.int (1 + j))) K μ = K (.ref a) μ := ditem_int (h.at (o := .dict (rowsL 1 st.ths)) (by unfold fixL; simp)) (by rw [rows_get, hj]; rfl) K
theorem st_pos {j a : Nat} {p : Int × Bool} {x : Int} {K : Unit → Mx β} {Q : β → Mem → Prop} (h : H ds st μ) (hj : st.ths[j]? = some a) (hp : st.mks[j]? = some p) (k : ∀ μ', H ds { st with mks := st.mks.set j (x, p.2) } μ' → Keep st.L μ μ' → Go (K () μ') Q) : Go (bnd (putAttrM (.ref a) "position" (.int x)) K μ) Q := by
  have ha := List.mem_of_getElem? hj
  rw [putA_bnd (by have := (h.bigM a ha).1; omega) (h.mkr hj hp) (by kernel_rfl) (by kernel_rfl)]
  exact k _ (h.setM hj) (Keep.set (List.mem_append_left _ ha))
theorem st_spot {j a : Nat} {p : Int × Bool} {x : Int} {K : Unit → Mx β} {Q : β → Mem → Prop} (h : H ds st μ) (hj : st.sps[j]? = some a) (hp : st.spv[j]? = some p) (k : ∀ μ', H ds { st with spv := st.spv.set j (x, p.2) } μ' → Keep st.L μ μ' → Go (K () μ') Q) : Go (bnd (putItemM (.ref a) (.int 0) (.int x)) K μ) Q := by
  have ha := List.mem_of_getElem? hj
  rw [putI_bnd (k := 0) (by have := (h.bigS a ha).1; omega) (h.spt hj hp) ⟨by decide, by decide, show 0 < 2 from by decide⟩ (by kernel_rfl)]
  exact k _ (h.setS hj) (Keep.set (List.mem_append_right _ ha))
end
/-! ## Markers and spots go along -/
def insM (p n : Int) (m : Int × Bool) : Int × Bool := if m.1 > p ∨ (m.1 = p ∧ m.2 = true) then (m.1 + n, m.2) else m
def delM (s e : Int) (m : Int × Bool) : Int × Bool := if s < m.1 then (mx s (m.1 - (e - s)), m.2) else m
theorem take_set {l : List (Int × Bool)} {f : Int × Bool → Int × Bool} {j : Nat} {m : Int × Bool} (hm : l[j]? = some m) : ((l.take j).map f ++ l.drop j).set j (f m) = (l.take (j + 1)).map f ++ l.drop (j + 1) := by
  have hlt := (List.getElem?_eq_some_iff.mp hm).1
  have he := (List.getElem?_eq_some_iff.mp hm).2
  rw [List.set_append_right _ _ (by simp; omega), List.drop_eq_getElem_cons hlt]
  simp only [List.length_map, List.length_take, Nat.min_eq_left (Nat.le_of_lt hlt), Nat.sub_self, List.set_cons_zero]
  rw [List.take_add_one, hm]
  simp
theorem take_get {l : List (Int × Bool)} {f : Int × Bool → Int × Bool} {j : Nat} (hj : j < l.length) : ((l.take j).map f ++ l.drop j)[j]? = l[j]? := by
  rw [List.getElem?_append_right (by simp; omega), List.getElem?_drop]
  simp only [List.length_map, List.length_take, Nat.min_eq_left (Nat.le_of_lt hj), Nat.sub_self, Nat.add_zero]
theorem take_len {l : List (Int × Bool)} {f : Int × Bool → Int × Bool} {j : Nat} : ((l.take j).map f ++ l.drop j).length = l.length := by simp; omega
section
variable {α β : Type} {ds : List Int} {st : St} {μ μ' : Mem}
theorem sorted_bnd (h : H ds st μ) (hn : st.ths.length < 64) (K : V → Mx α) : bnd (callB "sorted" [.ref 27]) K μ = bnd (newM (il (kk 1 st.ths.length))) K μ := by
  have hm : μ[27]? = some (.dict (rowsL 1 st.ths)) := h.at (by unfold fixL; simp)
  show bnd (bnd (getM 27) _) K μ = _
  rw [bnd_assoc]
  refine (bnd_val (a := .dict (rowsL 1 st.ths)) (μ' := μ) (by unfold getM; rw [hm]; rfl)).trans ?_
  dsimp only
  rw [keyInts_rows]
  dsimp only
  rw [if_pos (by rw [kk_len]; exact hn), sort_kk]; rfl
theorem g313 (h : H ds st μ) (n : Nat) (hn : st.ths.length < 64) : Go (callN (n + 1) (.top 313) [.ref 26] μ) fun v μ' => ∃ a, v = .ref a ∧ H ds st μ' ∧ Keep st.L μ μ' ∧ Free st.L a ∧ μ'[a]? = some (il (kk 1 st.ths.length)) := by
  rw [callF (by kernel_rfl), s313]
  simp only [R h, sorted_bnd h hn]
  exact st_new h (szIl (by rw [kk_len]; omega)) fun a μ1 h1 k1 l1 f1 m1 => go_ret ⟨a, rfl, h1, k1, f1, m1⟩
theorem kk_cons {j n : Nat} (h : j < n) : kk (1 + j) (n - j) = (1 + (j : Int)) :: kk (1 + (j + 1 : Nat)) (n - (j + 1)) := by
  rw [show n - j = (n - (j + 1)) + 1 from by omega, kk]
  congr 2
theorem look {x : Str} {v : V} {ρ : Loc} {α : Type} (K : V → Mx α) : bnd (opt (List.lookup x (setL x v ρ))) K = K v := by
  rw [lookup_set, if_pos rfl]; rfl
theorem look2 {x y : Str} {v w : V} {ρ : Loc} {α : Type} (h : y ≠ x) (K : V → Mx α) : bnd (opt (List.lookup y (setL x v (setL y w ρ)))) K = K w := by
  rw [lookup_set, if_neg h, lookup_set, if_pos rfl]; rfl
theorem e341 {C : CallT} {ρ : Loc} {K : Option V × Loc → Mx V} : kSs C (fnOf 341).names ((fnOf 341).body.drop 1) ρ K = K (none, ρ) := by kernel_rfl
theorem e348 {C : CallT} {ρ : Loc} {K : Option V × Loc → Mx V} : kSs C (fnOf 348).names ((fnOf 348).body.drop 1) ρ K = K (none, ρ) := by kernel_rfl
/-- a loop over the markers -/
theorem mark_loop {C : CallT} {ds : List Int} {st : St} {μ0 : Mem} {turn : V → Loc → Mx (Option V × Loc)} {fr : Loc} {b : Nat} {f : Int × Bool → Int × Bool} (h0 : H ds st μ0) (hb : μ0[b]? = some (il (kk 1 st.ths.length))) (fb : Free st.L b)
    (hT : ∀ (j a : Nat) (st' : St) (m : Int × Bool) (ρ : Loc) (μ : Mem), st'.ths = st.ths → H ds st' μ → st.ths[j]? = some a → st'.mks[j]? = some m → Go (turn (.int (1 + j)) (fr ++ ρ) μ) fun q μ' => ∃ ρ', q = (none, fr ++ ρ') ∧ H ds { st' with mks := st'.mks.set j (f m) } μ' ∧ Keep st'.L μ μ') :
    Go (eachM b ((kk 1 st.ths.length).map .int) turn ((kk 1 st.ths.length).map .int) fr μ0) fun q μ' => ∃ ρ, q = (none, ρ) ∧ H ds { st with mks := st.mks.map f } μ' ∧ Keep st.L μ0 μ' := by
  refine go_mono (each_go (a := b) (all := (kk 1 st.ths.length).map .int) (turn := turn) (fun r s μ => ∃ j ρ, j ≤ st.ths.length ∧ r = (kk (1 + j) (st.ths.length - j)).map .int ∧ s = fr ++ ρ ∧ H ds { st with mks := (st.mks.take j).map f ++ st.mks.drop j } μ ∧ Keep st.L μ0 μ) ?_ ?_ _ _ _ ⟨0, [], Nat.zero_le _, by simp, by simp, by simpa using h0, Keep.refl _ _⟩) ?_
  · rintro r s μ ⟨j, ρ, hj, rfl, rfl, h, k⟩
    exact k.get _ _ fb hb
  · rintro v r s μ ⟨j, ρ, hj, hr, rfl, h, k⟩
    have hlt : j < st.ths.length := by
      rcases Nat.lt_or_ge j st.ths.length with z | z
      · exact z
      · rw [show st.ths.length - j = 0 from by omega] at hr; cases hr
    rw [kk_cons hlt, List.map_cons] at hr
    injection hr with hv hr
    subst hv
    have hml : j < st.mks.length := by rw [← h0.lm]; exact hlt
    have hm := List.getElem?_eq_getElem hml
    refine go_mono (hT j _ { st with mks := (st.mks.take j).map f ++ st.mks.drop j } (st.mks[j]) ρ μ rfl h (List.getElem?_eq_getElem hlt) (by dsimp only; rw [take_get hml, hm])) fun q μ' ⟨ρ', hq, h', k'⟩ => ⟨_, hq, j + 1, ρ', hlt, hr, rfl, ?_, k.trans k'⟩
    dsimp only at h'
    rw [take_set hm] at h'
    exact h'
  · rintro q μ' ⟨s, hq, j, ρ, hj, hr, rfl, h, k⟩
    have e : j = st.ths.length := by
      rcases Nat.lt_or_ge j st.ths.length with z | z
      · rw [kk_cons z] at hr; cases hr
      · omega
    subst e
    rw [h0.lm, List.take_length, List.drop_length, List.append_nil] at h
    exact ⟨_, hq, h, k⟩
theorem g341 (h : H ds st μ) (n : Nat) (hn : st.ths.length < 64) (p w : Int) : Go (callN (n + 2) (.top 341) [.ref 26, .int p, .int (p + w), .bool false] μ) fun _ μ' => H ds { st with mks := st.mks.map (insM p w) } μ' ∧ Keep st.L μ μ' := by
  rw [callF (by kernel_rfl), s341]
  simp only [R h, M, ↓reduceIte]
  refine go_bnd (g313 h _ hn) fun v μ1 ⟨b, hv, h1, k1, f1, m1⟩ => ?_
  subst hv
  rw [listOf_bnd m1]
  refine go_bnd (mark_loop (C := callN (n + 1)) (f := insM p w) h1 m1 f1 ?_) fun q μ2 ⟨ρ, hq, h2, k2⟩ => ?_
  · intro j a st' m ρ μ ht h hj hm
    show Go (forTurn (callN (n + 1)) (fnOf 341).names (stOf 341 0) (.int (1 + j)) (("self", .ref 26) :: ("start", .int p) :: ("end", .int (p + w)) :: ("is_before", .bool false) :: ρ : Loc) μ) _
    rw [t341]
    have hj' : st'.ths[j]? = some a := by rw [ht]; exact hj
    have hM := h.mkr hj' hm
    simp only [bnd_assoc, bnd_ite, X, R h, P, look, look2 (x := "marker") (y := "number") (by decide), h.rows hj', mk_pos hM, mk_adv hM, ite_ap, ↓reduceIte, decide_eq_true_eq, gt_iff_lt, Bool.false_eq_true]
    have go1 : Go ((bnd (putAttrM (.ref a) "position" (.int (m.1 + (p + w) - p))) fun _ => ret ((none : Option V), (("self", .ref 26) :: ("start", .int p) :: ("end", .int (p + w)) :: ("is_before", .bool false) :: setL "marker" (.ref a) (setL "number" (.int (1 + j)) ρ) : Loc))) μ) fun q μ' => ∃ ρ', q = (none, (("self", .ref 26) :: ("start", .int p) :: ("end", .int (p + w)) :: ("is_before", .bool false) :: ρ' : Loc)) ∧ H ds { st' with mks := st'.mks.set j (m.1 + w, m.2) } μ' ∧ Keep st'.L μ μ' := by
      refine st_pos h hj' hm fun μ2 h2 k2 => go_ret ⟨_, rfl, ?_, k2⟩
      rw [show m.1 + (p + w) - p = m.1 + w from by omega] at h2
      exact h2
    have go2 : Go (ret ((none : Option V), (("self", .ref 26) :: ("start", .int p) :: ("end", .int (p + w)) :: ("is_before", .bool false) :: setL "marker" (.ref a) (setL "number" (.int (1 + j)) ρ) : Loc)) μ) fun q μ' => ∃ ρ', q = (none, (("self", .ref 26) :: ("start", .int p) :: ("end", .int (p + w)) :: ("is_before", .bool false) :: ρ' : Loc)) ∧ H ds { st' with mks := st'.mks.set j m } μ' ∧ Keep st'.L μ μ' := by
      refine go_ret ⟨_, rfl, ?_, Keep.refl _ _⟩
      have e : st'.mks.set j m = st'.mks := by
        obtain ⟨hlt, he⟩ := List.getElem?_eq_some_iff.mp hm
        rw [← he, List.set_getElem_self]
      rw [e]; exact h
    unfold insM
    by_cases z : p < m.1
    · rw [if_pos z, if_pos (.inl z)]; exact go1
    · rw [if_neg z]
      by_cases y : m.1 = p
      · rw [if_pos y]
        by_cases y2 : m.2 = true
        · rw [if_pos y2, if_pos (.inr ⟨y, y2⟩)]; exact go1
        · rw [if_neg y2, if_neg (by rintro (q | q); exact z q; exact y2 q.2)]; exact go2
      · rw [if_neg y, if_neg (by rintro (q | q); exact z q; exact y q.1)]; exact go2
  · subst hq
    rw [seq_none, e341]
    exact go_ret ⟨h2, k1.trans k2⟩
theorem g348 (h : H ds st μ) (n : Nat) (hn : st.ths.length < 64) {s e : Int} (hse : s ≤ e) : Go (callN (n + 2) (.top 348) [.ref 26, .int s, .int e] μ) fun _ μ' => H ds { st with mks := st.mks.map (delM s e) } μ' ∧ Keep st.L μ μ' := by
  rw [callF (by kernel_rfl), s348]
  simp only [R h, M, ↓reduceIte]
  refine go_bnd (g313 h _ hn) fun v μ1 ⟨b, hv, h1, k1, f1, m1⟩ => ?_
  subst hv
  rw [listOf_bnd m1]
  refine go_bnd (mark_loop (C := callN (n + 1)) (f := delM s e) h1 m1 f1 ?_) fun q μ2 ⟨ρ, hq, h2, k2⟩ => ?_
  · intro j a st' m ρ μ ht h hj hm
    show Go (forTurn (callN (n + 1)) (fnOf 348).names (stOf 348 0) (.int (1 + j)) (("self", .ref 26) :: ("start", .int s) :: ("end", .int e) :: ρ : Loc) μ) _
    rw [t348]
    have hj' : st'.ths[j]? = some a := by rw [ht]; exact hj
    have hM := h.mkr hj' hm
    simp only [bnd_assoc, bnd_ite, X, R h, P, look, look2 (x := "marker") (y := "number") (by decide), h.rows hj', mk_pos hM, mk_adv hM, ite_ap, ↓reduceIte, decide_eq_true_eq, gt_iff_lt, Bool.false_eq_true]
    unfold delM mx
    by_cases z : e < m.1
    · rw [if_pos z, if_pos (by omega), if_pos (by omega)]
      exact st_pos h hj' hm fun μ2 h2 k2 => go_ret ⟨_, rfl, h2, k2⟩
    · rw [if_neg z]
      by_cases y : s < m.1
      · rw [if_pos y, if_pos y, if_neg (by omega)]
        exact st_pos h hj' hm fun μ2 h2 k2 => go_ret ⟨_, rfl, h2, k2⟩
      · rw [if_neg y, if_neg y]
        refine go_ret ⟨_, rfl, ?_, Keep.refl _ _⟩
        have e : st'.mks.set j m = st'.mks := by
          obtain ⟨hlt, he⟩ := List.getElem?_eq_some_iff.mp hm
          rw [← he, List.set_getElem_self]
        rw [e]; exact h
  · subst hq
    rw [seq_none, e348]
    exact go_ret ⟨h2, k1.trans k2⟩
end
/-! ## Editing, the gap hidden -/
def HG (ds : List Int) (st : St) (t : List Int) (μ : Mem) : Prop := ∃ cs gs ge t1 t2, H ds { st with cells := cs, gs := gs, ge := ge, t1 := t1, t2 := t2 } μ ∧ GI { st with cells := cs, gs := gs, ge := ge, t1 := t1, t2 := t2 } t
theorem insM_zero (p : Int) (m : Int × Bool) : insM p 0 m = m := by unfold insM; simp
theorem delM_zero (s : Int) (m : Int × Bool) : delM s s m = m := by
  unfold delM mx
  split
  · rw [Int.sub_self, Int.sub_zero, if_pos ‹_›]
  · rfl
theorem map_id_of {f : Int × Bool → Int × Bool} (h : ∀ m, f m = m) (l : List (Int × Bool)) : l.map f = l := by
  rw [show f = id from funext h, List.map_id]
theorem tup2_eq {α : Type} (a b : V) (F : V → V → Mx α) : tup2 [a, b] F = F a b := rfl
section
variable {α β : Type} {ds : List Int} {st : St} {t : List Int} {μ μ' : Mem}
theorem HG.keep {L : List Nat} (h : HG ds st t μ) (_ : L = st.L) : HG ds st t μ := h
theorem h557 (H0 : HG ds st t μ) (b : Bd st t) (n : Nat) {w : List Int} {c : Nat} (hc : μ[c]? = some (il w)) (hf : Free st.L c) (hwt : t.length + w.length ≤ 300) (hn : st.ths.length < 64) : Go (callN (n + 5) (.top 557) [.ref 19, .ref c] μ) fun _ μ' => HG ds { st with pt := st.pt + w.length, hi := st.hi + w.length, mks := st.mks.map (insM st.pt w.length) } (t.take (st.pt - 1).toNat ++ w ++ t.drop (st.pt - 1).toNat) μ' ∧ Keep st.L μ μ' := by
  obtain ⟨cs, gs, ge, t1, t2, h, g⟩ := H0
  have b1 := b.lo; have b2 := b.pl; have b3 := b.ph; have b4 := b.hi
  rw [callF (by kernel_rfl), s557]
  simp only [R h]
  refine go_bnd (R := fun _ μ' => HG ds { st with pt := st.pt + w.length, hi := st.hi + w.length, mks := st.mks.map (insM st.pt w.length) } (t.take (st.pt - 1).toNat ++ w ++ t.drop (st.pt - 1).toNat) μ' ∧ Keep st.L μ μ') ?_ fun v μ' q => go_ret q
  rw [callF (by kernel_rfl), s549]
  simp only [b493 h]
  refine go_bnd (g500 h _ (a := st.pt) (b := st.pt) (by unfold mn; rw [if_neg (by omega)]; exact b2) (by unfold mx; rw [if_neg (by omega)]; exact b3)) fun v μ1 ⟨x, hv, h1, k1, f1, m1⟩ => ?_
  have hc1 := k1.get _ _ hf hc
  simp only [len_bnd hc1, P, ite_ap, decide_eq_true_eq]
  by_cases z : (w.length : Int) = 0
  · rw [if_pos z]
    have z' : w = [] := List.eq_nil_of_length_eq_zero (by omega)
    subst z'
    refine go_ret ⟨⟨cs, gs, ge, t1, t2, ?_, ?_⟩, k1⟩
    · have e0 : (([] : List Int).length : Int) = 0 := rfl
      simp only [e0, map_id_of (insM_zero st.pt), Int.add_zero]
      exact h1
    · rw [List.append_nil, List.take_append_drop]
      exact g.re rfl rfl rfl
  · rw [if_neg z]
    refine go_bnd (g507 h1 _ _ _) fun v μ2 ⟨h2, k2⟩ => ?_
    have hc2 := k2.get _ _ hf hc1
    refine go_bnd (g528 h2 _ g hc2 hf (by dsimp only; omega) (by dsimp only; omega) hwt) fun v μ3 ⟨cs', gs', ge', h3, g3, k3⟩ => ?_
    have hc3 := k3.get _ _ hf hc2
    simp only [P, ↓reduceIte, len_bnd hc3]
    refine st_pt h3 fun μ4 h4 k4 => ?_
    have hc4 := k4.get _ _ hf hc3
    simp only [R h4, M, P, ↓reduceIte, len_bnd hc4]
    refine go_bnd (g341 h4 _ hn _ _) fun v μ5 ⟨h5, k5⟩ => ?_
    have hc5 := k5.get _ _ hf hc4
    simp only [len_bnd hc5, b542 h5, P]
    refine go_bnd (g514 h5 _ _ _ _) fun v μ6 ⟨t1', t2', h6, k6⟩ => go_ret ⟨⟨cs', gs', ge', t1', t2', h6, g3.re rfl rfl rfl⟩, ((((k1.trans k2).trans k3).trans k4).trans k5).trans k6⟩
theorem h564 (H0 : HG ds st t μ) (n : Nat) {a b : Int} (b1 : 1 ≤ st.lo) (b4 : st.hi ≤ t.length + 1) (r1 : st.lo ≤ mn a b) (r2 : mx a b ≤ st.hi) (hn : st.ths.length < 64) : Go (callN (n + 4) (.top 564) [.ref 19, .int a, .int b] μ) fun _ μ' => HG ds { st with hi := st.hi - (mx a b - mn a b), pt := if mn a b < st.pt then mx (mn a b) (st.pt - (mx a b - mn a b)) else st.pt, mks := st.mks.map (delM (mn a b) (mx a b)) } (t.take (mn a b - 1).toNat ++ t.drop (mx a b - 1).toNat) μ' ∧ Keep st.L μ μ' := by
  obtain ⟨cs, gs, ge, t1, t2, h, g⟩ := H0
  have hse : mn a b ≤ mx a b := by unfold mn mx; split <;> split <;> omega
  rw [callF (by kernel_rfl), s564]
  simp only [b493 h]
  refine go_bnd (g500 h _ r1 r2) fun v μ1 ⟨x, hv, h1, k1, f1, m1⟩ => ?_
  subst hv
  generalize mn a b = s at *
  generalize mx a b = e at *
  rw [tup_bnd m1, tup2_eq]
  simp only [P, ite_ap, decide_eq_true_eq]
  by_cases z : s = e
  · rw [if_pos z]
    subst z
    refine st_new h1 (by rfl) fun y μ2 h2 k2 l2 f2 m2 => go_ret ⟨⟨cs, gs, ge, t1, t2, ?_, ?_⟩, k1.trans k2⟩
    · have e1 : (if s < st.pt then mx s (st.pt - (s - s)) else st.pt) = st.pt := by unfold mx; split <;> (try split) <;> omega
      simp only [map_id_of (delM_zero s), e1, show st.hi - (s - s) = st.hi from by omega]
      exact h2
    · rw [List.take_append_drop]
      exact g.re rfl rfl rfl
  · rw [if_neg z]
    refine go_bnd (g507 h1 _ _ _) fun v μ2 ⟨h2, k2⟩ => ?_
    refine go_bnd (g521 h2 _ g (s := s) (e := e) (by omega) hse (by omega)) fun v μ3 ⟨cs', gs', ge', h3, g3, k3⟩ => ?_
    simp only [R h3, M, ↓reduceIte]
    refine go_bnd (g348 h3 _ hn hse) fun v μ4 ⟨h4, k4⟩ => ?_
    simp only [b535 h4, P]
    refine go_bnd (g514 h4 _ _ _ _) fun v μ5 ⟨t1', t2', h5, k5⟩ => go_ret ⟨⟨cs', gs', ge', t1', t2', h5, g3.re rfl rfl rfl⟩, (((k1.trans k2).trans k3).trans k4).trans k5⟩
theorem x564 (H0 : HG ds st t μ) (n : Nat) {a b : Int} (hx : mn a b < st.lo ∨ st.hi < mx a b) : Ex (callN (n + 4) (.top 564) [.ref 19, .int a, .int b] μ) (.str "args-out-of-range") fun μ' => HG ds st t μ' ∧ Keep st.L μ μ' := by
  obtain ⟨cs, gs, ge, t1, t2, h, g⟩ := H0
  rw [callF (by kernel_rfl), s564]
  simp only [b493 h]
  exact ex_bnd (ex_mono (x500 h _ hx) fun μ1 ⟨h1, k1⟩ => ⟨⟨cs, gs, ge, t1, t2, h1, g⟩, k1⟩)
theorem h571 (H0 : HG ds st t μ) (n : Nat) (hn : st.ths.length < 64) : Go (callN (n + 5) (.top 571) [.ref 19] μ) fun _ μ' => HG ds { st with lo := 1, hi := 1, pt := if 1 < st.pt then mx 1 (st.pt - t.length) else st.pt, mks := st.mks.map (delM 1 (t.length + 1)) } [] μ' ∧ Keep st.L μ μ' := by
  obtain ⟨cs, gs, ge, t1, t2, h, g⟩ := H0
  rw [callF (by kernel_rfl), s571]
  simp only [b493 h, R h, M, ↓reduceIte, b412 h _ g, P]
  refine st_new h (by rfl) fun y μ1 h1 k1 l1 f1 m1 => ?_
  refine st_lo h1 fun μ2 h2 k2 => ?_
  refine st_hi h2 fun μ3 h3 k3 => ?_
  simp only [R h3]
  have e1 : mn 1 ((t.length : Int) + 1) = 1 := by unfold mn; rw [if_neg (by omega)]
  have e2 : mx 1 ((t.length : Int) + 1) = t.length + 1 := by unfold mx; split <;> omega
  have key := h564 (st := { st with lo := 1, hi := t.length + 1 }) (t := t) (μ := μ3) (ds := ds) ⟨cs, gs, ge, t1, t2, h3, g.re rfl rfl rfl⟩ n (a := 1) (b := t.length + 1) (by dsimp only; omega) (by dsimp only; omega) (by rw [e1]; exact Int.le_refl _) (by rw [e2]; exact Int.le_refl _) hn
  rw [e1, e2] at key
  refine go_bnd key fun v μ4 ⟨h4, k4⟩ => go_ret ⟨?_, ((k1.trans k2).trans k3).trans k4⟩
  dsimp only at h4
  rw [show (t.length : Int) + 1 - (t.length + 1 - 1) = 1 from by omega, show st.pt - ((t.length : Int) + 1 - 1) = st.pt - t.length from by omega, show t.take (1 - 1 : Int).toNat ++ t.drop ((t.length : Int) + 1 - 1).toNat = [] from by rw [show ((t.length : Int) + 1 - 1).toNat = t.length from by omega]; simp] at h4
  exact h4
theorem h578 (H0 : HG ds st t μ) (n : Nat) {a b : Int} (r1 : 1 ≤ mn a b) (r2 : mx a b ≤ t.length + 1) : Go (callN (n + 3) (.top 578) [.ref 19, .int a, .int b] μ) fun _ μ' => HG ds { st with lo := mn a b, hi := mx a b, pt := clip st.pt (mn a b) (mx a b) } t μ' ∧ Keep st.L μ μ' := by
  obtain ⟨cs, gs, ge, t1, t2, h, g⟩ := H0
  rw [callF (by kernel_rfl), s578]
  simp only [P]
  change 1 ≤ (if b < a then b else a) at r1
  change (if a < b then b else a) ≤ _ at r2
  change Go _ fun _ μ' => HG ds { st with lo := (if b < a then b else a), hi := (if a < b then b else a), pt := clip st.pt (if b < a then b else a) (if a < b then b else a) } t μ' ∧ _
  generalize (if b < a then b else a) = s at *
  generalize (if a < b then b else a) = e at *
  refine st_new h (by rfl) fun y μ1 h1 k1 l1 f1 m1 => ?_
  simp only [bnd_assoc, bnd_ite, X, R h1, P, M, ↓reduceIte, ite_ap, decide_eq_true_eq, gt_iff_lt, Bool.false_eq_true, b412 h1 _ g]
  rw [if_neg (by omega), if_neg (by omega)]
  refine st_new h1 (by rfl) fun y μ2 h2 k2 l2 f2 m2 => ?_
  refine st_lo h2 fun μ3 h3 k3 => ?_
  refine st_hi h3 fun μ4 h4 k4 => ?_
  simp only [R h4, M, ↓reduceIte]
  refine go_bnd (g433 h4 _ _) fun v μ5 ⟨_, h5, k5⟩ => go_ret ⟨⟨cs, gs, ge, t1, t2, h5, g.re rfl rfl rfl⟩, (((k1.trans k2).trans k3).trans k4).trans k5⟩
theorem x578 (H0 : HG ds st t μ) (n : Nat) {a b : Int} (hx : mn a b < 1 ∨ t.length + 1 < mx a b) : Ex (callN (n + 3) (.top 578) [.ref 19, .int a, .int b] μ) (.str "args-out-of-range") fun μ' => HG ds st t μ' ∧ Keep st.L μ μ' := by
  obtain ⟨cs, gs, ge, t1, t2, h, g⟩ := H0
  rw [callF (by kernel_rfl), s578]
  simp only [P]
  change (if b < a then b else a) < 1 ∨ _ < (if a < b then b else a) at hx
  generalize (if b < a then b else a) = s at *
  generalize (if a < b then b else a) = e at *
  refine ex_new h (by rfl) fun y μ1 h1 k1 l1 f1 m1 => ?_
  simp only [bnd_assoc, bnd_ite, X, R h1, P, M, ↓reduceIte, ite_ap, decide_eq_true_eq, gt_iff_lt, Bool.false_eq_true, b412 h1 _ g]
  have e : ∀ x y : Option (Out V × Mem), (if s < 1 then x else if (t.length : Int) + 1 < e then x else y) = x := by
    intro x y
    by_cases z : s < 1
    · rw [if_pos z]
    · rw [if_neg z, if_pos (by omega)]
  rw [e]
  refine ex_new h1 (by rfl) fun c2 μ2 h2 k2 l2 f2 m2 => ⟨_, μ2, rfl, ⟨cs, gs, ge, t1, t2, h2, g⟩, k1.trans k2⟩
theorem h585 (H0 : HG ds st t μ) (n : Nat) : Go (callN (n + 3) (.top 585) [.ref 19] μ) fun _ μ' => HG ds { st with lo := 1, hi := t.length + 1 } t μ' ∧ Keep st.L μ μ' := by
  obtain ⟨cs, gs, ge, t1, t2, h, g⟩ := H0
  rw [callF (by kernel_rfl), s585]
  simp only [R h, M, ↓reduceIte, b412 h _ g, P]
  refine st_new h (by rfl) fun y μ1 h1 k1 l1 f1 m1 => ?_
  refine st_lo h1 fun μ2 h2 k2 => ?_
  refine st_hi h2 fun μ3 h3 k3 => go_ret ⟨⟨cs, gs, ge, t1, t2, h3, g.re rfl rfl rfl⟩, (k1.trans k2).trans k3⟩
end
/-! ## New instances, and the deeds that change -/
theorem Keep.fresh {L : List Nat} {μ0 μ : Mem} (k : Keep L μ0 μ) {a : Nat} {o : MO} (ha : μ0.length ≤ a) : Keep L μ0 (μ.set a o) := ⟨fun b ob fr hm => by
  have hb := (List.getElem?_eq_some_iff.mp hm).1
  rw [List.getElem?_set_ne (by omega)]
  exact k.get _ _ fr hm, by have := k.len; simp; omega⟩
theorem seq_some {α : Type} {K : Option V × Loc → Mx α} {v : V} {ρ : Loc} {f : Loc → Mx α} : seqK (some v, ρ) K f = K (some v, ρ) := rfl
section
variable {α β : Type} {ds : List Int} {st : St} {t : List Int} {μ μ' : Mem}
theorem H.setFree (h : H ds st μ) {a : Nat} {o : MO} (fa : Free st.L a) (ht : a ≠ st.txa) : H ds st (μ.set a o) := by
  refine ⟨h.fix.setNe fun q hq => by have := fix_lt hq; have := fa.1; omega, h.mrk.setNe fun q hq e => fa.2 (e ▸ List.mem_append_left _ (mkL_mem hq)), h.sp.setNe fun q hq e => fa.2 (e ▸ List.mem_append_right _ (spL_mem hq)), ?_, h.lm, h.ls, h.bigT, by simpa using h.bigM, by simpa using h.bigS, h.nd, h.tn⟩
  rw [List.getElem?_set_ne ht]; exact h.tx
theorem H.txLt (h : H ds st μ) : st.txa < μ.length := (List.getElem?_eq_some_iff.mp h.tx).1
/-- a field of a new instance -/
theorem st_fresh {μ0 : Mem} {a : Nat} {C : Addr} {fs : Loc} {x : Str} {v : V} {K : Unit → Mx β} {Q : β → Mem → Prop} (h : H ds st μ) (k0 : Keep st.L μ0 μ) (fa : Free st.L a) (ha : μ0.length ≤ a) (ht : st.txa < μ0.length) (hm : μ[a]? = some (.inst C fs)) (hk : (fieldsT C).contains x = true) (hz : szOk (.inst C (setL x v fs)) = true)
    (k : ∀ μ', H ds st μ' → Keep st.L μ0 μ' → μ'[a]? = some (.inst C (setL x v fs)) → Go (K () μ') Q) : Go (bnd (putAttrM (.ref a) x v) K μ) Q := by
  rw [putA_bnd (by have := fa.1; omega) hm hk hz]
  refine k _ (h.setFree fa (by omega)) (k0.fresh ha) ?_
  have := (List.getElem?_eq_some_iff.mp hm).1
  simp [this]
theorem callC {n : Nat} {a i : Addr} {args : List V} (h1 : (fnAt a).isNone = true) (h2 : a ≠ 483) (h3 : methT a "__init__" = some i) : callN (n + 1) (.top a) args = bnd (newM (.inst a [])) fun v => bnd (callN n (.top i) (v :: args)) fun
    | .none => ret v
    | _ => stuck := by
  rw [callN]
  dsimp only
  cases h : fnAt a with
  | none =>
    dsimp only
    rw [if_neg h2, h3]
    rfl
  | some f => rw [h] at h1; cases h1
def txO (c : Nat) : MO := .inst 178 [("codes", .ref c), ("spans", .none)]
theorem g178 (h : H ds st μ) (n : Nat) (c : Nat) : Go (callN (n + 2) (.top 178) [.ref c] μ) fun v μ' => ∃ a, v = .ref a ∧ H ds st μ' ∧ Keep st.L μ μ' ∧ μ.length ≤ a ∧ Free st.L a ∧ μ'[a]? = some (txO c) := by
  rw [callC (by kernel_rfl) (by decide) (i := 175) (by kernel_rfl)]
  refine st_new h (by rfl) fun a μ1 h1 k1 l1 f1 m1 => ?_
  rw [callF (by kernel_rfl), s175]
  simp only [bnd_assoc]
  refine st_fresh h1 k1 f1 l1 h.txLt m1 (by kernel_rfl) (by kernel_rfl) fun μ2 h2 k2 m2 => ?_
  refine st_fresh h2 k2 f1 l1 h.txLt m2 (by kernel_rfl) (by kernel_rfl) fun μ3 h3 k3 m3 => ?_
  simp only [P]
  exact go_ret ⟨a, rfl, h3, k3, l1, f1, m3⟩
theorem isT {a : Nat} {c : Nat} (hm : μ[a]? = some (txO c)) (K : V → Mx α) : bnd (callB "isinstance" [.ref a, .top 178]) K μ = K (.bool true) μ := by
  refine bnd_val ?_
  show bnd (bnd (getM a) _) _ μ = _
  rw [bnd_assoc]
  exact (bnd_val (a := txO c) (μ' := μ) (by unfold getM; rw [hm]; rfl)).trans (by kernel_rfl)
theorem tx_codes {a : Nat} {c : Nat} (hm : μ[a]? = some (txO c)) (K : V → Mx α) : bnd (attrM (.ref a) "codes") K μ = K (.ref c) μ := attr_bnd hm (by kernel_rfl) (by kernel_rfl) (by kernel_rfl) K
theorem e774 {C : CallT} {ρ : Loc} {K : Option V × Loc → Mx V} : kSs C (fnOf 774).names ((fnOf 774).body.drop 2) ρ K = K (some (.top 135), ρ) := by kernel_rfl
theorem HG.cur (H0 : HG ds st t μ) (n : Nat) (K : V → Mx α) : bnd (callN (n + 1) (.top 655) [.ref 4]) K μ = K (.ref 19) μ := by
  obtain ⟨cs, gs, ge, t1, t2, h, g⟩ := H0
  exact b655 h n K
theorem HG.push (H0 : HG ds st t μ) (o : MO) : HG ds st t (μ ++ [o]) := by
  obtain ⟨cs, gs, ge, t1, t2, h, g⟩ := H0
  exact ⟨cs, gs, ge, t1, t2, h.push o, g⟩
theorem HG.free (H0 : HG ds st t μ) : Free st.L μ.length := by
  obtain ⟨cs, gs, ge, t1, t2, h, g⟩ := H0
  exact h.free
theorem sg_new {o : MO} {K : V → Mx β} {Q : β → Mem → Prop} (h : HG ds st t μ) (hz : szOk o = true) (k : ∀ a μ', HG ds st t μ' → Keep st.L μ μ' → μ.length ≤ a → Free st.L a → μ'[a]? = some o → Go (K (.ref a) μ') Q) : Go (bnd (newM o) K μ) Q := by
  rw [new_bnd hz]
  exact k μ.length _ (h.push o) (Keep.push _ _ _) (Nat.le_refl _) h.free (last_get o)
abbrev insT (t w : List Int) (p : Int) : List Int := t.take (p - 1).toNat ++ w ++ t.drop (p - 1).toNat
abbrev delT (t : List Int) (s e : Int) : List Int := t.take (s - 1).toNat ++ t.drop (e - 1).toNat
abbrev insB (st : St) (n : Int) : St := { st with pt := st.pt + n, hi := st.hi + n, mks := st.mks.map (insM st.pt n) }
abbrev delB (st : St) (s e : Int) : St := { st with hi := st.hi - (e - s), pt := if s < st.pt then mx s (st.pt - (e - s)) else st.pt, mks := st.mks.map (delM s e) }
/-- insert, of one string -/
theorem d774 (H0 : HG ds st t μ) (b : Bd st t) (n : Nat) {w : List Int} {c x r : Nat} (hr : μ[r]? = some (.list [.ref x])) (fr : Free st.L r) (hx : μ[x]? = some (txO c)) (hc : μ[c]? = some (il w)) (hwt : t.length + w.length ≤ 300) (hn : st.ths.length < 64) : Go (callN (n + 6) (.top 774) [.ref 4, .ref r] μ) fun v μ' => v = .top 135 ∧ HG ds (insB st w.length) (insT t w st.pt) μ' ∧ Keep st.L μ μ' := by
  rw [callF (by kernel_rfl), s774]
  simp only [H0.cur]
  rw [listOf_bnd hr, eachM, bnd_assoc, same_bnd hr, bnd_assoc]
  rw [show ([("world", V.ref 4), ("args", V.ref r), ("buffer", V.ref 19)] : Loc) = (("world", .ref 4) :: ("args", .ref r) :: ("buffer", .ref 19) :: ([] : Loc) : Loc) from rfl, t774]
  simp only [bnd_assoc, bnd_ite, look, isT hx, P, ↓reduceIte, tx_codes hx, lst_bnd hc]
  refine sg_new H0 (szIl (l := w) (by omega)) fun y μ1 h1 k1 l1 f1 m1 => ?_
  refine go_bnd (h557 h1 b _ m1 f1 hwt hn) fun v μ2 ⟨h2, k2⟩ => ?_
  simp only [P]
  rw [eachN (k2.get _ _ fr (k1.get _ _ fr hr)), seq_none, e774]
  exact go_ret ⟨rfl, h2, k1.trans k2⟩
theorem x662 (H0 : HG ds st t μ) (n : Nat) : Ex (callN (n + 2) (.top 662) [.top 135] μ) (.str "wrong-type-argument") fun μ' => HG ds st t μ' ∧ Keep st.L μ μ' := by
  rw [callF (by kernel_rfl), s662]
  simp only [bnd_assoc, bnd_ite, b245n, X, P, ↓reduceIte, Bool.not_false]
  rw [new_bnd (by rfl)]
  exact ⟨_, _, rfl, H0.push _, Keep.push _ _ _⟩
theorem x774 (H0 : HG ds st t μ) (n : Nat) {r : Nat} (hr : μ[r]? = some (.list [.top 135])) : Ex (callN (n + 3) (.top 774) [.ref 4, .ref r] μ) (.str "wrong-type-argument") fun μ' => HG ds st t μ' ∧ Keep st.L μ μ' := by
  rw [callF (by kernel_rfl), s774]
  simp only [H0.cur]
  rw [listOf_bnd hr, eachM, bnd_assoc, same_bnd hr, bnd_assoc]
  rw [show ([("world", V.ref 4), ("args", V.ref r), ("buffer", V.ref 19)] : Loc) = (("world", .ref 4) :: ("args", .ref r) :: ("buffer", .ref 19) :: ([] : Loc) : Loc) from rfl, t774]
  simp only [bnd_assoc, bnd_ite, look, P, ↓reduceIte, Bool.false_eq_true]
  exact ex_bnd (x662 H0 _)
theorem d781 (H0 : HG ds st t μ) (b : Bd st t) (n : Nat) {i : Int} {r : Nat} (hr : μ[r]? = some (.list [.int 120, .int i])) (h1 : -1 ≤ i) (h2 : i ≤ 100) (hwt : t.length ≤ 200) (hn : st.ths.length < 64) : Go (callN (n + 6) (.top 781) [.ref 4, .ref r] μ) fun v μ' => v = .top 135 ∧ HG ds (insB st (mx 0 i)) (insT t (List.replicate (mx 0 i).toNat 120) st.pt) μ' ∧ Keep st.L μ μ' := by
  rw [callF (by kernel_rfl), s781]
  simp only [bnd_assoc, bnd_ite, X, P, len_list hr, it1 hr, it0 hr, List.length_cons, List.length_nil, ite_ap, H0.cur]
  have e : decide (((0 + 1 + 1 : Nat) : Int) < 2) = false := by decide
  simp only [e, Bool.false_eq_true, ↓reduceIte, b592, H0.cur, it0 hr, it1 hr, b662 _ (i := 120) (by omega) (by omega), P]
  obtain ⟨cs, gs, ge, t1, t2, h, g⟩ := H0
  refine st_new h (by rfl) fun y μ1 h1 k1 l1 f1 m1 => ?_
  simp only [P]
  have b1 : 0 ≤ mx 0 i := by unfold mx; split <;> omega
  have b2 : mx 0 i ≤ 100 := by unfold mx; split <;> omega
  change Go (bnd (binM .Mult (.ref y) (.int (mx 0 i))) _ μ1) _
  refine mul_go h1 (v := 120) m1 (by omega) (by omega) fun z μ2 h2 k2 l2 f2 m2 => ?_
  refine go_bnd (h557 (st := st) (t := t) ⟨cs, gs, ge, t1, t2, h2, g⟩ b _ m2 f2 (by rw [List.length_replicate]; omega) hn) fun v μ3 ⟨h3, k3⟩ => go_ret ⟨rfl, ?_, (k1.trans k2).trans k3⟩
  rw [List.length_replicate, show ((mx 0 i).toNat : Int) = mx 0 i from by omega] at h3
  exact h3
theorem d788 (H0 : HG ds st t μ) (n : Nat) {a b : Int} {r : Nat} (hr : μ[r]? = some (.list [.int a, .int b])) (b1 : 1 ≤ st.lo) (b4 : st.hi ≤ t.length + 1) (r1 : st.lo ≤ mn a b) (r2 : mx a b ≤ st.hi) (hn : st.ths.length < 64) : Go (callN (n + 5) (.top 788) [.ref 4, .ref r] μ) fun v μ' => v = .top 135 ∧ HG ds (delB st (mn a b) (mx a b)) (delT t (mn a b) (mx a b)) μ' ∧ Keep st.L μ μ' := by
  rw [callF (by kernel_rfl), s788]
  simp only [H0.cur, it0 hr, it1 hr, b592]
  exact go_bnd (h564 H0 _ b1 b4 r1 r2 hn) fun v μ1 q => go_ret ⟨rfl, q⟩
theorem x788 (H0 : HG ds st t μ) (n : Nat) {a b : Int} {r : Nat} (hr : μ[r]? = some (.list [.int a, .int b])) (hx : mn a b < st.lo ∨ st.hi < mx a b) : Ex (callN (n + 5) (.top 788) [.ref 4, .ref r] μ) (.str "args-out-of-range") fun μ' => HG ds st t μ' ∧ Keep st.L μ μ' := by
  rw [callF (by kernel_rfl), s788]
  simp only [H0.cur, it0 hr, it1 hr, b592]
  exact ex_bnd (x564 H0 _ hx)
theorem d795 (H0 : HG ds st t μ) (n : Nat) (w : V) (hn : st.ths.length < 64) : Go (callN (n + 6) (.top 795) [.ref 4, w] μ) fun v μ' => v = .top 135 ∧ HG ds { st with lo := 1, hi := 1, pt := if 1 < st.pt then mx 1 (st.pt - t.length) else st.pt, mks := st.mks.map (delM 1 (t.length + 1)) } [] μ' ∧ Keep st.L μ μ' := by
  rw [callF (by kernel_rfl), s795]
  simp only [H0.cur]
  exact go_bnd (h571 H0 _ hn) fun v μ1 q => go_ret ⟨rfl, q⟩
theorem g426 (h : H ds st μ) (n : Nat) (g : GI st t) {s e : Int} (hs : 1 ≤ s) (hse : s ≤ e) (he : e ≤ t.length + 1) : Go (callN (n + 2) (.top 426) [.ref 19, .int s, .int e] μ) fun v μ' => ∃ a, v = .ref a ∧ H ds st μ' ∧ Keep st.L μ μ' ∧ μ.length ≤ a ∧ Free st.L a ∧ μ'[a]? = some (il ((t.take (e - 1).toNat).drop (s - 1).toNat)) := by
  rw [callF (by kernel_rfl), s426]
  simp only [R h, M, P, ↓reduceIte]
  exact go_bnd (g56 h _ g (s := s - 1) (e := e - 1) (by omega) (by omega) (by omega)) fun v μ1 q => go_ret q
/-- what a string's deed tells -/
def TxAt (ds : List Int) (st : St) (t : List Int) (μ0 : Mem) (l : List Int) (v : V) (μ : Mem) : Prop := ∃ a c, v = .ref a ∧ μ[a]? = some (txO c) ∧ μ[c]? = some (il l) ∧ Free st.L a ∧ Free st.L c ∧ HG ds st t μ ∧ Keep st.L μ0 μ
theorem d802 (H0 : HG ds st t μ) (n : Nat) {a b : Int} {r : Nat} (hr : μ[r]? = some (.list [.int a, .int b])) (b1 : 1 ≤ st.lo) (b4 : st.hi ≤ t.length + 1) (r1 : st.lo ≤ mn a b) (r2 : mx a b ≤ st.hi) : Go (callN (n + 4) (.top 802) [.ref 4, .ref r] μ) (TxAt ds st t μ ((t.take (mx a b - 1).toNat).drop (mn a b - 1).toNat)) := by
  have hse : mn a b ≤ mx a b := by unfold mn mx; split <;> split <;> omega
  rw [callF (by kernel_rfl), s802]
  simp only [H0.cur, it0 hr, it1 hr, b592]
  obtain ⟨cs, gs, ge, t1, t2, h, g⟩ := H0
  refine go_bnd (R := fun v μ' => ∃ a', v = .ref a' ∧ H ds { st with cells := cs, gs := gs, ge := ge, t1 := t1, t2 := t2 } μ' ∧ Keep st.L μ μ' ∧ Free st.L a' ∧ μ'[a']? = some (il ((t.take (mx a b - 1).toNat).drop (mn a b - 1).toNat))) ?_ fun v μ1 ⟨c, hv, h1, k1, f1, m1⟩ => ?_
  · rw [callF (by kernel_rfl), s648]
    refine go_bnd (g500 h _ r1 r2) fun v μ1 ⟨x, hv, h1, k1, f1, m1⟩ => ?_
    subst hv
    rw [tup_bnd m1, tup2_eq]
    simp only [R h1, M, ↓reduceIte]
    exact go_bnd (g426 h1 _ g (s := mn a b) (e := mx a b) (by omega) hse (by omega)) fun v μ2 ⟨c, hv, h2, k2, l2, f2, m2⟩ => go_ret ⟨c, hv, h2, k1.trans k2, f2, m2⟩
  · subst hv
    refine go_bnd (g178 h1 _ c) fun v μ2 ⟨x, hv, h2, k2, l2, f2, m2⟩ => go_ret ⟨x, c, hv, m2, k2.get _ _ f1 m1, f2, f1, ⟨cs, gs, ge, t1, t2, h2, g⟩, k1.trans k2⟩
theorem x802 (H0 : HG ds st t μ) (n : Nat) {a b : Int} {r : Nat} (hr : μ[r]? = some (.list [.int a, .int b])) (hx : mn a b < st.lo ∨ st.hi < mx a b) : Ex (callN (n + 4) (.top 802) [.ref 4, .ref r] μ) (.str "args-out-of-range") fun μ' => HG ds st t μ' ∧ Keep st.L μ μ' := by
  rw [callF (by kernel_rfl), s802]
  simp only [H0.cur, it0 hr, it1 hr, b592]
  obtain ⟨cs, gs, ge, t1, t2, h, g⟩ := H0
  refine ex_bnd ?_
  rw [callF (by kernel_rfl), s648]
  exact ex_bnd (ex_mono (x500 h _ hx) fun μ1 ⟨h1, k1⟩ => ⟨⟨cs, gs, ge, t1, t2, h1, g⟩, k1⟩)
theorem d809 (H0 : HG ds st t μ) (b : Bd st t) (n : Nat) (w : V) : Go (callN (n + 4) (.top 809) [.ref 4, w] μ) (TxAt ds st t μ ((t.take (st.hi - 1).toNat).drop (st.lo - 1).toNat)) := by
  have b1 := b.lo; have b2 := b.pl; have b3 := b.ph; have b4 := b.hi
  rw [callF (by kernel_rfl), s809]
  simp only [H0.cur]
  obtain ⟨cs, gs, ge, t1, t2, h, g⟩ := H0
  simp only [R h, M, ↓reduceIte, b398 h, b405 h]
  refine go_bnd (g426 h _ g (s := st.lo) (e := st.hi) b1 (by omega) (by omega)) fun v μ1 ⟨c, hv, h1, k1, l1, f1, m1⟩ => ?_
  subst hv
  exact go_bnd (g178 h1 _ c) fun v μ2 ⟨x, hv, h2, k2, l2, f2, m2⟩ => go_ret ⟨x, c, hv, m2, k2.get _ _ f1 m1, f2, f1, ⟨cs, gs, ge, t1, t2, h2, g⟩, k1.trans k2⟩
theorem d823 (H0 : HG ds st t μ) (n : Nat) {a b : Int} {r : Nat} (hr : μ[r]? = some (.list [.int a, .int b])) (r1 : 1 ≤ mn a b) (r2 : mx a b ≤ t.length + 1) : Go (callN (n + 4) (.top 823) [.ref 4, .ref r] μ) fun v μ' => v = .top 135 ∧ HG ds { st with lo := mn a b, hi := mx a b, pt := clip st.pt (mn a b) (mx a b) } t μ' ∧ Keep st.L μ μ' := by
  rw [callF (by kernel_rfl), s823]
  simp only [H0.cur, it0 hr, it1 hr, b592]
  exact go_bnd (h578 H0 _ r1 r2) fun v μ1 q => go_ret ⟨rfl, q⟩
theorem x823 (H0 : HG ds st t μ) (n : Nat) {a b : Int} {r : Nat} (hr : μ[r]? = some (.list [.int a, .int b])) (hx : mn a b < 1 ∨ t.length + 1 < mx a b) : Ex (callN (n + 4) (.top 823) [.ref 4, .ref r] μ) (.str "args-out-of-range") fun μ' => HG ds st t μ' ∧ Keep st.L μ μ' := by
  rw [callF (by kernel_rfl), s823]
  simp only [H0.cur, it0 hr, it1 hr, b592]
  exact ex_bnd (x578 H0 _ hx)
theorem d830 (H0 : HG ds st t μ) (n : Nat) (w : V) : Go (callN (n + 4) (.top 830) [.ref 4, w] μ) fun v μ' => v = .top 135 ∧ HG ds { st with lo := 1, hi := t.length + 1 } t μ' ∧ Keep st.L μ μ' := by
  rw [callF (by kernel_rfl), s830]
  simp only [H0.cur]
  exact go_bnd (h585 H0 _) fun v μ1 q => go_ret ⟨rfl, q⟩
theorem d704 (H0 : HG ds st t μ) (n : Nat) {p : Int} {r : Nat} (hr : μ[r]? = some (.list [.int p])) (fr : Free st.L r) : Go (callN (n + 3) (.top 704) [.ref 4, .ref r] μ) fun v μ' => v = .int p ∧ HG ds { st with pt := clip p st.lo st.hi } t μ' ∧ Keep st.L μ μ' := by
  rw [callF (by kernel_rfl), s704]
  simp only [H0.cur, it0 hr]
  obtain ⟨cs, gs, ge, t1, t2, h, g⟩ := H0
  simp only [R h, M, ↓reduceIte, b592, it0 hr]
  refine go_bnd (g433 h _ p) fun v μ1 ⟨_, h1, k1⟩ => ?_
  simp only [it0 (k1.get _ _ fr hr)]
  exact go_ret ⟨rfl, ⟨cs, gs, ge, t1, t2, h1, g.re rfl rfl rfl⟩, k1⟩
end
/-! ## Equal plain data; the law's own helpers -/
theorem eqvAll_refl : ∀ {l : List PyData}, (∀ d ∈ l, PyData.eqv d d = true) → PyData.eqvAll l l = true
  | [], _ => by unfold PyData.eqvAll; rfl
  | d :: r, h => by
    unfold PyData.eqvAll
    rw [h d (.head _), eqvAll_refl fun x hx => h x (.tail _ hx)]; rfl
theorem toPys_refl {f : V → Option PyData} (hf : ∀ v d, f v = some d → PyData.eqv d d = true) : ∀ {l : List V} {ds : List PyData}, toPys f l = some ds → ∀ d ∈ ds, PyData.eqv d d = true
  | [], ds, h, d, hd => by
    unfold toPys at h
    injection h with h; subst h; cases hd
  | v :: r, ds, h, d, hd => by
    unfold toPys at h
    split at h
    · rename_i x xs hx hxs
      injection h with h; subst h
      rcases List.mem_cons.mp hd with rfl | hd
      · exact hf _ _ hx
      · exact toPys_refl hf hxs d hd
    · cases h
theorem toPy_refl {μ : Mem} : ∀ (n : Nat) (v : V) (d : PyData), toPy n μ v = some d → PyData.eqv d d = true := by
  intro n
  induction n with
  | zero =>
    intro v d h
    cases v <;> unfold toPy at h <;> first | (injection h with h; subst h; unfold PyData.eqv; simp) | (split at h; (injection h with h; subst h; unfold PyData.eqv; simp); cases h) | cases h
  | succ n ih =>
    intro v d h
    cases v <;> unfold toPy at h <;> first | (injection h with h; subst h; unfold PyData.eqv; simp; done) | (cases h; done) | skip
    · split at h
      · injection h with h; subst h; unfold PyData.eqv; simp
      · cases h
    · split at h
      · rename_i xs hx
        cases hp : toPys (toPy n μ) xs with
        | none => rw [hp] at h; cases h
        | some ps =>
          rw [hp] at h
          injection h with h; subst h
          unfold PyData.eqv
          exact eqvAll_refl (toPys_refl (fun v d => ih v d) hp)
      · cases h
theorem eqM_true {μ : Mem} {x y : V} {d : PyData} (hl : lenDiff μ x y = false) (hx : toPy 3 μ x = some d) (hy : toPy 3 μ y = some d) : eqM x y μ = some (.ok true, μ) := by
  unfold eqM
  rw [hl, hx, hy]
  simp only [Bool.false_eq_true, ↓reduceIte]
  rw [toPy_refl _ _ _ hx]
theorem toPys_ints {n : Nat} {μ : Mem} : ∀ (l : List Int), toPys (toPy n μ) (l.map .int) = some (l.map .int)
  | [] => rfl
  | i :: r => by
    rw [List.map_cons, toPys, toPys_ints r]
    cases n <;> rfl
theorem toPy_il {n : Nat} {μ : Mem} {a : Nat} {l : List Int} (hm : μ[a]? = some (il l)) : toPy (n + 1) μ (.ref a) = some (.list (l.map .int)) := by
  unfold toPy
  rw [hm]
  unfold il
  dsimp only
  rw [toPys_ints]; rfl
theorem lenD {μ : Mem} {a b : Nat} {xs ys : List V} (ha : μ[a]? = some (.list xs)) (hb : μ[b]? = some (.list ys)) (h : xs.length = ys.length) : lenDiff μ (.ref a) (.ref b) = false := by
  unfold lenDiff
  simp only [ha, hb, h]
  simp
/-- what _law_told tells -/
inductive Td where
  | nil
  | text (l : List Int)
  | told (i : Int)
  | refused (s : Str)
def TdAt (L : List Nat) (μ : Mem) (a : Nat) : Td → Prop
  | .nil => μ[a]? = some (.list [.str "nil"]) ∧ Free L a
  | .text l => ∃ c, μ[a]? = some (.list [.str "text", .ref c]) ∧ Free L a ∧ μ[c]? = some (il l) ∧ Free L c
  | .told i => μ[a]? = some (.list [.str "told", .int i]) ∧ Free L a
  | .refused s => μ[a]? = some (.list [.str "refused", .str s]) ∧ Free L a ∧ PyData.strOk s = true
theorem TdAt.keep {L : List Nat} {μ μ' : Mem} {a : Nat} {d : Td} (h : TdAt L μ a d) (k : Keep L μ μ') : TdAt L μ' a d := by
  cases d with
  | nil => exact ⟨k.get _ _ h.2 h.1, h.2⟩
  | text l =>
    obtain ⟨c, h1, h2, h3, h4⟩ := h
    exact ⟨c, k.get _ _ h2 h1, h2, k.get _ _ h4 h3, h4⟩
  | told i => exact ⟨k.get _ _ h.2 h.1, h.2⟩
  | refused s => exact ⟨k.get _ _ h.2.1 h.1, h.2⟩
theorem toPy_str {n : Nat} {μ : Mem} {s : Str} (h : PyData.strOk s = true) : toPy n μ (.str s) = some (.str s) := by
  cases n <;> (unfold toPy; rw [if_pos h])
theorem toPy_int {n : Nat} {μ : Mem} {i : Int} : toPy n μ (.int i) = some (.int i) := by cases n <;> (unfold toPy; rfl)
theorem toPy_bool {n : Nat} {μ : Mem} {b : Bool} : toPy n μ (.bool b) = some (.bool b) := by cases n <;> (unfold toPy; rfl)
theorem toPys_cons {f : V → Option PyData} {v : V} {r : List V} {d : PyData} {ds : List PyData} (h1 : f v = some d) (h2 : toPys f r = some ds) : toPys f (v :: r) = some (d :: ds) := by
  unfold toPys; rw [h1, h2]
theorem toPy_list {n : Nat} {μ : Mem} {a : Nat} {xs : List V} {ds : List PyData} (hm : μ[a]? = some (.list xs)) (h : toPys (toPy n μ) xs = some ds) : toPy (n + 1) μ (.ref a) = some (.list ds) := by
  unfold toPy
  rw [hm]
  dsimp only
  rw [h]; rfl
def Td.py : Td → PyData
  | .nil => .list [.str "nil"]
  | .text l => .list [.str "text", .list (l.map .int)]
  | .told i => .list [.str "told", .int i]
  | .refused s => .list [.str "refused", .str s]
def Td.n : Td → Nat
  | .nil => 1
  | _ => 2
theorem Td_py {L : List Nat} {μ : Mem} {a : Nat} {d : Td} (h : TdAt L μ a d) : toPy 3 μ (.ref a) = some d.py ∧ ∃ xs, μ[a]? = some (.list xs) ∧ xs.length = d.n := by
  cases d with
  | nil => exact ⟨toPy_list h.1 (toPys_cons (toPy_str (by kernel_rfl)) rfl), _, h.1, rfl⟩
  | text l =>
    obtain ⟨c, h1, h2, h3, h4⟩ := h
    exact ⟨toPy_list h1 (toPys_cons (toPy_str (by kernel_rfl)) (toPys_cons (toPy_il h3) rfl)), _, h1, rfl⟩
  | told i => exact ⟨toPy_list h.1 (toPys_cons (toPy_str (by kernel_rfl)) (toPys_cons toPy_int rfl)), _, h.1, rfl⟩
  | refused s => exact ⟨toPy_list h.1 (toPys_cons (toPy_str (by kernel_rfl)) (toPys_cons (toPy_str h.2.2) rfl)), _, h.1, rfl⟩
theorem Td_eq {L : List Nat} {μ : Mem} {a b : Nat} {d : Td} (ha : TdAt L μ a d) (hb : TdAt L μ b d) : eqM (.ref a) (.ref b) μ = some (.ok true, μ) := by
  obtain ⟨h1, xs, h2, h3⟩ := Td_py ha
  obtain ⟨h1', xs', h2', h3'⟩ := Td_py hb
  exact eqM_true (lenD h2 h2' (by rw [h3, h3'])) h1 h1'
section
variable {α β : Type} {ds : List Int} {st : St} {t : List Int} {μ μ' : Mem}
theorem mod_bnd {i j : Int} (h1 : 0 < j) (h2 : j ≤ 100000) (K : V → Mx α) : bnd (binM .Mod (.int i) (.int j)) K μ = K (.int (i % j)) μ := by
  refine bnd_val ?_
  show (if 0 < j ∧ j < 1000000000 then ret (V.int (i.fmod j)) else stuck) μ = _
  rw [if_pos ⟨h1, by omega⟩, Int.fmod_eq_emod_of_nonneg _ (by omega)]; rfl
theorem div_bnd {i j : Int} (h1 : 0 < j) (h2 : j ≤ 100000) (K : V → Mx α) : bnd (binM .FloorDiv (.int i) (.int j)) K μ = K (.int (i.fdiv j)) μ := by
  refine bnd_val ?_
  show (if 0 < j ∧ j < 1000000000 then ret (V.int (i.fdiv j)) else stuck) μ = _
  rw [if_pos ⟨h1, by omega⟩]; rfl
theorem mulI_bnd {i j : Int} (h1 : small i = true) (h2 : small j = true) (K : V → Mx α) : bnd (binM .Mult (.int i) (.int j)) K μ = K (.int (i * j)) μ := by
  refine bnd_val ?_
  show (if small i && small j then ret (V.int (i * j)) else stuck) μ = _
  rw [h1, h2]; rfl
theorem small_sq {i : Int} (h1 : 0 ≤ i) (h2 : i ≤ 2001) : small (i * i) = true := by
  unfold small
  have e : (2 : Nat) ^ 40 = 1099511627776 := by decide
  have a : i.natAbs ≤ 2001 := by omega
  have b := Nat.mul_le_mul a a
  simp only [decide_eq_true_eq, e, Int.natAbs_mul]
  omega
theorem H.deck (h : H ds st μ) : μ[2]? = some (il ds) := h.at (by unfold fixL; simp)
theorem g1264 (H0 : HG ds st t μ) (n : Nat) {m : Int} (d0 : 0 ≤ st.dk) (d1 : st.dk ≤ 2000) (hd : ds.length ≤ 63) (m0 : 0 < m) (m1 : m ≤ 1000) : Go (callN (n + 1) (.top 1264) [.ref 3, .int m] μ) fun v μ' => ∃ r, v = .int r ∧ 0 ≤ r ∧ r < m ∧ HG ds { st with dk := st.dk + 1 } t μ' ∧ Keep st.L μ μ' := by
  obtain ⟨cs, gs, ge, t1, t2, h, g⟩ := H0
  rw [callF (by kernel_rfl), s1264]
  simp only [R h, P]
  refine st_dk h fun μ1 h1 k1 => ?_
  have fin : ∀ i : Int, Go (ret (V.int (i % m)) μ1) fun v μ' => ∃ r, v = .int r ∧ 0 ≤ r ∧ r < m ∧ HG ds { st with dk := st.dk + 1 } t μ' ∧ Keep st.L μ μ' := fun i => go_ret ⟨_, rfl, Int.emod_nonneg _ (by omega), Int.emod_lt_of_pos _ m0, ⟨cs, gs, ge, t1, t2, h1, g.re rfl rfl rfl⟩, k1⟩
  simp only [R h1, P, ite_ap, decide_eq_true_eq]
  by_cases z : st.dk + 1 ≤ ds.length
  · rw [if_pos z]
    have hlt : (st.dk + 1 - 1).toNat < ds.length := by omega
    rw [item_bnd h1.deck ⟨by omega, small_of (by omega) (by omega)⟩ (v := .int (ds[(st.dk + 1 - 1).toNat])) (by rw [il_get, List.getElem?_eq_getElem hlt]; rfl)]
    rw [mod_bnd m0 (by omega)]
    exact fin _
  · rw [if_neg z]
    rw [mulI_bnd (small_of (by omega) (by omega)) (small_of (by omega) (by omega))]
    rw [mulI_bnd (small_sq (by omega) (by omega)) (small_of (by omega) (by omega))]
    simp only [R h1, P]
    rw [mulI_bnd (small_of (by omega) (by omega)) (small_of (by omega) (by omega))]
    simp only [R h1, P]
    rw [mulI_bnd (small_of (by omega) (by omega)) (small_of (by omega) (by omega))]
    simp only [P]
    rw [div_bnd (by omega) (by omega), mod_bnd m0 (by omega)]
    exact fin _
theorem HG.tx (H0 : HG ds st t μ) : μ[st.txa]? = some (il st.txt) := by
  obtain ⟨cs, gs, ge, t1, t2, h, g⟩ := H0
  exact h.tx
theorem g1278 (H0 : HG ds st t μ) (n : Nat) (d0 : 0 ≤ st.dk) (d1 : st.dk ≤ 2000) (hd : ds.length ≤ 63) (ht : st.txt.length ≤ 300) : Go (callN (n + 2) (.top 1278) [.ref 3, .ref 167] μ) fun v μ' => ∃ p, v = .int p ∧ -1 ≤ p ∧ p ≤ 400 ∧ HG ds { st with dk := st.dk + 1 } t μ' ∧ Keep st.L μ μ' := by
  rw [callF (by kernel_rfl), s1278]
  have htx := H0.tx
  have H1 := H0
  obtain ⟨cs, gs, ge, t1, t2, h, g⟩ := H0
  simp only [R h, len_bnd htx, P]
  refine go_bnd (g1264 H1 _ d0 d1 hd (m := st.txt.length + 4) (by omega) (by omega)) fun v μ1 ⟨r, hv, r0, r1, h1, k1⟩ => ?_
  subst hv
  simp only [P]
  exact go_ret ⟨_, rfl, by omega, by omega, h1, k1⟩
def sgV (st : St) (p : Int) : V := if st.ol ≤ p ∧ p < st.oh then .int ((st.txt[(p - 1).toNat]?).getD 0) else .none
theorem b1285 (H0 : HG ds st t μ) (n : Nat) (p : Int) (h1 : 1 ≤ st.ol) (h2 : st.oh ≤ st.txt.length + 1) (h3 : st.txt.length ≤ 300) (K : V → Mx α) : bnd (callN (n + 1) (.top 1285) [.ref 167, .int p]) K μ = K (sgV st p) μ := by
  have htx := H0.tx
  obtain ⟨cs, gs, ge, t1, t2, h, g⟩ := H0
  rw [callF (by kernel_rfl), s1285]
  unfold sgV
  simp only [bnd_assoc, bnd_ite, R h, P, ite_ap, decide_eq_true_eq, Bool.false_eq_true, ↓reduceIte]
  by_cases z : st.ol ≤ p
  · rw [if_pos z]
    by_cases y : p < st.oh
    · rw [if_pos y, if_pos ⟨z, y⟩]
      have hlt : (p - 1).toNat < st.txt.length := by omega
      rw [item_bnd htx ⟨by omega, small_of (by omega) (by omega)⟩ (v := .int (st.txt[(p - 1).toNat])) (by rw [il_get, List.getElem?_eq_getElem hlt]; rfl)]
      rw [List.getElem?_eq_getElem hlt]; rfl
    · rw [if_neg y, if_neg (fun q => y q.2)]
  · rw [if_neg z, if_neg (fun q => z q.1)]
end
/-! ## The law's own text and spots; what is told -/
section
variable {α β : Type} {ds : List Int} {st : St} {t : List Int} {μ μ' : Mem}
theorem H.sps (h : H ds st μ) : μ[166]? = some (.list (st.sps.map .ref)) := h.at (by unfold fixL; simp)
theorem st_tx {c : Nat} {l : List Int} {K : Unit → Mx β} {Q : β → Mem → Prop} (h : H ds st μ) (hc : μ[c]? = some (il l)) (fc : Free st.L c) (k : ∀ μ', H ds { st with txa := c, txt := l } μ' → Keep st.L μ μ' → Go (K () μ') Q) : Go (bnd (putItemM (.ref 167) (.str "text") (.ref c)) K μ) Q := by
  rw [putD_bnd (by decide) (h.at (o := .dict (oF st)) (by unfold fixL; simp)) (by kernel_rfl) (by kernel_rfl)]
  refine k _ ?_ (Keep.setF (by omega))
  have hl := h.len
  refine ⟨h.fix.set hl fun q hq => ?_, h.mrk.setNe fun q hq e => ?_, h.sp.setNe fun q hq e => ?_, ?_, h.lm, h.ls, fc.1, by simpa using h.bigM, by simpa using h.bigS, h.nd, fc.2⟩
  · simp only [fixL, List.mem_cons, List.not_mem_nil, or_false] at hq ⊢
    rcases hq with rfl | rfl | rfl | rfl | rfl | rfl | rfl | rfl | rfl | rfl | rfl | rfl | rfl <;> first | exact .inl rfl | (right; refine ⟨?_, by simp⟩; simp [wF, bF, gF])
  · have := (h.bigM _ (mkL_mem hq)).1; omega
  · have := (h.bigS _ (spL_mem hq)).1; omega
  · show (μ.set 167 _)[c]? = _
    rw [List.getElem?_set_ne (by have := fc.1; omega)]; exact hc
/-- a loop over the spots -/
theorem spot_loop {ds : List Int} {st : St} {μ0 : Mem} {turn : V → Loc → Mx (Option V × Loc)} {fr : Loc} {f : Int × Bool → Int × Bool} (h0 : H ds st μ0)
    (hT : ∀ (j a : Nat) (st' : St) (m : Int × Bool) (ρ : Loc) (μ : Mem), st'.sps = st.sps → H ds st' μ → Keep st.L μ0 μ → st.sps[j]? = some a → st'.spv[j]? = some m → Go (turn (.ref a) (fr ++ ρ) μ) fun q μ' => ∃ ρ', q = (none, fr ++ ρ') ∧ H ds { st' with spv := st'.spv.set j (f m) } μ' ∧ Keep st'.L μ μ') :
    Go (eachM 166 (st.sps.map .ref) turn (st.sps.map .ref) fr μ0) fun q μ' => ∃ ρ, q = (none, fr ++ ρ) ∧ H ds { st with spv := st.spv.map f } μ' ∧ Keep st.L μ0 μ' := by
  refine go_mono (each_go (a := 166) (all := st.sps.map .ref) (turn := turn) (fun r s μ => ∃ j ρ, j ≤ st.sps.length ∧ r = (st.sps.drop j).map .ref ∧ s = fr ++ ρ ∧ H ds { st with spv := (st.spv.take j).map f ++ st.spv.drop j } μ ∧ Keep st.L μ0 μ) ?_ ?_ _ _ _ ⟨0, [], Nat.zero_le _, by simp, by simp, by simpa using h0, Keep.refl _ _⟩) ?_
  · rintro r s μ ⟨j, ρ, hj, rfl, rfl, h, k⟩
    exact h.sps
  · rintro v r s μ ⟨j, ρ, hj, hr, rfl, h, k⟩
    have hlt : j < st.sps.length := by
      rcases Nat.lt_or_ge j st.sps.length with z | z
      · exact z
      · rw [List.drop_eq_nil_of_le z] at hr; cases hr
    rw [List.drop_eq_getElem_cons hlt, List.map_cons] at hr
    injection hr with hv hr
    subst hv
    have hml : j < st.spv.length := by rw [← h0.ls]; exact hlt
    have hm := List.getElem?_eq_getElem hml
    refine go_mono (hT j _ { st with spv := (st.spv.take j).map f ++ st.spv.drop j } (st.spv[j]) ρ μ rfl h k (List.getElem?_eq_getElem hlt) (by dsimp only; rw [take_get hml, hm])) fun q μ' ⟨ρ', hq, h', k'⟩ => ⟨_, hq, j + 1, ρ', hlt, hr, rfl, ?_, k.trans k'⟩
    dsimp only at h'
    rw [take_set hm] at h'
    exact h'
  · rintro q μ' ⟨s, hq, j, ρ, hj, hr, rfl, h, k⟩
    have e : j = st.sps.length := by
      rcases Nat.lt_or_ge j st.sps.length with z | z
      · rw [List.drop_eq_getElem_cons z] at hr; cases hr
      · omega
    subst e
    rw [h0.ls, List.take_length, List.drop_length, List.append_nil] at h
    exact ⟨_, hq, h, k⟩
theorem sp0 {a : Nat} {p : Int × Bool} (hm : μ[a]? = some (spO p)) (K : V → Mx α) : bnd (itemM (.ref a) (.int 0)) K μ = K (.int p.1) μ := item_bnd hm (by decide) rfl K
theorem sp1 {a : Nat} {p : Int × Bool} (hm : μ[a]? = some (spO p)) (K : V → Mx α) : bnd (itemM (.ref a) (.int 1)) K μ = K (.bool p.2) μ := item_bnd hm (by decide) rfl K
theorem e1292 {C : CallT} {a0 a1 a2 : V} {ρ : Loc} : (kSs C (fnOf 1292).names ((fnOf 1292).body.drop 3) (("own", a0) :: ("signs", a1) :: ("at", a2) :: ρ : Loc) fun r => ret (r.1.getD .none)) = bnd (itemM a0 (V.str "high")) fun x1 => bnd (callB "len" [a1]) fun x2 => bnd (binM .Add x1 x2) fun x3 => bnd (putItemM a0 (V.str "high") x3) fun _ => bnd (callB "len" [a1]) fun x4 => bnd (binM .Add a2 x4) fun x5 => bnd (putItemM a0 (V.str "point") x5) fun _ => bnd (newM (.list [V.str "nil"])) fun x6 => ret x6 := by kernel_rfl
theorem e1299 {C : CallT} {a0 a1 a2 : V} {ρ : Loc} : (kSs C (fnOf 1299).names ((fnOf 1299).body.drop 2) (("own", a0) :: ("low", a1) :: ("high", a2) :: ρ : Loc) fun r => ret (r.1.getD .none)) = bnd (itemM a0 (V.str "high")) fun x1 => bnd (binM .Sub a2 a1) fun x2 => bnd (binM .Sub x1 x2) fun x3 => bnd (putItemM a0 (V.str "high") x3) fun _ => bnd (itemM a0 (V.str "point")) fun x4 => bnd (cmpM .Gt x4 a1) fun c5 => if c5 then bnd (itemM a0 (V.str "point")) fun x6 => bnd (binM .Sub a2 a1) fun x7 => bnd (binM .Sub x6 x7) fun x8 => bnd (callB "max" [a1, x8]) fun x9 => bnd (putItemM a0 (V.str "point") x9) fun _ => ret V.none else ret V.none := by kernel_rfl
/-- _law_put: the own text and the spots -/
theorem g1292 (H0 : HG ds st t μ) (n : Nat) {w : List Int} {c : Nat} (hc : μ[c]? = some (il w)) (fc : Free st.L c) (p1 : 1 ≤ st.op) (p2 : st.op ≤ st.txt.length + 1) (ht : st.txt.length + w.length ≤ 300) : Go (callN (n + 1) (.top 1292) [.ref 167, .ref c] μ) fun v μ' => ∃ a x, v = .ref a ∧ TdAt st.L μ' a .nil ∧ HG ds { st with txa := x, txt := insT st.txt w st.op, spv := st.spv.map (insM st.op w.length), oh := st.oh + w.length, op := st.op + w.length } t μ' ∧ Keep st.L μ μ' := by
  obtain ⟨cs, gs, ge, t1, t2, h, g⟩ := H0
  rw [callF (by kernel_rfl), s1292]
  simp only [R h, P]
  refine slice_n h h.tx (by dsimp only; omega) (by omega) (by omega) fun x1 μ1 h1 k1 l1 f1 m1 => ?_
  refine add_go h1 m1 (k1.get _ _ fc hc) (by simp; omega) fun x2 μ2 h2 k2 l2 f2 m2 => ?_
  simp only [R h2, P]
  refine slice_i h2 h2.tx (by dsimp only; omega) (by omega) (by omega) fun x3 μ3 h3 k3 l3 f3 m3 => ?_
  refine add_go h3 (k3.get _ _ f2 m2) m3 (by simp; omega) fun x4 μ4 h4 k4 l4 f4 m4 => ?_
  refine st_tx h4 m4 f4 fun μ5 h5 k5 => ?_
  simp only [R h5]
  rw [listOf_bnd h5.sps]
  have k05 := ((((k1.trans k2).trans k3).trans k4).trans k5)
  have hc5 := k05.get _ _ fc hc
  refine go_bnd (spot_loop (f := insM st.op w.length) (fr := [("own", .ref 167), ("signs", .ref c), ("at", .int st.op)]) h5 ?_) fun q μ6 ⟨ρ, hq, h6, k6⟩ => ?_
  · intro j a st' m ρ μ7 hs h7 k7 hj hm
    show Go (forTurn (callN n) (fnOf 1292).names (stOf 1292 2) (.ref a) (("own", .ref 167) :: ("signs", .ref c) :: ("at", .int st.op) :: ρ : Loc) μ7) _
    rw [t1292]
    have hj' : st'.sps[j]? = some a := by rw [hs]; exact hj
    have hM := h7.spt hj' hm
    have hc7 := k7.get _ _ fc hc5
    simp only [bnd_assoc, bnd_ite, X, P, look, sp0 hM, sp1 hM, len_bnd hc7, ite_ap, ↓reduceIte, decide_eq_true_eq, gt_iff_lt, Bool.false_eq_true]
    have go1 : Go ((bnd (putItemM (.ref a) (.int 0) (.int (m.1 + w.length))) fun _ => ret ((none : Option V), (("own", .ref 167) :: ("signs", .ref c) :: ("at", .int st.op) :: setL "spot" (.ref a) ρ : Loc))) μ7) fun q μ' => ∃ ρ', q = (none, (("own", .ref 167) :: ("signs", .ref c) :: ("at", .int st.op) :: ρ' : Loc)) ∧ H ds { st' with spv := st'.spv.set j (m.1 + w.length, m.2) } μ' ∧ Keep st'.L μ7 μ' :=
      st_spot h7 hj' hm fun μ2 h2 k2 => go_ret ⟨_, rfl, h2, k2⟩
    have go2 : Go (ret ((none : Option V), (("own", .ref 167) :: ("signs", .ref c) :: ("at", .int st.op) :: setL "spot" (.ref a) ρ : Loc)) μ7) fun q μ' => ∃ ρ', q = (none, (("own", .ref 167) :: ("signs", .ref c) :: ("at", .int st.op) :: ρ' : Loc)) ∧ H ds { st' with spv := st'.spv.set j m } μ' ∧ Keep st'.L μ7 μ' := by
      refine go_ret ⟨_, rfl, ?_, Keep.refl _ _⟩
      have e : st'.spv.set j m = st'.spv := by
        obtain ⟨hlt, he⟩ := List.getElem?_eq_some_iff.mp hm
        rw [← he, List.set_getElem_self]
      rw [e]; exact h7
    unfold insM
    by_cases z : st.op < m.1
    · rw [if_pos z, if_pos (.inl z)]; exact go1
    · rw [if_neg z]
      by_cases y : m.1 = st.op
      · rw [if_pos y]
        by_cases y2 : m.2 = true
        · rw [if_pos y2, if_pos (.inr ⟨y, y2⟩)]; exact go1
        · rw [if_neg y2, if_neg (by rintro (q | q); exact z q; exact y2 q.2)]; exact go2
      · rw [if_neg y, if_neg (by rintro (q | q); exact z q; exact y q.1)]; exact go2
  · subst hq
    have hc6 := k6.get _ _ fc hc5
    rw [seq_none]
    refine go_eq (congrFun e1292 μ6) ?_
    simp only [R h6, P, len_bnd hc6]
    refine st_oh h6 fun μ7 h7 k7 => ?_
    have hc7 := k7.get _ _ fc hc6
    simp only [P, len_bnd hc7]
    refine st_op h7 fun μ8 h8 k8 => ?_
    refine st_new h8 (by rfl) fun a μ9 h9 k9 l9 f9 m9 => go_ret ⟨a, x4, rfl, ⟨m9, f9⟩, ⟨cs, gs, ge, t1, t2, h9, g.re rfl rfl rfl⟩, (((k05.trans k6).trans k7).trans k8).trans k9⟩
/-- _law_cut -/
theorem g1299 (H0 : HG ds st t μ) (n : Nat) {s e : Int} (p1 : 1 ≤ s) (p2 : s ≤ e) (p3 : e ≤ st.txt.length + 1) (ht : st.txt.length ≤ 300) : Go (callN (n + 1) (.top 1299) [.ref 167, .int s, .int e] μ) fun _ μ' => ∃ x, HG ds { st with txa := x, txt := delT st.txt s e, spv := st.spv.map (delM s e), oh := st.oh - (e - s), op := if s < st.op then mx s (st.op - (e - s)) else st.op } t μ' ∧ Keep st.L μ μ' := by
  obtain ⟨cs, gs, ge, t1, t2, h, g⟩ := H0
  rw [callF (by kernel_rfl), s1299]
  simp only [R h, P]
  refine slice_n h h.tx (by dsimp only; omega) (by omega) (by omega) fun x1 μ1 h1 k1 l1 f1 m1 => ?_
  simp only [R h1, P]
  refine slice_i h1 h1.tx (by dsimp only; omega) (by omega) (by omega) fun x3 μ3 h3 k3 l3 f3 m3 => ?_
  refine add_go h3 (k3.get _ _ f1 m1) m3 (by simp; omega) fun x4 μ4 h4 k4 l4 f4 m4 => ?_
  refine st_tx h4 m4 f4 fun μ5 h5 k5 => ?_
  simp only [R h5]
  rw [listOf_bnd h5.sps]
  have k05 := (((k1.trans k3).trans k4).trans k5)
  refine go_bnd (spot_loop (f := delM s e) (fr := [("own", .ref 167), ("low", .int s), ("high", .int e)]) h5 ?_) fun q μ6 ⟨ρ, hq, h6, k6⟩ => ?_
  · intro j a st' m ρ μ7 hs h7 k7 hj hm
    show Go (forTurn (callN n) (fnOf 1299).names (stOf 1299 1) (.ref a) (("own", .ref 167) :: ("low", .int s) :: ("high", .int e) :: ρ : Loc) μ7) _
    rw [t1299]
    have hj' : st'.sps[j]? = some a := by rw [hs]; exact hj
    have hM := h7.spt hj' hm
    simp only [bnd_assoc, bnd_ite, X, P, look, sp0 hM, sp1 hM, ite_ap, ↓reduceIte, decide_eq_true_eq, gt_iff_lt, Bool.false_eq_true]
    unfold delM
    by_cases z : s < m.1
    · rw [if_pos z, if_pos z]
      exact st_spot h7 hj' hm fun μ2 h2 k2 => go_ret ⟨_, rfl, h2, k2⟩
    · rw [if_neg z, if_neg z]
      refine go_ret ⟨_, rfl, ?_, Keep.refl _ _⟩
      have e : st'.spv.set j m = st'.spv := by
        obtain ⟨hlt, he⟩ := List.getElem?_eq_some_iff.mp hm
        rw [← he, List.set_getElem_self]
      rw [e]; exact h7
  · subst hq
    rw [seq_none]
    refine go_eq (congrFun e1299 μ6) ?_
    simp only [R h6, P]
    refine st_oh h6 fun μ7 h7 k7 => ?_
    simp only [R h7, P, ite_ap, decide_eq_true_eq, gt_iff_lt]
    by_cases z : s < st.op
    · rw [if_pos z]
      refine st_op h7 fun μ8 h8 k8 => go_ret ⟨x4, ⟨cs, gs, ge, t1, t2, ?_, g.re rfl rfl rfl⟩, ((k05.trans k6).trans k7).trans k8⟩
      rw [if_pos z]; exact h8
    · rw [if_neg z]
      refine go_ret ⟨x4, ⟨cs, gs, ge, t1, t2, ?_, g.re rfl rfl rfl⟩, (k05.trans k6).trans k7⟩
      rw [if_neg z]; exact h7
/-! _law_told -/
theorem told_ok (n : Nat) {f : Addr} {nm : Str} {r : V} {R' : V → Mem → Prop} {Q : V → Mem → Prop} (hd : ∀ (α : Type) (K : V → Mx α), bnd (itemM (.ref 164) (.str nm)) K μ = K (.top f) μ) (hc : mayCall (.top f) = true) (e : Go (callN n (.top f) [.ref 4, r] μ) R')
    (k : ∀ v μ', R' v μ' → Go ((kSs (callN n) (fnOf 1271).names ((fnOf 1271).body.drop 1) [("deeds", .ref 164), ("name", .str nm), ("world", .ref 4), ("args", r), ("value", v)] fun r => ret (r.1.getD .none)) μ') Q) : Go (callN (n + 1) (.top 1271) [.ref 164, .str nm, .ref 4, r] μ) Q := by
  obtain ⟨v, μ', e, rr⟩ := e
  rw [callF (by kernel_rfl), s1271]
  have z : exSs (callN n) (fnOf 1271).names (tryBody (stOf 1271 0)) [("deeds", .ref 164), ("name", .str nm), ("world", .ref 4), ("args", r)] μ = some (.ok (none, [("deeds", .ref 164), ("name", .str nm), ("world", .ref 4), ("args", r), ("value", v)]), μ') := by
    rw [u1271, hd]
    rw [if_pos hc]
    exact (bnd_val (f := callN n (.top f) [.ref 4, r]) e).trans rfl
  unfold tryK
  rw [z]
  exact k v μ' rr
theorem told_ex (n : Nat) {f : Addr} {nm s : Str} {r : V} {R' : Mem → Prop} {Q : V → Mem → Prop} (hd : ∀ (α : Type) (K : V → Mx α), bnd (itemM (.ref 164) (.str nm)) K μ = K (.top f) μ) (hc : mayCall (.top f) = true) (e : Ex (callN n (.top f) [.ref 4, r] μ) (.str s) R')
    (k : ∀ μ', R' μ' → Go (bnd (newM (.list [.str "refused", .str s])) ret μ') Q) : Go (callN (n + 1) (.top 1271) [.ref 164, .str nm, .ref 4, r] μ) Q := by
  obtain ⟨d, μ', e, rr⟩ := e
  rw [callF (by kernel_rfl), s1271]
  have z : exSs (callN n) (fnOf 1271).names (tryBody (stOf 1271 0)) [("deeds", .ref 164), ("name", .str nm), ("world", .ref 4), ("args", r)] μ = some (.exc (.str s) d, μ') := by
    rw [u1271, hd]
    rw [if_pos hc]
    show bnd (callN n (.top f) [.ref 4, r]) _ μ = _
    unfold bnd
    rw [e]
  unfold tryK
  rw [z]
  exact k μ' rr
/-- what is told of a deed that gives nil -/
theorem tail_nil (H0 : HG ds st t μ) {C : CallT} {nm r : V} {Q : V → Mem → Prop} (k : ∀ a μ', TdAt st.L μ' a .nil → HG ds st t μ' → Keep st.L μ μ' → Q (.ref a) μ') : Go ((kSs C (fnOf 1271).names ((fnOf 1271).body.drop 1) [("deeds", .ref 164), ("name", nm), ("world", .ref 4), ("args", r), ("value", .top 135)] fun r => ret (r.1.getD .none)) μ) Q := by
  rw [r1271]
  simp only [bnd_assoc, bnd_ite, X, P, ↓reduceIte, Bool.false_eq_true]
  refine sg_new H0 (by rfl) fun a μ1 h1 k1 l1 f1 m1 => ?_
  simp only [P]
  exact go_ret (k a μ1 ⟨m1, f1⟩ h1 k1)
theorem tail_int (H0 : HG ds st t μ) {C : CallT} {nm r : V} {i : Int} {Q : V → Mem → Prop} (k : ∀ a μ', TdAt st.L μ' a (.told i) → HG ds st t μ' → Keep st.L μ μ' → Q (.ref a) μ') : Go ((kSs C (fnOf 1271).names ((fnOf 1271).body.drop 1) [("deeds", .ref 164), ("name", nm), ("world", .ref 4), ("args", r), ("value", .int i)] fun r => ret (r.1.getD .none)) μ) Q := by
  rw [r1271]
  simp only [bnd_assoc, bnd_ite, X, P, ↓reduceIte, Bool.false_eq_true]
  refine sg_new H0 (by rfl) fun a μ1 h1 k1 l1 f1 m1 => ?_
  simp only [P]
  exact go_ret (k a μ1 ⟨m1, f1⟩ h1 k1)
theorem tail_tx {μ0 : Mem} {l : List Int} {v : V} (h : TxAt ds st t μ0 l v μ) {C : CallT} {nm r : V} {Q : V → Mem → Prop} (k : ∀ a μ', TdAt st.L μ' a (.text l) → HG ds st t μ' → Keep st.L μ0 μ' → Q (.ref a) μ') : Go ((kSs C (fnOf 1271).names ((fnOf 1271).body.drop 1) [("deeds", .ref 164), ("name", nm), ("world", .ref 4), ("args", r), ("value", v)] fun r => ret (r.1.getD .none)) μ) Q := by
  obtain ⟨x, c, hv, m1, m2, f1, f2, h1, k1⟩ := h
  subst hv
  rw [r1271]
  simp only [bnd_assoc, bnd_ite, X, isT m1, P, ↓reduceIte, tx_codes m1]
  refine sg_new h1 (by rfl) fun a μ3 h3 k3 l3 f3 m3 => go_ret (k a μ3 ⟨c, m3, f3, k3.get _ _ f2 m2, f2⟩ h3 (k1.trans k3))
theorem tail_ref (H0 : HG ds st t μ) {s : Str} (hs : PyData.strOk s = true) {Q : V → Mem → Prop} (k : ∀ a μ', TdAt st.L μ' a (.refused s) → HG ds st t μ' → Keep st.L μ μ' → Q (.ref a) μ') : Go (bnd (newM (.list [.str "refused", .str s])) ret μ) Q :=
  sg_new H0 (by rfl) fun a μ1 h1 k1 l1 f1 m1 => go_ret (k a μ1 ⟨m1, f1, hs⟩ h1 k1)
end
/-! ## Markers made and put -/
theorem kindKey_rows : ∀ (i : Int) (ths : List Nat) (k : Int), kindKey (.int k) (rowsL i ths) = true
  | i, [], k => rfl
  | i, a :: r, k => rfl
theorem rows_add : ∀ (i : Int) (ths : List Nat) (a : Nat), setD (.int (i + ths.length)) (.ref a) (rowsL i ths) = rowsL i (ths ++ [a])
  | i, [], a => by simp [rowsL, setD]
  | i, b :: r, a => by
    have e := rows_add (i + 1) r a
    rw [List.cons_append, rowsL, rowsL, setD, if_neg (by intro e; injection e with e; simp at e; omega), ← e]
    congr 2
    simp; omega
theorem rows_same : ∀ (i : Int) (ths : List Nat) (j a : Nat), ths[j]? = some a → setD (.int (i + j)) (.ref a) (rowsL i ths) = rowsL i ths
  | i, [], j, a, h => by cases h
  | i, b :: r, 0, a, h => by
    simp only [List.getElem?_cons_zero, Option.some.injEq] at h
    subst h
    rw [rowsL, setD, if_pos (by simp)]
  | i, b :: r, j + 1, a, h => by
    rw [List.getElem?_cons_succ] at h
    have e := rows_same (i + 1) r j a h
    rw [rowsL, setD, if_neg (by intro e; injection e with e; omega)]
    rw [show i + ((j + 1 : Nat) : Int) = i + 1 + j from by push_cast; omega, e]
theorem rows_len : ∀ (i : Int) (ths : List Nat), (rowsL i ths).length = ths.length
  | i, [] => rfl
  | i, a :: r => by rw [rowsL, List.length_cons, rows_len]; rfl
theorem mkL_add : ∀ {i : Int} {ths : List Nat} {mks : List (Int × Bool)} {a : Nat} {p : Int × Bool}, ths.length = mks.length → ∀ q ∈ mkL i (ths ++ [a]) (mks ++ [p]), q = (a, mkO (i + ths.length) p) ∨ q ∈ mkL i ths mks
  | i, [], [], a, p, _, q, hq => by
    simp only [List.nil_append, mkL, List.mem_cons, List.not_mem_nil, or_false] at hq
    left; simpa using hq
  | i, b :: r, m :: ms, a, p, h, q, hq => by
    simp only [List.cons_append, mkL, List.mem_cons] at hq
    rcases hq with rfl | hq
    · right; rw [mkL]; exact .head _
    · rcases mkL_add (by simpa using h) q hq with e | e
      · left
        rw [e, show i + 1 + (r.length : Int) = i + ((b :: r).length : Int) from by simp; omega]
      · right; rw [mkL]; exact .tail _ e
  | i, [], _ :: _, a, p, h, q, hq => by cases h
  | i, _ :: _, [], a, p, h, q, hq => by cases h
theorem spL_add : ∀ {ths : List Nat} {mks : List (Int × Bool)} {a : Nat} {p : Int × Bool}, ths.length = mks.length → ∀ q ∈ spL (ths ++ [a]) (mks ++ [p]), q = (a, spO p) ∨ q ∈ spL ths mks
  | [], [], a, p, _, q, hq => by
    simp only [List.nil_append, spL, List.mem_cons, List.not_mem_nil, or_false] at hq
    left; exact hq
  | b :: r, m :: ms, a, p, h, q, hq => by
    simp only [List.cons_append, spL, List.mem_cons] at hq
    rcases hq with rfl | hq
    · right; rw [spL]; exact .head _
    · rcases spL_add (by simpa using h) q hq with e | e
      · left; exact e
      · right; rw [spL]; exact .tail _ e
  | [], _ :: _, a, p, h, q, hq => by cases h
  | _ :: _, [], a, p, h, q, hq => by cases h
section
variable {α β : Type} {ds : List Int} {st : St} {t : List Int} {μ μ' : Mem}
/-- the rows take a new marker -/
theorem H.addM (h : H ds st μ) {a : Nat} {p : Int × Bool} (hm : μ[a]? = some (mkO (1 + st.ths.length) p)) (fa : Free st.L a) (ht : a ≠ st.txa) : H ds { st with ths := st.ths ++ [a], mks := st.mks ++ [p] } (μ.set 27 (.dict (rowsL 1 (st.ths ++ [a])))) := by
  have hlt := (List.getElem?_eq_some_iff.mp hm).1
  have n1 : a ∉ st.ths := fun q => fa.2 (List.mem_append_left _ q)
  have n2 : a ∉ st.sps := fun q => fa.2 (List.mem_append_right _ q)
  refine ⟨h.fix.set (by have := h.len; omega) fun q hq => ?_, fun q hq => ?_, h.sp.setNe fun q hq e => ?_, ?_, by simp [h.lm], h.ls, h.bigT, ?_, by simpa using h.bigS, ?_, ?_⟩
  · simp only [fixL, List.mem_cons, List.not_mem_nil, or_false] at hq ⊢
    rcases hq with rfl | rfl | rfl | rfl | rfl | rfl | rfl | rfl | rfl | rfl | rfl | rfl | rfl <;> first | exact .inl rfl | (right; refine ⟨?_, by simp⟩; simp [wF, bF, gF, oF])
  · rcases mkL_add h.lm q hq with e | e
    · subst e
      show (μ.set 27 _)[a]? = _
      rw [List.getElem?_set_ne (by have := fa.1; omega)]; exact hm
    · have := (h.bigM _ (mkL_mem e)).1
      rw [List.getElem?_set_ne (by omega)]; exact h.mrk q e
  · have := (h.bigS _ (spL_mem hq)).1; omega
  · show (μ.set 27 _)[st.txa]? = _
    rw [List.getElem?_set_ne (by have := h.bigT; omega)]; exact h.tx
  · intro x hx
    rcases List.mem_append.mp hx with z | z
    · simpa using h.bigM x z
    · simp only [List.mem_singleton] at z; subst z
      exact ⟨fa.1, by simpa using hlt⟩
  · show ((st.ths ++ [a]) ++ st.sps).Nodup
    have := h.nd
    simp only [List.nodup_append, List.mem_append, List.mem_singleton, List.nodup_cons, List.not_mem_nil, List.nodup_nil, not_false_eq_true, true_and, and_true] at this ⊢
    refine ⟨⟨this.1, fun x hx y hy => ?_⟩, this.2.1, fun x hx y hy => ?_⟩
    · subst hy; exact fun e => n1 (e ▸ hx)
    · rcases hx with hx | rfl
      · exact this.2.2 x hx y hy
      · exact fun e => n2 (e ▸ hy)
  · show st.txa ∉ (st.ths ++ [a]) ++ st.sps
    intro q
    rcases List.mem_append.mp q with q | q
    · rcases List.mem_append.mp q with q | q
      · exact h.tn (List.mem_append_left _ q)
      · simp only [List.mem_singleton] at q; exact ht q.symm
    · exact h.tn (List.mem_append_right _ q)
/-- the spots take a new one -/
theorem H.addS (h : H ds st μ) {a : Nat} {p : Int × Bool} (hm : μ[a]? = some (spO p)) (fa : Free st.L a) (ht : a ≠ st.txa) : H ds { st with sps := st.sps ++ [a], spv := st.spv ++ [p] } (μ.set 166 (.list ((st.sps ++ [a]).map .ref))) := by
  have hlt := (List.getElem?_eq_some_iff.mp hm).1
  have n1 : a ∉ st.ths := fun q => fa.2 (List.mem_append_left _ q)
  have n2 : a ∉ st.sps := fun q => fa.2 (List.mem_append_right _ q)
  refine ⟨h.fix.set (by have := h.len; omega) fun q hq => ?_, h.mrk.setNe fun q hq e => ?_, fun q hq => ?_, ?_, h.lm, by simp [h.ls], h.bigT, by simpa using h.bigM, ?_, ?_, ?_⟩
  · simp only [fixL, List.mem_cons, List.not_mem_nil, or_false] at hq ⊢
    rcases hq with rfl | rfl | rfl | rfl | rfl | rfl | rfl | rfl | rfl | rfl | rfl | rfl | rfl <;> first | exact .inl rfl | (right; refine ⟨?_, by simp⟩; simp [wF, bF, gF, oF])
  · have := (h.bigM _ (mkL_mem hq)).1; omega
  · rcases spL_add h.ls q hq with e | e
    · subst e
      show (μ.set 166 _)[a]? = _
      rw [List.getElem?_set_ne (by have := fa.1; omega)]; exact hm
    · have := (h.bigS _ (spL_mem e)).1
      rw [List.getElem?_set_ne (by omega)]; exact h.sp q e
  · show (μ.set 166 _)[st.txa]? = _
    rw [List.getElem?_set_ne (by have := h.bigT; omega)]; exact h.tx
  · intro x hx
    rcases List.mem_append.mp hx with z | z
    · simpa using h.bigS x z
    · simp only [List.mem_singleton] at z; subst z
      exact ⟨fa.1, by simpa using hlt⟩
  · show (st.ths ++ (st.sps ++ [a])).Nodup
    have := h.nd
    simp only [List.nodup_append, List.mem_append, List.mem_singleton, List.nodup_cons, List.not_mem_nil, List.nodup_nil, not_false_eq_true, true_and, and_true] at this ⊢
    refine ⟨this.1, ⟨this.2.1, fun x hx y hy => ?_⟩, fun x hx y hy => ?_⟩
    · subst hy; exact fun e => n2 (e ▸ hx)
    · rcases hy with hy | rfl
      · exact this.2.2 x hx y hy
      · exact fun e => n1 (e ▸ hx)
  · show st.txa ∉ st.ths ++ (st.sps ++ [a])
    intro q
    rcases List.mem_append.mp q with q | q
    · exact h.tn (List.mem_append_left _ q)
    · rcases List.mem_append.mp q with q | q
      · exact h.tn (List.mem_append_right _ q)
      · simp only [List.mem_singleton] at q; exact ht q.symm
theorem H.thg (h : H ds st μ) : μ[17]? = some (.list (st.thl.map .ref)) := h.at (by unfold fixL; simp)
theorem H.rws (h : H ds st μ) : μ[27]? = some (.dict (rowsL 1 st.ths)) := h.at (by unfold fixL; simp)
theorem st_thl {a : Nat} {K : V → Mx β} {Q : β → Mem → Prop} (h : H ds st μ) (hl : st.thl.length ≤ 500) (k : ∀ μ', H ds { st with thl := st.thl ++ [a] } μ' → Keep st.L μ μ' → Go (K .none μ') Q) : Go (bnd (callB "list.append" [.ref 17, .ref a]) K μ) Q := by
  have e : st.thl.map V.ref ++ [.ref a] = (st.thl ++ [a]).map V.ref := by simp
  rw [app_bnd (by decide) h.thg (by unfold szOk big; simp; omega), e]
  refine k _ (h.setF (by omega) (fun q hq => ?_) rfl (h.pos (by omega))) (Keep.setF (by omega))
  simp only [fixL, List.mem_cons, List.not_mem_nil, or_false] at hq ⊢
  rcases hq with rfl | rfl | rfl | rfl | rfl | rfl | rfl | rfl | rfl | rfl | rfl | rfl | rfl <;> first | exact .inl rfl | (right; refine ⟨?_, by simp⟩; simp [wF, bF, gF, oF])
theorem st_addS {a : Nat} {p : Int × Bool} {K : V → Mx β} {Q : β → Mem → Prop} (h : H ds st μ) (hm : μ[a]? = some (spO p)) (fa : Free st.L a) (ht : a ≠ st.txa) (hl : st.sps.length ≤ 500) (k : ∀ μ', H ds { st with sps := st.sps ++ [a], spv := st.spv ++ [p] } μ' → Go (K .none μ') Q) : Go (bnd (callB "list.append" [.ref 166, .ref a]) K μ) Q := by
  have e : st.sps.map V.ref ++ [.ref a] = (st.sps ++ [a]).map V.ref := by simp
  rw [app_bnd (by decide) h.sps (by unfold szOk big; simp; omega), e]
  exact k _ (h.addS hm fa ht)
theorem g1243 (h : H ds st μ) (n : Nat) : Go (callN (n + 1) (.top 1243) [.ref 4] μ) fun v μ' => v = .int (st.lm + 1) ∧ H ds { st with lm := st.lm + 1 } μ' ∧ Keep st.L μ μ' := by
  rw [callF (by kernel_rfl), s1243]
  simp only [R h, P]
  refine st_lm h fun μ1 h1 k1 => ?_
  simp only [R h1, P]
  exact go_ret ⟨rfl, h1, k1⟩
def mkN (i : Int) (b : Bool) : MO := .inst 290 [("number", .int i), ("advances", .bool b), ("buffer", .none), ("position", .int 0)]
theorem g290 (h : H ds st μ) (n : Nat) (i : Int) (b : Bool) : Go (callN (n + 2) (.top 290) [.int i, .bool b] μ) fun v μ' => ∃ a, v = .ref a ∧ H ds st μ' ∧ Keep st.L μ μ' ∧ μ.length ≤ a ∧ Free st.L a ∧ μ'[a]? = some (mkN i b) := by
  rw [callC (by kernel_rfl) (by decide) (i := 266) (by kernel_rfl)]
  refine st_new h (by rfl) fun a μ1 h1 k1 l1 f1 m1 => ?_
  rw [callF (by kernel_rfl), s266]
  simp only [bnd_assoc]
  refine st_fresh h1 k1 f1 l1 h.txLt m1 (by kernel_rfl) (by kernel_rfl) fun μ2 h2 k2 m2 => ?_
  refine st_fresh h2 k2 f1 l1 h.txLt m2 (by kernel_rfl) (by kernel_rfl) fun μ3 h3 k3 m3 => ?_
  refine st_fresh h3 k3 f1 l1 h.txLt m3 (by kernel_rfl) (by kernel_rfl) fun μ4 h4 k4 m4 => ?_
  refine st_fresh h4 k4 f1 l1 h.txLt m4 (by kernel_rfl) (by kernel_rfl) fun μ5 h5 k5 m5 => ?_
  simp only [P]
  exact go_ret ⟨a, rfl, h5, k5, l1, f1, m5⟩
theorem mkN_buf {a : Nat} {i : Int} {b : Bool} (hm : μ[a]? = some (mkN i b)) (K : V → Mx α) : bnd (attrM (.ref a) "buffer") K μ = K .none μ := attr_bnd hm (by kernel_rfl) (by kernel_rfl) (by kernel_rfl) K
theorem is_self {a : Nat} (K : Bool → Mx α) : bnd (cmpM .Is (.ref a) (.ref a)) K μ = K true μ := by
  refine bnd_val ?_
  show (if a = a then ret true else _) μ = _
  rw [if_pos rfl]; rfl
theorem isnot_self {a : Nat} (K : Bool → Mx α) : bnd (cmpM .IsNot (.ref a) (.ref a)) K μ = K false μ := by
  show bnd (bnd (cmpM .Is (.ref a) (.ref a)) fun r => ret (!r)) K μ = _
  rw [bnd_assoc, is_self]; rfl
theorem isMk {a : Nat} {i : Int} {p : Int × Bool} (hm : μ[a]? = some (mkO i p)) (K : V → Mx α) : bnd (callB "isinstance" [.ref a, .top 290]) K μ = K (.bool true) μ := by
  refine bnd_val ?_
  show bnd (bnd (getM a) _) _ μ = _
  rw [bnd_assoc]
  exact (bnd_val (a := mkO i p) (μ' := μ) (by unfold getM; rw [hm]; rfl)).trans (by kernel_rfl)
theorem st_fr {a : Nat} {C : Addr} {fs : Loc} {x : Str} {v : V} {K : Unit → Mx β} {Q : β → Mem → Prop} (h : H ds st μ) (fa : Free st.L a) (ht : a ≠ st.txa) (hm : μ[a]? = some (.inst C fs)) (hk : (fieldsT C).contains x = true) (hz : szOk (.inst C (setL x v fs)) = true)
    (k : ∀ μ', H ds st μ' → μ'[a]? = some (.inst C (setL x v fs)) → Go (K () μ') Q) : Go (bnd (putAttrM (.ref a) x v) K μ) Q := by
  rw [putA_bnd (by have := fa.1; omega) hm hk hz]
  refine k _ (h.setFree fa ht) ?_
  have := (List.getElem?_eq_some_iff.mp hm).1
  simp [this]
theorem szD {es : List (V × V)} (h : es.length ≤ 1000) : szOk (.dict es) = true := by unfold szOk big; simp only [decide_eq_true_eq]; exact h
/-- a new marker is put to the rows -/
theorem g320n (h : H ds st μ) (n : Nat) {a : Nat} {b : Bool} {x : Int} (hm : μ[a]? = some (mkO (1 + st.ths.length) (0, b))) (fa : Free st.L a) (ht : a ≠ st.txa) (hn : st.ths.length < 64) : Go (callN (n + 1) (.top 320) [.ref 26, .ref a, .int x] μ) fun _ μ' => H ds { st with ths := st.ths ++ [a], mks := st.mks ++ [(x, b)] } μ' := by
  rw [callF (by kernel_rfl), s320]
  simp only [R h, mk_num hm]
  rw [putD_bnd (by decide) h.rws (kindKey_rows _ _ _) (szD (by rw [rows_add, rows_len]; simp; omega)), rows_add]
  have h1 := h.addM hm fa ht
  have hj : (st.ths ++ [a])[st.ths.length]? = some a := by simp
  refine st_pos (j := st.ths.length) (p := (0, b)) h1 hj (by dsimp only; rw [h.lm]; simp) fun μ2 h2 k2 => go_ret ?_
  dsimp only at h2
  rw [show (st.mks ++ [((0 : Int), b)]).set st.ths.length (x, b) = st.mks ++ [(x, b)] from by rw [h.lm]; simp] at h2
  exact h2
/-- a marker that stands there is put -/
theorem g320s (h : H ds st μ) (n : Nat) {j a : Nat} {p : Int × Bool} {x : Int} (hj : st.ths[j]? = some a) (hp : st.mks[j]? = some p) (hn : st.ths.length < 64) : Go (callN (n + 1) (.top 320) [.ref 26, .ref a, .int x] μ) fun _ μ' => H ds { st with mks := st.mks.set j (x, p.2) } μ' ∧ Keep st.L μ μ' := by
  rw [callF (by kernel_rfl), s320]
  simp only [R h, mk_num (h.mkr hj hp)]
  rw [putD_bnd (by decide) h.rws (kindKey_rows _ _ _) (szD (by rw [rows_same _ _ _ _ hj, rows_len]; omega)), rows_same _ _ _ _ hj]
  have h1 : H ds st (μ.set 27 (.dict (rowsL 1 st.ths))) := h.setF (by omega) (fun q hq => by
    by_cases e : q.1 = 27
    · left
      obtain ⟨q1, q2⟩ := q
      dsimp only at e
      subst e
      have := h.fix _ hq
      rw [h.rws] at this
      injection this with this
      rw [this]
    · exact .inr ⟨hq, e⟩) rfl (h.pos (by omega))
  refine st_pos h1 hj hp fun μ2 h2 k2 => go_ret ⟨h2, (Keep.setF (by omega)).trans k2⟩
theorem mk_bufput {i : Int} {p : Int × Bool} : MO.inst 290 (setL "buffer" (.ref 19) [("number", .int i), ("advances", .bool p.2), ("buffer", .ref 19), ("position", .int p.1)]) = mkO i p := by kernel_rfl
/-- set_marker, of a new marker -/
theorem g599n (h : H ds st μ) (n : Nat) (g : GI st t) {a : Nat} {b : Bool} {p : Int} (hm : μ[a]? = some (mkN (1 + st.ths.length) b)) (fa : Free st.L a) (ht : a ≠ st.txa) (hn : st.ths.length < 64) : Go (callN (n + 3) (.top 599) [.ref a, .ref 19, .int p] μ) fun _ μ' => H ds { st with ths := st.ths ++ [a], mks := st.mks ++ [(clip p 1 (t.length + 1), b)] } μ' := by
  rw [callF (by kernel_rfl), s599]
  simp only [bnd_assoc, bnd_ite, X, mkN_buf hm, P, ↓reduceIte, Bool.false_eq_true]
  refine st_fr h fa ht hm (by kernel_rfl) (by kernel_rfl) fun μ1 h1 m1 => ?_
  have m1' : μ1[a]? = some (mkO (1 + st.ths.length) (0, b)) := m1.trans (by kernel_rfl)
  simp only [R h1, P, M, ↓reduceIte, Bool.false_eq_true, ite_ap, b412 h1 _ g]
  exact go_bnd (g320n h1 _ m1' fa ht hn) fun v μ2 h2 => go_ret h2
/-- set_marker, of a marker that stands there -/
theorem g599s (h : H ds st μ) (n : Nat) (g : GI st t) {j a : Nat} {m : Int × Bool} {p : Int} (hj : st.ths[j]? = some a) (hp : st.mks[j]? = some m) (hn : st.ths.length < 64) : Go (callN (n + 3) (.top 599) [.ref a, .ref 19, .int p] μ) fun _ μ' => H ds { st with mks := st.mks.set j (clip p 1 (t.length + 1), m.2) } μ' := by
  have hm := h.mkr hj hp
  have ha := List.mem_of_getElem? hj
  rw [callF (by kernel_rfl), s599]
  simp only [bnd_assoc, bnd_ite, X, mk_buf hm, isnot_self, P, ↓reduceIte, Bool.false_eq_true]
  rw [putA_bnd (by have := (h.bigM a ha).1; omega) hm (by kernel_rfl) (by kernel_rfl)]
  have e : μ.set a (.inst 290 (setL "buffer" (.ref 19) [("number", .int (1 + j)), ("advances", .bool m.2), ("buffer", .ref 19), ("position", .int m.1)])) = μ.set a (mkO (1 + j) m) := by rw [mk_bufput]
  rw [e]
  have h1 := h.setM (p := m) hj
  have es : st.mks.set j m = st.mks := by
    obtain ⟨hlt, he⟩ := List.getElem?_eq_some_iff.mp hp
    rw [← he, List.set_getElem_self]
  rw [es] at h1
  change H ds st _ at h1
  simp only [R h1, P, M, ↓reduceIte, Bool.false_eq_true, ite_ap, b412 h1 _ g]
  exact go_bnd (g320s h1 _ hj hp hn) fun v μ2 h2 => go_ret h2.1
/-- copy-marker -/
theorem d865 (H0 : HG ds st t μ) (n : Nat) {p : Int} {b : Bool} {r : Nat} (hr : μ[r]? = some (.list [.int p, if b = true then .top 138 else .top 135])) (fr : Free st.L r) (hl : st.lm = st.ths.length) (hn : st.ths.length < 63) : Go (callN (n + 4) (.top 865) [.ref 4, .ref r] μ) fun v μ' => ∃ a, v = .ref a ∧ HG ds { st with lm := st.lm + 1, ths := st.ths ++ [a], mks := st.mks ++ [(clip p 1 (t.length + 1), b)] } t μ' := by
  obtain ⟨cs, gs, ge, t1, t2, h, g⟩ := H0
  rw [callF (by kernel_rfl), s865]
  simp only [R h, M, ↓reduceIte]
  refine go_bnd (g1243 h _) fun v μ1 ⟨hv, h1, k1⟩ => ?_
  subst hv
  have hr1 := k1.get _ _ fr hr
  have e2 : decide (((0 + 1 + 1 : Nat) : Int) > 1) = true := by decide
  have e3 : ∀ (K : Bool → Mx V), bnd (cmpM .IsNot (if b = true then .top 138 else .top 135) (.top 135)) K μ1 = K b μ1 := by
    intro K; cases b <;> simp only [P, Bool.false_eq_true, ↓reduceIte]
  simp only [bnd_assoc, bnd_ite, X, P, len_list hr1, it1 hr1, List.length_cons, List.length_nil, e2, ↓reduceIte, e3]
  refine go_bnd (g290 h1 _ (st.lm + 1) b) fun v μ2 ⟨a, hv, h2, k2, l2, f2, m2⟩ => ?_
  subst hv
  have hr2 := k2.get _ _ fr hr1
  simp only [it0 hr2, P, ↓reduceIte, Bool.false_eq_true, b655 h2, b592]
  rw [show st.lm + 1 = 1 + (st.ths.length : Int) from by omega] at m2
  refine go_bnd (g599n h2 _ (t := t) (g.re rfl rfl rfl) m2 f2 (by have := h1.txLt; dsimp only at this ⊢; omega) (by dsimp only; omega)) fun v μ3 h3 => go_ret ⟨a, rfl, ⟨cs, gs, ge, t1, t2, h3, g.re rfl rfl rfl⟩⟩
/-- set-marker -/
theorem d872 (H0 : HG ds st t μ) (n : Nat) {j a : Nat} {m : Int × Bool} {p : Int} {r : Nat} (hj : st.ths[j]? = some a) (hp : st.mks[j]? = some m) (hr : μ[r]? = some (.list [.ref a, .int p])) (hn : st.ths.length < 64) : Go (callN (n + 4) (.top 872) [.ref 4, .ref r] μ) fun v μ' => v = .ref a ∧ HG ds { st with mks := st.mks.set j (clip p 1 (t.length + 1), m.2) } t μ' := by
  obtain ⟨cs, gs, ge, t1, t2, h, g⟩ := H0
  rw [callF (by kernel_rfl), s872]
  have hm := h.mkr (st := { st with cells := cs, gs := gs, ge := ge, t1 := t1, t2 := t2 }) hj hp
  have c669 : ∀ K : V → Mx V, bnd (callN (n + 3) (.top 669) [.ref a]) K μ = K (.ref a) μ := by
    intro K
    rw [callF (by kernel_rfl), s669]
    simp only [bnd_assoc, bnd_ite, isMk hm, P, Bool.not_true, ↓reduceIte, Bool.false_eq_true]
  have e2 : decide (((0 + 1 + 1 : Nat) : Int) > 2) = false := by decide
  simp only [it0 hr, c669, bnd_assoc, bnd_ite, X, P, len_list hr, it1 hr, List.length_cons, List.length_nil, e2, ↓reduceIte, Bool.false_eq_true, b655 h, b592]
  refine go_bnd (g599s h _ g hj hp hn) fun v μ1 h1 => go_ret ⟨rfl, ⟨cs, gs, ge, t1, t2, h1, g.re rfl rfl rfl⟩⟩
/-- marker-position -/
theorem b879 (H0 : HG ds st t μ) (n : Nat) {j a : Nat} {m : Int × Bool} {r : Nat} (hj : st.ths[j]? = some a) (hp : st.mks[j]? = some m) (hr : μ[r]? = some (.list [.ref a])) (K : V → Mx α) : bnd (callN (n + 2) (.top 879) [.ref 4, .ref r]) K μ = K (.int m.1) μ := by
  obtain ⟨cs, gs, ge, t1, t2, h, g⟩ := H0
  rw [callF (by kernel_rfl), s879]
  have hm := h.mkr (st := { st with cells := cs, gs := gs, ge := ge, t1 := t1, t2 := t2 }) hj hp
  have c669 : ∀ K : V → Mx α, bnd (callN (n + 1) (.top 669) [.ref a]) K μ = K (.ref a) μ := by
    intro K
    rw [callF (by kernel_rfl), s669]
    simp only [bnd_assoc, bnd_ite, isMk hm, P, Bool.not_true, ↓reduceIte, Bool.false_eq_true]
  simp only [it0 hr, bnd_assoc, bnd_ite, c669, mk_buf hm, mk_pos hm, P, ↓reduceIte, Bool.false_eq_true]
end
/-! ## Is the buffer as the law's own text says -/
structure IV (ds : List Int) (j : Nat) (D : Int) (st : St) : Prop where
  op : st.op = st.pt
  ol : st.ol = st.lo
  oh : st.oh = st.hi
  b : Bd st st.txt
  cod : ∀ c ∈ st.txt, 0 ≤ c
  mkE : st.spv = st.mks
  lm : st.lm = st.ths.length
  thl : st.thl = st.ths
  nm : st.ths.length ≤ j
  tl : st.txt.length ≤ 5 + 4 * j
  dk0 : 0 ≤ st.dk
  dk : st.dk ≤ D
  hd : ds.length ≤ 63
def inV : V → Bool
  | .none => true
  | .int c => c == 10
  | _ => false
def orZ : V → V
  | .none => .int 0
  | v => v
theorem toPys_bools {n : Nat} {μ : Mem} : ∀ (l : List Bool), toPys (toPy n μ) (l.map .bool) = some (l.map .bool)
  | [] => rfl
  | i :: r => by rw [List.map_cons, toPys, toPys_bools r, toPy_bool]; rfl
section
variable {α β : Type} {ds : List Int} {st : St} {t : List Int} {μ μ' : Mem}
theorem noExc_go {f : Mx α} {Q : α → Mem → Prop} (h : Go (f μ) Q) : Go (noExc f μ) Q := by
  obtain ⟨a, μ', e, q⟩ := h
  exact ⟨a, μ', by unfold noExc; rw [e], q⟩
theorem comp_go {a : Nat} {all : List V} {elt : V → Mx V} (I : Mem → Prop) (hI : ∀ μ, I μ → μ[a]? = some (.list all)) :
    ∀ (r : List (V × V)), (∀ p ∈ r, ∀ μ, I μ → Go (elt p.1 μ) fun w μ' => w = p.2 ∧ I μ') → ∀ μ, I μ → Go (compM a all elt (r.map (·.1)) μ) fun ws μ' => ws = r.map (·.2) ∧ I μ'
  | [], _, μ, i => by
    rw [List.map_nil, compM, same_bnd (hI _ i)]
    exact go_ret ⟨rfl, i⟩
  | p :: r, hE, μ, i => by
    rw [List.map_cons, compM, same_bnd (hI _ i)]
    refine go_bnd (hE p (.head _) μ i) fun w μ1 ⟨hw, i1⟩ => ?_
    refine go_bnd (comp_go I hI r (fun q hq => hE q (.tail _ hq)) μ1 i1) fun ws μ2 ⟨hws, i2⟩ => go_ret ⟨by rw [hw, hws]; rfl, i2⟩
theorem eq_il {a b : Nat} {l : List Int} (ha : μ[a]? = some (il l)) (hb : μ[b]? = some (il l)) : eqM (.ref a) (.ref b) μ = some (.ok true, μ) := eqM_true (lenD ha hb rfl) (toPy_il ha) (toPy_il hb)
theorem eq_bl {a b : Nat} {l : List Bool} (ha : μ[a]? = some (.list (l.map .bool))) (hb : μ[b]? = some (.list (l.map .bool))) : eqM (.ref a) (.ref b) μ = some (.ok true, μ) := eqM_true (lenD ha hb rfl) (toPy_list ha (toPys_bools l)) (toPy_list hb (toPys_bools l))
theorem eq_bnd {x y : V} (h : eqM x y μ = some (.ok true, μ)) (K : Bool → Mx α) : bnd (cmpM .Eq x y) K μ = K true μ := bnd_val h
theorem ne_bnd {x y : V} (h : eqM x y μ = some (.ok true, μ)) (K : Bool → Mx α) : bnd (cmpM .NotEq x y) K μ = K false μ := by
  show bnd (bnd (eqM x y) fun r => ret (!r)) K μ = _
  rw [bnd_assoc, bnd_val h]; rfl
theorem in_bnd {x : Nat} (hm : μ[x]? = some (.tup [.none, .int 10])) {v : V} (hv : v = .none ∨ ∃ c, v = .int c) (K : Bool → Mx α) : bnd (cmpM .In v (.ref x)) K μ = K (inV v) μ := by
  refine bnd_val ?_
  show bnd (getM x) _ μ = _
  refine (bnd_val (a := .tup [.none, .int 10]) (μ' := μ) (by unfold getM; rw [hm]; rfl)).trans ?_
  rcases hv with rfl | ⟨c, rfl⟩ <;> rfl
theorem sgV_or (st : St) (p : Int) : sgV st p = .none ∨ ∃ c, sgV st p = .int c := by
  unfold sgV; split
  · exact .inr ⟨_, rfl⟩
  · exact .inl rfl
theorem IV.in {j : Nat} {D : Int} (iv : IV ds j D st) {p : Int} (h1 : st.lo ≤ p) (h2 : p < st.hi) : sgV st p = .int (codeAt st st.txt p) ∧ 0 ≤ codeAt st st.txt p := by
  have lo := iv.b.lo; have hi := iv.b.hi
  have hlt : (p - 1).toNat < st.txt.length := by omega
  unfold sgV codeAt
  rw [if_pos ⟨by rw [iv.ol]; exact h1, by rw [iv.oh]; exact h2⟩, if_neg (by omega), List.getElem?_eq_getElem hlt]
  exact ⟨rfl, iv.cod _ (List.getElem_mem hlt)⟩
theorem IV.out {j : Nat} {D : Int} (iv : IV ds j D st) {p : Int} (h : p < st.lo ∨ st.hi ≤ p) : sgV st p = .none ∧ codeAt st st.txt p = -1 := by
  unfold sgV codeAt
  rw [if_neg (by rw [iv.ol, iv.oh]; omega), if_pos h]
  exact ⟨rfl, rfl⟩
/-- one deed of a comprehension -/
theorem elt_go (H0 : HG ds st t μ) (n : Nat) {f : Addr} {nm : Str} {v w : V} {F : V → Mx V} {μ0 : Mem} (k0 : Keep st.L μ0 μ) (hd : ∀ (α : Type) (K : V → Mx α), bnd (itemM (.ref 164) (.str nm)) K μ = K (.top f) μ) (hc : mayCall (.top f) = true)
    (hv : ∀ (r : Nat) (μ' : Mem), HG ds st t μ' → ∀ K : V → Mx V, bnd (callN n (.top f) [.ref 4, .ref r]) K μ' = K v μ') (hF : ∀ μ', F v μ' = some (.ok w, μ')) :
    Go (noExc (bnd (itemM (.ref 164) (.str nm)) fun x4 => if mayCall x4 = true then bnd (newM (.list [])) fun x5 => bnd (callV (callN n) x4 [.ref 4, x5]) fun x6 => F x6 else stuck) μ) fun w' μ' => w' = w ∧ HG ds st t μ' ∧ Keep st.L μ0 μ' := by
  refine noExc_go ?_
  rw [hd, if_pos hc]
  refine sg_new H0 (by rfl) fun r μ1 h1 k1 l1 f1 m1 => ?_
  show Go (bnd (callN n (.top f) [.ref 4, .ref r]) F μ1) _
  rw [hv r μ1 h1]
  exact ⟨w, μ1, hF μ1, rfl, h1, k0.trans k1⟩
theorem b1325 (i : Nat) (h : i < 10) : (fnOf 1325).body.drop i = stOf 1325 i :: (fnOf 1325).body.drop (i + 1) := by
  have e : (fnOf 1325).body.length = 10 := by kernel_rfl
  rw [List.drop_eq_getElem_cons (by omega)]
  unfold stOf
  rw [List.getElem?_eq_getElem (by omega)]; rfl
theorem HG.rd (H0 : HG ds st t μ) {P0 : Mem → Prop} (k : ∀ st' : St, H ds st' μ → P0 μ) : P0 μ := by
  obtain ⟨cs, gs, ge, t1, t2, h, g⟩ := H0
  exact k _ h
theorem g1325 {j : Nat} {D : Int} (H0 : HG ds st st.txt μ) (iv : IV ds j D st) (hj : j ≤ 14) (n : Nat) : Go (callN (n + 8) (.top 1325) [.ref 167, .ref 164, .ref 4, .ref 17] μ) fun v μ' => v = .bool true ∧ HG ds st st.txt μ' ∧ Keep st.L μ μ' := by
  have b := iv.b; have blo := b.lo; have bpl := b.pl; have bph := b.ph; have bhi := b.hi
  have ttl := iv.tl
  rw [callF (by kernel_rfl), runFn_k (callN (n + 7)) (fnOf 1325) _ [("own", .ref 167), ("deeds", .ref 164), ("world", .ref 4), ("things", .ref 17)] (by kernel_rfl)]
  rw [show (fnOf 1325).body = (fnOf 1325).body.drop 0 from rfl]
  -- 0
  rw [kSs_drop (b1325 0 (by omega)), s1325_0]
  have e0 : ∀ (α : Type), (∀ K : V → Mx α, bnd (itemM (.ref 167) (.str "point")) K μ = K (.int st.pt) μ) ∧ (∀ K : V → Mx α, bnd (itemM (.ref 167) (.str "low")) K μ = K (.int st.lo) μ) ∧ (∀ K : V → Mx α, bnd (itemM (.ref 167) (.str "high")) K μ = K (.int st.hi) μ) := fun α => by
    rw [← iv.op, ← iv.ol, ← iv.oh]
    obtain ⟨cs, gs, ge, t1, t2, h, g⟩ := H0
    exact ⟨fun K => by simp only [R h], fun K => by simp only [R h], fun K => by simp only [R h]⟩
  rw [(e0 V).1, (e0 V).2.1, (e0 V).2.2]
  refine sg_new H0 (by rfl) fun a0 μ1 H1 k1 l1 f1 m1 => ?_
  rw [seq_none]
  -- 1
  rw [kSs_drop (b1325 1 (by omega)), s1325_1]
  refine sg_new H1 (by rfl) fun a1 μ2 H2 k2 l2 f2 m2 => ?_
  rw [seq_none]
  -- 2
  rw [kSs_drop (b1325 2 (by omega)), s1325_2, listOf_bnd m2]
  refine go_bnd (comp_go (fun μ => HG ds st st.txt μ ∧ Keep st.L μ2 μ) (fun μ i => i.2.get _ _ f2 m2) [(.str "point", .int st.pt), (.str "point-min", .int st.lo), (.str "point-max", .int st.hi), (.str "buffer-size", .int st.txt.length)] (fun p hp μ i => ?_) μ2 ⟨H2, Keep.refl _ _⟩) fun ws μ3 ⟨hws, H3, k3⟩ => ?_
  · obtain ⟨h, k⟩ := i
    have h' := h
    obtain ⟨cs, gs, ge, t1, t2, h1, g1⟩ := h'
    simp only [List.mem_cons, List.not_mem_nil, or_false] at hp
    rcases hp with rfl | rfl | rfl | rfl
    · exact elt_go h _ k (f := 683) (fun α K => by simp only [R h1]) (by kernel_rfl) (fun r μ' h K => by obtain ⟨cs, gs, ge, t1, t2, h, g⟩ := h; exact b683 h _ _ K) fun _ => rfl
    · exact elt_go h _ k (f := 690) (fun α K => by simp only [R h1]) (by kernel_rfl) (fun r μ' h K => by obtain ⟨cs, gs, ge, t1, t2, h, g⟩ := h; exact b690 h _ _ K) fun _ => rfl
    · exact elt_go h _ k (f := 697) (fun α K => by simp only [R h1]) (by kernel_rfl) (fun r μ' h K => by obtain ⟨cs, gs, ge, t1, t2, h, g⟩ := h; exact b697 h _ _ K) fun _ => rfl
    · exact elt_go h _ k (f := 816) (fun α K => by simp only [R h1]) (by kernel_rfl) (fun r μ' h K => by obtain ⟨cs, gs, ge, t1, t2, h, g⟩ := h; exact b816 h _ g _ K) fun _ => rfl
  subst hws
  refine sg_new H3 (by rfl) fun a3 μ4 H4 k4 l4 f4 m4 => ?_
  have e4 : ∀ (α : Type), (∀ K : V → Mx α, bnd (itemM (.ref 167) (.str "text")) K μ4 = K (.ref st.txa) μ4) := fun α K => by
    obtain ⟨cs, gs, ge, t1, t2, h, g⟩ := H4
    simp only [R h]
  rw [e4, len_bnd H4.tx]
  refine sg_new H4 (by rfl) fun a4 μ5 H5 k5 l5 f5 m5 => ?_
  rw [ne_bnd (eq_il (l := [st.pt, st.lo, st.hi, st.txt.length]) (k5.get _ _ f4 m4) m5)]
  simp only [Bool.false_eq_true, ↓reduceIte]
  rw [seq_none]
  -- 3
  rw [kSs_drop (b1325 3 (by omega)), s1325_3]
  simp only [P]
  rw [b1285 H5 _ _ (by rw [iv.ol]; omega) (by rw [iv.oh]; omega) (by omega), b1285 H5 _ _ (by rw [iv.ol]; omega) (by rw [iv.oh]; omega) (by omega)]
  refine sg_new H5 (by rfl) fun a6 μ6 H6 k6 l6 f6 m6 => ?_
  rw [seq_none]
  -- 4
  rw [kSs_drop (b1325 4 (by omega)), s1325_4]
  simp only [P]
  refine sg_new H6 (by rfl) fun a7 μ7 H7 k7 l7 f7 m7 => ?_
  rw [in_bnd m7 (sgV_or _ _)]
  refine sg_new H7 (by rfl) fun a8 μ8 H8 k8 l8 f8 m8 => ?_
  rw [in_bnd m8 (sgV_or _ _)]
  refine sg_new H8 (by rfl) fun a9 μ9 H9 k9 l9 f9 m9 => ?_
  rw [seq_none]
  -- 5
  rw [kSs_drop (b1325 5 (by omega)), s1325_5]
  refine sg_new H9 (by rfl) fun a10 μ10 H10 k10 l10 f10 m10 => ?_
  rw [listOf_bnd m10]
  have q1 : (decide (st.pt = st.lo) || decide (codeAt st st.txt (st.pt - 1) = 10)) = inV (sgV st (st.pt - 1)) := by
    by_cases z : st.pt = st.lo
    · rw [(iv.out (p := st.pt - 1) (.inl (by omega))).1]; simp [z, inV]
    · rw [(iv.in (p := st.pt - 1) (by omega) (by omega)).1]
      simp only [z, decide_false, Bool.false_or, inV]
      rfl
  have q2 : (decide (st.pt = st.hi) || decide (codeAt st st.txt st.pt = 10)) = inV (sgV st st.pt) := by
    by_cases z : st.pt = st.hi
    · rw [(iv.out (p := st.pt) (.inr (by omega))).1]; simp [z, inV]
    · rw [(iv.in (p := st.pt) (by omega) (by omega)).1]
      simp only [z, decide_false, Bool.false_or, inV]
      rfl
  have isTT : ∀ (c : Bool) (μ' : Mem), bnd (cmpM .Is (if c = true then V.top 138 else .top 135) (.top 138)) (fun c8 => ret (V.bool c8)) μ' = some (.ok (.bool c), μ') := by
    intro c μ'
    cases c <;> simp only [P, Bool.false_eq_true, ↓reduceIte] <;> rfl
  refine go_bnd (comp_go (fun μ => HG ds st st.txt μ ∧ Keep st.L μ10 μ) (fun μ i => i.2.get _ _ f10 m10) [(.str "bobp", .bool (decide (st.pt = st.lo))), (.str "eobp", .bool (decide (st.pt = st.hi))), (.str "bolp", .bool (inV (sgV st (st.pt - 1)))), (.str "eolp", .bool (inV (sgV st st.pt)))] (fun p hp μ i => ?_) μ10 ⟨H10, Keep.refl _ _⟩) fun ws μ11 ⟨hws, H11, k11⟩ => ?_
  · obtain ⟨h, k⟩ := i
    have h' := h
    obtain ⟨cs, gs, ge, t1, t2, h1, g1⟩ := h'
    simp only [List.mem_cons, List.not_mem_nil, or_false] at hp
    rcases hp with rfl | rfl | rfl | rfl
    · exact elt_go h _ k (f := 746) (F := fun x7 => bnd (cmpM .Is x7 (V.top 138)) fun c8 => ret (V.bool c8)) (fun α K => by simp only [R h1]) (by kernel_rfl) (fun r μ' h K => by obtain ⟨cs, gs, ge, t1, t2, h, g⟩ := h; exact b746 h _ _ K) (isTT _)
    · exact elt_go h _ k (f := 753) (F := fun x7 => bnd (cmpM .Is x7 (V.top 138)) fun c8 => ret (V.bool c8)) (fun α K => by simp only [R h1]) (by kernel_rfl) (fun r μ' h K => by obtain ⟨cs, gs, ge, t1, t2, h, g⟩ := h; exact b753 h _ _ K) (isTT _)
    · exact elt_go h _ k (f := 760) (F := fun x7 => bnd (cmpM .Is x7 (V.top 138)) fun c8 => ret (V.bool c8)) (fun α K => by simp only [R h1]) (by kernel_rfl) (fun r μ' h K => by obtain ⟨cs, gs, ge, t1, t2, h, g⟩ := h; rw [← q1]; exact b760 h _ g ⟨b.lo, b.pl, b.ph, b.hi⟩ _ K) (isTT _)
    · exact elt_go h _ k (f := 767) (F := fun x7 => bnd (cmpM .Is x7 (V.top 138)) fun c8 => ret (V.bool c8)) (fun α K => by simp only [R h1]) (by kernel_rfl) (fun r μ' h K => by obtain ⟨cs, gs, ge, t1, t2, h, g⟩ := h; rw [← q2]; exact b767 h _ g ⟨b.lo, b.pl, b.ph, b.hi⟩ _ K) (isTT _)
  subst hws
  refine sg_new H11 (by rfl) fun a12 μ12 H12 k12 l12 f12 m12 => ?_
  rw [ne_bnd (eq_bl (l := [decide (st.pt = st.lo), decide (st.pt = st.hi), inV (sgV st (st.pt - 1)), inV (sgV st st.pt)]) m12 (k12.get _ _ f9 (k11.get _ _ f9 (k10.get _ _ f9 m9))))]
  simp only [Bool.false_eq_true, ↓reduceIte]
  rw [seq_none]
  -- 6
  rw [kSs_drop (b1325 6 (by omega)), s1325_6]
  refine sg_new H12 (by rfl) fun a13 μ13 H13 k13 l13 f13 m13 => ?_
  rw [listOf_bnd m13]
  have z1 : V.int (if 0 < codeAt st st.txt (st.pt - 1) then codeAt st st.txt (st.pt - 1) else 0) = orZ (sgV st (st.pt - 1)) := by
    by_cases z : st.pt = st.lo
    · rw [(iv.out (p := st.pt - 1) (.inl (by omega))).1, (iv.out (p := st.pt - 1) (.inl (by omega))).2]; rfl
    · have := iv.in (p := st.pt - 1) (by omega) (by omega)
      rw [this.1]
      have := this.2
      show V.int _ = V.int _
      congr 1
      split <;> omega
  have z2 : V.int (if 0 < codeAt st st.txt st.pt then codeAt st st.txt st.pt else 0) = orZ (sgV st st.pt) := by
    by_cases z : st.pt = st.hi
    · rw [(iv.out (p := st.pt) (.inr (by omega))).1, (iv.out (p := st.pt) (.inr (by omega))).2]; rfl
    · have := iv.in (p := st.pt) (by omega) (by omega)
      rw [this.1]
      have := this.2
      show V.int _ = V.int _
      congr 1
      split <;> omega
  refine go_bnd (comp_go (fun μ => HG ds st st.txt μ ∧ Keep st.L μ13 μ) (fun μ i => i.2.get _ _ f13 m13) [(.str "preceding-char", orZ (sgV st (st.pt - 1))), (.str "following-char", orZ (sgV st st.pt))] (fun p hp μ i => ?_) μ13 ⟨H13, Keep.refl _ _⟩) fun ws μ14 ⟨hws, H14, k14⟩ => ?_
  · obtain ⟨h, k⟩ := i
    have h' := h
    obtain ⟨cs, gs, ge, t1, t2, h1, g1⟩ := h'
    simp only [List.mem_cons, List.not_mem_nil, or_false] at hp
    rcases hp with rfl | rfl
    · exact elt_go h _ k (f := 739) (fun α K => by simp only [R h1]) (by kernel_rfl) (fun r μ' h K => by obtain ⟨cs, gs, ge, t1, t2, h, g⟩ := h; rw [← z1]; exact b739 h _ g ⟨b.lo, b.pl, b.ph, b.hi⟩ _ K) fun _ => rfl
    · exact elt_go h _ k (f := 732) (fun α K => by simp only [R h1]) (by kernel_rfl) (fun r μ' h K => by obtain ⟨cs, gs, ge, t1, t2, h, g⟩ := h; rw [← z2]; exact b732 h _ g ⟨b.lo, b.pl, b.ph, b.hi⟩ _ K) fun _ => rfl
  subst hws
  refine sg_new H14 (by rfl) fun a15 μ15 H15 k15 l15 f15 m15 => ?_
  rw [seq_none]
  -- 7
  rw [kSs_drop (b1325 7 (by omega)), s1325_7]
  refine sg_new H15 (by rfl) fun a16 μ16 H16 k16 l16 f16 m16 => ?_
  rw [listOf_bnd m16]
  refine go_bnd (comp_go (fun μ => μ = μ16) (fun μ i => by rw [i]; exact m16) [(sgV st (st.pt - 1), orZ (sgV st (st.pt - 1))), (sgV st st.pt, orZ (sgV st st.pt))] (fun p hp μ i => ?_) μ16 rfl) fun ws μ17 ⟨hws, i⟩ => ?_
  · subst i
    have one : ∀ v : V, (v = .none ∨ ∃ c, v = .int c) → Go (noExc (bnd (bnd (cmpM .Is v V.none) fun c5 => if c5 = true then ret (V.int 0) else ret v) fun x6 => ret x6) μ) fun w μ' => w = orZ v ∧ μ' = μ := by
      intro v hv
      refine noExc_go ?_
      rcases hv with rfl | ⟨c, rfl⟩
      · simp only [bnd_assoc, bnd_ite, P, ↓reduceIte]
        exact go_ret ⟨rfl, rfl⟩
      · simp only [bnd_assoc, bnd_ite, P, ↓reduceIte, Bool.false_eq_true]
        exact go_ret ⟨rfl, rfl⟩
    simp only [List.mem_cons, List.not_mem_nil, or_false] at hp
    rcases hp with rfl | rfl
    · exact one _ (sgV_or _ _)
    · exact one _ (sgV_or _ _)
  subst i
  subst hws
  refine sg_new H16 (by rfl) fun a17 μ18 H18 k18 l18 f18 m18 => ?_
  have oz : ∀ p, ∃ c, orZ (sgV st p) = .int c := fun p => by
    rcases sgV_or st p with e | ⟨c, e⟩ <;> rw [e]
    · exact ⟨0, rfl⟩
    · exact ⟨c, rfl⟩
  obtain ⟨c1, hc1⟩ := oz (st.pt - 1)
  obtain ⟨c2, hc2⟩ := oz st.pt
  have m15' : μ18[a15]? = some (il [c1, c2]) := by
    rw [k18.get _ _ f15 (k16.get _ _ f15 m15)]
    simp only [List.map_cons, List.map_nil, hc1, hc2]; rfl
  have m18' : μ18[a17]? = some (il [c1, c2]) := by
    rw [m18]
    simp only [List.map_cons, List.map_nil, hc1, hc2]; rfl
  rw [ne_bnd (eq_il m15' m18')]
  simp only [Bool.false_eq_true, ↓reduceIte]
  rw [seq_none]
  -- 8
  rw [kSs_drop (b1325 8 (by omega)), s1325_8]
  have e8 : ∀ (α : Type), (∀ K : V → Mx α, bnd (itemM (.ref 164) (.str "buffer-string")) K μ18 = K (.top 809) μ18) := fun α K => by
    obtain ⟨cs, gs, ge, t1, t2, h, g⟩ := H18
    simp only [R h]
  rw [e8, if_pos (by kernel_rfl)]
  refine sg_new H18 (by rfl) fun a19 μ19 H19 k19 l19 f19 m19 => ?_
  refine go_bnd (d809 H19 b (n + 3) (.ref a19)) fun v μ20 ⟨x, c, hv, mx1, mc1, fx, fc, H20, k20⟩ => ?_
  subst hv
  have e9 : ∀ (α : Type), (∀ K : V → Mx α, bnd (itemM (.ref 167) (.str "text")) K μ20 = K (.ref st.txa) μ20) := fun α K => by
    obtain ⟨cs, gs, ge, t1, t2, h, g⟩ := H20
    simp only [R h]
  rw [tx_codes mx1, e9]
  simp only [P]
  have H20' := H20
  obtain ⟨cs, gs, ge, t1, t2, h20, g20⟩ := H20'
  refine slice_ii h20 h20.tx (by dsimp only; omega) (by omega) (by omega) (by omega) (by omega) fun y μ21 h21 k21 l21 f21 m21 => ?_
  rw [ne_bnd (eq_il (k21.get _ _ fc mc1) m21)]
  simp only [Bool.false_eq_true, ↓reduceIte]
  rw [seq_none]
  have H21 : HG ds st st.txt μ21 := ⟨cs, gs, ge, t1, t2, h21, g20⟩
  -- 9
  rw [kSs_drop (b1325 9 (by omega)), s1325_9]
  have hth : μ21[17]? = some (.list (st.ths.map .ref)) := by have := h21.thg; rw [show st.thl = st.ths from iv.thl] at this; exact this
  rw [listOf_bnd hth]
  have hlen : st.ths.length = st.mks.length := h21.lm
  have zfst : ((st.ths.map V.ref).zip (st.mks.map fun m => V.int m.1)).map (·.1) = st.ths.map .ref := by rw [List.map_fst_zip]; simp [hlen]
  have zsnd : ((st.ths.map V.ref).zip (st.mks.map fun m => V.int m.1)).map (·.2) = st.mks.map fun m => V.int m.1 := by rw [List.map_snd_zip]; simp [hlen]
  have c9 := comp_go (a := 17) (all := st.ths.map V.ref) (elt := fun w2 => noExc (bnd (itemM (V.ref 164) (V.str "marker-position")) fun x4 => if mayCall x4 = true then bnd (newM (.list [w2])) fun x5 => bnd (callV (callN (n + 7)) x4 [V.ref 4, x5]) fun x6 => ret x6 else stuck)) (fun μ => HG ds st st.txt μ ∧ Keep st.L μ21 μ) (fun μ i => by obtain ⟨⟨cs, gs, ge, t1, t2, h, g⟩, _⟩ := i; have := h.thg; rw [show st.thl = st.ths from iv.thl] at this; exact this) ((st.ths.map V.ref).zip (st.mks.map fun m => V.int m.1)) (fun p hp μ i => by
    obtain ⟨h, k⟩ := i
    obtain ⟨i, hi, rfl⟩ := List.mem_iff_getElem.mp hp
    have hi1 : i < st.ths.length := by simp [hlen] at hi; omega
    have hi2 : i < st.mks.length := by omega
    refine noExc_go ?_
    have h' := h
    obtain ⟨cs, gs, ge, t1, t2, h1, g1⟩ := h'
    have ed : ∀ K : V → Mx V, bnd (itemM (.ref 164) (.str "marker-position")) K μ = K (.top 879) μ := fun K => by simp only [R h1]
    rw [ed, if_pos (by kernel_rfl)]
    refine sg_new h (by rfl) fun r μ1 h1 k1 l1 f1 m1 => ?_
    simp only [List.getElem_zip, List.getElem_map] at m1 ⊢
    show Go (bnd (callN (n + 7) (.top 879) [.ref 4, .ref r]) _ μ1) _
    rw [b879 h1 (n + 5) (List.getElem?_eq_getElem hi1) (List.getElem?_eq_getElem hi2) m1]
    exact go_ret ⟨rfl, h1, k.trans k1⟩) μ21 ⟨H21, Keep.refl _ _⟩
  rw [zfst, zsnd] at c9
  refine go_bnd c9 fun ws μ22 ⟨hws, H22, k22⟩ => ?_
  subst hws
  have nm := iv.nm
  refine sg_new H22 (by unfold szOk big; simp; omega) fun a23 μ23 H23 k23 l23 f23 m23 => ?_
  have e10 : ∀ (α : Type), (∀ K : V → Mx α, bnd (itemM (.ref 167) (.str "spots")) K μ23 = K (.ref 166) μ23) := fun α K => by
    obtain ⟨cs, gs, ge, t1, t2, h, g⟩ := H23
    simp only [R h]
  rw [e10]
  have H23' := H23
  obtain ⟨cs', gs', ge', t1', t2', h23, g23⟩ := H23'
  rw [listOf_bnd h23.sps]
  have hls : st.sps.length = st.spv.length := h23.ls
  have yfst : ((st.sps.map V.ref).zip (st.spv.map fun m => V.int m.1)).map (·.1) = st.sps.map .ref := by rw [List.map_fst_zip]; simp [hls]
  have ysnd : ((st.sps.map V.ref).zip (st.spv.map fun m => V.int m.1)).map (·.2) = st.spv.map fun m => V.int m.1 := by rw [List.map_snd_zip]; simp [hls]
  have c10 := comp_go (a := 166) (all := st.sps.map V.ref) (elt := fun w10 => noExc (bnd (itemM w10 (V.int 0)) fun x12 => ret x12)) (fun μ => μ = μ23) (fun μ i => by rw [i]; exact h23.sps) ((st.sps.map V.ref).zip (st.spv.map fun m => V.int m.1)) (fun p hp μ i => by
    subst i
    obtain ⟨i, hi, rfl⟩ := List.mem_iff_getElem.mp hp
    have hi1 : i < st.sps.length := by simp [hls] at hi; omega
    have hi2 : i < st.spv.length := by omega
    refine noExc_go ?_
    simp only [List.getElem_zip, List.getElem_map]
    rw [sp0 (h23.spt (st := { st with cells := cs', gs := gs', ge := ge', t1 := t1', t2 := t2' }) (List.getElem?_eq_getElem hi1) (List.getElem?_eq_getElem hi2))]
    exact go_ret ⟨rfl, rfl⟩) μ23 rfl
  rw [yfst, ysnd] at c10
  refine go_bnd c10 fun ws μ24 ⟨hws, i⟩ => ?_
  subst i
  subst hws
  refine sg_new H23 (by unfold szOk big; rw [iv.mkE]; simp; omega) fun a25 μ25 H25 k25 l25 f25 m25 => ?_
  have ei : ∀ l : List (Int × Bool), (MO.list (l.map fun m => V.int m.1)) = il (l.map (·.1)) := fun l => by unfold il; rw [List.map_map]; rfl
  rw [ei] at m23 m25
  rw [iv.mkE] at m25
  rw [eq_bnd (eq_il (k25.get _ _ f23 m23) m25), seq_some]
  exact go_ret ⟨rfl, H25, ((((((((((((((((((((k1.trans k2).trans k3).trans k4).trans k5).trans k6).trans k7).trans k8).trans k9).trans k10).trans k11).trans k12).trans k13).trans k14).trans k15).trans k16).trans k18).trans k19).trans k20).trans k21).trans k22).trans (k23.trans k25)⟩
end
/-! ## The three kinds of turns -/
def St.dr (st : St) : St := { st with dk := st.dk + 1 }
def GvAt (μ : Mem) (v : V) : Prop := ∃ x, v = .ref x ∧ ((∃ L a b d, μ[x]? = some (.tup [.ref a, .ref b]) ∧ TdAt L μ a d ∧ TdAt L μ b d) ∨ μ[x]? = some (.tup [.bool true, .bool true]))
theorem clip_bd {p lo hi : Int} (h : lo ≤ hi) : lo ≤ clip p lo hi ∧ clip p lo hi ≤ hi := by unfold clip; split <;> split <;> omega
theorem cod_take {l : List Int} (h : ∀ c ∈ l, 0 ≤ c) (n : Nat) : ∀ c ∈ l.take n, 0 ≤ c := fun c hc => h c (List.mem_of_mem_take hc)
theorem cod_drop {l : List Int} (h : ∀ c ∈ l, 0 ≤ c) (n : Nat) : ∀ c ∈ l.drop n, 0 ≤ c := fun c hc => h c (List.mem_of_mem_drop hc)
section
variable {α β : Type} {ds : List Int} {st : St} {t : List Int} {μ μ' : Mem} {j : Nat} {D : Int}
theorem IV.mono (iv : IV ds j D st) {j' : Nat} {D' : Int} (h1 : j ≤ j') (h2 : D ≤ D') : IV ds j' D' st := ⟨iv.op, iv.ol, iv.oh, iv.b, iv.cod, iv.mkE, iv.lm, iv.thl, Nat.le_trans iv.nm h1, by have := iv.tl; omega, iv.dk0, by have := iv.dk; omega, iv.hd⟩
theorem IV.draw (iv : IV ds j D st) : IV ds j (D + 1) st.dr := ⟨iv.op, iv.ol, iv.oh, ⟨iv.b.lo, iv.b.pl, iv.b.ph, iv.b.hi⟩, iv.cod, iv.mkE, iv.lm, iv.thl, iv.nm, iv.tl, by have := iv.dk0; show 0 ≤ st.dk + 1; omega, by have := iv.dk; show st.dk + 1 ≤ D + 1; omega, iv.hd⟩
theorem IV.ins (iv : IV ds j D st) {w : List Int} {x : Nat} (hw : w.length ≤ 4) (cw : ∀ c ∈ w, 0 ≤ c) : IV ds (j + 1) D { insB st w.length with txa := x, txt := insT st.txt w st.op, spv := st.spv.map (insM st.op w.length), oh := st.oh + w.length, op := st.op + w.length } := by
  have b1 := iv.b.lo; have b2 := iv.b.pl; have b3 := iv.b.ph; have b4 := iv.b.hi; have tl := iv.tl
  have hl : ((insT st.txt w st.op).length : Int) = st.txt.length + w.length := by
    simp only [List.length_append, List.length_take, List.length_drop]; omega
  refine ⟨by dsimp only; rw [iv.op], iv.ol, by dsimp only; rw [iv.oh], ⟨b1, by dsimp only; omega, by dsimp only; omega, by dsimp only; omega⟩, ?_, by dsimp only; rw [iv.mkE, iv.op], iv.lm, iv.thl, Nat.le_succ_of_le iv.nm, by dsimp only; omega, iv.dk0, iv.dk, iv.hd⟩
  intro c hc
  rcases List.mem_append.mp hc with hc | hc
  · rcases List.mem_append.mp hc with hc | hc
    · exact cod_take iv.cod _ c hc
    · exact cw c hc
  · exact cod_drop iv.cod _ c hc
theorem IV.del (iv : IV ds j D st) {s e : Int} {x : Nat} (hs : st.lo ≤ s) (hse : s ≤ e) (he : e ≤ st.hi) : IV ds (j + 1) D { delB st s e with txa := x, txt := delT st.txt s e, spv := st.spv.map (delM s e), oh := st.oh - (e - s), op := if s < st.op then mx s (st.op - (e - s)) else st.op } := by
  have b1 := iv.b.lo; have b2 := iv.b.pl; have b3 := iv.b.ph; have b4 := iv.b.hi; have tl := iv.tl
  have hl : ((delT st.txt s e).length : Int) = st.txt.length - (e - s) := by
    simp only [List.length_append, List.length_take, List.length_drop]; omega
  have bb : st.lo ≤ (if s < st.pt then mx s (st.pt - (e - s)) else st.pt) ∧ (if s < st.pt then mx s (st.pt - (e - s)) else st.pt) ≤ st.hi - (e - s) := by
    unfold mx; split <;> (try split) <;> omega
  refine ⟨by dsimp only; rw [iv.op], iv.ol, by dsimp only; rw [iv.oh], ⟨b1, bb.1, bb.2, by dsimp only; omega⟩, ?_, by dsimp only; rw [iv.mkE], iv.lm, iv.thl, Nat.le_succ_of_le iv.nm, by dsimp only; omega, iv.dk0, iv.dk, iv.hd⟩
  intro c hc
  rcases List.mem_append.mp hc with hc | hc
  · exact cod_take iv.cod _ c hc
  · exact cod_drop iv.cod _ c hc
theorem IV.nar (iv : IV ds j D st) {s e : Int} (hs : 1 ≤ s) (hse : s ≤ e) (he : e ≤ st.txt.length + 1) : IV ds (j + 1) D { st with lo := s, hi := e, pt := clip st.pt s e, ol := s, oh := e, op := clip st.op s e } := by
  refine ⟨by dsimp only; rw [iv.op], rfl, rfl, ⟨hs, (clip_bd hse).1, (clip_bd hse).2, he⟩, iv.cod, iv.mkE, iv.lm, iv.thl, Nat.le_succ_of_le iv.nm, by have := iv.tl; dsimp only; omega, iv.dk0, iv.dk, iv.hd⟩
theorem IV.wid (iv : IV ds j D st) : IV ds (j + 1) D { st with lo := 1, hi := st.txt.length + 1, ol := 1, oh := st.txt.length + 1 } := by
  have b1 := iv.b.lo; have b2 := iv.b.pl; have b3 := iv.b.ph; have b4 := iv.b.hi
  refine ⟨iv.op, rfl, rfl, ⟨Int.le_refl _, by dsimp only; omega, by dsimp only; omega, Int.le_refl _⟩, iv.cod, iv.mkE, iv.lm, iv.thl, Nat.le_succ_of_le iv.nm, by have := iv.tl; dsimp only; omega, iv.dk0, iv.dk, iv.hd⟩
theorem IV.got (iv : IV ds j D st) {p : Int} : IV ds (j + 1) D { st with pt := clip p st.lo st.hi, op := clip p st.lo st.hi } := by
  have b1 := iv.b.lo; have b2 := iv.b.pl; have b3 := iv.b.ph; have b4 := iv.b.hi
  have hb := clip_bd (p := p) (lo := st.lo) (hi := st.hi) (by omega)
  exact ⟨rfl, iv.ol, iv.oh, ⟨b1, hb.1, hb.2, b4⟩, iv.cod, iv.mkE, iv.lm, iv.thl, Nat.le_succ_of_le iv.nm, by have := iv.tl; dsimp only; omega, iv.dk0, iv.dk, iv.hd⟩
theorem draw (H0 : HG ds st st.txt μ) (iv : IV ds j D st) (hD : D ≤ 2000) (n : Nat) {m : Int} (m0 : 0 < m) (m1 : m ≤ 1000) : Go (callN (n + 1) (.top 1264) [.ref 3, .int m] μ) fun v μ' => ∃ r, v = .int r ∧ 0 ≤ r ∧ r < m ∧ HG ds st.dr st.dr.txt μ' ∧ IV ds j (D + 1) st.dr ∧ Keep st.L μ μ' :=
  go_mono (g1264 H0 n iv.dk0 (by have := iv.dk; omega) iv.hd m0 m1) fun v μ' ⟨r, a, b, c, d, e⟩ => ⟨r, a, b, c, d, iv.draw, e⟩
theorem place (H0 : HG ds st st.txt μ) (iv : IV ds j D st) (hD : D ≤ 2000) (hj : j ≤ 14) (n : Nat) : Go (callN (n + 2) (.top 1278) [.ref 3, .ref 167] μ) fun v μ' => ∃ p, v = .int p ∧ -1 ≤ p ∧ p ≤ 400 ∧ HG ds st.dr st.dr.txt μ' ∧ IV ds j (D + 1) st.dr ∧ Keep st.L μ μ' :=
  go_mono (g1278 H0 n iv.dk0 (by have := iv.dk; omega) iv.hd (by have := iv.tl; omega)) fun v μ' ⟨r, a, b, c, d, e⟩ => ⟨r, a, b, c, d, iv.draw, e⟩
theorem min_mn {a b : Int} (K : V → Mx α) : bnd (callB "min" [.int a, .int b]) K μ = K (.int (mn a b)) μ := bnd_val rfl
theorem max_mx {a b : Int} (K : V → Mx α) : bnd (callB "max" [.int a, .int b]) K μ = K (.int (mx a b)) μ := bnd_val rfl
theorem pair_go (H0 : HG ds st t μ) {a b : Nat} {d : Td} {Q : V → Mem → Prop} (ha : TdAt st.L μ a d) (hb : TdAt st.L μ b d) (k : ∀ v μ', GvAt μ' v → HG ds st t μ' → Q v μ') : Go (bnd (newM (.tup [.ref a, .ref b])) ret μ) Q :=
  sg_new H0 (by rfl) fun x μ1 h1 k1 l1 f1 m1 => go_ret (k _ _ ⟨x, rfl, .inl ⟨_, a, b, d, m1, ha.keep k1, hb.keep k1⟩⟩ h1)
theorem refOk : PyData.strOk ("args-out-of-range" : Str) = true := by kernel_rfl
theorem refOk2 : PyData.strOk ("wrong-type-argument" : Str) = true := by kernel_rfl
def Done (ds : List Int) (j : Nat) (D : Int) (v : V) (μ : Mem) : Prop := ∃ st, HG ds st st.txt μ ∧ IV ds j D st ∧ GvAt μ v
theorem g1306 (H0 : HG ds st st.txt μ) (iv : IV ds j D st) (hj : j ≤ 13) (hD : D ≤ 1000) (n : Nat) : Go (callN (n + 9) (.top 1306) [.ref 3, .ref 167, .ref 164, .ref 4] μ) (Done ds (j + 1) (D + 3)) := by
  rw [callF (by kernel_rfl), s1306]
  refine go_bnd (place H0 iv (by omega) (by omega) _) fun v μ1 ⟨a, hv, a0, a1, H1, iv1, k1⟩ => ?_
  subst hv
  refine go_bnd (place H1 iv1 (by omega) (by omega) _) fun v μ2 ⟨b, hv, b0, b1, H2, iv2, k2⟩ => ?_
  subst hv
  refine sg_new H2 (by rfl) fun x3 μ3 H3 _ _ _ _ => ?_
  rw [min_mn, max_mx]
  refine go_bnd (draw H3 iv2 (by omega) _ (m := 3) (by omega) (by omega)) fun v μ4 ⟨r, hv, r0, r1, H4, iv4, k4⟩ => ?_
  subst hv
  rw [show D + 1 + 1 + 1 = D + 3 from by omega] at iv4
  refine sg_new H4 (by rfl) fun x5 μ5 H5 _ _ _ _ => ?_
  refine sg_new H5 (by rfl) fun x6 μ6 H6 _ _ f6 m6 => ?_
  generalize st.dr.dr.dr = s at H6 iv4 f6
  clear H0 H1 H2 H3 H4 H5 iv iv1 iv2 k1 k2 k4
  have tl := iv4.tl; have nm := iv4.nm; have bl := iv4.b.lo; have bp := iv4.b.pl; have bq := iv4.b.ph; have bh := iv4.b.hi
  have hse : mn a b ≤ mx a b := by unfold mn mx; split <;> split <;> omega
  have hr : r = 0 ∨ r = 1 ∨ r = 2 := by omega
  rcases hr with rfl | rfl | rfl
  · rw [it0 m6]
    refine sg_new H6 (by rfl) fun x7 μ7 H7 _ _ f7 m7 => ?_
    have hd : ∀ (α : Type) (K : V → Mx α), bnd (itemM (.ref 164) (.str "delete-region")) K μ7 = K (.top 788) μ7 := fun α K => by
      obtain ⟨cs, gs, ge, t1, t2, h, g⟩ := H7
      simp only [R h]
    by_cases z : s.lo ≤ mn a b ∧ mx a b ≤ s.hi
    · refine go_bnd (told_ok _ (Q := fun v μ' => ∃ a', v = .ref a' ∧ TdAt s.L μ' a' .nil ∧ HG ds (delB s (mn a b) (mx a b)) (delT s.txt (mn a b) (mx a b)) μ') hd (by kernel_rfl) (d788 H7 (n + 2) m7 bl bh z.1 z.2 (by omega)) fun v μ8 ⟨hv, H8, k8⟩ => by
        subst hv
        exact tail_nil H8 fun a' μ9 ha h9 k9 => ⟨a', rfl, ha, h9⟩) fun v μ8 ⟨a8, hv, t8, H8⟩ => ?_
      subst hv
      have H8' := H8
      obtain ⟨cs, gs, ge, t1, t2, h8, g8⟩ := H8'
      simp only [bnd_assoc, bnd_ite, X, R h8, P, ite_ap, decide_eq_true_eq, gt_iff_lt, Bool.false_eq_true, ↓reduceIte]
      rw [if_neg (by decide), if_neg (by rw [iv4.ol]; omega), if_neg (by rw [iv4.oh]; omega), if_neg (by decide)]
      refine go_bnd (g1299 H8 _ (s := mn a b) (e := mx a b) (by omega) hse (by dsimp only; omega) (by dsimp only; omega)) fun v μ9 ⟨x, H9, k9⟩ => ?_
      refine sg_new H9 (by rfl) fun x10 μ10 H10 k10 _ f10 m10 => ?_
      refine pair_go H10 (d := .nil) ((t8.keep k9).keep k10) ⟨m10, f10⟩ fun v μ' gv H11 => ⟨_, H11, iv4.del z.1 hse z.2, gv⟩
    · refine go_bnd (told_ex _ (Q := fun v μ' => ∃ a', v = .ref a' ∧ TdAt s.L μ' a' (.refused "args-out-of-range") ∧ HG ds s s.txt μ') hd (by kernel_rfl) (x788 H7 (n + 2) m7 (by omega)) fun μ8 ⟨H8, k8⟩ => by
        exact tail_ref H8 refOk fun a' μ9 ha h9 k9 => ⟨a', rfl, ha, h9⟩) fun v μ8 ⟨a8, hv, t8, H8⟩ => ?_
      subst hv
      have H8' := H8
      obtain ⟨cs, gs, ge, t1, t2, h8, g8⟩ := H8'
      simp only [bnd_assoc, bnd_ite, X, R h8, P, ite_ap, decide_eq_true_eq, gt_iff_lt, Bool.false_eq_true, ↓reduceIte]
      rw [if_neg (by decide)]
      have e : ∀ x y : Option (Out V × Mem), (if mn a b < s.ol then x else if s.oh < mx a b then x else y) = x := by
        intro x y
        rw [iv4.ol, iv4.oh]
        by_cases y : mn a b < s.lo
        · rw [if_pos y]
        · rw [if_neg y, if_pos (by omega)]
      rw [e]
      refine sg_new H8 (by rfl) fun x10 μ10 H10 k10 _ f10 m10 => ?_
      refine pair_go H10 (d := .refused "args-out-of-range") (t8.keep k10) ⟨m10, f10, refOk⟩ fun v μ' gv H11 => ⟨_, H11, iv4.mono (Nat.le_succ _) (Int.le_refl _), gv⟩
  · rw [it1 m6]
    refine sg_new H6 (by rfl) fun x7 μ7 H7 _ _ f7 m7 => ?_
    have hd : ∀ (α : Type) (K : V → Mx α), bnd (itemM (.ref 164) (.str "narrow-to-region")) K μ7 = K (.top 823) μ7 := fun α K => by
      obtain ⟨cs, gs, ge, t1, t2, h, g⟩ := H7
      simp only [R h]
    by_cases z : 1 ≤ mn a b ∧ mx a b ≤ s.txt.length + 1
    · refine go_bnd (told_ok _ (Q := fun v μ' => ∃ a', v = .ref a' ∧ TdAt s.L μ' a' .nil ∧ HG ds { s with lo := mn a b, hi := mx a b, pt := clip s.pt (mn a b) (mx a b) } s.txt μ') hd (by kernel_rfl) (d823 H7 (n + 3) m7 z.1 z.2) fun v μ8 ⟨hv, H8, k8⟩ => by
        subst hv
        exact tail_nil H8 fun a' μ9 ha h9 k9 => ⟨a', rfl, ha, h9⟩) fun v μ8 ⟨a8, hv, t8, H8⟩ => ?_
      subst hv
      obtain ⟨cs, gs, ge, t1, t2, h8, g8⟩ := H8
      simp only [bnd_assoc, bnd_ite, X, R h8, P, ite_ap, decide_eq_true_eq, gt_iff_lt, Bool.false_eq_true, ↓reduceIte, len_bnd h8.tx]
      rw [if_neg (by omega), if_neg (by omega)]
      change Go (bnd (newM (.tup [.int (mn a b), .int (mx a b), .int (clip s.op (mn a b) (mx a b))])) _ μ8) _
      refine st_new h8 (by rfl) fun x9 μ9 h9 k9 _ _ _ => ?_
      refine st_ol h9 fun μ10 h10 k10 => ?_
      refine st_oh h10 fun μ11 h11 k11 => ?_
      refine st_op h11 fun μ12 h12 k12 => ?_
      refine st_new h12 (by rfl) fun x13 μ13 h13 k13 _ f13 m13 => ?_
      refine pair_go (st := { s with lo := mn a b, hi := mx a b, pt := clip s.pt (mn a b) (mx a b), ol := mn a b, oh := mx a b, op := clip s.op (mn a b) (mx a b) }) (t := s.txt) ⟨cs, gs, ge, t1, t2, h13, g8.re rfl rfl rfl⟩ (d := .nil) (((((t8.keep k9).keep k10).keep k11).keep k12).keep k13) ⟨m13, f13⟩ fun v μ' gv H14 => ⟨_, H14, iv4.nar z.1 hse z.2, gv⟩
    · refine go_bnd (told_ex _ (Q := fun v μ' => ∃ a', v = .ref a' ∧ TdAt s.L μ' a' (.refused "args-out-of-range") ∧ HG ds s s.txt μ') hd (by kernel_rfl) (x823 H7 (n + 3) m7 (by omega)) fun μ8 ⟨H8, k8⟩ => by
        exact tail_ref H8 refOk fun a' μ9 ha h9 k9 => ⟨a', rfl, ha, h9⟩) fun v μ8 ⟨a8, hv, t8, H8⟩ => ?_
      subst hv
      have H8' := H8
      obtain ⟨cs, gs, ge, t1, t2, h8, g8⟩ := H8'
      simp only [bnd_assoc, bnd_ite, X, R h8, P, ite_ap, decide_eq_true_eq, gt_iff_lt, Bool.false_eq_true, ↓reduceIte, len_bnd h8.tx]
      have e : ∀ x y : Option (Out V × Mem), (if mn a b < 1 then x else if (s.txt.length : Int) + 1 < mx a b then x else y) = x := by
        intro x y
        by_cases y : mn a b < 1
        · rw [if_pos y]
        · rw [if_neg y, if_pos (by omega)]
      rw [e]
      refine sg_new H8 (by rfl) fun x10 μ10 H10 k10 _ f10 m10 => ?_
      refine pair_go H10 (d := .refused "args-out-of-range") (t8.keep k10) ⟨m10, f10, refOk⟩ fun v μ' gv H11 => ⟨_, H11, iv4.mono (Nat.le_succ _) (Int.le_refl _), gv⟩
  · rw [it2 m6]
    refine sg_new H6 (by rfl) fun x7 μ7 H7 _ _ f7 m7 => ?_
    have hd : ∀ (α : Type) (K : V → Mx α), bnd (itemM (.ref 164) (.str "buffer-substring")) K μ7 = K (.top 802) μ7 := fun α K => by
      obtain ⟨cs, gs, ge, t1, t2, h, g⟩ := H7
      simp only [R h]
    by_cases z : s.lo ≤ mn a b ∧ mx a b ≤ s.hi
    · refine go_bnd (told_ok _ (Q := fun v μ' => ∃ a', v = .ref a' ∧ TdAt s.L μ' a' (.text ((s.txt.take (mx a b - 1).toNat).drop (mn a b - 1).toNat)) ∧ HG ds s s.txt μ') hd (by kernel_rfl) (d802 H7 (n + 3) m7 bl bh z.1 z.2) fun v μ8 h8 => by
        exact tail_tx h8 fun a' μ9 ha h9 k9 => ⟨a', rfl, ha, h9⟩) fun v μ8 ⟨a8, hv, t8, H8⟩ => ?_
      subst hv
      have H8' := H8
      obtain ⟨cs, gs, ge, t1, t2, h8, g8⟩ := H8'
      simp only [bnd_assoc, bnd_ite, X, R h8, P, ite_ap, decide_eq_true_eq, gt_iff_lt, Bool.false_eq_true, ↓reduceIte]
      rw [if_neg (by decide), if_neg (by rw [iv4.ol]; omega), if_neg (by rw [iv4.oh]; omega)]
      refine slice_ii h8 h8.tx (by dsimp only; omega) (by omega) (by omega) (by omega) (by omega) fun x9 μ9 h9 k9 _ f9 m9 => ?_
      refine sg_new (st := s) (t := s.txt) ⟨cs, gs, ge, t1, t2, h9, g8⟩ (by rfl) fun x10 μ10 H10 k10 _ f10 m10 => ?_
      refine pair_go H10 ((t8.keep k9).keep k10) ⟨x9, m10, f10, k10.get _ _ f9 m9, f9⟩ fun v μ' gv H11 => ⟨_, H11, iv4.mono (Nat.le_succ _) (Int.le_refl _), gv⟩
    · refine go_bnd (told_ex _ (Q := fun v μ' => ∃ a', v = .ref a' ∧ TdAt s.L μ' a' (.refused "args-out-of-range") ∧ HG ds s s.txt μ') hd (by kernel_rfl) (x802 H7 (n + 3) m7 (by omega)) fun μ8 ⟨H8, k8⟩ => by
        exact tail_ref H8 refOk fun a' μ9 ha h9 k9 => ⟨a', rfl, ha, h9⟩) fun v μ8 ⟨a8, hv, t8, H8⟩ => ?_
      subst hv
      have H8' := H8
      obtain ⟨cs, gs, ge, t1, t2, h8, g8⟩ := H8'
      simp only [bnd_assoc, bnd_ite, X, R h8, P, ite_ap, decide_eq_true_eq, gt_iff_lt, Bool.false_eq_true, ↓reduceIte]
      rw [if_neg (by decide)]
      have e : ∀ x y : Option (Out V × Mem), (if mn a b < s.ol then x else if s.oh < mx a b then x else y) = x := by
        intro x y
        rw [iv4.ol, iv4.oh]
        by_cases y : mn a b < s.lo
        · rw [if_pos y]
        · rw [if_neg y, if_pos (by omega)]
      rw [e]
      refine sg_new H8 (by rfl) fun x10 μ10 H10 k10 _ f10 m10 => ?_
      refine pair_go H10 (d := .refused "args-out-of-range") (t8.keep k10) ⟨m10, f10, refOk⟩ fun v μ' gv H11 => ⟨_, H11, iv4.mono (Nat.le_succ _) (Int.le_refl _), gv⟩
end
/-! ## The simple turns -/
section
variable {α β : Type} {ds : List Int} {st : St} {t : List Int} {μ μ' : Mem} {j : Nat} {D : Int}
theorem go_of {f : Mx V} {v : V} (h : ∀ K : V → Mx V, bnd f K μ = K v μ) : Go (f μ) fun v' μ' => v' = v ∧ μ' = μ := by
  have := h ret
  rw [bnd_ret] at this
  exact ⟨v, μ, this, rfl, rfl⟩
theorem delT_all (l : List Int) : delT l 1 (l.length + 1) = [] := by
  unfold delT
  rw [show ((l.length : Int) + 1 - 1).toNat = l.length from by omega]
  simp
theorem IV.era (iv : IV ds j D st) {x : Nat} : IV ds (j + 1) D { st with lo := 1, hi := 1, pt := if 1 < st.pt then mx 1 (st.pt - st.txt.length) else st.pt, mks := st.mks.map (delM 1 (st.txt.length + 1)), txa := x, txt := [], spv := st.spv.map (delM 1 (st.txt.length + 1)), ol := 1, oh := 1, op := if 1 < st.op then mx 1 (st.op - st.txt.length) else st.op } := by
  have b1 := iv.b.lo; have b2 := iv.b.pl; have b3 := iv.b.ph; have b4 := iv.b.hi
  have e : (if 1 < st.pt then mx 1 (st.pt - st.txt.length) else st.pt) = 1 := by unfold mx; split <;> (try split) <;> omega
  refine ⟨by dsimp only; rw [iv.op], rfl, rfl, ⟨Int.le_refl _, ?_, ?_, ?_⟩, ?_, by dsimp only; rw [iv.mkE], iv.lm, iv.thl, Nat.le_succ_of_le iv.nm, by dsimp only; simp, iv.dk0, iv.dk, iv.hd⟩
  · dsimp only; rw [e]; exact Int.le_refl _
  · dsimp only; rw [e]; exact Int.le_refl _
  · simp
  · intro c hc; cases hc
/-- char-after, char-before -/
theorem sign_turn (H0 : HG ds st st.txt μ) (iv : IV ds j D st) (n : Nat) {nm : Str} {f : Addr} {q : Int} {K : V → Mx V} {r : Nat} {Q : V → Mem → Prop} (hd : ∀ (α : Type) (K : V → Mx α), bnd (itemM (.ref 164) (.str nm)) K μ = K (.top f) μ) (hc : mayCall (.top f) = true)
    (hf : ∀ K : V → Mx V, bnd (callN n (.top f) [.ref 4, .ref r]) K μ = K (if codeAt st st.txt q = -1 then .top 135 else .int (codeAt st st.txt q)) μ)
    (hK : K = fun x15 => bnd (bnd (cmpM .Is (sgV st q) V.none) fun c16 => if c16 = true then bnd (newM (.list [(V.str "nil")])) fun x17 => ret x17 else bnd (newM (.list [(V.str "told"), sgV st q])) fun x18 => ret x18) fun x19 => bnd (newM (.tup [x15, x19])) fun x20 => ret x20)
    (k : ∀ v μ', GvAt μ' v → HG ds st st.txt μ' → Q v μ') : Go (bnd (callN (n + 1) (.top 1271) [.ref 164, .str nm, .ref 4, .ref r]) K μ) Q := by
  subst hK
  by_cases z : q < st.lo ∨ st.hi ≤ q
  · have o := iv.out z
    rw [o.2] at hf
    rw [o.1]
    refine go_bnd (told_ok _ (Q := fun v μ' => ∃ a', v = .ref a' ∧ TdAt st.L μ' a' .nil ∧ HG ds st st.txt μ') hd hc (go_of hf) fun v μ8 ⟨hv, hm⟩ => by
      subst hv; subst hm
      rw [if_pos rfl]
      exact tail_nil H0 fun a' μ9 ha h9 k9 => ⟨a', rfl, ha, h9⟩) fun v μ8 ⟨a8, hv, t8, H8⟩ => ?_
    subst hv
    simp only [bnd_assoc, bnd_ite, P, ↓reduceIte]
    refine sg_new H8 (by rfl) fun x10 μ10 H10 k10 _ f10 m10 => ?_
    simp only [P]
    exact pair_go H10 (d := .nil) (t8.keep k10) ⟨m10, f10⟩ k
  · have o := iv.in (p := q) (by omega) (by omega)
    rw [o.1]
    have o2 := o.2
    generalize codeAt st st.txt q = c at hf o2 o
    rw [if_neg (by omega)] at hf
    refine go_bnd (told_ok _ (Q := fun v μ' => ∃ a', v = .ref a' ∧ TdAt st.L μ' a' (.told c) ∧ HG ds st st.txt μ') hd hc (go_of hf) fun v μ8 ⟨hv, hm⟩ => by
      subst hv; subst hm
      exact tail_int H0 fun a' μ9 ha h9 k9 => ⟨a', rfl, ha, h9⟩) fun v μ8 ⟨a8, hv, t8, H8⟩ => ?_
    subst hv
    simp only [bnd_assoc, bnd_ite, P, ↓reduceIte, Bool.false_eq_true]
    refine sg_new H8 (by rfl) fun x10 μ10 H10 k10 _ f10 m10 => ?_
    simp only [P]
    exact pair_go H10 (d := .told c) (t8.keep k10) ⟨m10, f10⟩ k
theorem g1320 (H0 : HG ds st st.txt μ) (iv : IV ds j D st) (hj : j ≤ 13) (hD : D ≤ 1000) (n : Nat) : Go (callN (n + 9) (.top 1320) [.ref 3, .ref 167, .ref 164, .ref 4] μ) (Done ds (j + 1) (D + 2)) := by
  rw [callF (by kernel_rfl), s1320]
  refine go_bnd (draw H0 iv (by omega) _ (m := 6) (by omega) (by omega)) fun v μ1 ⟨r, hv, r0, r1, H1, iv1, k1⟩ => ?_
  subst hv
  refine go_bnd (place H1 iv1 (by omega) (by omega) _) fun v μ2 ⟨p, hv, p0, p1, H2, iv2, k2⟩ => ?_
  subst hv
  rw [show D + 1 + 1 = D + 2 from by omega] at iv2
  refine sg_new H2 (by rfl) fun x3 μ3 H3 _ _ _ _ => ?_
  generalize st.dr.dr = s at H3 iv2
  clear H0 H1 H2 iv iv1 k1 k2
  have tl := iv2.tl; have nm := iv2.nm; have bl := iv2.b.lo; have bp := iv2.b.pl; have bq := iv2.b.ph; have bh := iv2.b.hi
  have hr : r = 0 ∨ r = 1 ∨ r = 2 ∨ r = 3 ∨ r = 4 ∨ r = 5 := by omega
  rcases hr with rfl | rfl | rfl | rfl | rfl | rfl
  · obtain ⟨cs, gs, ge, t1, t2, h3, g3⟩ := H3
    simp only [P, ite_ap, decide_true, ↓reduceIte, R h3]
    change Go (bnd (putItemM (.ref 167) (.str "point") (.int (clip p s.ol s.oh))) _ μ3) _
    rw [iv2.ol, iv2.oh]
    refine st_op h3 fun μ4 h4 k4 => ?_
    refine sg_new (st := { s with op := clip p s.lo s.hi }) (t := s.txt) ⟨cs, gs, ge, t1, t2, h4, g3.re rfl rfl rfl⟩ (by rfl) fun x7 μ7 H7 _ _ f7 m7 => ?_
    have hd : ∀ (α : Type) (K : V → Mx α), bnd (itemM (.ref 164) (.str "goto-char")) K μ7 = K (.top 704) μ7 := fun α K => by
      obtain ⟨cs, gs, ge, t1, t2, h, g⟩ := H7
      simp only [R h]
    refine go_bnd (told_ok _ (Q := fun v μ' => ∃ a', v = .ref a' ∧ TdAt s.L μ' a' (.told p) ∧ HG ds { s with op := clip p s.lo s.hi, pt := clip p s.lo s.hi } s.txt μ') hd (by kernel_rfl) (d704 H7 (n + 4) m7 f7) fun v μ8 ⟨hv, H8, k8⟩ => by
      subst hv
      exact tail_int H8 fun a' μ9 ha h9 k9 => ⟨a', rfl, ha, h9⟩) fun v μ8 ⟨a8, hv, t8, H8⟩ => ?_
    subst hv
    refine sg_new H8 (by rfl) fun x10 μ10 H10 k10 _ f10 m10 => ?_
    exact pair_go H10 (d := .told p) (t8.keep k10) ⟨m10, f10⟩ fun v μ' gv H11 => ⟨_, H11, iv2.got, gv⟩
  · simp only [P, ite_ap, decide_true, ↓reduceIte, Bool.false_eq_true, decide_eq_true_eq]
    rw [if_neg (by decide)]
    rw [b1285 H3 _ _ (by rw [iv2.ol]; omega) (by rw [iv2.oh]; omega) (by omega)]
    refine sg_new H3 (by rfl) fun x7 μ7 H7 _ _ f7 m7 => ?_
    exact sign_turn H7 iv2 (n + 7) (f := 718) (q := p) (fun α K => by
      obtain ⟨cs, gs, ge, t1, t2, h, g⟩ := H7
      simp only [R h]) (by kernel_rfl) (fun K => by
      obtain ⟨cs, gs, ge, t1, t2, h, g⟩ := H7
      exact b718 h (n + 3) g ⟨bl, bp, bq, bh⟩ m7 K) rfl fun v μ' gv H11 => ⟨_, H11, iv2.mono (Nat.le_succ _) (Int.le_refl _), gv⟩
  · simp only [P, ite_ap, decide_true, ↓reduceIte, Bool.false_eq_true, decide_eq_true_eq]
    rw [if_neg (by decide), if_neg (by decide)]
    rw [b1285 H3 _ _ (by rw [iv2.ol]; omega) (by rw [iv2.oh]; omega) (by omega)]
    refine sg_new H3 (by rfl) fun x7 μ7 H7 _ _ f7 m7 => ?_
    exact sign_turn H7 iv2 (n + 7) (f := 725) (q := p - 1) (fun α K => by
      obtain ⟨cs, gs, ge, t1, t2, h, g⟩ := H7
      simp only [R h]) (by kernel_rfl) (fun K => by
      obtain ⟨cs, gs, ge, t1, t2, h, g⟩ := H7
      exact b725 h (n + 3) g ⟨bl, bp, bq, bh⟩ m7 K) rfl fun v μ' gv H11 => ⟨_, H11, iv2.mono (Nat.le_succ _) (Int.le_refl _), gv⟩
  · have H3' := H3
    obtain ⟨cs, gs, ge, t1, t2, h3, g3⟩ := H3'
    simp only [P, ite_ap, decide_true, ↓reduceIte, Bool.false_eq_true, decide_eq_true_eq, R h3, len_bnd h3.tx]
    rw [if_neg (by decide), if_neg (by decide), if_neg (by decide)]
    refine st_new h3 (by rfl) fun x4 μ4 h4 _ _ _ _ => ?_
    refine st_ol h4 fun μ5 h5 k5 => ?_
    refine st_oh h5 fun μ6 h6 k6 => ?_
    refine sg_new (st := { s with ol := 1, oh := s.txt.length + 1 }) (t := s.txt) ⟨cs, gs, ge, t1, t2, h6, g3.re rfl rfl rfl⟩ (by rfl) fun x7 μ7 H7 _ _ f7 m7 => ?_
    have hd : ∀ (α : Type) (K : V → Mx α), bnd (itemM (.ref 164) (.str "widen")) K μ7 = K (.top 830) μ7 := fun α K => by
      obtain ⟨cs, gs, ge, t1, t2, h, g⟩ := H7
      simp only [R h]
    refine go_bnd (told_ok _ (Q := fun v μ' => ∃ a', v = .ref a' ∧ TdAt s.L μ' a' .nil ∧ HG ds { s with ol := 1, oh := s.txt.length + 1, lo := 1, hi := s.txt.length + 1 } s.txt μ') hd (by kernel_rfl) (d830 H7 (n + 3) _) fun v μ8 ⟨hv, H8, k8⟩ => by
      subst hv
      exact tail_nil H8 fun a' μ9 ha h9 k9 => ⟨a', rfl, ha, h9⟩) fun v μ8 ⟨a8, hv, t8, H8⟩ => ?_
    subst hv
    refine sg_new H8 (by rfl) fun x10 μ10 H10 k10 _ f10 m10 => ?_
    exact pair_go H10 (d := .nil) (t8.keep k10) ⟨m10, f10⟩ fun v μ' gv H11 => ⟨_, H11, iv2.wid, gv⟩
  · have H3' := H3
    obtain ⟨cs, gs, ge, t1, t2, h3, g3⟩ := H3'
    simp only [P, ite_ap, decide_true, ↓reduceIte, Bool.false_eq_true, decide_eq_true_eq, R h3, len_bnd h3.tx]
    rw [if_neg (by decide), if_neg (by decide), if_neg (by decide), if_neg (by decide)]
    refine st_new h3 (by rfl) fun x4 μ4 h4 _ _ _ _ => ?_
    refine st_ol h4 fun μ5 h5 k5 => ?_
    refine st_oh h5 fun μ6 h6 k6 => ?_
    simp only [R h6]
    refine go_bnd (g1299 (st := { s with ol := 1, oh := s.txt.length + 1 }) (t := s.txt) (μ := μ6) ⟨cs, gs, ge, t1, t2, h6, g3.re rfl rfl rfl⟩ _ (s := 1) (e := s.txt.length + 1) (by omega) (by omega) (Int.le_refl _) (by dsimp only; omega)) fun v μ9 ⟨x, H9, k9⟩ => ?_
    dsimp only at H9
    rw [delT_all, show (s.txt.length : Int) + 1 - (s.txt.length + 1 - 1) = 1 from by omega, show s.op - ((s.txt.length : Int) + 1 - 1) = s.op - s.txt.length from by omega] at H9
    refine sg_new H9 (by rfl) fun x7 μ7 H7 _ _ f7 m7 => ?_
    have hd : ∀ (α : Type) (K : V → Mx α), bnd (itemM (.ref 164) (.str "erase-buffer")) K μ7 = K (.top 795) μ7 := fun α K => by
      obtain ⟨cs, gs, ge, t1, t2, h, g⟩ := H7
      simp only [R h]
    refine go_bnd (told_ok _ (Q := fun v μ' => ∃ a', v = .ref a' ∧ TdAt s.L μ' a' .nil ∧ HG ds { s with lo := 1, hi := 1, pt := if 1 < s.pt then mx 1 (s.pt - s.txt.length) else s.pt, mks := s.mks.map (delM 1 (s.txt.length + 1)), txa := x, txt := [], spv := s.spv.map (delM 1 (s.txt.length + 1)), ol := 1, oh := 1, op := if 1 < s.op then mx 1 (s.op - s.txt.length) else s.op } [] μ') hd (by kernel_rfl) (d795 H7 (n + 1) _ (by dsimp only; omega)) fun v μ8 ⟨hv, H8, k8⟩ => by
      subst hv
      exact tail_nil H8 fun a' μ9 ha h9 k9 => ⟨a', rfl, ha, h9⟩) fun v μ8 ⟨a8, hv, t8, H8⟩ => ?_
    subst hv
    refine sg_new H8 (by rfl) fun x10 μ10 H10 k10 _ f10 m10 => ?_
    exact pair_go H10 (d := .nil) (t8.keep k10) ⟨m10, f10⟩ fun v μ' gv H11 => ⟨_, H11, iv2.era, gv⟩
  · simp only [P, ite_ap, decide_true, ↓reduceIte, Bool.false_eq_true, decide_eq_true_eq]
    rw [if_neg (by decide), if_neg (by decide), if_neg (by decide), if_neg (by decide), if_neg (by decide)]
    refine sg_new H3 (by rfl) fun x7 μ7 H7 _ _ f7 m7 => ?_
    have hd : ∀ (α : Type) (K : V → Mx α), bnd (itemM (.ref 164) (.str "insert")) K μ7 = K (.top 774) μ7 := fun α K => by
      obtain ⟨cs, gs, ge, t1, t2, h, g⟩ := H7
      simp only [R h]
    refine go_bnd (told_ex _ (Q := fun v μ' => ∃ a', v = .ref a' ∧ TdAt s.L μ' a' (.refused "wrong-type-argument") ∧ HG ds s s.txt μ') hd (by kernel_rfl) (x774 H7 (n + 4) m7) fun μ8 ⟨H8, k8⟩ => by
      exact tail_ref H8 refOk2 fun a' μ9 ha h9 k9 => ⟨a', rfl, ha, h9⟩) fun v μ8 ⟨a8, hv, t8, H8⟩ => ?_
    subst hv
    refine sg_new H8 (by rfl) fun x10 μ10 H10 k10 _ f10 m10 => ?_
    exact pair_go H10 (d := .refused "wrong-type-argument") (t8.keep k10) ⟨m10, f10, refOk2⟩ fun v μ' gv H11 => ⟨_, H11, iv2.mono (Nat.le_succ _) (Int.le_refl _), gv⟩
end
/-! ## The turns with markers -/
section
variable {α β : Type} {ds : List Int} {st : St} {t : List Int} {μ μ' : Mem} {j : Nat} {D : Int}
theorem IV.add (iv : IV ds j D st) {x : Int} {b : Bool} {a y : Nat} : IV ds (j + 1) D { st with lm := st.lm + 1, ths := st.ths ++ [a], mks := st.mks ++ [(x, b)], thl := st.thl ++ [a], sps := st.sps ++ [y], spv := st.spv ++ [(x, b)] } := by
  refine ⟨iv.op, iv.ol, iv.oh, ⟨iv.b.lo, iv.b.pl, iv.b.ph, iv.b.hi⟩, iv.cod, by dsimp only; rw [iv.mkE], by dsimp only; rw [iv.lm]; simp, by dsimp only; rw [iv.thl], by have := iv.nm; dsimp only; simp; omega, by have := iv.tl; dsimp only; omega, iv.dk0, iv.dk, iv.hd⟩
theorem IV.put (iv : IV ds j D st) {x : Int} {b : Bool} {i : Nat} : IV ds (j + 1) D { st with mks := st.mks.set i (x, b), spv := st.spv.set i (x, b) } := by
  refine ⟨iv.op, iv.ol, iv.oh, ⟨iv.b.lo, iv.b.pl, iv.b.ph, iv.b.hi⟩, iv.cod, by dsimp only; rw [iv.mkE], iv.lm, iv.thl, by have := iv.nm; dsimp only; omega, by have := iv.tl; dsimp only; omega, iv.dk0, iv.dk, iv.hd⟩
theorem eq_things (n : Nat) {a b : Nat} {xs : List V} (ha : μ[a]? = some (.list xs)) (hb : μ[b]? = some (.list [])) : eqM (.ref a) (.ref b) μ = some (.ok (decide (xs.length = 0)), μ) := by
  cases xs with
  | nil => exact eqM_true (d := .list []) (lenD ha hb rfl) (toPy_list ha rfl) (toPy_list hb rfl)
  | cons x r =>
    unfold eqM
    have : lenDiff μ (.ref a) (.ref b) = true := by
      unfold lenDiff
      simp only [ha, hb]
      simp
    rw [this]; rfl
theorem sel_list {a : Nat} {xs : List V} (hm : μ[a]? = some (.list xs)) (K : V → Mx α) : bnd (selM (.ref a) "append") K μ = K (.bi "list.append") μ := by
  refine bnd_val ?_
  show bnd (getM a) _ μ = _
  refine (bnd_val (a := .list xs) (μ' := μ) (by unfold getM; rw [hm]; rfl)).trans ?_
  dsimp only
  rw [if_pos (by rfl)]; rfl
theorem b252' (b : Bool) (K : V → Mx α) : bnd (bnd (boolM (.bool b)) fun b16 => if b16 = true then ret (V.top 138) else ret (V.top 135)) K μ = K (if b = true then .top 138 else .top 135) μ := by
  cases b <;> simp only [bnd_assoc, bnd_ite, P, ↓reduceIte, Bool.false_eq_true]
def Marked (ds : List Int) (j : Nat) (D : Int) (v : V) (μ : Mem) : Prop := v = .bool true ∧ ∃ st, HG ds st st.txt μ ∧ IV ds j D st
/-- a new marker -/
theorem marked_new (H0 : HG ds st st.txt μ) (iv : IV ds j D st) (hj : j ≤ 13) (hD : D ≤ 1000) (n : Nat) {p : Int} : Go ((bnd (callN (n + 8) (V.top 1264) [V.ref 3, (V.int 2)]) fun x12 => bnd (cmpM .Eq x12 (V.int 1)) fun c13 => bnd (selM (.ref 17) "append") fun f14 => if mayCall f14 then bnd (itemM (.ref 164) (V.str "copy-marker")) fun x15 => if mayCall x15 then bnd (bnd (boolM (V.bool c13)) fun b16 => if b16 then ret (V.top 138) else ret (V.top 135)) fun x17 => bnd (newM (.list [.int p, x17])) fun x18 => bnd (callV (callN (n + 8)) x15 [.ref 4, x18]) fun x19 => bnd (callV (callN (n + 8)) f14 [.ref 17, x19]) fun x20 => bnd (itemM (.ref 167) (V.str "spots")) fun x21 => bnd (selM x21 "append") fun f22 => if mayCall f22 then bnd (newM (.list [.int (clip p 1 (st.txt.length + 1)), (V.bool c13)])) fun x23 => bnd (callV (callN (n + 8)) f22 [x21, x23]) fun x24 => ret (V.bool true) else stuck else stuck else stuck) μ) (Marked ds (j + 1) (D + 1)) := by
  have tl := iv.tl; have nm := iv.nm
  refine go_bnd (draw H0 iv (by omega) _ (m := 2) (by omega) (by omega)) fun v μ1 ⟨r, hv, r0, r1, H1, iv1, k1⟩ => ?_
  subst hv
  have etx : st.dr.txt.length = st.txt.length := rfl
  rw [← etx]
  have nm1 := iv1.nm
  generalize st.dr = s at *
  simp only [P]
  generalize decide (r = 1) = b
  obtain ⟨cs, gs, ge, t1, t2, h1, g1⟩ := H1
  rw [sel_list h1.thg]
  simp only [M, ↓reduceIte, R h1]
  rw [b252']
  refine sg_new (st := s) (t := s.txt) ⟨cs, gs, ge, t1, t2, h1, g1⟩ (by rfl) fun x2 μ2 H2 k2 l2 f2 m2 => ?_
  refine go_bnd (d865 H2 (n + 4) m2 f2 iv1.lm (by omega)) fun v μ3 ⟨a, hv, H3⟩ => ?_
  subst hv
  obtain ⟨cs3, gs3, ge3, t13, t23, h3, g3⟩ := H3
  refine st_thl h3 (by dsimp only; rw [iv1.thl]; omega) fun μ4 h4 k4 => ?_
  simp only [R h4]
  rw [sel_list h4.sps]
  simp only [M, ↓reduceIte]
  refine st_new h4 (by rfl) fun y μ5 h5 k5 l5 f5 m5 => ?_
  refine st_addS (p := (clip p 1 (s.txt.length + 1), b)) h5 m5 f5 (by have := h4.txLt; dsimp only at this ⊢; omega) (by have := h5.ls; dsimp only at this ⊢; rw [this, iv1.mkE, ← (show s.ths.length = s.mks.length from h1.lm)]; omega) fun μ6 h6 => ?_
  exact go_ret ⟨rfl, { s with lm := s.lm + 1, ths := s.ths ++ [a], mks := s.mks ++ [(clip p 1 (s.txt.length + 1), b)], thl := s.thl ++ [a], sps := s.sps ++ [y], spv := s.spv ++ [(clip p 1 (s.txt.length + 1), b)] }, ⟨cs3, gs3, ge3, t13, t23, h6, g3.re rfl rfl rfl⟩, iv1.add⟩
/-- a marker that stands there -/
theorem marked_old (H0 : HG ds st st.txt μ) (iv : IV ds j D st) (hj : j ≤ 13) (hD : D ≤ 1000) (hne : 0 < st.ths.length) (n : Nat) {p : Int} : Go ((bnd (callB "len" [.ref 17]) fun x25 => bnd (callN (n + 8) (V.top 1264) [.ref 3, x25]) fun x26 => bnd (itemM (.ref 167) (V.str "spots")) fun x27 => bnd (itemM x27 x26) fun x28 => bnd (putItemM x28 (V.int 0) (.int (clip p 1 (st.txt.length + 1)))) fun _ => bnd (itemM (.ref 164) (V.str "set-marker")) fun x29 => if mayCall x29 then bnd (itemM (.ref 17) x26) fun x30 => bnd (newM (.list [x30, .int p])) fun x31 => bnd (callV (callN (n + 8)) x29 [.ref 4, x31]) fun x32 => bnd (itemM (.ref 17) x26) fun x33 => bnd (cmpM .Is x32 x33) fun c34 => ret (V.bool c34) else stuck) μ) (Marked ds (j + 1) (D + 1)) := by
  have tl := iv.tl; have nm := iv.nm
  have H0' := H0
  obtain ⟨cs, gs, ge, t1, t2, h0, g0⟩ := H0'
  have m17 : μ[17]? = some (.list (st.ths.map .ref)) := by have := h0.thg; rw [show st.thl = st.ths from iv.thl] at this; exact this
  rw [len_list m17, List.length_map]
  refine go_bnd (draw H0 iv (by omega) _ (m := st.ths.length) (by omega) (by omega)) fun v μ1 ⟨r, hv, r0, r1, H1, iv1, k1⟩ => ?_
  subst hv
  have etx : st.dr.txt.length = st.txt.length := rfl
  rw [← etx]
  have eth : st.dr.ths.length = st.ths.length := rfl
  rw [← eth] at r1 hne nm
  clear H0 iv m17 h0 g0
  generalize st.dr = s at *
  obtain ⟨cs, gs, ge, t1, t2, h1, g1⟩ := H1
  have hl1 : s.ths.length = s.mks.length := h1.lm
  have hl2 : s.sps.length = s.spv.length := h1.ls
  have hl3 : s.spv.length = s.mks.length := by rw [iv1.mkE]
  have i1 : r.toNat < s.ths.length := by omega
  have i2 : r.toNat < s.mks.length := by omega
  have i3 : r.toNat < s.sps.length := by omega
  have i4 : r.toNat < s.spv.length := by omega
  simp only [R h1]
  rw [item_bnd h1.sps ⟨r0, small_of (by omega) (by omega)⟩ (v := .ref s.sps[r.toNat]) (by dsimp only; rw [List.getElem?_map, List.getElem?_eq_getElem i3]; rfl)]
  refine st_spot h1 (List.getElem?_eq_getElem i3) (List.getElem?_eq_getElem i4) fun μ2 h2 k2 => ?_
  simp only [R h2, M, ↓reduceIte]
  have m17 : μ2[17]? = some (.list (s.ths.map .ref)) := by have := h2.thg; rw [show s.thl = s.ths from iv1.thl] at this; exact this
  have e17 : ∀ {ν : Mem} (_ : ν[17]? = some (.list (s.ths.map .ref))) (K : V → Mx V), bnd (itemM (.ref 17) (.int r)) K ν = K (.ref s.ths[r.toNat]) ν := fun hm K => item_bnd hm ⟨r0, small_of (by omega) (by omega)⟩ (v := .ref s.ths[r.toNat]) (by rw [List.getElem?_map, List.getElem?_eq_getElem i1]; rfl) K
  rw [e17 m17]
  refine sg_new (st := { s with spv := s.spv.set r.toNat (clip p 1 (s.txt.length + 1), s.spv[r.toNat].2) }) (t := s.txt) ⟨cs, gs, ge, t1, t2, h2, g1.re rfl rfl rfl⟩ (by rfl) fun x3 μ3 H3 k3 l3 f3 m3 => ?_
  refine go_bnd (d872 H3 (n + 4) (List.getElem?_eq_getElem i1) (List.getElem?_eq_getElem i2) m3 (by dsimp only; omega)) fun v μ4 ⟨hv, H4⟩ => ?_
  subst hv
  have H4' := H4
  obtain ⟨cs4, gs4, ge4, t14, t24, h4, g4⟩ := H4'
  have m17' : μ4[17]? = some (.list (s.ths.map .ref)) := by have := h4.thg; rw [show s.thl = s.ths from iv1.thl] at this; exact this
  rw [e17 m17', is_self]
  refine go_ret ⟨rfl, _, H4, ?_⟩
  have e2 : s.spv[r.toNat].2 = s.mks[r.toNat].2 := by
    have : ∀ (l l' : List (Int × Bool)) (h : l = l') (i : Nat) (hi : i < l.length) (hi' : i < l'.length), l[i] = l'[i] := by intro l l' h; subst h; intros; rfl
    rw [this _ _ iv1.mkE _ i4 i2]
  rw [e2]
  exact iv1.put
theorem g1313 (H0 : HG ds st st.txt μ) (iv : IV ds j D st) (hj : j ≤ 13) (hD : D ≤ 900) (n : Nat) : Go (callN (n + 9) (.top 1313) [.ref 3, .ref 167, .ref 164, .ref 4, .ref 17] μ) (Marked ds (j + 1) (D + 3)) := by
  rw [callF (by kernel_rfl), s1313]
  refine go_bnd (place H0 iv (by omega) (by omega) _) fun v μ1 ⟨p, hv, p0, p1, H1, iv1, k1⟩ => ?_
  subst hv
  generalize st.dr = s at H1 iv1
  clear H0 iv k1
  have tl := iv1.tl; have nm := iv1.nm
  have H1' := H1
  obtain ⟨cs, gs, ge, t1, t2, h1, g1⟩ := H1'
  simp only [R h1, len_bnd h1.tx]
  refine sg_new H1 (by rfl) fun x2 μ2 H2 _ _ _ _ => ?_
  have fold : ∀ (F : V → Mx V) (ν : Mem), bnd (callB "max" [.int p, .int 1]) (fun x4 => bnd (binM .Add (.int s.txt.length) (.int 1)) fun x5 => bnd (callB "min" [x4, x5]) F) ν = F (.int (clip p 1 (s.txt.length + 1))) ν := by
    intro F ν
    simp only [P]
    rfl
  rw [fold, bnd_assoc]
  refine sg_new H2 (by rfl) fun x3 μ3 H3 _ _ _ m3 => ?_
  have H3' := H3
  obtain ⟨cs, gs, ge, t1, t2, h3, g3⟩ := H3'
  have m17 : μ3[17]? = some (.list (s.ths.map .ref)) := by have := h3.thg; rw [show s.thl = s.ths from iv1.thl] at this; exact this
  have eq1 : ∀ (K : Bool → Mx V), bnd (cmpM .Eq (.ref 17) (.ref x3)) K μ3 = K (decide (s.ths.length = 0)) μ3 := fun K => bnd_val ((eq_things 0 m17 m3).trans (by rw [List.length_map]))
  rw [bnd_assoc, eq1]
  by_cases z : s.ths.length = 0
  · rw [decide_eq_true z, stepOr, if_pos rfl]
    simp only [P, ↓reduceIte]
    refine go_mono (marked_new H3 iv1 hj (by omega) n) fun v μ' ⟨hv, st', h, i⟩ => ⟨hv, st', h, i.mono (Nat.le_refl _) (by omega)⟩
  · rw [decide_eq_false z, stepOr, if_neg Bool.false_ne_true, bnd_assoc]
    refine go_bnd (draw H3 iv1 (by omega) _ (m := 2) (by omega) (by omega)) fun v μ4 ⟨r, hv, r0, r1, H4, iv2, k4⟩ => ?_
    subst hv
    have etx : s.dr.txt.length = s.txt.length := rfl
    rw [← etx]
    have eth : s.dr.ths.length = s.ths.length := rfl
    rw [← eth] at z
    generalize s.dr = s2 at *
    rw [bnd_assoc]
    simp only [P]
    by_cases y : r = 0
    · rw [decide_eq_true y, stepOr, if_pos rfl]
      simp only [P, ↓reduceIte]
      refine go_mono (marked_new H4 iv2 hj (by omega) n) fun v μ' ⟨hv, st', h, i⟩ => ⟨hv, st', h, i.mono (Nat.le_refl _) (by omega)⟩
    · rw [decide_eq_false y, stepOr, if_neg Bool.false_ne_true]
      simp only [P, ↓reduceIte, Bool.false_eq_true]
      refine go_mono (marked_old H4 iv2 hj (by omega) (by omega) n) fun v μ' ⟨hv, st', h, i⟩ => ⟨hv, st', h, i.mono (Nat.le_refl _) (by omega)⟩
end
/-! ## The start, by the kernel (the memory printed by gmem.py) -/
def L5 (o0 o1 o2 : MO) : Mem := [
  o0,
  o1,
  o2,
  .list [.ref 2, .int 0],
  .inst 1253 [("obarray", .ref 5), ("cells", .ref 8), ("variables", .ref 11), ("bare", .ref 15), ("current", .ref 19), ("machine", .none), ("last_marker", .int 0)],
  .inst 1085 [("rows", .ref 6), ("names", .ref 7)],
  .list [.top 135, .top 138, .ref 67, .ref 69, .ref 71, .ref 73, .ref 75, .ref 77, .ref 79, .ref 81, .ref 83, .ref 85, .ref 87, .ref 89, .ref 91, .ref 93, .ref 95, .ref 97, .ref 99, .ref 101, .ref 103, .ref 105, .ref 107, .ref 109, .ref 111, .ref 113, .ref 115, .ref 117, .ref 119, .ref 121, .ref 123, .ref 125, .ref 127, .ref 129],
  .dict [(.str "nil", .top 135), (.str "t", .top 138), (.str "point", .ref 67), (.str "point-min", .ref 69), (.str "point-max", .ref 71), (.str "goto-char", .ref 73), (.str "char-after", .ref 75), (.str "char-before", .ref 77), (.str "following-char", .ref 79), (.str "preceding-char", .ref 81), (.str "bobp", .ref 83), (.str "eobp", .ref 85), (.str "bolp", .ref 87), (.str "eolp", .ref 89), (.str "buffer-size", .ref 91), (.str "insert", .ref 93), (.str "insert-char", .ref 95), (.str "delete-region", .ref 97), (.str "erase-buffer", .ref 99), (.str "buffer-substring", .ref 101), (.str "buffer-substring-no-properties", .ref 103), (.str "buffer-string", .ref 105), (.str "narrow-to-region", .ref 107), (.str "widen", .ref 109), (.str "buffer-modified-p", .ref 111), (.str "set-buffer-modified-p", .ref 113), (.str "make-marker", .ref 115), (.str "point-marker", .ref 117), (.str "copy-marker", .ref 119), (.str "set-marker", .ref 121), (.str "marker-position", .ref 123), (.str "marker-buffer", .ref 125), (.str "marker-insertion-type", .ref 127), (.str "set-marker-insertion-type", .ref 129)],
  .inst 1008 [("functions", .ref 9), ("plists", .ref 10)],
  .dict [],
  .dict [],
  .inst 1148 [("defaults", .ref 12), ("automatic", .ref 13), ("permanent", .ref 14)],
  .dict [],
  .dict [],
  .dict [],
  .inst 1204 [("values", .ref 16)],
  .dict [],
  .list [],
  .tup [.ref 3, .ref 4, .ref 17],
  .inst 464 [("number", .int 1), ("name", .str "b"), ("text", .ref 21), ("markers", .ref 26), ("point", .int 6), ("begv", .int 1), ("zv", .int 6), ("mark", .none), ("is_live", .bool true), ("is_read_only", .bool false), ("ticks", .int 3), ("codes_ticks", .int 3), ("saved_ticks", .int 1), ("listeners", .ref 28), ("undo", .none), ("props", .none), ("overlays", .none), ("locals", .none), ("syntax", .none), ("file", .none)],
  .list [],
  .inst 108 [("room", .int 8), ("cells", .ref 25), ("gap_start", .int 5), ("gap_end", .int 8)],
  .list [],
  .list [.int 0],
  .list [.int 0, .int 0, .int 0, .int 0, .int 0, .int 0, .int 0, .int 0],
  .list [.int 97, .int 98, .int 10, .int 99, .int 100, .int 0, .int 0, .int 0],
  .inst 358 [("rows", .ref 27)],
  .dict [],
  .list [],
  .list [.ref 68, .ref 70, .ref 72, .ref 74, .ref 76, .ref 78, .ref 80, .ref 82, .ref 84, .ref 86, .ref 88, .ref 90, .ref 92, .ref 94, .ref 96, .ref 98, .ref 100, .ref 102, .ref 104, .ref 106, .ref 108, .ref 110, .ref 112, .ref 114, .ref 116, .ref 118, .ref 120, .ref 122, .ref 124, .ref 126, .ref 128, .ref 130],
  .tup [.str "point", .int 0, .int 0, .top 683],
  .tup [.str "point-min", .int 0, .int 0, .top 690],
  .tup [.str "point-max", .int 0, .int 0, .top 697],
  .tup [.str "goto-char", .int 1, .int 1, .top 704],
  .tup [.str "char-after", .int 0, .int 1, .top 718],
  .tup [.str "char-before", .int 0, .int 1, .top 725],
  .tup [.str "following-char", .int 0, .int 0, .top 732],
  .tup [.str "preceding-char", .int 0, .int 0, .top 739],
  .tup [.str "bobp", .int 0, .int 0, .top 746],
  .tup [.str "eobp", .int 0, .int 0, .top 753],
  .tup [.str "bolp", .int 0, .int 0, .top 760],
  .tup [.str "eolp", .int 0, .int 0, .top 767],
  .tup [.str "buffer-size", .int 0, .int 0, .top 816],
  .list [.ref 30, .ref 31, .ref 32, .ref 33, .ref 34, .ref 35, .ref 36, .ref 37, .ref 38, .ref 39, .ref 40, .ref 41, .ref 42],
  .tup [.str "insert", .int 0, .int (-1), .top 774],
  .tup [.str "insert-char", .int 1, .int 2, .top 781],
  .tup [.str "delete-region", .int 2, .int 2, .top 788],
  .tup [.str "erase-buffer", .int 0, .int 0, .top 795],
  .tup [.str "buffer-substring", .int 2, .int 2, .top 802],
  .tup [.str "buffer-substring-no-properties", .int 2, .int 2, .top 802],
  .tup [.str "buffer-string", .int 0, .int 0, .top 809],
  .tup [.str "narrow-to-region", .int 2, .int 2, .top 823],
  .tup [.str "widen", .int 0, .int 0, .top 830],
  .tup [.str "buffer-modified-p", .int 0, .int 0, .top 837],
  .tup [.str "set-buffer-modified-p", .int 1, .int 1, .top 844],
  .list [.ref 44, .ref 45, .ref 46, .ref 47, .ref 48, .ref 49, .ref 50, .ref 51, .ref 52, .ref 53, .ref 54],
  .list [.ref 30, .ref 31, .ref 32, .ref 33, .ref 34, .ref 35, .ref 36, .ref 37, .ref 38, .ref 39, .ref 40, .ref 41, .ref 42, .ref 44, .ref 45, .ref 46, .ref 47, .ref 48, .ref 49, .ref 50, .ref 51, .ref 52, .ref 53, .ref 54],
  .tup [.str "make-marker", .int 0, .int 0, .top 851],
  .tup [.str "point-marker", .int 0, .int 0, .top 858],
  .tup [.str "copy-marker", .int 1, .int 2, .top 865],
  .tup [.str "set-marker", .int 2, .int 3, .top 872],
  .tup [.str "marker-position", .int 1, .int 1, .top 879],
  .tup [.str "marker-buffer", .int 1, .int 1, .top 886],
  .tup [.str "marker-insertion-type", .int 1, .int 1, .top 893],
  .tup [.str "set-marker-insertion-type", .int 2, .int 2, .top 900],
  .list [.ref 57, .ref 58, .ref 59, .ref 60, .ref 61, .ref 62, .ref 63, .ref 64],
  .list [.ref 30, .ref 31, .ref 32, .ref 33, .ref 34, .ref 35, .ref 36, .ref 37, .ref 38, .ref 39, .ref 40, .ref 41, .ref 42, .ref 44, .ref 45, .ref 46, .ref 47, .ref 48, .ref 49, .ref 50, .ref 51, .ref 52, .ref 53, .ref 54, .ref 57, .ref 58, .ref 59, .ref 60, .ref 61, .ref 62, .ref 63, .ref 64],
  .inst 129 [("number", .int 2), ("name", .str "point")],
  .inst 199 [("number", .int 2), ("name", .str "point"), ("least", .int 0), ("most", .int 0), ("deed", .top 683)],
  .inst 129 [("number", .int 3), ("name", .str "point-min")],
  .inst 199 [("number", .int 3), ("name", .str "point-min"), ("least", .int 0), ("most", .int 0), ("deed", .top 690)],
  .inst 129 [("number", .int 4), ("name", .str "point-max")],
  .inst 199 [("number", .int 4), ("name", .str "point-max"), ("least", .int 0), ("most", .int 0), ("deed", .top 697)],
  .inst 129 [("number", .int 5), ("name", .str "goto-char")],
  .inst 199 [("number", .int 5), ("name", .str "goto-char"), ("least", .int 1), ("most", .int 1), ("deed", .top 704)],
  .inst 129 [("number", .int 6), ("name", .str "char-after")],
  .inst 199 [("number", .int 6), ("name", .str "char-after"), ("least", .int 0), ("most", .int 1), ("deed", .top 718)],
  .inst 129 [("number", .int 7), ("name", .str "char-before")],
  .inst 199 [("number", .int 7), ("name", .str "char-before"), ("least", .int 0), ("most", .int 1), ("deed", .top 725)],
  .inst 129 [("number", .int 8), ("name", .str "following-char")],
  .inst 199 [("number", .int 8), ("name", .str "following-char"), ("least", .int 0), ("most", .int 0), ("deed", .top 732)],
  .inst 129 [("number", .int 9), ("name", .str "preceding-char")],
  .inst 199 [("number", .int 9), ("name", .str "preceding-char"), ("least", .int 0), ("most", .int 0), ("deed", .top 739)],
  .inst 129 [("number", .int 10), ("name", .str "bobp")],
  .inst 199 [("number", .int 10), ("name", .str "bobp"), ("least", .int 0), ("most", .int 0), ("deed", .top 746)],
  .inst 129 [("number", .int 11), ("name", .str "eobp")],
  .inst 199 [("number", .int 11), ("name", .str "eobp"), ("least", .int 0), ("most", .int 0), ("deed", .top 753)],
  .inst 129 [("number", .int 12), ("name", .str "bolp")],
  .inst 199 [("number", .int 12), ("name", .str "bolp"), ("least", .int 0), ("most", .int 0), ("deed", .top 760)],
  .inst 129 [("number", .int 13), ("name", .str "eolp")],
  .inst 199 [("number", .int 13), ("name", .str "eolp"), ("least", .int 0), ("most", .int 0), ("deed", .top 767)],
  .inst 129 [("number", .int 14), ("name", .str "buffer-size")],
  .inst 199 [("number", .int 14), ("name", .str "buffer-size"), ("least", .int 0), ("most", .int 0), ("deed", .top 816)],
  .inst 129 [("number", .int 15), ("name", .str "insert")],
  .inst 199 [("number", .int 15), ("name", .str "insert"), ("least", .int 0), ("most", .int (-1)), ("deed", .top 774)],
  .inst 129 [("number", .int 16), ("name", .str "insert-char")],
  .inst 199 [("number", .int 16), ("name", .str "insert-char"), ("least", .int 1), ("most", .int 2), ("deed", .top 781)],
  .inst 129 [("number", .int 17), ("name", .str "delete-region")],
  .inst 199 [("number", .int 17), ("name", .str "delete-region"), ("least", .int 2), ("most", .int 2), ("deed", .top 788)],
  .inst 129 [("number", .int 18), ("name", .str "erase-buffer")],
  .inst 199 [("number", .int 18), ("name", .str "erase-buffer"), ("least", .int 0), ("most", .int 0), ("deed", .top 795)],
  .inst 129 [("number", .int 19), ("name", .str "buffer-substring")],
  .inst 199 [("number", .int 19), ("name", .str "buffer-substring"), ("least", .int 2), ("most", .int 2), ("deed", .top 802)],
  .inst 129 [("number", .int 20), ("name", .str "buffer-substring-no-properties")],
  .inst 199 [("number", .int 20), ("name", .str "buffer-substring-no-properties"), ("least", .int 2), ("most", .int 2), ("deed", .top 802)],
  .inst 129 [("number", .int 21), ("name", .str "buffer-string")],
  .inst 199 [("number", .int 21), ("name", .str "buffer-string"), ("least", .int 0), ("most", .int 0), ("deed", .top 809)],
  .inst 129 [("number", .int 22), ("name", .str "narrow-to-region")],
  .inst 199 [("number", .int 22), ("name", .str "narrow-to-region"), ("least", .int 2), ("most", .int 2), ("deed", .top 823)],
  .inst 129 [("number", .int 23), ("name", .str "widen")],
  .inst 199 [("number", .int 23), ("name", .str "widen"), ("least", .int 0), ("most", .int 0), ("deed", .top 830)],
  .inst 129 [("number", .int 24), ("name", .str "buffer-modified-p")],
  .inst 199 [("number", .int 24), ("name", .str "buffer-modified-p"), ("least", .int 0), ("most", .int 0), ("deed", .top 837)],
  .inst 129 [("number", .int 25), ("name", .str "set-buffer-modified-p")],
  .inst 199 [("number", .int 25), ("name", .str "set-buffer-modified-p"), ("least", .int 1), ("most", .int 1), ("deed", .top 844)],
  .inst 129 [("number", .int 26), ("name", .str "make-marker")],
  .inst 199 [("number", .int 26), ("name", .str "make-marker"), ("least", .int 0), ("most", .int 0), ("deed", .top 851)],
  .inst 129 [("number", .int 27), ("name", .str "point-marker")],
  .inst 199 [("number", .int 27), ("name", .str "point-marker"), ("least", .int 0), ("most", .int 0), ("deed", .top 858)],
  .inst 129 [("number", .int 28), ("name", .str "copy-marker")],
  .inst 199 [("number", .int 28), ("name", .str "copy-marker"), ("least", .int 1), ("most", .int 2), ("deed", .top 865)],
  .inst 129 [("number", .int 29), ("name", .str "set-marker")],
  .inst 199 [("number", .int 29), ("name", .str "set-marker"), ("least", .int 2), ("most", .int 3), ("deed", .top 872)],
  .inst 129 [("number", .int 30), ("name", .str "marker-position")],
  .inst 199 [("number", .int 30), ("name", .str "marker-position"), ("least", .int 1), ("most", .int 1), ("deed", .top 879)],
  .inst 129 [("number", .int 31), ("name", .str "marker-buffer")],
  .inst 199 [("number", .int 31), ("name", .str "marker-buffer"), ("least", .int 1), ("most", .int 1), ("deed", .top 886)],
  .inst 129 [("number", .int 32), ("name", .str "marker-insertion-type")],
  .inst 199 [("number", .int 32), ("name", .str "marker-insertion-type"), ("least", .int 1), ("most", .int 1), ("deed", .top 893)],
  .inst 129 [("number", .int 33), ("name", .str "set-marker-insertion-type")],
  .inst 199 [("number", .int 33), ("name", .str "set-marker-insertion-type"), ("least", .int 2), ("most", .int 2), ("deed", .top 900)],
  .tup [.str "point", .top 683],
  .tup [.str "point-min", .top 690],
  .tup [.str "point-max", .top 697],
  .tup [.str "goto-char", .top 704],
  .tup [.str "char-after", .top 718],
  .tup [.str "char-before", .top 725],
  .tup [.str "following-char", .top 732],
  .tup [.str "preceding-char", .top 739],
  .tup [.str "bobp", .top 746],
  .tup [.str "eobp", .top 753],
  .tup [.str "bolp", .top 760],
  .tup [.str "eolp", .top 767],
  .tup [.str "buffer-size", .top 816],
  .tup [.str "insert", .top 774],
  .tup [.str "insert-char", .top 781],
  .tup [.str "delete-region", .top 788],
  .tup [.str "erase-buffer", .top 795],
  .tup [.str "buffer-substring", .top 802],
  .tup [.str "buffer-substring-no-properties", .top 802],
  .tup [.str "buffer-string", .top 809],
  .tup [.str "narrow-to-region", .top 823],
  .tup [.str "widen", .top 830],
  .tup [.str "buffer-modified-p", .top 837],
  .tup [.str "set-buffer-modified-p", .top 844],
  .tup [.str "make-marker", .top 851],
  .tup [.str "point-marker", .top 858],
  .tup [.str "copy-marker", .top 865],
  .tup [.str "set-marker", .top 872],
  .tup [.str "marker-position", .top 879],
  .tup [.str "marker-buffer", .top 886],
  .tup [.str "marker-insertion-type", .top 893],
  .tup [.str "set-marker-insertion-type", .top 900],
  .list [.ref 131, .ref 132, .ref 133, .ref 134, .ref 135, .ref 136, .ref 137, .ref 138, .ref 139, .ref 140, .ref 141, .ref 142, .ref 143, .ref 144, .ref 145, .ref 146, .ref 147, .ref 148, .ref 149, .ref 150, .ref 151, .ref 152, .ref 153, .ref 154, .ref 155, .ref 156, .ref 157, .ref 158, .ref 159, .ref 160, .ref 161, .ref 162],
  .dict [(.str "point", .top 683), (.str "point-min", .top 690), (.str "point-max", .top 697), (.str "goto-char", .top 704), (.str "char-after", .top 718), (.str "char-before", .top 725), (.str "following-char", .top 732), (.str "preceding-char", .top 739), (.str "bobp", .top 746), (.str "eobp", .top 753), (.str "bolp", .top 760), (.str "eolp", .top 767), (.str "buffer-size", .top 816), (.str "insert", .top 774), (.str "insert-char", .top 781), (.str "delete-region", .top 788), (.str "erase-buffer", .top 795), (.str "buffer-substring", .top 802), (.str "buffer-substring-no-properties", .top 802), (.str "buffer-string", .top 809), (.str "narrow-to-region", .top 823), (.str "widen", .top 830), (.str "buffer-modified-p", .top 837), (.str "set-buffer-modified-p", .top 844), (.str "make-marker", .top 851), (.str "point-marker", .top 858), (.str "copy-marker", .top 865), (.str "set-marker", .top 872), (.str "marker-position", .top 879), (.str "marker-buffer", .top 886), (.str "marker-insertion-type", .top 893), (.str "set-marker-insertion-type", .top 900)],
  .list [],
  .list [],
  .dict [(.str "text", .ref 190), (.str "point", .int 6), (.str "low", .int 1), (.str "high", .int 6), (.str "spots", .ref 166)],
  .list [.int 97, .int 98, .int 10, .int 99],
  .inst 178 [("codes", .ref 168), ("spans", .none)],
  .list [.ref 169, .int 100],
  .list [.int 97, .int 98, .int 10, .int 99],
  .tup [.int 1, .int 1],
  .tup [.int 1, .int 1],
  .list [],
  .list [],
  .list [],
  .list [],
  .list [.int 100],
  .tup [.int 5, .int 5],
  .tup [.int 5, .int 5],
  .list [],
  .list [],
  .list [],
  .list [],
  .list [.str "nil"],
  .list [.int 97, .int 98, .int 10, .int 99, .int 100],
  .list [],
  .list [.int 97, .int 98, .int 10, .int 99, .int 100],
  .list [],
  .list [.int 97, .int 98, .int 10, .int 99, .int 100],
  .list [.str "nil"]]
def rho5 : Loc := [("script", .ref 0), ("things", .ref 17), ("world", .ref 4), ("deck", .ref 3), ("deeds", .ref 164), ("own", .ref 167)]
def midS : List Stmt := [stOf 1330 1, stOf 1330 2, stOf 1330 3, stOf 1330 4]
def mid : Mx (Option V × Loc) := bnd (callN 19 (.top 1253) []) fun w => bnd (newM (.list [])) fun th => bnd (newM (.tup [.ref 3, w, th])) fun _ => exSs (callN 19) (fnOf 1330).names midS [("script", .ref 0), ("things", th), ("world", w), ("deck", .ref 3)]
theorem mid_eq (o0 o1 o2 : MO) : mid [o0, o1, o2, .list [.ref 2, .int 0]] = some (.ok (none, rho5), L5 o0 o1 o2) := by kernel_rfl
/-! ## A turn, the loop -/
abbrev fr (ρ : Loc) : Loc := ("script", .ref 0) :: ("things", .ref 17) :: ("world", .ref 4) :: ("deck", .ref 3) :: ("deeds", .ref 164) :: ("own", .ref 167) :: ρ
section
variable {α β : Type} {ds : List Int} {st : St} {t : List Int} {μ μ' : Mem} {j : Nat} {D : Int}
theorem titem {a : Nat} {x y : V} (hm : μ[a]? = some (.tup [x, y])) (K : V → Mx α) : bnd (itemM (.ref a) (.int 0)) K μ = K x μ ∧ bnd (itemM (.ref a) (.int 1)) K μ = K y μ := by
  constructor
  · refine bnd_val ?_
    show bnd (getM a) _ μ = _
    refine (bnd_val (a := .tup [x, y]) (μ' := μ) (by unfold getM; rw [hm]; rfl)).trans ?_
    dsimp only
    rw [if_pos (by decide)]; rfl
  · refine bnd_val ?_
    show bnd (getM a) _ μ = _
    refine (bnd_val (a := .tup [x, y]) (μ' := μ) (by unfold getM; rw [hm]; rfl)).trans ?_
    dsimp only
    rw [if_pos (by decide)]; rfl
theorem GvAt.eq {v : V} (g : GvAt μ v) : ∃ p q, (∀ K : V → Mx Bool, bnd (itemM v (.int 0)) K μ = K p μ) ∧ (∀ K : V → Mx Bool, bnd (itemM v (.int 1)) K μ = K q μ) ∧ eqM p q μ = some (.ok true, μ) := by
  obtain ⟨x, rfl, ⟨L, a, b, d, hm, ha, hb⟩ | hm⟩ := g
  · exact ⟨_, _, fun K => (titem hm K).1, fun K => (titem hm K).2, Td_eq ha hb⟩
  · exact ⟨_, _, fun K => (titem hm K).1, fun K => (titem hm K).2, eqM_true (d := .bool true) rfl toPy_bool toPy_bool⟩
/-- what each turn ends with -/
theorem turn_end {v : V} (g : GvAt μ v) (H0 : HG ds st st.txt μ) (iv : IV ds j D st) (hj : j ≤ 14) (n : Nat) {A B : Mx (Option V × Loc)} {Q : Option V × Loc → Mem → Prop} (k : ∀ μ', HG ds st st.txt μ' → Go (B μ') Q) :
    Go (bnd (bnd (itemM v (V.int 0)) fun x21 => bnd (itemM v (V.int 1)) fun x23 => bnd (cmpM .NotEq x21 x23) fun c24 => stepT .Or c24 ret (bnd (callN (n + 8) (V.top 1325) [.ref 167, .ref 164, .ref 4, .ref 17]) fun x25 => bnd (boolM x25) fun b26 => stepT .Or (!b26) ret (ret false))) (fun c27 => if c27 = true then A else B) μ) Q := by
  obtain ⟨p, q, h1, h2, h3⟩ := g.eq
  refine go_bnd (R := fun c μ' => c = false ∧ HG ds st st.txt μ') ?_ fun c μ' ⟨hc, h⟩ => ?_
  · rw [h1, h2, ne_bnd h3, stepOr, if_neg Bool.false_ne_true]
    refine go_bnd (g1325 H0 iv hj n) fun v μ1 ⟨hv, H1, k1⟩ => ?_
    subst hv
    simp only [P, Bool.not_true]
    rw [stepOr, if_neg Bool.false_ne_true]
    exact go_ret ⟨rfl, H1⟩
  · subst hc
    rw [if_neg Bool.false_ne_true]
    exact k μ' h
def TQ (ds : List Int) (j : Nat) (D : Int) (q : Option V × Loc) (μ : Mem) : Prop := ∃ ρ, q = (none, fr ρ) ∧ ∃ st, HG ds st st.txt μ ∧ IV ds j D st
theorem end_of {v : V} (d : Done ds j D v μ) (hj : j ≤ 14) (n : Nat) {ρ' : Loc} {A : Mx (Option V × Loc)} :
    Go (bnd (bnd (itemM v (V.int 0)) fun x21 => bnd (itemM v (V.int 1)) fun x23 => bnd (cmpM .NotEq x21 x23) fun c24 => stepT .Or c24 ret (bnd (callN (n + 8) (V.top 1325) [.ref 167, .ref 164, .ref 4, .ref 17]) fun x25 => bnd (boolM x25) fun b26 => stepT .Or (!b26) ret (ret false))) (fun c27 => if c27 = true then A else ret (none, fr ρ')) μ) (TQ ds j D) := by
  obtain ⟨st, H0, iv, g⟩ := d
  exact turn_end g H0 iv hj n fun μ' h => go_ret ⟨_, rfl, st, h, iv⟩
/-- insert and _law_put -/
theorem ins_turn (H0 : HG ds st st.txt μ) (iv : IV ds j D st) (hj : j ≤ 13) (n : Nat) {c : Nat} {w : List Int} (hc : μ[c]? = some (il w)) (fc : Free st.L c) (hw : w.length ≤ 4) (cw : ∀ x ∈ w, 0 ≤ x) {F : V → Mx (Option V × Loc)} {Q : Option V × Loc → Mem → Prop} (k : ∀ v μ', Done ds (j + 1) D v μ' → Go (F v μ') Q) :
    Go ((bnd (callT "list" [.ref c]) fun x13 => bnd (callN (n + 9) (V.top 178) [x13]) fun x14 => bnd (newM (.list [x14])) fun x15 => bnd (callN (n + 9) (V.top 1271) [.ref 164, (V.str "insert"), .ref 4, x15]) fun x16 => bnd (callN (n + 9) (V.top 1292) [.ref 167, .ref c]) fun x18 => bnd (newM (.tup [x16, x18])) F) μ) Q := by
  have tl := iv.tl; have nm := iv.nm; have bl := iv.b.lo; have bp := iv.b.pl; have bq := iv.b.ph; have bh := iv.b.hi
  rw [lst_bnd hc]
  obtain ⟨cs, gs, ge, t1, t2, h, g⟩ := H0
  refine st_new h (szIl (l := w) (by omega)) fun x1 μ1 h1 k1 l1 f1 m1 => ?_
  refine go_bnd (g178 h1 (n + 7) x1) fun v μ2 ⟨x2, hv, h2, k2, l2, f2, m2⟩ => ?_
  subst hv
  refine st_new h2 (by rfl) fun x3 μ3 h3 k3 l3 f3 m3 => ?_
  have H3 : HG ds st st.txt μ3 := ⟨cs, gs, ge, t1, t2, h3, g⟩
  have hd : ∀ (α : Type) (K : V → Mx α), bnd (itemM (.ref 164) (.str "insert")) K μ3 = K (.top 774) μ3 := fun α K => by simp only [R h3]
  have hc3 := k3.get _ _ fc (k2.get _ _ fc (k1.get _ _ fc hc))
  refine go_bnd (told_ok (n + 8) (Q := fun v μ' => ∃ a', v = .ref a' ∧ TdAt st.L μ' a' .nil ∧ HG ds (insB st w.length) (insT st.txt w st.pt) μ' ∧ Keep st.L μ3 μ') hd (by kernel_rfl) (d774 H3 iv.b (n + 2) m3 f3 (k3.get _ _ f2 m2) (k3.get _ _ f1 (k2.get _ _ f1 m1)) (by omega) (by omega)) fun v μ4 ⟨hv, H4, k4⟩ => by
    subst hv
    exact tail_nil H4 fun a' μ9 ha h9 k9 => ⟨a', rfl, ha, h9, k4.trans k9⟩) fun v μ4 ⟨a4, hv, t4, H4, k4⟩ => ?_
  subst hv
  refine go_bnd (g1292 H4 (n + 8) (k4.get _ _ fc hc3) fc (by dsimp only; rw [iv.op]; omega) (by dsimp only; rw [iv.op]; omega) (by dsimp only; omega)) fun v μ5 ⟨a5, x5, hv, t5, H5, k5⟩ => ?_
  subst hv
  rw [show insT st.txt w st.pt = insT st.txt w st.op from by rw [iv.op]] at H5
  refine sg_new H5 (by rfl) fun x6 μ6 H6 k6 l6 f6 m6 => k _ _ ⟨_, H6, iv.ins hw cw, x6, rfl, .inl ⟨_, a4, a5, .nil, m6, (t4.keep k5).keep k6, t5.keep k6⟩⟩
/-- insert-char and _law_put -/
theorem char_turn (H0 : HG ds st st.txt μ) (iv : IV ds j D st) (hj : j ≤ 13) (n : Nat) {i : Int} (i0 : -1 ≤ i) (i1 : i ≤ 3) {F : V → Mx (Option V × Loc)} {Q : Option V × Loc → Mem → Prop} (k : ∀ v μ', Done ds (j + 1) D v μ' → Go (F v μ') Q) :
    Go ((bnd (newM (.list [(V.int 120), .int i])) fun x33 => bnd (callN (n + 9) (V.top 1271) [.ref 164, (V.str "insert-char"), .ref 4, x33]) fun x34 => bnd (newM (.list [(V.int 120)])) fun x35 => bnd (callB "max" [(V.int 0), .int i]) fun x37 => bnd (binM .Mult x35 x37) fun x38 => bnd (callN (n + 9) (V.top 1292) [.ref 167, x38]) fun x39 => bnd (newM (.tup [x34, x39])) F) μ) Q := by
  have tl := iv.tl; have nm := iv.nm; have bl := iv.b.lo; have bp := iv.b.pl; have bq := iv.b.ph; have bh := iv.b.hi
  refine sg_new H0 (by rfl) fun x3 μ3 H3 k3 l3 f3 m3 => ?_
  have hd : ∀ (α : Type) (K : V → Mx α), bnd (itemM (.ref 164) (.str "insert-char")) K μ3 = K (.top 781) μ3 := fun α K => by
    obtain ⟨cs, gs, ge, t1, t2, h, g⟩ := H3
    simp only [R h]
  have b1 : 0 ≤ mx 0 i := by unfold mx; split <;> omega
  have b2 : mx 0 i ≤ 3 := by unfold mx; split <;> omega
  refine go_bnd (told_ok (n + 8) (Q := fun v μ' => ∃ a', v = .ref a' ∧ TdAt st.L μ' a' .nil ∧ HG ds (insB st (mx 0 i)) (insT st.txt (List.replicate (mx 0 i).toNat 120) st.pt) μ' ∧ Keep st.L μ3 μ') hd (by kernel_rfl) (d781 H3 iv.b (n + 2) m3 i0 (by omega) (by omega) (by omega)) fun v μ4 ⟨hv, H4, k4⟩ => by
    subst hv
    exact tail_nil H4 fun a' μ9 ha h9 k9 => ⟨a', rfl, ha, h9, k4.trans k9⟩) fun v μ4 ⟨a4, hv, t4, H4, k4⟩ => ?_
  subst hv
  obtain ⟨cs, gs, ge, t1, t2, h4, g4⟩ := H4
  refine st_new h4 (by rfl) fun x5 μ5 h5 k5 l5 f5 m5 => ?_
  rw [max_mx]
  refine mul_go h5 (v := 120) m5 (by omega) (by omega) fun x6 μ6 h6 k6 l6 f6 m6 => ?_
  have lw : ((List.replicate (mx 0 i).toNat (120 : Int)).length : Int) = mx 0 i := by rw [List.length_replicate]; omega
  have lw' : (List.replicate (mx 0 i).toNat (120 : Int)).length ≤ 4 := by rw [List.length_replicate]; omega
  have cw : ∀ x ∈ List.replicate (mx 0 i).toNat (120 : Int), 0 ≤ x := fun x hx => by rw [(List.mem_replicate.mp hx).2]; decide
  generalize List.replicate (mx 0 i).toNat (120 : Int) = w at *
  refine go_bnd (g1292 (st := insB st (mx 0 i)) (t := insT st.txt w st.pt) ⟨cs, gs, ge, t1, t2, h6, g4⟩ (n + 8) m6 f6 (by dsimp only; rw [iv.op]; omega) (by dsimp only; rw [iv.op]; omega) (by dsimp only; omega)) fun v μ7 ⟨a7, x7, hv, t7, H7, k7⟩ => ?_
  subst hv
  rw [show insT st.txt w st.pt = insT st.txt w st.op from by rw [iv.op], ← lw] at H7
  refine sg_new H7 (by rfl) fun x8 μ8 H8 k8 l8 f8 m8 => k _ _ ⟨_, H8, iv.ins lw' cw, x8, rfl, .inl ⟨_, a4, a7, .nil, m8, (((t4.keep k5).keep k6).keep k7).keep k8, t7.keep k8⟩⟩
theorem turn (H0 : HG ds st st.txt μ) (iv : IV ds j D st) (hj : j ≤ 13) (hD : D ≤ 800) (n : Nat) (v : V) (ρ : Loc) : Go (forTurn (callN (n + 10)) (fnOf 1330).names (stOf 1330 5) v (fr ρ) μ) (TQ ds (j + 1) (D + 5)) := by
  have tl := iv.tl; have nm := iv.nm
  rw [t1330]
  refine go_bnd (draw H0 iv (by omega) (n + 9) (m := 5) (by omega) (by omega)) fun v1 μ1 ⟨r, hv, r0, r1, H1, iv1, k1⟩ => ?_
  subst hv
  generalize st.dr = s at H1 iv1
  have mono : ∀ {D' : Int} {q : Option V × Loc} {ν : Mem}, D' ≤ D + 5 → TQ ds (j + 1) D' q ν → TQ ds (j + 1) (D + 5) q ν := fun h ⟨ρ, hq, st, a, b⟩ => ⟨ρ, hq, st, a, b.mono (Nat.le_refl _) h⟩
  have hr : r = 0 ∨ r = 1 ∨ r = 2 ∨ r = 3 ∨ r = 4 := by omega
  rcases hr with rfl | rfl | rfl | rfl | rfl
  · simp only [look, P, decide_true, ↓reduceIte]
    refine sg_new H1 (by rfl) fun x4 μ4 H4 k4 l4 f4 m4 => ?_
    refine sg_new H4 (by rfl) fun x5 μ5 H5 k5 l5 f5 m5 => ?_
    refine sg_new H5 (by rfl) fun x6 μ6 H6 k6 l6 f6 m6 => ?_
    obtain ⟨cs, gs, ge, t1, t2, h6, g6⟩ := H6
    refine st_new h6 (by rfl) fun x7 μ7 h7 k7 l7 f7 m7 => ?_
    refine mul_go h7 (v := 103) m7 (by omega) (by omega) fun x8 μ8 h8 k8 l8 f8 m8 => ?_
    have H8 : HG ds s s.txt μ8 := ⟨cs, gs, ge, t1, t2, h8, g6⟩
    refine sg_new H8 (by rfl) fun x9 μ9 H9 k9 l9 f9 m9 => ?_
    refine go_bnd (draw H9 iv1 (by omega) (n + 9) (m := 4) (by omega) (by omega)) fun v2 μ10 ⟨q, hv, q0, q1, H10, iv2, k10⟩ => ?_
    subst hv
    have m9' := k10.get _ _ f9 m9
    have z8 := k10.get _ _ f8 (k9.get _ _ f8 m8)
    have z6 := k10.get _ _ f6 (k9.get _ _ f6 (k8.get _ _ f6 (k7.get _ _ f6 m6)))
    have z5 := k10.get _ _ f5 (k9.get _ _ f5 (k8.get _ _ f5 (k7.get _ _ f5 (k6.get _ _ f5 m5))))
    have z4 := k10.get _ _ f4 (k9.get _ _ f4 (k8.get _ _ f4 (k7.get _ _ f4 (k6.get _ _ f4 (k5.get _ _ f4 m4)))))
    have sel : ∃ c w, μ10[c]? = some (il w) ∧ Free s.L c ∧ w.length ≤ 4 ∧ (∀ x ∈ w, (0 : Int) ≤ x) ∧ ∀ K : V → Mx (Option V × Loc), bnd (itemM (.ref x9) (.int q)) K μ10 = K (.ref c) μ10 := by
      have hq : q = 0 ∨ q = 1 ∨ q = 2 ∨ q = 3 := by omega
      rcases hq with rfl | rfl | rfl | rfl
      · exact ⟨x4, [101], z4, f4, by decide, by decide, fun K => item_bnd m9' (by decide) rfl K⟩
      · exact ⟨x5, [102, 10], z5, f5, by decide, by decide, fun K => item_bnd m9' (by decide) rfl K⟩
      · exact ⟨x6, [], z6, f6, by decide, by decide, fun K => item_bnd m9' (by decide) rfl K⟩
      · exact ⟨x8, _, z8, f8, by decide, by decide, fun K => item_bnd m9' (by decide) rfl K⟩
    obtain ⟨c, w, hc, fc, hw, cw, hs⟩ := sel
    rw [hs]
    refine ins_turn (st := s.dr) H10 iv2 hj (n + 1) hc fc hw cw fun v μ' d => ?_
    exact go_mono (end_of d (by omega) (n + 2)) fun q ν => mono (by omega)
  · simp only [look, P, decide_true, ↓reduceIte]
    have e01 : decide ((1 : Int) = 0) = false := by decide
    simp only [e01, Bool.false_eq_true, ↓reduceIte, look, P, decide_true]
    refine go_bnd (draw H1 iv1 (by omega) (n + 9) (m := 4) (by omega) (by omega)) fun v2 μ2 ⟨q, hv, q0, q1, H2, iv2, k2⟩ => ?_
    subst hv
    simp only [P]
    refine char_turn (st := s.dr) H2 iv2 hj (n + 1) (by omega) (by omega) fun v μ' d => ?_
    exact go_mono (end_of d (by omega) (n + 2)) fun q ν => mono (by omega)
  · have e0 : decide ((2 : Int) = 0) = false := by decide
    have e1 : decide ((2 : Int) = 1) = false := by decide
    simp only [look, P, e0, e1, decide_true, Bool.false_eq_true, ↓reduceIte]
    refine go_bnd (g1306 H1 iv1 hj (by omega) (n + 1)) fun v μ' d => ?_
    exact go_mono (end_of d (by omega) (n + 2)) fun q ν => mono (by omega)
  · have e0 : decide ((3 : Int) = 0) = false := by decide
    have e1 : decide ((3 : Int) = 1) = false := by decide
    have e2 : decide ((3 : Int) = 2) = false := by decide
    simp only [look, P, e0, e1, e2, decide_true, Bool.false_eq_true, ↓reduceIte]
    refine go_bnd (g1313 H1 iv1 hj (by omega) (n + 1)) fun v μ2 ⟨hv, s', H2, iv2⟩ => ?_
    subst hv
    refine sg_new H2 (by rfl) fun x3 μ3 H3 k3 l3 f3 m3 => ?_
    exact go_mono (end_of ⟨s', H3, iv2, x3, rfl, .inr m3⟩ (by omega) (n + 2)) fun q ν => mono (by omega)
  · have e0 : decide ((4 : Int) = 0) = false := by decide
    have e1 : decide ((4 : Int) = 1) = false := by decide
    have e2 : decide ((4 : Int) = 2) = false := by decide
    have e3 : decide ((4 : Int) = 3) = false := by decide
    simp only [look, P, e0, e1, e2, e3, Bool.false_eq_true, ↓reduceIte]
    refine go_bnd (g1320 H1 iv1 hj (by omega) (n + 1)) fun v μ' d => ?_
    exact go_mono (end_of d (by omega) (n + 2)) fun q ν => mono (by omega)
theorem loop (n : Nat) : ∀ (m i j : Nat) (D : Int) (ρ : Loc) (st : St) (μ : Mem), HG ds st st.txt μ → IV ds j D st → j + m ≤ 14 → D + 5 * m ≤ 800 → Go (rangeM (forTurn (callN (n + 10)) (fnOf 1330).names (stOf 1330 5)) m i (fr ρ) μ) fun q _ => ∃ ρ', q = (none, fr ρ')
  | 0, i, j, D, ρ, st, μ, H0, iv, h1, h2 => by rw [rangeM]; exact go_ret ⟨_, rfl⟩
  | m + 1, i, j, D, ρ, st, μ, H0, iv, h1, h2 => by
    rw [rangeM]
    refine go_bnd (turn H0 iv (by omega) (by push_cast at h2; omega) n _ ρ) fun q μ1 ⟨ρ', hq, st', H1, iv1⟩ => ?_
    subst hq
    exact loop n m (i + 1) (j + 1) (D + 5) ρ' st' μ1 H1 iv1 (by omega) (by push_cast at h2; omega)
end
/-! ## The law on the mini evaluator -/
theorem b1330 (i : Nat) (h : i < 7) : (fnOf 1330).body.drop i = stOf 1330 i :: (fnOf 1330).body.drop (i + 1) := by
  have e : (fnOf 1330).body.length = 7 := by kernel_rfl
  rw [List.drop_eq_getElem_cons (by omega)]
  unfold stOf
  rw [List.getElem?_eq_getElem (by omega)]; rfl
theorem kSs_append {α : Type} {C : CallT} {k : Kinds} : ∀ (l r : List Stmt) (ρ : Loc) (K : Option V × Loc → Mx α), kSs C k (l ++ r) ρ K = kSs C k l ρ fun q => seqK q K fun ρ' => kSs C k r ρ' K
  | [], r, ρ, K => by rw [List.nil_append, kSs]; rfl
  | s :: l, r, ρ, K => by
    rw [List.cons_append, kSs, kSs]
    congr 1
    funext q
    obtain ⟨o, ρ'⟩ := q
    cases o with
    | some v => rfl
    | none => exact kSs_append l r ρ' K
theorem s1330_0 (C : CallT) (K : Option V × Loc → Mx V) (a0 : V) : kS C (fnOf 1330).names (stOf 1330 0) [("script", a0)] K = bnd (sliceM a0 .none (.int 63)) fun x1 => bnd (listOfM x1) fun p2 => bnd (compM p2.1 p2.2 (fun w => noExc (bnd (callB "abs" [w]) fun x => ret x)) p2.2) fun ws => bnd (newM (.list ws)) fun x3 => bnd (newM (.list [x3, .int 0])) fun x4 => bnd (C (.top 1253) []) fun x5 => bnd (newM (.list [])) fun x6 => bnd (newM (.tup [x4, x5, x6])) fun _ => K (none, [("script", a0), ("things", x6), ("world", x5), ("deck", x4)]) := by kernel_rfl
theorem s1330_5 (C : CallT) (K : Option V × Loc → Mx V) : kS C (fnOf 1330).names (stOf 1330 5) (fr []) K = bnd (sliceM (.ref 0) .none (.int 36)) fun x => bnd (callB "len" [x]) fun y => bnd (binM .FloorDiv y (.int 4)) fun z => bnd (binM .Add (.int 3) z) fun v => rangeK v (forTurn C (fnOf 1330).names (stOf 1330 5)) (fr []) K := by kernel_rfl
theorem e1330 {C : CallT} {ρ : Loc} {K : Option V × Loc → Mx V} : kSs C (fnOf 1330).names ((fnOf 1330).body.drop 6) (fr ρ) K = K (some (.bool true), fr ρ) := by kernel_rfl
def st0 : St := { dk := 0, pt := 6, lo := 1, hi := 6, t1 := 3, t2 := 3, cells := [97, 98, 10, 99, 100, 0, 0, 0], gs := 5, ge := 8, lm := 0, ths := [], thl := [], mks := [], op := 6, ol := 1, oh := 6, txa := 190, txt := [97, 98, 10, 99, 100], sps := [], spv := [] }
theorem H_0 (o0 o1 : MO) (ds : List Int) : H ds st0 (L5 o0 o1 (il ds)) := by
  refine ⟨fun q hq => ?_, fun q hq => ?_, fun q hq => ?_, by kernel_rfl, rfl, rfl, by decide, fun a ha => (by cases ha), fun a ha => (by cases ha), List.nodup_nil, by simp [st0]⟩
  · simp only [fixL, List.mem_cons, List.not_mem_nil, or_false] at hq
    rcases hq with rfl | rfl | rfl | rfl | rfl | rfl | rfl | rfl | rfl | rfl | rfl | rfl | rfl <;> kernel_rfl
  · unfold mkL st0 at hq; cases hq
  · unfold spL st0 at hq; cases hq
theorem HG_0 (o0 o1 : MO) (ds : List Int) : HG ds st0 st0.txt (L5 o0 o1 (il ds)) := ⟨_, _, _, _, _, H_0 o0 o1 ds, ⟨by decide, by decide, by decide, by decide, by decide⟩⟩
theorem IV_0 {ds : List Int} (hd : ds.length ≤ 63) : IV ds 0 0 st0 := ⟨rfl, rfl, rfl, ⟨by decide, by decide, by decide, by decide⟩, by decide, rfl, rfl, rfl, by decide, by decide, by decide, by decide, hd⟩
theorem srcOf_src {α : Type} {μ : Mem} {a : Nat} {xs : List V} (hm : μ[a]? = some (.src xs)) (K : List V → Mx α) : bnd (srcOfM (.ref a)) K μ = K xs μ := by
  refine bnd_val ?_
  show bnd (getM a) _ μ = _
  exact (bnd_val (a := .src xs) (μ' := μ) (by unfold getM; rw [hm]; rfl)).trans rfl
theorem src_slice {α : Type} {μ : Mem} {a : Nat} {l : List Int} {j : Int} (hm : μ[a]? = some (.src (l.map .int))) (hl : l.length ≤ 1000) (hj : 0 ≤ j) (hj' : j ≤ 100000) (K : V → Mx α) : bnd (sliceM (.ref a) .none (.int j)) K μ = K (.ref μ.length) (μ ++ [il (l.take j.toNat)]) := by
  unfold sliceM
  rw [bnd_assoc, srcOf_src hm, bnd_assoc, sl_n hj hj']
  show bnd (newM _) K μ = _
  rw [il_cut, List.drop_zero, show l.take (min j.toNat l.length) = l.take j.toNat from by rw [← List.take_take, List.take_length]]
  exact new_bnd (szIl (by simp; omega)) K
theorem law_mini (xs : List Int) (hx : xs.length ≤ 63) : ∃ μ', callN 20 (.top 1330) [.ref 0] [.src (xs.map .int)] = some (.ok (.bool true), μ') := by
  suffices h : Go (callN 20 (.top 1330) [.ref 0] [.src (xs.map .int)]) fun v _ => v = .bool true by
    obtain ⟨v, μ', e, rfl⟩ := h
    exact ⟨μ', e⟩
  rw [callF (n := 19) (by kernel_rfl), runFn_k (callN 19) (fnOf 1330) _ [("script", .ref 0)] (by kernel_rfl)]
  rw [show (fnOf 1330).body = (fnOf 1330).body.drop 0 from rfl, kSs_drop (b1330 0 (by omega)), s1330_0]
  rw [src_slice (l := xs) rfl (by omega) (by omega) (by omega)]
  have m1 : ([.src (xs.map V.int)] ++ [il (xs.take 63)] : Mem)[1]? = some (.list ((xs.take 63).map .int)) := rfl
  rw [show (List.length [MO.src (xs.map V.int)]) = 1 from rfl, show ((63 : Int).toNat) = 63 from rfl, listOf_bnd m1]
  have c := comp_go (a := 1) (all := (xs.take 63).map V.int) (elt := fun w => noExc (bnd (callB "abs" [w]) fun x => ret x)) (fun μ => μ = [.src (xs.map V.int)] ++ [il (xs.take 63)]) (fun μ i => by rw [i]; exact m1) ((xs.take 63).map fun i => (V.int i, V.int (i.natAbs : Int))) (fun p hp μ i => by
    obtain ⟨i', _, rfl⟩ := List.mem_map.mp hp
    exact noExc_go (go_ret ⟨rfl, i⟩)) _ rfl
  rw [List.map_map, List.map_map, show ((fun x => x.1) ∘ fun i => (V.int i, V.int (i.natAbs : Int))) = V.int from rfl, show ((fun x => x.2) ∘ fun i : Int => (V.int i, V.int (i.natAbs : Int))) = V.int ∘ fun i : Int => (i.natAbs : Int) from rfl, ← List.map_map] at c
  refine go_bnd c fun ws μ1 ⟨hws, hμ⟩ => ?_
  subst hws; subst hμ
  have hd : ((xs.take 63).map fun i : Int => (i.natAbs : Int)).length ≤ 63 := by simp; omega
  generalize ((xs.take 63).map fun i : Int => (i.natAbs : Int)) = ds at hd ⊢
  rw [new_bnd (o := .list (ds.map .int)) (szIl (l := ds) (by omega)), new_bnd (by rfl)]
  have em : (callN 19 (.top 1253) [] : Mx V) = callN 19 (.top 1253) [] := rfl
  refine go_eq (y := bnd mid (fun q => seqK q (fun r => ret (r.1.getD .none)) fun ρ' => kSs (callN 19) (fnOf 1330).names ((fnOf 1330).body.drop 5) ρ' fun r => ret (r.1.getD .none)) [.src (xs.map V.int), il (xs.take 63), il ds, .list [.ref 2, .int 0]]) ?_ ?_
  · unfold mid
    rw [bnd_assoc]
    refine congrFun (bnd_congr _ fun w => ?_) _
    rw [bnd_assoc]
    refine bnd_congr _ fun th => ?_
    rw [bnd_assoc]
    refine bnd_congr _ fun _ => ?_
    rw [seq_none, ← kSs_eq]
    exact kSs_append midS ((fnOf 1330).body.drop 5) _ _
  rw [bnd_val (mid_eq _ _ _), show rho5 = fr [] from rfl, seq_none, kSs_drop (b1330 5 (by omega)), s1330_5]
  rw [src_slice (l := xs) (by kernel_rfl) (by omega) (by omega) (by omega)]
  have H1 := (HG_0 (.src (xs.map V.int)) (il (xs.take 63)) ds).push (il (xs.take (36 : Int).toNat))
  rw [len_bnd (l := xs.take (36 : Int).toNat) (last_get _), div_bnd (by omega) (by omega)]
  have hq : 0 ≤ ((xs.take (36 : Int).toNat).length : Int).fdiv 4 ∧ ((xs.take (36 : Int).toNat).length : Int).fdiv 4 ≤ 9 := by
    rw [Int.fdiv_eq_ediv_of_nonneg _ (by omega)]
    have : (xs.take (36 : Int).toNat).length ≤ 36 := by simp; omega
    omega
  generalize ((xs.take (36 : Int).toNat).length : Int).fdiv 4 = q at hq ⊢
  simp only [P]
  unfold rangeK
  dsimp only
  rw [if_pos (small_of (by omega) (by omega))]
  refine go_bnd (loop 9 (3 + q).toNat 0 0 0 [] st0 _ H1 (IV_0 hd) (by omega) (by omega)) fun q μ2 ⟨ρ, hq⟩ => ?_
  subst hq
  rw [seq_none, e1330]
  exact go_ret rfl
/-! ## The join -/
theorem ns_hide {h : Heap} {l a : Addr} {m : Str → Option Value} {ol : Obj} {vs : Array Value} {nn : Nat} (hl : h.get? l = some ol) (hd : ol.data = .seq vs nn) (n : h.Ns a m) : (h.hide l).Ns a m := by
  obtain ⟨o, es, ep, h1, h2, h3⟩ := n
  have : a ≠ l := by
    intro e; subst e
    rw [hl] at h1; cases h1
    rw [hd] at h2; cases h2
  exact ⟨o, es, ep, by rw [Heap.hide_ne _ this]; exact h1, h2, h3⟩
theorem all2_ints {K : Frag} {as : List Addr} : ∀ {vs : List Value} {xs : List Int}, IntsAre vs xs → All2 (VR K as) (xs.map .int) vs
  | [], [], h => .nil
  | v :: vs, x :: xs, h => by
    cases h
    exact .cons .int (all2_ints (by assumption))
theorem lt_get {h : Heap} {a : Addr} {o : Obj} (e : h.get? a = some o) : a < h.objs.size := by
  rcases Nat.lt_or_ge a h.objs.size with z | z
  · exact z
  · unfold Heap.get? at e
    rw [Array.getElem?_eq_none z] at e
    cases e
theorem join {q : Program} {loose : List Str} {XP : (Str → Option Value) → Heap → Prop} {d : DefRec} (hdn : d.name = "law") : WalkO q loose XP hook.says Challenge.rw_ok0072_01.row.toRowW d [] fun f vs => PySem.call f vs := by
  intro w s₀ s₁ mg mb G Y a o pm cd doc dV kV ho hd hcd hD hmg hg args vals as hpre hlay hrd hwl hlo
  have hlo' := hlo
  wrow_args hpre hlay hrd hwl hlo
  rename_i xs _ _ _ _ _ as1 as2 l vs ws hL ra w1 r0 hI hr hc1 hc2
  obtain ⟨ol, hl, hlc, nn, hld⟩ := hL
  obtain ⟨K, hK, hk⟩ := Y
  simp only [chk, good, Prod.mk.injEq] at hk
  obtain ⟨⟨k1, k2, k3⟩, ⟨k4, k5, k6⟩, ⟨k7, k8, k9⟩, k10⟩ := hk
  rw [Bool.and_eq_true] at k5
  have hne : ∀ b o, K.lookup b = some o → b ≠ l := by
    intro b o hb e
    subst e
    have := hK b o hb
    rw [hl] at this; cases this
    have := List.all_eq_true.mp k5.2 _ (lookup_mem hb)
    simp only [hlc] at this
    simp at this
  have hKb : K.In (s₁.heap.hide l) := fun b o hb => by rw [Heap.hide_ne _ (hne b o hb)]; exact hK b o hb
  have T : TopOk K mg mb (s₁.heap.hide l) := by
    refine ⟨hKb, ns_hide hl hld G.T.g, ns_hide hl hld G.T.b, ?_, G.T.builtins, ?_, k4, k5.1, k7, k8, k9, k6, k10⟩
    · obtain ⟨mc, h1, h2⟩ := G.T.nolimit
      exact ⟨mc, ns_hide hl hld h1, h2⟩
    · rw [k1, k2, k3]; rfl
  have hls : l ≠ sysModules := by
    intro e
    have hm : l ∈ as1 := by
      cases r0
      exact .head _
    have := hlo' l (List.mem_append_left _ hm)
    rw [e] at this
    simp at this
  have ha : a = 1330 := by
    obtain ⟨v, h1, h2⟩ := glob_of (x := "law") (v := .top 1330) hKb T.g T.gl (by kernel_rfl)
    rw [hdn, h1] at hmg
    injection hmg with hmg
    have := h2 []
    rw [hmg] at this
    cases this
    rfl
  subst ha
  obtain ⟨μ', hrun⟩ := law_mini xs (by omega)
  have h1330 : (K.lookup 1330).isSome = true := by
    obtain ⟨v, h1, h2⟩ := glob_of (x := "law") (v := .top 1330) hKb T.g T.gl (by kernel_rfl)
    have := h2 []
    cases this
    assumption
  refine law_call T (fun b o hb => ?_) (Heap.hide_size _ _) ?_ (fun b o hb hn => by rw [Heap.hide_ne _ hn]; exact hb) hl (Heap.hide_self _ _) hls hlc hld (all2_ints hI) (by unfold big; simp; omega) hg hrun fun s' keep hos hgens => ?_
  · by_cases e : b = l
    · subst e; rw [Heap.hide_self] at hb; cases hb
    · rw [Heap.hide_ne _ e] at hb; exact hb
  · rw [Heap.hide_size]
    obtain ⟨o', ho'⟩ := Option.isSome_iff_exists.mp h1330
    exact Nat.lt_trans (by decide) (lt_get (hK _ _ ho'))
  · refine GoodW.toG ⟨.inl ⟨.bool true, .bool true, [], rfl, fun _ => rfl, .bool true, ?_, fun _ => ⟨List.nodup_nil, fun _ h => by cases h⟩⟩, keep, hos, hgens⟩
    kernel_rfl
end Mine
set_option Elab.async false in
set_option maxRecDepth 100000 in
set_option maxHeartbeats 80000000 in
theorem PySem.Challenge.cw_ok0072_01_holds : PySem.Challenge.rw_ok0072_01.Holds := by
  w_on
  o_law
  o_head Mine.hook
  (case hw => w_witness2)
  exact Mine.join rfl
