import PyProof.Rows.All
import Wide.All
import OpenK.AllK
import Wide.FinOn
import PySem.Challenge.RW_ok0072_01
open PySem PySem.W PyProof.Rows
set_option Elab.async false
set_option maxRecDepth 100000
set_option maxHeartbeats 80000000
set_option linter.all false
set_option tactic.hygienic false
namespace Mine
inductive V where
  | none | bool (b : Bool) | int (i : Int) | str (s : Str) | ref (a : Nat) | top (a : Addr) | ty (n : String) | bi (n : String)
  deriving DecidableEq
noncomputable def fnT : List (Addr × Str × Nat × Option Nat) := [
  (35, ("GapText.__init__" : Str), 2, (some 0 : Option Nat)),
  (42, ("GapText.size" : Str), 2, (some 1 : Option Nat)),
  (49, ("GapText.code" : Str), 2, (some 2 : Option Nat)),
  (56, ("GapText.codes" : Str), 2, (some 3 : Option Nat)),
  (63, ("GapText.move_gap" : Str), 2, (some 4 : Option Nat)),
  (70, ("GapText.widen_gap" : Str), 2, (some 5 : Option Nat)),
  (77, ("GapText.insert" : Str), 2, (some 6 : Option Nat)),
  (84, ("GapText.delete" : Str), 2, (some 7 : Option Nat)),
  (126, ("Symbol.__init__" : Str), 4, (some 0 : Option Nat)),
  (175, ("Text.__init__" : Str), 8, (some 0 : Option Nat)),
  (196, ("Subr.__init__" : Str), 9, (some 0 : Option Nat)),
  (245, ("is_whole" : Str), 11, (none : Option Nat)),
  (252, ("boolean" : Str), 12, (none : Option Nat)),
  (266, ("Marker.__init__" : Str), 14, (some 0 : Option Nat)),
  (306, ("Markers.__init__" : Str), 15, (some 0 : Option Nat)),
  (313, ("Markers.numbers" : Str), 15, (some 1 : Option Nat)),
  (320, ("Markers.put" : Str), 15, (some 2 : Option Nat)),
  (327, ("Markers.drop" : Str), 15, (some 3 : Option Nat)),
  (341, ("Markers.inserted" : Str), 15, (some 5 : Option Nat)),
  (348, ("Markers.deleted" : Str), 15, (some 6 : Option Nat)),
  (377, ("Buffer.__init__" : Str), 17, (some 0 : Option Nat)),
  (398, ("Buffer.begin" : Str), 17, (some 3 : Option Nat)),
  (405, ("Buffer.end" : Str), 17, (some 4 : Option Nat)),
  (412, ("Buffer.size" : Str), 17, (some 5 : Option Nat)),
  (419, ("Buffer.code_at" : Str), 17, (some 6 : Option Nat)),
  (426, ("Buffer.codes" : Str), 17, (some 7 : Option Nat)),
  (433, ("Buffer.goto" : Str), 17, (some 8 : Option Nat)),
  (447, ("Buffer.is_modified" : Str), 17, (some 10 : Option Nat)),
  (454, ("Buffer.set_modified" : Str), 17, (some 11 : Option Nat)),
  (461, ("Buffer.touch" : Str), 17, (some 12 : Option Nat)),
  (480, ("LispSignal.__init__" : Str), 19, (some 0 : Option Nat)),
  (493, ("need_writable" : Str), 21, (none : Option Nat)),
  (500, ("reached" : Str), 22, (none : Option Nat)),
  (507, ("tell_ahead" : Str), 23, (none : Option Nat)),
  (514, ("tell_behind" : Str), 24, (none : Option Nat)),
  (521, ("text_out" : Str), 25, (none : Option Nat)),
  (528, ("text_in" : Str), 26, (none : Option Nat)),
  (535, ("hung_out" : Str), 27, (none : Option Nat)),
  (542, ("hung_in" : Str), 28, (none : Option Nat)),
  (549, ("put_in" : Str), 29, (none : Option Nat)),
  (557, ("insert" : Str), 30, (none : Option Nat)),
  (564, ("delete" : Str), 31, (none : Option Nat)),
  (571, ("erase" : Str), 32, (none : Option Nat)),
  (578, ("narrow" : Str), 34, (none : Option Nat)),
  (585, ("widen" : Str), 35, (none : Option Nat)),
  (592, ("number_of" : Str), 37, (none : Option Nat)),
  (599, ("set_marker" : Str), 39, (none : Option Nat)),
  (606, ("char_after" : Str), 42, (none : Option Nat)),
  (613, ("char_before" : Str), 43, (none : Option Nat)),
  (620, ("is_bob" : Str), 44, (none : Option Nat)),
  (627, ("is_eob" : Str), 45, (none : Option Nat)),
  (634, ("is_bol" : Str), 46, (none : Option Nat)),
  (641, ("is_eol" : Str), 47, (none : Option Nat)),
  (648, ("substring" : Str), 48, (none : Option Nat)),
  (655, ("buffer_here" : Str), 52, (none : Option Nat)),
  (662, ("sign_in" : Str), 53, (none : Option Nat)),
  (669, ("marker_in" : Str), 54, (none : Option Nat)),
  (676, ("place_in" : Str), 55, (none : Option Nat)),
  (683, ("own_point" : Str), 56, (none : Option Nat)),
  (690, ("point_min" : Str), 57, (none : Option Nat)),
  (697, ("point_max" : Str), 58, (none : Option Nat)),
  (704, ("goto_char" : Str), 59, (none : Option Nat)),
  (711, ("code_or_nil" : Str), 60, (none : Option Nat)),
  (718, ("char_after_place" : Str), 61, (none : Option Nat)),
  (725, ("char_before_place" : Str), 62, (none : Option Nat)),
  (732, ("following_char" : Str), 63, (none : Option Nat)),
  (739, ("preceding_char" : Str), 64, (none : Option Nat)),
  (746, ("at_begin" : Str), 65, (none : Option Nat)),
  (753, ("at_end" : Str), 66, (none : Option Nat)),
  (760, ("at_line_begin" : Str), 67, (none : Option Nat)),
  (767, ("at_line_end" : Str), 68, (none : Option Nat)),
  (774, ("insert_all" : Str), 69, (none : Option Nat)),
  (781, ("insert_char" : Str), 70, (none : Option Nat)),
  (788, ("delete_region" : Str), 71, (none : Option Nat)),
  (795, ("erase_buffer" : Str), 72, (none : Option Nat)),
  (802, ("buffer_substring" : Str), 73, (none : Option Nat)),
  (809, ("buffer_string" : Str), 74, (none : Option Nat)),
  (816, ("buffer_size" : Str), 75, (none : Option Nat)),
  (823, ("narrow_to_region" : Str), 76, (none : Option Nat)),
  (830, ("widen_all" : Str), 77, (none : Option Nat)),
  (837, ("was_changed" : Str), 78, (none : Option Nat)),
  (844, ("tell_changed" : Str), 79, (none : Option Nat)),
  (851, ("new_marker" : Str), 80, (none : Option Nat)),
  (858, ("point_marker" : Str), 81, (none : Option Nat)),
  (865, ("copy_marker" : Str), 82, (none : Option Nat)),
  (872, ("put_marker" : Str), 83, (none : Option Nat)),
  (879, ("marker_position" : Str), 84, (none : Option Nat)),
  (886, ("marker_buffer" : Str), 85, (none : Option Nat)),
  (893, ("marker_advances" : Str), 86, (none : Option Nat)),
  (900, ("set_marker_advances" : Str), 87, (none : Option Nat)),
  (907, ("place_rows" : Str), 88, (none : Option Nat)),
  (914, ("text_rows" : Str), 89, (none : Option Nat)),
  (921, ("marker_rows" : Str), 90, (none : Option Nat)),
  (928, ("buffer_prims" : Str), 91, (none : Option Nat)),
  (942, ("Cells.__init__" : Str), 94, (some 0 : Option Nat)),
  (1026, ("Obarray.__init__" : Str), 96, (some 0 : Option Nat)),
  (1033, ("Obarray.intern" : Str), 96, (some 1 : Option Nat)),
  (1047, ("Obarray.fresh" : Str), 96, (some 3 : Option Nat)),
  (1103, ("Variables.__init__" : Str), 98, (some 0 : Option Nat)),
  (1166, ("Locals.__init__" : Str), 99, (some 0 : Option Nat)),
  (1222, ("World.__init__" : Str), 101, (some 0 : Option Nat)),
  (1243, ("World.fresh_marker" : Str), 101, (some 3 : Option Nat)),
  (1264, ("_law_draw" : Str), 103, (none : Option Nat)),
  (1271, ("_law_told" : Str), 104, (none : Option Nat)),
  (1278, ("_law_place" : Str), 105, (none : Option Nat)),
  (1285, ("_law_sign" : Str), 106, (none : Option Nat)),
  (1292, ("_law_put" : Str), 107, (none : Option Nat)),
  (1299, ("_law_cut" : Str), 108, (none : Option Nat)),
  (1306, ("_law_region" : Str), 109, (none : Option Nat)),
  (1313, ("_law_marked" : Str), 110, (none : Option Nat)),
  (1320, ("_law_simple" : Str), 111, (none : Option Nat)),
  (1325, ("_law_is_right" : Str), 112, (none : Option Nat)),
  (1330, ("law" : Str), 113, (none : Option Nat))]
noncomputable def glT : List (Str × V) := [
  (("GapText" : Str), V.top 108),
  (("Symbol" : Str), V.top 129),
  (("NIL" : Str), V.top 135),
  (("T" : Str), V.top 138),
  (("Text" : Str), V.top 178),
  (("Subr" : Str), V.top 199),
  (("Opaque" : Str), V.top 234),
  (("is_whole" : Str), V.top 245),
  (("boolean" : Str), V.top 252),
  (("Marker" : Str), V.top 290),
  (("Markers" : Str), V.top 358),
  (("Buffer" : Str), V.top 464),
  (("LispSignal" : Str), V.top 483),
  (("need_writable" : Str), V.top 493),
  (("reached" : Str), V.top 500),
  (("tell_ahead" : Str), V.top 507),
  (("tell_behind" : Str), V.top 514),
  (("text_out" : Str), V.top 521),
  (("text_in" : Str), V.top 528),
  (("hung_out" : Str), V.top 535),
  (("hung_in" : Str), V.top 542),
  (("put_in" : Str), V.top 549),
  (("insert" : Str), V.top 557),
  (("delete" : Str), V.top 564),
  (("erase" : Str), V.top 571),
  (("narrow" : Str), V.top 578),
  (("widen" : Str), V.top 585),
  (("number_of" : Str), V.top 592),
  (("set_marker" : Str), V.top 599),
  (("NEWLINE" : Str), V.int (10)),
  (("char_after" : Str), V.top 606),
  (("char_before" : Str), V.top 613),
  (("is_bob" : Str), V.top 620),
  (("is_eob" : Str), V.top 627),
  (("is_bol" : Str), V.top 634),
  (("is_eol" : Str), V.top 641),
  (("substring" : Str), V.top 648),
  (("NOTHING" : Str), V.int (-1)),
  (("BEHIND_SIGNS" : Str), V.int (1114112)),
  (("buffer_here" : Str), V.top 655),
  (("sign_in" : Str), V.top 662),
  (("marker_in" : Str), V.top 669),
  (("place_in" : Str), V.top 676),
  (("own_point" : Str), V.top 683),
  (("point_min" : Str), V.top 690),
  (("point_max" : Str), V.top 697),
  (("goto_char" : Str), V.top 704),
  (("code_or_nil" : Str), V.top 711),
  (("char_after_place" : Str), V.top 718),
  (("char_before_place" : Str), V.top 725),
  (("following_char" : Str), V.top 732),
  (("preceding_char" : Str), V.top 739),
  (("at_begin" : Str), V.top 746),
  (("at_end" : Str), V.top 753),
  (("at_line_begin" : Str), V.top 760),
  (("at_line_end" : Str), V.top 767),
  (("insert_all" : Str), V.top 774),
  (("insert_char" : Str), V.top 781),
  (("delete_region" : Str), V.top 788),
  (("erase_buffer" : Str), V.top 795),
  (("buffer_substring" : Str), V.top 802),
  (("buffer_string" : Str), V.top 809),
  (("buffer_size" : Str), V.top 816),
  (("narrow_to_region" : Str), V.top 823),
  (("widen_all" : Str), V.top 830),
  (("was_changed" : Str), V.top 837),
  (("tell_changed" : Str), V.top 844),
  (("new_marker" : Str), V.top 851),
  (("point_marker" : Str), V.top 858),
  (("copy_marker" : Str), V.top 865),
  (("put_marker" : Str), V.top 872),
  (("marker_position" : Str), V.top 879),
  (("marker_buffer" : Str), V.top 886),
  (("marker_advances" : Str), V.top 893),
  (("set_marker_advances" : Str), V.top 900),
  (("place_rows" : Str), V.top 907),
  (("text_rows" : Str), V.top 914),
  (("marker_rows" : Str), V.top 921),
  (("buffer_prims" : Str), V.top 928),
  (("Cells" : Str), V.top 1008),
  (("Obarray" : Str), V.top 1085),
  (("Variables" : Str), V.top 1148),
  (("Locals" : Str), V.top 1204),
  (("World" : Str), V.top 1253),
  (("_law_draw" : Str), V.top 1264),
  (("_law_told" : Str), V.top 1271),
  (("_law_place" : Str), V.top 1278),
  (("_law_sign" : Str), V.top 1285),
  (("_law_put" : Str), V.top 1292),
  (("_law_cut" : Str), V.top 1299),
  (("_law_region" : Str), V.top 1306),
  (("_law_marked" : Str), V.top 1313),
  (("_law_simple" : Str), V.top 1320),
  (("_law_is_right" : Str), V.top 1325),
  (("law" : Str), V.top 1330)]
noncomputable def clT : List (Addr × List Str × List (Str × Addr)) := [
  (108, [("room" : Str), ("cells" : Str), ("gap_start" : Str), ("gap_end" : Str)], [(("__init__" : Str), 35), (("size" : Str), 42), (("code" : Str), 49), (("codes" : Str), 56), (("move_gap" : Str), 63), (("widen_gap" : Str), 70), (("insert" : Str), 77), (("delete" : Str), 84)]),
  (129, [("number" : Str), ("name" : Str)], [(("__init__" : Str), 126)]),
  (178, [("codes" : Str), ("spans" : Str)], [(("__init__" : Str), 175)]),
  (199, [("number" : Str), ("name" : Str), ("least" : Str), ("most" : Str), ("deed" : Str)], [(("__init__" : Str), 196)]),
  (234, [], []),
  (290, [("number" : Str), ("advances" : Str), ("buffer" : Str), ("position" : Str)], [(("__init__" : Str), 266)]),
  (358, [("rows" : Str)], [(("__init__" : Str), 306), (("numbers" : Str), 313), (("put" : Str), 320), (("drop" : Str), 327), (("inserted" : Str), 341), (("deleted" : Str), 348)]),
  (464, [("number" : Str), ("name" : Str), ("text" : Str), ("markers" : Str), ("point" : Str), ("begv" : Str), ("zv" : Str), ("mark" : Str), ("is_live" : Str), ("is_read_only" : Str), ("ticks" : Str), ("codes_ticks" : Str), ("saved_ticks" : Str), ("listeners" : Str), ("undo" : Str), ("props" : Str), ("overlays" : Str), ("locals" : Str), ("syntax" : Str), ("file" : Str)], [(("__init__" : Str), 377), (("begin" : Str), 398), (("end" : Str), 405), (("size" : Str), 412), (("code_at" : Str), 419), (("codes" : Str), 426), (("goto" : Str), 433), (("is_modified" : Str), 447), (("set_modified" : Str), 454), (("touch" : Str), 461)]),
  (1008, [("functions" : Str), ("plists" : Str)], [(("__init__" : Str), 942)]),
  (1085, [("rows" : Str), ("names" : Str)], [(("__init__" : Str), 1026), (("intern" : Str), 1033), (("fresh" : Str), 1047)]),
  (1148, [("defaults" : Str), ("automatic" : Str), ("permanent" : Str)], [(("__init__" : Str), 1103)]),
  (1204, [("values" : Str)], [(("__init__" : Str), 1166)]),
  (1253, [("obarray" : Str), ("cells" : Str), ("variables" : Str), ("bare" : Str), ("current" : Str), ("machine" : Str), ("last_marker" : Str)], [(("__init__" : Str), 1222), (("fresh_marker" : Str), 1243)])]
noncomputable def kAddrs : List Addr := [3, 135, 138, 134, 137, 168, 370, 550, 35, 42, 49, 56, 63, 70, 77, 84, 126, 175, 196, 245, 252, 266, 306, 313, 320, 327, 341, 348, 377, 398, 405, 412, 419, 426, 433, 447, 454, 461, 480, 493, 500, 507, 514, 521, 528, 535, 542, 549, 557, 564, 571, 578, 585, 592, 599, 606, 613, 620, 627, 634, 641, 648, 655, 662, 669, 676, 683, 690, 697, 704, 711, 718, 725, 732, 739, 746, 753, 760, 767, 774, 781, 788, 795, 802, 809, 816, 823, 830, 837, 844, 851, 858, 865, 872, 879, 886, 893, 900, 907, 914, 921, 928, 942, 1026, 1033, 1047, 1103, 1166, 1222, 1243, 1264, 1271, 1278, 1285, 1292, 1299, 1306, 1313, 1320, 1325, 1330, 34, 41, 48, 55, 62, 69, 76, 83, 125, 174, 195, 244, 251, 265, 305, 312, 319, 326, 340, 347, 376, 397, 404, 411, 418, 425, 432, 446, 453, 460, 479, 492, 499, 506, 513, 520, 527, 534, 541, 548, 556, 563, 570, 577, 584, 591, 598, 605, 612, 619, 626, 633, 640, 647, 654, 661, 668, 675, 682, 689, 696, 703, 710, 717, 724, 731, 738, 745, 752, 759, 766, 773, 780, 787, 794, 801, 808, 815, 822, 829, 836, 843, 850, 857, 864, 871, 878, 885, 892, 899, 906, 913, 920, 927, 941, 1025, 1032, 1046, 1102, 1165, 1221, 1242, 1263, 1270, 1277, 1284, 1291, 1298, 1305, 1312, 1319, 1324, 1329, 108, 129, 178, 199, 234, 290, 358, 464, 483, 1008, 1085, 1148, 1204, 1253, 107, 128, 177, 198, 233, 289, 357, 463, 482, 1007, 1084, 1147, 1203, 1252]
noncomputable def frag (h : Heap) : Frag := kAddrs.filterMap fun a => (h.get? a).map fun o => (a, o)
set_option backward.match.sparseCases false
theorem no_some {α : Type} {x : α} {P : Prop} (h : none = some x) : P := nomatch h
theorem no_true {P : Prop} (h : false = true) : P := nomatch h
theorem bind_of {α β : Type} {o : Option α} {f : α → Option β} {y : β} (h : o.bind f = some y) : ∃ x, o = some x ∧ f x = some y := by
  cases o with
  | none => exact no_some h
  | some x => exact ⟨x, rfl, h⟩
theorem map_of {α β : Type} {o : Option α} {f : α → β} {y : β} (h : o.map f = some y) : ∃ x, o = some x ∧ f x = y := by
  cases o with
  | none => exact no_some h
  | some x => exact ⟨x, rfl, Option.some.inj h⟩
theorem if_some {α : Type} {c : Prop} {_ : Decidable c} {o : Option α} {x : α} (h : (if c then o else none) = some x) : c ∧ o = some x := by
  by_cases hc : c
  · exact ⟨hc, (if_pos hc).symm.trans h⟩
  · exact no_some ((if_neg hc).symm.trans h)
theorem any_of {α : Type} {o : Option α} {p : α → Bool} (h : o.any p = true) : ∃ x, o = some x ∧ p x = true := by
  cases o with
  | none => exact no_true h
  | some x => exact ⟨x, rfl, h⟩
noncomputable def funcD : Data → Option FuncData
  | .func fd => some fd
  | _ => none
noncomputable def clsD : Data → Option ClassData
  | .cls cd => some cd
  | _ => none
noncomputable def dictD : Data → Option (Array DictEntry)
  | .dict es _ => some es
  | _ => none
noncomputable def seqD : Data → Option (Array Value)
  | .seq its _ => some its
  | _ => none
noncomputable def refW : Value → Option Addr
  | .ref a => some a
  | _ => none
noncomputable def numO : Value → Option Int
  | .int i _ => some i
  | _ => none
noncomputable def boolW : Value → Option Bool
  | .bool b => some b
  | _ => none
noncomputable def noneW : Value → Bool
  | .none => true
  | _ => false
theorem funcD_some {d : Data} {fd : FuncData} (h : funcD d = some fd) : d = .func fd := by
  cases d with
  | func _ => cases h; rfl
  | _ => exact no_some h
theorem clsD_some {d : Data} {cd : ClassData} (h : clsD d = some cd) : d = .cls cd := by
  cases d with
  | cls _ => cases h; rfl
  | _ => exact no_some h
theorem dictD_some {d : Data} {es : Array DictEntry} (h : dictD d = some es) : ∃ ep, d = .dict es ep := by
  cases d with
  | dict _ ep => cases h; exact ⟨ep, rfl⟩
  | _ => exact no_some h
theorem seqD_some {d : Data} {es : Array Value} (h : seqD d = some es) : ∃ n, d = .seq es n := by
  cases d with
  | seq _ n => cases h; exact ⟨n, rfl⟩
  | _ => exact no_some h
theorem refW_some {v : Value} {a : Addr} (h : refW v = some a) : v = .ref a := by
  cases v with
  | ref _ => cases h; rfl
  | _ => exact no_some h
theorem numO_some {v : Value} {i : Int} (h : numO v = some i) : ∃ t, v = .int i t := by
  cases v with
  | int _ t => cases h; exact ⟨t, rfl⟩
  | _ => exact no_some h
theorem boolW_some {v : Value} {b : Bool} (h : boolW v = some b) : v = .bool b := by
  cases v with
  | bool _ => cases h; rfl
  | _ => exact no_some h
theorem noneW_true {v : Value} (h : noneW v = true) : v = .none := by
  cases v with
  | none => rfl
  | _ => exact no_true h
theorem frag_in (h : Heap) : (frag h).In h := by
  intro a o
  unfold frag
  generalize kAddrs = l
  induction l with
  | nil => intro e; exact no_some e
  | cons b r ih =>
    intro e
    rw [List.filterMap_cons] at e
    cases q : h.get? b with
    | none => rw [q] at e; exact ih e
    | some x =>
      rw [q] at e
      rw [Option.map_some, List.lookup_cons] at e
      cases z : a == b with
      | true => rw [z] at e; cases e; rw [beq_iff_eq.mp z]; exact q
      | false => rw [z] at e; exact ih e
noncomputable def valOk (v : V) (w : Value) : Bool := match v with
  | .top a => refW w == some a
  | .int i => numO w == some i
  | .none => noneW w
  | .bool a => boolW w == some a
  | _ => false
noncomputable def glOk (K : Frag) : Bool := glT.all fun p => (nsIn K mainGlobals p.1).any fun o => o.any fun w => valOk p.2 w
noncomputable def biNames : List Str := ["len", "list", "min", "max", "sorted", "isinstance", "abs", "dict", "range", "int", "bool"]
noncomputable def biOk (K : Frag) : Bool := biNames.all fun x => nsIn K mainGlobals x == some none
noncomputable def clOk (K : Frag) : Bool := clT.all fun (C, fs, ms) => (makesIn K C && hasDictIn K C && plainGet K C "" && findIn K (.ref C) "__setattr__" == some (some (.builtin "object.__setattr__")) && plainOver K C && keepIn K (.ref C) &&
  (fs.all fun f => findIn K (.ref C) f == some none && takerIn K C f == some none) && (ms.all fun (m, a) => findIn K (.ref C) m == some (some (.ref a)) && isFn K (.ref a)))
noncomputable def nilOk (K : Frag) : Bool := ([135, 138] : List Addr).all fun a => match K.lookup a with
  | some o => o.cls == .ref 129
  | none => false
noncomputable def fnF (K : Frag) (f : Addr) : Option FuncData := (K.lookup f).bind fun o => funcD o.data
noncomputable def fnOk (K : Frag) : Bool := fnT.all fun x => keepIn K (.ref x.1) && (fnF K x.1).any fun fd => fd.qualname == x.2.1 && fd.globals == mainGlobals && fd.closure.isEmpty && fd.builtins == builtinsNs && codeIn K fd.code x.2.1
noncomputable def fnData (K : Frag) (f : Addr) : Option (Arguments × FuncBody × Scope) := (fnF K f).map fun fd => (fd.params, fd.body, fd.scope)
noncomputable def stmtAt (i : Nat) (j : Option Nat) : Option Stmt := match PySem.Challenge.pw_ok0072_01.main.body[i]?, j with
  | some s, none => some s
  | some (.ClassDef _ _ _ b _ _ _ _ _ _ _), some j => b[j]?
  | _, _ => none
noncomputable def defOf : Stmt → Option (Arguments × List Stmt × Scope)
  | .FunctionDef _ a b _ _ _ sc _ _ _ => some (a, b, sc)
  | _ => none
noncomputable def partsOf (st : Stmt) : Option (Arguments × FuncBody × Scope) := (defOf st).map fun d => (d.1, .stmts d.2.1, d.2.2)
noncomputable def instDict (K : Frag) (a : Addr) : Bool := (K.lookup a).any fun o => o.cls == .ref 129 && notCls o && o.dict.any fun dx => (K.lookup dx).isSome
noncomputable def isoOk (K : Frag) : Bool := (clT.all fun c => plainGet K c.1 "__class__" && hasDictIn K c.1 && findIn K (.ref c.1) "__class__" == some (some (.builtin "object.__class__")) && mroIn K c.1 (.type "object") == some true && kin_notT K c.1 "int" && kin_notT K c.1 "bool" &&
  (([178, 290] : List Addr).all fun C => if c.1 = C then isIn K (.ref c.1) C else kin_not K c.1 C)) && specialIn K (.builtin "object.__class__") "__get__" == some (some (.builtin "getset_descriptor.__get__")) && takesIn K (.builtin "object.__class__") == some true &&
  isNotIn K "int" 178 && isNotIn K "int" 290 && instDict K 135 && instDict K 138
noncomputable def isStrKey (e : DictEntry) : Bool := match e.key with
  | .str _ _ => true
  | _ => false
noncomputable def excMro : List Value := [.type "Exception", .type "BaseException", .type "object"]
noncomputable def six {α : Type} : List α → Option (α × α × α × α × α × α)
  | [a, b, c, d, e, f] => some (a, b, c, d, e, f)
  | _ => none
noncomputable def exc1 (o : Obj) : Bool := o.cls == .type "type" && (clsD o.data).any fun cd => cd.mro == .ref 483 :: excMro && cd.ns == 482 && cd.hasDict && !cd.hasDel && (six o.slots.toList).any fun k => k.2.2.2.2.1 == some (.builtin "Exception.__new__")
noncomputable def exc2 (o : Obj) : Bool := (dictD o.data).any fun es => es.all isStrKey && nsFind es "__init__" == some (.ref 480) && (["__setattr__", "symbol", "data", "__getattribute__", "__getattr__"] : List Str).all fun x => nsFind es x == none
noncomputable def excOk (K : Frag) : Bool := (K.lookup 483).any exc1 && (K.lookup 482).any exc2 && ((K.lookup 480).any fun o => o.cls == .type "function") && keepIn K (.ref 483)
noncomputable def dsT : List (Addr × List V) := [(175, [.none]), (377, [.int 8]), (557, [.bool false])]
noncomputable def valsOk (vs : List V) (ws : List Value) : Bool := vs.length == ws.length && (vs.zip ws).all fun p => valOk p.1 p.2
noncomputable def dfl1 (K : Frag) (ds : Option (List V)) (d : Value) : Bool := match ds with
  | none => noneW d
  | some ds => ((refW d).bind fun t => (K.lookup t).bind fun o => seqD o.data).any fun its => valsOk ds its.toList
noncomputable def dflOk (K : Frag) : Bool := fnT.all fun x => (fnF K x.1).any fun fd => dfl1 K (dsT.lookup x.1) fd.defaults
noncomputable def topIn (K : Frag) (v : V) : Bool := match v with
  | .top a => (K.lookup a).isSome
  | _ => true
noncomputable def noList (K : Frag) : Bool := K.all fun p => p.2.cls != .type "list"
noncomputable def chk (K : Frag) : (Bool × Bool × Bool) × (Bool × Bool × Bool) × (Bool × Bool × Bool) × List (Option (Arguments × FuncBody × Scope)) := ((glOk K, biOk K, glT.all fun p => topIn K p.2), (clOk K, nilOk K && noList K, fnOk K), (isoOk K, excOk K, dflOk K), fnT.map fun x => fnData K x.1)
noncomputable def good : (Bool × Bool × Bool) × (Bool × Bool × Bool) × (Bool × Bool × Bool) × List (Option (Arguments × FuncBody × Scope)) := ((true, true, true), (true, true, true), (true, true, true), fnT.map fun x => (stmtAt x.2.2.1 x.2.2.2).bind partsOf)
noncomputable def hook : Hook := ⟨_, fun s => chk (frag s.heap), fun x_ => good, fun x_ h => ∃ K : Frag, K.In h ∧ chk K = good, fun x_ s e => ⟨frag s.heap, frag_in _, e⟩, fun _ _ _ ⟨K, X, e⟩ k => ⟨K, X.keeps k, e⟩⟩
theorem El_aa  {p0 : Prop} {p1 : Prop} {q : Prop} {P : Prop} (h : (p0) ∧ (p1) ∧ q) (k : (p0) → (p1) → (q) → P) : P := let ⟨h0, h1, hq⟩ := h; k h0 h1 hq
theorem El_aaa  {p0 : Prop} {p1 : Prop} {p2 : Prop} {q : Prop} {P : Prop} (h : (p0) ∧ (p1) ∧ (p2) ∧ q) (k : (p0) → (p1) → (p2) → (q) → P) : P := let ⟨h0, h1, h2, hq⟩ := h; k h0 h1 h2 hq
theorem El_aaaa  {p0 : Prop} {p1 : Prop} {p2 : Prop} {p3 : Prop} {q : Prop} {P : Prop} (h : (p0) ∧ (p1) ∧ (p2) ∧ (p3) ∧ q) (k : (p0) → (p1) → (p2) → (p3) → (q) → P) : P := let ⟨h0, h1, h2, h3, hq⟩ := h; k h0 h1 h2 h3 hq
theorem El_aaea {α2 : Sort _} {p0 : Prop} {p1 : Prop} {p3 : α2 → Prop} {q : α2 → Prop} {P : Prop} (h : (p0) ∧ (p1) ∧ ∃ x2 : α2, (p3 x2) ∧ q x2) (k : (p0) → (p1) → ∀ x2 : α2, (p3 x2) → (q x2) → P) : P := let ⟨h0, h1, x2, h3, hq⟩ := h; k h0 h1 x2 h3 hq
theorem El_aea {α1 : Sort _} {p0 : Prop} {p2 : α1 → Prop} {q : α1 → Prop} {P : Prop} (h : (p0) ∧ ∃ x1 : α1, (p2 x1) ∧ q x1) (k : (p0) → ∀ x1 : α1, (p2 x1) → (q x1) → P) : P := let ⟨h0, x1, h2, hq⟩ := h; k h0 x1 h2 hq
theorem El_aeea {α1 : Sort _} {α2 : Sort _} {p0 : Prop} {p3 : α1 → α2 → Prop} {q : α1 → α2 → Prop} {P : Prop} (h : (p0) ∧ ∃ x1 : α1, ∃ x2 : α2, (p3 x1 x2) ∧ q x1 x2) (k : (p0) → ∀ x1 : α1, ∀ x2 : α2, (p3 x1 x2) → (q x1 x2) → P) : P := let ⟨h0, x1, x2, h3, hq⟩ := h; k h0 x1 x2 h3 hq
theorem El_ea {α0 : Sort _} {p1 : α0 → Prop} {q : α0 → Prop} {P : Prop} (h : ∃ x0 : α0, (p1 x0) ∧ q x0) (k : ∀ x0 : α0, (p1 x0) → (q x0) → P) : P := let ⟨x0, h1, hq⟩ := h; k x0 h1 hq
theorem El_eaa {α0 : Sort _} {p1 : α0 → Prop} {p2 : α0 → Prop} {q : α0 → Prop} {P : Prop} (h : ∃ x0 : α0, (p1 x0) ∧ (p2 x0) ∧ q x0) (k : ∀ x0 : α0, (p1 x0) → (p2 x0) → (q x0) → P) : P := let ⟨x0, h1, h2, hq⟩ := h; k x0 h1 h2 hq
theorem El_eaaa {α0 : Sort _} {p1 : α0 → Prop} {p2 : α0 → Prop} {p3 : α0 → Prop} {q : α0 → Prop} {P : Prop} (h : ∃ x0 : α0, (p1 x0) ∧ (p2 x0) ∧ (p3 x0) ∧ q x0) (k : ∀ x0 : α0, (p1 x0) → (p2 x0) → (p3 x0) → (q x0) → P) : P := let ⟨x0, h1, h2, h3, hq⟩ := h; k x0 h1 h2 h3 hq
theorem El_eaaaa {α0 : Sort _} {p1 : α0 → Prop} {p2 : α0 → Prop} {p3 : α0 → Prop} {p4 : α0 → Prop} {q : α0 → Prop} {P : Prop} (h : ∃ x0 : α0, (p1 x0) ∧ (p2 x0) ∧ (p3 x0) ∧ (p4 x0) ∧ q x0) (k : ∀ x0 : α0, (p1 x0) → (p2 x0) → (p3 x0) → (p4 x0) → (q x0) → P) : P := let ⟨x0, h1, h2, h3, h4, hq⟩ := h; k x0 h1 h2 h3 h4 hq
theorem El_ee {α0 : Sort _} {α1 : Sort _} {q : α0 → α1 → Prop} {P : Prop} (h : ∃ x0 : α0, ∃ x1 : α1, q x0 x1) (k : ∀ x0 : α0, ∀ x1 : α1, (q x0 x1) → P) : P := let ⟨x0, x1, hq⟩ := h; k x0 x1 hq
theorem El_eea {α0 : Sort _} {α1 : Sort _} {p2 : α0 → α1 → Prop} {q : α0 → α1 → Prop} {P : Prop} (h : ∃ x0 : α0, ∃ x1 : α1, (p2 x0 x1) ∧ q x0 x1) (k : ∀ x0 : α0, ∀ x1 : α1, (p2 x0 x1) → (q x0 x1) → P) : P := let ⟨x0, x1, h2, hq⟩ := h; k x0 x1 h2 hq
theorem El_eeaa {α0 : Sort _} {α1 : Sort _} {p2 : α0 → α1 → Prop} {p3 : α0 → α1 → Prop} {q : α0 → α1 → Prop} {P : Prop} (h : ∃ x0 : α0, ∃ x1 : α1, (p2 x0 x1) ∧ (p3 x0 x1) ∧ q x0 x1) (k : ∀ x0 : α0, ∀ x1 : α1, (p2 x0 x1) → (p3 x0 x1) → (q x0 x1) → P) : P := let ⟨x0, x1, h2, h3, hq⟩ := h; k x0 x1 h2 h3 hq
theorem El_eeaaa {α0 : Sort _} {α1 : Sort _} {p2 : α0 → α1 → Prop} {p3 : α0 → α1 → Prop} {p4 : α0 → α1 → Prop} {q : α0 → α1 → Prop} {P : Prop} (h : ∃ x0 : α0, ∃ x1 : α1, (p2 x0 x1) ∧ (p3 x0 x1) ∧ (p4 x0 x1) ∧ q x0 x1) (k : ∀ x0 : α0, ∀ x1 : α1, (p2 x0 x1) → (p3 x0 x1) → (p4 x0 x1) → (q x0 x1) → P) : P := let ⟨x0, x1, h2, h3, h4, hq⟩ := h; k x0 x1 h2 h3 h4 hq
theorem El_eeaaaa {α0 : Sort _} {α1 : Sort _} {p2 : α0 → α1 → Prop} {p3 : α0 → α1 → Prop} {p4 : α0 → α1 → Prop} {p5 : α0 → α1 → Prop} {q : α0 → α1 → Prop} {P : Prop} (h : ∃ x0 : α0, ∃ x1 : α1, (p2 x0 x1) ∧ (p3 x0 x1) ∧ (p4 x0 x1) ∧ (p5 x0 x1) ∧ q x0 x1) (k : ∀ x0 : α0, ∀ x1 : α1, (p2 x0 x1) → (p3 x0 x1) → (p4 x0 x1) → (p5 x0 x1) → (q x0 x1) → P) : P := let ⟨x0, x1, h2, h3, h4, h5, hq⟩ := h; k x0 x1 h2 h3 h4 h5 hq
theorem El_eeea {α0 : Sort _} {α1 : Sort _} {α2 : Sort _} {p3 : α0 → α1 → α2 → Prop} {q : α0 → α1 → α2 → Prop} {P : Prop} (h : ∃ x0 : α0, ∃ x1 : α1, ∃ x2 : α2, (p3 x0 x1 x2) ∧ q x0 x1 x2) (k : ∀ x0 : α0, ∀ x1 : α1, ∀ x2 : α2, (p3 x0 x1 x2) → (q x0 x1 x2) → P) : P := let ⟨x0, x1, x2, h3, hq⟩ := h; k x0 x1 x2 h3 hq
theorem El_eeeaa {α0 : Sort _} {α1 : Sort _} {α2 : Sort _} {p3 : α0 → α1 → α2 → Prop} {p4 : α0 → α1 → α2 → Prop} {q : α0 → α1 → α2 → Prop} {P : Prop} (h : ∃ x0 : α0, ∃ x1 : α1, ∃ x2 : α2, (p3 x0 x1 x2) ∧ (p4 x0 x1 x2) ∧ q x0 x1 x2) (k : ∀ x0 : α0, ∀ x1 : α1, ∀ x2 : α2, (p3 x0 x1 x2) → (p4 x0 x1 x2) → (q x0 x1 x2) → P) : P := let ⟨x0, x1, x2, h3, h4, hq⟩ := h; k x0 x1 x2 h3 h4 hq
theorem El_eeeaaa {α0 : Sort _} {α1 : Sort _} {α2 : Sort _} {p3 : α0 → α1 → α2 → Prop} {p4 : α0 → α1 → α2 → Prop} {p5 : α0 → α1 → α2 → Prop} {q : α0 → α1 → α2 → Prop} {P : Prop} (h : ∃ x0 : α0, ∃ x1 : α1, ∃ x2 : α2, (p3 x0 x1 x2) ∧ (p4 x0 x1 x2) ∧ (p5 x0 x1 x2) ∧ q x0 x1 x2) (k : ∀ x0 : α0, ∀ x1 : α1, ∀ x2 : α2, (p3 x0 x1 x2) → (p4 x0 x1 x2) → (p5 x0 x1 x2) → (q x0 x1 x2) → P) : P := let ⟨x0, x1, x2, h3, h4, h5, hq⟩ := h; k x0 x1 x2 h3 h4 h5 hq
theorem El_eeeaaaa {α0 : Sort _} {α1 : Sort _} {α2 : Sort _} {p3 : α0 → α1 → α2 → Prop} {p4 : α0 → α1 → α2 → Prop} {p5 : α0 → α1 → α2 → Prop} {p6 : α0 → α1 → α2 → Prop} {q : α0 → α1 → α2 → Prop} {P : Prop} (h : ∃ x0 : α0, ∃ x1 : α1, ∃ x2 : α2, (p3 x0 x1 x2) ∧ (p4 x0 x1 x2) ∧ (p5 x0 x1 x2) ∧ (p6 x0 x1 x2) ∧ q x0 x1 x2) (k : ∀ x0 : α0, ∀ x1 : α1, ∀ x2 : α2, (p3 x0 x1 x2) → (p4 x0 x1 x2) → (p5 x0 x1 x2) → (p6 x0 x1 x2) → (q x0 x1 x2) → P) : P := let ⟨x0, x1, x2, h3, h4, h5, h6, hq⟩ := h; k x0 x1 x2 h3 h4 h5 h6 hq
theorem El_eeeaaaaa {α0 : Sort _} {α1 : Sort _} {α2 : Sort _} {p3 : α0 → α1 → α2 → Prop} {p4 : α0 → α1 → α2 → Prop} {p5 : α0 → α1 → α2 → Prop} {p6 : α0 → α1 → α2 → Prop} {p7 : α0 → α1 → α2 → Prop} {q : α0 → α1 → α2 → Prop} {P : Prop} (h : ∃ x0 : α0, ∃ x1 : α1, ∃ x2 : α2, (p3 x0 x1 x2) ∧ (p4 x0 x1 x2) ∧ (p5 x0 x1 x2) ∧ (p6 x0 x1 x2) ∧ (p7 x0 x1 x2) ∧ q x0 x1 x2) (k : ∀ x0 : α0, ∀ x1 : α1, ∀ x2 : α2, (p3 x0 x1 x2) → (p4 x0 x1 x2) → (p5 x0 x1 x2) → (p6 x0 x1 x2) → (p7 x0 x1 x2) → (q x0 x1 x2) → P) : P := let ⟨x0, x1, x2, h3, h4, h5, h6, h7, hq⟩ := h; k x0 x1 x2 h3 h4 h5 h6 h7 hq
theorem El_eeeaaaaaaa {α0 : Sort _} {α1 : Sort _} {α2 : Sort _} {p3 : α0 → α1 → α2 → Prop} {p4 : α0 → α1 → α2 → Prop} {p5 : α0 → α1 → α2 → Prop} {p6 : α0 → α1 → α2 → Prop} {p7 : α0 → α1 → α2 → Prop} {p8 : α0 → α1 → α2 → Prop} {p9 : α0 → α1 → α2 → Prop} {q : α0 → α1 → α2 → Prop} {P : Prop} (h : ∃ x0 : α0, ∃ x1 : α1, ∃ x2 : α2, (p3 x0 x1 x2) ∧ (p4 x0 x1 x2) ∧ (p5 x0 x1 x2) ∧ (p6 x0 x1 x2) ∧ (p7 x0 x1 x2) ∧ (p8 x0 x1 x2) ∧ (p9 x0 x1 x2) ∧ q x0 x1 x2) (k : ∀ x0 : α0, ∀ x1 : α1, ∀ x2 : α2, (p3 x0 x1 x2) → (p4 x0 x1 x2) → (p5 x0 x1 x2) → (p6 x0 x1 x2) → (p7 x0 x1 x2) → (p8 x0 x1 x2) → (p9 x0 x1 x2) → (q x0 x1 x2) → P) : P := let ⟨x0, x1, x2, h3, h4, h5, h6, h7, h8, h9, hq⟩ := h; k x0 x1 x2 h3 h4 h5 h6 h7 h8 h9 hq
theorem El_eeeeaa {α0 : Sort _} {α1 : Sort _} {α2 : Sort _} {α3 : Sort _} {p4 : α0 → α1 → α2 → α3 → Prop} {p5 : α0 → α1 → α2 → α3 → Prop} {q : α0 → α1 → α2 → α3 → Prop} {P : Prop} (h : ∃ x0 : α0, ∃ x1 : α1, ∃ x2 : α2, ∃ x3 : α3, (p4 x0 x1 x2 x3) ∧ (p5 x0 x1 x2 x3) ∧ q x0 x1 x2 x3) (k : ∀ x0 : α0, ∀ x1 : α1, ∀ x2 : α2, ∀ x3 : α3, (p4 x0 x1 x2 x3) → (p5 x0 x1 x2 x3) → (q x0 x1 x2 x3) → P) : P := let ⟨x0, x1, x2, x3, h4, h5, hq⟩ := h; k x0 x1 x2 x3 h4 h5 hq
theorem El_eeeeaaaaaa {α0 : Sort _} {α1 : Sort _} {α2 : Sort _} {α3 : Sort _} {p4 : α0 → α1 → α2 → α3 → Prop} {p5 : α0 → α1 → α2 → α3 → Prop} {p6 : α0 → α1 → α2 → α3 → Prop} {p7 : α0 → α1 → α2 → α3 → Prop} {p8 : α0 → α1 → α2 → α3 → Prop} {p9 : α0 → α1 → α2 → α3 → Prop} {q : α0 → α1 → α2 → α3 → Prop} {P : Prop} (h : ∃ x0 : α0, ∃ x1 : α1, ∃ x2 : α2, ∃ x3 : α3, (p4 x0 x1 x2 x3) ∧ (p5 x0 x1 x2 x3) ∧ (p6 x0 x1 x2 x3) ∧ (p7 x0 x1 x2 x3) ∧ (p8 x0 x1 x2 x3) ∧ (p9 x0 x1 x2 x3) ∧ q x0 x1 x2 x3) (k : ∀ x0 : α0, ∀ x1 : α1, ∀ x2 : α2, ∀ x3 : α3, (p4 x0 x1 x2 x3) → (p5 x0 x1 x2 x3) → (p6 x0 x1 x2 x3) → (p7 x0 x1 x2 x3) → (p8 x0 x1 x2 x3) → (p9 x0 x1 x2 x3) → (q x0 x1 x2 x3) → P) : P := let ⟨x0, x1, x2, x3, h4, h5, h6, h7, h8, h9, hq⟩ := h; k x0 x1 x2 x3 h4 h5 h6 h7 h8 h9 hq
theorem El_eeeeaaaaaaaa {α0 : Sort _} {α1 : Sort _} {α2 : Sort _} {α3 : Sort _} {p4 : α0 → α1 → α2 → α3 → Prop} {p5 : α0 → α1 → α2 → α3 → Prop} {p6 : α0 → α1 → α2 → α3 → Prop} {p7 : α0 → α1 → α2 → α3 → Prop} {p8 : α0 → α1 → α2 → α3 → Prop} {p9 : α0 → α1 → α2 → α3 → Prop} {p10 : α0 → α1 → α2 → α3 → Prop} {p11 : α0 → α1 → α2 → α3 → Prop} {q : α0 → α1 → α2 → α3 → Prop} {P : Prop} (h : ∃ x0 : α0, ∃ x1 : α1, ∃ x2 : α2, ∃ x3 : α3, (p4 x0 x1 x2 x3) ∧ (p5 x0 x1 x2 x3) ∧ (p6 x0 x1 x2 x3) ∧ (p7 x0 x1 x2 x3) ∧ (p8 x0 x1 x2 x3) ∧ (p9 x0 x1 x2 x3) ∧ (p10 x0 x1 x2 x3) ∧ (p11 x0 x1 x2 x3) ∧ q x0 x1 x2 x3) (k : ∀ x0 : α0, ∀ x1 : α1, ∀ x2 : α2, ∀ x3 : α3, (p4 x0 x1 x2 x3) → (p5 x0 x1 x2 x3) → (p6 x0 x1 x2 x3) → (p7 x0 x1 x2 x3) → (p8 x0 x1 x2 x3) → (p9 x0 x1 x2 x3) → (p10 x0 x1 x2 x3) → (p11 x0 x1 x2 x3) → (q x0 x1 x2 x3) → P) : P := let ⟨x0, x1, x2, x3, h4, h5, h6, h7, h8, h9, h10, h11, hq⟩ := h; k x0 x1 x2 x3 h4 h5 h6 h7 h8 h9 h10 h11 hq
theorem El_eeeee {α0 : Sort _} {α1 : Sort _} {α2 : Sort _} {α3 : Sort _} {α4 : Sort _} {q : α0 → α1 → α2 → α3 → α4 → Prop} {P : Prop} (h : ∃ x0 : α0, ∃ x1 : α1, ∃ x2 : α2, ∃ x3 : α3, ∃ x4 : α4, q x0 x1 x2 x3 x4) (k : ∀ x0 : α0, ∀ x1 : α1, ∀ x2 : α2, ∀ x3 : α3, ∀ x4 : α4, (q x0 x1 x2 x3 x4) → P) : P := let ⟨x0, x1, x2, x3, x4, hq⟩ := h; k x0 x1 x2 x3 x4 hq
theorem El_eeeeeaaa {α0 : Sort _} {α1 : Sort _} {α2 : Sort _} {α3 : Sort _} {α4 : Sort _} {p5 : α0 → α1 → α2 → α3 → α4 → Prop} {p6 : α0 → α1 → α2 → α3 → α4 → Prop} {p7 : α0 → α1 → α2 → α3 → α4 → Prop} {q : α0 → α1 → α2 → α3 → α4 → Prop} {P : Prop} (h : ∃ x0 : α0, ∃ x1 : α1, ∃ x2 : α2, ∃ x3 : α3, ∃ x4 : α4, (p5 x0 x1 x2 x3 x4) ∧ (p6 x0 x1 x2 x3 x4) ∧ (p7 x0 x1 x2 x3 x4) ∧ q x0 x1 x2 x3 x4) (k : ∀ x0 : α0, ∀ x1 : α1, ∀ x2 : α2, ∀ x3 : α3, ∀ x4 : α4, (p5 x0 x1 x2 x3 x4) → (p6 x0 x1 x2 x3 x4) → (p7 x0 x1 x2 x3 x4) → (q x0 x1 x2 x3 x4) → P) : P := let ⟨x0, x1, x2, x3, x4, h5, h6, h7, hq⟩ := h; k x0 x1 x2 x3 x4 h5 h6 h7 hq
theorem El_eeeeeaaaa {α0 : Sort _} {α1 : Sort _} {α2 : Sort _} {α3 : Sort _} {α4 : Sort _} {p5 : α0 → α1 → α2 → α3 → α4 → Prop} {p6 : α0 → α1 → α2 → α3 → α4 → Prop} {p7 : α0 → α1 → α2 → α3 → α4 → Prop} {p8 : α0 → α1 → α2 → α3 → α4 → Prop} {q : α0 → α1 → α2 → α3 → α4 → Prop} {P : Prop} (h : ∃ x0 : α0, ∃ x1 : α1, ∃ x2 : α2, ∃ x3 : α3, ∃ x4 : α4, (p5 x0 x1 x2 x3 x4) ∧ (p6 x0 x1 x2 x3 x4) ∧ (p7 x0 x1 x2 x3 x4) ∧ (p8 x0 x1 x2 x3 x4) ∧ q x0 x1 x2 x3 x4) (k : ∀ x0 : α0, ∀ x1 : α1, ∀ x2 : α2, ∀ x3 : α3, ∀ x4 : α4, (p5 x0 x1 x2 x3 x4) → (p6 x0 x1 x2 x3 x4) → (p7 x0 x1 x2 x3 x4) → (p8 x0 x1 x2 x3 x4) → (q x0 x1 x2 x3 x4) → P) : P := let ⟨x0, x1, x2, x3, x4, h5, h6, h7, h8, hq⟩ := h; k x0 x1 x2 x3 x4 h5 h6 h7 h8 hq
theorem El_eeeeeea {α0 : Sort _} {α1 : Sort _} {α2 : Sort _} {α3 : Sort _} {α4 : Sort _} {α5 : Sort _} {p6 : α0 → α1 → α2 → α3 → α4 → α5 → Prop} {q : α0 → α1 → α2 → α3 → α4 → α5 → Prop} {P : Prop} (h : ∃ x0 : α0, ∃ x1 : α1, ∃ x2 : α2, ∃ x3 : α3, ∃ x4 : α4, ∃ x5 : α5, (p6 x0 x1 x2 x3 x4 x5) ∧ q x0 x1 x2 x3 x4 x5) (k : ∀ x0 : α0, ∀ x1 : α1, ∀ x2 : α2, ∀ x3 : α3, ∀ x4 : α4, ∀ x5 : α5, (p6 x0 x1 x2 x3 x4 x5) → (q x0 x1 x2 x3 x4 x5) → P) : P := let ⟨x0, x1, x2, x3, x4, x5, h6, hq⟩ := h; k x0 x1 x2 x3 x4 x5 h6 hq
theorem El_eeeeeeee {α0 : Sort _} {α1 : Sort _} {α2 : Sort _} {α3 : Sort _} {α4 : Sort _} {α5 : Sort _} {α6 : Sort _} {α7 : Sort _} {q : α0 → α1 → α2 → α3 → α4 → α5 → α6 → α7 → Prop} {P : Prop} (h : ∃ x0 : α0, ∃ x1 : α1, ∃ x2 : α2, ∃ x3 : α3, ∃ x4 : α4, ∃ x5 : α5, ∃ x6 : α6, ∃ x7 : α7, q x0 x1 x2 x3 x4 x5 x6 x7) (k : ∀ x0 : α0, ∀ x1 : α1, ∀ x2 : α2, ∀ x3 : α3, ∀ x4 : α4, ∀ x5 : α5, ∀ x6 : α6, ∀ x7 : α7, (q x0 x1 x2 x3 x4 x5 x6 x7) → P) : P := let ⟨x0, x1, x2, x3, x4, x5, x6, x7, hq⟩ := h; k x0 x1 x2 x3 x4 x5 x6 x7 hq
theorem El_eeeeeeeeaa {α0 : Sort _} {α1 : Sort _} {α2 : Sort _} {α3 : Sort _} {α4 : Sort _} {α5 : Sort _} {α6 : Sort _} {α7 : Sort _} {p8 : α0 → α1 → α2 → α3 → α4 → α5 → α6 → α7 → Prop} {p9 : α0 → α1 → α2 → α3 → α4 → α5 → α6 → α7 → Prop} {q : α0 → α1 → α2 → α3 → α4 → α5 → α6 → α7 → Prop} {P : Prop} (h : ∃ x0 : α0, ∃ x1 : α1, ∃ x2 : α2, ∃ x3 : α3, ∃ x4 : α4, ∃ x5 : α5, ∃ x6 : α6, ∃ x7 : α7, (p8 x0 x1 x2 x3 x4 x5 x6 x7) ∧ (p9 x0 x1 x2 x3 x4 x5 x6 x7) ∧ q x0 x1 x2 x3 x4 x5 x6 x7) (k : ∀ x0 : α0, ∀ x1 : α1, ∀ x2 : α2, ∀ x3 : α3, ∀ x4 : α4, ∀ x5 : α5, ∀ x6 : α6, ∀ x7 : α7, (p8 x0 x1 x2 x3 x4 x5 x6 x7) → (p9 x0 x1 x2 x3 x4 x5 x6 x7) → (q x0 x1 x2 x3 x4 x5 x6 x7) → P) : P := let ⟨x0, x1, x2, x3, x4, x5, x6, x7, h8, h9, hq⟩ := h; k x0 x1 x2 x3 x4 x5 x6 x7 h8 h9 hq
theorem El_eeeeeeeeeaaaa {α0 : Sort _} {α1 : Sort _} {α2 : Sort _} {α3 : Sort _} {α4 : Sort _} {α5 : Sort _} {α6 : Sort _} {α7 : Sort _} {α8 : Sort _} {p9 : α0 → α1 → α2 → α3 → α4 → α5 → α6 → α7 → α8 → Prop} {p10 : α0 → α1 → α2 → α3 → α4 → α5 → α6 → α7 → α8 → Prop} {p11 : α0 → α1 → α2 → α3 → α4 → α5 → α6 → α7 → α8 → Prop} {p12 : α0 → α1 → α2 → α3 → α4 → α5 → α6 → α7 → α8 → Prop} {q : α0 → α1 → α2 → α3 → α4 → α5 → α6 → α7 → α8 → Prop} {P : Prop} (h : ∃ x0 : α0, ∃ x1 : α1, ∃ x2 : α2, ∃ x3 : α3, ∃ x4 : α4, ∃ x5 : α5, ∃ x6 : α6, ∃ x7 : α7, ∃ x8 : α8, (p9 x0 x1 x2 x3 x4 x5 x6 x7 x8) ∧ (p10 x0 x1 x2 x3 x4 x5 x6 x7 x8) ∧ (p11 x0 x1 x2 x3 x4 x5 x6 x7 x8) ∧ (p12 x0 x1 x2 x3 x4 x5 x6 x7 x8) ∧ q x0 x1 x2 x3 x4 x5 x6 x7 x8) (k : ∀ x0 : α0, ∀ x1 : α1, ∀ x2 : α2, ∀ x3 : α3, ∀ x4 : α4, ∀ x5 : α5, ∀ x6 : α6, ∀ x7 : α7, ∀ x8 : α8, (p9 x0 x1 x2 x3 x4 x5 x6 x7 x8) → (p10 x0 x1 x2 x3 x4 x5 x6 x7 x8) → (p11 x0 x1 x2 x3 x4 x5 x6 x7 x8) → (p12 x0 x1 x2 x3 x4 x5 x6 x7 x8) → (q x0 x1 x2 x3 x4 x5 x6 x7 x8) → P) : P := let ⟨x0, x1, x2, x3, x4, x5, x6, x7, x8, h9, h10, h11, h12, hq⟩ := h; k x0 x1 x2 x3 x4 x5 x6 x7 x8 h9 h10 h11 h12 hq
theorem El_eeeeeeeeeeeee {α0 : Sort _} {α1 : Sort _} {α2 : Sort _} {α3 : Sort _} {α4 : Sort _} {α5 : Sort _} {α6 : Sort _} {α7 : Sort _} {α8 : Sort _} {α9 : Sort _} {α10 : Sort _} {α11 : Sort _} {α12 : Sort _} {q : α0 → α1 → α2 → α3 → α4 → α5 → α6 → α7 → α8 → α9 → α10 → α11 → α12 → Prop} {P : Prop} (h : ∃ x0 : α0, ∃ x1 : α1, ∃ x2 : α2, ∃ x3 : α3, ∃ x4 : α4, ∃ x5 : α5, ∃ x6 : α6, ∃ x7 : α7, ∃ x8 : α8, ∃ x9 : α9, ∃ x10 : α10, ∃ x11 : α11, ∃ x12 : α12, q x0 x1 x2 x3 x4 x5 x6 x7 x8 x9 x10 x11 x12) (k : ∀ x0 : α0, ∀ x1 : α1, ∀ x2 : α2, ∀ x3 : α3, ∀ x4 : α4, ∀ x5 : α5, ∀ x6 : α6, ∀ x7 : α7, ∀ x8 : α8, ∀ x9 : α9, ∀ x10 : α10, ∀ x11 : α11, ∀ x12 : α12, (q x0 x1 x2 x3 x4 x5 x6 x7 x8 x9 x10 x11 x12) → P) : P := let ⟨x0, x1, x2, x3, x4, x5, x6, x7, x8, x9, x10, x11, x12, hq⟩ := h; k x0 x1 x2 x3 x4 x5 x6 x7 x8 x9 x10 x11 x12 hq
theorem El_eeeeeeeeeeeeee {α0 : Sort _} {α1 : Sort _} {α2 : Sort _} {α3 : Sort _} {α4 : Sort _} {α5 : Sort _} {α6 : Sort _} {α7 : Sort _} {α8 : Sort _} {α9 : Sort _} {α10 : Sort _} {α11 : Sort _} {α12 : Sort _} {α13 : Sort _} {q : α0 → α1 → α2 → α3 → α4 → α5 → α6 → α7 → α8 → α9 → α10 → α11 → α12 → α13 → Prop} {P : Prop} (h : ∃ x0 : α0, ∃ x1 : α1, ∃ x2 : α2, ∃ x3 : α3, ∃ x4 : α4, ∃ x5 : α5, ∃ x6 : α6, ∃ x7 : α7, ∃ x8 : α8, ∃ x9 : α9, ∃ x10 : α10, ∃ x11 : α11, ∃ x12 : α12, ∃ x13 : α13, q x0 x1 x2 x3 x4 x5 x6 x7 x8 x9 x10 x11 x12 x13) (k : ∀ x0 : α0, ∀ x1 : α1, ∀ x2 : α2, ∀ x3 : α3, ∀ x4 : α4, ∀ x5 : α5, ∀ x6 : α6, ∀ x7 : α7, ∀ x8 : α8, ∀ x9 : α9, ∀ x10 : α10, ∀ x11 : α11, ∀ x12 : α12, ∀ x13 : α13, (q x0 x1 x2 x3 x4 x5 x6 x7 x8 x9 x10 x11 x12 x13) → P) : P := let ⟨x0, x1, x2, x3, x4, x5, x6, x7, x8, x9, x10, x11, x12, x13, hq⟩ := h; k x0 x1 x2 x3 x4 x5 x6 x7 x8 x9 x10 x11 x12 x13 hq
/-! ## The mini evaluator: values, heap, outcomes -/
noncomputable abbrev Loc := List (Str × V)
inductive MO where
  | list (xs : List V)
  | src (xs : List V)
  | tup (xs : List V)
  | dict (es : List (V × V))
  | inst (C : Addr) (fs : Loc)
noncomputable abbrev Mem := List MO
inductive Out (α : Type) where
  | ok (a : α)
  | exc (s d : V)
noncomputable def Mx (α : Type) := Mem → Option (Out α × Mem)
noncomputable def ret {α : Type} (a : α) : Mx α := fun μ => some (.ok a, μ)
noncomputable def bnd {α β : Type} (m : Mx α) (f : α → Mx β) : Mx β := fun μ => match m μ with
  | none => none
  | some (.exc s d, μ') => some (.exc s d, μ')
  | some (.ok a, μ') => f a μ'
noncomputable def stuck {α : Type} : Mx α := fun x_ => none
noncomputable def opt {α : Type} (x : Option α) : Mx α := fun μ => x.map fun a => (.ok a, μ)
noncomputable def rdM {α : Type} (f : Mem → Option α) : Mx α := fun μ => (f μ).map fun a => (.ok a, μ)
noncomputable def refO : V → Option Nat
  | .ref a => some a
  | _ => none
noncomputable def intO : V → Option Int
  | .int a => some a
  | _ => none
noncomputable def strO : V → Option Str
  | .str a => some a
  | _ => none
noncomputable def tupO : MO → Option (List V)
  | .tup l => some l
  | _ => none
noncomputable def listO : MO → Option (List V)
  | .list l => some l
  | _ => none
noncomputable def srcO : MO → Option (List V)
  | .list l => some l
  | .src l => some l
  | _ => none
noncomputable def listAt (μ : Mem) (v : V) : Option (List V) := (refO v).bind fun a => μ[a]?.bind listO
noncomputable def getM (a : Nat) : Mx MO := rdM fun μ => μ[a]?
noncomputable def isStrV : V → Bool
  | .str _ => true
  | _ => false
noncomputable def isIntV : V → Bool
  | .int _ => true
  | _ => false
noncomputable def isKey (k : V) : Bool := isStrV k || isIntV k
/-- a key of the kind of those that stand -/
noncomputable def kindKey (k : V) (es : List (V × V)) : Bool := match es with
  | [] => isKey k
  | p :: _ => (isStrV k && isStrV p.1) || (isIntV k && isIntV p.1)
noncomputable def big : Nat := 1000
noncomputable def szOk : MO → Bool
  | .list xs => decide (xs.length ≤ big)
  | .src xs => decide (xs.length ≤ big)
  | .tup xs => decide (xs.length ≤ big)
  | .dict es => decide (es.length ≤ big)
  | .inst _ fs => decide (fs.length ≤ big)
noncomputable def setM (a : Nat) (o : MO) : Mx Unit := fun μ => if szOk o ∧ a ≠ 0 then some (.ok (), List.set μ a o) else none
noncomputable def newM (o : MO) : Mx V := fun μ => if szOk o then some (.ok (.ref μ.length), μ ++ [o]) else none

noncomputable def setL (x : Str) (v : V) : Loc → Loc
  | [] => [(x, v)]
  | (y, w) :: r => if y = x then (x, v) :: r else (y, w) :: setL x v r
noncomputable def setD (k v : V) : List (V × V) → List (V × V)
  | [] => [(k, v)]
  | (y, w) :: r => if y = k then (y, v) :: r else (y, w) :: setD k v r
noncomputable def getD (k : V) : List (V × V) → Option V
  | [] => none
  | (y, w) :: r => if y = k then some w else getD k r
noncomputable def small (i : Int) : Bool := decide (i.natAbs < 2 ^ 40)

/-- the items of a list -/
noncomputable def listOfM (v : V) : Mx (Nat × List V) := rdM fun μ => (refO v).bind fun a => (μ[a]?.bind listO).map fun xs => (a, xs)
/-- does the list still stand as it stood -/
noncomputable def sameM (a : Nat) (xs : List V) : Mx Unit := bnd (getM a) fun
  | .list ys => if ys = xs then ret () else stuck
  | _ => stuck

noncomputable def boolM (v : V) : Mx Bool := match v with
  | .bool b => ret b
  | _ => stuck
/-- two objects of the top that are known to be no tuples -/
noncomputable def topPair (a b : Addr) : Bool := [135, 138].contains a && [135, 138].contains b
/-- is one value the other -/
noncomputable def isV (a b : V) : Option Bool := match b with
  | .none => (match a with
    | .none => some true
    | .ref _ => some false
    | .int _ => some false
    | _ => none)
  | .top y => (match a with
    | .int _ => some false
    | .top x => if x = y then some true else if topPair x y then some false else none
    | _ => none)
  | .ref y => (match a with
    | .ref x => if x = y then some true else none
    | _ => none)
  | _ => none
/-- == of plain values -/
noncomputable def eqV (a b : V) : Option Bool := match a with
  | .none => (match b with
    | .none => some true
    | .int _ => some false
    | _ => none)
  | .int i => (match b with
    | .none => some false
    | .int j => some (i == j)
    | _ => none)
  | _ => none
noncomputable def two {α : Type} : List α → Option (α × α)
  | [] => none
  | a :: r => (match r with
    | [] => none
    | b :: r => (match r with
      | [] => some (a, b)
      | _ :: _ => none))
noncomputable def one {α : Type} : List α → Option α
  | [] => none
  | a :: r => (match r with
    | [] => some a
    | _ :: _ => none)
/-- a value as plain data: lists to a depth -/
noncomputable def toPys (f : V → Option PyData) : List V → Option (List PyData)
  | [] => some []
  | v :: r => (f v).bind fun d => (toPys f r).map (d :: ·)
noncomputable def plainPy : V → Option PyData
  | .bool b => some (.bool b)
  | .int i => some (.int i)
  | .str x => if PyData.strOk x then some (.str x) else none
  | _ => none
noncomputable def toPy : Nat → Mem → V → Option PyData
  | 0, _, v => plainPy v
  | n + 1, μ, v => match listAt μ v with
    | none => plainPy v
    | some xs => (toPys (toPy n μ) xs).map .list
noncomputable def lenDiff (μ : Mem) (a b : V) : Bool := match listAt μ a with
  | none => false
  | some xs => (match listAt μ b with
    | none => false
    | some ys => xs.length != ys.length)
noncomputable def eqO (μ : Mem) (a b : V) : Option Bool := if lenDiff μ a b then some false else (toPy 3 μ a).bind fun x => (toPy 3 μ b).map fun y => PyData.eqv x y
noncomputable def eqM (a b : V) : Mx Bool := rdM fun μ => eqO μ a b
noncomputable def inO (μ : Mem) (a b : V) : Option Bool := (refO b).bind fun x => μ[x]?.bind fun o => (tupO o).bind fun l => (two l).bind fun q => (eqV a q.1).bind fun r => (eqV a q.2).map fun r2 => r || r2
noncomputable def ints2 {α : Type} (a b : V) (f : Int → Int → Mx α) : Mx α := match a with
  | .int i => (match b with
    | .int j => f i j
    | _ => stuck)
  | _ => stuck
noncomputable def cmpM (op : CmpOp) (a b : V) : Mx Bool := match op with
  | .Eq => eqM a b
  | .NotEq => bnd (eqM a b) fun r => ret (!r)
  | .Lt => ints2 a b fun i j => ret (decide (i < j))
  | .LtE => ints2 a b fun i j => ret (decide (i ≤ j))
  | .Gt => ints2 a b fun i j => ret (decide (i > j))
  | .GtE => ints2 a b fun i j => ret (decide (i ≥ j))
  | .Is => opt (isV a b)
  | .IsNot => bnd (opt (isV a b)) fun r => ret (!r)
  | .In => rdM fun μ => inO μ a b
  | .NotIn => stuck

noncomputable def addM (a b : V) : Mx V := match a with
  | .ref _ => bnd (listOfM a) fun p => bnd (listOfM b) fun q => newM (.list (p.2 ++ q.2))
  | _ => ints2 a b fun i j => ret (.int (i + j))
noncomputable def repM (v b : V) : Mx V := match b with
  | .int n => if n.toNat ≤ big ∧ small n then newM (.list (List.replicate n.toNat v)) else stuck
  | _ => stuck
noncomputable def oneB (l : List V) (f : V → Mx V) : Mx V := match l with
  | [] => stuck
  | a :: r => (match r with
    | [] => f a
    | _ :: _ => stuck)
noncomputable def mulM (a b : V) : Mx V := match a with
  | .ref _ => bnd (listOfM a) fun p => oneB p.2 fun v => repM v b
  | _ => ints2 a b fun i j => if small i && small j then ret (.int (i * j)) else stuck
noncomputable def binM (op : Operator) (a b : V) : Mx V := match op with
  | .Add => addM a b
  | .Sub => ints2 a b fun i j => ret (.int (i - j))
  | .Mult => mulM a b
  | .FloorDiv => ints2 a b fun i j => if 0 < j ∧ j < 1000000000 then ret (.int (i.fdiv j)) else stuck
  | .Mod => ints2 a b fun i j => if 0 < j ∧ j < 1000000000 then ret (.int (i.fmod j)) else stuck
  | _ => stuck

/-- a bound of a slice: none stands for the end -/
noncomputable def cutAt (n : Nat) (i : Int) : Nat := if i < 0 then (i + n).toNat else min i.toNat n
noncomputable def cutP (n d : Nat) : Option Int → Nat
  | none => d
  | some i => cutAt n i
noncomputable def cutO (n d : Nat) (v : V) : Option Nat := match v with
  | .none => some d
  | .int i => if small i then some (cutAt n i) else none
  | _ => none
noncomputable def sliceOf (xs : List V) (l u : V) : Option (Nat × Nat) := (cutO xs.length 0 l).bind fun a => (cutO xs.length xs.length u).map fun b => (a, b)
/-- the items of a list, or of the list that was handed in -/
noncomputable def srcOfM (v : V) : Mx (List V) := rdM fun μ => (refO v).bind fun a => μ[a]?.bind srcO
noncomputable def sliceM (o l u : V) : Mx V := bnd (srcOfM o) fun p => bnd (opt (sliceOf p l u)) fun q => newM (.list ((p.take q.2).drop q.1))
noncomputable def putSliceM (o l u v : V) : Mx Unit := bnd (listOfM o) fun p => bnd (listOfM v) fun w => bnd (opt (sliceOf p.2 l u)) fun q =>
  if p.1 ≠ w.1 then setM p.1 (.list (p.2.take q.1 ++ w.2 ++ p.2.drop (max q.1 q.2))) else stuck
noncomputable def itemAt (xs : List V) (i : V) : Option V := (intO i).bind fun k => if 0 ≤ k ∧ small k = true then xs[k.toNat]? else none
noncomputable def itemIn (i : V) : MO → Option V
  | .list xs => itemAt xs i
  | .tup xs => itemAt xs i
  | .dict es => if isKey i = true then getD i es else none
  | _ => none
noncomputable def itemM (o i : V) : Mx V := rdM fun μ => (refO o).bind fun a => μ[a]?.bind (itemIn i)
noncomputable def refB {α : Type} (v : V) (f : Nat → Mx α) : Mx α := match v with
  | .ref a => f a
  | _ => stuck
noncomputable def intB {α : Type} (v : V) (f : Int → Mx α) : Mx α := match v with
  | .int a => f a
  | _ => stuck
noncomputable def strB {α : Type} (v : V) (f : Str → Mx α) : Mx α := match v with
  | .str a => f a
  | _ => stuck
noncomputable def putIn (a : Nat) (i v : V) : MO → Mx Unit
  | .list xs => intB i fun k => if 0 ≤ k ∧ small k = true ∧ k.toNat < xs.length then setM a (.list (xs.set k.toNat v)) else stuck
  | .dict es => if kindKey i es = true then setM a (.dict (setD i v es)) else stuck
  | _ => stuck
noncomputable def putItemM (o i v : V) : Mx Unit := refB o fun a => bnd (getM a) (putIn a i v)

noncomputable def fieldsT (C : Addr) : List Str := (clT.lookup C).elim [] (·.1)
noncomputable def methT (C : Addr) (x : Str) : Option Addr := (clT.lookup C).bind fun c => c.2.lookup x
noncomputable def plainV : V → Bool
  | .bi _ => false
  | _ => true
noncomputable def attrIn (x : Str) : MO → Option V
  | .inst C fs => if (fieldsT C).contains x = true then (fs.lookup x).bind fun v => if plainV v = true then some v else none else none
  | _ => none
noncomputable def attrM (o : V) (x : Str) : Mx V := rdM fun μ => (refO o).bind fun a => μ[a]?.bind (attrIn x)
noncomputable def putFld (a : Nat) (x : Str) (v : V) : MO → Mx Unit
  | .inst C fs => if (fieldsT C).contains x = true then setM a (.inst C (setL x v fs)) else stuck
  | _ => stuck
noncomputable def putAttrM (o : V) (x : Str) (v : V) : Mx Unit := refB o fun a => bnd (getM a) (putFld a x v)

noncomputable def isIntM (v : V) : Mx Bool := match v with
  | .int _ => ret true
  | .top a => if a = 135 then ret false else stuck
  | _ => stuck
noncomputable def isBoolM (v : V) : Mx Bool := match v with
  | .int _ => ret false
  | _ => stuck
noncomputable def isClsM (C : Addr) (v : V) : Mx Bool := match v with
  | .int _ => ret false
  | .top a => if a = 135 ∨ a = 138 then ret false else stuck
  | .ref a => bnd (getM a) fun o => match o with
    | .inst D _ => if (clT.lookup D).isSome then ret (D == C) else stuck
    | _ => stuck
  | _ => stuck
noncomputable def isInstM (v c : V) : Mx Bool := match c with
  | .ty t => if t = "int" then isIntM v else if t = "bool" then isBoolM v else stuck
  | .top C => if C = 178 ∨ C = 290 then isClsM C v else stuck
  | _ => stuck

noncomputable def keyInts : List (V × V) → Option (List Int)
  | [] => some []
  | (.int i, _) :: r => (keyInts r).map (i :: ·)
  | _ => none
noncomputable def insI (i : Int) : List Int → List Int
  | [] => [i]
  | j :: r => if i ≤ j then i :: j :: r else j :: insI i r
noncomputable def sortI : List Int → List Int
  | [] => []
  | i :: r => insI i (sortI r)
noncomputable def pairOf (μ : Mem) (v : V) : Option (V × V) := (refO v).bind fun a => μ[a]?.bind fun o => (tupO o).bind fun l => (two l).bind fun q => (strO q.1).map fun k => (.str k, q.2)
noncomputable def pairsD (μ : Mem) : List V → Option (List (V × V))
  | [] => some []
  | v :: r => (pairOf μ v).bind fun p => (pairsD μ r).map (p :: ·)

noncomputable def arg1 (l : List V) (f : V → Mx V) : Mx V := match l with
  | [] => stuck
  | a :: r => (match r with
    | [] => f a
    | _ :: _ => stuck)
noncomputable def arg2 (l : List V) (f : V → V → Mx V) : Mx V := match l with
  | [] => stuck
  | a :: r => arg1 r (f a)
noncomputable def arg3 (l : List V) (f : V → V → V → Mx V) : Mx V := match l with
  | [] => stuck
  | a :: r => arg2 r (f a)
noncomputable def callB (b : String) (args : List V) : Mx V :=
  if b = "len" then arg1 args fun v => refB v fun a => bnd (getM a) fun
    | .list xs => ret (.int xs.length)
    | _ => stuck
  else if b = "min" then arg2 args fun v w => intB v fun i => intB w fun j => ret (.int (if j < i then j else i))
  else if b = "max" then arg2 args fun v w => intB v fun i => intB w fun j => ret (.int (if i < j then j else i))
  else if b = "abs" then arg1 args fun v => intB v fun i => ret (.int i.natAbs)
  else if b = "isinstance" then arg2 args fun v c => bnd (isInstM v c) fun r => ret (.bool r)
  else if b = "list.append" then arg2 args fun u v => refB u fun a => bnd (getM a) fun
    | .list xs => bnd (setM a (.list (xs ++ [v]))) fun x_ => ret .none
    | _ => stuck
  else if b = "dict.get" then arg3 args fun u k d => refB u fun a => strB k fun x => bnd (getM a) fun
    | .dict es => if kindKey (.str x) es then ret ((getD (.str x) es).getD d) else stuck
    | _ => stuck
  else if b = "sorted" then arg1 args fun v => refB v fun a => bnd (getM a) fun
    | .dict es => match keyInts es with
      | some is => if is.length < 64 then newM (.list ((sortI is).map .int)) else stuck
      | none => stuck
    | _ => stuck
  else stuck
noncomputable def callT (t : String) (args : List V) : Mx V :=
  if t = "list" then arg1 args fun v => bnd (listOfM v) fun p => newM (.list p.2)
  else if t = "dict" then arg1 args fun v => bnd (listOfM v) fun p => fun μ => match pairsD μ p.2 with
    | some es => if (es.map (·.1)).Nodup then newM (.dict es) μ else none
    | none => none
  else stuck

noncomputable abbrev CallT := V → List V → Mx V
noncomputable def callV (C : CallT) (f : V) (args : List V) : Mx V := match f with
  | .bi b => callB b args
  | .ty t => callT t args
  | f => C f args
/-- what a method's name is on an object: a def of the class, or a built-in -/
noncomputable def selIn (x : Str) : MO → Option V
  | .inst K fs => (methT K x).bind fun f => if (fs.lookup x).isNone = true then some (.top f) else none
  | .list _ => if x = "append" then some (.bi "list.append") else none
  | .dict _ => if x = "get" then some (.bi "dict.get") else none
  | _ => none
noncomputable def selM (o : V) (x : Str) : Mx V := rdM fun μ => (refO o).bind fun a => μ[a]?.bind (selIn x)
/-- what is called: a built-in, a type, a def or a class of the tables -/
noncomputable def mayCall : V → Bool
  | .bi _ | .ty _ => true
  | .top a => (fnT.lookup a).isSome || (clT.lookup a).isSome
  | _ => false
/-- no exception leaves -/
noncomputable def noExc {α : Type} (f : Mx α) : Mx α := fun μ => match f μ with
  | some (.ok a, μ') => some (.ok a, μ')
  | _ => none
/-- a base whose attribute is plainly looked up -/
noncomputable def plainBase : Expr → Bool
  | .Call (.Name _ _) [] [] _ => false
  | _ => true

noncomputable def biT : List (Str × V) := [("len", .bi "len"), ("list", .ty "list"), ("min", .bi "min"), ("max", .bi "max"), ("sorted", .bi "sorted"), ("isinstance", .bi "isinstance"), ("abs", .bi "abs"), ("dict", .ty "dict"), ("range", .ty "range"), ("int", .ty "int"), ("bool", .ty "bool")]
noncomputable def globV (x : Str) : Option V := match glT.lookup x with
  | some v => some v
  | none => biT.lookup x

/-- what a frame's names are -/
noncomputable abbrev Kinds := List (Str × NameKind)
noncomputable def badNames : List Str := ["__debug__", "__classdict__"]
noncomputable def namesOk (k : Kinds) : Bool := k.all fun p => !badNames.contains p.1
noncomputable def nameV (k : Kinds) (ρ : Loc) (x : Str) : Option V := match k.lookup x with
  | some .local | some .cell | some .free => ρ.lookup x
  | some .globalImplicit => globV x
  | _ => none
/-- a comprehension's names: its own, and cells of the function about it -/
noncomputable def compOk (k : Kinds) (ρ : Loc) (sc : Scope) (x : Str) : Bool := namesOk sc.names && sc.names.lookup x == some .local && sc.kind == .function &&
  sc.names.all fun q => q.2 != .cell && (q.2 != .local || sc.names.lookup q.1 == some .local) && (q.2 != .free || (k.lookup q.1 == some .cell && (ρ.lookup q.1).isSome))
noncomputable def constV : Const → Option V
  | .none => some .none
  | .bool b => some (.bool b)
  | .int i => some (.int i)
  | .str s => some (.str s)
  | _ => none

/-- a loop over what a list held, the list unchanged at each turn -/
noncomputable def eachM {σ : Type} (a : Nat) (all : List V) (turn : V → σ → Mx (Option V × σ)) : List V → σ → Mx (Option V × σ)
  | [], s => bnd (sameM a all) fun x_ => ret (none, s)
  | v :: r, s => bnd (sameM a all) fun x_ => bnd (turn v s) fun
    | (some w, s') => ret (some w, s')
    | (none, s') => eachM a all turn r s'
noncomputable def rangeM {σ : Type} (turn : V → σ → Mx (Option V × σ)) : Nat → Nat → σ → Mx (Option V × σ)
  | 0, _, s => ret (none, s)
  | n + 1, i, s => bnd (turn (.int i) s) fun
    | (some w, s') => ret (some w, s')
    | (none, s') => rangeM turn n (i + 1) s'
noncomputable def compM (a : Nat) (all : List V) (elt : V → Mx V) : List V → Mx (List V)
  | [] => bnd (sameM a all) fun x_ => ret []
  | v :: r => bnd (sameM a all) fun x_ => bnd (elt v) fun w => bnd (compM a all elt r) fun ws => ret (w :: ws)

noncomputable def notSet : Expr → Bool
  | .Set _ _ _ => false
  | _ => true
noncomputable def noStar : List Expr → Bool
  | [] => true
  | .Starred _ _ :: _ => false
  | _ :: r => noStar r
/-- the keys of a dict display: written texts -/
noncomputable def nameOf : Expr → Option Str
  | .Name x _ => some x
  | _ => none
noncomputable def callOf : Expr → Option (Expr × List Expr × List Keyword)
  | .Call f as kw _ => some (f, as, kw)
  | _ => none
noncomputable def textOf : Expr → Option Str
  | .Constant c _ _ => (match c with
    | .str x => some x
    | _ => none)
  | _ => none
noncomputable def listIs : Expr → Option (List Expr)
  | .List es _ => some es
  | _ => none
noncomputable def attrOf : Expr → Option (Expr × Str)
  | .Attribute o x _ => some (o, x)
  | _ => none
noncomputable def retOf : Stmt → Option (Option Expr)
  | .Return o _ => some o
  | _ => none
/-- a call of a name, without keywords -/
noncomputable def callN' (e : Expr) : Option (Str × List Expr) := (callOf e).bind fun q => (nameOf q.1).bind fun x => if q.2.2.isEmpty then some (x, q.2.1) else none
noncomputable def keysOf : List (Option Expr) → Option (List V)
  | [] => some []
  | q :: r => (q.bind textOf).bind fun x => (keysOf r).map (.str x :: ·)
noncomputable def raiseOf (e c : Option Expr) : Option (Str × List Expr) := match c with
  | none => e.bind callN'
  | some _ => none
noncomputable def retText (e : Expr) : Option (Str × Str × Str) := (listIs e).bind fun l => (two l).bind fun q => (textOf q.1).bind fun tx => (attrOf q.2).bind fun a => (nameOf a.1).map fun n => (tx, n, a.2)
noncomputable def handOf : ExceptHandler → Option (Str × Str × Str × Str × Str)
  | .ExceptHandler tp nm b _ => (tp.bind nameOf).bind fun x => nm.bind fun n => (one b).bind fun s => (retOf s).bind fun o => (o.bind retText).map fun q => (x, n, q)
noncomputable def tryOf (hs : List ExceptHandler) (o f : List Stmt) : Option (Str × Str × Str × Str × Str) := if o.isEmpty && f.isEmpty then (one hs).bind handOf else none
noncomputable def raiseM {α : Type} : List V → Mx α
  | [s, d] => fun μ => some (.exc s d, μ)
  | _ => stuck
noncomputable def tryR (tx : Str) (f : Mx (Option V × Loc)) : Mx (Option V × Loc) := fun μ => match f μ with
  | none => none
  | some (.ok r, μ') => some (.ok r, μ')
  | some (.exc s _, μ') => if plainV s then (bnd (newM (.list [.str tx, s])) fun v => ret (some v, [])) μ' else none

mutual
noncomputable def evE (C : CallT) (k : Kinds) (ρ : Loc) : Expr → Mx V
  | .Constant c _ _ => opt (constV c)
  | .Name x _ => opt (nameV k ρ x)
  | .BoolOp op vs _ => evBool C k ρ op vs
  | .BinOp l op r _ => bnd (evE C k ρ l) fun a => bnd (evE C k ρ r) fun b => binM op a b
  | .UnaryOp .Not x _ => bnd (evE C k ρ x) fun v => bnd (boolM v) fun b => ret (.bool (!b))
  | .UnaryOp .USub x _ => bnd (evE C k ρ x) fun
    | .int i => ret (.int (-i))
    | _ => stuck
  | .IfExp t b o _ => bnd (evT C k ρ t (evE C k ρ t)) fun c => if c then evE C k ρ b else evE C k ρ o
  | .Dict ks vs _ => match keysOf ks with
    | some kv => if kv.Nodup ∧ kv.length = vs.length ∧ kv.length ≤ 15 then bnd (noExc (evEs C k ρ vs)) fun ws => newM (.dict (kv.zip ws)) else stuck
    | none => stuck
  | .List es _ => if noStar es then bnd (evEs C k ρ es) fun vs => newM (.list vs) else stuck
  | .Tuple es _ _ => if noStar es then bnd (evEs C k ρ es) fun vs => newM (.tup vs) else stuck
  | .ListComp e [⟨.Name x _, it, [], 0⟩] sc _ => if compOk k ρ sc x && notSet it then bnd (evE C k ρ it) fun v => bnd (listOfM v) fun p =>
      bnd (compM p.1 p.2 (fun w => noExc (evE C sc.names ((x, w) :: ρ.filter fun q => sc.names.lookup q.1 == some .free) e)) p.2) fun ws => newM (.list ws) else stuck
  | .Compare l [op] [r] _ => bnd (evE C k ρ l) fun a => bnd (evE C k ρ r) fun b => bnd (cmpM op a b) fun c => ret (.bool c)
  | .Call (.Attribute o x ap) as [] pos => if ap.endLine == pos.line && as.length < 30 && plainBase o && noStar as then bnd (evE C k ρ o) fun ov => bnd (selM ov x) fun f => if mayCall f then bnd (evEs C k ρ as) fun vs => callV C f (ov :: vs) else stuck else stuck
  | .Call f as [] _ => if noStar as then bnd (evE C k ρ f) fun fv => if mayCall fv then bnd (evEs C k ρ as) fun vs => callV C fv vs else stuck else stuck
  | .Attribute o x _ => if plainBase o then bnd (evE C k ρ o) fun ov => attrM ov x else stuck
  | .Subscript o (.Slice l u none _) _ => bnd (evE C k ρ o) fun ov => bnd (evO C k ρ l) fun lv => bnd (evO C k ρ u) fun uv => sliceM ov lv uv
  | .Subscript o i _ => bnd (evE C k ρ o) fun ov => bnd (evE C k ρ i) fun iv => itemM ov iv
  | _ => stuck
noncomputable def evT (C : CallT) (k : Kinds) (ρ : Loc) : Expr → Mx V → Mx Bool
  | .UnaryOp .Not x _, _ => bnd (evT C k ρ x (evE C k ρ x)) fun b => ret (!b)
  | .BoolOp op vs _, _ => evAll C k ρ op vs
  | .IfExp t b o _, _ => bnd (evT C k ρ t (evE C k ρ t)) fun c => if c then evT C k ρ b (evE C k ρ b) else evT C k ρ o (evE C k ρ o)
  | .Compare l ops rs _, _ => if ops.length = rs.length then bnd (evE C k ρ l) fun a => evCmp C k ρ a ops rs else stuck
  | _, whole => bnd whole boolM
noncomputable def evAll (C : CallT) (k : Kinds) (ρ : Loc) (op : BoolOp) : List Expr → Mx Bool
  | [] => ret (op == .And)
  | x :: r => bnd (evT C k ρ x (evE C k ρ x)) fun b => match op, b with
    | .And, false => ret false
    | .Or, true => ret true
    | _, _ => evAll C k ρ op r
noncomputable def evBool (C : CallT) (k : Kinds) (ρ : Loc) (op : BoolOp) : List Expr → Mx V
  | [] => stuck
  | [x] => evE C k ρ x
  | x :: r => bnd (evE C k ρ x) fun v => bnd (boolM v) fun b => match op, b with
    | .And, false => ret v
    | .Or, true => ret v
    | _, _ => evBool C k ρ op r
noncomputable def evCmp (C : CallT) (k : Kinds) (ρ : Loc) (a : V) : List CmpOp → List Expr → Mx Bool
  | [op], [r] => bnd (evE C k ρ r) fun b => cmpM op a b
  | op :: ops, r :: rs => bnd (evE C k ρ r) fun b => bnd (cmpM op a b) fun c => if c then evCmp C k ρ b ops rs else ret false
  | _, _ => stuck
noncomputable def evEs (C : CallT) (k : Kinds) (ρ : Loc) : List Expr → Mx (List V)
  | [] => ret []
  | e :: r => bnd (evE C k ρ e) fun v => bnd (evEs C k ρ r) fun vs => ret (v :: vs)
noncomputable def evO (C : CallT) (k : Kinds) (ρ : Loc) : Option Expr → Mx V
  | none => ret .none
  | some e => evE C k ρ e
end

/-- no comprehension stands there -/
noncomputable def notComp : Expr → Bool
  | .ListComp .. | .SetComp .. | .DictComp .. => false
  | _ => true
/-- one store -/
noncomputable def asg (C : CallT) (k : Kinds) : Expr → V → Loc → Mx Loc
  | .Name x _, v, ρ => if k.lookup x = some .local then ret (setL x v ρ) else stuck
  | .Attribute o x _, v, ρ => bnd (evE C k ρ o) fun ov => bnd (putAttrM ov x v) fun x_ => ret ρ
  | .Subscript o (.Slice l u none _) _, v, ρ => bnd (evE C k ρ o) fun ov => bnd (evO C k ρ l) fun lv => bnd (evO C k ρ u) fun uv => bnd (putSliceM ov lv uv v) fun x_ => ret ρ
  | .Subscript o i _, v, ρ => bnd (evE C k ρ o) fun ov => bnd (evE C k ρ i) fun iv => bnd (putItemM ov iv v) fun x_ => ret ρ
  | _, _, _ => stuck
noncomputable def asgs (C : CallT) (k : Kinds) : List Expr → List V → Loc → Mx Loc
  | [], [], ρ => ret ρ
  | t :: ts, v :: vs, ρ => bnd (asg C k t v ρ) fun ρ' => asgs C k ts vs ρ'
  | _, _, _ => stuck
noncomputable def tupM (v : V) : Mx (List V) := rdM fun μ => (refO v).bind fun a => μ[a]?.bind tupO
noncomputable def asgT (C : CallT) (k : Kinds) : Expr → V → Loc → Mx Loc
  | .Tuple ts _ _, v, ρ => if noStar ts then bnd (tupM v) fun xs => if xs.length = ts.length then asgs C k ts xs ρ else stuck else stuck
  | t, v, ρ => asg C k t v ρ

/-- a comprehension as the value of a plain name: it is stored before its own names go -/
noncomputable def useOk (k : Kinds) (t e : Expr) : Bool := match t with
  | .Name x px => (match e with
    | .ListComp _ _ sc p => k.lookup x == some .local && px.line == p.line && !(sc.names.any fun q => q.1 == x && (q.2 == .local || q.2 == .cell))
    | _ => false)
  | _ => false
/-- a loop over a range: its bound -/
noncomputable def rangeOf (k : Kinds) (ρ : Loc) (e : Expr) : Option Expr := (callN' e).bind fun q => if nameV k ρ q.1 = some (.ty "range") then one q.2 else none
noncomputable def isStar : Expr → Bool
  | .Starred _ _ => true
  | _ => false
noncomputable def nameIn (line : Nat) : Expr → Option Str
  | .Name id pos => if (pos.line == line) = true then some id else none
  | _ => none
noncomputable def localNames (k : Kinds) (ts : List Expr) : Bool := ts.all fun t => (nameOf t).all fun id => k.lookup id == some .local
noncomputable def namesIn (line : Nat) (ts : List Expr) : List Str := ts.filterMap (nameIn line)
noncomputable def anyStar (ts : List Expr) : Bool := ts.any isStar
/-- are the stores of a tuple of names turned about: none is not told -/
noncomputable def swapT (k : Kinds) (t v : Expr) : Option (Option (List Str)) := match t with
  | .Tuple ts _ _ => (match v with
    | .Tuple vs _ _ => if localNames k ts then
      (if !(ts.length == 2 || ts.length == 3) || vs.length != ts.length then some none
      else if anyStar vs then some none
      else
        let names := namesIn ((ts.head?.map (·.pos.line)).getD 0) ts
        if names.length != ts.length || names.eraseDups.length != names.length then some none
        else if vs.all (foldedForSure 8) then some none
        else if vs.all (constantsAlone 8) then none else some (some names)) else none
    | _ => some none)
  | .List _ _ => none
  | _ => some none
noncomputable def nst : List Str → List V → Loc → Loc
  | x :: xs, v :: vs, ρ => nst xs vs (setL x v ρ)
  | _, _, ρ => ρ
noncomputable def asgW (C : CallT) (k : Kinds) (t : Expr) (v : V) (ρ : Loc) : Option (List Str) → Mx Loc
  | none => asgT C k t v ρ
  | some names => bnd (tupM v) fun xs => if xs.length = names.length then ret (nst names.reverse xs.reverse ρ) else stuck

mutual
noncomputable def exS (C : CallT) (k : Kinds) : Stmt → Loc → Mx (Option V × Loc)
  | .Expr e _, ρ => if notComp e then bnd (evE C k ρ e) fun x_ => ret (none, ρ) else stuck
  | .Return (some e) _, ρ => bnd (evE C k ρ e) fun v => ret (some v, ρ)
  | .Return none _, ρ => ret (some .none, ρ)
  | .Assign [t] e _, ρ => match swapT k t e with
    | some sw => if notComp e || useOk k t e then bnd (evE C k ρ e) fun v => bnd (asgW C k t v ρ sw) fun ρ' => ret (none, ρ') else stuck
    | none => stuck
  | .If t b o _, ρ => bnd (evT C k ρ t (evE C k ρ t)) fun c => if c then exSs C k b ρ else exSs C k o ρ
  | .For t it b [] _, ρ => match rangeOf k ρ it with
    | some e => bnd (evE C k ρ e) fun
      | .int n => if small n then rangeM (fun v ρ' => bnd (asgT C k t v ρ') fun ρ'' => exSs C k b ρ'') n.toNat 0 ρ else stuck
      | _ => stuck
    | none => if notSet it then bnd (evE C k ρ it) fun v => bnd (listOfM v) fun p =>
      eachM p.1 p.2 (fun v ρ' => bnd (asgT C k t v ρ') fun ρ'' => exSs C k b ρ'') p.2 ρ else stuck
  | .Raise e c _, ρ => match raiseOf e c with
    | some q => if nameV k ρ q.1 = some (.top 483) ∧ noStar q.2 = true then bnd (evEs C k ρ q.2) raiseM else stuck
    | none => stuck
  | .Try b hs o f _, ρ => match tryOf hs o f with
    | some q => if k.lookup q.1 = some .globalImplicit ∧ globV q.1 = some (.top 483) ∧ k.lookup q.2.1 = some .local ∧ q.2.2.2.1 = q.2.1 ∧ q.2.2.2.2 = "symbol" then tryR q.2.2.1 (exSs C k b ρ) else stuck
    | none => stuck
  | _, _ => stuck
noncomputable def exSs (C : CallT) (k : Kinds) : List Stmt → Loc → Mx (Option V × Loc)
  | [], ρ => ret (none, ρ)
  | s :: r, ρ => bnd (exS C k s ρ) fun
    | (some v, ρ') => ret (some v, ρ')
    | (none, ρ') => exSs C k r ρ'
end

structure Fn where
  ps : List Str
  ds : List V
  body : List Stmt
  names : Kinds
noncomputable def fnAt (f : Addr) : Option Fn := (fnT.lookup f).bind fun x => (stmtAt x.2.1 x.2.2).bind fun st => (defOf st).map fun d => ⟨d.1.args.map (·.arg), (dsT.lookup f).getD [], d.2.1, d.2.2.names⟩
noncomputable def bindA (ps : List Str) (ds args : List V) : Option Loc :=
  if args.length ≤ ps.length ∧ ps.length - args.length ≤ ds.length then some (ps.zip (args ++ ds.drop (ds.length - (ps.length - args.length)))) else none
noncomputable def runFn (C : CallT) (f : Fn) (args : List V) : Mx V := bnd (opt (bindA f.ps f.ds args)) fun ρ => bnd (exSs C f.names f.body ρ) fun r => ret (r.1.getD .none)
noncomputable def callN : Nat → CallT
  | 0 => fun x_ x_ => stuck
  | n + 1 => fun f args => match f with
    | .top a => match fnAt a with
      | some fn => runFn (callN n) fn args
      | none => if a = 483 then stuck else match methT a "__init__" with
        | some i => bnd (newM (.inst a [])) fun v => bnd (callN n (.top i) (v :: args)) fun
          | .none => ret v
          | _ => stuck
        | none => stuck
    | _ => stuck
/-! ## Shapes told back -/
theorem nameOf_some {e : Expr} {x : Str} (h : nameOf e = some x) : ∃ p, e = .Name x p := by
  cases e with
  | Name y p => cases h; exact ⟨p, rfl⟩
  | _ => exact no_some h
theorem callOf_some {e f : Expr} {as : List Expr} {kw : List Keyword} (h : callOf e = some (f, as, kw)) : ∃ p, e = .Call f as kw p := by
  cases e with
  | Call _ _ _ p => cases h; exact ⟨p, rfl⟩
  | _ => exact no_some h
theorem textOf_some {e : Expr} {x : Str} (h : textOf e = some x) : ∃ a b, e = .Constant (.str x) a b := by
  cases e with
  | Constant c a b =>
    cases c with
    | str y => cases h; exact ⟨a, b, rfl⟩
    | _ => exact no_some h
  | _ => exact no_some h
theorem listIs_some {e : Expr} {l : List Expr} (h : listIs e = some l) : ∃ p, e = .List l p := by
  cases e with
  | List _ p => cases h; exact ⟨p, rfl⟩
  | _ => exact no_some h
theorem attrOf_some {e o : Expr} {x : Str} (h : attrOf e = some (o, x)) : ∃ p, e = .Attribute o x p := by
  cases e with
  | Attribute _ _ p => cases h; exact ⟨p, rfl⟩
  | _ => exact no_some h
theorem retOf_some {s : Stmt} {o : Option Expr} (h : retOf s = some o) : ∃ p, s = .Return o p := by
  cases s with
  | Return _ p => cases h; exact ⟨p, rfl⟩
  | _ => exact no_some h
theorem refO_some {v : V} {a : Nat} (h : refO v = some a) : v = .ref a := by
  cases v with
  | ref b => cases h; rfl
  | _ => exact no_some h
theorem intO_some {v : V} {a : Int} (h : intO v = some a) : v = .int a := by
  cases v with
  | int b => cases h; rfl
  | _ => exact no_some h
theorem strO_some {v : V} {a : Str} (h : strO v = some a) : v = .str a := by
  cases v with
  | str b => cases h; rfl
  | _ => exact no_some h
theorem listO_some {o : MO} {l : List V} (h : listO o = some l) : o = .list l := by
  cases o with
  | list b => cases h; rfl
  | _ => exact no_some h
theorem tupO_some {o : MO} {l : List V} (h : tupO o = some l) : o = .tup l := by
  cases o with
  | tup b => cases h; rfl
  | _ => exact no_some h
theorem one_some {α : Type} {l : List α} {a : α} (h : one l = some a) : l = [a] := by
  rcases l with _ | ⟨b, _ | ⟨c, r⟩⟩
  · exact no_some h
  · cases h; rfl
  · exact no_some h
theorem two_some {α : Type} {l : List α} {a b : α} (h : two l = some (a, b)) : l = [a, b] := by
  rcases l with _ | ⟨c, _ | ⟨d, _ | ⟨e, r⟩⟩⟩
  · exact no_some h
  · exact no_some h
  · cases h; rfl
  · exact no_some h
theorem pairOf_some {μ : Mem} {v : V} {p : V × V} (h : pairOf μ v = some p) : ∃ a k u, v = .ref a ∧ μ[a]? = some (.tup [.str k, u]) ∧ p = (.str k, u) := by
  refine El_ea (bind_of h) fun a h1 h => ?_
  refine El_ea (bind_of h) fun o h2 h => ?_
  refine El_ea (bind_of h) fun l h3 h => ?_
  obtain ⟨⟨q, u⟩, h4, h⟩ := bind_of h
  refine El_ea (map_of h) fun k h5 h => ?_
  exact ⟨a, k, u, refO_some h1, h2.trans (congrArg some ((tupO_some h3).trans (congrArg MO.tup ((two_some h4).trans (congrArg (fun z => [z, u]) (strO_some h5)))))), h.symm⟩
theorem callN_some {e : Expr} {x : Str} {as : List Expr} (h : callN' e = some (x, as)) : ∃ xp cp, e = .Call (.Name x xp) as [] cp := by
  obtain ⟨⟨f, as', kw⟩, h1, h2⟩ := bind_of h
  refine El_ea (bind_of h2) fun y h3 h4 => ?_
  obtain ⟨h5, h6⟩ := if_some h4
  cases h6
  obtain ⟨cp, rfl⟩ := callOf_some h1
  obtain ⟨xp, rfl⟩ := nameOf_some h3
  cases kw with
  | nil => exact ⟨xp, cp, rfl⟩
  | cons _ _ => exact no_true h5
theorem raiseOf_some {e c : Option Expr} {x : Str} {as : List Expr} (h : raiseOf e c = some (x, as)) : ∃ xp cp, e = some (.Call (.Name x xp) as [] cp) ∧ c = none := by
  cases c with
  | some _ => exact no_some h
  | none =>
    refine El_ea (bind_of h) fun e' r_1 h2 => ?_; (first | subst r_1 | cases r_1)
    obtain ⟨xp, cp, rfl⟩ := callN_some h2
    exact ⟨xp, cp, rfl, rfl⟩
theorem rangeOf_some {k : Kinds} {ρ : Loc} {it e : Expr} (h : rangeOf k ρ it = some e) : ∃ x xp cp, it = .Call (.Name x xp) [e] [] cp ∧ nameV k ρ x = some (.ty "range") := by
  obtain ⟨⟨x, as⟩, h1, h2⟩ := bind_of h
  obtain ⟨h3, h4⟩ := if_some h2
  obtain ⟨xp, cp, rfl⟩ := callN_some h1
  cases one_some h4
  exact ⟨x, xp, cp, rfl, h3⟩
theorem retText_some {e : Expr} {tx n at' : Str} (h : retText e = some (tx, n, at')) : ∃ lp c1 c2 np ap, e = .List [.Constant (.str tx) c1 c2, .Attribute (.Name n np) at' ap] lp := by
  refine El_ea (bind_of h) fun l h6 h => ?_
  obtain ⟨⟨a, b⟩, h7, h⟩ := bind_of h
  refine El_ea (bind_of h) fun t h8 h => ?_
  obtain ⟨⟨o', a'⟩, h9, h⟩ := bind_of h
  refine El_ea (map_of h) fun n3 h10 h => ?_
  cases h
  obtain ⟨lp, e1⟩ := listIs_some h6
  refine El_ee (textOf_some h8) fun c1 c2 e2 => ?_
  obtain ⟨ap, e3⟩ := attrOf_some h9
  obtain ⟨np, e4⟩ := nameOf_some h10
  exact ⟨lp, c1, c2, np, ap, by rw [e1, two_some h7, show a = _ from e2, show b = _ from e3, show o' = _ from e4]⟩
noncomputable def HandIs (x n tx n' at' : Str) (h : ExceptHandler) : Prop := ∃ xp c1 c2 np ap lp rp hp, h = .ExceptHandler (some (.Name x xp)) (some n) [.Return (some (.List [.Constant (.str tx) c1 c2, .Attribute (.Name n' np) at' ap] lp)) rp] hp
theorem handOf_some {h : ExceptHandler} {x n tx n' at' : Str} (g : handOf h = some (x, n, tx, n', at')) : HandIs x n tx n' at' h := by
  obtain ⟨tp, nm, b, hp⟩ := h
  refine El_ea (bind_of (show (tp.bind nameOf).bind _ = _ from g)) fun x' h2 g => ?_
  refine El_ea (bind_of h2) fun e h1 h2 => ?_
  obtain ⟨xp, e1⟩ := nameOf_some h2
  refine El_ea (bind_of g) fun n'' h3 g => ?_
  refine El_ea (bind_of g) fun s h4 g => ?_
  refine El_ea (bind_of g) fun r h5 g => ?_
  obtain ⟨rp, e2⟩ := retOf_some h5
  refine El_ea (map_of g) fun q h6 g => ?_
  cases g
  refine El_ea (bind_of h6) fun e' h7 h8 => ?_
  refine El_eeeee (retText_some h8) fun lp c1 c2 np ap e3 => ?_
  refine ⟨xp, c1, c2, np, ap, lp, rp, hp, ?_⟩
  rw [h1, e1, h3, one_some h4, e2, h7, e3]
theorem tryOf_some {hs : List ExceptHandler} {o f : List Stmt} {x n tx n' at' : Str} (h : tryOf hs o f = some (x, n, tx, n', at')) : ∃ xp c1 c2 np ap lp rp hp, hs = [.ExceptHandler (some (.Name x xp)) (some n) [.Return (some (.List [.Constant (.str tx) c1 c2, .Attribute (.Name n' np) at' ap] lp)) rp] hp] ∧ o = [] ∧ f = [] := by
  obtain ⟨h0, g1⟩ := if_some h
  refine El_ea (bind_of g1) fun hd h1 g2 => ?_
  refine El_eeeeeeee (handOf_some g2) fun xp c1 c2 np ap lp rp hp e => ?_
  rw [Bool.and_eq_true] at h0
  exact ⟨xp, c1, c2, np, ap, lp, rp, hp, e ▸ one_some h1, List.isEmpty_iff.mp h0.1, List.isEmpty_iff.mp h0.2⟩
set_option backward.match.sparseCases true
/-! ## What the mini evaluator's values and objects are in the model's heap -/
noncomputable abbrev NsMap := Str → Option Value
structure CO where
  x : Addr
  o : Obj
  d : Option (Addr × Obj)
noncomputable def CO.ents (c : CO) : List (Addr × Obj) := (c.x, c.o) :: c.d.toList
noncomputable def nw (cs : List CO) : List (Addr × Obj) := cs.flatMap CO.ents
noncomputable def adr (cs : List CO) : List Addr := cs.map (·.x)

inductive VR (K : Frag) (as : List Addr) : V → Value → Prop
  | none : VR K as .none .none
  | bool {b} : VR K as (.bool b) (.bool b)
  | int {i t} : VR K as (.int i) (.int i t)
  | str {x t} : VR K as (.str x) (.str x t)
  | ref {a x} : as[a]? = some x → VR K as (.ref a) (.ref x)
  | top {a} : (K.lookup a).isSome = true → VR K as (.top a) (.ref a)
  | ty {n} : VR K as (.ty n) (.type n)
  | bi {n} : VR K as (.bi n) (.builtin n)
noncomputable def Grow (as bs : List Addr) : Prop := ∃ r, bs = as ++ r
theorem Grow.refl (as : List Addr) : Grow as as := ⟨[], (List.append_nil _).symm⟩
theorem Grow.trans {a b c : List Addr} (x : Grow a b) (y : Grow b c) : Grow a c := by
  obtain ⟨r, rfl⟩ := x; obtain ⟨q, rfl⟩ := y; exact ⟨r ++ q, by rw [List.append_assoc]⟩
theorem Grow.at {a b : List Addr} (x : Grow a b) {i : Nat} {v : Addr} (h : a[i]? = some v) : b[i]? = some v := by
  obtain ⟨r, rfl⟩ := x
  rw [List.getElem?_append_left (by exact (List.getElem?_eq_some_iff.mp h).1)]; exact h
theorem VR.grow {K : Frag} {a b : List Addr} {v : V} {x : Value} (g : Grow a b) (h : VR K a v x) : VR K b v x := by
  cases h with
  | ref q => exact .ref (g.at q)
  | top q => exact .top q
  | none => exact .none
  | bool => exact .bool
  | int => exact .int
  | str => exact .str
  | ty => exact .ty
  | bi => exact .bi
theorem VR.ref_inv {K : Frag} {as : List Addr} {a : Nat} {x : Value} (h : VR K as (.ref a) x) : ∃ y, x = .ref y ∧ as[a]? = some y := by cases h; exact ⟨_, rfl, by assumption⟩
theorem VR.int_inv {K : Frag} {as : List Addr} {i : Int} {x : Value} (h : VR K as (.int i) x) : ∃ t, x = .int i t := by cases h; exact ⟨_, rfl⟩
theorem VR.str_inv {K : Frag} {as : List Addr} {i : Str} {x : Value} (h : VR K as (.str i) x) : ∃ t, x = .str i t := by cases h; exact ⟨_, rfl⟩
theorem VR.bool_inv {K : Frag} {as : List Addr} {i : Bool} {x : Value} (h : VR K as (.bool i) x) : x = .bool i := by cases h; rfl
theorem VR.top_inv {K : Frag} {as : List Addr} {a : Addr} {x : Value} (h : VR K as (.top a) x) : x = .ref a ∧ (K.lookup a).isSome = true := by cases h; exact ⟨rfl, by assumption⟩
theorem VR.none_inv {K : Frag} {as : List Addr} {x : Value} (h : VR K as .none x) : x = .none := by cases h; rfl
theorem VR.ty_inv {K : Frag} {as : List Addr} {n : String} {x : Value} (h : VR K as (.ty n) x) : x = .type n := by cases h; rfl
theorem VR.bi_inv {K : Frag} {as : List Addr} {n : String} {x : Value} (h : VR K as (.bi n) x) : x = .builtin n := by cases h; rfl
/-- lists item by item -/
inductive All2 {α β : Type} (R : α → β → Prop) : List α → List β → Prop
  | nil : All2 R [] []
  | cons {a b l r} : R a b → All2 R l r → All2 R (a :: l) (b :: r)
namespace All2
variable {α β : Type} {R S : α → β → Prop}
theorem mono {l r} (h : ∀ a b, R a b → S a b) : All2 R l r → All2 S l r
  | .nil => .nil
  | .cons x y => .cons (h _ _ x) (mono h y)
theorem length {l r} : All2 R l r → l.length = r.length
  | .nil => rfl
  | .cons _ y => by simp [length y]
theorem append {l r l' r'} : All2 R l r → All2 R l' r' → All2 R (l ++ l') (r ++ r')
  | .nil, y => y
  | .cons x z, y => .cons x (append z y)
theorem get {l : List α} {r : List β} : All2 R l r → ∀ {i : Nat} {a : α}, l[i]? = some a → ∃ b, r[i]? = some b ∧ R a b
  | .nil, _, _, e => by simp at e
  | .cons x _, 0, _, e => ⟨_, rfl, by simp at e; subst e; exact x⟩
  | .cons _ y, i + 1, _, e => by simpa using get y (by simpa using e)
theorem set {l : List α} {r : List β} : All2 R l r → ∀ {i : Nat} {a : α} {b : β}, R a b → All2 R (l.set i a) (r.set i b)
  | .nil, _, _, _, _ => .nil
  | .cons _ y, 0, _, _, h => .cons h y
  | .cons x y, _ + 1, _, _, h => .cons x (set y h)
theorem take {l r} : All2 R l r → ∀ n, All2 R (l.take n) (r.take n)
  | .nil, n => by simp; exact .nil
  | .cons _ _, 0 => .nil
  | .cons x y, n + 1 => .cons x (take y n)
theorem drop {l r} : All2 R l r → ∀ n, All2 R (l.drop n) (r.drop n)
  | .nil, n => by simp; exact .nil
  | .cons x y, 0 => .cons x y
  | .cons _ y, n + 1 => drop y n
end All2

noncomputable abbrev listObj (vs : List Value) (n : Nat) : Obj := { cls := .type "list", data := .seq vs.toArray n }
noncomputable abbrev tupObj (vs : List Value) (n : Nat) : Obj := { cls := .type "tuple", data := .seq vs.toArray n }
noncomputable def allStr (es : List (V × V)) : Prop := ∀ p ∈ es, ∃ x, p.1 = .str x
noncomputable def allInt (es : List (V × V)) : Prop := ∀ p ∈ es, ∃ i, p.1 = .int i
/-- a field of an instance's dict -/
noncomputable def FR (K : Frag) (as : List Addr) (f : Str × V) (e : DictEntry) : Prop := (∃ t, e.key = .str f.1 t) ∧ VR K as f.2 e.val
noncomputable def OR (K : Frag) (w : World) (prog : Program) (as : List Addr) : MO → CO → Prop
  | .list xs, c => ∃ vs n, c.o = listObj vs n ∧ c.d = none ∧ All2 (VR K as) xs vs
  | .src xs, c => ∃ vs n, c.o.cls = .type "list" ∧ c.o.data = .seq vs.toArray n ∧ c.d = none ∧ All2 (VR K as) xs vs
  | .tup xs, c => ∃ vs n, c.o = tupObj vs n ∧ c.d = none ∧ All2 (VR K as) xs vs
  | .dict es, c => c.d = none ∧ ((allStr es ∧ ∃ kvs, c.o.IsDictOf (strKind prog w) kvs ∧ All2 (fun p q => p.1 = .str q.1 ∧ VR K as p.2 q.2) es kvs) ∨
      (allInt es ∧ ∃ kvs, c.o.IsDictOf (intKind prog w) kvs ∧ All2 (fun p q => p.1 = .int q.1 ∧ VR K as p.2 q.2) es kvs)) ∧
      (es = [] → c.o.IsDictOf (strKind prog w) [] ∧ c.o.IsDictOf (intKind prog w) [])
  | .inst C fs, c => ∃ dx ds n, c.o.cls = .ref C ∧ notCls c.o = true ∧ c.o.dict = some dx ∧ c.d = some (dx, dictOf ds n) ∧ All2 (FR K as) fs ds ∧ (C ≠ 483 → c.o = instObj C dx)
theorem OR.grow {K : Frag} {w : World} {prog : Program} {a b : List Addr} (g : Grow a b) {o : MO} {c : CO} (h : OR K w prog a o c) : OR K w prog b o c := by
  cases o with
  | list xs => refine El_eeaa h fun vs n h1 h2 h3 => ?_; exact ⟨vs, n, h1, h2, h3.mono fun x_ x_ => VR.grow g⟩
  | src xs => refine El_eeaaa h fun vs n h1 h2 h3 h4 => ?_; exact ⟨vs, n, h1, h2, h3, h4.mono fun x_ x_ => VR.grow g⟩
  | tup xs => refine El_eeaa h fun vs n h1 h2 h3 => ?_; exact ⟨vs, n, h1, h2, h3.mono fun x_ x_ => VR.grow g⟩
  | dict es =>
    refine El_aa h fun h1 h2 h3 => ?_
    refine ⟨h1, h2.imp ?_ ?_, h3⟩
    · rintro ⟨q, kvs, x, y⟩; exact ⟨q, kvs, x, y.mono fun x_ x_ z => ⟨z.1, z.2.grow g⟩⟩
    · rintro ⟨q, kvs, x, y⟩; exact ⟨q, kvs, x, y.mono fun x_ x_ z => ⟨z.1, z.2.grow g⟩⟩
  | inst C fs => refine El_eeeaaaaa h fun dx ds n h1 h2 h3 h4 h5 h6 => ?_; exact ⟨dx, ds, n, h1, h2, h3, h4, h5.mono fun x_ x_ z => ⟨z.1, z.2.grow g⟩, h6⟩

/-- a frame of the call and what lies about it -/
structure Fx where
  A : Around
  env : Env
  outer : List Env
  L : Addr
  low : List (Addr × NsMap)
  base : Heap
  os : OsState
  c0 : CO
noncomputable def NsObj (o : Obj) (m : NsMap) : Prop := ∀ h : Heap, ∀ a, h.get? a = some o → h.Ns a m
theorem nsObj_of {h : Heap} {a : Addr} {m : NsMap} (x : h.Ns a m) : ∃ o, h.get? a = some o ∧ NsObj o m := by
  refine El_eeea x fun o es ep ho r => ?_
  exact ⟨o, ho, fun h' a' e => ⟨o, es, ep, e, r⟩⟩

section
variable (K : Frag) (w : World) (prog : Program)
structure SRh (X : Fx) (m : NsMap) (ex : List (Addr × Obj)) (cs : List CO) (μ : Mem) (h : Heap) : Prop where
  stays : X.base.StaysIn h
  ns : h.Ns X.L m
  above : X.base.objs.size ≤ X.L
  low : ∀ p ∈ X.low, h.Ns p.1 p.2 ∧ X.base.get? p.1 = none
  led : ∀ q ∈ ex ++ nw cs, h.get? q.1 = some q.2 ∧ X.base.get? q.1 = none ∧ q.1 ≠ sysModules
  sz : sysModules < X.base.objs.size
  fro : cs[0]? = some X.c0
  szs : ∀ o ∈ μ, szOk o = true
  dist : (X.L :: X.low.map (·.1) ++ (ex ++ nw cs).map (·.1)).Nodup
  O : All2 (OR K w prog (adr cs)) μ cs
noncomputable def SR (X : Fx) (m : NsMap) (ex : List (Addr × Obj)) (cs : List CO) (μ : Mem) (s : Shared) : Prop := SRh K w prog X m ex cs μ s.heap ∧ s.gens = #[] ∧ s.os = X.os
end
section
variable {K : Frag} {w : World} {prog : Program} {X : Fx} {m : NsMap} {ex : List (Addr × Obj)} {cs : List CO} {μ : Mem} {h h' : Heap} {s : Shared}

theorem nw_append (a b : List CO) : nw (a ++ b) = nw a ++ nw b := by simp [nw]
theorem nw_one (c : CO) : nw [c] = c.ents := by simp [nw]
theorem adr_append (a b : List CO) : adr (a ++ b) = adr a ++ adr b := by simp [adr]
theorem nw_mem {c : CO} (hc : c ∈ cs) {q : Addr × Obj} (hq : q ∈ c.ents) : q ∈ nw cs := List.mem_flatMap.mpr ⟨c, hc, hq⟩

/-- a changed heap that keeps all that is named -/
theorem SRh.keep (S : SRh K w prog X m ex cs μ h) (kb : ∀ b o, h.get? b = some o → h'.get? b = some o) : SRh K w prog X m ex cs μ h' :=
  ⟨fun b o e => kb _ _ (S.stays b o e), S.ns.keeps kb, S.above, fun p hp => ⟨(S.low p hp).1.keeps kb, (S.low p hp).2⟩, fun q hq => ⟨kb _ _ (S.led q hq).1, (S.led q hq).2⟩, S.sz, S.fro, S.szs, S.dist, S.O⟩

theorem SRh.baseNone (S : SRh K w prog X m ex cs μ h) : X.base.get? X.L = none := by
  cases q : X.base.get? X.L with
  | none => rfl
  | some o => exact absurd (Nat.lt_of_lt_of_le (Heap.lt_size q) S.above) (Nat.lt_irrefl _)
theorem SRh.fr (S : SRh K w prog X m ex cs μ h) : Fr X.base X.L h m := ⟨S.ns, S.stays, S.above⟩
theorem SRh.size_le (S : SRh K w prog X m ex cs μ h) : X.base.objs.size ≤ h.objs.size := by
  refine El_eeea S.ns fun o x_ x_ ho x_ => ?_
  exact Nat.le_of_lt (Nat.lt_of_le_of_lt S.above (Heap.lt_size ho))
theorem SRh.baseFresh (S : SRh K w prog X m ex cs μ h) {a : Addr} (ha : h.objs.size ≤ a) : X.base.get? a = none := by
  cases q : X.base.get? a with
  | none => rfl
  | some o => exact absurd (Nat.lt_of_lt_of_le (Heap.lt_size q) (Nat.le_trans S.size_le ha)) (Nat.lt_irrefl _)

/-- new objects onto the ledger, whose addresses lie behind the old heap -/
theorem SRh.more (S : SRh K w prog X m ex cs μ h) {o : MO} {c : CO} (hz : szOk o = true) (kb : ∀ b o, h.get? b = some o → h'.get? b = some o) (hc : ∀ q ∈ c.ents, h'.get? q.1 = some q.2 ∧ h.objs.size ≤ q.1)
    (hn : (c.ents.map (·.1)).Nodup) (ho : OR K w prog (adr (cs ++ [c])) o c) : SRh K w prog X m ex (cs ++ [c]) (μ ++ [o]) h' := by
  have S' := S.keep kb
  refine ⟨S'.stays, S'.ns, S'.above, S'.low, fun q hq => ?_, S.sz, by rw [List.getElem?_append_left (by exact (List.getElem?_eq_some_iff.mp S.fro).1)]; exact S.fro, fun o' ho' => by rcases List.mem_append.mp ho' with z | z; exact S.szs _ z; rw [List.mem_singleton.mp z]; exact hz, ?_, ?_⟩
  · rw [nw_append, nw_one] at hq
    rcases List.mem_append.mp hq with z | z
    · exact S'.led q (List.mem_append_left _ z)
    · rcases List.mem_append.mp z with z | z
      · exact S'.led q (List.mem_append_right _ z)
      · exact ⟨(hc q z).1, S.baseFresh (hc q z).2, fun e => by have h1 := (hc q z).2; rw [e] at h1; exact Nat.lt_irrefl _ (Nat.lt_of_lt_of_le S.sz (Nat.le_trans S.size_le h1))⟩
  · rw [nw_append, nw_one, ← List.append_assoc ex, List.map_append, ← List.append_assoc]
    refine List.nodup_append.mpr ⟨S.dist, hn, fun a ha b hb e => ?_⟩
    subst e
    refine El_ea (List.mem_map.mp hb) fun q hq e => ?_
    have hlt : a < h.objs.size := by
      rcases List.mem_append.mp ha with z | z
      · rcases List.mem_cons.mp z with rfl | z
        · refine El_eeea S.ns fun o x_ x_ ho x_ => ?_; exact Heap.lt_size ho
        · refine El_ea (List.mem_map.mp z) fun p hp r_2 => ?_; (first | subst r_2 | cases r_2)
          refine El_eeea ((S.low p hp).1) fun o x_ x_ ho x_ => ?_; exact Heap.lt_size ho
      · obtain ⟨p, hp, rfl⟩ := List.mem_map.mp z
        exact Heap.lt_size (S.led p hp).1
    have := (hc q hq).2
    rw [e] at this
    exact absurd hlt (Nat.not_lt.mpr this)
  · exact (S.O.mono fun x_ x_ z => z.grow ⟨[c.x], by rw [adr_append]; rfl⟩).append (.cons ho .nil)

theorem split_at {α : Type} : ∀ {l : List α} {a : Nat} {c : α}, l[a]? = some c → ∃ p r, l = p ++ c :: r ∧ p.length = a
  | [], _, _, e => by simp at e
  | x :: l, 0, _, e => by simp at e; subst e; exact ⟨[], l, rfl, rfl⟩
  | x :: l, a + 1, c, e => by
    refine El_eea (split_at (l := l) (a := a) (c := c) (by simpa using e)) fun p r h1 h2 => ?_
    exact ⟨x :: p, r, by rw [h1]; rfl, by simp [h2]⟩
theorem set_split {α : Type} (p r : List α) (c c' : α) : (p ++ c :: r).set p.length c' = p ++ c' :: r := by
  rw [List.set_append_right _ _ (Nat.le_refl _)]; simp
theorem adr_set {a : Nat} {c c' : CO} (hc : cs[a]? = some c) (hx : c'.x = c.x) : adr (cs.set a c') = adr cs := by
  refine El_eea (split_at hc) fun p r r_2 r_3 => ?_; (first | subst r_2 | cases r_2); (first | subst r_3 | cases r_3)
  rw [set_split]; simp [adr, hx]

/-- one object of the ledger (or its dict) is changed -/
theorem SRh.changeW {a : Nat} {o : MO} {c c' : CO} {d : Addr} (h0 : a ≠ 0) (hz : szOk o = true) (S : SRh K w prog X m ex cs μ h) (hc : cs[a]? = some c) (hd : d ∈ c.ents.map (·.1)) (k1 : X.base.StaysIn h') (k2 : h'.Ns X.L m) (k3 : ∀ p ∈ X.low, h'.Ns p.1 p.2) (k4 : ∀ q ∈ ex ++ nw cs, q.1 ≠ d → h'.get? q.1 = some q.2)
    (hx : c'.x = c.x) (he : c'.ents.map (·.1) = c.ents.map (·.1)) (hq : ∀ q ∈ c'.ents, h'.get? q.1 = some q.2) (ho : OR K w prog (adr cs) o c') :
    SRh K w prog X m ex (cs.set a c') (μ.set a o) h' := by
  have ha := adr_set hc hx
  have hO : All2 (OR K w prog (adr cs)) (μ.set a o) (cs.set a c') := S.O.set ho
  have hfro : (cs.set a c')[0]? = some X.c0 := by rw [List.getElem?_set_ne h0]; exact S.fro
  obtain ⟨p, r, rfl, rfl⟩ := split_at hc
  rw [ha.symm] at hO
  rw [set_split] at hO hfro ⊢
  have hdist := S.dist
  have e1 : nw (p ++ c :: r) = nw p ++ (c.ents ++ nw r) := by rw [show p ++ c :: r = p ++ ([c] ++ r) from rfl, nw_append, nw_append, nw_one]
  have e2 : nw (p ++ c' :: r) = nw p ++ (c'.ents ++ nw r) := by rw [show p ++ c' :: r = p ++ ([c'] ++ r) from rfl, nw_append, nw_append, nw_one]
  have ne : ∀ q ∈ ex ++ (nw p ++ nw r), q.1 ≠ d := by
    intro q hq' e
    rw [e1] at hdist
    have h2 := (List.nodup_append.mp hdist).2.1
    simp only [List.map_append] at h2
    have hp1 : ∀ x ∈ ex.map (·.1), ∀ y ∈ (nw p).map (·.1) ++ (c.ents.map (·.1) ++ (nw r).map (·.1)), x ≠ y := (List.nodup_append.mp h2).2.2
    have h3 := (List.nodup_append.mp h2).2.1
    have hp2 : ∀ x ∈ (nw p).map (·.1), ∀ y ∈ c.ents.map (·.1) ++ (nw r).map (·.1), x ≠ y := (List.nodup_append.mp h3).2.2
    have hp3 : ∀ x ∈ c.ents.map (·.1), ∀ y ∈ (nw r).map (·.1), x ≠ y := (List.nodup_append.mp (List.nodup_append.mp h3).2.1).2.2
    rcases List.mem_append.mp hq' with z | z
    · exact hp1 _ (List.mem_map_of_mem z) d (List.mem_append_right _ (List.mem_append_left _ hd)) e
    · rcases List.mem_append.mp z with z | z
      · exact hp2 _ (List.mem_map_of_mem z) d (List.mem_append_left _ hd) e
      · exact hp3 d hd _ (List.mem_map_of_mem z) e.symm
  refine ⟨k1, k2, S.above, fun q hq' => ⟨k3 q hq', (S.low q hq').2⟩, fun q hq' => ?_, S.sz, hfro, fun o' ho' => by rcases List.mem_or_eq_of_mem_set ho' with z | z; exact S.szs _ z; rw [z]; exact hz, ?_, hO⟩
  · rw [e2] at hq'
    have old : ∀ q ∈ ex ++ (nw p ++ nw r), h'.get? q.1 = some q.2 ∧ X.base.get? q.1 = none ∧ q.1 ≠ sysModules := fun q z => by
      have hin : q ∈ ex ++ nw (p ++ c :: r) := (by rw [e1]; rcases List.mem_append.mp z with z | z; exact List.mem_append_left _ z; rcases List.mem_append.mp z with z | z; exact List.mem_append_right _ (List.mem_append_left _ z); exact List.mem_append_right _ (List.mem_append_right _ (List.mem_append_right _ z)))
      exact ⟨k4 q hin (ne q z), (S.led q hin).2⟩
    rcases List.mem_append.mp hq' with z | z
    · exact old q (List.mem_append_left _ z)
    · rcases List.mem_append.mp z with z | z
      · exact old q (List.mem_append_right _ (List.mem_append_left _ z))
      · rcases List.mem_append.mp z with z | z
        · have hm : q.1 ∈ c.ents.map (·.1) := he ▸ List.mem_map_of_mem z
          refine El_ea (List.mem_map.mp hm) fun q' hq2 e => ?_
          exact ⟨hq q z, e ▸ (S.led q' (List.mem_append_right _ (nw_mem (by simp) hq2))).2⟩
        · exact old q (List.mem_append_right _ (List.mem_append_right _ z))
  · rw [e2]
    rw [e1] at hdist
    simp only [List.map_append] at hdist ⊢
    rw [he]
    exact hdist
theorem SRh.change {a : Nat} {o : MO} {c c' : CO} {d : Addr} (h0 : a ≠ 0) (hz : szOk o = true) (S : SRh K w prog X m ex cs μ h) (hc : cs[a]? = some c) (hd : d ∈ c.ents.map (·.1)) (hb : ∀ b, b ≠ d → h'.get? b = h.get? b)
    (hx : c'.x = c.x) (he : c'.ents.map (·.1) = c.ents.map (·.1)) (hq : ∀ q ∈ c'.ents, h'.get? q.1 = some q.2) (ho : OR K w prog (adr cs) o c') :
    SRh K w prog X m ex (cs.set a c') (μ.set a o) h' := by
  have dn : X.base.get? d = none := by
    obtain ⟨q, hq, rfl⟩ := List.mem_map.mp hd
    exact (S.led q (List.mem_append_right _ (nw_mem (List.mem_of_getElem? hc) hq))).2.1
  have hdl : d ∈ (ex ++ nw cs).map (·.1) := by
    obtain ⟨q, hq, rfl⟩ := List.mem_map.mp hd
    exact List.mem_map_of_mem (List.mem_append_right _ (nw_mem (List.mem_of_getElem? hc) hq))
  have apart : ∀ x ∈ X.L :: X.low.map (·.1), x ≠ d := fun x hx' => (List.nodup_append.mp S.dist).2.2 x hx' d hdl
  have nsk : ∀ {L : Addr} {m' : NsMap}, h.Ns L m' → L ≠ d → h'.Ns L m' := fun ⟨o, es, ep, ho, rr⟩ hl => ⟨o, es, ep, (hb _ hl).trans ho, rr⟩
  exact S.changeW h0 hz hc hd (fun b o e => (hb b fun z => by rw [z, dn] at e; cases e).trans (S.stays b o e)) (nsk S.ns (apart _ (.head _))) (fun q hq' => nsk (S.low q hq').1 (apart _ (.tail _ (List.mem_map_of_mem hq'))))
    (fun q hq' ne => (hb _ ne).trans (S.led q hq').1) hx he hq ho
end

/-! ## A tree of the model and a computation of the mini evaluator, abreast -/
section
variable (K : Frag) (w : World) (prog : Program)
/-- what an exception in flight leaves: said later -/
noncomputable abbrev XRel := NsMap → List CO → Mem → V → V → Addr → Shared → Prop
noncomputable def Post {α β : Type} (X : Fx) (ex : List (Addr × Obj)) (cs : List CO) (XR : XRel) (R : NsMap → List CO → β → α → Prop) (Q : α → Shared → Prop) (E : Value → Shared → Prop) : Out β × Mem → Prop
  | (.ok b, μ') => ∀ s' cs' m' a, Grow (adr cs) (adr cs') → SR K w prog X m' ex cs' μ' s' → R m' cs' b a → Q a s'
  | (.exc sy d, μ') => ∀ s' cs' m' e, Grow (adr cs) (adr cs') → XR m' cs' μ' sy d e s' → E (.ref e) s'
noncomputable def Snd {α β : Type} (X : Fx) (ex : List (Addr × Obj)) (XR : XRel) (m : NsMap) (cs₀ : List CO) (t : Sem α) (f : Mx β) (R : NsMap → List CO → β → α → Prop) : Prop :=
  ∀ cs μ s r Q E, Grow (adr cs₀) (adr cs) → SR K w prog X m ex cs μ s → f μ = some r → Post K w prog X ex cs XR R Q E r → wpAny (model prog w) X.A t Q E s
end
section
variable {K : Frag} {w : World} {prog : Program} {X : Fx} {m : NsMap} {ex : List (Addr × Obj)} {XR : XRel} {cs cs₀ : List CO} {α β γ δ : Type} {t : Sem α} {f : Mx β} {R : NsMap → List CO → β → α → Prop}
theorem Snd.grow (x : Snd K w prog X ex XR m cs₀ t f R) (g : Grow (adr cs₀) (adr cs)) : Snd K w prog X ex XR m cs t f R :=
  fun cs' μ s r Q E g' S e p => x cs' μ s r Q E (g.trans g') S e p
theorem Snd.ret {a : α} {b : β} (h : ∀ cs, Grow (adr cs₀) (adr cs) → R m cs b a) : Snd K w prog X ex XR m cs₀ (pure a) (ret b) R := fun cs μ s r Q E g S e p => by
  cases e; exact wpAny_pure (p s cs m a (Grow.refl _) S (h cs g))
set_option tactic.hygienic true in
theorem Snd.bind {u : α → Sem γ} {v : β → Mx δ} {R' : NsMap → List CO → δ → γ → Prop} (x : Snd K w prog X ex XR m cs₀ t f R)
    (y : ∀ m₁ cs₁ b a, Grow (adr cs₀) (adr cs₁) → R m₁ cs₁ b a → Snd K w prog X ex XR m₁ cs₁ (u a) (v b) R') : Snd K w prog X ex XR m cs₀ (t >>= u) (bnd f v) R' := fun cs μ s r Q E g S e p => by
  unfold bnd at e
  refine wpAny_bind ?_
  split at e
  · cases e
  · rename_i sy d μ' q
    cases e
    exact x cs μ s _ _ E g S q fun s' cs' m' e' g' z => p s' cs' m' e' g' z
  · rename_i b μ' q
    refine x cs μ s _ _ E g S q fun s' cs' m' a g' S' z => ?_
    refine y m' cs' b a (g.trans g') z cs' μ' s' r Q E (Grow.refl _) S' e ?_
    obtain ⟨o, μ''⟩ := r
    cases o with
    | ok b' => exact fun s'' cs'' m'' a' g'' S'' z' => p s'' cs'' m'' a' (g'.trans g'') S'' z'
    | exc sy d => exact fun s'' cs'' m'' e' g'' z' => p s'' cs'' m'' e' (g'.trans g'') z'
/-- a silent step of the model ahead -/
theorem Snd.skip {u : Unit → Sem α} {t₀ : Sem Unit} (h : ∀ Q E s, Q () s → wpAny (model prog w) X.A t₀ Q E s) (x : Snd K w prog X ex XR m cs₀ (u ()) f R) : Snd K w prog X ex XR m cs₀ (t₀ >>= u) f R :=
  fun cs μ s r Q E g S e p => wpAny_bind (h _ _ _ (x cs μ s r Q E g S e p))
theorem Snd.stand {pos : Pos} {u : Unit → Sem α} (x : Snd K w prog X ex XR m cs₀ (u ()) f R) : Snd K w prog X ex XR m cs₀ (standAt pos >>= u) f R := Snd.skip (fun x_ x_ x_ q => wpAny_standAt q) x
theorem Snd.holding {vs : List Value} (x : Snd K w prog X ex XR m cs₀ t f R) : Snd K w prog X ex XR m cs₀ (holding vs t) f R := fun cs μ s r Q E g S e p => wpAny_holding (x cs μ s r Q E g S e p)
theorem Snd.stuck : Snd K w prog X ex XR m cs₀ t (stuck : Mx β) R := fun x_ x_ x_ x_ x_ x_ x_ x_ e x_ => by cases e
theorem Snd.mono {R' : NsMap → List CO → β → α → Prop} (x : Snd K w prog X ex XR m cs₀ t f R) (h : ∀ m' cs' b a, R m' cs' b a → R' m' cs' b a) : Snd K w prog X ex XR m cs₀ t f R' :=
  fun cs μ s r Q E g S e p => x cs μ s r Q E g S e (by
    obtain ⟨o, μ'⟩ := r
    cases o with
    | ok b => exact fun s' cs' m' a g' S' z => p s' cs' m' a g' S' (h _ _ _ _ z)
    | exc sy d => exact p)
/-- the model's step that leaves the ledger as it is -/
theorem Snd.step {v : β} (h : ∀ cs s μ Q E, Grow (adr cs₀) (adr cs) → SR K w prog X m ex cs μ s → (∀ a tk, R m cs v a → Q a { s with toks := tk }) → wpAny (model prog w) X.A t Q E s) : Snd K w prog X ex XR m cs₀ t (Mine.ret v) R :=
  fun cs μ s r Q E g S e p => by cases e; exact h cs s μ Q E g S fun a tk z => p _ cs m a (Grow.refl _) S z
/-- release and its like: nothing is seen of it -/
theorem wpAny_release {M : Model} {A : Around} {vs ks : List Value} {Q : Unit → Shared → Prop} {E : Value → Shared → Prop} {s : Shared} (q : Q () s) : wpAny M A (release vs ks) Q E s := by
  unfold release
  generalize vs.filter _ = l
  induction l with
  | nil => exact wpAny_pure q
  | cons a r ih =>
    cases r with
    | nil => exact wpAny_pure q
    | cons b r => exact wpAny_bind (wpAny_holding (wpAny_point ih))
theorem Snd.operate {os : List Value} {t : Sem Value} {R : NsMap → List CO → β → Value → Prop} (x : Snd K w prog X ex XR m cs₀ t f R) : Snd K w prog X ex XR m cs₀ (operate os t) f R := fun cs μ s r Q E g S e p => by
  unfold PySem.operate
  refine wpAny_bind (wpAny_holding (wpAny_mono (x cs μ s r Q E g S e p) (fun a s' q => wpAny_bind (wpAny_release (wpAny_pure q))) fun x_ x_ q => q))
end
/-! ## What is known about the top, the frame and its names -/
structure TopOk (K : Frag) (mg mb : NsMap) (base : Heap) : Prop where
  inb : K.In base
  g : base.Ns mainGlobals mg
  b : base.Ns builtinsNs mb
  nolimit : base.NoLimit
  builtins : ∀ x : Str, x ≠ "__name__" → mb x = bootBuiltins x
  gl : (glOk K && biOk K && glT.all fun p => topIn K p.2) = true
  cl : clOk K = true
  nil : nilOk K = true
  iso : isoOk K = true
  exc : excOk K = true
  dfl : dflOk K = true
  fn : fnOk K = true
  dat : (fnT.map fun x => fnData K x.1) = fnT.map fun x => (stmtAt x.2.2.1 x.2.2.2).bind partsOf
structure FxOk (K : Frag) (mg mb : NsMap) (n : Nat) (X : Fx) : Prop where
  top : TopOk K mg mb X.base
  frames : X.A.frames = some (X.env :: X.outer)
  frame : X.env.frame = some X.L
  kind : X.env.scope.kind = .function
  low : All2 (fun e p => Env.frame e = some (Prod.fst p : Addr) ∧ e.scope.kind = .function) X.outer X.low
  depth : X.A.depth + 2 * n + 8 < recursionLimit
  units : X.A.units + 8 * n + 40 < cLine
  hnd : X.A.handled = none
structure EnvOk (env : Env) (k : Kinds) : Prop where
  names : ∀ x q, k.lookup x = some q → q ≠ .free → env.kindOf x = some q
  kind : env.scope.kind = .function
  globals : env.globals = mainGlobals
  builtins : env.builtins = builtinsNs
  ok : namesOk k = true
inductive NameAt (X : Fx) (m : NsMap) (ex : List (Addr × Obj)) (env : Env) (x : Str) (v : Value) : Prop
  | loc : env.locals = X.L → env.kindOf x = some .local → m x = some v → NameAt X m ex env x v
  | cell {c o} : env.kindOf x = some .cell ∨ env.kindOf x = some .free → env.cells.lookup x = some c → (c, o) ∈ ex → o.data = .cell (some v) → NameAt X m ex env x v
  | own {o mo} : env.kindOf x = some .local → (env.locals, o) ∈ ex → NsObj o mo → mo x = some v → NameAt X m ex env x v
noncomputable def LR (K : Frag) (X : Fx) (ex : List (Addr × Obj)) (env : Env) (m : NsMap) (as : List Addr) (ρ : Loc) : Prop := ∀ x v, ρ.lookup x = some v → ∃ val, VR K as v val ∧ NameAt X m ex env x val
theorem LR.grow {K : Frag} {X : Fx} {ex : List (Addr × Obj)} {env : Env} {m : NsMap} {a b : List Addr} {ρ : Loc} (h : LR K X ex env m a ρ) (g : Grow a b) : LR K X ex env m b ρ := fun x v e =>
  let ⟨val, h1, h2⟩ := h x v e; ⟨val, h1.grow g, h2⟩

theorem lookup_mem {α β : Type} [BEq α] [LawfulBEq α] {x : α} {v : β} : ∀ {l : List (α × β)}, l.lookup x = some v → (x, v) ∈ l
  | [], e => by cases e
  | (y, w) :: r, e => by
    rw [List.lookup_cons] at e
    by_cases h : (x == y) = true
    · rw [h] at e; cases e; rw [eq_of_beq h]; exact .head _
    · rw [Bool.not_eq_true] at h; rw [h] at e; exact .tail _ (lookup_mem e)

theorem valOk_of {K : Frag} {v : V} {w : Value} (h : valOk v w = true) (ht : topIn K v = true) (as : List Addr) : VR K as v w := by
  cases v with
  | top a => cases refW_some (beq_iff_eq.mp h); exact .top ht
  | int i => obtain ⟨t, rfl⟩ := numO_some (beq_iff_eq.mp h); exact .int
  | none => cases noneW_true h; exact .none
  | bool b => cases boolW_some (beq_iff_eq.mp h); exact .bool
  | _ => exact no_true h
theorem glob_of {K : Frag} {mg : NsMap} {base : Heap} {x : Str} {v : V} (inb : K.In base) (g : base.Ns mainGlobals mg) (gl : (glOk K && biOk K && glT.all fun p => topIn K p.2) = true) (e : glT.lookup x = some v) :
    ∃ val, mg x = some val ∧ ∀ as, VR K as v val := by
  simp only [Bool.and_eq_true] at gl
  have hm := lookup_mem e
  refine El_ea (any_of (List.all_eq_true.mp gl.1.1 _ hm)) fun o h1 h2 => ?_
  refine El_ea (any_of h2) fun w r_1 h3 => ?_; (first | subst r_1 | cases r_1)
  exact ⟨w, mg_of inb g h1, valOk_of h3 (List.all_eq_true.mp gl.2 _ hm)⟩
theorem bi_boot : ∀ p ∈ biT, (match p.2 with | .bi n => bootBuiltins p.1 = some (.builtin n) | .ty n => bootBuiltins p.1 = some (.type n) | _ => False) ∧ p.1 ≠ "__name__" := by
  intro p hp
  simp only [biT, List.mem_cons, List.not_mem_nil, or_false] at hp
  rcases hp with rfl | rfl | rfl | rfl | rfl | rfl | rfl | rfl | rfl | rfl | rfl <;> exact ⟨by decide +kernel, by decide +kernel⟩

section
variable {K : Frag} {w : World} {prog : Program} {X : Fx} {m : NsMap} {ex : List (Addr × Obj)} {XR : XRel} {cs cs₀ : List CO} {μ : Mem} {mg mb : NsMap} {n : Nat} {env : Env} {k : Kinds} {ρ : Loc}
noncomputable abbrev VQ (K : Frag) (m : NsMap) : NsMap → List CO → V → Value → Prop := fun m' cs' v x => m' = m ∧ VR K (adr cs') v x
noncomputable abbrev BQ (m : NsMap) : NsMap → List CO → Bool → Bool → Prop := fun m' x_ v x => m' = m ∧ x = v
noncomputable abbrev UQ (m : NsMap) : NsMap → List CO → Unit → Unit → Prop := fun m' x_ x_ x_ => m' = m

theorem kindOf_ok (e : EnvOk env k) {x : Str} {q : NameKind} (h : k.lookup x = some q) : (q ≠ .free → env.kindOf x = some q) ∧ (x == ("__debug__" : Str)) = false ∧ (x == ("__classdict__" : Str)) = false := by
  refine ⟨e.names x q h, ?_⟩
  have := List.all_eq_true.mp e.ok _ (lookup_mem h)
  simp only [badNames, List.contains_cons, List.contains_nil, Bool.or_false, Bool.not_eq_true', Bool.or_eq_false_iff] at this
  exact this

/-- a name of the frame's -/
theorem name_own (e : EnvOk env k) {s : Shared} {x : Str} {val : Value} {pos : Pos} {Q : Value → Shared → Prop} {E : Value → Shared → Prop} (S : SR K w prog X m ex cs μ s) (h : NameAt X m ex env x val)
    (hb : (x == ("__debug__" : Str)) = false ∧ (x == ("__classdict__" : Str)) = false) (q : Q val s) : wpAny (model prog w) X.A (eval (.Name x pos) env) Q E s := by
  refine wpAny_Name ?_ hb.1
  cases h with
  | loc h1 h2 h3 => exact wpAny_loadName_local e.kind h2 (h1 ▸ S.1.ns) h3 q
  | own h1 h2 h3 h4 => exact wpAny_loadName_local e.kind h1 (h3 _ _ (S.1.led _ (List.mem_append_left _ h2)).1) h4 q
  | cell h1 h2 h3 h4 =>
    have hc : s.heap.IsCell _ (some val) := ⟨_, (S.1.led _ (List.mem_append_left _ h3)).1, h4⟩
    rcases h1 with h1 | h1
    · exact wpAny_loadName_cell e.kind h1 h2 hc q
    · exact wpAny_loadName_free e.kind h1 h2 hc q hb.2

theorem globV_at (T : FxOk K mg mb n X) {x : Str} {v : V} (hv : globV x = some v) : (∃ val, mg x = some val ∧ ∀ as, VR K as v val) ∨ mg x = none ∧ ∃ val, mb x = some val ∧ ∀ as, VR K as v val := by
  unfold globV at hv
  cases hg : glT.lookup x with
  | some v' => rw [hg] at hv; cases hv; exact .inl (glob_of T.top.inb T.top.g T.top.gl hg)
  | none =>
    rw [hg] at hv
    have hm := lookup_mem hv
    have hgl := T.top.gl
    simp only [Bool.and_eq_true] at hgl
    have hn := List.all_eq_true.mp hgl.1.2 x (by rw [show biNames = biT.map (·.1) from rfl]; exact List.mem_map.mpr ⟨_, hm, rfl⟩)
    obtain ⟨hb, hne⟩ := bi_boot _ hm
    refine .inr ⟨mg_none_of T.top.inb T.top.g (beq_iff_eq.mp hn), ?_⟩
    rw [T.top.builtins x hne]
    cases v with
    | bi n => exact ⟨_, hb, fun _ => .bi⟩
    | ty n => exact ⟨_, hb, fun _ => .ty⟩
    | _ => exact hb.elim
theorem nameV_some {x : Str} {v : V} (hv : nameV k ρ x = some v) : (∃ q, k.lookup x = some q ∧ ρ.lookup x = some v) ∨ k.lookup x = some .globalImplicit ∧ globV x = some v := by
  unfold nameV at hv
  cases h : k.lookup x with
  | none => rw [h] at hv; exact no_some hv
  | some q =>
    rw [h] at hv
    cases q with
    | «local» => exact .inl ⟨_, rfl, hv⟩
    | cell => exact .inl ⟨_, rfl, hv⟩
    | free => exact .inl ⟨_, rfl, hv⟩
    | globalImplicit => exact .inr ⟨rfl, hv⟩
    | _ => exact no_some hv
theorem name_snd (e : EnvOk env k) (T : FxOk K mg mb n X) (l : LR K X ex env m (adr cs₀) ρ) (x : Str) (pos : Pos) :
    Snd K w prog X ex XR m cs₀ (eval (.Name x pos) env) (opt (nameV k ρ x)) (VQ K m) := fun cs μ s r Q E g S eq p => by
  refine El_ea (map_of eq) fun v hv h' => ?_
  cases h'
  rcases nameV_some hv with ⟨q, hk, hl⟩ | ⟨hk, hv⟩
  · refine El_ea (l x v hl) fun val h1 h2 => ?_
    exact name_own e S h2 (kindOf_ok e hk).2 (p s cs m val (Grow.refl _) S ⟨rfl, h1.grow g⟩)
  · refine El_aa (kindOf_ok e hk) fun h1 h2 x_ => ?_
    refine Calls.Name_function_global e.kind (h1 (by decide)) ?_ h2
    rcases globV_at T hv with ⟨val, h3, h4⟩ | ⟨h3, val, h4, h5⟩
    · exact Calls.loadGlobal_global (e.globals ▸ T.top.g.keeps S.1.stays) h3 (p s cs m val (Grow.refl _) S ⟨rfl, h4 _⟩)
    · exact Calls.loadGlobal_builtin (e.globals ▸ T.top.g.keeps S.1.stays) h3 (e.builtins ▸ T.top.b.keeps S.1.stays) h4 (p s cs m _ (Grow.refl _) S ⟨rfl, h5 _⟩)

theorem const_snd (c : Const) (j : Nat) (pos : Pos) : Snd K w prog X ex XR m cs₀ (eval (.Constant c j pos) env) (opt (constV c)) (VQ K m) := fun cs μ s r Q E g S eq p => by
  show wpAny _ _ (constValue env c) _ _ _
  unfold opt at eq
  cases c with
  | none => cases eq; exact wpAny_pure (p s cs m _ (Grow.refl _) S ⟨rfl, .none⟩)
  | bool b => cases eq; exact wpAny_pure (p s cs m _ (Grow.refl _) S ⟨rfl, .bool⟩)
  | int i => cases eq; exact wpAny_mkInt (p _ cs m _ (Grow.refl _) S ⟨rfl, .int⟩)
  | str x => cases eq; exact wpAny_mkText (p _ cs m _ (Grow.refl _) S ⟨rfl, .str⟩)
  | _ => cases eq
end
/-! ## Between this ledger and the library's -/
section
variable {K : Frag} {w : World} {prog : Program} {X : Fx} {m m' : NsMap} {ex : List (Addr × Obj)} {XR : XRel} {cs cs₀ cs' : List CO} {μ μ' : Mem} {h h' : Heap} {s : Shared}
noncomputable def LowOk (lo : List (Addr × Obj)) (low : List (Addr × NsMap)) : Prop := All2 (fun q p => q.1 = p.1 ∧ NsObj q.2 p.2) lo low
theorem LowOk.mem {lo : List (Addr × Obj)} {low : List (Addr × NsMap)} (x : LowOk lo low) : ∀ p ∈ low, ∃ q ∈ lo, q.1 = p.1 ∧ NsObj q.2 p.2 := by
  induction x with
  | nil => intro p hp; cases hp
  | cons a _ ih =>
    intro p hp
    rcases List.mem_cons.mp hp with rfl | hp
    · exact ⟨_, .head _, a⟩
    · refine El_ea (ih p hp) fun q hq r => ?_; exact ⟨q, .tail _ hq, r⟩
theorem LowOk.mem' {lo : List (Addr × Obj)} {low : List (Addr × NsMap)} (x : LowOk lo low) : ∀ q ∈ lo, ∃ p ∈ low, q.1 = p.1 ∧ NsObj q.2 p.2 := by
  induction x with
  | nil => intro p hp; cases hp
  | cons a _ ih =>
    intro p hp
    rcases List.mem_cons.mp hp with rfl | hp
    · exact ⟨_, .head _, a⟩
    · refine El_ea (ih p hp) fun q hq r => ?_; exact ⟨q, .tail _ hq, r⟩
theorem LowOk.map {lo : List (Addr × Obj)} {low : List (Addr × NsMap)} (x : LowOk lo low) : lo.map (·.1) = low.map (·.1) := by
  induction x with
  | nil => rfl
  | cons a _ ih => simp [a.1, ih]
theorem low_of {low : List (Addr × NsMap)} (x : ∀ p ∈ low, h.Ns p.1 p.2) : ∃ lo, LowOk lo low ∧ ∀ q ∈ lo, h.get? q.1 = some q.2 := by
  induction low with
  | nil => exact ⟨[], .nil, fun x_ hq => nomatch hq⟩
  | cons p r ih =>
    refine El_ea (ih fun q hq => x q (.tail _ hq)) fun lo a b => ?_
    refine El_ea (nsObj_of (x p (.head _))) fun o ho no => ?_
    exact ⟨(p.1, o) :: lo, .cons ⟨rfl, no⟩ a, fun q hq => by rcases List.mem_cons.mp hq with rfl | hq; exact ho; exact b q hq⟩
theorem SRh.news (S : SRh K w prog X m ex cs μ h) : ∃ lo, LowOk lo X.low ∧ News X.base X.L h (lo ++ (ex ++ nw cs)) := by
  refine El_ea (low_of fun p hp => (S.low p hp).1) fun lo a b => ?_
  refine ⟨lo, a, fun q hq => ?_⟩
  have hd := S.dist
  rcases List.mem_append.mp hq with z | z
  · refine El_eaa (a.mem' q z) fun p hp e x_ => ?_
    refine ⟨b q z, fun e' => ?_, e ▸ (S.low p hp).2⟩
    have := (List.nodup_cons.mp hd).1
    exact this (List.mem_append_left _ (e' ▸ e ▸ List.mem_map_of_mem hp))
  · refine ⟨(S.led q z).1, fun e' => ?_, (S.led q z).2.1⟩
    exact (List.nodup_cons.mp hd).1 (List.mem_append_right _ (e' ▸ List.mem_map_of_mem z))
theorem SRh.ofNews (S : SRh K w prog X m ex cs μ h) {lo : List (Addr × Obj)} {ex' : List (Addr × Obj)} (hl : LowOk lo X.low) (F : Fr X.base X.L h' m') (N : News X.base X.L h' (lo ++ (ex' ++ nw cs')))
    (hns : ∀ q ∈ ex' ++ nw cs', q.1 ≠ sysModules) (hf0 : cs'[0]? = some X.c0) (hzs : ∀ o ∈ μ', szOk o = true) (hd : (X.L :: X.low.map (·.1) ++ (ex' ++ nw cs').map (·.1)).Nodup) (hO : All2 (OR K w prog (adr cs')) μ' cs') : SRh K w prog X m' ex' cs' μ' h' :=
  ⟨F.keep, F.ns, S.above, fun p hp => by
    refine El_eaa (hl.mem p hp) fun q hq e no => ?_
    exact ⟨e ▸ no _ _ (N q (List.mem_append_left _ hq)).1, (S.low p hp).2⟩, fun q hq => ⟨(N q (List.mem_append_right _ hq)).1, (N q (List.mem_append_right _ hq)).2.2, hns q hq⟩, S.sz, hf0, hzs, hd, hO⟩
/-- a new object of the library's, at the old heap's end -/
theorem SRh.pushed (S : SRh K w prog X m ex cs μ h) {o : MO} (hz : szOk o = true) {lo : List (Addr × Obj)} {ob : Obj} (hl : LowOk lo X.low) (F : Fr X.base X.L h' m) (N : News X.base X.L h' ((h.objs.size, ob) :: (lo ++ (ex ++ nw cs))))
    (ho : OR K w prog (adr (cs ++ [⟨h.objs.size, ob, none⟩])) o ⟨h.objs.size, ob, none⟩) : SRh K w prog X m ex (cs ++ [⟨h.objs.size, ob, none⟩]) (μ ++ [o]) h' := by
  refine S.ofNews hl F (fun q hq => N q ?_) (fun q hq => ?_) (by rw [List.getElem?_append_left (by exact (List.getElem?_eq_some_iff.mp S.fro).1)]; exact S.fro) (fun o' ho' => by rcases List.mem_append.mp ho' with z | z; exact S.szs _ z; rw [List.mem_singleton.mp z]; exact hz) ?_ ((S.O.mono fun x_ x_ z => z.grow ⟨[h.objs.size], by rw [adr_append]; rfl⟩).append (.cons ho .nil))
  · rw [nw_append, nw_one] at hq
    simp only [CO.ents, Option.toList_none, List.mem_append, List.mem_cons, List.not_mem_nil, or_false] at hq ⊢
    rcases hq with z | z | z | z
    · exact .inr (.inl z)
    · exact .inr (.inr (.inl z))
    · exact .inr (.inr (.inr z))
    · exact .inl z
  · rw [nw_append, nw_one] at hq
    simp only [CO.ents, Option.toList_none, List.mem_append, List.mem_cons, List.not_mem_nil, or_false] at hq
    rcases hq with z | z | z
    · exact (S.led q (List.mem_append_left _ z)).2.2
    · exact (S.led q (List.mem_append_right _ z)).2.2
    · intro e; rw [z] at e; dsimp only at e; exact Nat.lt_irrefl _ (Nat.lt_of_lt_of_le S.sz (Nat.le_trans S.size_le (Nat.le_of_eq e)))
  · rw [nw_append, nw_one, ← List.append_assoc ex, List.map_append, ← List.append_assoc]
    refine List.nodup_append.mpr ⟨S.dist, by simp [CO.ents], fun a ha b hb e => ?_⟩
    subst e
    simp only [CO.ents, Option.toList_none, List.map_cons, List.map_nil, List.mem_cons, List.not_mem_nil, or_false] at hb
    have hlt : a < h.objs.size := by
      rcases List.mem_append.mp ha with z | z
      · rcases List.mem_cons.mp z with rfl | z
        · refine El_eeea S.ns fun o x_ x_ ho x_ => ?_; exact Heap.lt_size ho
        · refine El_ea (List.mem_map.mp z) fun p hp r_2 => ?_; (first | subst r_2 | cases r_2)
          refine El_eeea ((S.low p hp).1) fun o x_ x_ ho x_ => ?_; exact Heap.lt_size ho
      · obtain ⟨p, hp, rfl⟩ := List.mem_map.mp z
        exact Heap.lt_size (S.led p hp).1
    rw [hb] at hlt
    exact absurd hlt (Nat.lt_irrefl _)
theorem adr_push (cs : List CO) (c : CO) : Grow (adr cs) (adr (cs ++ [c])) := ⟨[c.x], by rw [adr_append]; rfl⟩
theorem adr_last (cs : List CO) (c : CO) : (adr (cs ++ [c]))[cs.length]? = some c.x := by
  rw [adr_append, List.getElem?_append_right (by simp [adr])]; simp [adr]

set_option tactic.hygienic true in
/-- what the post wants of a new object -/
theorem post_new {o : MO} {ob : Obj} {Q : Value → Shared → Prop} {E : Value → Shared → Prop} {s : Shared} {tk : Nat} (S : SR K w prog X m ex cs μ s) {r : Out V × Mem} (e : newM o μ = some r) (p : Post K w prog X ex cs XR (VQ K m) Q E r)
    {lo : List (Addr × Obj)} (hl : LowOk lo X.low) (F : Fr X.base X.L h' m) (N : News X.base X.L h' ((s.heap.objs.size, ob) :: (lo ++ (ex ++ nw cs))))
    (ho : OR K w prog (adr (cs ++ [⟨s.heap.objs.size, ob, none⟩])) o ⟨s.heap.objs.size, ob, none⟩) : Q (.ref s.heap.objs.size) { s with heap := h', toks := tk } := by
  unfold newM at e
  split at e
  · rename_i hz
    cases e
    have hlen : μ.length = cs.length := S.1.O.length
    refine p _ _ m _ (adr_push _ _) ⟨S.1.pushed hz hl F N ho, S.2⟩ ⟨rfl, ?_⟩
    rw [hlen]
    exact .ref (adr_last _ _)
  · cases e
theorem newM_sz {o : MO} {r : Out V × Mem} (e : newM o μ = some r) : szOk o = true := by
  unfold newM at e
  split at e
  · assumption
  · cases e
theorem setM_some {a : Nat} {o : MO} {r : Out Unit × Mem} (e : setM a o μ = some r) : szOk o = true ∧ a ≠ 0 ∧ r = (.ok (), μ.set a o) := by
  unfold setM at e
  by_cases h : szOk o = true ∧ a ≠ 0
  · rw [if_pos h] at e; cases e; exact ⟨h.1, h.2, rfl⟩
  · rw [if_neg h] at e; cases e
theorem list_at (S : SR K w prog X m ex cs μ s) {a : Nat} {x : Addr} (hx : (adr cs)[a]? = some x) {o : MO} (hm : μ[a]? = some o) : ∃ c, cs[a]? = some c ∧ c.x = x ∧ OR K w prog (adr cs) o c ∧ s.heap.get? x = some c.o := by
  refine El_ea (S.1.O.get hm) fun c hc ho => ?_
  have : (adr cs)[a]? = some c.x := by unfold adr; rw [List.getElem?_map, hc]; rfl
  rw [this] at hx; cases hx
  exact ⟨c, hc, rfl, ho, (S.1.led _ (List.mem_append_right _ (nw_mem (List.mem_of_getElem? hc) (.head _)))).1⟩
theorem isList_at (S : SR K w prog X m ex cs μ s) {a : Nat} {x : Addr} (hx : (adr cs)[a]? = some x) {xs : List V} (hm : μ[a]? = some (.list xs)) :
    ∃ vs n, s.heap.get? x = some (listObj vs n) ∧ s.heap.IsList x vs.toArray ∧ All2 (VR K (adr cs)) xs vs := by
  obtain ⟨c, hc, rfl, ⟨vs, n, h1, _, h3⟩, ho⟩ := list_at S hx hm
  rw [h1] at ho
  exact ⟨vs, n, ho, ⟨_, ho, rfl, n, rfl⟩, h3⟩
theorem bnd_some {α β : Type} {f : Mx α} {g : α → Mx β} {μ : Mem} {r : Out β × Mem} (e : bnd f g μ = some r) : (∃ s d μ', f μ = some (.exc s d, μ') ∧ r = (.exc s d, μ')) ∨ ∃ a μ', f μ = some (.ok a, μ') ∧ g a μ' = some r := by
  unfold bnd at e
  cases q : f μ with
  | none => rw [q] at e; exact no_some e
  | some x =>
    rw [q] at e
    obtain ⟨o, μ'⟩ := x
    cases o with
    | exc s d => exact .inl ⟨s, d, μ', rfl, (Option.some.inj e).symm⟩
    | ok a => exact .inr ⟨a, μ', rfl, e⟩
theorem rdM_some {α : Type} {f : Mem → Option α} {r : Out α × Mem} (e : rdM f μ = some r) : ∃ a, f μ = some a ∧ r = (.ok a, μ) := by
  refine El_ea (map_of e) fun a h1 h2 => ?_
  exact ⟨a, h1, h2.symm⟩
theorem rdM_ref {α β : Type} {f : Mem → Option α} {g : α → Mx β} {r : Out β × Mem} (e : bnd (rdM f) g μ = some r) : ∃ a, f μ = some a ∧ g a μ = some r := by
  rcases bnd_some e with ⟨_, _, _, q, _⟩ | ⟨a, μ', q, e⟩
  · refine El_ea (rdM_some q) fun x_ x_ z => ?_; cases z
  · refine El_ea (rdM_some q) fun x_ h z => ?_
    cases z
    exact ⟨_, h, e⟩
theorem listOf_some {v : V} {p : Nat × List V} (h : ((refO v).bind fun a => (μ[a]?.bind listO).map fun xs => (a, xs)) = some p) : v = .ref p.1 ∧ μ[p.1]? = some (.list p.2) := by
  refine El_ea (bind_of h) fun a h1 h => ?_
  obtain ⟨xs, h2, rfl⟩ := map_of h
  refine El_ea (bind_of h2) fun o h3 h4 => ?_
  exact ⟨refO_some h1, h3.trans (congrArg some (listO_some h4))⟩
theorem listOfM_ref {α : Type} {v : V} {g : Nat × List V → Mx α} {r : Out α × Mem} (e : bnd (listOfM v) g μ = some r) : ∃ a xs, v = .ref a ∧ μ[a]? = some (.list xs) ∧ g (a, xs) μ = some r := by
  obtain ⟨⟨a, xs⟩, h, h2⟩ := rdM_ref e
  exact ⟨a, xs, (listOf_some h).1, (listOf_some h).2, h2⟩
theorem getM_ref {α : Type} {a : Nat} {f : MO → Mx α} {r : Out α × Mem} (e : bnd (getM a) f μ = some r) : ∃ o, μ[a]? = some o ∧ f o μ = some r := rdM_ref e
theorem setM_ref {α : Type} {a : Nat} {o : MO} {f : Unit → Mx α} {r : Out α × Mem} (e : bnd (setM a o) f μ = some r) : szOk o = true ∧ a ≠ 0 ∧ f () (μ.set a o) = some r := by
  rcases bnd_some e with ⟨_, _, _, q, _⟩ | ⟨a, μ', q, e⟩
  · refine El_aa (setM_some q) fun x_ x_ z => ?_; cases z
  · refine El_aa (setM_some q) fun h h' z => ?_
    cases z
    exact ⟨h, h', e⟩
theorem opt_ref {α β : Type} {x : Option α} {g : α → Mx β} {r : Out β × Mem} (e : bnd (opt x) g μ = some r) : ∃ a, x = some a ∧ g a μ = some r := rdM_ref (f := fun _ => x) e
theorem if_stuck {α : Type} {c : Prop} {_ : Decidable c} {f : Mx α} {r : Out α × Mem} (e : (if c then f else stuck) μ = some r) : c ∧ f μ = some r := by
  by_cases hc : c
  · rw [if_pos hc] at e; exact ⟨hc, e⟩
  · rw [if_neg hc] at e; exact no_some e
end

/-! ## Sums, products, rests; two lists joined, a list repeated -/
theorem big_line : big ≤ sizeLine := by decide
section
variable {K : Frag} {w : World} {prog : Program} {X : Fx} {m : NsMap} {ex : List (Addr × Obj)} {XR : XRel} {cs₀ : List CO} {a b : V} {va vb : Value} {op : Operator} {i j : Int} {t u : Tok}
theorem ints2_snd {f : Int → Int → Mx V} (ha : VR K (adr cs₀) a va) (hb : VR K (adr cs₀) b vb) (h : ∀ i j t u, Snd K w prog X ex XR m cs₀ (binaryOp op (.int i t) (.int j u)) (f i j) (VQ K m)) : Snd K w prog X ex XR m cs₀ (binaryOp op va vb) (ints2 a b f) (VQ K m) := by
  cases a with
  | int i =>
    cases b with
    | int j =>
      obtain ⟨t, rfl⟩ := ha.int_inv
      obtain ⟨u, rfl⟩ := hb.int_inv
      exact h i j t u
    | _ => exact fun cs μ s r Q E g S e p => no_some e
  | _ => exact fun cs μ s r Q E g S e p => no_some e
theorem addI_snd (ha : VR K (adr cs₀) a va) (hb : VR K (adr cs₀) b vb) : Snd K w prog X ex XR m cs₀ (binaryOp .Add va vb) (ints2 a b fun i j => ret (.int (i + j))) (VQ K m) :=
  ints2_snd ha hb fun i j t u cs μ s r Q E g S e p => by cases e; exact add_int (p _ cs m _ (Grow.refl _) S ⟨rfl, .int⟩)
theorem subI_snd (ha : VR K (adr cs₀) a va) (hb : VR K (adr cs₀) b vb) : Snd K w prog X ex XR m cs₀ (binaryOp .Sub va vb) (ints2 a b fun i j => ret (.int (i - j))) (VQ K m) :=
  ints2_snd ha hb fun i j t u cs μ s r Q E g S e p => by cases e; exact sub_int (p _ cs m _ (Grow.refl _) S ⟨rfl, .int⟩)
theorem mul_ok {i j : Int} (h : small i = true) : IntMulOk i j := by
  refine IntMulOk.of_left ?_
  have h1 : i.natAbs < 2 ^ 40 := of_decide_eq_true h
  unfold Builtin.Int.intBits
  by_cases h0 : i.natAbs = 0
  · rw [h0]; split <;> decide
  · have := (Nat.log2_lt h0).mpr h1; split <;> omega
theorem mulI_snd (ha : VR K (adr cs₀) a va) (hb : VR K (adr cs₀) b vb) : Snd K w prog X ex XR m cs₀ (binaryOp .Mult va vb) (ints2 a b fun i j => if small i && small j then ret (.int (i * j)) else stuck) (VQ K m) :=
  ints2_snd ha hb fun i j t u cs μ s r Q E g S e p => by
    obtain ⟨hs, e⟩ := if_stuck e
    cases e
    exact mul_int (p _ cs m _ (Grow.refl _) S ⟨rfl, .int⟩) (mul_ok ((Bool.and_eq_true _ _).mp hs).1)
theorem divI_snd (ha : VR K (adr cs₀) a va) (hb : VR K (adr cs₀) b vb) : Snd K w prog X ex XR m cs₀ (binaryOp .FloorDiv va vb) (ints2 a b fun i j => if 0 < j ∧ j < 1000000000 then ret (.int (i.fdiv j)) else stuck) (VQ K m) :=
  ints2_snd ha hb fun i j t u cs μ s r Q E g S e p => by
    obtain ⟨hs, e⟩ := if_stuck e
    cases e
    exact PyProof.Rows.floordiv_int (Int.ne_of_gt hs.1) (p _ cs m _ (Grow.refl _) S ⟨rfl, .int⟩) (.inl (PyProof.noPylong_small (by have := hs.1; have := hs.2; clear p S g hs; omega)))
theorem modI_snd (ha : VR K (adr cs₀) a va) (hb : VR K (adr cs₀) b vb) : Snd K w prog X ex XR m cs₀ (binaryOp .Mod va vb) (ints2 a b fun i j => if 0 < j ∧ j < 1000000000 then ret (.int (i.fmod j)) else stuck) (VQ K m) :=
  ints2_snd ha hb fun i j t u cs μ s r Q E g S e p => by
    obtain ⟨hs, e⟩ := if_stuck e
    cases e
    exact mod_int' (Int.ne_of_gt hs.1) (p _ cs m _ (Grow.refl _) S ⟨rfl, .int⟩)
theorem szL {xs : List V} (h : szOk (.list xs) = true) : xs.length ≤ big := of_decide_eq_true h
theorem join_snd (ha : VR K (adr cs₀) a va) (hb : VR K (adr cs₀) b vb) : Snd K w prog X ex XR m cs₀ (binaryOp .Add va vb) (bnd (listOfM a) fun p => bnd (listOfM b) fun q => newM (.list (p.2 ++ q.2))) (VQ K m) := fun cs μ s r Q E g S e p => by
  obtain ⟨x, xs, rfl, hx, e⟩ := listOfM_ref e
  obtain ⟨y, ys, rfl, hy, e⟩ := listOfM_ref e
  obtain ⟨va, rfl, ha2⟩ := ha.ref_inv
  obtain ⟨vb, rfl, hb2⟩ := hb.ref_inv
  refine El_eeaa (isList_at S (g.at ha2) hx) fun vs n o1 l1 r1 => ?_
  refine El_eeaa (isList_at S (g.at hb2) hy) fun ws n' o2 l2 r2 => ?_
  refine El_ea S.1.news fun lo hl N => ?_
  have hz := szL (newM_sz e)
  refine add_arrays S.1.fr N l1 l2 (fun h' F' N' => post_new (tk := s.toks) S e p hl F' N' ⟨vs ++ ws, 0, by simp, rfl, (r1.append r2).mono fun x_ x_ z => z.grow (adr_push _ _)⟩) ?_
  rw [List.size_toArray, List.size_toArray, ← r1.length, ← r2.length, ← List.length_append]
  exact Nat.le_trans hz big_line
theorem fold_rep (val : Value) : ∀ (j : Nat) (acc : Array Value), List.foldl (fun x1 x2 => x1 ++ x2) acc (List.replicate j #[val]) = acc ++ (List.replicate j val).toArray := by
  intro j
  induction j with
  | zero => intro acc; simp
  | succ j ih => intro acc; rw [List.replicate_succ, List.foldl_cons, ih, List.replicate_succ]; apply Array.ext'; simp
theorem all2_rep {α β : Type} {R : α → β → Prop} {x : α} {y : β} (h : R x y) : ∀ j : Nat, All2 R (List.replicate j x) (List.replicate j y)
  | 0 => .nil
  | j + 1 => .cons h (all2_rep h j)
theorem all2_one {α β : Type} {R : α → β → Prop} {a : α} {l : List β} (h : All2 R [a] l) : ∃ x, l = [x] ∧ R a x := by
  cases h with
  | cons h1 h => cases h; exact ⟨_, rfl, h1⟩
theorem rep_snd {x : Nat} {v : V} {k : Int} {tk : Tok} (ha : VR K (adr cs₀) (.ref x) va) (hs : k.toNat ≤ big ∧ small k = true) {cs : List CO} {μ : Mem} {s : Shared} {r : Out V × Mem} {Q : Value → Shared → Prop} {E : Value → Shared → Prop} (g : Grow (adr cs₀) (adr cs)) (S : SR K w prog X m ex cs μ s) (hx : μ[x]? = some (.list [v]))
    (e : newM (.list (List.replicate k.toNat v)) μ = some r) (p : Post K w prog X ex cs XR (VQ K m) Q E r) : wpAny (model prog w) X.A (binaryOp .Mult va (.int k tk)) Q E s := by
  obtain ⟨va, rfl, ha2⟩ := ha.ref_inv
  refine El_eeaa (isList_at S (g.at ha2) hx) fun vs n o1 l1 r1 => ?_
  refine El_ea (all2_one r1) fun val r_1 r2 => ?_; (first | subst r_1 | cases r_1)
  refine El_ea S.1.news fun lo hl N => ?_
  have hb : k.natAbs < 2 ^ 40 := of_decide_eq_true hs.2
  have hb0 : k.toNat ≤ 1000 := hs.1
  refine mul_list S.1.fr N o1 (by clear p S g hs N; omega) (by clear p S g hs N; omega) (by rw [List.size_toArray]; show 1 * _ ≤ _; rw [Nat.one_mul]; exact Nat.le_trans hs.1 big_line) fun h' F' N' => ?_
  refine post_new (tk := s.toks) S e p hl F' N' ⟨List.replicate k.toNat val, 0, ?_, rfl, all2_rep (r2.grow (adr_push _ _)) _⟩
  congr 2
  simpa using fold_rep val k.toNat #[]
theorem mulR_snd {x : Nat} (ha : VR K (adr cs₀) (.ref x) va) (hb : VR K (adr cs₀) b vb) : Snd K w prog X ex XR m cs₀ (binaryOp .Mult va vb) (mulM (.ref x) b) (VQ K m) := fun cs μ s r Q E g S e p => by
  refine El_eeaa (listOfM_ref e) fun y xs h1 hx e => ?_
  cases h1
  cases xs with
  | nil => exact no_some e
  | cons v r => cases r with
    | cons => exact no_some e
    | nil => cases b with
      | int k =>
        obtain ⟨tk, rfl⟩ := hb.int_inv
        obtain ⟨hs, e⟩ := if_stuck e
        exact rep_snd ha hs g S hx e p
      | _ => exact no_some e
theorem binM_snd (ha : VR K (adr cs₀) a va) (hb : VR K (adr cs₀) b vb) : Snd K w prog X ex XR m cs₀ (binaryOp op va vb) (binM op a b) (VQ K m) := by
  cases op with
  | Add => cases a with
    | ref x => exact join_snd ha hb
    | _ => exact addI_snd ha hb
  | Sub => exact subI_snd ha hb
  | Mult => cases a with
    | ref x => exact mulR_snd ha hb
    | _ => exact mulI_snd ha hb
  | FloorDiv => exact divI_snd ha hb
  | Mod => exact modI_snd ha hb
  | _ => exact fun cs μ s r Q E g S e p => no_some e
end
/-! ## Stores into lists -/
section
variable {prog : Program} {w : World} {A : Around} {E : Value → Shared → Prop} {s : Shared}
theorem letGo_any {M : Model} {Q : Unit → Shared → Prop} (q : Q () s) : ∀ (l : List Value) (ks : List Value), wpAny M A (letGo l ks) Q E s
  | [], _ => wpAny_pure q
  | _ :: r, ks => wpAny_bind (wpAny_holding (wpAny_point (letGo_any q r ks)))
theorem plain_upd {h : Heap} {l : Addr} {xs : List Value} {n : Nat} (f : Array Value → Array Value) (ho : h.get? l = some (listObj xs n)) :
    ∃ n', (h.update l (Obj.mapSeq f)).get? l = some (listObj (f xs.toArray).toList n') := by
  refine ⟨if (f xs.toArray).size == xs.toArray.size then n else n + 1, ?_⟩
  have : Obj.mapSeq f (listObj xs n) = listObj (f xs.toArray).toList (if (f xs.toArray).size == xs.toArray.size then n else n + 1) := rfl
  rw [← this]
  exact Heap.get?_update_self _ ho rfl
/-- an item of a list is stored -/
theorem setItem_int {l : Addr} {xs : List Value} {n : Nat} {i : Int} {k : Nat} {t : Tok} {v : Value} {Q : Unit → Shared → Prop} (ho : s.heap.get? l = some (listObj xs n)) (h0 : 0 ≤ i) (hf : i < 2 ^ 63) (hi : i.toNat = k) (hn : k < xs.length)
    (hQ : ∀ h' n', h'.get? l = some (listObj (xs.set k v) n') → Heap.SameBut l s.heap h' → Q () { s with heap := h' }) : wpAny (model prog w) A (setItem (.ref l) (.int i t) v) Q E s := by
  have hl : s.heap.IsList l xs.toArray := ⟨_, ho, rfl, n, rfl⟩
  unfold setItem
  try with_reducible refine wpAny_holding ?_
  first | refine wpAny_bind (wpAny_pure ?_) | skip
  refine wpAny_bind (wpAny_sequenceKey hl.typeIs (by decide) ?_)
  refine wpAny_bind (wpAny_callSpecial?_slot (name := Str.ofString "__setitem__") hl.typeIs slot_list_setitem
    (wpAny_call_entry slot_list_setitem hl.typeIs entry_list_setitem ?_ (args_list_setitem _ _ _)))
  show wpAny _ _ (Builtin.List.listSubscript? (.int i t) >>= _) _ _ s
  refine wpAny_bind (wpAny_listSubscript_int (fitsIndex_of h0 hf) ?_)
  clear hf
  obtain ⟨j, rfl⟩ := Int.eq_ofNat_of_zero_le h0
  obtain rfl : j = k := hi
  show wpAny _ _ ((seqItemAt l j >>= fun r => pure (r.map (j, ·))) >>= _) _ _ s
  refine wpAny_bind (wpAny_bind (wpAny_seqItemAt ho rfl (wpAny_pure ?_)))
  rw [Array.getElem?_eq_getElem (by simpa using hn)]
  show wpAny _ _ (setSeqItemAt l j v >>= _) _ _ s
  obtain ⟨n', e'⟩ := plain_upd (·.setIfInBounds j v) ho
  refine wpAny_bind (wpAny_setSeqItemAt ho rfl ?_)
  have e2 : (xs.toArray.setIfInBounds j v).toList = xs.set j v := by simp
  first
    | exact wpAny_bind (wpAny_pure (wpAny_pure ⟨.none, rfl, wpAny_pure (hQ _ n' (e2 ▸ e') (Heap.SameBut.update ..))⟩))
    | exact wpAny_pure ⟨.none, rfl, wpAny_pure (hQ _ n' (e2 ▸ e') (Heap.SameBut.update ..))⟩
theorem not_long {xs ys : List Value} (h : xs.length + ys.length ≤ 2 * big) : ¬ Builtin.List.listTooLong (xs.toArray.size + ys.toArray.size) = true := by
  unfold Builtin.List.listTooLong
  have hb1 : big = 1000 := rfl
  have hb2 : sizeLine = 16777216 := by decide
  simp only [List.size_toArray, decide_eq_true_eq]
  omega
theorem size_three {xs ys : List Value} (h : xs.length + ys.length ≤ 2 * big) (a c : Nat) : (xs.toArray.extract 0 a ++ ys.toArray ++ xs.toArray.extract c xs.toArray.size).size ≤ sizeLine + 1 := by
  rw [Array.size_append, Array.size_append, Array.size_extract, Array.size_extract]
  show min a xs.length - 0 + ys.length + (min xs.length xs.length - c) ≤ 16777217
  have hb1 : big = 1000 := rfl
  rw [Nat.min_self, Nat.sub_zero]
  have := Nat.min_le_right a xs.length
  omega
/-- a slice of a list is stored -/
theorem setItem_slice {l b sl : Addr} {xs ys : List Value} {n n2 : Nat} {vl vu : Value} {lo hi : Option Int} {Q : Unit → Shared → Prop} (ho : s.heap.get? l = some (listObj xs n)) (hb : s.heap.get? b = some (listObj ys n2))
    (hs : s.heap.IsSliceOf sl vl vu .none) (pl : IsPart vl lo) (pu : IsPart vu hi) (hne : (l == b) = false) (hz : xs.length + ys.length ≤ 2 * big)
    (hQ : ∀ h' n', h'.get? l = some (listObj (xs.take (sliceBounds lo hi none xs.length).1.toNat ++ ys ++ xs.drop (max (sliceBounds lo hi none xs.length).1 (sliceBounds lo hi none xs.length).2.1).toNat) n') → Heap.SameBut l s.heap h' → Q () { s with heap := h' }) :
    wpAny (model prog w) A (setItem (.ref l) (.ref sl) (.ref b)) Q E s := by
  have hl : s.heap.IsList l xs.toArray := ⟨_, ho, rfl, n, rfl⟩
  have hbl : s.heap.IsList b ys.toArray := ⟨_, hb, rfl, n2, rfl⟩
  refine El_eaa (id hs) fun os hos hcs hds => ?_
  have hTs : s.TypeIs (.ref sl) "slice" := ⟨os, hos, hcs⟩
  unfold setItem
  try with_reducible refine wpAny_holding ?_
  first | refine wpAny_bind (wpAny_pure ?_) | skip
  refine wpAny_bind (wpAny_sequenceKey hl.typeIs (by decide) ?_)
  refine wpAny_bind (wpAny_callSpecial?_slot (name := Str.ofString "__setitem__") hl.typeIs slot_list_setitem
    (wpAny_call_entry slot_list_setitem hl.typeIs entry_list_setitem ?_ (args_list_setitem _ _ _)))
  show wpAny _ _ (Builtin.List.listSubscript? (.ref sl) >>= _) _ _ s
  refine wpAny_bind ?_
  unfold Builtin.List.listSubscript?
  refine wpAny_bind (wpAny_specialOf hTs slice_no_index ?_)
  simp only [Option.isNone_none, if_true]
  refine wpAny_pure ?_
  show wpAny _ _ (typeOf (.ref sl) >>= _) _ _ s
  refine wpAny_bind (wpAny_typeOf hTs ?_)
  rw [if_neg (by decide)]
  rw [listSliceParts_eq]
  refine wpAny_bind (wpAny_bind (wpAny_field hos hds (x := .none) rfl (wpAny_bind (wpAny_listPart .none ?_))))
  rw [if_neg (by exact Bool.false_ne_true)]
  refine wpAny_bind (wpAny_field hos hds (x := vl) rfl (wpAny_bind (wpAny_listPart pl ?_)))
  refine wpAny_bind (wpAny_field hos hds (x := vu) rfl (wpAny_bind (wpAny_listPart pu (wpAny_pure ?_))))
  have e1 : Builtin.List.listSameRef (.ref l) (.ref b) = false := hne
  dsimp only
  rw [e1]
  simp only [Bool.false_eq_true, if_false]
  unfold Builtin.List.listAllItems
  refine wpAny_bind (wpAny_bind (wpAny_typeOf hbl.typeIs ?_))
  simp only [beq_self_eq_true, Bool.true_or, if_true]
  unfold Builtin.List.listItems
  refine wpAny_bind (wpAny_seqItems hb rfl (wpAny_pure ?_))
  refine wpAny_bind (wpAny_bind (wpAny_seqItems ho rfl (wpAny_pure ?_)))
  refine wpAny_bind (wpAny_of_eq (sliceIndices_raw lo hi none xs.toArray.size (by simp)) ?_)
  have e3 : (sliceBounds lo hi none xs.toArray.size).2.2 = 1 := rfl
  rw [if_pos (by rw [e3]; rfl)]
  refine wpAny_bind (wpAny_rule ?_)
  rw [if_neg (not_long hz)]
  obtain ⟨n', e'⟩ := plain_upd (fun zs => zs.extract 0 (sliceBounds lo hi none xs.toArray.size).1.toNat ++ ys.toArray ++ zs.extract (max (sliceBounds lo hi none xs.toArray.size).1 (sliceBounds lo hi none xs.toArray.size).2.1).toNat zs.size) ho
  refine wpAny_bind (wpAny_updateSeq ho rfl (wpAny_bind (letGo_any ?_ _ _)) ?_ ?_)
  · refine wpAny_pure ⟨.none, rfl, wpAny_pure (hQ _ n' ?_ (Heap.SameBut.update ..))⟩
    have e4 : ∀ M : Nat, List.take (xs.length - M) (xs.drop M) = xs.drop M := fun M => List.take_of_length_le (by simp)
    simp only [List.size_toArray, List.extract_toArray, List.extract_eq_drop_take, List.drop_zero, Nat.sub_zero, List.append_toArray, List.toList_toArray, e4] at e'
    exact e'
  · exact Nat.le_trans (Nat.le_add_right _ ys.length) (Nat.le_trans hz (by decide))
  · exact size_three hz _ _
end
/-! ## Items, slices, dict entries -/
section
variable {KT : Type} [DecidableEq KT] {enc : KT → V} {P : V → Value → Prop}
theorem dget_some (inj : ∀ a b, enc a = enc b → a = b) {es : List (V × V)} {kvs : List (KT × Value)} (h : All2 (fun p q => p.1 = enc q.1 ∧ P p.2 q.2) es kvs) {k : KT} {v : V} (e : getD (enc k) es = some v) :
    ∃ val, valueAt kvs k = some val ∧ P v val := by
  induction h with
  | nil => cases e
  | @cons a b l r x y ih =>
    obtain ⟨a1, a2⟩ := a
    obtain ⟨b1, b2⟩ := b
    obtain ⟨x1, x2⟩ := x
    dsimp only at x1 x2
    unfold getD at e
    unfold valueAt
    rw [List.find?_cons]
    by_cases hk : b1 = k
    · subst hk
      rw [if_pos x1] at e
      cases e
      exact ⟨b2, by simp, x2⟩
    · rw [if_neg (fun z => hk (inj _ _ (x1.symm.trans z)))] at e
      refine El_ea (ih e) fun val h1 h2 => ?_
      exact ⟨val, by simp only [hk, decide_false]; exact h1, h2⟩
theorem dget_none (inj : ∀ a b, enc a = enc b → a = b) {es : List (V × V)} {kvs : List (KT × Value)} (h : All2 (fun p q => p.1 = enc q.1 ∧ P p.2 q.2) es kvs) {k : KT} (e : getD (enc k) es = none) : valueAt kvs k = none := by
  induction h with
  | nil => rfl
  | @cons a b l r x y ih =>
    obtain ⟨a1, a2⟩ := a
    obtain ⟨b1, b2⟩ := b
    obtain ⟨x1, x2⟩ := x
    dsimp only at x1 x2
    unfold getD at e
    unfold valueAt
    rw [List.find?_cons]
    by_cases hk : b1 = k
    · subst hk; rw [if_pos x1] at e; cases e
    · rw [if_neg (fun z => hk (inj _ _ (x1.symm.trans z)))] at e
      simp only [hk, decide_false]; exact ih e
theorem map_off {k : KT} {val : Value} : ∀ {kvs : List (KT × Value)}, k ∉ kvs.map (·.1) → kvs.map (fun kv => if kv.1 = k then (kv.1, val) else kv) = kvs
  | [], _ => rfl
  | (b1, b2) :: r, h => by
    simp only [List.map_cons, List.mem_cons, not_or] at h
    rw [List.map_cons, map_off h.2, if_neg fun z => h.1 z.symm]
set_option tactic.hygienic true in
theorem dset (inj : ∀ a b, enc a = enc b → a = b) {es : List (V × V)} {kvs : List (KT × Value)} (h : All2 (fun p q => p.1 = enc q.1 ∧ P p.2 q.2) es kvs) (nd : (kvs.map (·.1)).Nodup) {k : KT} {v : V} {val : Value} (hv : P v val) :
    All2 (fun p q => p.1 = enc q.1 ∧ P p.2 q.2) (setD (enc k) v es) (stored kvs k val) := by
  have key : All2 (fun p q => p.1 = enc q.1 ∧ P p.2 q.2) (setD (enc k) v es) (if (kvs.any fun kv => decide (kv.1 = k)) = true then kvs.map (fun kv => if kv.1 = k then (kv.1, val) else kv) else kvs ++ [(k, val)]) := by
    induction h with
    | nil => exact .cons ⟨rfl, hv⟩ .nil
    | @cons a b l r x y ih =>
      obtain ⟨a1, a2⟩ := a
      obtain ⟨b1, b2⟩ := b
      obtain ⟨x1, x2⟩ := x
      dsimp only at x1 x2
      simp only [List.map_cons, List.nodup_cons] at nd
      unfold setD
      by_cases hk : b1 = k
      · subst hk
        rw [if_pos x1]
        simp only [List.any_cons, decide_true, Bool.true_or, if_true, List.map_cons]
        rw [map_off nd.1]
        exact .cons ⟨x1, hv⟩ y
      · rw [if_neg (fun z => hk (inj _ _ (x1.symm.trans z)))]
        simp only [List.any_cons, hk, decide_false, Bool.false_or, List.map_cons, if_false]
        have := ih nd.2
        split
        · rename_i q; rw [if_pos q] at this; exact .cons ⟨x1, x2⟩ this
        · rename_i q; rw [if_neg q] at this; exact .cons ⟨x1, x2⟩ this
  exact key
end
theorem strInj (a b : Str) (h : V.str a = V.str b) : a = b := by cases h; rfl
theorem intInj (a b : Int) (h : V.int a = V.int b) : a = b := by cases h; rfl
set_option tactic.hygienic true in
theorem getD_mem {es : List (V × V)} {i v : V} (e : getD i es = some v) : ∃ p ∈ es, p.1 = i := by
  induction es with
  | nil => cases e
  | cons a r ih =>
    obtain ⟨a1, a2⟩ := a
    unfold getD at e
    split at e
    · rename_i z; exact ⟨_, .head _, z⟩
    · refine El_ea (ih e) fun p x y => ?_; exact ⟨p, .tail _ x, y⟩
theorem seq_ix {k : Int} {n : Nat} (h0 : 0 ≤ k) (h : k.toNat < n) : seqIndex? k n = some k.toNat := by
  unfold seqIndex?
  rw [if_neg (Int.not_lt.mpr h0)]
  exact if_pos ((Bool.and_eq_true _ _).mpr ⟨decide_eq_true h0, decide_eq_true (by omega)⟩)
theorem allStr_set {es : List (V × V)} {k : Str} {v : V} (h : allStr es) : allStr (setD (.str k) v es) := by
  induction es with
  | nil => intro p hp; simp [setD] at hp; exact ⟨k, by rw [hp]⟩
  | cons a r ih =>
    obtain ⟨a1, a2⟩ := a
    have h1 := h (a1, a2) (.head _)
    have h2 : allStr r := fun p hp => h p (.tail _ hp)
    unfold setD
    split
    · intro p hp; rcases List.mem_cons.mp hp with rfl | hp
      · exact h1
      · exact h2 p hp
    · intro p hp; rcases List.mem_cons.mp hp with rfl | hp
      · exact h1
      · exact ih h2 p hp
theorem allInt_set {es : List (V × V)} {k : Int} {v : V} (h : allInt es) : allInt (setD (.int k) v es) := by
  induction es with
  | nil => intro p hp; simp [setD] at hp; exact ⟨k, by rw [hp]⟩
  | cons a r ih =>
    obtain ⟨a1, a2⟩ := a
    have h1 := h (a1, a2) (.head _)
    have h2 : allInt r := fun p hp => h p (.tail _ hp)
    unfold setD
    split
    · intro p hp; rcases List.mem_cons.mp hp with rfl | hp
      · exact h1
      · exact h2 p hp
    · intro p hp; rcases List.mem_cons.mp hp with rfl | hp
      · exact h1
      · exact ih h2 p hp
theorem setD_len (k v : V) : ∀ es : List (V × V), es.length ≤ (setD k v es).length
  | [] => Nat.zero_le _
  | (a1, a2) :: r => by
    have := setD_len k v r
    unfold setD; split <;> simp <;> omega
theorem setD_ne {es : List (V × V)} {k v : V} : setD k v es ≠ [] := by
  cases es with
  | nil => simp [setD]
  | cons a r => obtain ⟨a1, a2⟩ := a; unfold setD; split <;> simp

section
variable {K : Frag} {w : World} {prog : Program} {X : Fx} {m : NsMap} {ex : List (Addr × Obj)} {XR : XRel} {cs cs₀ : List CO} {μ : Mem} {s : Shared}
set_option tactic.hygienic true in
/-- the post behind a change of one object -/
theorem post_set {a : Nat} {o : MO} {c : CO} {ob : Obj} {h' : Heap} {Q : Unit → Shared → Prop} {E : Value → Shared → Prop} {tk : Nat} {r : Out Unit × Mem} (S : SR K w prog X m ex cs μ s) (e : setM a o μ = some r) (p : Post K w prog X ex cs XR (UQ m) Q E r)
    (hc : cs[a]? = some c) (hd : c.d = none) (hs : Heap.SameBut c.x s.heap h') (he : h'.get? c.x = some ob) (ho : OR K w prog (adr cs) o ⟨c.x, ob, none⟩) : Q () { s with heap := h', toks := tk } := by
  unfold setM at e
  split at e
  · rename_i hz
    cases e
    have ha := adr_set (c' := ⟨c.x, ob, none⟩) hc rfl
    refine p _ (cs.set a ⟨c.x, ob, none⟩) m () (by rw [ha]; exact Grow.refl _) ⟨S.1.change hz.2 hz.1 hc (by simp [CO.ents]) hs.2 rfl (by simp [CO.ents, hd]) (fun q hq => ?_) ho, S.2⟩ rfl
    simp only [CO.ents, Option.toList_none, List.mem_cons, List.not_mem_nil, or_false] at hq
    rw [hq]; exact he
  · cases e
theorem co_at (S : SR K w prog X m ex cs μ s) {a : Nat} {x : Addr} (hx : (adr cs)[a]? = some x) {o : MO} (hm : μ[a]? = some o) : ∃ c, cs[a]? = some c ∧ c.x = x ∧ OR K w prog (adr cs) o c ∧ s.heap.get? c.x = some c.o ∧ c.x ≠ sysModules := by
  refine El_ea (S.1.O.get hm) fun c hc ho => ?_
  have : (adr cs)[a]? = some c.x := by unfold adr; rw [List.getElem?_map, hc]; rfl
  rw [this] at hx; cases hx
  have := S.1.led _ (List.mem_append_right _ (nw_mem (List.mem_of_getElem? hc) (.head _)))
  exact ⟨c, hc, rfl, ho, this.1, this.2.2⟩

set_option backward.match.sparseCases false in
/-- what an item's look needs: the slice is no cut -/
noncomputable def noCut : Expr → Bool
  | .Slice _ _ st _ => st.isSome
  | _ => true
theorem subscripted_item {slice : Expr} (h : noCut slice = true) (o i : Value) : subscripted slice false o i = PySem.operate [o, i] (getItem o i) := by
  cases slice with
  | Slice l u st p => cases st with
    | none => exact no_true h
    | some _ => rfl
  | _ => rfl
theorem isStrV_of {v : V} (h : isStrV v = true) : ∃ k, v = .str k := by
  cases v with
  | str k => exact ⟨k, rfl⟩
  | _ => exact no_true h
theorem isIntV_of {v : V} (h : isIntV v = true) : ∃ k, v = .int k := by
  cases v with
  | int k => exact ⟨k, rfl⟩
  | _ => exact no_true h
theorem isKey_of {v : V} (h : isKey v = true) : (∃ k, v = .str k) ∨ ∃ k, v = .int k := ((Bool.or_eq_true _ _).mp h).imp isStrV_of isIntV_of
/-- a dict of the ledger's under a key of its kind -/
noncomputable def DAt (K : Frag) (as : List Addr) (c : CO) {prog : Program} {w : World} {KT : Type} [DecidableEq KT] (knd : KeyKind prog w KT) (enc : KT → V) (es : List (V × V)) : Prop := ∃ kvs, c.o.IsDictOf knd kvs ∧ All2 (fun p q => p.1 = enc q.1 ∧ VR K as p.2 q.2) es kvs
theorem kind_or {k : V} {es : List (V × V)} (hk : kindKey k es = true) : ((∃ x, k = .str x) ∧ ∀ p r, es = p :: r → ∃ x, p.1 = .str x) ∨ (∃ x, k = .int x) ∧ ∀ p r, es = p :: r → ∃ x, p.1 = .int x := by
  cases es with
  | nil => exact (isKey_of hk).imp (fun h => ⟨h, fun _ _ z => nomatch z⟩) fun h => ⟨h, fun _ _ z => nomatch z⟩
  | cons p r =>
    refine ((Bool.or_eq_true _ _).mp hk).imp (fun h => ?_) fun h => ?_
    · have h := (Bool.and_eq_true _ _).mp h; exact ⟨isStrV_of h.1, fun _ _ z => by cases z; exact isStrV_of h.2⟩
    · have h := (Bool.and_eq_true _ _).mp h; exact ⟨isIntV_of h.1, fun _ _ z => by cases z; exact isIntV_of h.2⟩
theorem dict_kind {es : List (V × V)} {c : CO} {k : V} (ho : OR K w prog (adr cs) (.dict es) c) (hk : kindKey k es = true) :
    ((∃ x, k = .str x) ∧ allStr es ∧ DAt K (adr cs) c (strKind prog w) .str es) ∨ (∃ x, k = .int x) ∧ allInt es ∧ DAt K (adr cs) c (intKind prog w) .int es := by
  refine El_aa ho fun x_ h2 h3 => ?_
  refine (kind_or hk).imp (fun h => ⟨h.1, ?_⟩) fun h => ⟨h.1, ?_⟩
  · cases es with
    | nil => exact ⟨(fun _ hp => nomatch hp), [], (h3 rfl).1, .nil⟩
    | cons p r =>
      refine h2.elim id fun z => absurd (z.1 p (.head _)) fun z => ?_
      obtain ⟨x, e1⟩ := h.2 _ _ rfl
      obtain ⟨y, e2⟩ := z
      cases e1.symm.trans e2
  · cases es with
    | nil => exact ⟨(fun _ hp => nomatch hp), [], (h3 rfl).2, .nil⟩
    | cons p r =>
      refine h2.elim (fun z => absurd (z.1 p (.head _)) fun z => ?_) id
      obtain ⟨x, e1⟩ := h.2 _ _ rfl
      obtain ⟨y, e2⟩ := z
      cases e1.symm.trans e2
theorem getD_kind {es : List (V × V)} {i v : V} (e : getD i es = some v) (hk : isKey i = true) (h : allStr es ∨ allInt es) : kindKey i es = true := by
  cases es with
  | nil => exact hk
  | cons p r =>
    refine El_ea (getD_mem e) fun q hq h1 => ?_
    refine (Bool.or_eq_true _ _).mpr (h.imp (fun h => ?_) fun h => ?_)
    · obtain ⟨x, e1⟩ := h q hq
      obtain ⟨y, e2⟩ := h p (.head _)
      rw [← h1, e1, e2]; rfl
    · obtain ⟨x, e1⟩ := h q hq
      obtain ⟨y, e2⟩ := h p (.head _)
      rw [← h1, e1, e2]; rfl
noncomputable def GetR (K : Frag) (w : World) (prog : Program) (X : Fx) (as : List Addr) (s : Shared) (t : Sem Value) (v : V) : Prop := ∀ (Q : Value → Shared → Prop) (E : Value → Shared → Prop), (∀ val tk, VR K as v val → Q val { s with toks := tk }) → wpAny (model prog w) X.A t Q E s
theorem dictGet {es : List (V × V)} {c : CO} {i v : V} {vi : Value} (ho : OR K w prog (adr cs) (.dict es) c) (hg : s.heap.get? c.x = some c.o) (hi : VR K (adr cs) i vi) (hk : isKey i = true) (e : getD i es = some v) : GetR K w prog X (adr cs) s (getItem (.ref c.x) vi) v := fun Q E q => by
  rcases dict_kind ho (getD_kind e hk (ho.2.1.imp And.left And.left)) with ⟨⟨k, h1⟩, _, kvs, hd, hp⟩ | ⟨⟨k, h1⟩, _, kvs, hd, hp⟩
  · rw [h1] at hi e
    obtain ⟨t, rfl⟩ := hi.str_inv
    refine El_ea (dget_some (P := VR K (adr cs)) strInj hp e) fun val h1 h2 => ?_
    exact wpAny_getItem_of (strKind_is prog w k t) (Heap.dictOf_iff.mpr ⟨_, hg, hd⟩).mapOf h1 (q val _ h2)
  · rw [h1] at hi e
    obtain ⟨t, rfl⟩ := hi.int_inv
    refine El_ea (dget_some (P := VR K (adr cs)) intInj hp e) fun val h1 h2 => ?_
    exact wpAny_getItem_of (intKind_is prog w k t) (Heap.dictOf_iff.mpr ⟨_, hg, hd⟩).mapOf h1 (q val _ h2)
theorem dict_type {es : List (V × V)} {c : CO} (ho : OR K w prog (adr cs) (.dict es) c) (hg : s.heap.get? c.x = some c.o) : s.TypeIs (.ref c.x) "dict" :=
  ho.2.1.elim (fun ⟨_, _, hd, _⟩ => (Heap.dictOf_iff.mpr ⟨_, hg, hd⟩).mapOf.typeIs) fun ⟨_, _, hd, _⟩ => (Heap.dictOf_iff.mpr ⟨_, hg, hd⟩).mapOf.typeIs
theorem itemAt_some {xs : List V} {i v : V} (e : itemAt xs i = some v) : ∃ k, i = .int k ∧ (0 ≤ k ∧ small k = true) ∧ xs[k.toNat]? = some v := by
  refine El_ea (bind_of e) fun k h1 e => ?_
  obtain ⟨h2, e⟩ := if_some e
  exact ⟨k, intO_some h1, h2, e⟩
theorem lt63 {k : Int} (h : small k = true) : k < 2 ^ 63 := by
  have : k.natAbs < 2 ^ 40 := of_decide_eq_true h
  omega
theorem item_tail {value slice : Expr} {c : CO} {ob : MO} {i v : V} {vi : Value} (hn : noCut slice = true) (hO : OR K w prog (adr cs) ob c) (hg : s.heap.get? c.x = some c.o) (hi : VR K (adr cs) i vi) (e : itemIn i ob = some v) : GetR K w prog X (adr cs) s (subscriptTail value slice (.ref c.x) vi) v := fun Q E q => by
  cases ob with
  | list xs =>
    refine El_eaa (itemAt_some e) fun k h1 hk hv => ?_
    obtain ⟨t, rfl⟩ := VR.int_inv (h1 ▸ hi)
    refine El_eeaa hO fun vs n h1 h2 h3 => ?_
    refine El_ea (h3.get hv) fun val h4 h5 => ?_
    have hl : s.heap.IsList c.x vs.toArray := ⟨_, h1 ▸ hg, rfl, n, rfl⟩
    exact tail_any hl.typeIs slot_list_getitem.lookup (wpAny_getItem_list hl hk.1 (lt63 hk.2) (List.getElem?_toArray ▸ h4) (q val s.toks h5)) (subscripted_item hn _ _)
  | tup xs =>
    refine El_eaa (itemAt_some e) fun k h1 hk hv => ?_
    obtain ⟨t, rfl⟩ := VR.int_inv (h1 ▸ hi)
    refine El_eeaa hO fun vs n h1 h2 h3 => ?_
    refine El_ea (h3.get hv) fun val h4 h5 => ?_
    have ht : IsTup s.heap c.x vs.toArray := ⟨_, h1 ▸ hg, rfl, n, rfl⟩
    have h63 := lt63 hk.2
    have hlt : k.toNat < vs.toArray.size := (List.getElem?_eq_some_iff.mp h4).1
    refine tail_any (T := "tuple") ⟨_, hg, by rw [h1]⟩ slot_tuple_getitem.lookup (getItem_tuple ht (by clear hi q h3 hg ht; omega) (by clear hi q h3 hg ht; omega) (j := k.toNat) ?_ (List.getElem?_toArray ▸ h4) (q val s.toks h5)) (subscripted_item hn _ _)
    exact seq_ix hk.1 hlt
  | dict es =>
    obtain ⟨hk, e⟩ := if_some e
    exact tail_any (T := "dict") (dict_type hO hg) slot_dict_getitem.lookup (dictGet hO hg hi hk e Q E q) (subscripted_item hn _ _)
  | _ => exact no_some e
theorem itemM_snd {value slice : Expr} {o i : V} {vo vi : Value} (hn : noCut slice = true) (ho : VR K (adr cs₀) o vo) (hi : VR K (adr cs₀) i vi) : Snd K w prog X ex XR m cs₀ (subscriptTail value slice vo vi) (itemM o i) (VQ K m) := fun cs μ s r Q E g S e p => by
  refine El_ea (rdM_some e) fun v h h' => ?_
  refine El_ea (bind_of h) fun a h1 h => ?_
  refine El_ea (bind_of h) fun ob h2 h => ?_
  refine El_ea (VR.ref_inv (refO_some h1 ▸ ho)) fun x h3 hx => ?_
  refine El_eaaaa (co_at S (g.at hx) h2) fun c hc h4 hO hg hns => ?_
  rw [h3, ← h4]
  cases h'
  exact item_tail hn hO hg (hi.grow g) h _ _ fun val tk h5 => p _ cs m val (Grow.refl _) S ⟨rfl, h5⟩
theorem szD {es : List (V × V)} (h : szOk (.dict es) = true) : es.length ≤ big := of_decide_eq_true h
theorem setM_sz {a : Nat} {o : MO} {r : Out Unit × Mem} (e : setM a o μ = some r) : szOk o = true := (setM_some e).1
theorem dict_store {KT : Type} [DecidableEq KT] {knd : KeyKind prog w KT} {enc : KT → V} (inj : ∀ a b, enc a = enc b → a = b) {a : Nat} {c : CO} {k : KT} {vi vv : Value} {v : V} {es : List (V × V)} {r : Out Unit × Mem} {Q : Unit → Shared → Prop} {E : Value → Shared → Prop}
    (hkey : knd.is k vi = true) (S : SR K w prog X m ex cs μ s) (e : setM a (.dict (setD (enc k) v es)) μ = some r) (p : Post K w prog X ex cs XR (UQ m) Q E r) (hc : cs[a]? = some c) (h1 : c.d = none) (hg : s.heap.get? c.x = some c.o) (hv : VR K (adr cs) v vv)
    (hd : DAt K (adr cs) c knd enc es) (hO : ∀ ob, DAt K (adr cs) ⟨c.x, ob, none⟩ knd enc (setD (enc k) v es) → OR K w prog (adr cs) (.dict (setD (enc k) v es)) ⟨c.x, ob, none⟩) : wpAny (model prog w) X.A (setItem (.ref c.x) vi vv) Q E s := by
  refine El_ea hd fun kvs hd hp => ?_
  refine El_eeaaaa (id hd) fun x_ x_ x_ x_ x_ x_ nd => ?_
  refine wpAny_setItem_pairs (hsz := ?_) hkey (Heap.dictOf_iff.mpr ⟨_, hg, hd⟩) fun h' hd' hsb => ?_
  · refine El_ea (Heap.dictOf_iff.mp hd') fun ob he hd'' => ?_
    exact post_set S e p hc h1 hsb he (hO ob ⟨_, hd'', dset inj hp nd hv⟩)
  · rw [← hp.length]; exact Nat.le_trans (Nat.le_trans (setD_len (enc k) v es) (szD (setM_sz e))) big_line
theorem putIn_at {a : Nat} {c : CO} {ob : MO} {i v : V} {vi vv : Value} {r : Out Unit × Mem} {Q : Unit → Shared → Prop} {E : Value → Shared → Prop} (S : SR K w prog X m ex cs μ s) (hO : OR K w prog (adr cs) ob c) (hc : cs[a]? = some c) (hg : s.heap.get? c.x = some c.o) (hi : VR K (adr cs) i vi) (hv : VR K (adr cs) v vv)
    (e : putIn a i v ob μ = some r) (p : Post K w prog X ex cs XR (UQ m) Q E r) : wpAny (model prog w) X.A (setItem (.ref c.x) vi vv) Q E s := by
  cases ob with
  | list xs =>
    cases i with
    | int k =>
      obtain ⟨hk, e⟩ := if_stuck e
      obtain ⟨t, rfl⟩ := hi.int_inv
      refine El_eeaa hO fun vs n h1 h2 h3 => ?_
      refine setItem_int (h1 ▸ hg) hk.1 (lt63 hk.2.1) rfl (h3.length ▸ hk.2.2) fun h' n' he hsb => ?_
      exact post_set (tk := s.toks) S e p hc h2 hsb he ⟨_, n', rfl, rfl, h3.set hv⟩
    | _ => exact no_some e
  | dict es =>
    obtain ⟨hk, e⟩ := if_stuck e
    rcases dict_kind hO hk with ⟨⟨k, h1⟩, h2, hd⟩ | ⟨⟨k, h1⟩, h2, hd⟩
    · rw [h1] at hi e
      obtain ⟨t, rfl⟩ := hi.str_inv
      exact dict_store strInj (strKind_is prog w k t) S e p hc hO.1 hg hv hd fun ob h => ⟨rfl, .inl ⟨allStr_set h2, h⟩, fun z => absurd z setD_ne⟩
    · rw [h1] at hi e
      obtain ⟨t, rfl⟩ := hi.int_inv
      exact dict_store intInj (intKind_is prog w k t) S e p hc hO.1 hg hv hd fun ob h => ⟨rfl, .inr ⟨allInt_set h2, h⟩, fun z => absurd z setD_ne⟩
  | _ => exact no_some e
theorem refB_some {α : Type} {v : V} {f : Nat → Mx α} {r : Out α × Mem} (e : refB v f μ = some r) : ∃ a, v = .ref a ∧ f a μ = some r := by
  cases v with
  | ref a => exact ⟨a, rfl, e⟩
  | _ => exact no_some e
theorem setItem_snd {o i v : V} {vo vi vv : Value} (ho : VR K (adr cs₀) o vo) (hi : VR K (adr cs₀) i vi) (hv : VR K (adr cs₀) v vv) : Snd K w prog X ex XR m cs₀ (setItem vo vi vv) (putItemM o i v) (UQ m) := fun cs μ s r Q E g S e p => by
  refine El_ea (refB_some e) fun a h1 e => ?_
  refine El_ea (getM_ref e) fun ob h2 e => ?_
  refine El_ea (VR.ref_inv (h1 ▸ ho)) fun x h3 hx => ?_
  refine El_eaaaa (co_at S (g.at hx) h2) fun c hc h4 hO hg hns => ?_
  rw [h3, ← h4]
  exact putIn_at S hO hc hg (hi.grow g) (hv.grow g) e p
end
/-! ## Slices -/
theorem cast_min (i j : Nat) : ((min i j : Nat) : Int) = min (i : Int) j := by
  rcases Nat.le_total i j with h | h
  · rw [Nat.min_eq_left h, Int.min_eq_left (Int.ofNat_le.mpr h)]
  · rw [Nat.min_eq_right h, Int.min_eq_right (Int.ofNat_le.mpr h)]
theorem cutAt_le (n : Nat) (i : Int) : cutAt n i ≤ n ∧ ((cutAt n i : Nat) : Int) = max 0 (min (if i < 0 then i + n else i) n) := by
  unfold cutAt
  by_cases h : i < 0
  · rw [if_pos h, if_pos h]
    have h1 : i + n ≤ n := by omega
    exact ⟨Int.toNat_le.mpr h1, by rw [Int.min_eq_left h1, Int.ofNat_toNat, Int.max_comm]⟩
  · rw [if_neg h, if_neg h]
    obtain ⟨j, rfl⟩ := Int.eq_ofNat_of_zero_le (Int.not_lt.mp h)
    exact ⟨Nat.min_le_right _ _, by rw [Int.toNat_natCast, ← cast_min, Int.max_eq_right (Int.natCast_nonneg _)]⟩
theorem cutP_le (n : Nat) (p : Option Int) {d : Nat} (h : d ≤ n) : cutP n d p ≤ n := by
  cases p with
  | none => exact h
  | some i => exact (cutAt_le n i).1
theorem bounds_cut (lo hi : Option Int) (n : Nat) : sliceBounds lo hi none n = ((cutP n 0 lo : Int), (cutP n n hi : Int), 1) := by
  cases lo with
  | none => cases hi with
    | none => rfl
    | some j => simp only [cutP, sliceBounds, (cutAt_le n j).2]; rfl
  | some i => cases hi with
    | none => simp only [cutP, sliceBounds, (cutAt_le n i).2]; rfl
    | some j => simp only [cutP, sliceBounds, (cutAt_le n i).2, (cutAt_le n j).2]; rfl
theorem cutAt_nat {n a : Nat} (h : a ≤ n) : cutAt n (a : Int) = a := by
  unfold cutAt
  rw [if_neg (Int.not_lt.mpr (Int.natCast_nonneg a)), Int.toNat_natCast, Nat.min_eq_left h]
theorem pick_cut (vs : List Value) (lo hi : Option Int) {a b : Nat} (ha : a ≤ vs.length) (hb : b ≤ vs.length) (e : sliceBounds lo hi none vs.length = ((a : Int), (b : Int), 1)) : slicePick vs.toArray lo hi none = ((vs.take b).drop a).toArray := by
  have e2 : sliceBounds (some (a : Int)) (some (b : Int)) none vs.toArray.size = ((a : Int), (b : Int), 1) := by
    rw [List.size_toArray, bounds_cut, cutP, cutP, cutAt_nat ha, cutAt_nat hb]
  have e3 : slicePick vs.toArray lo hi none = slicePick vs.toArray (some (a : Int)) (some (b : Int)) none := by
    unfold slicePick
    rw [e2]
    simp only [List.size_toArray, e]
  rw [e3]
  by_cases hab : a ≤ b
  · rw [slicePick_run _ _ _ (by simpa using hb) hab]
    simp only [List.drop_take]
  · unfold slicePick
    rw [e2]
    have : sliceRange (a : Int) (b : Int) 1 = [] := by
      unfold sliceRange
      simp
      omega
    rw [this]
    have h2 : (vs.take b).drop a = [] := List.drop_eq_nil_of_le (by simp; omega)
    rw [h2]
    rfl
noncomputable def partOf : V → Option Int
  | .int i => some i
  | _ => none
theorem cutO_some {K : Frag} {as : List Addr} {n d q : Nat} {v : V} {val : Value} (h : cutO n d v = some q) (r : VR K as v val) : IsPart val (partOf v) ∧ q = cutP n d (partOf v) := by
  cases v with
  | none => cases h; cases r.none_inv; exact ⟨.none, rfl⟩
  | int i =>
    obtain ⟨_, h⟩ := if_some h
    cases h
    obtain ⟨t, rfl⟩ := r.int_inv
    exact ⟨.int i t, rfl⟩
  | _ => exact no_some h
theorem slice_parts {K : Frag} {as : List Addr} {xs : List V} {l u : V} {vl vu : Value} {q : Nat × Nat} (h : sliceOf xs l u = some q) (hl : VR K as l vl) (hu : VR K as u vu) : IsPart vl (partOf l) ∧ IsPart vu (partOf u) ∧ q.1 = cutP xs.length 0 (partOf l) ∧ q.2 = cutP xs.length xs.length (partOf u) := by
  refine El_ea (bind_of h) fun a h1 h => ?_
  refine El_ea (map_of h) fun b h2 r_2 => ?_; (first | subst r_2 | cases r_2)
  have h1 := cutO_some h1 hl
  have h2 := cutO_some h2 hu
  exact ⟨h1.1, h2.1, h1.2, h2.2⟩
section
variable {K : Frag} {w : World} {prog : Program} {X : Fx} {m : NsMap} {ex : List (Addr × Obj)} {XR : XRel} {cs cs₀ : List CO} {μ : Mem} {s : Shared}
theorem szList (S : SR K w prog X m ex cs μ s) {a : Nat} {xs : List V} (h : μ[a]? = some (.list xs)) : xs.length ≤ big := by
  have := S.1.szs _ (List.mem_of_getElem? h)
  simpa [szOk] using this
noncomputable abbrev sliceObj (vl vu : Value) : Obj := { cls := .type "slice", data := .fields #[vl, vu, .none] }
theorem SR.push (S : SR K w prog X m ex cs μ s) (o : Obj) : SR K w prog X m ex cs μ { s with heap := s.heap.push o } := ⟨S.1.keep fun x_ x_ e => Heap.get?_push_of_some _ e, S.2⟩
theorem newFields_slice {A : Around} {M : Model} {vl vu : Value} {Q : Value → Shared → Prop} {E : Value → Shared → Prop} (h : Q (.ref s.heap.objs.size) { s with heap := s.heap.push (sliceObj vl vu) }) :
    wpAny M A (newFields "slice" [vl, vu, .none]) Q E s := wpAny_newObj_type h (by show 3 ≤ sizeLine + 2; decide)

theorem srcO_some {o : MO} {l : List V} (h : srcO o = some l) : o = .list l ∨ o = .src l := by
  cases o with
  | list b => cases h; exact .inl rfl
  | src b => cases h; exact .inr rfl
  | _ => exact no_some h
/-- the items of a list, or of the list that was handed in -/
theorem isSrc_at (S : SR K w prog X m ex cs μ s) {a : Nat} {x : Addr} (hx : (adr cs)[a]? = some x) {o : MO} {xs : List V} (hm : μ[a]? = some o) (h : srcO o = some xs) :
    xs.length ≤ big ∧ ∃ vs, s.heap.IsList x vs.toArray ∧ All2 (VR K (adr cs)) xs vs := by
  have hz := S.1.szs _ (List.mem_of_getElem? hm)
  rcases srcO_some h with rfl | rfl
  · refine El_eeaa (isList_at S hx hm) fun vs n h1 h2 h3 => ?_; exact ⟨of_decide_eq_true hz, vs, h2, h3⟩
  · obtain ⟨c, hc, rfl, ⟨vs, n, h1, h2, h3, h4⟩, ho⟩ := list_at S hx hm
    exact ⟨of_decide_eq_true hz, vs, ⟨_, ho, h1, n, h2⟩, h4⟩
/-- the cut out of a list, behind the slice's own object -/
theorem sliceM_snd {value : Expr} {lo up : Option Expr} {p pos : Pos} {o l u : V} {vo vl vu : Value} (ho : VR K (adr cs₀) o vo) (hl : VR K (adr cs₀) l vl) (hu : VR K (adr cs₀) u vu) :
    ∀ cs μ s r Q E, Grow (adr cs₀) (adr cs) → SR K w prog X m ex cs μ s → sliceM o l u μ = some r → Post K w prog X ex cs XR (VQ K m) Q E r →
    wpAny (model prog w) X.A (newFields "slice" [vl, vu, .none]) (fun i s' => wpAny (model prog w) X.A (standAt pos >>= fun x_ => subscriptTail value (.Slice lo up none p) vo i) Q E s') E s := fun cs μ s r Q E g S e q => by
  refine El_ea (rdM_ref e) fun xs hq e => ?_
  refine El_ea (opt_ref e) fun qq hs e => ?_
  refine El_ea (bind_of hq) fun a h1 hq => ?_
  refine El_ea (bind_of hq) fun ob hm hq => ?_
  refine El_aaa (slice_parts hs hl hu) fun pl pu ea eb => ?_
  refine El_ea (VR.ref_inv (refO_some h1 ▸ ho)) fun x r_1 hx => ?_; (first | subst r_1 | cases r_1)
  refine El_aea (isSrc_at S (g.at hx) hm hq) fun hz vs h2 h3 => ?_
  have S' := S.push (sliceObj vl vu)
  have hl' : (s.heap.push (sliceObj vl vu)).IsList x vs.toArray := h2.push _
  refine newFields_slice (wpAny_bind (wpAny_standAt (tail_any (s := { s with heap := s.heap.push (sliceObj vl vu) }) hl'.typeIs slot_list_getitem.lookup
    (wpAny_getItem_list_slice hl' (Heap.IsSliceOf.new ..) pl pu .none (by simp) ?_ (show vs.length ≤ sizeLine from h3.length ▸ Nat.le_trans hz big_line)) rfl)))
  rw [pick_cut vs _ _ (cutP_le _ _ (Nat.zero_le _)) (cutP_le _ _ (Nat.le_refl _)) (bounds_cut _ _ _), ← h3.length, ← ea, ← eb]
  refine El_ea S'.1.news fun lo' hlo N => ?_
  exact post_new (tk := s.toks) (s := { s with heap := s.heap.push (sliceObj vl vu) }) S' e q hlo (S'.1.fr.push _) (News.push S'.1.fr N _) ⟨(vs.take qq.2).drop qq.1, 0, rfl, rfl, ((h3.take _).drop _).mono fun x_ x_ z => z.grow (adr_push _ _)⟩
theorem nw_apart {cs : List CO} : ∀ {a b : Nat} {c d : CO}, ((nw cs).map (·.1)).Nodup → cs[a]? = some c → cs[b]? = some d → a < b → c.x ≠ d.x := by
  induction cs with
  | nil => intro a b c d _ h; cases h
  | cons k r ih =>
    intro a b c d hn h1 h2 hlt e
    have hn' : (k.ents.map (·.1) ++ (nw r).map (·.1)).Nodup := by rw [← List.map_append]; exact hn
    cases b with
    | zero => exact absurd hlt (Nat.not_lt_zero _)
    | succ b =>
      cases a with
      | zero =>
        cases h1
        exact (List.nodup_append.mp hn').2.2 k.x (.head _) d.x (List.mem_map.mpr ⟨(d.x, d.o), nw_mem (List.mem_of_getElem? (show r[b]? = some d from h2)) (.head _), rfl⟩) e
      | succ a => exact ih (List.nodup_append.mp hn').2.1 h1 h2 (Nat.lt_of_succ_lt_succ hlt) e
theorem x_apart (S : SR K w prog X m ex cs μ s) {a b : Nat} {c d : CO} (h1 : cs[a]? = some c) (h2 : cs[b]? = some d) (h : a ≠ b) : (c.x == d.x) = false := by
  have hd2 := (List.nodup_append.mp S.1.dist).2.1
  rw [List.map_append] at hd2
  have hd := (List.nodup_append.mp hd2).2.1
  exact beq_eq_false_iff_ne.mpr ((Nat.lt_or_gt_of_ne h).elim (nw_apart hd h1 h2) fun z e => nw_apart hd h2 h1 z e.symm)
theorem max_nat (i j : Nat) : (max (i : Int) (j : Int)).toNat = max i j := by
  rcases Nat.le_total i j with h | h
  · rw [Nat.max_eq_right h, Int.max_eq_right (Int.ofNat_le.mpr h), Int.toNat_natCast]
  · rw [Nat.max_eq_left h, Int.max_eq_left (Int.ofNat_le.mpr h), Int.toNat_natCast]
/-- a slice of a list is stored, behind the slice's own object -/
theorem putSliceM_snd {o l u v : V} {vo vl vu vv : Value} (ho : VR K (adr cs₀) o vo) (hl : VR K (adr cs₀) l vl) (hu : VR K (adr cs₀) u vu) (hv : VR K (adr cs₀) v vv) (sa : Addr) :
    ∀ cs μ s r Q E, Grow (adr cs₀) (adr cs) → SR K w prog X m ex cs μ s → s.heap.IsSliceOf sa vl vu .none → putSliceM o l u v μ = some r → Post K w prog X ex cs XR (UQ m) Q E r → wpAny (model prog w) X.A (setItem vo (.ref sa) vv) Q E s := by
  intro cs μ s r Q E g S hsl e q
  refine El_eeaa (listOfM_ref e) fun a xs h1 hm e => ?_
  refine El_eeaa (listOfM_ref e) fun b ys h2 hm2 e => ?_
  refine El_ea (opt_ref e) fun qq hs e => ?_
  obtain ⟨hab, e⟩ := if_stuck e
  refine El_aaa (slice_parts hs hl hu) fun pl pu ea eb => ?_
  refine El_ea (VR.ref_inv (h1 ▸ ho)) fun x r_1 hx => ?_; (first | subst r_1 | cases r_1)
  refine El_ea (VR.ref_inv (h2 ▸ hv)) fun y r_1 hy => ?_; (first | subst r_1 | cases r_1)
  obtain ⟨c, hc, rfl, ⟨vs, n, h1, h2, h3⟩, hg, hns⟩ := co_at S (g.at hx) hm
  obtain ⟨c2, hc2, rfl, ⟨ws, n2, h4, h5, h6⟩, hg2, _⟩ := co_at S (g.at hy) hm2
  refine setItem_slice (n := n) (n2 := n2) (by rw [hg, h1]) (by rw [hg2, h4]) hsl pl pu (x_apart S hc hc2 hab) (h3.length ▸ h6.length ▸ Nat.add_le_add (szList S hm) (szList S hm2)) fun h' n' he hsb => ?_
  refine post_set (tk := s.toks) S e q hc h2 hsb he ⟨_, n', rfl, rfl, ?_⟩
  rw [bounds_cut, Int.toNat_natCast, max_nat, ← h3.length, ← ea, ← eb]
  exact ((h3.take _).append h6).append (h3.drop _)
end
/-! ## Fields of instances, their methods -/
section
variable {K : Frag} {w : World} {prog : Program} {X : Fx} {m : NsMap} {ex : List (Addr × Obj)} {XR : XRel} {cs cs₀ : List CO} {μ : Mem} {s : Shared} {mg mb : NsMap} {n : Nat}
structure ClsOk (K : Frag) (C : Addr) (fs : List Str) (ms : List (Str × Addr)) : Prop where
  makes : makesIn K C = true
  hasDict : hasDictIn K C = true
  get : plainGet K C "" = true
  set : findIn K (.ref C) "__setattr__" = some (some (.builtin "object.__setattr__"))
  plain : plainOver K C = true
  keep : keepIn K (.ref C) = true
  field : ∀ f ∈ fs, findIn K (.ref C) f = some none ∧ takerIn K C f = some none
  meth : ∀ q ∈ ms, findIn K (.ref C) q.1 = some (some (.ref q.2)) ∧ isFn K (.ref q.2) = true
theorem cls_ok (h : clOk K = true) {C : Addr} {fs : List Str} {ms : List (Str × Addr)} (e : clT.lookup C = some (fs, ms)) : ClsOk K C fs ms := by
  have := List.all_eq_true.mp h _ (lookup_mem e)
  simp only [Bool.and_eq_true, beq_iff_eq, List.all_eq_true] at this
  obtain ⟨⟨⟨⟨⟨⟨⟨h1, h2⟩, h3⟩, h4⟩, h5⟩, h6⟩, h7⟩, h8⟩ := this
  exact ⟨h1, h2, h3, h4, h5, h6, h7, h8⟩
theorem plainGet_any {C : Addr} {x : Str} (h : plainGet K C "" = true) : plainGet K C x = true := h
theorem find_field {as : List Addr} {fs : Loc} {ds : List DictEntry} (h : All2 (FR K as) fs ds) {x : Str} {v : V} (e : fs.lookup x = some v) : ∃ en, ds.find? (·.key.isStr x) = some en ∧ VR K as v en.val := by
  induction h with
  | nil => cases e
  | @cons a b l r q z ih =>
    obtain ⟨a1, a2⟩ := a
    obtain ⟨⟨t, q1⟩, q2⟩ := q
    dsimp only at q1 q2
    rw [List.lookup_cons] at e
    rw [List.find?_cons]
    have e1 : b.key.isStr x = (a1 == x) := by rw [q1]; rfl
    rw [e1]
    by_cases hx : x = a1
    · subst hx
      simp only [beq_self_eq_true] at e ⊢
      cases e
      exact ⟨_, rfl, q2⟩
    · rw [beq_eq_false_iff_ne.mpr hx] at e
      rw [beq_eq_false_iff_ne.mpr (Ne.symm hx)]
      exact ih e
theorem getL_some {as : List Addr} {fs : Loc} {ds : List DictEntry} (h : All2 (FR K as) fs ds) {x : Str} {v : V} (e : fs.lookup x = some v) : ∃ val, getL x ds = some (some val) ∧ VR K as v val := by
  refine El_ea (find_field h e) fun en h1 h2 => ?_
  exact ⟨en.val, by unfold getL; rw [h1], h2⟩
theorem getL_none {as : List Addr} {fs : Loc} {ds : List DictEntry} (h : All2 (FR K as) fs ds) {x : Str} (e : fs.lookup x = none) : getL x ds = some none := by
  have h1 : ds.find? (·.key.isStr x) = none := by
    induction h with
    | nil => rfl
    | @cons a b l r q z ih =>
      obtain ⟨a1, a2⟩ := a
      obtain ⟨⟨t, q1⟩, q2⟩ := q
      dsimp only at q1 q2
      rw [List.lookup_cons] at e
      rw [List.find?_cons]
      have e1 : b.key.isStr x = (a1 == x) := by rw [q1]; rfl
      rw [e1]
      by_cases hx : x = a1
      · subst hx; simp at e
      · rw [beq_eq_false_iff_ne.mpr hx] at e
        rw [beq_eq_false_iff_ne.mpr (Ne.symm hx)]
        exact ih e
  have h2 : ds.any (·.refKey) = false := by
    clear h1 e
    induction h with
    | nil => rfl
    | @cons a b l r q z ih =>
      obtain ⟨⟨t, q1⟩, q2⟩ := q
      rw [List.any_cons, ih]
      have : b.refKey = false := by simp only [DictEntry.refKey, q1]
      rw [this]; rfl
  unfold getL
  rw [h1]
  simp only [h2, Bool.false_eq_true, if_false]
theorem putL_fields {as : List Addr} {fs : Loc} {ds : List DictEntry} (h : All2 (FR K as) fs ds) {x : Str} {v : V} {val : Value} {hsh : Int} {t : Tok} (hv : VR K as v val) : All2 (FR K as) (setL x v fs) (putL x hsh (.str x t) val ds) := by
  induction h with
  | nil => exact .cons ⟨⟨t, rfl⟩, hv⟩ .nil
  | @cons a b l r q z ih =>
    obtain ⟨a1, a2⟩ := a
    obtain ⟨⟨t', q1⟩, q2⟩ := q
    dsimp only at q1 q2
    have e1 : b.key.isStr x = (a1 == x) := by rw [q1]; rfl
    unfold setL putL
    rw [e1]
    by_cases hx : a1 = x
    · subst hx
      simp only [beq_self_eq_true, if_true]
      exact .cons ⟨⟨t', q1⟩, hv⟩ z
    · rw [if_neg hx, beq_eq_false_iff_ne.mpr hx]
      simp only [Bool.false_eq_true, if_false]
      exact .cons ⟨⟨t', q1⟩, q2⟩ ih
theorem handed_of {as : List Addr} {v : V} {val : Value} (h : VR K as v val) (p : plainV v = true) : handedIn val = true := by cases h <;> first | rfl | cases p

/-- an instance of the ledger's -/
theorem inst_at (S : SR K w prog X m ex cs μ s) {a : Nat} {x : Addr} (hx : (adr cs)[a]? = some x) {C : Addr} {fs : Loc} (hm : μ[a]? = some (.inst C fs)) :
    ∃ c dx ds n, cs[a]? = some c ∧ c.x = x ∧ c.o.dict = some dx ∧ c.d = some (dx, dictOf ds n) ∧ All2 (FR K (adr cs)) fs ds ∧ W.InstAt s.heap x c.o C (some (dictOf ds n)) ∧ c.o.cls = .ref C ∧ notCls c.o = true ∧ (C ≠ 483 → c.o = instObj C dx) := by
  obtain ⟨c, hc, rfl, ⟨dx, ds, n, h1, h2, h3, h4, h5, h6⟩, hg, _⟩ := co_at S hx hm
  refine ⟨c, dx, ds, n, hc, rfl, h3, h4, h5, ⟨hg, h1, h2, ?_⟩, h1, h2, h6⟩
  rw [h3]
  exact (S.1.led _ (List.mem_append_right _ (nw_mem (List.mem_of_getElem? hc) (by rw [CO.ents, h4]; exact .tail _ (.head _))))).1

theorem cls_field (T : FxOk K mg mb n X) {C : Addr} {x : Str} (hf : (fieldsT C).contains x = true) : ∃ fs ms, ClsOk K C fs ms ∧ x ∈ fs := by
  unfold fieldsT at hf
  cases hcl : clT.lookup C with
  | none => rw [hcl] at hf; exact no_true hf
  | some fm =>
    rw [hcl] at hf
    exact ⟨fm.1, fm.2, cls_ok T.top.cl hcl, List.contains_iff_mem.mp hf⟩
theorem attrM_snd (T : FxOk K mg mb n X) {o : V} {vo : Value} {x : Str} {b : Bool} (ho : VR K (adr cs₀) o vo) : Snd K w prog X ex XR m cs₀ (getAttr vo x b) (attrM o x) (VQ K m) := fun cs μ s r Q E g S e p => by
  refine El_ea (rdM_some e) fun v h h' => ?_
  refine El_ea (bind_of h) fun a h1 h => ?_
  refine El_ea (bind_of h) fun ob hm h => ?_
  refine El_ea (VR.ref_inv (refO_some h1 ▸ ho)) fun y r_1 hx => ?_; (first | subst r_1 | cases r_1)
  cases h'
  cases ob with
  | inst C fs =>
    obtain ⟨hf, h⟩ := if_some h
    refine El_ea (bind_of h) fun v' hl h => ?_
    obtain ⟨hp, h⟩ := if_some h
    cases h
    refine El_eeeeaaaaaa (inst_at S (g.at hx) hm) fun c dx ds nn hc hcx h3 h4 h5 I x_ => ?_
    refine El_eea (cls_field T hf) fun fl ml CO hfm => ?_
    refine El_ea (getL_some h5 hl) fun val h6 h7 => ?_
    exact get_own S.1.fr T.top.inb I (plainGet_any CO.get) CO.hasDict (CO.field x hfm).1 rfl h6 (handed_of h7 hp) (p _ cs m val (Grow.refl _) S ⟨rfl, h7⟩)
  | _ => exact no_some h
theorem upd_of {d : Addr} {o o' : Obj} : ∀ {l : List (Addr × Obj)}, (d, o) ∈ l → (l.map (·.1)).Nodup → Upd d o o' l (l.map fun q => if q.1 = d then (d, o') else q)
  | p :: r, hm, hn => by
    simp only [List.map_cons, List.nodup_cons] at hn
    rcases List.mem_cons.mp hm with rfl | hm
    · simp only [List.map_cons, if_true]
      have off : ∀ q ∈ r, q.1 ≠ d := fun q hq e => hn.1 (List.mem_map.mpr ⟨q, hq, e⟩)
      have : r.map (fun q => if q.1 = d then (d, o') else q) = r := by
        conv => rhs; rw [← List.map_id r]
        exact List.map_congr_left fun q hq => if_neg (off q hq)
      rw [this]
      exact Upd.head off
    · have : p.1 ≠ d := fun e => hn.1 (List.mem_map.mpr ⟨_, hm, e.symm⟩)
      simp only [List.map_cons, if_neg this]
      exact Upd.tail this (upd_of hm hn.2)

theorem dx_apart (S : SR K w prog X m ex cs μ s) {a : Nat} {c : CO} {dx : Addr} {od : Obj} (hc : cs[a]? = some c) (h4 : c.d = some (dx, od)) : c.x ≠ dx ∧ ∀ q ∈ X.low, q.1 ≠ dx := by
  have hmem : (dx, od) ∈ nw cs := nw_mem (List.mem_of_getElem? hc) (by rw [CO.ents, h4]; exact .tail _ (.head _))
  refine ⟨fun z => ?_, fun q hq z => (List.nodup_append.mp S.1.dist).2.2 q.1 (.tail _ (List.mem_map_of_mem hq)) dx (List.mem_map.mpr ⟨_, List.mem_append_right _ hmem, rfl⟩) z⟩
  have h9 := (List.nodup_append.mp S.1.dist).2.1
  rw [List.map_append] at h9
  have h10 := (List.nodup_append.mp h9).2.1
  refine El_eea (split_at hc) fun pp rr r_2 x_ => ?_; (first | subst r_2 | cases r_2)
  rw [show pp ++ c :: rr = pp ++ ([c] ++ rr) from rfl, nw_append, nw_append, nw_one, List.map_append, List.map_append] at h10
  have h11 := (List.nodup_append.mp (List.nodup_append.mp h10).2.1).1
  rw [CO.ents, h4] at h11
  exact (List.nodup_cons.mp h11).1 (z ▸ .head _)
theorem szI {C : Addr} {fs : Loc} (h : szOk (.inst C fs) = true) : fs.length ≤ 1000 := of_decide_eq_true h
theorem putAttrM_snd (T : FxOk K mg mb n X) {o v : V} {vo vv : Value} {x : Str} (ho : VR K (adr cs₀) o vo) (hv : VR K (adr cs₀) v vv) : Snd K w prog X ex XR m cs₀ (setAttr vo x vv) (putAttrM o x v) (UQ m) := fun cs μ s r Q E g S e p => by
  refine El_ea (refB_some e) fun a h1 e => ?_
  refine El_ea (getM_ref e) fun ob hm e => ?_
  refine El_ea (VR.ref_inv (h1 ▸ ho)) fun y r_1 hx => ?_; (first | subst r_1 | cases r_1)
  cases ob with
  | inst C fs =>
    obtain ⟨hf, e⟩ := if_stuck e
    refine El_aa (setM_some e) fun hz h0 hr => ?_
    cases hr
    refine El_eeeeaaaaaaaa (inst_at S (g.at hx) hm) fun c dx ds nn hc r_5 h3 h4 h5 I hcls hncls hex => ?_; (first | subst r_5 | cases r_5)
    refine El_eea (cls_field T hf) fun fl ml CO' hfm => ?_
    refine El_ea S.1.news fun lo hlo N => ?_
    have hmem : (dx, dictOf ds nn) ∈ nw cs := nw_mem (List.mem_of_getElem? hc) (by rw [CO.ents, h4]; exact .tail _ (.head _))
    have hnd : ((lo ++ (ex ++ nw cs)).map (·.1)).Nodup := by
      rw [List.map_append, hlo.map]
      exact (List.nodup_cons.mp S.1.dist).2
    have hF := putL_fields (x := x) (hsh := PyData.keyHash w.params x) (t := s.toks + 1) h5 (hv.grow g)
    have hge : (getL x ds).isSome = true := by
      cases hl : fs.lookup x with
      | none => rw [getL_none h5 hl]; rfl
      | some v' => refine El_ea (getL_some h5 hl) fun x_ h6 x_ => ?_; rw [h6]; rfl
    obtain ⟨hxne, hap⟩ := dx_apart S hc h4
    refine set_dict S.1.fr T.top.inb N I h3 CO'.set CO'.plain (CO'.field x hfm).2 CO'.hasDict hge rfl (upd_of (List.mem_append_right _ (List.mem_append_right _ hmem)) hnd) (hF.length ▸ szI hz) fun h' F' N' => ?_
    have hk : ∀ q ∈ lo ++ (ex ++ nw cs), q.1 ≠ dx → h'.get? q.1 = some q.2 := fun q hq hne => (N' q (List.mem_map.mpr ⟨q, hq, if_neg hne⟩)).1
    have hdx := (N' (dx, _) (List.mem_map.mpr ⟨_, List.mem_append_right _ (List.mem_append_right _ hmem), if_pos rfl⟩)).1
    have hlow : ∀ q ∈ X.low, h'.Ns q.1 q.2 := fun q hq => by
      refine El_eaa (hlo.mem q hq) fun q' hq' e1 no => ?_
      exact e1 ▸ no _ _ (hk q' (List.mem_append_left _ hq') fun z => hap q hq (e1 ▸ z))
    refine p _ (cs.set a ⟨c.x, c.o, some (dx, dictOf (putL x (PyData.keyHash w.params x) (.str x (s.toks + 1)) vv ds) (putN x ds nn))⟩) m () (by rw [adr_set hc]; exact Grow.refl _; rfl) ⟨S.1.changeW (d := dx) (h' := h') h0 hz hc (by rw [CO.ents, h4]; exact .tail _ (.head _)) F'.keep F'.ns hlow (fun q hq hne => hk q (List.mem_append_right _ hq) hne) rfl (by simp [CO.ents, h4]) (fun q hq => ?_) ⟨dx, _, _, hcls, hncls, h3, rfl, hF, hex⟩, S.2⟩ rfl
    simp only [CO.ents, Option.toList_some, List.mem_cons, List.not_mem_nil, or_false] at hq
    rcases hq with rfl | rfl
    · exact hk (c.x, c.o) (List.mem_append_right _ (List.mem_append_right _ (nw_mem (List.mem_of_getElem? hc) (.head _)))) hxne
    · exact hdx
  | _ => exact no_some e
end
/-! ## An exception in flight -/
section
variable (K : Frag) (w : World) (prog : Program)
/-- where the traceback stands: none yet, or an entry with its mark -/
noncomputable def TbAt (base : Heap) (ads : List Addr) (e dx : Addr) (tb : Option Value) (v : Value) (h : Heap) : Prop := match tb with
  | none => v = .none
  | some fl => ∃ T oT ts, v = .ref T ∧ h.get? T = some oT ∧ oT.data = .fields ts ∧ ts[3]? = some fl ∧ T ≠ e ∧ T ≠ dx ∧ T ∉ ads ∧ base.get? T = none
/-- what the exception's own dict holds -/
noncomputable def ExF (K : Frag) (cs : List CO) (sy : V) (od : Obj) : Prop := ∃ es ep vs, od.data = .dict es ep ∧ StrKeys es ∧ nsFind es "symbol" = some vs ∧ VR K (adr cs) sy vs
structure Pend (X : Fx) (m : NsMap) (ex : List (Addr × Obj)) (cs : List CO) (μ : Mem) (sy d : V) (e dx : Addr) (tb : Option Value) (h : Heap) : Prop where
  S : SRh K w prog X m ex cs μ h
  obj : ∃ oe vs v, h.get? e = some oe ∧ oe.cls = .ref 483 ∧ oe.dict = some dx ∧ oe.data = .fields vs ∧ vs[1]? = some v ∧ TbAt X.base ((ex ++ nw cs).map (·.1)) e dx tb v h
  flds : ∃ od, h.get? dx = some od ∧ ExF K cs sy od
  edx : e ≠ dx
  eb : X.base.get? e = none
  db : X.base.get? dx = none
  ea : e ∉ (ex ++ nw cs).map (·.1)
  da : dx ∉ X.L :: X.low.map (·.1)
end
section
variable {K : Frag} {w : World} {prog : Program} {X : Fx} {m : NsMap} {ex : List (Addr × Obj)} {cs : List CO} {μ : Mem} {s : Shared} {mg mb : NsMap} {n : Nat} {sy d : V} {e dx : Addr} {tb : Option Value} {h : Heap}
theorem frames_of (T : FxOk K mg mb n X) (S : SRh K w prog X m ex cs μ h) : h.FunFrames X.base (X.env :: X.outer) := by
  refine Heap.FunFrames.cons (by rw [T.kind]; decide) T.frame S.ns S.baseNone ?_
  have hl := T.low
  have hlow := S.low
  revert hlow hl
  generalize X.outer = l
  generalize X.low = r
  intro hl hlow
  induction hl with
  | nil => trivial
  | cons a _ ih =>
    have := hlow _ (.head _)
    exact Heap.FunFrames.cons (by rw [a.2]; decide) a.1 this.1 this.2 (ih fun p hp => hlow p (.tail _ hp))
theorem frame_low {l : List Env} {r : List (Addr × NsMap)} (h : All2 (fun e p => Env.frame e = some (Prod.fst p : Addr) ∧ e.scope.kind = .function) l r) : l.filterMap (·.frame) = r.map (·.1) := by
  induction h with
  | nil => rfl
  | cons a _ ih => rw [List.filterMap_cons, a.1, List.map_cons, ← ih]
theorem frame_addrs (T : FxOk K mg mb n X) : (X.env :: X.outer).filterMap (·.frame) = X.L :: X.low.map (·.1) := by
  rw [List.filterMap_cons, T.frame, ← frame_low T.low]
/-- the frames' slots alone are turned -/
theorem SRh.slots (S : SRh K w prog X m ex cs μ h) {h' : Heap} (z : Heap.SlotsOnly (X.L :: X.low.map (·.1)) h h') : SRh K w prog X m ex cs μ h' := by
  have ns : ∀ {a : Addr} {m' : NsMap}, h.Ns a m' → h'.Ns a m' := fun ⟨o, es, ep, ho, hd, r⟩ => by
    obtain ⟨sl, hs⟩ := z.2.2 _ _ ho
    exact ⟨_, es, ep, hs, hd, r⟩
  refine ⟨fun b o q => ?_, ns S.ns, S.above, fun p hp => ⟨ns (S.low p hp).1, (S.low p hp).2⟩, fun q hq => ⟨?_, (S.led q hq).2⟩, S.sz, S.fro, S.szs, S.dist, S.O⟩
  · rw [z.2.1 b fun hm => ?_]
    · exact S.stays b o q
    · rcases List.mem_cons.mp hm with rfl | hm
      · rw [S.baseNone] at q; cases q
      · obtain ⟨p, hp, rfl⟩ := List.mem_map.mp hm
        rw [(S.low p hp).2] at q; cases q
  · rw [z.2.1 q.1 fun hm => ?_]
    · exact (S.led q hq).1
    · exact (List.nodup_append.mp S.dist).2.2 q.1 hm q.1 (List.mem_map_of_mem hq) rfl
/-- a record beside the ledger is changed -/
theorem SRh.beside (S : SRh K w prog X m ex cs μ h) {a : Addr} {o : Obj} {vs : Array Value} (ha : h.get? a = some o) (hd : o.data = .fields vs) (hb : X.base.get? a = none) (hl : a ∉ (ex ++ nw cs).map (·.1)) (f : Obj → Obj) : SRh K w prog X m ex cs μ (h.update a f) := by
  have oth : ∀ b, b ≠ a → (h.update a f).get? b = h.get? b := fun b hb => Heap.get?_update_other _ _ (Ne.symm hb)
  have ns : ∀ {b : Addr} {m' : NsMap}, h.Ns b m' → (h.update a f).Ns b m' := fun ⟨o', es, ep, ho, hd', r⟩ => ⟨o', es, ep, (oth _ fun z => by rw [z, ha] at ho; cases ho; rw [hd] at hd'; cases hd').trans ho, hd', r⟩
  exact ⟨fun b o' q => (oth b fun z => by rw [z, hb] at q; cases q).trans (S.stays b o' q), ns S.ns, S.above, fun p hp => ⟨ns (S.low p hp).1, (S.low p hp).2⟩,
    fun q hq => ⟨(oth q.1 fun z => hl (z ▸ List.mem_map_of_mem hq)).trans (S.led q hq).1, (S.led q hq).2⟩, S.sz, S.fro, S.szs, S.dist, S.O⟩
theorem pend_entry (T : FxOk K mg mb n X) {hadNext : Bool} {head : Value} {Q : Unit → Shared → Prop} {E : Value → Shared → Prop} {vs : Array Value} {oe : Obj} (S : SRh K w prog X m ex cs μ s.heap) (he : s.heap.get? e = some oe) (hc : oe.cls = .ref 483)
    (hdi : oe.dict = some dx) (hd : oe.data = .fields vs) (hsz : 1 < vs.size) (fl : ∃ od, s.heap.get? dx = some od ∧ ExF K cs sy od) (edx : e ≠ dx) (eb : X.base.get? e = none) (db : X.base.get? dx = none)
    (ea : e ∉ (ex ++ nw cs).map (·.1)) (da : dx ∉ X.L :: X.low.map (·.1)) (q : ∀ h', Pend K w prog X m ex cs μ sy d e dx (some (rawInt X.L)) h' → Q () { s with heap := h' }) :
    wpAny (model prog w) X.A (do let a ← frameOf X.env; let pl ← entryPlaceOf X.L hadNext; let b ← EntryCells.newEntry head a .none (rawInt X.L) .none pl; setField (.ref e) 1 b) Q E s := by
  refine El_ea fl fun od hdx hfl => ?_
  refine wpAny_bind (wpAny_frameOf_fun T.frames (frames_of T S) T.frame fun h₁ hs₁ => ?_)
  rw [frame_addrs T] at hs₁
  refine wpAny_bind (wpAny_entryPlaceOf fun pl hpl => ?_)
  unfold EntryCells.newEntry newFields
  refine wpAny_bind (wpAny_newObj_type ?_ (hpl.sizeOk5 _ _ _ _ _))
  have S₁ := S.slots hs₁
  have enf : e ∉ X.L :: X.low.map (·.1) := fun hm => by
    have : ∃ m', s.heap.Ns e m' := by
      rcases List.mem_cons.mp hm with rfl | hm
      · exact ⟨_, S.ns⟩
      · refine El_ea (List.mem_map.mp hm) fun p hp r_2 => ?_; (first | subst r_2 | cases r_2); exact ⟨_, (S.low p hp).1⟩
    refine El_eeeeaa this fun m' o' es ep ho hd' x_ => ?_
    rw [he] at ho; cases ho; rw [hd] at hd'; cases hd'
  have he₁ : h₁.get? e = some oe := (hs₁.2.1 e enf).trans he
  have hdx₁ : h₁.get? dx = some od := (hs₁.2.1 dx da).trans hdx
  let ob : Obj := { cls := .type "traceback", dict := none, data := .fields ([head, .ref X.L, .none, rawInt X.L, .none] ++ (if pl.isEmpty then List.replicate 6 Value.none else pl)).toArray }
  have he₂ : (h₁.push ob).get? e = some oe := Heap.get?_push_of_some ob he₁
  refine wpAny_setField he₂ hd hsz (q _ ?_)
  have S₂ : SRh K w prog X m ex cs μ (h₁.push ob) := S₁.keep fun x_ x_ z => Heap.get?_push_of_some _ z
  have oth : ∀ b, b ≠ e → ((h₁.push ob).update e (Obj.mapFields fun x => x.setIfInBounds 1 (.ref h₁.objs.size))).get? b = (h₁.push ob).get? b := fun b hb => Heap.get?_update_other _ _ (Ne.symm hb)
  have hTe : h₁.objs.size ≠ e := Nat.ne_of_gt (Heap.lt_size he₁)
  have hd₃ := Obj.data_mapFields hd (fun x => x.setIfInBounds 1 (Value.ref h₁.objs.size))
  refine ⟨S₂.beside he₂ hd eb ea _, ⟨_, _, .ref h₁.objs.size, Heap.get?_update_self _ he₂ (Obj.isFreed_of_fields hd₃), (Obj.cls_mapFields _ _).trans hc, ?_, hd₃, by simp [hsz], ?_⟩, ⟨od, (oth dx (Ne.symm edx)).trans (Heap.get?_push_of_some _ hdx₁), hfl⟩, edx, eb, db, ea, da⟩
  · obtain ⟨c1, c2, c3, c4⟩ := oe
    dsimp only at hd hdi
    subst hd
    exact hdi
  · refine ⟨h₁.objs.size, ob, _, rfl, (oth _ hTe).trans (Heap.get?_push_size h₁ rfl), rfl, ?_, hTe, Nat.ne_of_gt (Heap.lt_size hdx₁), fun hm => ?_, S₁.baseFresh (Nat.le_refl _)⟩
    · first | (simp; done) | (rcases hpl with rfl | ⟨_, _, _, _, _, _, _, rfl⟩ <;> simp)
    · refine El_ea (List.mem_map.mp hm) fun q' hq' z => ?_
      have := Heap.lt_size (S₁.led q' hq').1
      rw [z] at this
      exact Nat.lt_irrefl _ this
theorem pend_note (T : FxOk K mg mb n X) {Q : Unit → Shared → Prop} {E : Value → Shared → Prop} (P : Pend K w prog X m ex cs μ sy d e dx tb s.heap) (q : ∀ h', Pend K w prog X m ex cs μ sy d e dx (some (rawInt X.L)) h' → Q () { s with heap := h' }) :
    wpAny (model prog w) X.A (noteFrame (.ref e) X.env) Q E s := by
  obtain ⟨S, ⟨oe, vs, v, he, hc, hdi, hd, h1, ht⟩, fl, edx, eb, db, ea, da⟩ := P
  have hsz := (Array.getElem?_eq_some_iff.mp h1).1
  unfold noteFrame
  simp only [T.frame]
  refine wpAny_bind (wpAny_field he hd h1 ?_)
  cases tb with
  | none =>
    obtain rfl : v = .none := ht
    rw [if_neg (by decide)]
    exact pend_entry T S he hc hdi hd hsz fl edx eb db ea da q
  | some f =>
    refine El_eeeaaaaaaa ht fun Ta oT ts r_3 hT hdT h3 hTe hTd hTl hTb => ?_; (first | subst r_3 | cases r_3)
    rw [if_pos (show (Value.ref Ta != Value.none) = true from by simp)]
    refine wpAny_bind (wpAny_field hT hdT h3 ?_)
    by_cases hf : f = rawInt X.L
    · subst hf
      rw [if_pos (beq_self_eq_true _)]
      exact wpAny_pure (q s.heap ⟨S, ⟨oe, vs, _, he, hc, hdi, hd, h1, ⟨Ta, oT, ts, rfl, hT, hdT, h3, hTe, hTd, hTl, hTb⟩⟩, fl, edx, eb, db, ea, da⟩)
    · rw [if_neg (by simpa using hf)]
      refine wpAny_bind (wpAny_setField hT hdT (Array.getElem?_eq_some_iff.mp h3).1 ?_)
      refine El_ea fl fun od hdx hfl => ?_
      have oth : ∀ b, b ≠ Ta → (s.heap.update Ta (Obj.mapFields fun x => x.setIfInBounds 3 Value.none)).get? b = s.heap.get? b := fun b hb => Heap.get?_update_other _ _ (Ne.symm hb)
      exact pend_entry (s := { s with heap := s.heap.update Ta (Obj.mapFields fun x => x.setIfInBounds 3 Value.none) }) T (S.beside hT hdT hTb hTl _) ((oth e (Ne.symm hTe)).trans he) hc hdi hd hsz ⟨od, (oth dx (Ne.symm hTd)).trans hdx, hfl⟩ edx eb db ea da q
theorem pend_flight {Q : Unit → Shared → Prop} {E : Value → Shared → Prop} {A : Around} {fo : Option Addr} (P : Pend K w prog X m ex cs μ sy d e dx tb s.heap)
    (q : ∀ h', Pend K w prog X m ex cs μ sy d e dx (tb.map fun x_ => fo.elim .none fun f => rawInt f) h' → Q () { s with heap := h' }) : wpAny (model prog w) A (setFlight (.ref e) fo) Q E s := by
  obtain ⟨S, ⟨oe, vs, v, he, hc, hdi, hd, h1, ht⟩, fl, edx, eb, db, ea, da⟩ := P
  unfold setFlight
  refine wpAny_bind (wpAny_field he hd h1 ?_)
  cases tb with
  | none =>
    obtain rfl : v = .none := ht
    rw [if_neg (by decide)]
    exact wpAny_pure (q s.heap ⟨S, ⟨oe, vs, _, he, hc, hdi, hd, h1, rfl⟩, fl, edx, eb, db, ea, da⟩)
  | some f =>
    refine El_eeeaaaaaaa ht fun Ta oT ts r_3 hT hdT h3 hTe hTd hTl hTb => ?_; (first | subst r_3 | cases r_3)
    rw [if_pos (show (Value.ref Ta != Value.none) = true from by simp)]
    refine El_ea fl fun od hdx hfl => ?_
    have h3' := (Array.getElem?_eq_some_iff.mp h3).1
    refine wpAny_setField hT hdT h3' (q _ ?_)
    have oth : ∀ b, b ≠ Ta → (s.heap.update Ta (Obj.mapFields fun x => x.setIfInBounds 3 (fo.elim Value.none fun f => rawInt f))).get? b = s.heap.get? b := fun b hb => Heap.get?_update_other _ _ (Ne.symm hb)
    have hdT' := Obj.data_mapFields hdT (fun x => x.setIfInBounds 3 (fo.elim Value.none fun f => rawInt f))
    exact ⟨S.beside hT hdT hTb hTl _, ⟨oe, vs, _, (oth e (Ne.symm hTe)).trans he, hc, hdi, hd, h1, ⟨Ta, _, _, rfl, Heap.get?_update_self _ hT (Obj.isFreed_of_fields hdT'), hdT', by simp [h3'], hTe, hTd, hTl, hTb⟩⟩, ⟨od, (oth dx (Ne.symm hTd)).trans hdx, hfl⟩, edx, eb, db, ea, da⟩
theorem pend_leave (T : FxOk K mg mb n X) {Q : Unit → Shared → Prop} {E : Value → Shared → Prop} (P : Pend K w prog X m ex cs μ sy d e dx tb s.heap) (q : ∀ h', Pend K w prog X m ex cs μ sy d e dx (some .none) h' → Q () { s with heap := h' }) :
    wpAny (model prog w) X.A (leaving X.env (.ref e)) Q E s := by
  unfold leaving
  exact wpAny_bind (pend_note T P fun h' P' => pend_flight (s := { s with heap := h' }) (fo := none) P' fun h'' P'' => q h'' P'')
/-- what an exception leaves, as the mini evaluator tells it -/
noncomputable def XO (K : Frag) (w : World) (prog : Program) (X : Fx) (ex : List (Addr × Obj)) : XRel := fun m cs μ sy d e s => (∃ dx tb, Pend K w prog X m ex cs μ sy d e dx tb s.heap) ∧ s.gens = #[] ∧ s.os = X.os
end
/-! ## Comparisons -/
section
variable {K : Frag} {w : World} {prog : Program} {X : Fx} {m : NsMap} {ex : List (Addr × Obj)} {XR : XRel} {cs cs₀ : List CO} {μ : Mem} {s : Shared} {mg mb : NsMap} {n : Nat}
theorem listAt_at (S : SR K w prog X m ex cs μ s) {v : V} {val : Value} {xs : List V} (e : listAt μ v = some xs) (h : VR K (adr cs) v val) : ∃ y vs n, val = .ref y ∧ s.heap.get? y = some (listObj vs n) ∧ s.heap.IsList y vs.toArray ∧ All2 (VR K (adr cs)) xs vs := by
  refine El_ea (bind_of e) fun a h1 h2 => ?_
  refine El_ea (bind_of h2) fun o h3 h4 => ?_
  rw [refO_some h1] at h
  refine El_ea h.ref_inv fun y h5 h6 => ?_
  refine El_ee (isList_at S h6 (h3.trans (congrArg some (listO_some h4)))) fun vs n g => ?_
  exact ⟨y, vs, n, h5, g⟩
noncomputable def PyOk (h : Heap) (k : Nat) (d : PyData) (val : Value) : Prop := ∃ bs, Reads h val d bs ∧ d.canLay0 = true ∧ d.depth ≤ k
theorem plain_reads {as : List Addr} {h : Heap} {v : V} {val : Value} {d : PyData} (e : plainPy v = some d) (hv : VR K as v val) : PyOk h 1 d val := by
  cases v with
  | bool b => cases e; rw [hv.bool_inv]; exact ⟨[], .bool b, rfl, by unfold PyData.depth; exact Nat.zero_le _⟩
  | int i => cases e; obtain ⟨t, rfl⟩ := hv.int_inv; exact ⟨[], .int i t, rfl, by unfold PyData.depth; exact Nat.zero_le _⟩
  | str x =>
    obtain ⟨hs, e⟩ := if_some e
    cases e
    obtain ⟨t, rfl⟩ := hv.str_inv
    exact ⟨[], .str x t, hs, by unfold PyData.depth; exact Nat.zero_le _⟩
  | _ => exact no_some e
theorem toPys_reads {as : List Addr} {f : V → Option PyData} {D : Nat} {h : Heap} (hf : ∀ v d val, f v = some d → VR K as v val → PyOk h D d val) {xs : List V} {vs : List Value} (z : All2 (VR K as) xs vs) : ∀ {ds : List PyData}, toPys f xs = some ds →
    ∃ bs, ReadsAll h vs ds bs ∧ PyData.canLayAll0 ds = true ∧ PyData.depthAll ds ≤ D := by
  induction z with
  | nil => intro ds e; cases e; exact ⟨[], .nil, rfl, Nat.zero_le _⟩
  | cons x _ ih =>
    intro ds e
    refine El_ea (bind_of e) fun d h1 e => ?_
    obtain ⟨ds, h2, rfl⟩ := map_of e
    refine El_eaa (hf _ _ _ h1 x) fun b1 r1 c1 d1 => ?_
    refine El_eaa (ih h2) fun b2 r2 c2 d2 => ?_
    exact ⟨b1 ++ b2, .cons r1 r2, (Bool.and_eq_true _ _).mpr ⟨c1, c2⟩, Nat.max_le.mpr ⟨d1, d2⟩⟩
theorem toPy_none {v : V} (hq : listAt μ v = none) (k : Nat) : toPy (k + 1) μ v = plainPy v := by rw [toPy, hq]
theorem toPy_some {v : V} {xs : List V} (hq : listAt μ v = some xs) (k : Nat) : toPy (k + 1) μ v = (toPys (toPy k μ) xs).map .list := by rw [toPy, hq]
theorem toPy_reads (S : SR K w prog X m ex cs μ s) (k : Nat) : ∀ (v : V) (d : PyData) (val : Value), toPy k μ v = some d → VR K (adr cs) v val → PyOk s.heap (k + 1) d val := by
  induction k with
  | zero => intro v d val e h; exact plain_reads e h
  | succ k ih =>
    intro v d val e h
    cases hq : listAt μ v with
    | none =>
      refine El_eaa (plain_reads (h := s.heap) ((toPy_none hq k).symm.trans e) h) fun bs r c dd => ?_
      exact ⟨bs, r, c, Nat.le_trans dd (Nat.le_add_left 1 _)⟩
    | some xs =>
      refine El_ea (map_of ((toPy_some hq k).symm.trans e)) fun ds h1 r_2 => ?_; (first | subst r_2 | cases r_2)
      refine El_eeeaaa (listAt_at S hq h) fun y vs nn r_3 g1 g2 g3 => ?_; (first | subst r_3 | cases r_3)
      refine El_eaa (toPys_reads ih g3 h1) fun bs r1 c1 d1 => ?_
      exact ⟨y :: bs, .list g1 rfl rfl (by simpa using r1), c1, by unfold PyData.depth; exact Nat.succ_le_succ d1⟩

noncomputable abbrev CQ (m : NsMap) : NsMap → List CO → Bool → Value → Prop := fun m' x_ v x => m' = m ∧ x = .bool v
noncomputable def CmpR (w : World) (prog : Program) (X : Fx) (s : Shared) (op : CmpOp) (va vb : Value) (k : Bool) : Prop := ∀ (Q : Value → Shared → Prop) (E : Value → Shared → Prop), Q (.bool k) s → wpAny (model prog w) X.A (compareOp op va vb) Q E s
noncomputable def SameR (w : World) (prog : Program) (X : Fx) (s : Shared) (va vb : Value) (k : Bool) : Prop := ∀ (Q : Bool → Shared → Prop) (E : Value → Shared → Prop), Q k s → wpAny (model prog w) X.A (isSame va vb) Q E s
theorem eqO_at (T : FxOk K mg mb n X) (S : SR K w prog X m ex cs μ s) {a b : V} {va vb : Value} (ha : VR K (adr cs) a va) (hb : VR K (adr cs) b vb) {k : Bool} (e : eqO μ a b = some k) : CmpR w prog X s .Eq va vb k ∧ CmpR w prog X s .NotEq va vb (!k) := by
  have hu := T.units
  by_cases hd : lenDiff μ a b = true
  · cases (if_pos hd).symm.trans e
    unfold lenDiff at hd
    cases h1 : listAt μ a with
    | none => rw [h1] at hd; exact no_true hd
    | some xs => cases h2 : listAt μ b with
      | none => rw [h1, h2] at hd; exact no_true hd
      | some ys =>
        rw [h1, h2] at hd
        refine El_eeeaaa (listAt_at S h1 ha) fun y vs x_ r_3 x_ l1 r1 => ?_; (first | subst r_3 | cases r_3)
        refine El_eeeaaa (listAt_at S h2 hb) fun z ws x_ r_3 x_ l2 r2 => ?_; (first | subst r_3 | cases r_3)
        have hz : (vs.toArray.size != ws.toArray.size) = true := by rw [List.size_toArray, List.size_toArray, ← r1.length, ← r2.length]; exact hd
        have hc : X.A.units < cLine := Nat.lt_of_le_of_lt (Nat.le_trans (Nat.le_add_right _ (8 * n)) (Nat.le_add_right _ 40)) hu
        exact ⟨fun Q E q => SeqAt.eq_list_lengthsAt l1 l2 hz hc q, fun Q E q => SeqAt.RcNeAt.lists_lengths l1 l2 hz hc prog w _ _ q⟩
  · refine El_ea (bind_of ((if_neg hd).symm.trans e)) fun x h1 e => ?_
    obtain ⟨y, h2, rfl⟩ := map_of e
    refine El_eaa (toPy_reads S 3 _ _ _ h1 ha) fun bs r1 c1 d1 => ?_
    refine El_eaa (toPy_reads S 3 _ _ _ h2 hb) fun bs2 r2 c2 d2 => ?_
    have : X.A.units + min x.depth y.depth < cLine := by have := Nat.min_le_left x.depth y.depth; clear r1 r2 h1 h2 c1 c2 S; omega
    exact ⟨fun Q E q => SeqAt.compareEq_reads r1 r2 c1 c2 this q, fun Q E q => SeqAt.compareNe_reads r1 r2 c1 c2 this q⟩
theorem same_refs {A : Around} {a b : Addr} {oa ob : Obj} {Q : Bool → Shared → Prop} {E : Value → Shared → Prop} (hne : a ≠ b) (ha : s.heap.get? a = some oa) (hb : s.heap.get? b = some ob) {c : Addr} (ht : oa.cls = .ref c) (q : Q false s) :
    wpAny (model prog w) A (isSame (.ref a) (.ref b)) Q E s := by
  show wpAny _ _ (if (a == b) = true then pure true else _) _ _ _
  rw [if_neg (by simpa using hne)]
  refine wpAny_bind (wpAny_load ha (wpAny_bind (wpAny_load hb ?_)))
  rw [ht]
  exact wpAny_pure q
theorem isV_at (T : FxOk K mg mb n X) (S : SR K w prog X m ex cs μ s) {a b : V} {va vb : Value} (ha : VR K (adr cs) a va) (hb : VR K (adr cs) b vb) {k : Bool} (e : isV a b = some k) : SameR w prog X s va vb k := by
  cases b with
  | none =>
    cases hb.none_inv
    cases a with
    | none => cases ha.none_inv; cases e; exact fun Q E q => wpAny_isSame_plain rfl q
    | ref x => refine El_ea ha.ref_inv fun y r_1 x_ => ?_; (first | subst r_1 | cases r_1); cases e; exact fun Q E q => wpAny_isSame_plain rfl q
    | int i => obtain ⟨t, rfl⟩ := ha.int_inv; cases e; exact fun Q E q => wpAny_isSame_plain rfl q
    | _ => exact no_some e
  | ref y =>
    cases a with
    | ref x =>
      refine El_ea ha.ref_inv fun p r_1 hp => ?_; (first | subst r_1 | cases r_1)
      obtain ⟨q, rfl, hq⟩ := hb.ref_inv
      obtain ⟨hxy, e⟩ := if_some (c := x = y) e
      cases e
      cases hp.symm.trans (hxy ▸ hq)
      exact fun Q E q => wpAny_isSame_ref_self q
    | _ => exact no_some e
  | top y =>
    obtain ⟨rfl, hy⟩ := hb.top_inv
    cases a with
    | int i => obtain ⟨t, rfl⟩ := ha.int_inv; cases e; exact fun Q E q => wpAny_isSame_plain rfl q
    | top x =>
      obtain ⟨rfl, hx⟩ := ha.top_inv
      by_cases hxy : x = y
      · have e2 : some true = some k := (if_pos hxy).symm.trans e
        subst hxy
        cases e2
        exact fun Q E q => wpAny_isSame_ref_self q
      · obtain ⟨hp, e⟩ := if_some ((if_neg hxy).symm.trans e)
        cases e
        obtain ⟨ox, hox⟩ := Option.isSome_iff_exists.mp hx
        obtain ⟨oy, hoy⟩ := Option.isSome_iff_exists.mp hy
        have hn := List.all_eq_true.mp T.top.nil x (List.contains_iff_mem.mp ((Bool.and_eq_true _ _).mp hp).1)
        rw [hox] at hn
        exact fun Q E q => same_refs hxy (S.1.stays _ _ (T.top.inb _ _ hox)) (S.1.stays _ _ (T.top.inb _ _ hoy)) (beq_iff_eq.mp hn) q
    | _ => exact no_some e
  | _ => exact no_some e
end
/-! ## Comparisons told as the evaluator tells them; plain built-ins -/
section
variable {K : Frag} {w : World} {prog : Program} {X : Fx} {m : NsMap} {ex : List (Addr × Obj)} {XR : XRel} {cs cs₀ : List CO} {μ : Mem} {s : Shared} {mg mb : NsMap} {n : Nat}
/-- == of what stands in a written tuple -/
noncomputable def eqW (x y : Value) : Bool := numO x == numO y
theorem eqV_at {as : List Addr} {a p : V} {va vp : Value} {k : Bool} {A : Around} (ha : VR K as a va) (hp : VR K as p vp) (e : eqV a p = some k) : SeqAt.EqAt A s vp va (eqW va vp) ∧ eqW va vp = k := by
  cases a with
  | none =>
    cases ha.none_inv
    cases p with
    | none => cases hp.none_inv; cases e; exact ⟨SeqAt.EqAt.same .none, rfl⟩
    | int j => obtain ⟨u, rfl⟩ := hp.int_inv; cases e; exact ⟨SeqAt.EqAt.int_none _ _, rfl⟩
    | _ => exact no_some e
  | int i =>
    obtain ⟨t, rfl⟩ := ha.int_inv
    cases p with
    | none => cases hp.none_inv; cases e; exact ⟨SeqAt.EqAt.none_int _ _, rfl⟩
    | int j => obtain ⟨u, rfl⟩ := hp.int_inv; cases e; exact ⟨(show SeqAt.EqAt A s (.int j u) (.int i t) (i == j) from Bool.beq_comm (a := j) (b := i) ▸ SeqAt.EqAt.int_int _ _ _ _), rfl⟩
    | _ => exact no_some e
  | _ => exact no_some e
theorem all2_two {α β : Type} {R : α → β → Prop} {a b : α} {l : List β} (h : All2 R [a, b] l) : ∃ x y, l = [x, y] ∧ R a x ∧ R b y := by
  cases h with
  | cons h1 h => cases h with
    | cons h2 h => cases h; exact ⟨_, _, rfl, h1, h2⟩
theorem inO_some {a b : V} {k : Bool} (e : inO μ a b = some k) : ∃ x p1 p2 k1 k2, b = .ref x ∧ μ[x]? = some (.tup [p1, p2]) ∧ eqV a p1 = some k1 ∧ eqV a p2 = some k2 ∧ (k1 || k2) = k := by
  refine El_ea (bind_of e) fun x h1 e => ?_
  refine El_ea (bind_of e) fun o h2 e => ?_
  refine El_ea (bind_of e) fun l h3 e => ?_
  obtain ⟨⟨p1, p2⟩, h4, e⟩ := bind_of e
  refine El_ea (bind_of e) fun k1 q1 e => ?_
  refine El_ea (map_of e) fun k2 q2 e => ?_
  exact ⟨x, p1, p2, k1, k2, refO_some h1, h2.trans (congrArg some ((tupO_some h3).trans (congrArg MO.tup (two_some h4)))), q1, q2, e⟩
theorem inO_at (S : SR K w prog X m ex cs μ s) {a b : V} {va vb : Value} (ha : VR K (adr cs) a va) (hb : VR K (adr cs) b vb) {k : Bool} (e : inO μ a b = some k) : CmpR w prog X s .In va vb k := by
  refine El_eeeeeaaaa (inO_some e) fun x p1 p2 k1 k2 h1 h2 q1 q2 h3 => ?_
  refine El_ea (VR.ref_inv (h1 ▸ hb)) fun y h4 hy => ?_
  obtain ⟨c, hc, h5, ⟨vs, nn, g1, _, g3⟩, hg, _⟩ := co_at S hy h2
  refine El_eeaa (all2_two g3) fun v1 v2 h6 r1 r2 => ?_
  obtain ⟨f1, e1⟩ := eqV_at (s := s) (A := X.A.in1) ha r1 q1
  obtain ⟨f2, e2⟩ := eqV_at (s := s) (A := X.A.in1) ha r2 q2
  intro Q E q
  rw [h4, ← h5]
  refine SeqAt.in_tupleAt (items := #[v1, v2]) (eqW va) ⟨_, hg, by rw [g1], nn, by rw [g1, h6]⟩ (fun y hy => ?_) ?_
  · rcases List.mem_cons.mp (Array.mem_toList_iff.mpr hy) with rfl | hy
    · exact f1
    · cases List.mem_singleton.mp hy; exact f2
  · have : (#[v1, v2] : Array Value).any (eqW va) = k := by simp [e1, e2, h3]
    rw [this]
    exact q
noncomputable def CmpG (w : World) (prog : Program) (X : Fx) (s : Shared) (μ : Mem) (op : CmpOp) (va vb : Value) (r : Out Bool × Mem) : Prop := ∃ k, r = (.ok k, μ) ∧ CmpR w prog X s op va vb k
theorem ints2_at {as : List Addr} {op : CmpOp} {f : Int → Int → Bool} {a b : V} {va vb : Value} {r : Out Bool × Mem} (ha : VR K as a va) (hb : VR K as b vb) (e : ints2 a b (fun i j => ret (f i j)) μ = some r) (h : ∀ i j t u, CmpR w prog X s op (.int i t) (.int j u) (f i j)) : CmpG w prog X s μ op va vb r := by
  cases a with
  | int i =>
    cases b with
    | int j =>
      obtain ⟨t, rfl⟩ := ha.int_inv
      obtain ⟨u, rfl⟩ := hb.int_inv
      cases e
      exact ⟨_, rfl, h i j t u⟩
    | _ => exact no_some e
  | _ => exact no_some e
theorem neg_some {f : Mx Bool} {x : Option Bool} {r : Out Bool × Mem} (hf : f μ = x.map (fun r => (.ok r, μ))) (e : bnd f (fun r => ret (!r)) μ = some r) : ∃ k, x = some k ∧ r = (.ok (!k), μ) := by
  rcases bnd_some e with ⟨_, _, _, q, _⟩ | ⟨k', μ', q, e⟩
  · refine El_ea (map_of (hf.symm.trans q)) fun k x_ z => ?_; cases z
  · refine El_ea (map_of (hf.symm.trans q)) fun k h1 z => ?_
    cases z; cases e
    exact ⟨_, h1, rfl⟩
theorem cmpM_at (T : FxOk K mg mb n X) (S : SR K w prog X m ex cs μ s) {op : CmpOp} {a b : V} {va vb : Value} (ha : VR K (adr cs) a va) (hb : VR K (adr cs) b vb) {r : Out Bool × Mem} (e : cmpM op a b μ = some r) : CmpG w prog X s μ op va vb r := by
  cases op with
  | Eq => refine El_ea (map_of e) fun k h1 h2 => ?_; exact ⟨k, h2.symm, (eqO_at T S ha hb h1).1⟩
  | NotEq => refine El_ea (neg_some rfl e) fun k h1 h2 => ?_; exact ⟨_, h2, (eqO_at T S ha hb h1).2⟩
  | Lt => exact ints2_at ha hb e fun i j t u Q E q => lt_int q
  | LtE => exact ints2_at ha hb e fun i j t u Q E q => le_int q
  | Gt => exact ints2_at ha hb e fun i j t u Q E q => gt_int q
  | GtE => exact ints2_at ha hb e fun i j t u Q E q => ge_int q
  | Is => refine El_ea (map_of e) fun k h1 h2 => ?_; exact ⟨k, h2.symm, fun Q E q => wpAny_bind (isV_at T S ha hb h1 (fun b s => wpAny _ _ (pure (Value.bool b)) Q E s) E (wpAny_pure q))⟩
  | IsNot => refine El_ea (neg_some rfl e) fun k h1 h2 => ?_; exact ⟨_, h2, fun Q E q => wpAny_bind (isV_at T S ha hb h1 (fun b s => wpAny _ _ (pure (Value.bool (!b))) Q E s) E (wpAny_pure q))⟩
  | In => refine El_ea (map_of e) fun k h1 h2 => ?_; exact ⟨k, h2.symm, inO_at S ha hb h1⟩
  | NotIn => exact no_some e
theorem cmpM_snd (T : FxOk K mg mb n X) {op : CmpOp} {a b : V} {va vb : Value} (ha : VR K (adr cs₀) a va) (hb : VR K (adr cs₀) b vb) : Snd K w prog X ex XR m cs₀ (compareOp op va vb) (cmpM op a b) (CQ m) := fun cs μ s r Q E g S e p => by
  refine El_ea (cmpM_at T S (ha.grow g) (hb.grow g) e) fun k r_1 h => ?_; (first | subst r_1 | cases r_1)
  exact h _ _ (p s cs m _ (Grow.refl _) S ⟨rfl, rfl⟩)
/-- the tests' tree: a comparison, then its truth -/
theorem truthy_bool {b : Bool} {A : Around} {Q : Bool → Shared → Prop} {E : Value → Shared → Prop} (q : Q b s) : wpAny (model prog w) A (truthy (.bool b)) Q E s := wpAny_truthy_bool q
end
/-! ## Expressions, form by form -/
section
variable {K : Frag} {w : World} {prog : Program} {X : Fx} {m : NsMap} {ex : List (Addr × Obj)} {XR : XRel} {cs cs₀ : List CO} {μ : Mem} {s : Shared} {mg mb : NsMap} {n : Nat} {env : Env}
noncomputable abbrev LQ (K : Frag) (m : NsMap) : NsMap → List CO → List V → List Value → Prop := fun m' cs' v x => m' = m ∧ All2 (VR K (adr cs')) v x
theorem Snd.none {α β : Type} {t : Sem α} {f : Mx β} {R : NsMap → List CO → β → α → Prop} (h : ∀ μ, f μ = none) : Snd K w prog X ex XR m cs₀ t f R := fun x_ μ x_ x_ x_ x_ x_ x_ e x_ => by rw [h μ] at e; cases e
theorem Snd.ite {α β : Type} {t : Sem α} {f : Mx β} {c : Prop} [Decidable c] {R : NsMap → List CO → β → α → Prop} (h : c → Snd K w prog X ex XR m cs₀ t f R) : Snd K w prog X ex XR m cs₀ t (if c then f else Mine.stuck) R := by
  split
  · exact h (by assumption)
  · exact Snd.stuck
theorem Snd.mapRet {α β : Type} {t : Sem α} {f : Mx β} {R : NsMap → List CO → β → α → Prop} (h : Snd K w prog X ex XR m cs₀ t (bnd f Mine.ret) R) : Snd K w prog X ex XR m cs₀ t f R :=
  fun cs μ s r Q E g S e p => h cs μ s r Q E g S (by unfold bnd; rw [e]; obtain ⟨o, μ'⟩ := r; cases o <;> rfl) p

theorem Snd.use {α β δ : Type} {t : Sem α} {f : Mx β} {R : NsMap → List CO → β → α → Prop} {v : β → Mx δ} {γ : Type} {R' : NsMap → List CO → δ → γ → Prop} {r : Out δ × Mem} {Q : γ → Shared → Prop} {E : Value → Shared → Prop} {Q' : α → Shared → Prop} (x : Snd K w prog X ex XR m cs₀ t f R)
    (g : Grow (adr cs₀) (adr cs)) (S : SR K w prog X m ex cs μ s) (e : bnd f v μ = some r) (p : Post K w prog X ex cs XR R' Q E r)
    (y : ∀ m₁ cs₁ b a μ₁ s₁, Grow (adr cs) (adr cs₁) → SR K w prog X m₁ ex cs₁ μ₁ s₁ → R m₁ cs₁ b a → v b μ₁ = some r → Post K w prog X ex cs₁ XR R' Q E r → Q' a s₁) : wpAny (model prog w) X.A t Q' E s := by
  rcases bnd_some e with ⟨sy, d, μ', q, rfl⟩ | ⟨a, μ', q, e⟩
  · exact x cs μ s _ _ E g S q fun s' cs' m' e' g' z => p s' cs' m' e' g' z
  · refine x cs μ s _ _ E g S q fun s' cs' m' a' g' S' z => y m' cs' a a' μ' s' g' S' z e ?_
    obtain ⟨o, μ''⟩ := r
    cases o with
    | ok b' => exact fun s'' cs'' m'' a' g'' S'' z' => p s'' cs'' m'' a' (g'.trans g'') S'' z'
    | exc sy d => exact fun s'' cs'' m'' e' g'' z' => p s'' cs'' m'' e' (g'.trans g'') z'

theorem BinOp_snd {l r : Expr} {op : Operator} {pos : Pos} {fl fr : Mx V} (hl : Snd K w prog X ex XR m cs₀ (eval l env) fl (VQ K m)) (hr : Snd K w prog X ex XR m cs₀ (eval r env) fr (VQ K m)) :
    Snd K w prog X ex XR m cs₀ (eval (.BinOp l op r pos) env) (bnd fl fun a => bnd fr fun b => binM op a b) (VQ K m) := by
  rw [arm_eval_BinOp]
  refine hl.bind fun m₁ cs₁ a va g h => ?_
  obtain ⟨rfl, ha⟩ := h
  refine (hr.grow g).holding.bind fun m₂ cs₂ b vb g' h => ?_
  obtain ⟨rfl, hb⟩ := h
  exact .stand (.operate (binM_snd (ha.grow g') hb))
theorem boolM_snd {v : V} {vv : Value} (hv : VR K (adr cs₀) v vv) : Snd K w prog X ex XR m cs₀ (truthy vv) (boolM v) (BQ m) := fun cs μ s r Q E g S e p => by
  unfold boolM at e
  split at e
  · cases hv; cases e
    exact truthy_bool (p s cs m _ (Grow.refl _) S ⟨rfl, rfl⟩)
  · cases e
theorem Not_snd {x : Expr} {pos : Pos} {f : Mx V} (hx : Snd K w prog X ex XR m cs₀ (eval x env) f (VQ K m)) : Snd K w prog X ex XR m cs₀ (eval (.UnaryOp .Not x pos) env) (bnd f fun v => bnd (boolM v) fun b => ret (.bool (!b))) (VQ K m) := by
  rw [arm_eval_UnaryOp]
  refine hx.bind fun m₁ cs₁ a va g h => ?_
  obtain ⟨rfl, ha⟩ := h
  refine .stand (.holding ?_)
  intro cs μ s r Q E g' S e p
  unfold boolM bnd at e
  cases a <;> first | (cases e; done) | skip
  cases ha; cases e
  exact not_value (truthy_bool (p s cs _ _ (Grow.refl _) S ⟨rfl, .bool⟩))
set_option backward.match.sparseCases false in
theorem USub_snd {x : Expr} {pos : Pos} {f : Mx V} (hx : Snd K w prog X ex XR m cs₀ (eval x env) f (VQ K m)) : Snd K w prog X ex XR m cs₀ (eval (.UnaryOp .USub x pos) env) (bnd f fun v => match v with
    | .int i => ret (.int (-i))
    | _ => stuck) (VQ K m) := by
  rw [arm_eval_UnaryOp]
  refine hx.bind fun m₁ cs₁ a va g h => ?_
  obtain ⟨rfl, ha⟩ := h
  refine .stand (.holding ?_)
  intro cs μ s r Q E g' S e p
  cases a <;> first | (cases e; done) | skip
  cases ha; cases e
  exact neg_int (p _ cs _ _ (Grow.refl _) S ⟨rfl, .int⟩)
theorem IfExp_snd {t b o : Expr} {pos : Pos} {ft : Mx Bool} {fb fo : Mx V} (ht : Snd K w prog X ex XR m cs₀ (isTrue t env (eval t env)) ft (BQ m)) (hb : Snd K w prog X ex XR m cs₀ (eval b env) fb (VQ K m)) (ho : Snd K w prog X ex XR m cs₀ (eval o env) fo (VQ K m)) :
    Snd K w prog X ex XR m cs₀ (eval (.IfExp t b o pos) env) (bnd ft fun c => if c then fb else fo) (VQ K m) := by
  rw [arm_eval_IfExp]
  refine ht.bind fun m₁ cs₁ c vc g h => ?_
  obtain ⟨rfl, rfl⟩ := h
  split
  · exact hb.grow g
  · exact ho.grow g
theorem nil_snd : Snd K w prog X ex XR m cs₀ (spliced []) (ret []) (LQ K m) := Snd.ret fun x_ x_ => ⟨rfl, .nil⟩
theorem cons_snd {e : Sem Value} {r : List (Bool × Sem Value)} {fe : Mx V} {fr : Mx (List V)} (he : Snd K w prog X ex XR m cs₀ e fe (VQ K m)) (hr : Snd K w prog X ex XR m cs₀ (spliced r) fr (LQ K m)) :
    Snd K w prog X ex XR m cs₀ (spliced ((false, e) :: r)) (bnd fe fun v => bnd fr fun vs => ret (v :: vs)) (LQ K m) := by
  rw [spliced]
  refine he.bind fun m₁ cs₁ a va g h => ?_
  obtain ⟨rfl, ha⟩ := h
  simp only [Bool.false_eq_true, if_false]
  show Snd K w prog X ex XR _ cs₁ (pure [va] >>= fun here => holding here (spliced r) >>= fun rest => pure (here ++ rest)) _ _
  rw [pure_bind]
  refine (hr.grow g).holding.bind fun m₂ cs₂ b vb g' h => ?_
  obtain ⟨rfl, hb⟩ := h
  exact Snd.ret fun cs gg => ⟨rfl, .cons (ha.grow (g'.trans gg)) (hb.mono fun x_ x_ z => z.grow gg)⟩
theorem newM_snd {o : MO} {t : Sem Value} {ob : Obj} (hfr : ob.isFreed = false) (ht : ∀ s Q E, Q (.ref s.heap.objs.size) { s with heap := s.heap.push ob } → wpAny (model prog w) X.A t Q E s) (ho : ∀ cs a, Grow (adr cs₀) (adr cs) → szOk o = true → OR K w prog (adr (cs ++ [⟨a, ob, none⟩])) o ⟨a, ob, none⟩) :
    Snd K w prog X ex XR m cs₀ t (newM o) (VQ K m) := fun cs μ s r Q E g S e p => by
  refine El_ea S.1.news fun lo hl N => ?_
  exact ht _ _ _ (post_new (tk := s.toks) S e p hl (S.1.fr.push _) (News.push S.1.fr N _ hfr) (ho cs _ g (newM_sz e)))
theorem newList_snd {vs : List V} {ws : List Value} (h : All2 (VR K (adr cs₀)) vs ws) : Snd K w prog X ex XR m cs₀ (newList ws) (newM (.list vs)) (VQ K m) := fun cs μ s r Q E g S e p => by
  have hz := newM_sz e
  simp only [szOk, decide_eq_true_eq] at hz
  rw [h.length] at hz
  exact newM_snd (cs₀ := cs₀) (o := .list vs) (ob := listObj ws 0) rfl (fun s Q E q => wpAny_newList q (Nat.le_trans hz big_line)) (fun cs a g x_ => ⟨ws, 0, rfl, rfl, h.mono fun x_ x_ z => z.grow (g.trans (adr_push _ _))⟩) cs μ s r Q E g S e p
theorem newTuple_snd {vs : List V} {ws : List Value} (h : All2 (VR K (adr cs₀)) vs ws) : Snd K w prog X ex XR m cs₀ (newTuple ws) (newM (.tup vs)) (VQ K m) := fun cs μ s r Q E g S e p => by
  have hz := newM_sz e
  simp only [szOk, decide_eq_true_eq] at hz
  rw [h.length] at hz
  exact newM_snd (cs₀ := cs₀) (o := .tup vs) (ob := tupObj ws 0) rfl (fun s Q E q => wpAny_newTuple q (Nat.le_trans hz big_line)) (fun cs a g x_ => ⟨ws, 0, rfl, rfl, h.mono fun x_ x_ z => z.grow (g.trans (adr_push _ _))⟩) cs μ s r Q E g S e p
theorem List_snd {es : List Expr} {pos : Pos} {f : Mx (List V)} (h : Snd K w prog X ex XR m cs₀ (spliced (backTo pos (starEach es env))) f (LQ K m)) : Snd K w prog X ex XR m cs₀ (eval (.List es pos) env) (bnd f fun vs => newM (.list vs)) (VQ K m) := by
  rw [arm_eval_List]
  refine .stand (h.bind fun m₁ cs₁ a va g h => ?_)
  obtain ⟨rfl, ha⟩ := h
  exact newList_snd ha
theorem Tuple_snd {es : List Expr} {k : Nat} {pos : Pos} {f : Mx (List V)} (h : Snd K w prog X ex XR m cs₀ (spliced (backTo pos (starEach es env))) f (LQ K m)) : Snd K w prog X ex XR m cs₀ (eval (.Tuple es k pos) env) (bnd f fun vs => newM (.tup vs)) (VQ K m) := by
  rw [arm_eval_Tuple]
  refine .stand (h.bind fun m₁ cs₁ a va g h => ?_)
  obtain ⟨rfl, ha⟩ := h
  exact newTuple_snd ha
theorem base_of {o : Expr} {x : Str} {whole : Sem Value} (h : plainBase o = true) : attributeBase o x env whole = whole := by
  unfold attributeBase
  split
  · cases h
  · rfl
theorem letGo_snd {α : Type} {base : Expr} {o r : Value} {t : Sem α} {β : Type} {f : Mx β} {R : NsMap → List CO → β → α → Prop} (x : Snd K w prog X ex XR m cs₀ t f R) : Snd K w prog X ex XR m cs₀ (letTemporaryGo base o r >>= fun x_ => t) f R :=
  Snd.skip (u := fun x_ => t) (fun x_ x_ x_ q => wpAny_letTemporaryGo q) x
theorem Attribute_snd (T : FxOk K mg mb n X) {o : Expr} {x : Str} {pos : Pos} {f : Mx V} (hb : plainBase o = true) (h : Snd K w prog X ex XR m cs₀ (eval o env) f (VQ K m)) : Snd K w prog X ex XR m cs₀ (eval (.Attribute o x pos) env) (bnd f fun ov => attrM ov x) (VQ K m) := by
  rw [arm_eval_Attribute, base_of hb]
  refine h.bind fun m₁ cs₁ a va g h => ?_
  obtain ⟨rfl, ha⟩ := h
  refine .stand (.mapRet ((attrM_snd T ha).holding.bind fun m₂ cs₂ b vb g' h => ?_))
  obtain ⟨rfl, hb⟩ := h
  exact letGo_snd (Snd.ret fun cs gg => ⟨rfl, hb.grow gg⟩)
theorem Subscript_snd {o i : Expr} {pos : Pos} {fo fi : Mx V} (hn : noCut i = true) (ho : Snd K w prog X ex XR m cs₀ (eval o env) fo (VQ K m)) (hi : Snd K w prog X ex XR m cs₀ (eval i env) fi (VQ K m)) :
    Snd K w prog X ex XR m cs₀ (eval (.Subscript o i pos) env) (bnd fo fun ov => bnd fi fun iv => itemM ov iv) (VQ K m) := by
  show Snd K w prog X ex XR m cs₀ (eval o env >>= fun ov => holding [ov] (eval i env) >>= fun iv => standAt pos >>= fun x_ => subscriptTail o i ov iv) _ _
  refine ho.bind fun m₁ cs₁ a va g h => ?_
  obtain ⟨rfl, ha⟩ := h
  refine (hi.grow g).holding.bind fun m₂ cs₂ b vb g' h => ?_
  obtain ⟨rfl, hb⟩ := h
  exact .stand (itemM_snd hn (ha.grow g') hb)
theorem Slice_snd {o : Expr} {l u : Option Expr} {p pos : Pos} {fo fl fu : Mx V} (ho : Snd K w prog X ex XR m cs₀ (eval o env) fo (VQ K m)) (hl : Snd K w prog X ex XR m cs₀ (valueOrNone (evalOpt l env)) fl (VQ K m)) (hu : Snd K w prog X ex XR m cs₀ (valueOrNone (evalOpt u env)) fu (VQ K m)) :
    Snd K w prog X ex XR m cs₀ (eval (.Subscript o (.Slice l u none p) pos) env) (bnd fo fun ov => bnd fl fun lv => bnd fu fun uv => sliceM ov lv uv) (VQ K m) := by
  show Snd K w prog X ex XR m cs₀ (eval o env >>= fun ov => holding [ov] (eval (.Slice l u none p) env) >>= fun iv => standAt pos >>= fun x_ => subscriptTail o (.Slice l u none p) ov iv) _ _
  refine ho.bind fun m₁ cs₁ a va g h => ?_
  obtain ⟨rfl, ha⟩ := h
  intro cs μ s r Q E g₀ S e q
  refine wpAny_bind (wpAny_holding ?_)
  rw [arm_eval_Slice]
  refine wpAny_bind ((hl.grow g).use g₀ S e q fun m₁ cs₂ lv vl μ₁ s₁ g₁ S₁ h e₁ q₁ => ?_)
  obtain ⟨rfl, hlv⟩ := h
  refine wpAny_bind (wpAny_holding ((hu.grow (g.trans (g₀.trans g₁))).use (Grow.refl _) S₁ e₁ q₁ fun m₂ cs₃ uv vu μ₂ s₂ g₂ S₂ h e₂ q₂ => ?_))
  obtain ⟨rfl, huv⟩ := h
  refine wpAny_bind (wpAny_holding (wpAny_pure ?_))
  exact sliceM_snd (ha.grow (g₀.trans (g₁.trans g₂))) (hlv.grow g₂) huv _ _ _ _ _ _ (Grow.refl _) S₂ e₂ q₂
end
section
variable {K : Frag} {w : World} {prog : Program} {X : Fx} {m : NsMap} {ex : List (Addr × Obj)} {XR : XRel} {cs cs₀ : List CO} {μ : Mem} {s : Shared} {mg mb : NsMap} {n : Nat} {env : Env}
/-- and, or as values: each item but the last is a truth -/
theorem bool_one {op : BoolOp} {pos : Pos} {t : Sem Value} {f : Mx V} (h : Snd K w prog X ex XR m cs₀ t f (VQ K m)) : Snd K w prog X ex XR m cs₀ (boolOp pos op [t]) f (VQ K m) := by
  rw [boolOp]; exact h
set_option backward.match.sparseCases false in
theorem bool_cons {op : BoolOp} {pos : Pos} {t t' : Sem Value} {r : List (Sem Value)} {f fr : Mx V} (h : Snd K w prog X ex XR m cs₀ t f (VQ K m)) (hr : Snd K w prog X ex XR m cs₀ (boolOp pos op (t' :: r)) fr (VQ K m)) :
    Snd K w prog X ex XR m cs₀ (boolOp pos op (t :: t' :: r)) (bnd f fun v => bnd (boolM v) fun b => match op, b with
    | .And, false => ret v
    | .Or, true => ret v
    | _, _ => fr) (VQ K m) := by
  rw [boolOp]
  · refine h.bind fun m₁ cs₁ v vv g h => ?_
    obtain ⟨rfl, hv⟩ := h
    refine .stand ((boolM_snd hv).holding.bind fun m₂ cs₂ b vb g' h => ?_)
    obtain ⟨rfl, rfl⟩ := h
    cases op <;> cases vb <;> first
      | exact Snd.ret fun cs gg => ⟨rfl, hv.grow (g'.trans gg)⟩
      | exact hr.grow (g.trans g')
  · intro z; cases z
theorem allTrue_nil {op : BoolOp} : Snd K w prog X ex XR m cs₀ (allTrue op [] env) (ret (op == .And)) (BQ m) := Snd.ret fun x_ x_ => ⟨rfl, rfl⟩
set_option backward.match.sparseCases false in
theorem allTrue_cons {op : BoolOp} {x : Expr} {r : List Expr} {f fr : Mx Bool} (h : Snd K w prog X ex XR m cs₀ (isTrue x env (eval x env)) f (BQ m)) (hr : Snd K w prog X ex XR m cs₀ (allTrue op r env) fr (BQ m)) :
    Snd K w prog X ex XR m cs₀ (allTrue op (x :: r) env) (bnd f fun b => match op, b with
    | .And, false => ret false
    | .Or, true => ret true
    | _, _ => fr) (BQ m) := by
  rw [arm_allTrue_cons]
  refine h.bind fun m₁ cs₁ b vb g h => ?_
  obtain ⟨rfl, rfl⟩ := h
  cases op <;> cases vb <;> first
    | exact Snd.ret fun cs gg => ⟨rfl, rfl⟩
    | exact hr.grow g
theorem tNot_snd {x : Expr} {pos : Pos} {wh : Sem Value} {f : Mx Bool} (h : Snd K w prog X ex XR m cs₀ (isTrue x env (eval x env)) f (BQ m)) : Snd K w prog X ex XR m cs₀ (isTrue (.UnaryOp .Not x pos) env wh) (bnd f fun b => ret (!b)) (BQ m) := by
  rw [arm_isTrue_UnaryOp]
  refine h.bind fun m₁ cs₁ b vb g h => ?_
  obtain ⟨rfl, rfl⟩ := h
  exact Snd.ret fun x_ x_ => ⟨rfl, rfl⟩
theorem tIf_snd {t b o : Expr} {pos : Pos} {wh : Sem Value} {ft fb fo : Mx Bool} (ht : Snd K w prog X ex XR m cs₀ (isTrue t env (eval t env)) ft (BQ m)) (hb : Snd K w prog X ex XR m cs₀ (isTrue b env (eval b env)) fb (BQ m)) (ho : Snd K w prog X ex XR m cs₀ (isTrue o env (eval o env)) fo (BQ m)) :
    Snd K w prog X ex XR m cs₀ (isTrue (.IfExp t b o pos) env wh) (bnd ft fun c => if c then fb else fo) (BQ m) := by
  rw [arm_isTrue_IfExp]
  refine ht.bind fun m₁ cs₁ c vc g h => ?_
  obtain ⟨rfl, rfl⟩ := h
  split
  · exact hb.grow g
  · exact ho.grow g
theorem tPlain_snd {pos : Pos} {wh : Sem Value} {f : Mx V} (h : Snd K w prog X ex XR m cs₀ wh f (VQ K m)) : Snd K w prog X ex XR m cs₀ (wh >>= fun v => standAt pos >>= fun x_ => holding [v] (truthy v)) (bnd f boolM) (BQ m) := by
  refine h.bind fun m₁ cs₁ v vv g h => ?_
  obtain ⟨rfl, hv⟩ := h
  exact .stand (boolM_snd hv).holding

theorem cmpV_snd (T : FxOk K mg mb n X) {op : CmpOp} {a b : V} {va vb : Value} (ha : VR K (adr cs₀) a va) (hb : VR K (adr cs₀) b vb) : Snd K w prog X ex XR m cs₀ (compareOp op va vb) (bnd (cmpM op a b) fun b => ret (.bool b)) (VQ K m) := by
  refine Snd.mono (R := fun m' x_ v x => m' = m ∧ ∃ b : Bool, v = .bool b ∧ x = .bool b) ?_ ?_
  · intro cs μ s r Q E g S e p
    rcases bnd_some e with ⟨sy, d, μ', q, rfl⟩ | ⟨b, μ', q, e⟩
    · exact cmpM_snd (XR := XR) T ha hb cs μ s _ Q E g S q p
    · cases e
      refine cmpM_snd (XR := XR) T ha hb cs μ s _ Q E g S q fun s' cs' m' x g' S' h => p s' cs' m' x g' S' ⟨h.1, b, rfl, h.2⟩
  · rintro m' cs' v x ⟨rfl, b, rfl, rfl⟩; exact ⟨rfl, .bool⟩
theorem Compare_snd (T : FxOk K mg mb n X) {op : CmpOp} {pos : Pos} {l r : Expr} {fl fr : Mx V} (hm : ∀ t, markedBehindIn op r t = t) (hl : Snd K w prog X ex XR m cs₀ (eval l env) fl (VQ K m)) (hr : Snd K w prog X ex XR m cs₀ (eval r env) fr (VQ K m)) :
    Snd K w prog X ex XR m cs₀ (eval (.Compare l [op] [r] pos) env) (bnd fl fun a => bnd fr fun b => bnd (cmpM op a b) fun c => ret (.bool c)) (VQ K m) := by
  rw [arm_eval_Compare]
  refine hl.bind fun m₁ cs₁ a va g h => ?_
  obtain ⟨rfl, ha⟩ := h
  show Snd K w prog X ex XR _ cs₁ (compareChain pos va [op] [markedBehindIn op r (eval r env)]) _ _
  rw [hm, compareChain]
  refine (hr.grow g).holding.bind fun m₁ cs₁ b vb g h => ?_
  obtain ⟨rfl, hb⟩ := h
  exact .stand (.operate (cmpV_snd T (ha.grow g) hb))
theorem tcmp_one (T : FxOk K mg mb n X) {op : CmpOp} {pos : Pos} {a : V} {va : Value} {t : Sem Value} {f : Mx V} (ha : VR K (adr cs₀) a va) (h : Snd K w prog X ex XR m cs₀ t f (VQ K m)) :
    Snd K w prog X ex XR m cs₀ (testChain pos va [op] [t]) (bnd f fun b => cmpM op a b) (BQ m) := by
  rw [testChain]
  refine h.holding.bind fun m₁ cs₁ b vb g h => ?_
  obtain ⟨rfl, hb⟩ := h
  refine .stand (.mapRet ((Snd.operate (R := CQ _) (cmpM_snd T (ha.grow g) hb)).bind fun m₂ cs₂ c vc g' h => ?_))
  obtain ⟨rfl, rfl⟩ := h
  exact Snd.holding (Snd.step fun cs s μ Q E g S q => truthy_bool (q c s.toks ⟨rfl, rfl⟩))
theorem tcmp_cons (T : FxOk K mg mb n X) {op op' : CmpOp} {ops : List CmpOp} {pos : Pos} {a : V} {va : Value} {t t' : Sem Value} {ts : List (Sem Value)} {f : Mx V} {fr : V → Mx Bool} (ha : VR K (adr cs₀) a va) (h : Snd K w prog X ex XR m cs₀ t f (VQ K m))
    (hr : ∀ cs b vb, Grow (adr cs₀) (adr cs) → VR K (adr cs) b vb → Snd K w prog X ex XR m cs (testChain pos vb (op' :: ops) (t' :: ts)) (fr b) (BQ m)) :
    Snd K w prog X ex XR m cs₀ (testChain pos va (op :: op' :: ops) (t :: t' :: ts)) (bnd f fun b => bnd (cmpM op a b) fun c => if c then fr b else ret false) (BQ m) := by
  rw [testChain]
  · refine h.holding.bind fun m₁ cs₁ b vb g h => ?_
    obtain ⟨rfl, hb⟩ := h
    refine .stand ((cmpM_snd T (ha.grow g) hb).holding.bind fun m₂ cs₂ c vc g' h => ?_)
    obtain ⟨rfl, rfl⟩ := h
    refine Snd.skip (fun x_ x_ x_ q => wpAny_release q) ?_
    show Snd K w prog X ex XR _ cs₂ (holding [Value.bool c, vb] (truthy (Value.bool c)) >>= fun c => if c = true then testChain pos vb (op' :: ops) (t' :: ts) else pure false) _ _
    intro cs μ s r Q E g₂ S e p
    refine wpAny_bind (wpAny_holding (truthy_bool ?_))
    cases c
    · cases e; exact wpAny_pure (p s cs _ _ (Grow.refl _) S ⟨rfl, rfl⟩)
    · exact hr cs b vb (g.trans (g'.trans g₂)) (hb.grow (g'.trans g₂)) cs μ s r Q E (Grow.refl _) S e p
  · intro z; cases z
set_option tactic.hygienic true in
theorem marked_not {op : CmpOp} {r : Expr} (h : ∀ a b c, r ≠ .Set a b c) (t : Sem Value) : markedBehindIn op r t = t := by
  unfold markedBehindIn behindInMarks
  split
  · rename_i z
    split at z
    · exact absurd rfl (h _ _ _)
    · cases z
  · rfl

/-! ### Calls: what is called, its arguments -/
theorem args_wp {f : Value} {as : List Expr} {pos : Pos} {Q : Args → Shared → Prop} {E : Value → Shared → Prop} {A : Around} (hs : (backTo pos (starEach as env)).any (·.1) = false)
    (h : wpAny (model prog w) A (spliced (backTo pos (starEach as env))) (fun vs s' => Q ⟨vs, []⟩ s') E s) : wpAny (model prog w) A (evalArgs f true (backTo pos (starEach as env)) []) Q E s := by
  revert hs h
  generalize backTo pos (starEach as env) = l
  intro hs h
  cases l with
  | nil =>
    unfold evalArgs
    refine wpAny_bind (wpAny_bind (wpAny_mono h (fun vs s' h' => ?_) fun x_ x_ x => x))
    exact wpAny_pure (wpAny_holding (wpAny_bind (wpAny_pure (wpAny_bind (wpAny_pure (wpAny_pure h'))))))
  | cons q r =>
    obtain ⟨st, x⟩ := q
    simp only [List.any_cons, Bool.or_eq_false_iff] at hs
    obtain ⟨rfl, _⟩ := hs
    exact Calls.evalArgs_plain h
theorem fn_keep (h : fnOk K = true) {a : Addr} (e : (fnT.lookup a).isSome = true) : keepIn K (.ref a) = true := by
  cases q : fnT.lookup a with
  | none => rw [q] at e; cases e
  | some x =>
    have := List.all_eq_true.mp h _ (lookup_mem q)
    simp only [Bool.and_eq_true] at this
    exact this.1
/-- the call's tail: its arguments are told, then the call -/
theorem callWith_snd (T : FxOk K mg mb n X) {C : CallT} {f : V} {vf : Value} {first : List V} {vfirst : List Value} {as : List Expr} {pos : Pos} {fa : Mx (List V)} (hm : mayCall f = true) (hf : VR K (adr cs₀) f vf) (h1 : All2 (VR K (adr cs₀)) first vfirst)
    (hs : (backTo pos (starEach as env)).any (·.1) = false) (ha : Snd K w prog X ex XR m cs₀ (spliced (backTo pos (starEach as env))) fa (LQ K m))
    (hc : ∀ cs vs ws, Grow (adr cs₀) (adr cs) → All2 (VR K (adr cs)) vs ws → Snd K w prog X ex XR m cs (call vf ws []) (callV C f vs) (VQ K m)) :
    Snd K w prog X ex XR m cs₀ (callWith pos vf vfirst (backTo pos (starEach as env)) []) (bnd fa fun vs => callV C f (first ++ vs)) (VQ K m) := fun cs μ s r Q E g S e p => by
  have hx : ∀ {vf' : Value}, vf' = vf → wpAny (model prog w) X.A (evalArgs vf' true (backTo pos (starEach as env)) []) (fun a s₁ => K.In s₁.heap ∧ wpAny (model prog w) X.A (call vf (vfirst ++ a.pos) a.kw) Q E s₁) E s := fun x_ => by
    refine args_wp hs (ha.use g S e p fun m₁ cs₁ vs ws μ₁ s₁ g₁ S₁ h e₁ p₁ => ⟨T.top.inb.keeps S₁.1.stays, ?_⟩)
    obtain ⟨rfl, hv⟩ := h
    exact hc cs₁ _ _ (g.trans g₁) ((h1.mono fun x_ x_ z => z.grow (g.trans g₁)).append hv) _ _ _ _ _ _ (Grow.refl _) S₁ e₁ p₁
  cases hf with
  | bi => exact Calls.callWith_builtin hs (wpAny_mono (hx rfl) (fun x_ x_ q => q.2) fun x_ x_ q => q)
  | ty => exact PySem.callWith_type hs (wpAny_mono (hx rfl) (fun x_ x_ q => q.2) fun x_ x_ q => q)
  | @top a _ =>
    refine callWith_of (P := fun h => K.In h) (by rw [hs]; rfl) (keeps_K ?_) (hx rfl)
    unfold mayCall at hm
    rcases Bool.or_eq_true_iff.mp hm with z | z
    · exact fn_keep T.top.fn z
    · cases q : clT.lookup a with
      | none => rw [q] at z; cases z
      | some x => exact (cls_ok T.top.cl q).keep
  | _ => cases hm
theorem Call_snd (T : FxOk K mg mb n X) {C : CallT} {f : Expr} {as : List Expr} {pos : Pos} {ff : Mx V} {fa : Mx (List V)} (hn : ∀ o x p, f ≠ .Attribute o x p) (hs : (backTo pos (starEach as env)).any (·.1) = false) (hf : Snd K w prog X ex XR m cs₀ (eval f env) ff (VQ K m))
    (ha : Snd K w prog X ex XR m cs₀ (spliced (backTo pos (starEach as env))) fa (LQ K m))
    (hc : ∀ cs g vg vs ws, Grow (adr cs₀) (adr cs) → VR K (adr cs) g vg → All2 (VR K (adr cs)) vs ws → Snd K w prog X ex XR m cs (call vg ws []) (callV C g vs) (VQ K m)) :
    Snd K w prog X ex XR m cs₀ (eval (.Call f as [] pos) env) (bnd ff fun fv => if mayCall fv then bnd fa fun vs => callV C fv vs else stuck) (VQ K m) := by
  have e : eval (.Call f as [] pos) env = (eval f env >>= fun fv => callWith pos fv [] (backTo pos (starEach as env)) []) := by
    cases f <;> first | rfl | exact absurd rfl (hn _ _ _)
  rw [e]
  refine hf.bind fun m₁ cs₁ g vg gr h => ?_
  obtain ⟨rfl, hg⟩ := h
  refine .ite fun hm => ?_
  exact callWith_snd T hm hg (first := []) .nil hs (ha.grow gr) fun cs vs ws g' hv => hc cs g vg vs ws (gr.trans g') (hg.grow g') hv
theorem cls_meth (T : FxOk K mg mb n X) {C : Addr} {x : Str} {f : Addr} (hf : methT C x = some f) : ∃ fs ms, ClsOk K C fs ms ∧ (x, f) ∈ ms := by
  obtain ⟨⟨fs, ms⟩, h1, h2⟩ := bind_of hf
  exact ⟨fs, ms, cls_ok T.top.cl h1, lookup_mem h2⟩
theorem fn_in {f : Addr} (h : isFn K (.ref f) = true) : (K.lookup f).isSome = true := by
  cases q : K.lookup f with
  | some _ => rfl
  | none => unfold isFn typeIn at h; simp [q] at h
theorem selM_snd (T : FxOk K mg mb n X) {o : V} {vo : Value} {x : Str} {pl : Sem Bool} (ho : VR K (adr cs₀) o vo) : Snd K w prog X ex XR m cs₀ (getMethod vo x pl) (selM o x) (fun m' cs' f p => m' = m ∧ p.2 = [vo] ∧ VR K (adr cs') f p.1) := fun cs μ s r Q E g S e p => by
  refine El_ea (rdM_some e) fun v h h' => ?_
  refine El_ea (bind_of h) fun a h1 h => ?_
  refine El_ea (bind_of h) fun ob hm h => ?_
  refine El_ea (VR.ref_inv (refO_some h1 ▸ ho)) fun y r_1 hx => ?_; (first | subst r_1 | cases r_1)
  cases h'
  cases ob with
  | inst C fs =>
    refine El_ea (bind_of h) fun f hf h => ?_
    obtain ⟨hl, h⟩ := if_some h
    cases h
    refine El_eeeeaaaaaa (inst_at S (g.at hx) hm) fun c dx ds nn hc hcx h3 h4 h5 I x_ => ?_
    refine El_eea (cls_meth T hf) fun fl ml CO hme => ?_
    have hme := CO.meth _ hme
    exact method_inst S.1.fr T.top.inb I (plainGet_any CO.get) hme.1 hme.2 (getL_none h5 (Option.isNone_iff_eq_none.mp hl)) (p s cs m _ (Grow.refl _) S ⟨rfl, rfl, .top (fn_in hme.2)⟩)
  | list xs =>
    obtain ⟨hx', h⟩ := if_some h
    cases h
    rw [hx']
    obtain ⟨c, hc, rfl, ⟨vs, nn, h1, h2, h3⟩, hg, _⟩ := co_at S (g.at hx) hm
    exact Calls.getMethod_list_append hg (by rw [h1]) (by rw [h1]) (p s cs m _ (Grow.refl _) S ⟨rfl, rfl, .bi⟩)
  | dict es =>
    obtain ⟨hx', h⟩ := if_some h
    cases h
    rw [hx']
    obtain ⟨c, hc, rfl, ⟨h1, h2, h3⟩, hg, _⟩ := co_at S (g.at hx) hm
    have fin := p s cs m (.builtin "dict.get", [.ref c.x]) (Grow.refl _) S ⟨rfl, rfl, .bi⟩
    exact h2.elim (fun ⟨_, _, hd, _⟩ => have hD := Heap.dictOf_iff.mpr ⟨_, hg, hd⟩; getMethod_builtin hD.typeIs PySem.F.plainAttrs_dict PySem.F.slot_dict_get PySem.F.type_dict_get hD.mapOf.noDict fin)
      fun ⟨_, _, hd, _⟩ => have hD := Heap.dictOf_iff.mpr ⟨_, hg, hd⟩; getMethod_builtin hD.typeIs PySem.F.plainAttrs_dict PySem.F.slot_dict_get PySem.F.type_dict_get hD.mapOf.noDict fin
  | _ => exact no_some h
theorem Method_snd (T : FxOk K mg mb n X) {C : CallT} {o : Expr} {x : Str} {ap : Pos} {as : List Expr} {pos : Pos} {fo : Mx V} {fa : Mx (List V)} (hp : ap.endLine = pos.line) (hn : as.length < 30) (hb : plainBase o = true) (hs : (backTo pos (starEach as env)).any (·.1) = false)
    (ho : Snd K w prog X ex XR m cs₀ (eval o env) fo (VQ K m)) (ha : Snd K w prog X ex XR m cs₀ (spliced (backTo pos (starEach as env))) fa (LQ K m))
    (hc : ∀ cs g vg vs ws, Grow (adr cs₀) (adr cs) → VR K (adr cs) g vg → All2 (VR K (adr cs)) vs ws → Snd K w prog X ex XR m cs (call vg ws []) (callV C g vs) (VQ K m)) :
    Snd K w prog X ex XR m cs₀ (eval (.Call (.Attribute o x ap) as [] pos) env) (bnd fo fun ov => bnd (selM ov x) fun f => if mayCall f then bnd fa fun vs => callV C f (ov :: vs) else stuck) (VQ K m) := by
  rw [arm_eval_Call, base_of hb]
  refine ho.bind fun m₁ cs₁ ov vo g h => ?_
  obtain ⟨rfl, hov⟩ := h
  have few : methodCallForm (as.length + ([] : List Keyword).length) (backTo pos (starEach as env)) (backToKw pos (keywordEach [] env)) = true := by
    unfold methodCallForm
    simp only [List.any_eq_false, Bool.not_eq_true] at hs
    simp only [Bool.and_eq_true, List.all_eq_true, Bool.not_eq_true', decide_eq_true_eq]
    refine ⟨⟨hs, ?_⟩, ?_⟩
    · intro x hx; cases hx
    · show as.length + 0 + 0 < 30
      exact hn
  refine .stand ?_
  unfold methodCall
  rw [few]
  refine (Snd.holding (t := calleeOf true o env vo x) (selM_snd T hov)).bind fun m₂ cs₂ f p g' h => ?_
  obtain ⟨vf, first⟩ := p
  refine El_aa h fun r_0 h2 hf => ?_; (first | subst r_0 | cases r_0)
  dsimp only at h2 hf
  subst h2
  have hpos : methodCallPos true o env ap pos = pure pos := by
    unfold methodCallPos; simp [hp]
  refine .ite fun hm => ?_
  show Snd K w prog X ex XR _ cs₂ (methodCallPos true o env ap pos >>= fun cp => callWith cp vf [vo] (backTo pos (starEach as env)) []) _ _
  rw [hpos, pure_bind]
  exact callWith_snd T hm hf (first := [ov]) (.cons (hov.grow g') .nil) hs (ha.grow (g.trans g')) fun cs vs ws g'' hv => hc cs f vf vs ws (g.trans (g'.trans g'')) (hf.grow g'') hv
end
/-! ## The ledger's side list; displays of dicts -/
section
variable {K : Frag} {w : World} {prog : Program} {X : Fx} {m : NsMap} {ex : List (Addr × Obj)} {XR XR' : XRel} {cs cs₀ : List CO} {μ : Mem} {s : Shared} {mg mb : NsMap} {n : Nat} {env : Env} {h h' : Heap}
theorem SRh.lt (S : SRh K w prog X m ex cs μ h) : ∀ a ∈ X.L :: X.low.map (·.1) ++ (ex ++ nw cs).map (·.1), a < h.objs.size := fun a ha => by
  rcases List.mem_append.mp ha with z | z
  · rcases List.mem_cons.mp z with rfl | z
    · refine El_eeea S.ns fun o x_ x_ ho x_ => ?_; exact Heap.lt_size ho
    · refine El_ea (List.mem_map.mp z) fun p hp r_2 => ?_; (first | subst r_2 | cases r_2)
      refine El_eeea ((S.low p hp).1) fun o x_ x_ ho x_ => ?_; exact Heap.lt_size ho
  · obtain ⟨p, hp, rfl⟩ := List.mem_map.mp z
    exact Heap.lt_size (S.led p hp).1
/-- a new object beside the ledger -/
theorem SRh.exAdd (S : SRh K w prog X m ex cs μ h) (kb : ∀ b o, h.get? b = some o → h'.get? b = some o) {a : Addr} {o : Obj} (ha : h.objs.size ≤ a) (ho : h'.get? a = some o) : SRh K w prog X m ((a, o) :: ex) cs μ h' := by
  have S' := S.keep kb
  refine ⟨S'.stays, S'.ns, S'.above, S'.low, fun q hq => ?_, S.sz, S.fro, S.szs, ?_, S.O⟩
  · rcases List.mem_cons.mp hq with rfl | hq
    · exact ⟨ho, S.baseFresh ha, fun e => by dsimp only at e; rw [e] at ha; exact Nat.lt_irrefl _ (Nat.lt_of_lt_of_le S.sz (Nat.le_trans S.size_le ha))⟩
    · exact S'.led q hq
  · have hd := S.dist
    have hlt := S.lt
    rw [List.nodup_append] at hd ⊢
    refine ⟨hd.1, ?_, ?_⟩
    · show ((a, o).1 :: (ex ++ nw cs).map (·.1)).Nodup
      exact List.nodup_cons.mpr ⟨fun hm => Nat.lt_irrefl _ (Nat.lt_of_lt_of_le (hlt a (List.mem_append_right _ hm)) ha), hd.2.1⟩
    · intro x hx y hy
      rcases List.mem_cons.mp (show y ∈ (a, o).1 :: (ex ++ nw cs).map (·.1) from hy) with rfl | hy
      · rintro rfl; exact Nat.lt_irrefl _ (Nat.lt_of_lt_of_le (hlt _ (List.mem_append_left _ hx)) ha)
      · exact hd.2.2 x hx y hy
theorem SRh.exDrop {pre : List (Addr × Obj)} (S : SRh K w prog X m (pre ++ ex) cs μ h) : SRh K w prog X m ex cs μ h := by
  refine ⟨S.stays, S.ns, S.above, S.low, fun q hq => S.led q ?_, S.sz, S.fro, S.szs, ?_, S.O⟩
  · rw [List.append_assoc]; exact List.mem_append_right _ hq
  · have hd := S.dist
    rw [List.append_assoc, List.map_append] at hd
    rw [List.nodup_append] at hd ⊢
    refine ⟨hd.1, (List.nodup_append.mp hd.2.1).2.1, fun x hx y hy => hd.2.2 x hx y (List.mem_append_right _ hy)⟩
/-- what lies beside is changed -/
theorem SRh.exChange {pre pre' : List (Addr × Obj)} (S : SRh K w prog X m (pre ++ ex) cs μ h) (kb : ∀ b o, b ∉ pre.map (·.1) → h.get? b = some o → h'.get? b = some o) (hp : ∀ q ∈ pre', h'.get? q.1 = some q.2) (he : pre'.map (·.1) = pre.map (·.1)) :
    SRh K w prog X m (pre' ++ ex) cs μ h' := by
  have hd := S.dist
  have off : ∀ a, a ∈ X.L :: X.low.map (·.1) → a ∉ pre.map (·.1) := fun a ha hm => by
    rw [List.nodup_append] at hd
    exact hd.2.2 a ha a (by rw [List.append_assoc, List.map_append]; exact List.mem_append_left _ hm) rfl
  have off2 : ∀ q ∈ ex ++ nw cs, q.1 ∉ pre.map (·.1) := fun q hq hm => by
    rw [List.append_assoc, List.map_append] at hd
    have h2 := (List.nodup_append.mp hd).2.1
    exact (List.nodup_append.mp h2).2.2 q.1 hm q.1 (List.mem_map_of_mem hq) rfl
  have nsk : ∀ {L : Addr} {m' : NsMap}, h.Ns L m' → L ∉ pre.map (·.1) → h'.Ns L m' := fun ⟨o, es, ep, ho, rr⟩ hl => ⟨o, es, ep, kb _ _ hl ho, rr⟩
  refine ⟨fun b o e => kb _ _ (fun hm => ?_) (S.stays b o e), nsk S.ns (off _ (.head _)), S.above, fun p hp' => ⟨nsk (S.low p hp').1 (off _ (.tail _ (List.mem_map_of_mem hp'))), (S.low p hp').2⟩, fun q hq => ?_, S.sz, S.fro, S.szs, ?_, S.O⟩
  · obtain ⟨q, hq, rfl⟩ := List.mem_map.mp hm
    have := (S.led q (by rw [List.append_assoc]; exact List.mem_append_left _ hq)).2.1
    rw [this] at e; cases e
  · rw [List.append_assoc] at hq
    rcases List.mem_append.mp hq with z | z
    · have hm : q.1 ∈ pre.map (·.1) := he ▸ List.mem_map_of_mem z
      refine El_ea (List.mem_map.mp hm) fun q' hq' e => ?_
      exact ⟨hp q z, e ▸ (S.led q' (by rw [List.append_assoc]; exact List.mem_append_left _ hq')).2⟩
    · have := S.led q (by rw [List.append_assoc]; exact List.mem_append_right _ z)
      exact ⟨kb _ _ (off2 q z) this.1, this.2⟩
  · rw [List.append_assoc, List.map_append] at hd ⊢
    rw [he]; exact hd
/-- what lies beside becomes an object of the ledger's -/
theorem SRh.exGive {d : Addr} {o : Obj} {mo : MO} (S : SRh K w prog X m ((d, o) :: ex) cs μ h) (hz : szOk mo = true) (ho : OR K w prog (adr (cs ++ [⟨d, o, none⟩])) mo ⟨d, o, none⟩) : SRh K w prog X m ex (cs ++ [⟨d, o, none⟩]) (μ ++ [mo]) h := by
  have e1 : nw (cs ++ [⟨d, o, none⟩]) = nw cs ++ [(d, o)] := by rw [nw_append, nw_one]; rfl
  refine ⟨S.stays, S.ns, S.above, S.low, fun q hq => S.led q ?_, S.sz, by rw [List.getElem?_append_left (by exact (List.getElem?_eq_some_iff.mp S.fro).1)]; exact S.fro, fun o' ho' => by rcases List.mem_append.mp ho' with z | z; exact S.szs _ z; rw [List.mem_singleton.mp z]; exact hz, ?_, (S.O.mono fun x_ x_ z => z.grow ⟨[d], by rw [adr_append]; rfl⟩).append (.cons ho .nil)⟩
  · rw [e1] at hq
    simp only [List.mem_append, List.mem_cons, List.not_mem_nil, or_false] at hq ⊢
    rcases hq with z | z | z
    · exact .inl (.inr z)
    · exact .inr z
    · exact .inl (.inl z)
  · have hd := S.dist
    rw [e1]
    refine List.Perm.nodup_iff ?_ |>.mp hd
    refine List.Perm.append_left _ ?_
    refine List.Perm.map _ ?_
    show List.Perm ((d, o) :: (ex ++ nw cs)) (ex ++ (nw cs ++ [(d, o)]))
    rw [← List.append_assoc]
    exact (List.perm_append_singleton _ _).symm

/-- the parts of a display or of a call -/
inductive EsOk (K : Frag) (w : World) (prog : Program) (X : Fx) (ex : List (Addr × Obj)) (XR : XRel) (m : NsMap) (cs₀ : List CO) (env : Env) : List Expr → Mx (List V) → Prop
  | nil : EsOk K w prog X ex XR m cs₀ env [] (ret [])
  | cons {e r f fr} : Snd K w prog X ex XR m cs₀ (eval e env) f (VQ K m) → EsOk K w prog X ex XR m cs₀ env r fr → EsOk K w prog X ex XR m cs₀ env (e :: r) (bnd f fun v => bnd fr fun vs => ret (v :: vs))
theorem starEach_cons {e : Expr} {r : List Expr} (h : ∀ a b, e ≠ .Starred a b) : starEach (e :: r) env = (false, eval e env) :: starEach r env := by
  cases e <;> first | rfl | exact absurd rfl (h _ _)
theorem noStar_cons {e : Expr} {r : List Expr} (h : noStar (e :: r) = true) : (∀ a b, e ≠ .Starred a b) ∧ noStar r = true :=
  ⟨fun a b z => by subst z; exact Bool.noConfusion h, by cases e <;> first | exact h | exact Bool.noConfusion h⟩
theorem keysOf_cons {q : Option Expr} {r : List (Option Expr)} {kv : List V} (h : keysOf (q :: r) = some kv) : ∃ x a b kv', q = some (.Constant (.str x) a b) ∧ keysOf r = some kv' ∧ kv = .str x :: kv' := by
  refine El_ea (bind_of (show (q.bind textOf).bind _ = _ from h)) fun x h1 h2 => ?_
  obtain ⟨kv', h3, rfl⟩ := map_of h2
  refine El_ea (bind_of h1) fun e r_1 h4 => ?_; (first | subst r_1 | cases r_1)
  obtain ⟨a, b, rfl⟩ := textOf_some h4
  exact ⟨x, a, b, kv', rfl, h3, rfl⟩
theorem star_any : ∀ {l : List Expr}, noStar l = true → (pos : Pos) → (backTo pos (starEach l env)).any (·.1) = false
  | [], _, _ => rfl
  | e :: r, h, pos => by
    obtain ⟨h1, h2⟩ := noStar_cons h
    rw [starEach_cons h1]
    show (false || (backTo pos (starEach r env)).any (·.1)) = false
    rw [star_any h2]; rfl
theorem EsOk.spl {l : List Expr} {f : Mx (List V)} (x : EsOk K w prog X ex XR m cs₀ env l f) (h : noStar l = true) (pos : Pos) : Snd K w prog X ex XR m cs₀ (spliced (backTo pos (starEach l env))) f (LQ K m) := by
  induction x with
  | nil => exact nil_snd
  | cons a _ ih =>
    obtain ⟨h1, h2⟩ := noStar_cons h
    rw [starEach_cons h1]
    exact cons_snd a (ih h2)
noncomputable abbrev PQ (K : Frag) (m : NsMap) (kv : List V) : NsMap → List CO → List V → List (Value × Value) → Prop := fun m' cs' vs ps => m' = m ∧ vs.length = kv.length ∧ All2 (fun p q => (∃ x t, p.1 = .str x ∧ q.1 = .str x t) ∧ VR K (adr cs') p.2 q.2) (kv.zip vs) ps
theorem EsOk.pairs {l : List Expr} {f : Mx (List V)} (x : EsOk K w prog X ex XR m cs₀ env l f) (pos : Pos) : ∀ {ks : List (Option Expr)} {kv : List V}, keysOf ks = some kv → kv.length = l.length → Snd K w prog X ex XR m cs₀ (evalPairs (pairTrees ks l env pos)) f (PQ K m kv) := by
  induction x with
  | nil =>
    intro ks kv hk hl
    obtain rfl : kv = [] := List.length_eq_zero_iff.mp hl
    cases ks with
    | nil => exact Snd.ret fun x_ x_ => ⟨rfl, rfl, .nil⟩
    | cons q r =>
      refine El_eeeeaa (keysOf_cons hk) fun x_ x_ x_ x_ x_ x_ z => ?_
      cases z
  | @cons e r f fr a _ ih =>
    intro ks kv hk hl
    cases ks with
    | nil => cases hk; cases hl
    | cons q rs =>
      obtain ⟨x, c1, c2, kv', rfl, q2, rfl⟩ := keysOf_cons hk
      show Snd K w prog X ex XR m cs₀ (evalPairs ((eval (.Constant (.str x) c1 c2) env, eval e env >>= fun x => standAt pos >>= fun x_ => pure x) :: pairTrees rs r env pos)) _ _
      rw [evalPairs]
      have hl' : kv'.length = r.length := by simpa using hl
      intro cs μ s r₀ Q E g S e₀ p
      refine wpAny_bind ?_
      show wpAny _ _ (constValue env (.str x)) _ _ _
      refine wpAny_mkText ?_
      have S' : SR K w prog X m ex cs μ { s with toks := s.toks + 1 } := S
      refine wpAny_bind (wpAny_holding (wpAny_bind ((a.grow g).use (Grow.refl _) S' e₀ p fun m₁ cs₁ v vv μ₁ s₁ g₁ S₁ hv e₁ p₁ => ?_)))
      obtain ⟨rfl, hv⟩ := hv
      refine wpAny_bind (wpAny_standAt (wpAny_pure (wpAny_bind (wpAny_holding (((ih q2 hl').grow (g.trans g₁)).use (Grow.refl _) S₁ e₁ p₁ fun m₂ cs₂ vs ps μ₂ s₂ g₂ S₂ hp e₂ p₂ => ?_)))))
      obtain ⟨rfl, hlen, hp⟩ := hp
      cases e₂
      exact wpAny_pure (p₂ _ _ _ _ (Grow.refl _) S₂ ⟨rfl, by simp [hlen], .cons ⟨⟨x, _, rfl, rfl⟩, hv.grow g₂⟩ hp⟩)
end
section
variable {K : Frag} {w : World} {prog : Program} {X : Fx} {m : NsMap} {ex : List (Addr × Obj)} {XR XR' : XRel} {cs cs₀ : List CO} {μ : Mem} {s : Shared} {mg mb : NsMap} {n : Nat} {env : Env} {h h' : Heap}
set_option tactic.hygienic true in
theorem noExc_some {α : Type} {f : Mx α} {r : Out α × Mem} (e : noExc f μ = some r) : ∃ a μ', f μ = some (.ok a, μ') ∧ r = (.ok a, μ') := by
  unfold noExc at e
  split at e
  · rename_i q; cases e; exact ⟨_, _, q, rfl⟩
  · cases e
theorem strPairs_of {as : List Addr} {l : List (V × V)} {ps : List (Value × Value)} (x : All2 (fun p q => (∃ x t, p.1 = .str x ∧ q.1 = .str x t) ∧ VR K as p.2 q.2) l ps) : allStrKeys ps = true ∧ All2 (fun p q => p.1 = .str q.1 ∧ VR K as p.2 q.2) l (strPairs ps) := by
  induction x with
  | nil => exact ⟨rfl, .nil⟩
  | @cons a b l r h _ ih =>
    obtain ⟨⟨x, t, h1, h2⟩, h3⟩ := h
    obtain ⟨b1, b2⟩ := b
    dsimp only at h2
    subst h2
    exact ⟨ih.1, .cons ⟨h1, h3⟩ ih.2⟩
theorem keys_nodup {l : List (V × V)} {kvs : List (Str × Value)} {P : V → Value → Prop} (x : All2 (fun p q => p.1 = .str q.1 ∧ P p.2 q.2) l kvs) (h : (l.map (·.1)).Nodup) : (kvs.map (·.1)).Nodup := by
  have e : l.map (·.1) = (kvs.map (·.1)).map V.str := by
    clear h
    induction x with
    | nil => rfl
    | cons a _ ih => simp [a.1, ih]
  rw [e] at h
  exact (List.pairwise_map.mp h).imp fun hne z => hne (by rw [z])
theorem keysOf_len : ∀ {ks : List (Option Expr)} {kv : List V}, keysOf ks = some kv → ks.length = kv.length ∧ ks.all (·.isSome) = true
  | [], _, h => by cases h; exact ⟨rfl, rfl⟩
  | q :: r, kv, h => by
    refine El_eeeeaa (keysOf_cons h) fun x a b kv' r_4 h2 r_6 => ?_; (first | subst r_4 | cases r_4); (first | subst r_6 | cases r_6)
    obtain ⟨e1, e2⟩ := keysOf_len h2
    exact ⟨by simp [e1], by simpa using e2⟩
theorem keysOf_str : ∀ {ks : List (Option Expr)} {kv : List V}, keysOf ks = some kv → ∀ v ∈ kv, ∃ x, v = .str x
  | [], _, h => by cases h; exact fun v hv => nomatch hv
  | q :: r, kv, h => by
    obtain ⟨x, a, b, kv', rfl, h2, rfl⟩ := keysOf_cons h
    intro v hv
    rcases List.mem_cons.mp hv with rfl | hv
    · exact ⟨x, rfl⟩
    · exact keysOf_str h2 v hv
theorem SR.exAdd (S : SR K w prog X m ex cs μ s) (o : Obj) (hf : o.isFreed = false) : SR K w prog X m ((s.heap.objs.size, o) :: ex) cs μ { s with heap := s.heap.push o } :=
  ⟨S.1.exAdd (fun x_ x_ e => Heap.get?_push_of_some _ e) (Nat.le_refl _) (Heap.get?_push_size _ hf), S.2⟩
theorem empty_dict (d : Addr) {as : List Addr} : OR K w prog as (.dict []) ⟨d, { cls := .type "dict", data := .dict #[] }, none⟩ := by
  have h1 : Obj.IsDictOf (strKind prog w) { cls := .type "dict", data := .dict #[] } [] := by
    refine El_ea (Heap.dictOf_iff.mp (Heap.DictOf.new (knd := strKind prog w) ({} : Heap))) fun o ho hd => ?_
    rw [Heap.get?_push_size _ rfl] at ho
    exact (Option.some.inj ho) ▸ hd
  have h2 : Obj.IsDictOf (intKind prog w) { cls := .type "dict", data := .dict #[] } [] := by
    refine El_ea (Heap.dictOf_iff.mp (Heap.DictOf.new (knd := intKind prog w) ({} : Heap))) fun o ho hd => ?_
    rw [Heap.get?_push_size _ rfl] at ho
    exact (Option.some.inj ho) ▸ hd
  exact ⟨rfl, .inl ⟨(fun x_ hp => nomatch hp), [], h1, .nil⟩, fun x_ => ⟨h1, h2⟩⟩
theorem Dict_snd {ks : List (Option Expr)} {vs : List Expr} {pos : Pos} {kv : List V} {f : Mx (List V)} (hk : keysOf ks = some kv) (hn : kv.Nodup) (hl : kv.length = vs.length) (h15 : kv.length ≤ 15)
    (hx : ∀ q, EsOk K w prog X (q :: ex) (XO K w prog X (q :: ex)) m cs₀ env vs f) : Snd K w prog X ex XR m cs₀ (eval (.Dict ks vs pos) env) (bnd (noExc f) fun ws => newM (.dict (kv.zip ws))) (VQ K m) := fun cs μ s r Q E g S e p => by
  rcases bnd_some e with ⟨_, _, _, q, _⟩ | ⟨ws, μ', q, e⟩
  · refine El_eea (noExc_some q) fun x_ x_ x_ z => ?_; cases z
  refine El_eea (noExc_some q) fun x_ x_ q' z => ?_
  cases z
  have hz := newM_sz e
  by_cases h0 : ks = []
  · subst h0
    cases hk
    obtain rfl : vs = [] := (List.length_eq_zero_iff.mp hl.symm)
    have hf := hx (0, default)
    cases hf
    cases q'
    have e' : newM (.dict []) μ = some r := e
    exact newM_snd (cs₀ := cs₀) (o := .dict []) (ob := { cls := .type "dict", data := .dict #[] }) rfl (fun s Q E q => wpAny_Dict_empty q) (fun cs a g x_ => empty_dict a) cs μ s r Q E g S e' p
  · obtain ⟨e1, e2⟩ := keysOf_len hk
    have e3 : ks.length = vs.length := e1.trans hl
    have hpl := pairTrees_length ks vs env pos e2 e3
    refine wpAny_Dict_pairs (knd := strKind prog w) (zip_pairTrees ks vs env pos e2 e3) (fun z => h0 (List.length_eq_zero_iff.mp (by rw [← hpl, z]; rfl))) (by rw [hpl, e1]; exact h15) ?_
    have S' := S.exAdd { cls := .type "dict", data := .dict #[] } rfl
    refine ((hx _).pairs pos hk hl) cs μ _ _ _ _ g S' q' fun s' cs' m' ps g' S'' hR => ?_
    refine El_aa hR fun r_0 hlen hps => ?_; (first | subst r_0 | cases r_0)
    obtain ⟨k1, k2⟩ := strPairs_of hps
    have hmap : (kv.zip ws).map (·.1) = kv := List.map_fst_zip (Nat.le_of_eq hlen.symm)
    have k3 := keys_nodup k2 (by rw [hmap]; exact hn)
    have hd0 := (S''.1.led _ (.head _)).1
    refine ⟨strPairs ps, carries_strPairs prog w ps k1, ?_, fun h' hD hs => ?_⟩
    · refine El_aa (empty_dict (K := K) (w := w) (prog := prog) (as := []) s.heap.objs.size) fun x_ hh x_ => ?_
      rcases hh with ⟨_, kvs, hd, hp⟩ | ⟨_, kvs, hd, hp⟩
      · cases hp; exact Heap.dictOf_iff.mpr ⟨_, hd0, hd⟩
      · exact Heap.dictOf_iff.mpr ⟨_, hd0, ((empty_dict (K := K) (w := w) (prog := prog) (as := []) s.heap.objs.size).2.2 rfl).1⟩
    · rw [merged_nil_of_nodup _ k3] at hD
      refine El_ea (Heap.dictOf_iff.mp hD) fun o' ho' hd' => ?_
      have S3 : SRh K w prog X m' ((s.heap.objs.size, o') :: ex) cs' μ' h' :=
        SRh.exChange (pre := [(s.heap.objs.size, _)]) (pre' := [(s.heap.objs.size, o')]) S''.1 (fun b o hb e => (hs.2 b (by simpa using hb)).trans e) (fun q hq => by rw [List.mem_singleton.mp hq]; exact ho') rfl
      have kvs0 : kv ≠ [] := fun z => h0 (List.length_eq_zero_iff.mp (by rw [e1, z]; rfl))
      have S4 := S3.exGive (mo := .dict (kv.zip ws)) hz ⟨rfl, .inl ⟨fun p hp => keysOf_str hk _ (hmap ▸ List.mem_map_of_mem hp), _, hd', k2.mono fun x_ x_ z => ⟨z.1, z.2.grow (adr_push _ _)⟩⟩, fun z => absurd (by rw [z] at hmap; exact hmap.symm) kvs0⟩
      unfold newM at e
      rw [if_pos hz] at e
      cases e
      have hlen' : μ'.length = cs'.length := S''.1.O.length
      refine p _ _ m' _ (g'.trans (adr_push _ _)) ⟨S4, S''.2⟩ ⟨rfl, ?_⟩
      rw [hlen']
      exact .ref (adr_last _ _)
end
/-! ## Comprehensions -/
section
variable {K : Frag} {w : World} {prog : Program} {X : Fx} {m : NsMap} {ex : List (Addr × Obj)} {XR XR' : XRel} {cs cs₀ : List CO} {μ : Mem} {s : Shared} {mg mb : NsMap} {n : Nat} {env : Env} {h h' : Heap}
/-- what lies beside is forgotten, and may change -/
theorem SRh.exForget {pre : List (Addr × Obj)} (S : SRh K w prog X m (pre ++ ex) cs μ h) (kb : ∀ b o, b ∉ pre.map (·.1) → h.get? b = some o → h'.get? b = some o) : SRh K w prog X m ex cs μ h' := by
  have hd := S.dist
  have off : ∀ a, a ∈ X.L :: X.low.map (·.1) → a ∉ pre.map (·.1) := fun a ha hm => by
    rw [List.nodup_append] at hd
    exact hd.2.2 a ha a (by rw [List.append_assoc, List.map_append]; exact List.mem_append_left _ hm) rfl
  have off2 : ∀ q ∈ ex ++ nw cs, q.1 ∉ pre.map (·.1) := fun q hq hm => by
    rw [List.append_assoc, List.map_append] at hd
    have h2 := (List.nodup_append.mp hd).2.1
    exact (List.nodup_append.mp h2).2.2 q.1 hm q.1 (List.mem_map_of_mem hq) rfl
  have nsk : ∀ {L : Addr} {m' : NsMap}, h.Ns L m' → L ∉ pre.map (·.1) → h'.Ns L m' := fun ⟨o, es, ep, ho, rr⟩ hl => ⟨o, es, ep, kb _ _ hl ho, rr⟩
  refine ⟨fun b o e => kb _ _ (fun hm => ?_) (S.stays b o e), nsk S.ns (off _ (.head _)), S.above, fun p hp' => ⟨nsk (S.low p hp').1 (off _ (.tail _ (List.mem_map_of_mem hp'))), (S.low p hp').2⟩, fun q hq => ?_, S.sz, S.fro, S.szs, S.exDrop.dist, S.O⟩
  · obtain ⟨q, hq, rfl⟩ := List.mem_map.mp hm
    have := (S.led q (by rw [List.append_assoc]; exact List.mem_append_left _ hq)).2.1
    rw [this] at e; cases e
  · have := S.led q (by rw [List.append_assoc]; exact List.mem_append_right _ hq)
    exact ⟨kb _ _ (off2 q hq) this.1, this.2⟩

noncomputable def clOf (env : Env) : List (Str × NameKind) → List (Str × Addr) → List (Str × Addr)
  | [], cs => cs
  | (n, k) :: r, cs => clOf env r (if k == .free then (n, (env.cells.lookup n).getD 0) :: cs else cs)
theorem closure_is {sc : Scope} (h : ∀ q ∈ sc.names, q.2 = .free → (env.cells.lookup q.1).isSome = true) : closureFor sc env = pure (clOf env sc.names []) := by
  unfold closureFor
  revert h
  generalize sc.names = l
  generalize ([] : List (Str × Addr)) = cs
  intro h
  induction l generalizing cs with
  | nil => rfl
  | cons q r ih =>
    obtain ⟨n, k⟩ := q
    have ih' := fun cs => ih cs fun q hq => h q (.tail _ hq)
    simp only [bind_pure] at ih' ⊢
    rw [List.forIn_cons]
    show _ = pure (clOf env r _)
    rw [← ih' _]
    by_cases hk : k = .free
    · subst hk
      have := h (n, .free) (.head _) rfl
      cases hl : env.cells.lookup n with
      | none => rw [hl] at this; cases this
      | some c => simp [cellOf, hl]
    · have hb : (k == NameKind.free) = false := by simpa using hk
      simp [hb]
set_option tactic.hygienic true in
theorem clOf_lookup {y : Str} : ∀ {l : List (Str × NameKind)} {cs : List (Str × Addr)}, (∀ q ∈ l, q.2 = .free → (env.cells.lookup q.1).isSome = true) → (∀ p ∈ cs, env.cells.lookup p.1 = some p.2) → ((y, NameKind.free) ∈ l ∨ y ∈ cs.map (·.1)) → (clOf env l cs).lookup y = env.cells.lookup y
  | [], cs, _, h2, h3 => by
    rcases h3 with z | z
    · cases z
    · show cs.lookup y = _
      induction cs with
      | nil => cases z
      | cons p r ih =>
        obtain ⟨a, b⟩ := p
        rw [List.lookup_cons]
        by_cases hy : y = a
        · subst hy; simp only [beq_self_eq_true]; exact (h2 (y, b) (.head _)).symm
        · rw [beq_eq_false_iff_ne.mpr hy]
          simp only [List.map_cons, List.mem_cons] at z
          exact ih (fun p hp => h2 p (.tail _ hp)) (z.resolve_left hy)
  | (n, k) :: r, cs, h1, h2, h3 => by
    rw [clOf]
    refine clOf_lookup (fun q hq => h1 q (.tail _ hq)) (fun p hp => ?_) ?_
    · split at hp
      · rename_i hk
        rcases List.mem_cons.mp hp with rfl | hp
        · have := h1 (n, k) (.head _) (by simpa using hk)
          dsimp only at this ⊢
          cases hl : env.cells.lookup n with
          | none => rw [hl] at this; cases this
          | some c => rfl
        · exact h2 p hp
      · exact h2 p hp
    · rcases h3 with z | z
      · rcases List.mem_cons.mp z with z | z
        · cases z; exact .inr (by simp)
        · exact .inl z
      · refine .inr ?_
        split
        · exact List.mem_cons_of_mem _ z
        · exact z
theorem relabel_lookup {sc : Scope} {y : Str} {q : NameKind} (h : sc.names.lookup y = some q) : (relabel sc env).names.lookup y = some (if (q == .free && env.scope.kind == .function && env.kindOf y == some .cell) then .cell else q) := by
  unfold relabel
  dsimp only
  revert h
  generalize sc.names = l
  intro h
  induction l with
  | nil => cases h
  | cons p r ih =>
    obtain ⟨a, b⟩ := p
    rw [List.lookup_cons] at h
    by_cases hy : y = a
    · subst hy
      simp only [beq_self_eq_true] at h
      cases h
      rw [List.map_cons]
      dsimp only
      split <;> simp [List.lookup_cons]
    · rw [beq_eq_false_iff_ne.mpr hy] at h
      rw [List.map_cons]
      dsimp only
      split <;> (rw [List.lookup_cons, beq_eq_false_iff_ne.mpr hy]; exact ih h)
structure CompK (k : Kinds) (ρ : Loc) (sc : Scope) (x : Str) : Prop where
  ok : namesOk sc.names = true
  own : sc.names.lookup x = some .local
  kind : sc.kind = .function
  nocell : ∀ q ∈ sc.names, q.2 ≠ .cell
  loc : ∀ q ∈ sc.names, q.2 = .local → sc.names.lookup q.1 = some .local
  free : ∀ q ∈ sc.names, q.2 = .free → k.lookup q.1 = some .cell ∧ (ρ.lookup q.1).isSome = true
theorem compK {k : Kinds} {ρ : Loc} {sc : Scope} {x : Str} (h : compOk k ρ sc x = true) : CompK k ρ sc x := by
  unfold compOk at h
  simp only [Bool.and_eq_true, beq_iff_eq, List.all_eq_true, Bool.or_eq_true, bne_iff_ne, ne_eq] at h
  obtain ⟨⟨⟨h1, h2⟩, h3⟩, h4⟩ := h
  refine ⟨h1, h2, h3, fun q hq => (h4 q hq).1.1, fun q hq e => ?_, fun q hq e => ?_⟩
  · exact (h4 q hq).1.2.resolve_left fun z => z e
  · exact (h4 q hq).2.resolve_left fun z => z e
theorem cell_of {k : Kinds} {ρ : Loc} (eo : EnvOk env k) (l : LR K X ex env m (adr cs) ρ) {y : Str} {v : V} (hk : k.lookup y = some .cell) (hv : ρ.lookup y = some v) : ∃ val c o, VR K (adr cs) v val ∧ env.kindOf y = some .cell ∧ env.cells.lookup y = some c ∧ (c, o) ∈ ex ∧ o.data = .cell (some val) := by
  refine El_ea (l y v hv) fun val h1 h2 => ?_
  have hc := eo.names y .cell hk (by decide)
  cases h2 with
  | loc _ h3 _ => rw [hc] at h3; cases h3
  | own h3 _ _ _ => rw [hc] at h3; cases h3
  | cell h3 h4 h5 h6 => exact ⟨val, _, _, h1, hc, h4, h5, h6⟩
end
section
variable {K : Frag} {w : World} {prog : Program} {X : Fx} {m : NsMap} {ex : List (Addr × Obj)} {XR XR' : XRel} {cs cs₀ : List CO} {μ : Mem} {s : Shared} {mg mb : NsMap} {n : Nat} {env : Env} {h h' : Heap}
set_option tactic.hygienic true in
theorem lookup_filter {f : Str × V → Bool} {y : Str} {v : V} : ∀ {l : Loc}, (∀ a b c, a = b → f (a, c) = f (b, c)) → (l.filter f).lookup y = some v → (∀ c d, f (y, c) = f (y, d)) → l.lookup y = some v ∧ f (y, v) = true
  | [], _, e, _ => by cases e
  | (a, b) :: r, hf, e, hc => by
    rw [List.filter_cons] at e
    split at e
    · rename_i hab
      rw [List.lookup_cons] at e ⊢
      by_cases hy : y = a
      · subst hy; simp only [beq_self_eq_true] at e ⊢; cases e; exact ⟨rfl, hab⟩
      · rw [beq_eq_false_iff_ne.mpr hy] at e ⊢
        exact lookup_filter hf e hc
    · rename_i hab
      obtain ⟨h1, h2⟩ := lookup_filter hf e hc
      rw [List.lookup_cons]
      by_cases hy : y = a
      · subst hy; rw [hc b v] at hab; exact absurd h2 hab
      · rw [beq_eq_false_iff_ne.mpr hy]; exact ⟨h1, h2⟩
theorem SRh.exPerm {ex' : List (Addr × Obj)} (S : SRh K w prog X m ex cs μ h) (p : ex.Perm ex') : SRh K w prog X m ex' cs μ h := by
  refine ⟨S.stays, S.ns, S.above, S.low, fun q hq => S.led q ?_, S.sz, S.fro, S.szs, ?_, S.O⟩
  · exact (p.append_right _).mem_iff.mpr hq
  · exact (List.Perm.nodup_iff (List.Perm.append_left _ ((p.append_right _).map _))).mp S.dist
noncomputable def itObj (ax : Addr) (i : Nat) (o : Obj) : Prop := ∀ h : Heap, ∀ a, h.get? a = some o → h.IsListIter a ax i
theorem itObj_of {h : Heap} {a ax : Addr} {i : Nat} (x : h.IsListIter a ax i) : ∃ o, h.get? a = some o ∧ itObj ax i o := by
  refine El_ea x fun o ho r => ?_
  exact ⟨o, ho, fun h' a' e => ⟨o, e, r⟩⟩
set_option tactic.hygienic true in
theorem sameM_some {a : Nat} {xs : List V} {r : Out Unit × Mem} (e : sameM a xs μ = some r) : r = (.ok (), μ) ∧ μ[a]? = some (.list xs) := by
  unfold sameM at e
  refine El_ea (getM_ref e) fun o hm e => ?_
  cases o with
  | list ys =>
    dsimp only at e
    split at e
    · rename_i hy; cases e; exact ⟨rfl, hy ▸ hm⟩
    · cases e
  | _ => cases e
theorem comp_nil {a : Nat} {all : List V} {F : V → Mx V} {r : Out (List V) × Mem} (e : compM a all F [] μ = some r) : r = (.ok [], μ) ∧ μ[a]? = some (.list all) := by
  unfold compM at e
  rcases bnd_some e with ⟨_, _, _, q, _⟩ | ⟨_, μ', q, e⟩
  · obtain ⟨z, _⟩ := sameM_some q; cases z
  · obtain ⟨z, hm⟩ := sameM_some q; cases z; cases e; exact ⟨rfl, hm⟩
theorem comp_cons {a : Nat} {all : List V} {fe : V → Mx V} {v : V} {vs : List V} {r : Out (List V) × Mem} (e : compM a all (fun w => noExc (fe w)) (v :: vs) μ = some r) :
    μ[a]? = some (.list all) ∧ ∃ u μ₁, fe v μ = some (.ok u, μ₁) ∧ ((∃ s d μ₂, compM a all (fun w => noExc (fe w)) vs μ₁ = some (.exc s d, μ₂) ∧ r = (.exc s d, μ₂)) ∨ ∃ us μ₂, compM a all (fun w => noExc (fe w)) vs μ₁ = some (.ok us, μ₂) ∧ r = (.ok (u :: us), μ₂)) := by
  unfold compM at e
  rcases bnd_some e with ⟨_, _, _, q, _⟩ | ⟨_, μ', q, e⟩
  · obtain ⟨z, _⟩ := sameM_some q; cases z
  obtain ⟨z, hm⟩ := sameM_some q
  cases z
  rcases bnd_some e with ⟨_, _, _, q, _⟩ | ⟨u, μ', q, e⟩
  · refine El_eea (noExc_some q) fun x_ x_ x_ z => ?_; cases z
  refine El_eea (noExc_some q) fun x_ x_ q' z => ?_
  cases z
  refine ⟨hm, u, μ', q', ?_⟩
  rcases bnd_some e with ⟨s, d, μ₂, q2, rfl⟩ | ⟨us, μ₂, q2, e⟩
  · exact .inl ⟨s, d, μ₂, q2, rfl⟩
  · cases e; exact .inr ⟨us, _, q2, rfl⟩
theorem comp_ok {a : Nat} {all : List V} {fe : V → Mx V} : ∀ {vs : List V} {μ : Mem} {r : Out (List V) × Mem}, compM a all (fun w => noExc (fe w)) vs μ = some r → ∃ us μ', r = (.ok us, μ')
  | [], μ, r, e => ⟨_, _, (comp_nil e).1⟩
  | v :: vs, μ, r, e => by
    refine El_aeea (comp_cons e) fun x_ u μ₁ x_ z => ?_
    rcases z with ⟨_, _, _, q, _⟩ | ⟨us, μ₂, _, rfl⟩
    · refine El_ee (comp_ok q) fun x_ x_ z => ?_; cases z
    · exact ⟨_, _, rfl⟩
theorem comp_env {k : Kinds} {ρ : Loc} {sc : Scope} {x : Str} (eo : EnvOk env k) (c : CompK k ρ sc x) (cenv : Env) (hsc : cenv.scope = relabel sc env) (hg : cenv.globals = env.globals) (hb : cenv.builtins = env.builtins) : EnvOk cenv sc.names :=
  ⟨fun y q hy hq => by
    unfold Env.kindOf
    rw [hsc, relabel_lookup hy]
    rw [if_neg (by simp [hq])], by rw [hsc]; exact c.kind, hg.trans eo.globals, hb.trans eo.builtins, c.ok⟩
theorem comp_lr {k : Kinds} {ρ : Loc} {sc : Scope} {x : Str} {v : V} {val : Value} {oC : Obj} {mC : NsMap} {exC : List (Addr × Obj)} (eo : EnvOk env k) (c : CompK k ρ sc x) (l : LR K X ex env m (adr cs) ρ) (cenv : Env) (hsc : cenv.scope = relabel sc env) (hcl : cenv.cells = clOf env sc.names [])
    (hex : ∀ q ∈ ex, q ∈ exC) (hC : (cenv.locals, oC) ∈ exC) (hn : NsObj oC mC) (hx : mC x = some val) (hv : VR K (adr cs) v val) : LR K X exC cenv m (adr cs) ((x, v) :: ρ.filter fun q => sc.names.lookup q.1 == some .free) := fun y u e => by
  have hcells : ∀ q ∈ sc.names, q.2 = .free → (env.cells.lookup q.1).isSome = true := fun q hq hf => by
    obtain ⟨h1, h2⟩ := c.free q hq hf
    cases hr : ρ.lookup q.1 with
    | none => rw [hr] at h2; cases h2
    | some v' => refine El_eeeaaa (cell_of eo l h1 hr) fun x_ x_ x_ x_ x_ h3 x_ => ?_; rw [h3]; rfl
  rw [List.lookup_cons] at e
  by_cases hy : y = x
  · subst hy
    simp only [beq_self_eq_true] at e
    cases e
    refine ⟨val, hv, .own ?_ hC hn hx⟩
    unfold Env.kindOf
    rw [hsc, relabel_lookup c.own]
    rfl
  · rw [beq_eq_false_iff_ne.mpr hy] at e
    obtain ⟨h1, h2⟩ := lookup_filter (fun a b c h => by rw [h]) e (fun x_ x_ => rfl)
    have hf : sc.names.lookup y = some .free := by simpa using h2
    obtain ⟨h3, _⟩ := c.free (y, .free) (lookup_mem hf) rfl
    refine El_eeeaaaa (cell_of eo l h3 h1) fun val' cc o h4 h5 h6 h7 h8 => ?_
    refine ⟨val', h4, .cell (.inl ?_) (c := cc) ?_ (hex _ h7) h8⟩
    · unfold Env.kindOf
      rw [hsc, relabel_lookup hf, eo.kind, h5]
      rfl
    · rw [hcl, clOf_lookup (cs := []) hcells (fun x_ hp => (nomatch hp)) (.inl (lookup_mem hf))]; exact h6

noncomputable def CompInv (K : Frag) (w : World) (prog : Program) (X : Fx) (m : NsMap) (ex : List (Addr × Obj)) (cs₁ : List CO) (a : Nat) (ax I D C : Addr) (xs total : List V) (fe : V → Mx V) (μ₂ : Mem) (n : Nat) (s : Shared) : Prop :=
  ∃ i cs μ oI nD vsD oC mC done ws, n = (xs.drop i).length ∧ Grow (adr cs₁) (adr cs) ∧ SR K w prog X m ((I, oI) :: (D, listObj vsD nD) :: (C, oC) :: ex) cs μ s ∧ itObj ax i oI ∧ NsObj oC mC ∧ All2 (VR K (adr cs)) done vsD ∧ done.length = i ∧
    compM a xs (fun w => noExc (fe w)) (xs.drop i) μ = some (.ok ws, μ₂) ∧ total = done ++ ws
theorem comp_loop {elt iter : Expr} {x : Str} {px pos : Pos} {sc : Scope} {cenv : Env} {a : Nat} {ax I D : Addr} {xs total : List V} {fe : V → Mx V} {μ₂ : Mem} {R : Result → Shared → Prop} {cs₁ : List CO} (T : FxOk K mg mb n X) (hx : cenv.kindOf x = some .local) (hk : cenv.scope.kind = .function) (hxl : xs.length ≤ big) (hax : (adr cs₁)[a]? = some ax)
    (helt : ∀ exC cs v val oC mC, (∀ q ∈ ex, q ∈ exC) → (cenv.locals, oC) ∈ exC → NsObj oC mC → mC x = some val → VR K (adr cs) v val → Grow (adr cs₁) (adr cs) → Snd K w prog X exC (XO K w prog X exC) m cs (eval elt cenv) (fe v) (VQ K m))
    (fin : ∀ cs s oC mC vs n, Grow (adr cs₁) (adr cs) → SR K w prog X m ((D, listObj vs n) :: (cenv.locals, oC) :: ex) cs μ₂ s → NsObj oC mC → All2 (VR K (adr cs)) total vs → R (.ok .next) s)
    (k : Nat) (hI : CompInv K w prog X m ex cs₁ a ax I D cenv.locals xs total fe μ₂ k s) : codeAny (model prog w) X.A (.compLoop (.ListComp elt [⟨.Name x px, iter, [], 0⟩] sc pos) 0 (.ref I) (.ref D) cenv) R s := by
  refine codeAny_compLoop_list (CompInv K w prog X m ex cs₁ a ax I D cenv.locals xs total fe μ₂) ?_ k hI
  rintro k s ⟨i, cs, μ, oI, nD, vsD, oC, mC, done, ws, rfl, g, S, hit, nC, hd, hi, e, ht⟩
  have hI0 := (S.1.led _ (.head _)).1
  cases hr : xs.drop i with
  | nil =>
    rw [hr] at e
    obtain ⟨z, hm⟩ := comp_nil e
    cases z
    refine El_eeaa (isList_at S (g.at hax) hm) fun vs nn ho hl hrl => ?_
    have hnone : vs.toArray[i]? = none := by
      simp only [List.getElem?_toArray]
      rw [List.getElem?_eq_none_iff, ← hrl.length]
      exact List.drop_eq_nil_iff.mp hr
    refine wpAny_pyNext_list_end T.hnd (hit _ _ hI0) hl hnone fun h' hb => ?_
    have S' : SRh K w prog X m ((D, listObj vsD nD) :: (cenv.locals, oC) :: ex) cs _ h' := SRh.exForget (pre := [(I, oI)]) S.1 fun b o hbn eo => hb b o (by simpa using hbn) eo
    exact fin cs _ oC mC vsD nD g ⟨S', S.2⟩ nC (by rw [ht, List.append_nil]; exact hd)
  | cons v rest =>
    rw [hr] at e
    refine El_aeea (comp_cons e) fun hm u μ₁ e1 z => ?_
    obtain ⟨us, μ₂', e2, z⟩ : ∃ us μ₂', compM a xs (fun w => noExc (fe w)) rest μ₁ = some (.ok us, μ₂') ∧ (Out.ok ws, μ₂) = (Out.ok (u :: us), μ₂') := by
      rcases z with ⟨_, _, _, _, z⟩ | z
      · cases z
      · exact z
    cases z
    have hv : xs[i]? = some v := by
      have := congrArg (fun l => l[0]?) hr
      simpa using this
    have hrest : xs.drop (i + 1) = rest := by rw [← List.drop_drop, hr]; rfl
    have hilt : i < xs.length := (List.getElem?_eq_some_iff.mp hv).1
    refine El_eeaa (isList_at S (g.at hax) hm) fun vs nn ho hl hrl => ?_
    refine El_ea (hrl.get hv) fun val hval hvv => ?_
    refine wpAny_pyNext_list_item (hit _ _ hI0) hl (by simpa using hval) fun h₁ hit₁ hs₁ => ?_
    refine El_ea (itObj_of hit₁) fun oI' hoI' nI' => ?_
    have S₁ : SRh K w prog X m ((I, oI') :: (D, listObj vsD nD) :: (cenv.locals, oC) :: ex) cs μ h₁ := SRh.exChange (pre := [(I, oI)]) (pre' := [(I, oI')]) S.1 (fun b o hbn eo => (hs₁.2 b (by simpa using hbn)).trans eo) (fun q hq => by rw [List.mem_singleton.mp hq]; exact hoI') rfl
    have hC₁ := (S₁.led (cenv.locals, oC) (.tail _ (.tail _ (.head _)))).1
    have hdist := (List.nodup_append.mp S₁.dist).2.1
    simp only [List.cons_append, List.map_cons, List.nodup_cons, List.mem_cons, not_or] at hdist
    refine wpAny_assign_Name (wpAny_storeName_local hx (nC _ _ hC₁) (fun h₂ hn₂ hs₂ => ?_) (by rw [hk]; rfl))
    refine El_ea (nsObj_of hn₂) fun oC' hoC' nC' => ?_
    have S₂ : SRh K w prog X m ((I, oI') :: (D, listObj vsD nD) :: (cenv.locals, oC') :: ex) cs μ h₂ := by
      refine SRh.exChange (pre := [(I, oI'), (D, listObj vsD nD), (cenv.locals, oC)]) (pre' := [(I, oI'), (D, listObj vsD nD), (cenv.locals, oC')]) S₁ (fun b o hbn eo => (hs₂.2 b (fun z => hbn (by simp [z]))).trans eo) (fun q hq => ?_) rfl
      simp only [List.mem_cons, List.not_mem_nil, or_false] at hq
      rcases hq with rfl | rfl | rfl
      · exact (hs₂.2 _ hdist.1.2.1).trans hoI'
      · exact (hs₂.2 _ hdist.2.1.1).trans (S₁.led (D, listObj vsD nD) (.tail _ (.head _))).1
      · exact hoC'
    refine helt ((I, oI') :: (D, listObj vsD nD) :: (cenv.locals, oC') :: ex) cs v val oC' _ (fun q hq => .tail _ (.tail _ (.tail _ hq))) (.tail _ (.tail _ (.head _))) nC' (by simp) hvv g cs μ _ _ _ _ (Grow.refl _) ⟨S₂, S.2⟩ e1 fun s₃ cs₃ m₃ uv g₃ S₃ hu => ?_
    obtain ⟨rfl, hu⟩ := hu
    have hD₃ := (S₃.1.led (D, listObj vsD nD) (.tail _ (.head _))).1
    refine wpAny_list_append_plain ⟨nD, hD₃⟩ (fun h₄ hp₄ hs₄ => ?_) ?_
    · obtain ⟨n₄, ho₄⟩ := hp₄
      have ho₄' : h₄.get? D = some (listObj (vsD ++ [uv]) n₄) := by rw [ho₄]; simp
      have S₄ : SRh K w prog X m₃ ((I, oI') :: (D, listObj (vsD ++ [uv]) n₄) :: (cenv.locals, oC') :: ex) cs₃ μ₁ h₄ := by
        refine SRh.exChange (pre := [(I, oI'), (D, listObj vsD nD)]) (pre' := [(I, oI'), (D, listObj (vsD ++ [uv]) n₄)]) S₃.1 (fun b o hbn eo => (hs₄.2 b (fun z => hbn (by simp [z]))).trans eo) (fun q hq => ?_) rfl
        simp only [List.mem_cons, List.not_mem_nil, or_false] at hq
        rcases hq with rfl | rfl
        · exact (hs₄.2 _ hdist.1.1).trans (S₃.1.led (I, oI') (.head _)).1
        · exact ho₄'
      refine ⟨_, ?_, i + 1, cs₃, μ₁, oI', n₄, vsD ++ [uv], oC', _, done ++ [u], us, rfl, g.trans g₃, ⟨S₄, S₃.2⟩, nI', nC', (hd.mono fun x_ x_ z => z.grow g₃).append (.cons hu .nil), by simp [hi], hrest ▸ e2, by rw [ht]; simp⟩
      rw [hrest]; simp
    · simp only [List.size_toArray]
      rw [← hd.length, hi]
      exact Nat.le_trans (Nat.le_of_lt hilt) (Nat.le_trans hxl big_line)
theorem comp_core {elt iter : Expr} {x : Str} {px pos cpos : Pos} {sc : Scope} {k : Kinds} {ρ : Loc} {f : Mx V} {fe : V → Mx V} {use : Option (Value → Sem Unit)} {Q : Value → Shared → Prop} {E : Value → Shared → Prop}
    (T : FxOk K mg mb n X) (eo : EnvOk env k) (l : LR K X ex env m (adr cs₀) ρ) (hok : compOk k ρ sc x = true) (hs : ∀ x, foldedSetIterable iter env x = pure x) (hi : Snd K w prog X ex XR m cs₀ (eval iter env) f (VQ K m))
    (helt : ∀ ex' env' cs v, EnvOk env' sc.names → LR K X ex' env' m (adr cs) ((x, v) :: ρ.filter fun q => sc.names.lookup q.1 == some .free) → Snd K w prog X ex' (XO K w prog X ex') m cs (eval elt env') (fe v) (VQ K m)) :
    ∀ cs μ s r, Grow (adr cs₀) (adr cs) → SR K w prog X m ex cs μ s → (bnd f fun v => bnd (listOfM v) fun p => bnd (compM p.1 p.2 (fun w => noExc (fe w)) p.2) fun ws => newM (.list ws)) μ = some r →
    (∀ sy d μ', r = (.exc sy d, μ') → ∀ s' cs' m' e, Grow (adr cs) (adr cs') → XR m' cs' μ' sy d e s' → E (.ref e) s') →
    (∀ v μ', r = (.ok v, μ') → ∀ cs' s' C oC mC D, Grow (adr cs) (adr cs') → SR K w prog X m ((C, oC) :: ex) cs' μ' s' → NsObj oC mC → VR K (adr cs') v (.ref D) → compPost (model prog w) X.A E use Q (.ref D) C (.ok .next) s') →
    wpAny (model prog w) X.A (comprehension (.ListComp elt [⟨.Name x px, iter, [], 0⟩] sc pos) sc env cpos (newList []) false (eval iter env) use) Q E s := fun cs μ s r g S e pe pf => by
  have c := compK hok
  have hcells : ∀ q ∈ sc.names, q.2 = .free → (env.cells.lookup q.1).isSome = true := fun q hq hf => by
    obtain ⟨h1, h2⟩ := c.free q hq hf
    cases hr : ρ.lookup q.1 with
    | none => rw [hr] at h2; cases h2
    | some v' => refine El_eeeaaa (cell_of eo l h1 hr) fun x_ x_ x_ x_ x_ h3 x_ => ?_; rw [h3]; rfl
  refine wpAny_comprehension_free rfl hs (closure_is hcells) c.kind c.loc ?_
  rcases bnd_some e with ⟨sy, d, μ', q, rfl⟩ | ⟨v, μ₁, q, e⟩
  · exact hi cs μ s _ _ _ g S q fun s' cs' m' e' g' z => pe sy d μ' rfl s' cs' m' e' g' z
  refine hi cs μ s _ _ _ g S q fun s₁ cs₁ m₁ xv g₁ S₁ hv => ?_
  obtain ⟨rfl, hv⟩ := hv
  obtain ⟨a, xs, rfl, hm, e⟩ := listOfM_ref e
  dsimp only at e
  refine El_ea hv.ref_inv fun ax r_1 hax => ?_; (first | subst r_1 | cases r_1)
  refine El_eeaa (isList_at S₁ hax hm) fun vs nn ho hl hr => ?_
  have hxl : xs.length ≤ big := szList S₁ hm
  refine wpAny_pyIter_list hl (wpAny_newList ?_)
  have Sa := S₁.exAdd { cls := .type "list_iterator", data := .fields #[.ref ax, .int 0 0] } rfl
  have Sb := Sa.exAdd (listObj [] 0) rfl
  refine wpAny_newFunctionEnv c.nocell (fun x_ hx => (nomatch hx)) (fun h₃ hns₃ hsb₃ => ?_) c.kind
  refine El_ea (nsObj_of hns₃) fun oC hoC nC => ?_
  have Sc : SRh K w prog X m₁ ((_, oC) :: (_, listObj [] 0) :: (_, { cls := .type "list_iterator", data := .fields #[.ref ax, .int 0 0] }) :: ex) cs₁ μ₁ h₃ :=
    Sb.1.exAdd (fun b o e => (hsb₃.2 b (Nat.ne_of_lt (Heap.lt_size e))).trans (Heap.get?_push_of_some _ e)) (Nat.le_refl _) hoC
  have hI₃ := (Sc.led _ (.tail _ (.tail _ (.head _)))).1
  have hit₃ : itObj ax 0 { cls := .type "list_iterator", data := .fields #[.ref ax, .int 0 0] } := fun h a e => ⟨_, e, rfl, rfl⟩
  refine codeAny_compStart_list ?_ (wpAny_pyIter_listiter (hit₃ _ _ hI₃) ?_) <;> skip
  all_goals
    obtain ⟨ws, μ₂, q3, e4⟩ : ∃ ws μ₂, compM a xs (fun w => noExc (fe w)) xs μ₁ = some (.ok ws, μ₂) ∧ newM (.list ws) μ₂ = some r := by
      rcases bnd_some e with ⟨_, _, _, q3, _⟩ | ⟨ws, μ₂, q3, e⟩
      · refine El_ee (comp_ok q3) fun x_ x_ z => ?_; cases z
      · exact ⟨ws, μ₂, q3, e⟩
    have hz := newM_sz e4
    refine comp_loop (cs₁ := cs₁) (total := ws) (ex := ex) (m := m₁) T ?_ ?_ hxl hax (fun exC cs v val oC mC h1 h2 h3 h4 h5 h6 => ?_) (fun cs' s' oC' mC' vs' n' g' S' n'' ha => ?_) _
      ⟨0, cs₁, μ₁, _, 0, [], oC, _, [], ws, rfl, Grow.refl _, ⟨Sc.exPerm (by exact (List.Perm.swap _ _ _).trans (((List.Perm.swap _ _ _).cons _).trans ((List.Perm.swap _ _ _)))), S₁.2⟩, hit₃, nC, .nil, rfl, by simpa using q3, rfl⟩
    · show (relabel sc env).names.lookup x = _
      rw [relabel_lookup c.own]; rfl
    · exact c.kind
    · exact helt exC _ cs v (comp_env eo c _ rfl rfl rfl) (comp_lr eo c (l.grow (g.trans (g₁.trans h6))) _ rfl rfl h1 h2 h3 h4 h5)
    · have S5 := S'.1.exGive (mo := .list ws) hz ⟨vs', n', rfl, rfl, ha.mono fun x_ x_ z => z.grow (adr_push _ _)⟩
      unfold newM at e4
      rw [if_pos hz] at e4
      cases e4
      have hlen : μ₂.length = cs'.length := S'.1.O.length
      refine pf _ _ rfl _ s' _ oC' mC' _ (g₁.trans (g'.trans (adr_push _ _))) ⟨S5, S'.2⟩ n'' ?_
      rw [hlen]
      exact .ref (adr_last _ _)
end
/-! ## Expressions, all of them -/
section
variable {K : Frag} {w : World} {prog : Program} {X : Fx} {m : NsMap} {ex : List (Addr × Obj)} {XR XR' : XRel} {cs cs₀ : List CO} {μ : Mem} {s : Shared} {mg mb : NsMap} {n : Nat} {env : Env} {h h' : Heap} {k : Kinds} {ρ : Loc} {C : CallT}
theorem notSet_fold {e : Expr} (h : notSet e = true) (x : Value) : foldedSetIterable e env x = pure x := by
  cases e <;> first | rfl | cases h
theorem ListComp_snd {elt iter : Expr} {x : Str} {px pos : Pos} {sc : Scope} {f : Mx V} {fe : V → Mx V} (T : FxOk K mg mb n X) (eo : EnvOk env k) (l : LR K X ex env m (adr cs₀) ρ) (hok : compOk k ρ sc x = true) (hs : notSet iter = true) (hi : Snd K w prog X ex XR m cs₀ (eval iter env) f (VQ K m))
    (helt : ∀ ex' env' cs v, EnvOk env' sc.names → LR K X ex' env' m (adr cs) ((x, v) :: ρ.filter fun q => sc.names.lookup q.1 == some .free) → Snd K w prog X ex' (XO K w prog X ex') m cs (eval elt env') (fe v) (VQ K m)) :
    Snd K w prog X ex XR m cs₀ (eval (.ListComp elt [⟨.Name x px, iter, [], 0⟩] sc pos) env) (bnd f fun v => bnd (listOfM v) fun p => bnd (compM p.1 p.2 (fun w => noExc (fe w)) p.2) fun ws => newM (.list ws)) (VQ K m) := fun cs μ s r Q E g S e p => by
  rw [eval_ListComp]
  refine comp_core (XR := XR) (use := none) T eo l hok (notSet_fold hs) hi helt cs μ s r g S e (fun sy d μ' z => ?_) (fun v μ' z cs' s' C oC mC D g' S' nC hv => ?_)
  · subst z; exact p
  · subst z
    exact ⟨mC, nC _ _ (S'.1.led _ (.head _)).1, fun h' hs => p _ cs' m _ g' ⟨SRh.exForget (pre := [(C, oC)]) S'.1 fun b o hb e => (hs.2 b (by simpa using hb)).trans e, S'.2⟩ ⟨rfl, hv⟩⟩

noncomputable def CallS (K : Frag) (w : World) (prog : Program) (X : Fx) (C : CallT) : Prop := ∀ ex m cs f args vf vargs, VR K (adr cs) f vf → All2 (VR K (adr cs)) args vargs → Snd K w prog X ex (XO K w prog X ex) m cs (call vf vargs []) (callV C f args) (VQ K m)
noncomputable def PE (K : Frag) (w : World) (prog : Program) (X : Fx) (C : CallT) (e : Expr) : Prop := ∀ ex m cs env k ρ, EnvOk env k → LR K X ex env m (adr cs) ρ → Snd K w prog X ex (XO K w prog X ex) m cs (eval e env) (evE C k ρ e) (VQ K m)
noncomputable def PT (K : Frag) (w : World) (prog : Program) (X : Fx) (C : CallT) (e : Expr) : Prop := ∀ ex m cs env k ρ, EnvOk env k → LR K X ex env m (adr cs) ρ → Snd K w prog X ex (XO K w prog X ex) m cs (isTrue e env (eval e env)) (evT C k ρ e (evE C k ρ e)) (BQ m)

theorem evAll_of {op : BoolOp} : ∀ {l : List Expr}, (∀ e ∈ l, PT K w prog X C e) → EnvOk env k → LR K X ex env m (adr cs) ρ → Snd K w prog X ex (XO K w prog X ex) m cs (allTrue op l env) (evAll C k ρ op l) (BQ m)
  | [], _, _, _ => by rw [evAll]; exact allTrue_nil
  | x :: r, h, eo, l => by rw [evAll]; exact allTrue_cons (h x (.head _) _ _ _ _ _ _ eo l) (evAll_of (fun e he => h e (.tail _ he)) eo l)
theorem evBool_of {op : BoolOp} {pos : Pos} : ∀ {l : List Expr}, (∀ e ∈ l, PE K w prog X C e) → EnvOk env k → LR K X ex env m (adr cs) ρ → Snd K w prog X ex (XO K w prog X ex) m cs (boolOp pos op (evalEach l env)) (evBool C k ρ op l) (VQ K m)
  | [], _, _, _ => by rw [evBool]; exact Snd.stuck
  | [x], h, eo, l => by rw [evBool]; exact bool_one (h x (.head _) _ _ _ _ _ _ eo l)
  | x :: y :: r, h, eo, l => by
    rw [evBool]
    · exact bool_cons (h x (.head _) _ _ _ _ _ _ eo l) (evBool_of (l := y :: r) (fun e he => h e (.tail _ he)) eo l)
    · intro z; cases z
theorem evEs_of : ∀ {l : List Expr}, (∀ e ∈ l, PE K w prog X C e) → EnvOk env k → LR K X ex env m (adr cs) ρ → EsOk K w prog X ex (XO K w prog X ex) m cs env l (evEs C k ρ l)
  | [], _, _, _ => by rw [evEs]; exact .nil
  | x :: r, h, eo, l => by rw [evEs]; exact .cons (h x (.head _) _ _ _ _ _ _ eo l) (evEs_of (fun e he => h e (.tail _ he)) eo l)
theorem evO_of {o : Option Expr} (h : ∀ e, o = some e → PE K w prog X C e) (eo : EnvOk env k) (l : LR K X ex env m (adr cs) ρ) : Snd K w prog X ex (XO K w prog X ex) m cs (valueOrNone (evalOpt o env)) (evO C k ρ o) (VQ K m) := by
  cases o with
  | none => rw [evO]; exact Snd.ret fun x_ x_ => ⟨rfl, .none⟩
  | some e => rw [evO]; exact h e rfl _ _ _ _ _ _ eo l
/-- a set display is never told -/
theorem marked_or {op : CmpOp} (r : Expr) : (∀ t, markedBehindIn op r t = t) ∨ ∀ μ, evE C k ρ r μ = none := by
  cases r with
  | Set a b c => right; intro μ; rfl
  | _ => left; exact marked_not (fun x_ x_ x_ z => by cases z)
theorem evCmp_of (T : FxOk K mg mb n X) {pos : Pos} : ∀ {rs : List Expr} {ops : List CmpOp} {cs : List CO} {a : V} {va : Value}, (∀ e ∈ rs, PE K w prog X C e) → EnvOk env k → LR K X ex env m (adr cs) ρ → VR K (adr cs) a va → ops.length = rs.length →
    Snd K w prog X ex (XO K w prog X ex) m cs (testChain pos va ops (markedEach ops rs (evalEach rs env))) (evCmp C k ρ a ops rs) (BQ m)
  | [], ops, _, _, _, _, _, _, _, hl => by
    obtain rfl : ops = [] := List.length_eq_zero_iff.mp hl
    exact Snd.stuck
  | r :: rs, [], _, _, _, _, _, _, _, hl => by cases hl
  | [r], [op], cs, a, va, h, eo, l, ha, _ => by
    rw [evCmp]
    rcases marked_or (C := C) (k := k) (ρ := ρ) (op := op) r with hm | hm
    · show Snd K w prog X ex _ m cs (testChain pos va [op] [markedBehindIn op r (eval r env)]) _ _
      rw [hm]
      exact tcmp_one T ha (h r (.head _) _ _ _ _ _ _ eo l)
    · exact Snd.none fun μ => by unfold bnd; rw [hm]
  | r :: r' :: rs, op :: op' :: ops, cs, a, va, h, eo, l, ha, hl => by
    rw [evCmp]
    · have e : markedEach (op :: op' :: ops) (r :: r' :: rs) (evalEach (r :: r' :: rs) env) = eval r env :: markedEach (op' :: ops) (r' :: rs) (evalEach (r' :: rs) env) := rfl
      rw [e]
      have ht : ∃ t ts, markedEach (op' :: ops) (r' :: rs) (evalEach (r' :: rs) env) = t :: ts := by
        cases ops <;> cases rs <;> exact ⟨_, _, rfl⟩
      refine El_ee ht fun t ts ht => ?_
      rw [ht]
      refine tcmp_cons T ha (h r (.head _) _ _ _ _ _ _ eo l) fun cs' b vb g hb => ?_
      rw [← ht]
      exact evCmp_of T (rs := r' :: rs) (fun e he => h e (.tail _ he)) eo (l.grow g) hb (by simpa using hl)
    · intro z; cases z
  | [r], op :: op' :: ops, _, _, _, _, _, _, _, hl => by simp at hl
  | r :: r' :: rs, [op], _, _, _, _, _, _, _, hl => by simp at hl
end
section
variable {K : Frag} {w : World} {prog : Program} {X : Fx} {m : NsMap} {ex : List (Addr × Obj)} {XR XR' : XRel} {cs cs₀ : List CO} {μ : Mem} {s : Shared} {mg mb : NsMap} {n : Nat} {env : Env} {h h' : Heap} {k : Kinds} {ρ : Loc} {C : CallT}
set_option backward.match.sparseCases false in
noncomputable def plainT : Expr → Bool
  | .UnaryOp .Not _ _ => false
  | .BoolOp _ _ _ => false
  | .IfExp _ _ _ _ => false
  | .Compare _ _ _ _ => false
  | _ => true
noncomputable def TP (C : CallT) (e : Expr) : Prop := (∀ (env : Env) (wh : Sem Value), isTrue e env wh = (wh >>= fun v => standAt e.pos >>= fun x_ => holding [v] (truthy v))) ∧ ∀ (k : Kinds) (ρ : Loc) (wh : Mx V), evT C k ρ e wh = bnd wh boolM
theorem tp_of {e : Expr} (h : plainT e = true) : TP C e := by
  cases e with
  | UnaryOp op x p => cases op with
    | Not => exact no_true h
    | _ => exact ⟨fun _ _ => rfl, fun _ _ _ => rfl⟩
  | BoolOp a b c => exact no_true h
  | IfExp a b c d => exact no_true h
  | Compare a b c d => exact no_true h
  | _ => exact ⟨fun _ _ => rfl, fun _ _ _ => rfl⟩
theorem PT_plain {e : Expr} (hp : plainT e = true) (h : PE K w prog X C e) : PT K w prog X C e := fun ex m cs env k ρ eo l => by
  rw [(tp_of (C := C) hp).1, (tp_of (C := C) hp).2]
  exact tPlain_snd (h _ _ _ _ _ _ eo l)
theorem mem_lt {e : Expr} {l : List Expr} (h : e ∈ l) : sizeOf e < sizeOf l := List.sizeOf_lt_of_mem h
noncomputable def GenN (g : List Comprehension) : Prop := ∀ (C : CallT) (k : Kinds) (ρ : Loc) (elt : Expr) (sc : Scope) (p : Pos) (μ : Mem), evE C k ρ (.ListComp elt g sc p) μ = none
noncomputable def GenY (g : List Comprehension) : Prop := ∃ x px it, g = [⟨.Name x px, it, [], 0⟩]
theorem gen_or (g : List Comprehension) : GenY g ∨ GenN g := by
  cases g with
  | nil => exact .inr fun C k ρ elt sc p μ => rfl
  | cons c r =>
    cases c with
    | mk t it ifs a =>
      cases t with
      | Name x px =>
        cases r with
        | cons b r => cases ifs with
          | cons b r => exact .inr fun C k ρ elt sc p μ => rfl
          | nil => cases a with
            | negSucc a => exact .inr fun C k ρ elt sc p μ => rfl
            | ofNat a => cases a with
              | zero => exact .inr fun C k ρ elt sc p μ => rfl
              | succ a => exact .inr fun C k ρ elt sc p μ => rfl
        | nil => cases ifs with
          | cons b r => exact .inr fun C k ρ elt sc p μ => rfl
          | nil => cases a with
            | negSucc a => exact .inr fun C k ρ elt sc p μ => rfl
            | ofNat a => cases a with
              | zero => exact .inl ⟨x, px, it, rfl⟩
              | succ a => exact .inr fun C k ρ elt sc p μ => rfl
      | _ => exact .inr fun C k ρ elt sc p μ => rfl
theorem LR.side {q : Addr × Obj} (l : LR K X ex env m (adr cs) ρ) : LR K X (q :: ex) env m (adr cs) ρ := fun y u hy =>
  let ⟨val, h1, h2⟩ := l y u hy
  ⟨val, h1, match h2 with
    | .loc a b c => .loc a b c
    | .cell a b c d => .cell a b (.tail _ c) d
    | .own a b c d => .own a (.tail _ b) c d⟩
theorem arm_comp (T : FxOk K mg mb n X) {e : Expr} {g : List Comprehension} {sc : Scope} {p : Pos} (hi : ∀ c r, g = c :: r → PE K w prog X C c.iter) (he : PE K w prog X C e) : PE K w prog X C (.ListComp e g sc p) := fun ex m cs env k ρ eo l => by
  rcases gen_or g with ⟨x, px, it, rfl⟩ | hn
  · refine Snd.ite (c := (compOk k ρ sc x && notSet it) = true) (f := bnd (evE C k ρ it) fun v => bnd (listOfM v) fun p => bnd (compM p.1 p.2 (fun w => noExc (evE C sc.names ((x, w) :: ρ.filter fun q => sc.names.lookup q.1 == some .free) e)) p.2) fun ws => newM (.list ws)) fun hc => ?_
    rw [Bool.and_eq_true] at hc
    exact ListComp_snd T eo l hc.1 hc.2 (hi _ _ rfl _ _ _ _ _ _ eo l) fun ex' env' cs v eo' l' => he _ _ _ _ _ _ eo' l'
  · exact Snd.none fun μ => hn ..
theorem arm_cmp (T : FxOk K mg mb n X) {a : Expr} {ops : List CmpOp} {rs : List Expr} {p : Pos} (ha : PE K w prog X C a) (hr : ∀ e ∈ rs, PE K w prog X C e) : PE K w prog X C (.Compare a ops rs p) := fun ex m cs env k ρ eo l => by
  cases ops with
  | nil => exact Snd.stuck
  | cons op ops => cases ops with
    | cons op' ops => exact Snd.stuck
    | nil => cases rs with
      | nil => exact Snd.stuck
      | cons r rs => cases rs with
        | cons r' rs => exact Snd.stuck
        | nil =>
          have ha := ha ex m cs env k ρ eo l
          rcases marked_or (C := C) (k := k) (ρ := ρ) (op := op) r with hm | hm
          · exact Compare_snd T hm ha (hr r (.head _) _ _ _ _ _ _ eo l)
          · show Snd K w prog X ex _ m cs (eval a env >>= fun av => compareChain p av [op] (markedEach [op] [r] (evalEach [r] env))) (bnd (evE C k ρ a) fun a => bnd (evE C k ρ r) fun b => bnd (cmpM op a b) fun c => ret (V.bool c)) _
            exact ha.bind fun x_ x_ x_ x_ x_ x_ => Snd.none fun μ => by unfold bnd; rw [hm]
noncomputable def IsAttr (f : Expr) : Prop := ∃ o x p, f = .Attribute o x p
noncomputable def NoAttr (f : Expr) : Prop := (∀ o x p, f ≠ .Attribute o x p) ∧ ∀ (C : CallT) (k : Kinds) (ρ : Loc) (as : List Expr) (p : Pos), evE C k ρ (.Call f as [] p) = if noStar as then bnd (evE C k ρ f) fun fv => if mayCall fv then bnd (evEs C k ρ as) fun vs => callV C fv vs else stuck else stuck
theorem attr_or (f : Expr) : IsAttr f ∨ NoAttr f := by
  cases f with
  | Attribute o x p => exact .inl ⟨o, x, p, rfl⟩
  | _ => exact .inr ⟨(fun o x p z => nomatch z), fun C k ρ as p => rfl⟩
theorem arm_call (T : FxOk K mg mb n X) (HC : CallS K w prog X C) {f : Expr} {as : List Expr} {kws : List Keyword} {p : Pos} (hf : PE K w prog X C f) (ho : ∀ o x q, f = .Attribute o x q → PE K w prog X C o) (has : ∀ e ∈ as, PE K w prog X C e) : PE K w prog X C (.Call f as kws p) := fun ex m cs env k ρ eo l => by
  cases kws with
  | cons kw kws => cases f <;> exact Snd.stuck
  | nil =>
    have has := fun pos (hc : noStar as = true) => (evEs_of has eo l).spl hc pos
    have hcall : ∀ cs' g vg vs ws, Grow (adr cs) (adr cs') → VR K (adr cs') g vg → All2 (VR K (adr cs')) vs ws → Snd K w prog X ex (XO K w prog X ex) m cs' (call vg ws []) (callV C g vs) (VQ K m) := fun cs g vg vs ws _ h1 h2 => HC _ _ _ _ _ _ _ h1 h2
    rcases attr_or f with ⟨o, x, ap, rfl⟩ | ⟨hn, e1⟩
    · refine Snd.ite (c := (ap.endLine == p.line && as.length < 30 && plainBase o && noStar as) = true) (f := bnd (evE C k ρ o) fun ov => bnd (selM ov x) fun f => if mayCall f then bnd (evEs C k ρ as) fun vs => callV C f (ov :: vs) else stuck) fun hc => ?_
      simp only [Bool.and_eq_true, beq_iff_eq, decide_eq_true_eq] at hc
      exact Method_snd T hc.1.1.1 hc.1.1.2 hc.1.2 (star_any hc.2 _) (ho _ _ _ rfl _ _ _ _ _ _ eo l) (has _ hc.2) hcall
    · rw [e1]
      exact Snd.ite fun hc => Call_snd T hn (star_any hc _) (hf _ _ _ _ _ _ eo l) (has _ hc) hcall
noncomputable def IsSlice (i : Expr) : Prop := ∃ lo up st q, i = .Slice lo up st q
noncomputable def NoSlice (i : Expr) : Prop := noCut i = true ∧ ∀ (C : CallT) (k : Kinds) (ρ : Loc) (o : Expr) (p : Pos), evE C k ρ (.Subscript o i p) = bnd (evE C k ρ o) fun ov => bnd (evE C k ρ i) fun iv => itemM ov iv
theorem slice_or (i : Expr) : IsSlice i ∨ NoSlice i := by
  cases i with
  | Slice lo up st q => exact .inl ⟨lo, up, st, q, rfl⟩
  | _ => exact .inr ⟨rfl, fun C k ρ o p => rfl⟩
theorem arm_sub {o i : Expr} {p : Pos} (ho : PE K w prog X C o) (hi : PE K w prog X C i) (hs : ∀ lo up st q e, i = .Slice lo up st q → lo = some e ∨ up = some e → PE K w prog X C e) : PE K w prog X C (.Subscript o i p) := fun ex m cs env k ρ eo l => by
  have ho := ho ex m cs env k ρ eo l
  rcases slice_or i with ⟨lo, up, st, q, rfl⟩ | ⟨hn, e1⟩
  · cases st with
    | none => exact Slice_snd ho (evO_of (fun e he => hs _ _ _ _ e rfl (.inl he)) eo l) (evO_of (fun e he => hs _ _ _ _ e rfl (.inr he)) eo l)
    | some st =>
      show Snd K w prog X ex _ m cs (eval o env >>= fun ov => holding [ov] (eval (.Slice lo up (some st) q) env) >>= fun iv => standAt p >>= fun x_ => subscriptTail o (.Slice lo up (some st) q) ov iv) (bnd (evE C k ρ o) fun ov => bnd (evE C k ρ (.Slice lo up (some st) q)) fun iv => itemM ov iv) _
      exact ho.bind fun x_ x_ x_ x_ x_ x_ => Snd.none fun μ => rfl
  · rw [e1]
    exact Subscript_snd hn ho (hi _ _ _ _ _ _ eo l)
theorem arm_tcmp (T : FxOk K mg mb n X) {a : Expr} {ops : List CmpOp} {rs : List Expr} {p : Pos} (ha : PE K w prog X C a) (hr : ∀ e ∈ rs, PE K w prog X C e) : PT K w prog X C (.Compare a ops rs p) := fun ex m cs env k ρ eo l => by
  rw [arm_isTrue_Compare]
  refine Snd.ite (c := ops.length = rs.length) (f := bnd (evE C k ρ a) fun a => evCmp C k ρ a ops rs) fun hc => ?_
  refine (ha ex m cs env k ρ eo l).bind fun m₁ cs₁ av va g h => ?_
  obtain ⟨rfl, ha⟩ := h
  exact evCmp_of T hr eo (l.grow g) ha hc
theorem ev_all (T : FxOk K mg mb n X) (HC : CallS K w prog X C) : ∀ (j : Nat) (e : Expr), sizeOf e < j → PE K w prog X C e ∧ PT K w prog X C e := by
  intro j
  induction j with
  | zero => intro e h; exact absurd h (Nat.not_lt_zero _)
  | succ j ih =>
    intro e hj
    have sub : ∀ e' : Expr, sizeOf e' < sizeOf e → PE K w prog X C e' ∧ PT K w prog X C e' := fun e' h => ih e' (Nat.lt_of_lt_of_le h (Nat.le_of_lt_succ hj))
    have hcall : ∀ {ex m cs₀}, ∀ cs g vg vs ws, Grow (adr cs₀) (adr cs) → VR K (adr cs) g vg → All2 (VR K (adr cs)) vs ws → Snd K w prog X ex (XO K w prog X ex) m cs (call vg ws []) (callV C g vs) (VQ K m) := fun cs g vg vs ws x_ h1 h2 => HC _ _ _ _ _ _ _ h1 h2
    clear ih hj
    have main : PE K w prog X C e := by
      intro ex m cs env k ρ eo l
      cases e with
      | Constant c a b => exact const_snd c a b
      | Name x p => exact name_snd eo T l x p
      | BoolOp op vs p => exact evBool_of (fun e he => (sub e (Nat.lt_trans (mem_lt he) (by simp +arith))).1) eo l
      | BinOp a op b p => exact BinOp_snd ((sub a (by simp +arith)).1 _ _ _ _ _ _ eo l) ((sub b (by simp +arith)).1 _ _ _ _ _ _ eo l)
      | UnaryOp op x p =>
        have hx := (sub x (by simp +arith)).1 ex m cs env k ρ eo l
        cases op with
        | Not => exact Not_snd hx
        | USub => exact USub_snd hx
        | _ => exact Snd.stuck
      | IfExp t b o p =>
        exact IfExp_snd ((sub t (by simp +arith)).2 _ _ _ _ _ _ eo l) ((sub b (by simp +arith)).1 _ _ _ _ _ _ eo l) ((sub o (by simp +arith)).1 _ _ _ _ _ _ eo l)
      | Dict ks vs p =>
        show Snd K w prog X ex _ m cs _ (match keysOf ks with
          | some kv => if kv.Nodup ∧ kv.length = vs.length ∧ kv.length ≤ 15 then bnd (noExc (evEs C k ρ vs)) fun ws => newM (.dict (kv.zip ws)) else stuck
          | none => stuck) _
        cases hk : keysOf ks with
        | none => exact Snd.stuck
        | some kv =>
          refine Snd.ite fun hc => ?_
          exact Dict_snd hk hc.1 hc.2.1 hc.2.2 fun q => evEs_of (fun e he => (sub e (Nat.lt_trans (mem_lt he) (by simp +arith))).1) eo l.side
      | List es p =>
        refine Snd.ite (f := bnd (evEs C k ρ es) fun vs => newM (.list vs)) fun hc => ?_
        exact List_snd ((evEs_of (fun e he => (sub e (Nat.lt_trans (mem_lt he) (by simp +arith))).1) eo l).spl hc p)
      | Tuple es a p =>
        refine Snd.ite (f := bnd (evEs C k ρ es) fun vs => newM (.tup vs)) fun hc => ?_
        exact Tuple_snd ((evEs_of (fun e he => (sub e (Nat.lt_trans (mem_lt he) (by simp +arith))).1) eo l).spl hc p)
      | ListComp e gens sc p => exact arm_comp T (fun c r z => (sub c.iter (by subst z; cases c; simp +arith)).1) (sub e (by simp +arith)).1 _ _ _ _ _ _ eo l
      | Compare a ops rs p => exact arm_cmp T (sub a (by simp +arith)).1 (fun e he => (sub e (Nat.lt_trans (mem_lt he) (by simp +arith))).1) _ _ _ _ _ _ eo l
      | Call f as kws p => exact arm_call T HC (sub f (by simp +arith)).1 (fun o x q z => (sub o (by subst z; simp +arith)).1) (fun e he => (sub e (Nat.lt_trans (mem_lt he) (by simp +arith))).1) _ _ _ _ _ _ eo l
      | Attribute o x p =>
        refine Snd.ite (c := plainBase o = true) (f := bnd (evE C k ρ o) fun ov => attrM ov x) fun hc => ?_
        exact Attribute_snd T hc ((sub o (by simp +arith)).1 _ _ _ _ _ _ eo l)
      | Subscript o i p => exact arm_sub (sub o (by simp +arith)).1 (sub i (by simp +arith)).1 (fun lo up st q e z h => (sub e (by subst z; rcases h with rfl | rfl <;> simp +arith)).1) _ _ _ _ _ _ eo l
      | _ => exact Snd.stuck
    refine ⟨main, ?_⟩
    cases e with
    | UnaryOp op x p => cases op with
      | Not => exact fun ex m cs env k ρ eo l => tNot_snd ((sub x (by simp +arith)).2 _ _ _ _ _ _ eo l)
      | _ => exact PT_plain rfl main
    | BoolOp op vs p => exact fun ex m cs env k ρ eo l => evAll_of (fun e he => (sub e (Nat.lt_trans (mem_lt he) (by simp +arith))).2) eo l
    | IfExp t b o p => exact fun ex m cs env k ρ eo l => tIf_snd ((sub t (by simp +arith)).2 _ _ _ _ _ _ eo l) ((sub b (by simp +arith)).2 _ _ _ _ _ _ eo l) ((sub o (by simp +arith)).2 _ _ _ _ _ _ eo l)
    | Compare a ops rs p => exact arm_tcmp T (sub a (by simp +arith)).1 fun e he => (sub e (Nat.lt_trans (mem_lt he) (by simp +arith))).1
    | _ => exact PT_plain rfl main
theorem evE_snd (T : FxOk K mg mb n X) (HC : CallS K w prog X C) (e : Expr) (eo : EnvOk env k) (l : LR K X ex env m (adr cs) ρ) : Snd K w prog X ex (XO K w prog X ex) m cs (eval e env) (evE C k ρ e) (VQ K m) := (ev_all T HC _ e (Nat.lt_succ_self _)).1 _ _ _ _ _ _ eo l
theorem evT_snd (T : FxOk K mg mb n X) (HC : CallS K w prog X C) (e : Expr) (eo : EnvOk env k) (l : LR K X ex env m (adr cs) ρ) : Snd K w prog X ex (XO K w prog X ex) m cs (isTrue e env (eval e env)) (evT C k ρ e (evE C k ρ e)) (BQ m) := (ev_all T HC _ e (Nat.lt_succ_self _)).2 _ _ _ _ _ _ eo l
theorem evO_snd (T : FxOk K mg mb n X) (HC : CallS K w prog X C) (o : Option Expr) (eo : EnvOk env k) (l : LR K X ex env m (adr cs) ρ) : Snd K w prog X ex (XO K w prog X ex) m cs (valueOrNone (evalOpt o env)) (evO C k ρ o) (VQ K m) := evO_of (fun e x_ => (ev_all T HC _ e (Nat.lt_succ_self _)).1) eo l
theorem evEs_ok (T : FxOk K mg mb n X) (HC : CallS K w prog X C) (es : List Expr) (eo : EnvOk env k) (l : LR K X ex env m (adr cs) ρ) : EsOk K w prog X ex (XO K w prog X ex) m cs env es (evEs C k ρ es) := evEs_of (fun e x_ => (ev_all T HC _ e (Nat.lt_succ_self _)).1) eo l
end
/-! ## Stores -/
section
variable {K : Frag} {w : World} {prog : Program} {X : Fx} {m m' : NsMap} {ex : List (Addr × Obj)} {XR XR' : XRel} {cs cs₀ : List CO} {μ : Mem} {s : Shared} {mg mb : NsMap} {n : Nat} {h h' : Heap} {k : Kinds} {ρ : Loc} {C : CallT}
theorem SRh.store (S : SRh K w prog X m ex cs μ h) (hn : h'.Ns X.L m') (hs : Heap.SameBut X.L h h') : SRh K w prog X m' ex cs μ h' := by
  have hd := S.dist
  have nl : ∀ a ∈ X.low.map (·.1) ++ (ex ++ nw cs).map (·.1), a ≠ X.L := fun a ha z => (List.nodup_cons.mp hd).1 (z ▸ ha)
  refine ⟨fun b o e => (hs.2 b fun z => ?_).trans (S.stays b o e), hn, S.above, fun p hp => ⟨?_, (S.low p hp).2⟩, fun q hq => ⟨(hs.2 _ (nl _ (List.mem_append_right _ (List.mem_map_of_mem hq)))).trans (S.led q hq).1, (S.led q hq).2⟩, S.sz, S.fro, S.szs, hd, S.O⟩
  · rw [z, S.baseNone] at e; cases e
  · exact (S.low p hp).1.sameBut hs (nl _ (List.mem_append_left _ (List.mem_map_of_mem hp)))
structure BodyOk (X : Fx) (k : Kinds) : Prop where
  eo : EnvOk X.env k
  loc : X.env.locals = X.L
theorem lookup_setL {x y : Str} {v : V} : ∀ {ρ : Loc}, (setL x v ρ).lookup y = if y = x then some v else ρ.lookup y
  | [] => by
    unfold setL
    rw [List.lookup_cons]
    by_cases hy : y = x
    · subst hy; simp
    · rw [beq_eq_false_iff_ne.mpr hy, if_neg hy]
  | (a, b) :: r => by
    unfold setL
    by_cases ha : a = x
    · subst ha
      rw [if_pos rfl, List.lookup_cons, List.lookup_cons]
      by_cases hy : y = a
      · subst hy; simp
      · rw [beq_eq_false_iff_ne.mpr hy, if_neg hy]
    · rw [if_neg ha, List.lookup_cons, List.lookup_cons, lookup_setL (ρ := r)]
      by_cases hy : y = a
      · subst hy; simp [ha]
      · rw [beq_eq_false_iff_ne.mpr hy]
theorem LR.store (B : BodyOk X k) (l : LR K X ex X.env m (adr cs) ρ) {x : Str} {v : V} {val : Value} (hk : k.lookup x = some .local) (hv : VR K (adr cs) v val) : LR K X ex X.env (fun y => if y = x then some val else m y) (adr cs) (setL x v ρ) := fun y u e => by
  rw [lookup_setL] at e
  by_cases hy : y = x
  · subst hy
    rw [if_pos rfl] at e
    cases e
    exact ⟨val, hv, .loc B.loc (B.eo.names _ _ hk (by decide)) (if_pos rfl)⟩
  · rw [if_neg hy] at e
    refine El_ea (l y u e) fun val' h1 h2 => ?_
    refine ⟨val', h1, ?_⟩
    cases h2 with
    | loc a b c => exact .loc a b ((if_neg hy).trans c)
    | cell a b c d => exact .cell a b c d
    | own a b c d => exact .own a b c d
noncomputable abbrev AQ (K : Frag) (X : Fx) (ex : List (Addr × Obj)) : NsMap → List CO → Loc → Unit → Prop := fun m' cs' ρ' x_ => LR K X ex X.env m' (adr cs') ρ'
theorem name_store (B : BodyOk X k) {x : Str} {v : V} {val : Value} {Q : Unit → Shared → Prop} {E : Value → Shared → Prop} (S : SR K w prog X m ex cs μ s) (hk : k.lookup x = some .local) (l : LR K X ex X.env m (adr cs) ρ) (hv : VR K (adr cs) v val)
    (q : ∀ s' m', SR K w prog X m' ex cs μ s' → LR K X ex X.env m' (adr cs) (setL x v ρ) → Q () s') : wpAny (model prog w) X.A (storeName X.env x val) Q E s := by
  refine wpAny_storeName_local (B.eo.names _ _ hk (by decide)) (B.loc ▸ S.1.ns) (fun h' hn hs => ?_) (by rw [B.eo.kind]; rfl)
  rw [B.loc] at hn hs
  exact q _ _ ⟨S.1.store hn hs, S.2⟩ (l.store B hk hv)
theorem rel_snd {vs ks : List Value} (l : LR K X ex X.env m (adr cs₀) ρ) : Snd K w prog X ex XR m cs₀ (release vs ks) (ret ρ) (AQ K X ex) := fun cs μ s r Q E g S e p => by
  cases e
  exact wpAny_release (p s cs m () (Grow.refl _) S (l.grow g))
theorem asg_snd (T : FxOk K mg mb n X) (B : BodyOk X k) (HC : CallS K w prog X C) {t : Expr} {v : V} {val : Value} (l : LR K X ex X.env m (adr cs₀) ρ) (hv : VR K (adr cs₀) v val) :
    Snd K w prog X ex (XO K w prog X ex) m cs₀ (assign t X.env val) (asg C k t v ρ) (AQ K X ex) := by
  cases t with
  | Name x p =>
    refine Snd.ite (c := k.lookup x = some .local) (f := ret (setL x v ρ)) fun hk => ?_
    intro cs μ s r Q E g S e p
    cases e
    exact wpAny_assign_Name (name_store B S hk (l.grow g) (hv.grow g) fun s' m' S' l' => p s' cs m' () (Grow.refl _) S' l')
  | Attribute o x p =>
    show Snd K w prog X ex _ m cs₀ _ (bnd (evE C k ρ o) fun ov => bnd (putAttrM ov x v) fun x_ => ret ρ) _
    rw [arm_assign_Attribute]
    refine (evE_snd T HC o B.eo l).holding.bind fun m₁ cs₁ a va g h => ?_
    obtain ⟨rfl, ha⟩ := h
    refine .stand ((putAttrM_snd T ha (hv.grow g)).holding.bind fun m₂ cs₂ b vb g' h => ?_)
    cases h
    exact rel_snd (l.grow (g.trans g'))
  | Subscript o i p =>
    by_cases hc : ∃ lo up st q, i = .Slice lo up st q
    · obtain ⟨lo, up, st, q, rfl⟩ := hc
      cases st with
      | none =>
        show Snd K w prog X ex _ m cs₀ _ (bnd (evE C k ρ o) fun ov => bnd (evO C k ρ lo) fun lv => bnd (evO C k ρ up) fun uv => bnd (putSliceM ov lv uv v) fun x_ => ret ρ) _
        rw [arm_assign_Subscript]
        refine (evE_snd T HC o B.eo l).holding.bind fun m₁ cs₁ a va g h => ?_
        obtain ⟨rfl, ha⟩ := h
        intro cs μ s r Q E g₀ S e p
        refine wpAny_bind (wpAny_holding ?_)
        rw [arm_eval_Slice]
        refine wpAny_bind ((evO_snd T HC lo B.eo (l.grow g)).use g₀ S e p fun m₁ cs₂ lv vl μ₁ s₁ g₁ S₁ h e₁ p₁ => ?_)
        obtain ⟨rfl, hlv⟩ := h
        refine wpAny_bind (wpAny_holding ((evO_snd T HC up B.eo (l.grow (g.trans (g₀.trans g₁)))).use (Grow.refl _) S₁ e₁ p₁ fun m₂ cs₃ uv vu μ₂ s₂ g₂ S₂ h e₂ p₂ => ?_))
        obtain ⟨rfl, huv⟩ := h
        refine wpAny_bind (wpAny_holding (wpAny_pure ?_))
        refine newFields_slice (wpAny_bind (wpAny_standAt (wpAny_bind (wpAny_holding ?_))))
        have S₃ := S₂.push (sliceObj vl vu)
        have hgo : Grow (adr cs₁) (adr cs₃) := g₀.trans (g₁.trans g₂)
        rcases bnd_some e₂ with ⟨sy, d, μ', q, rfl⟩ | ⟨u, μ', q, e⟩
        · exact putSliceM_snd (XR := XO K w prog X ex) (ha.grow hgo) (hlv.grow g₂) huv (hv.grow (g.trans hgo)) _ cs₃ μ₂ _ _ _ _ (Grow.refl _) S₃ (Heap.IsSliceOf.new ..) q p₂
        · cases e
          refine putSliceM_snd (XR := XO K w prog X ex) (ha.grow hgo) (hlv.grow g₂) huv (hv.grow (g.trans hgo)) _ cs₃ μ₂ _ _ _ _ (Grow.refl _) S₃ (Heap.IsSliceOf.new ..) q fun s' cs' m' a' g' S' h => ?_
          cases h
          exact wpAny_release (p₂ s' cs' _ () g' S' (l.grow (g.trans (hgo.trans g'))))
      | some st =>
        show Snd K w prog X ex _ m cs₀ _ (bnd (evE C k ρ o) fun ov => bnd (evE C k ρ (.Slice lo up (some st) q)) fun iv => bnd (putItemM ov iv v) fun x_ => ret ρ) _
        rw [arm_assign_Subscript]
        exact (evE_snd T HC o B.eo l).holding.bind fun x_ x_ x_ x_ x_ x_ => Snd.none fun μ => rfl
    · have e1 : asg C k (.Subscript o i p) v ρ = bnd (evE C k ρ o) fun ov => bnd (evE C k ρ i) fun iv => bnd (putItemM ov iv v) fun x_ => ret ρ := by
        cases i <;> first | rfl | exact absurd ⟨_, _, _, _, rfl⟩ hc
      rw [e1, arm_assign_Subscript]
      refine (evE_snd T HC o B.eo l).holding.bind fun m₁ cs₁ a va g h => ?_
      obtain ⟨rfl, ha⟩ := h
      refine (evE_snd T HC i B.eo (l.grow g)).holding.bind fun m₂ cs₂ b vb g' h => ?_
      obtain ⟨rfl, hb⟩ := h
      refine .stand ((setItem_snd (ha.grow g') hb (hv.grow (g.trans g'))).holding.bind fun m₃ cs₃ c vc g'' h => ?_)
      cases h
      exact rel_snd (l.grow (g.trans (g'.trans g'')))
  | _ => exact Snd.stuck
theorem tupM_ref {α : Type} {v : V} {g : List V → Mx α} {r : Out α × Mem} (e : bnd (tupM v) g μ = some r) : ∃ a xs, v = .ref a ∧ μ[a]? = some (.tup xs) ∧ g xs μ = some r := by
  refine El_ea (rdM_ref e) fun xs h h2 => ?_
  refine El_ea (bind_of h) fun a h1 h => ?_
  refine El_ea (bind_of h) fun o h3 h => ?_
  exact ⟨a, xs, refO_some h1, h3.trans (congrArg some (tupO_some h)), h2⟩
theorem tuple_at (S : SR K w prog X m ex cs μ s) {a : Nat} {x : Addr} (hx : (adr cs)[a]? = some x) {xs : List V} (hm : μ[a]? = some (.tup xs)) : ∃ vs, s.heap.IsTuple x vs.toArray ∧ All2 (VR K (adr cs)) xs vs := by
  obtain ⟨c, hc, rfl, ⟨vs, n, h1, _, h3⟩, ho⟩ := list_at S hx hm
  exact ⟨vs, ⟨_, ho, by rw [h1], n, by rw [h1]⟩, h3⟩
theorem asgs_snd (T : FxOk K mg mb n X) (B : BodyOk X k) (HC : CallS K w prog X C) : ∀ {ts : List Expr} {vs : List V} {vals : List Value} {m : NsMap} {cs₀ : List CO} {ρ : Loc}, noStar ts = true → LR K X ex X.env m (adr cs₀) ρ → All2 (VR K (adr cs₀)) vs vals →
    Snd K w prog X ex (XO K w prog X ex) m cs₀ (assignInOrder ((assignEach ts X.env).map (·.2)) vals) (asgs C k ts vs ρ) (AQ K X ex)
  | [], vs, vals, m, cs₀, ρ, _, l, hv => by
    cases hv with
    | nil => exact Snd.ret (R := AQ K X ex) fun x_ g => l.grow g
    | cons _ _ => exact Snd.stuck
  | t :: ts, vs, vals, m, cs₀, ρ, hs, l, hv => by
    obtain ⟨h1, h2⟩ := noStar_cons hs
    have e1 : assignEach (t :: ts) X.env = (false, assign t X.env) :: assignEach ts X.env := by
      cases t <;> first | rfl | exact absurd rfl (h1 _ _)
    rw [e1]
    cases hv with
    | nil => exact Snd.stuck
    | @cons v val vs vals ha hr =>
      show Snd K w prog X ex _ m cs₀ (holding vals (assign t X.env val) >>= fun x_ => assignInOrder ((assignEach ts X.env).map (·.2)) vals) (bnd (asg C k t v ρ) fun ρ' => asgs C k ts vs ρ') _
      exact (asg_snd T B HC l ha).holding.bind fun m₁ cs₁ ρ' x_ g l' => asgs_snd T B HC h2 l' (hr.mono fun x_ x_ z => z.grow g)
theorem assignEach_star : ∀ {ts : List Expr}, noStar ts = true → (assignEach ts X.env).findIdx? (·.1) = none ∧ (assignEach ts X.env).length = ts.length
  | [], _ => ⟨rfl, rfl⟩
  | t :: ts, hs => by
    obtain ⟨h1, h2⟩ := noStar_cons hs
    have e1 : assignEach (t :: ts) X.env = (false, assign t X.env) :: assignEach ts X.env := by
      cases t <;> first | rfl | exact absurd rfl (h1 _ _)
    obtain ⟨h3, h4⟩ := assignEach_star h2
    rw [e1]
    refine ⟨?_, by simp [h4]⟩
    rw [List.findIdx?_cons]
    simp [h3]
theorem SR.fresh {h' : Heap} (S : SR K w prog X m ex cs μ s) (hb : Heap.ExtBut s.heap.objs.size s.heap h') : SR K w prog X m ex cs μ { s with heap := h' } :=
  ⟨S.1.keep fun b o e => hb b o (Nat.ne_of_lt (Heap.lt_size e)) e, S.2⟩
theorem asgT_snd (T : FxOk K mg mb n X) (B : BodyOk X k) (HC : CallS K w prog X C) {t : Expr} {v : V} {val : Value} (l : LR K X ex X.env m (adr cs₀) ρ) (hv : VR K (adr cs₀) v val) :
    Snd K w prog X ex (XO K w prog X ex) m cs₀ (assign t X.env val) (asgT C k t v ρ) (AQ K X ex) := by
  by_cases ht : ∃ ts a p, t = .Tuple ts a p
  · obtain ⟨ts, a, p, rfl⟩ := ht
    refine Snd.ite (c := noStar ts = true) (f := bnd (tupM v) fun xs => if xs.length = ts.length then asgs C k ts xs ρ else stuck) fun hs => ?_
    intro cs μ s r Q E g S e q
    obtain ⟨ad, ys, rfl, hm, e⟩ := tupM_ref e
    obtain ⟨hlen, e⟩ := if_stuck e
    refine El_ea hv.ref_inv fun y r_1 hy => ?_; (first | subst r_1 | cases r_1)
    refine El_ea (tuple_at S (g.at hy) hm) fun vs htup hr => ?_
    obtain ⟨f1, f2⟩ := assignEach_star (X := X) hs
    refine wpAny_assign_Tuple T.hnd htup (by rw [f2, List.size_toArray, ← hr.length, hlen]) f1 fun h' hb => ?_
    exact asgs_snd T B HC hs (l.grow g) hr cs _ _ r Q E (Grow.refl _) (S.fresh hb) e q
  · have e1 : asgT C k t v ρ = asg C k t v ρ := by
      cases t <;> first | rfl | exact absurd ⟨_, _, _, rfl⟩ ht
    rw [e1]
    exact asg_snd T B HC l hv
theorem nst_snd (B : BodyOk X k) : ∀ {xs : List Str} {vs : List V} {vals : List Value} {m : NsMap} {cs₀ : List CO} {ρ : Loc}, (∀ x ∈ xs, k.lookup x = some .local) → xs.length = vs.length → LR K X ex X.env m (adr cs₀) ρ → All2 (VR K (adr cs₀)) vs vals →
    Snd K w prog X ex XR m cs₀ (assignInOrder (xs.map fun n => bindName X.env n) vals) (ret (nst xs vs ρ)) (AQ K X ex)
  | [], vs, vals, m, cs₀, ρ, _, hl, l, hv => by
    obtain rfl : vs = [] := List.length_eq_zero_iff.mp hl.symm
    exact Snd.ret (R := AQ K X ex) fun x_ g => l.grow g
  | x :: xs, vs, vals, m, cs₀, ρ, hk, hl, l, hv => by
    cases hv with
    | nil => cases hl
    | @cons v val vs vals ha hr =>
      intro cs μ s r Q E g S e p
      refine wpAny_bind (wpAny_holding (wpAny_bindName (name_store B S (hk x (.head _)) (l.grow g) (ha.grow g) fun s' m' S' l' => ?_)))
      exact nst_snd B (fun y hy => hk y (.tail _ hy)) (by simpa using hl) l' (hr.mono fun x_ x_ z => z.grow g) cs μ s' r Q E (Grow.refl _) S' e p
end
/-! ## Statements -/
section
variable {K : Frag} {w : World} {prog : Program} {X : Fx} {m m' : NsMap} {ex : List (Addr × Obj)} {XR XR' : XRel} {cs cs₀ : List CO} {μ : Mem} {s : Shared} {mg mb : NsMap} {n : Nat} {h h' : Heap} {k : Kinds} {ρ : Loc} {C : CallT} {env : Env}
theorem filterMap_eq {α β : Type} {f g : α → Option β} : ∀ {l : List α}, (∀ t ∈ l, f t = g t) → l.filterMap f = l.filterMap g
  | [], _ => rfl
  | t :: l, h => by rw [List.filterMap_cons, List.filterMap_cons, h t (.head _), filterMap_eq fun t ht => h t (.tail _ ht)]
theorem anyStar_gen {f : Expr → Bool} (h : ∀ t, f t = isStar t) (ts : List Expr) : ts.any f = anyStar ts := congrArg (List.any ts) (funext h)
theorem namesIn_gen {f : Expr → Option Str} {line : Nat} (eo : EnvOk env k) (h1 : ∀ id pos, f (.Name id pos) = if env.kindOf id == some .local && pos.line == line then some id else none) (h2 : ∀ t, nameOf t = none → f t = none ∧ nameIn line t = none)
    {ts : List Expr} (h : localNames k ts = true) : ts.filterMap f = namesIn line ts := filterMap_eq fun t ht => by
  have h := List.all_eq_true.mp h t ht
  cases hn : nameOf t with
  | none => exact (h2 t hn).1.trans (h2 t hn).2.symm
  | some id =>
    obtain ⟨pos, rfl⟩ := nameOf_some hn
    rw [h1, eo.names id .local (beq_iff_eq.mp h) (by decide)]; rfl
theorem nameIn_none {line : Nat} {t : Expr} (h : nameOf t = none) : nameIn line t = none := by
  cases t with
  | Name id p => exact no_some h.symm
  | _ => rfl
theorem namesIn_local {line : Nat} {ts : List Expr} (h : localNames k ts = true) : ∀ x ∈ namesIn line ts, k.lookup x = some .local := fun x hx => by
  refine El_ea (List.mem_filterMap.mp hx) fun t ht e => ?_
  have h := List.all_eq_true.mp h t ht
  cases hn : nameOf t with
  | none => rw [nameIn_none hn] at e; exact no_some e
  | some id =>
    obtain ⟨pos, rfl⟩ := nameOf_some hn
    obtain ⟨_, e⟩ := if_some e
    cases e
    exact beq_iff_eq.mp h
theorem block_fn (eo : EnvOk env k) : env.blockKind = .function := by
  unfold Env.blockKind
  rw [eo.kind]; rfl
noncomputable def swapChain (ts vs : List Expr) (bk : ScopeKind) (st : Bool) (names : List Str) : Sem (Option (List Str)) :=
  if (!(ts.length == 2 || ts.length == 3) || vs.length != ts.length || bk != .function) = true then pure none
  else if st = true then pure none
  else if (names.length != ts.length || names.eraseDups.length != names.length) = true then pure none
  else if vs.all (foldedForSure 8) = true then pure none
  else if vs.all (constantsAlone 8) = true then ((unsupported "assign.tuple-of-constant-expressions:order-of-the-stores" : Sem PUnit) >>= fun x_ => pure (some names)) else pure (some names)
theorem chain_ok {names : List Str} {r : Option (List Str)} {ts vs : List Expr} {st : Bool} (h : (if (!(ts.length == 2 || ts.length == 3) || vs.length != ts.length) = true then some none else if st = true then some none else if (names.length != ts.length || names.eraseDups.length != names.length) = true then some none else if vs.all (foldedForSure 8) = true then some none else if vs.all (constantsAlone 8) = true then none else some (some names)) = some r) :
    swapChain ts vs .function st names = pure r ∧ ∀ l, r = some l → l = names := by
  unfold swapChain
  rw [bne_self_eq_false, Bool.or_false]
  have z : ∀ {r : Option (List Str)}, some none = some r → (pure none : Sem (Option (List Str))) = pure r ∧ ∀ l, r = some l → l = names := fun e => by cases e; exact ⟨rfl, fun _ z => no_some z⟩
  generalize (!(ts.length == 2 || ts.length == 3) || vs.length != ts.length) = c1 at h ⊢
  generalize (names.length != ts.length || names.eraseDups.length != names.length) = c3 at h ⊢
  generalize vs.all (foldedForSure 8) = c4 at h ⊢
  generalize vs.all (constantsAlone 8) = c5 at h ⊢
  cases c1 with
  | true => exact z h
  | false => cases st with
    | true => exact z h
    | false => cases c3 with
      | true => exact z h
      | false => cases c4 with
        | true => exact z h
        | false => cases c5 with
          | true => exact no_some h
          | false => cases h; exact ⟨rfl, fun _ z => (Option.some.inj z).symm⟩
theorem swap_tup (eo : EnvOk env k) {ts vs : List Expr} {a b : Nat} {p q : Pos} (hl : localNames k ts = true) : swappedStores [.Tuple ts a p] (.Tuple vs b q) env = swapChain ts vs .function (anyStar vs) (namesIn ((ts.head?.map (·.pos.line)).getD 0) ts) := by
  have e : swappedStores [.Tuple ts a p] (.Tuple vs b q) env = swapChain ts vs env.blockKind (vs.any _) (ts.filterMap _) := rfl
  rw [e, namesIn_gen (line := (ts.head?.map (·.pos.line)).getD 0) eo (fun x_ x_ => rfl) (fun t ht => ⟨(by cases t with
        | Name id p => exact no_some ht.symm
        | _ => rfl), nameIn_none ht⟩) hl, anyStar_gen (fun t => by cases t <;> rfl), block_fn eo]
noncomputable def SwOk (k : Kinds) (env : Env) (t v : Expr) (r : Option (List Str)) : Prop := swappedStores [t] v env = pure r ∧ ∀ names, r = some names → ∀ x ∈ names, k.lookup x = some .local
theorem sw_plain {t v : Expr} {r : Option (List Str)} (e : swappedStores [t] v env = pure none) (h : some none = some r) : SwOk k env t v r := by cases h; exact ⟨e, fun x_ z => no_some z⟩
theorem swapT_ok (eo : EnvOk env k) {t v : Expr} {r : Option (List Str)} (h : swapT k t v = some r) : SwOk k env t v r := by
  cases t with
  | List _ _ => exact no_some h
  | Tuple ts a p =>
    cases v with
    | Tuple vs b q =>
      obtain ⟨hl, h⟩ := if_some h
      obtain ⟨h1, h2⟩ := chain_ok h
      exact ⟨(swap_tup eo hl).trans h1, fun l e => h2 l e ▸ namesIn_local hl⟩
    | _ => exact sw_plain rfl h
  | _ => exact sw_plain rfl h
theorem swaps_not {e : Expr} {t : Option Expr} {l : Nat} (h : notComp e = true) : swapsWith e t l env = pure false := by
  cases e <;> first | rfl | cases h
theorem swaps_use (eo : EnvOk env k) {x : Str} {px p : Pos} {elt : Expr} {gens : List Comprehension} {sc : Scope} {l : Nat} (h : useOk k (.Name x px) (.ListComp elt gens sc p) = true) : k.lookup x = some .local ∧ swapsWith (.ListComp elt gens sc p) (some (.Name x px)) l env = pure true := by
  unfold useOk at h
  simp only [Bool.and_eq_true, beq_iff_eq] at h
  refine ⟨h.1.1, ?_⟩
  have h2 : swapsWith (.ListComp elt gens sc p) (some (.Name x px)) l env = pure (env.blockKind == .function && env.kindOf x == some .local && px.line == p.line && !(sc.names.any fun (n, k) => n == x && (k == .local || k == .cell))) := rfl
  rw [h2, block_fn eo, eo.names _ _ h.1.1 (by decide), h.1.2]
  have h3 := h.2
  simp only [beq_self_eq_true, Bool.true_and]
  exact congrArg pure h3
noncomputable def FlowR (K : Frag) (as : List Addr) (o : Option V) (f : Flow) : Prop := match o with
  | none => f = .next
  | some v => ∃ val, f = .ret val ∧ VR K as v val
noncomputable abbrev SQ (K : Frag) (X : Fx) (ex : List (Addr × Obj)) : NsMap → List CO → Option V × Loc → Flow → Prop := fun m' cs' r f => LR K X ex X.env m' (adr cs') r.2 ∧ FlowR K (adr cs') r.1 f
noncomputable def PS (K : Frag) (w : World) (prog : Program) (X : Fx) (ex : List (Addr × Obj)) (k : Kinds) (C : CallT) (st : Stmt) : Prop := ∀ m cs ρ, LR K X ex X.env m (adr cs) ρ → Snd K w prog X ex (XO K w prog X ex) m cs (exec st X.env) (exS C k st ρ) (SQ K X ex)
noncomputable def PSs (K : Frag) (w : World) (prog : Program) (X : Fx) (ex : List (Addr × Obj)) (k : Kinds) (C : CallT) (st : List Stmt) : Prop := ∀ m cs ρ, LR K X ex X.env m (adr cs) ρ → Snd K w prog X ex (XO K w prog X ex) m cs (execs st X.env) (exSs C k st ρ) (SQ K X ex)
theorem exSs_of : ∀ {l : List Stmt}, (∀ st ∈ l, PS K w prog X ex k C st) → PSs K w prog X ex k C l
  | [], _ => fun m cs ρ l => Snd.ret (R := SQ K X ex) fun x_ g => ⟨l.grow g, rfl⟩
  | st :: r, h => fun m cs ρ l => by
    show Snd K w prog X ex _ m cs (exec st X.env >>= fun f => match f with | .next => execs r X.env | f => pure f) (bnd (exS C k st ρ) fun
      | (some v, ρ') => ret (some v, ρ')
      | (none, ρ') => exSs C k r ρ') _
    refine (h st (.head _) m cs ρ l).bind fun m₁ cs₁ q f g hq => ?_
    obtain ⟨o, ρ'⟩ := q
    obtain ⟨h1, h2⟩ := hq
    dsimp only at h1 h2
    cases o with
    | none =>
      cases (show f = .next from h2)
      exact exSs_of (fun s hs => h s (.tail _ hs)) m₁ cs₁ ρ' h1
    | some v =>
      refine El_ea h2 fun val r_1 hv => ?_; (first | subst r_1 | cases r_1)
      exact Snd.ret (R := SQ K X ex) fun x_ g => ⟨h1.grow g, val, rfl, hv.grow g⟩
theorem not_inter (eo : EnvOk env k) : interactive env = false := by
  unfold interactive; rw [eo.kind]; rfl
theorem Expr_snd (T : FxOk K mg mb n X) (B : BodyOk X k) (HC : CallS K w prog X C) {e : Expr} {p : Pos} : PS K w prog X ex k C (.Expr e p) := fun m cs ρ l => by
  refine Snd.ite (c := notComp e = true) (f := bnd (evE C k ρ e) fun x_ => ret (none, ρ)) fun hn => ?_
  rw [exec_Expr X.env e p (not_inter B.eo) (swaps_not hn)]
  refine .stand ((evE_snd T HC e B.eo l).bind fun m₁ cs₁ v vv g h => ?_)
  obtain ⟨rfl, hv⟩ := h
  intro cs μ s r Q E g' S e' q
  cases e'
  exact wpAny_dropValue (q s cs _ _ (Grow.refl _) S ⟨l.grow (g.trans g'), rfl⟩)
theorem Return_snd (T : FxOk K mg mb n X) (B : BodyOk X k) (HC : CallS K w prog X C) {e : Option Expr} {p : Pos} : PS K w prog X ex k C (.Return e p) := fun m cs ρ l => by
  cases e with
  | none => exact .stand (Snd.ret (R := SQ K X ex) fun x_ g => ⟨l.grow g, _, rfl, .none⟩)
  | some e =>
    show Snd K w prog X ex _ m cs (standAt p >>= fun x_ => eval e X.env >>= fun v => pure (Flow.ret v)) (bnd (evE C k ρ e) fun v => ret (some v, ρ)) _
    refine .stand ((evE_snd T HC e B.eo l).bind fun m₁ cs₁ v vv g h => ?_)
    obtain ⟨rfl, hv⟩ := h
    exact Snd.ret (R := SQ K X ex) fun x_ g' => ⟨l.grow (g.trans g'), vv, rfl, hv.grow g'⟩
theorem If_snd (T : FxOk K mg mb n X) (B : BodyOk X k) (HC : CallS K w prog X C) {t : Expr} {b o : List Stmt} {p : Pos} (hb : PSs K w prog X ex k C b) (ho : PSs K w prog X ex k C o) : PS K w prog X ex k C (.If t b o p) := fun m cs ρ l => by
  rw [arm_exec_If]
  show Snd K w prog X ex _ m cs _ (bnd (evT C k ρ t (evE C k ρ t)) fun c => if c then exSs C k b ρ else exSs C k o ρ) _
  refine .stand ((evT_snd T HC t B.eo l).bind fun m₁ cs₁ c vc g h => ?_)
  obtain ⟨rfl, rfl⟩ := h
  split
  · exact hb _ _ _ (l.grow g)
  · exact ho _ _ _ (l.grow g)
theorem bnd_assoc {α β γ : Type} (f : Mx α) (g : α → Mx β) (h : β → Mx γ) : bnd (bnd f g) h = bnd f fun a => bnd (g a) h := by
  funext μ
  unfold bnd
  rcases f μ with _ | ⟨o, μ'⟩
  · rfl
  · cases o <;> rfl
theorem bnd_if {α β : Type} {c : Prop} {_ : Decidable c} {f : Mx α} {g : α → Mx β} {r : Out β × Mem} (e : bnd (if c then f else stuck) g μ = some r) : c ∧ bnd f g μ = some r := by
  by_cases hc : c
  · rw [if_pos hc] at e; exact ⟨hc, e⟩
  · rw [if_neg hc] at e; exact no_some e
theorem all2_rev {α β : Type} {R : α → β → Prop} {a : List α} {b : List β} (z : All2 R a b) : All2 R a.reverse b.reverse := by
  induction z with
  | nil => exact .nil
  | cons x _ ih => rw [List.reverse_cons, List.reverse_cons]; exact ih.append (.cons x .nil)
theorem asgW_snd (T : FxOk K mg mb n X) (B : BodyOk X k) (HC : CallS K w prog X C) {t : Expr} {v : V} {val : Value} {sw : Option (List Str)} (hsw : ∀ names, sw = some names → ∀ x ∈ names, k.lookup x = some .local) (ht : ∀ a b, t ≠ .Starred a b) (l : LR K X ex X.env m (adr cs₀) ρ) (hv : VR K (adr cs₀) v val) :
    Snd K w prog X ex (XO K w prog X ex) m cs₀ (assignStores X.env val sw ((assignEach [t] X.env).map (·.2))) (bnd (asgW C k t v ρ sw) fun ρ' => ret (none, ρ')) (SQ K X ex) := by
  cases sw with
  | none =>
    have e1 : assignEach [t] X.env = [(false, assign t X.env)] := by
      cases t <;> first | rfl | exact absurd rfl (ht _ _)
    rw [e1]
    show Snd K w prog X ex _ m cs₀ (assign t X.env val >>= fun x_ => pure Flow.next) (bnd (asgT C k t v ρ) fun ρ' => ret (none, ρ')) _
    exact (asgT_snd T B HC l hv).bind fun m₁ cs₁ ρ' x_ g l' => Snd.ret (R := SQ K X ex) fun x_ g' => ⟨LR.grow l' g', rfl⟩
  | some names =>
    intro cs μ s r Q E g S e q
    obtain ⟨ad, xs, rfl, hm, e⟩ := tupM_ref ((congrFun (bnd_assoc _ _ _) μ).symm.trans e)
    obtain ⟨hlen, e⟩ := bnd_if e
    cases e
    refine El_ea hv.ref_inv fun y r_1 hy => ?_; (first | subst r_1 | cases r_1)
    refine El_ea (tuple_at S (g.at hy) hm) fun vs htup hr => ?_
    refine wpAny_bind (wpAny_rule (wpAny_bind ?_))
    have hsz : names.length = vs.toArray.size := by rw [List.size_toArray, ← hr.length, hlen]
    rw [hsz]
    refine wpAny_unpackItems_tuple T.hnd htup fun h' hb => ?_
    refine wpAny_bind (nst_snd (XR := XO K w prog X ex) B (fun x hx => hsw names rfl x (List.mem_reverse.mp hx)) (by rw [List.length_reverse, List.length_reverse, hlen]) (l.grow g) (all2_rev hr) cs _ _ _ _ _ (Grow.refl _) (S.fresh hb) rfl fun s' cs' m' x_ g' S' l' => ?_)
    exact wpAny_pure (q s' cs' m' _ g' S' ⟨l', rfl⟩)
end
section
variable {K : Frag} {w : World} {prog : Program} {X : Fx} {m m' : NsMap} {ex : List (Addr × Obj)} {XR XR' : XRel} {cs cs₀ : List CO} {μ : Mem} {s : Shared} {mg mb : NsMap} {n : Nat} {h h' : Heap} {k : Kinds} {ρ : Loc} {C : CallT} {env : Env}
theorem evE_comp {elt : Expr} {gens : List Comprehension} {sc : Scope} {p : Pos} {r : Out V × Mem} (e : evE C k ρ (.ListComp elt gens sc p) μ = some r) : ∃ x px it, gens = [⟨.Name x px, it, [], 0⟩] ∧ compOk k ρ sc x = true ∧ notSet it = true ∧
    (bnd (evE C k ρ it) fun v => bnd (listOfM v) fun p => bnd (compM p.1 p.2 (fun w => noExc (evE C sc.names ((x, w) :: ρ.filter fun q => sc.names.lookup q.1 == some .free) elt)) p.2) fun ws => newM (.list ws)) μ = some r := by
  rcases gen_or gens with ⟨x, px, it, rfl⟩ | hn
  · have e2 : (if compOk k ρ sc x && notSet it then bnd (evE C k ρ it) fun v => bnd (listOfM v) fun p => bnd (compM p.1 p.2 (fun w => noExc (evE C sc.names ((x, w) :: ρ.filter fun q => sc.names.lookup q.1 == some .free) elt)) p.2) fun ws => newM (.list ws) else stuck) μ = some r := e
    by_cases hc : (compOk k ρ sc x && notSet it) = true
    · rw [if_pos hc] at e2
      rw [Bool.and_eq_true] at hc
      exact ⟨x, px, it, rfl, hc.1, hc.2, e2⟩
    · rw [if_neg hc] at e2; cases e2
  · rw [hn] at e; cases e
end
section
variable {K : Frag} {w : World} {prog : Program} {X : Fx} {m m' : NsMap} {ex : List (Addr × Obj)} {XR XR' : XRel} {cs cs₀ : List CO} {μ : Mem} {s : Shared} {mg mb : NsMap} {n : Nat} {h h' : Heap} {k : Kinds} {ρ : Loc} {C : CallT} {env : Env}
theorem useOk_shape {t e : Expr} (h : useOk k t e = true) : ∃ x px a b sc p, t = .Name x px ∧ e = .ListComp a b sc p := by
  cases t with
  | Name x px =>
    cases e with
    | ListComp a b sc p => exact ⟨x, px, a, b, sc, p, rfl, rfl⟩
    | _ => exact no_true h
  | _ => exact no_true h
theorem swapT_other {t e : Expr} {sw : Option (List Str)} (ht : ∀ ts a p, t ≠ .Tuple ts a p) (h : swapT k t e = some sw) : sw = none := by
  cases t with
  | Tuple ts a p => exact absurd rfl (ht ts a p)
  | List _ _ => exact no_some h
  | _ => exact (Option.some.inj h).symm
theorem bnd_ran {α β : Type} {f : Mx α} {v : α → Mx β} {r : Out β × Mem} (e : bnd f v μ = some r) : ∃ r₁, f μ = some r₁ ∧ (∀ sy d μ', r₁ = (.exc sy d, μ') → r = (.exc sy d, μ')) ∧ ∀ a μ', r₁ = (.ok a, μ') → v a μ' = some r := by
  rcases bnd_some e with ⟨sy, d, μ', q, rfl⟩ | ⟨a, μ', q, e⟩
  · exact ⟨_, q, (fun x_ x_ x_ z => by cases z; rfl), fun x_ x_ z => by cases z⟩
  · exact ⟨_, q, (fun x_ x_ x_ z => by cases z), fun x_ x_ z => by cases z; exact e⟩
theorem use_snd (T : FxOk K mg mb n X) (B : BodyOk X k) (HC : CallS K w prog X C) {x : Str} {px : Pos} {elt : Expr} {gens : List Comprehension} {sc : Scope} {p : Pos} (u1 : k.lookup x = some .local) (l : LR K X ex X.env m (adr cs₀) ρ) :
    Snd K w prog X ex (XO K w prog X ex) m cs₀ (evalThenUse (.ListComp elt gens sc p) X.env (fun v => assign (.Name x px) X.env v) >>= fun x_ => pure Flow.next) (bnd (evE C k ρ (.ListComp elt gens sc p)) fun v => ret ((none : Option V), setL x v ρ)) (SQ K X ex) := fun cs μ s r Q E g S e q => by
  refine El_eaa (bnd_ran e) fun r₁ e₁ e2 e3 => ?_
  refine El_eeeaaa (evE_comp e₁) fun y py it r_3 hok hns e₄ => ?_; (first | subst r_3 | cases r_3)
  refine wpAny_bind (wpAny_bind ?_)
  refine comp_core (XR := XO K w prog X ex) (cs₀ := cs₀) T B.eo l hok (notSet_fold hns) (evE_snd T HC it B.eo l) (fun ex' env' cs v eo' l' => evE_snd T HC elt eo' l') cs μ s r₁ g S e₄ (fun sy d μ' z => ?_) (fun v μ' z cs' s' Cc oC mC D g' S' nC hv => ?_)
  · cases e2 sy d μ' z
    exact q
  · cases e3 v μ' z
    show wpAny _ _ (assign (.Name x px) X.env (.ref D)) _ _ _
    refine wpAny_assign_Name ?_
    refine wpAny_storeName_local (B.eo.names _ _ u1 (by decide)) (B.loc ▸ S'.1.ns) (fun h' hn' hs' => ?_) (by rw [B.eo.kind]; rfl)
    rw [B.loc] at hn' hs'
    have S5 := S'.1.store hn' hs'
    exact ⟨mC, nC _ _ (S5.led _ (.head _)).1, fun h'' hs'' => wpAny_pure (wpAny_pure (q _ cs' _ _ g' ⟨SRh.exForget (pre := [(Cc, oC)]) S5 fun b o hb e => (hs''.2 b (by simpa using hb)).trans e, S'.2⟩ ⟨(l.grow (g.trans g')).store B u1 hv, rfl⟩))⟩
theorem Assign_snd (T : FxOk K mg mb n X) (B : BodyOk X k) (HC : CallS K w prog X C) {ts : List Expr} {e : Expr} {p : Pos} : PS K w prog X ex k C (.Assign ts e p) := fun m cs ρ l => by
  rcases ts with _ | ⟨t, ts⟩
  · exact Snd.stuck
  rcases ts with _ | ⟨t', ts⟩
  rotate_left
  · exact Snd.stuck
  show Snd K w prog X ex _ m cs _ (match swapT k t e with
    | some sw => if notComp e || useOk k t e then bnd (evE C k ρ e) fun v => bnd (asgW C k t v ρ sw) fun ρ' => ret (none, ρ') else stuck
    | none => stuck) _
  cases hsw : swapT k t e with
  | none => exact Snd.stuck
  | some sw =>
  obtain ⟨w1, w2⟩ := swapT_ok B.eo hsw
  refine Snd.ite fun hc => ?_
  rw [arm_exec_Assign]
  refine .stand ?_
  by_cases hn : notComp e = true
  · have h1 : swapsWithSole [t] e p.line X.env = pure false := swaps_not hn
    rw [h1, pure_bind, if_neg (by decide)]
    refine (evE_snd T HC e B.eo l).bind fun m₁ cs₁ v vv g h => ?_
    obtain ⟨rfl, hv⟩ := h
    rw [w1, pure_bind]
    by_cases hst : ∃ a b, t = .Starred a b
    · obtain ⟨a, b, rfl⟩ := hst
      have := swapT_other (fun x_ x_ x_ z => by cases z) hsw
      subst this
      exact Snd.none fun μ => rfl
    · exact asgW_snd T B HC w2 (fun a b z => hst ⟨a, b, z⟩) (l.grow g) hv
  · rw [Bool.eq_false_iff.mpr hn, Bool.false_or] at hc
    refine El_eeeeeea (useOk_shape hc) fun x px elt gens sc pc r_6 r_7 => ?_; (first | subst r_6 | cases r_6); (first | subst r_7 | cases r_7)
    obtain ⟨u1, u2⟩ := swaps_use (l := p.line) B.eo hc
    have h1 : swapsWithSole [.Name x px] (.ListComp elt gens sc pc) p.line X.env = pure true := u2
    rw [h1, pure_bind, if_pos rfl]
    have := swapT_other (fun x_ x_ x_ z => by cases z) hsw
    subst this
    have em : (fun v => bnd (asgW C k (.Name x px) v ρ none) fun ρ' => ret ((none : Option V), ρ')) = fun v => ret ((none : Option V), setL x v ρ) := by
      funext v μ
      show bnd (if k.lookup x = some .local then ret (setL x v ρ) else stuck) _ μ = _
      rw [if_pos u1]; rfl
    rw [em]
    exact use_snd T B HC u1 l
end
/-! ## Loops over lists -/
section
variable {K : Frag} {w : World} {prog : Program} {X : Fx} {m m' : NsMap} {ex ex' : List (Addr × Obj)} {XR XR' : XRel} {cs cs₀ : List CO} {μ : Mem} {s : Shared} {mg mb : NsMap} {n : Nat} {h h' : Heap} {k : Kinds} {ρ : Loc} {C : CallT} {env : Env}
theorem LR.wide {as : List Addr} (l : LR K X ex env m as ρ) (hx : ∀ q ∈ ex, q ∈ ex') : LR K X ex' env m as ρ := fun y u e => by
  refine El_ea (l y u e) fun val h1 h2 => ?_
  refine ⟨val, h1, ?_⟩
  cases h2 with
  | loc a b c => exact .loc a b c
  | cell a b c d => exact .cell a b (hx _ c) d
  | own a b c d => exact .own a (hx _ b) c d
/-- an object that is neither cell nor namespace leaves the side list -/
theorem LR.back {as : List Addr} {I : Addr} {oI : Obj} (l : LR K X ((I, oI) :: ex) env m as ρ) (h1 : ∀ v, oI.data ≠ .cell v) (h2 : env.locals ≠ I) : LR K X ex env m as ρ := fun y u e => by
  refine El_ea (l y u e) fun val h3 h4 => ?_
  refine ⟨val, h3, ?_⟩
  cases h4 with
  | loc a b c => exact .loc a b c
  | cell a b c d =>
    rcases List.mem_cons.mp c with z | z
    · cases z; exact absurd d (h1 _)
    · exact .cell a b z d
  | own a b c d =>
    rcases List.mem_cons.mp b with z | z
    · cases z; exact absurd rfl h2
    · exact .own a z c d
theorem Pend.drop {pre : List (Addr × Obj)} {sy d : V} {e dx : Addr} {tb : Option Value} (P : Pend K w prog X m (pre ++ ex) cs μ sy d e dx tb h) : Pend K w prog X m ex cs μ sy d e dx tb h := by
  obtain ⟨S, ⟨oe, vs, v, he, hc, hdi, hd, h1, ht⟩, fl, edx, eb, db, ea, da⟩ := P
  have sub : ∀ a, a ∈ (ex ++ nw cs).map (·.1) → a ∈ ((pre ++ ex) ++ nw cs).map (·.1) := fun a ha => by
    rw [List.append_assoc, List.map_append]; exact List.mem_append_right _ ha
  refine ⟨S.exDrop, ⟨oe, vs, v, he, hc, hdi, hd, h1, ?_⟩, fl, edx, eb, db, fun z => ea (sub _ z), da⟩
  cases tb with
  | none => exact ht
  | some f => refine El_eeeaaaaaaa ht fun Ta oT ts a b c d' e' f' g' h' => ?_; exact ⟨Ta, oT, ts, a, b, c, d', e', f', fun z => g' (sub _ z), h'⟩
theorem own_go {M : Model} {A : Around} {t : Expr} {I l : Addr} {i : Nat} {v : Value} {Q : Unit → Shared → Prop} {E : Value → Shared → Prop} (hit : s.heap.IsListIter I l i) (q : Q () s) : wpAny M A (letOwnedTupleGo t (.ref I) v) Q E s := by
  refine El_eaa hit fun o ho hc hd => ?_
  have core : wpAny M A (match (Value.ref I, v) with
    | (.ref r, .ref a) => do
      let o ← load r
      match o.cls, o.data with
      | .type n, .fields vs =>
        if ["enumerate", "zip", "dict_itemiterator", "dict_reverseitemiterator", "odict_iterator", "itertools.zip_longest", "itertools.pairwise"].contains n && vs[0]? == some (rawInt a) then
          rule "for.unpacks-the-owned-tuple"
          updateField r 0 .none
      | _, _ => pure ()
    | _ => pure ()) Q E s := by
    cases v with
    | ref a =>
      refine wpAny_bind (wpAny_load ho ?_)
      rw [hc, hd]
      dsimp only
      rw [if_neg (by simp)]
      exact wpAny_pure q
    | _ => exact wpAny_pure q
  cases t with
  | Tuple a b c => exact core
  | List a b => exact core
  | _ => exact wpAny_pure q
theorem forLoop_any {R : Result → Shared → Prop} {target : Expr} {it : Value} {body orelse : List Stmt} {A : Around} (I : Nat → Shared → Prop)
    (turn : ∀ n s, I n s → wpAny (model prog w) A (pyNext it) (fun r s₁ => match r with
      | none => wpAny (model prog w) A (execs orelse env) (fun f s₃ => R (.ok f) s₃) (notedBy (model prog w) A env fun e s' => R (.error e) s') s₁
      | some v => wpAny (model prog w) A (letOwnedTupleGo target it v) (fun x_ s₂ => wpAny (model prog w) A (assign target env v) (fun x_ s₂ => wpAny (model prog w) A (execs body env) (fun f s₃ => match f with
          | .next | .cont => ∃ m, m < n ∧ I m s₃
          | .brk => R (.ok .next) s₃
          | .ret v => R (.ok (.ret v)) s₃) (notedBy (model prog w) A env fun e s' => R (.error e) s') s₂) (notedBy (model prog w) A env fun e s' => R (.error e) s') s₂) (notedBy (model prog w) A env fun e s' => R (.error e) s') s₁) (notedBy (model prog w) A env fun e s' => R (.error e) s') s)
    (n : Nat) (h : I n s) : codeAny (model prog w) A (.forLoop target it body orelse env) R s := by
  refine codeAny_loop' rfl I (fun n s hI => ?_) n h
  show wpAny _ _ ((forTurn target it body orelse env).onRaise (fun x => do noteFrame x env; theTreesLotGoes x)) _ _ s
  refine wpAny_noted ?_
  simp only [forTurn]
  refine wpAny_bind (wpAny_standAt (wpAny_bind (wpAny_onRaise (wpAny_mono (turn n s hI) (fun r s₁ h₁ => ?_) fun x_ x_ h' => wpAny_standAt h'))))
  cases r with
  | none => exact wpAny_pure (.inr ⟨rfl, codeAny_block h₁⟩)
  | some v =>
    refine wpAny_bind (wpAny_mono h₁ (fun x_ s₁ h₁ => ?_) fun x_ x_ h' => h')
    refine wpAny_bind (wpAny_mono h₁ (fun x_ s₂ h₂ => wpAny_bind (wpAny_mono h₂ (fun f s₃ h₃ => ?_) fun x_ x_ h' => h')) fun x_ x_ h' => h')
    cases f with
    | next => exact wpAny_pure (.inl ⟨rfl, h₃⟩)
    | cont => exact wpAny_pure (.inl ⟨rfl, h₃⟩)
    | brk => exact wpAny_pure h₃
    | ret v => exact wpAny_pure h₃
end
section
variable {K : Frag} {w : World} {prog : Program} {X : Fx} {m m' : NsMap} {ex ex' : List (Addr × Obj)} {XR XR' : XRel} {cs cs₀ : List CO} {μ : Mem} {s : Shared} {mg mb : NsMap} {n : Nat} {h h' : Heap} {k : Kinds} {ρ : Loc} {C : CallT} {env : Env}
theorem note_back (T : FxOk K mg mb n X) {sy d : V} {e dx : Addr} {tb : Option Value} {E : Value → Shared → Prop} {E' : Value → Shared → Prop} (P : Pend K w prog X m ex cs μ sy d e dx tb s.heap) (q : ∀ h' tb', Pend K w prog X m ex cs μ sy d e dx tb' h' → E (.ref e) { s with heap := h' }) :
    wpAny (model prog w) X.A (noteFrame (.ref e) X.env) (fun x_ s' => cameBackBy (model prog w) X.A X.env E (.ref e) s') E' s := by
  refine pend_note T P fun h' P' => ?_
  have P₀ := P'
  obtain ⟨S, ⟨oe, vs, v, he, hc, hdi, hd, h1, ht⟩, fl, edx, eb, db, ea, da⟩ := P'
  refine El_eeea ht fun Ta oT ts r_3 x_ => ?_; (first | subst r_3 | cases r_3)
  unfold cameBackBy
  refine wpAny_bind (wpAny_field he hd h1 ?_)
  rw [if_neg (by simp)]
  rw [T.frame]
  exact pend_flight (s := { s with heap := h' }) (fo := some X.L) P₀ fun h'' P'' => q h'' _ P''
theorem each_nil {σ : Type} {a : Nat} {all : List V} {F : V → σ → Mx (Option V × σ)} {st : σ} {r : Out (Option V × σ) × Mem} (e : eachM a all F [] st μ = some r) : r = (.ok (none, st), μ) ∧ μ[a]? = some (.list all) := by
  unfold eachM at e
  rcases bnd_some e with ⟨_, _, _, q, _⟩ | ⟨_, μ', q, e⟩
  · obtain ⟨z, _⟩ := sameM_some q; cases z
  · obtain ⟨z, hm⟩ := sameM_some q; cases z; cases e; exact ⟨rfl, hm⟩
theorem each_cons {σ : Type} {a : Nat} {all : List V} {F : V → σ → Mx (Option V × σ)} {st : σ} {v : V} {vs : List V} {r : Out (Option V × σ) × Mem} (e : eachM a all F (v :: vs) st μ = some r) : μ[a]? = some (.list all) ∧ (bnd (F v st) fun
    | (some w, s') => ret (some w, s')
    | (none, s') => eachM a all F vs s') μ = some r := by
  unfold eachM at e
  rcases bnd_some e with ⟨_, _, _, q, _⟩ | ⟨_, μ', q, e⟩
  · obtain ⟨z, _⟩ := sameM_some q; cases z
  · obtain ⟨z, hm⟩ := sameM_some q; cases z; exact ⟨hm, e⟩
noncomputable def LoopInv (K : Frag) (w : World) (prog : Program) (X : Fx) (ex : List (Addr × Obj)) (cs₁ : List CO) (a : Nat) (ax I : Addr) (xs : List V) (F : V → Loc → Mx (Option V × Loc)) (r : Out (Option V × Loc) × Mem) (n : Nat) (s : Shared) : Prop :=
  ∃ i cs μ oI m ρ, n = (xs.drop i).length ∧ Grow (adr cs₁) (adr cs) ∧ SR K w prog X m ((I, oI) :: ex) cs μ s ∧ itObj ax i oI ∧ LR K X ex X.env m (adr cs) ρ ∧ eachM a xs F (xs.drop i) ρ μ = some r
theorem for_loop (T : FxOk K mg mb n X) (B : BodyOk X k) (HC : CallS K w prog X C) {t : Expr} {b : List Stmt} (hb : ∀ ex, PSs K w prog X ex k C b) {a : Nat} {ax I : Addr} {xs : List V} {cs₁ : List CO} {r : Out (Option V × Loc) × Mem} {Q : Flow → Shared → Prop} {E : Value → Shared → Prop} (hax : (adr cs₁)[a]? = some ax)
    (q : Post K w prog X ex cs₁ (XO K w prog X ex) (SQ K X ex) Q E r) (j : Nat) (hI : LoopInv K w prog X ex cs₁ a ax I xs (fun v ρ' => bnd (asgT C k t v ρ') fun ρ'' => exSs C k b ρ'') r j s) :
    codeAny (model prog w) X.A (.forLoop t (.ref I) b [] X.env) (fun r s' => match r with | .ok f => Q f s' | .error e => cameBackBy (model prog w) X.A X.env E e s') s := by
  refine forLoop_any (LoopInv K w prog X ex cs₁ a ax I xs (fun v ρ' => bnd (asgT C k t v ρ') fun ρ'' => exSs C k b ρ'') r) ?_ j hI
  rintro j s ⟨i, cs, μ, oI, m, ρ, rfl, g, S, hit, l, e⟩
  have hI0 := (S.1.led _ (.head _)).1
  cases hr : xs.drop i with
  | nil =>
    rw [hr] at e
    obtain ⟨z, hm⟩ := each_nil e
    subst z
    refine El_eeaa (isList_at S (g.at hax) hm) fun vs nn ho hl hrl => ?_
    have hnone : vs.toArray[i]? = none := by
      simp only [List.getElem?_toArray]
      rw [List.getElem?_eq_none_iff, ← hrl.length]
      exact List.drop_eq_nil_iff.mp hr
    refine wpAny_pyNext_list_end T.hnd (hit _ _ hI0) hl hnone fun h' hb' => ?_
    have S' : SRh K w prog X m ex cs μ h' := SRh.exForget (pre := [(I, oI)]) S.1 fun b o hbn eo => hb' b o (by simpa using hbn) eo
    exact wpAny_execs_nil (q _ cs m .next g ⟨S', S.2⟩ ⟨l, rfl⟩)
  | cons v rest =>
    rw [hr] at e
    obtain ⟨hm, e1⟩ := each_cons e
    have hv : xs[i]? = some v := by
      have := congrArg (fun l => l[0]?) hr
      simpa using this
    have hrest : xs.drop (i + 1) = rest := by rw [← List.drop_drop, hr]; rfl
    refine El_eeaa (isList_at S (g.at hax) hm) fun vs nn ho hl hrl => ?_
    refine El_ea (hrl.get hv) fun val hval hvv => ?_
    refine wpAny_pyNext_list_item (hit _ _ hI0) hl (by simpa using hval) fun h₁ hit₁ hs₁ => ?_
    refine El_ea (itObj_of hit₁) fun oI' hoI' nI' => ?_
    have S₁ : SR K w prog X m ((I, oI') :: ex) cs μ { s with heap := h₁ } := ⟨SRh.exChange (pre := [(I, oI)]) (pre' := [(I, oI')]) S.1 (fun b o hbn eo => (hs₁.2 b (by simpa using hbn)).trans eo) (fun q hq => by rw [List.mem_singleton.mp hq]; exact hoI') rfl, S.2⟩
    have notcell : ∀ v, oI'.data ≠ .cell v := fun v z => by
      refine El_eaa (nI' _ _ hoI') fun o ho' x_ hd => ?_
      rw [hoI'] at ho'; cases ho'; rw [hd] at z; cases z
    have hLI : X.env.locals ≠ I := fun z => by
      have hd := S.1.dist
      rw [← z, B.loc] at hd
      exact (List.nodup_cons.mp hd).1 (List.mem_append_right _ (.head _))
    refine own_go (s := { s with heap := h₁ }) hit₁ ?_
    have hE : Post K w prog X ((I, oI') :: ex) cs (XO K w prog X ((I, oI') :: ex)) (SQ K X ((I, oI') :: ex)) (fun x_ x_ => True) (notedBy (model prog w) X.A X.env fun e s' => cameBackBy (model prog w) X.A X.env E e s') r := by
      obtain ⟨o, μ'⟩ := r
      cases o with
      | ok _ => exact fun x_ x_ x_ x_ x_ x_ x_ => trivial
      | exc sy d =>
        intro s' cs' m' e' g' z
        obtain ⟨⟨dx, tb, P⟩, z2⟩ := z
        exact note_back T (E' := _) P fun h' tb' P' => q _ cs' m' e' (g.trans g') ⟨⟨dx, tb', P'.drop (pre := [(I, oI')])⟩, z2⟩
    rw [bnd_assoc] at e1
    have l₁ : LR K X ((I, oI') :: ex) X.env m (adr cs) ρ := l.wide fun q hq => .tail _ hq
    refine (asgT_snd T B HC l₁ hvv).use (Grow.refl _) S₁ e1 hE fun m₁ cs₂ ρ₂ x_ μ₂ s₂ g₂ S₂ l₂ e₂ hE₂ => ?_
    refine (hb ((I, oI') :: ex) m₁ cs₂ ρ₂ l₂).use (Grow.refl _) S₂ e₂ hE₂ fun m₃ cs₃ o₃ f₃ μ₃ s₃ g₃ S₃ hf e₃ x_ => ?_
    obtain ⟨o, ρ₃⟩ := o₃
    obtain ⟨l₃, hf⟩ := hf
    dsimp only at l₃ hf
    cases o with
    | none =>
      cases (show f₃ = .next from hf)
      refine ⟨_, ?_, i + 1, cs₃, μ₃, oI', m₃, ρ₃, rfl, g.trans (g₂.trans g₃), S₃, nI', l₃.back notcell hLI, hrest ▸ e₃⟩
      rw [hrest]; simp
    | some u =>
      refine El_ea hf fun uv r_1 hu => ?_; (first | subst r_1 | cases r_1)
      have e₄ : some ((Out.ok ((some u : Option V), ρ₃), μ₃) : Out (Option V × Loc) × Mem) = some r := e₃
      cases e₄
      exact q s₃ cs₃ m₃ _ (g.trans (g₂.trans g₃)) ⟨SRh.exDrop (pre := [(I, oI')]) S₃.1, S₃.2⟩ ⟨l₃.back notcell hLI, uv, rfl, hu⟩
theorem For_list (T : FxOk K mg mb n X) (B : BodyOk X k) (HC : CallS K w prog X C) {t it : Expr} {b : List Stmt} {p : Pos} (hn : notSet it = true) (hb : ∀ ex, PSs K w prog X ex k C b) (l : LR K X ex X.env m (adr cs₀) ρ) :
    Snd K w prog X ex (XO K w prog X ex) m cs₀ (exec (.For t it b [] p) X.env) (bnd (evE C k ρ it) fun v => bnd (listOfM v) fun p => eachM p.1 p.2 (fun v ρ' => bnd (asgT C k t v ρ') fun ρ'' => exSs C k b ρ'') p.2 ρ) (SQ K X ex) := fun cs μ s r Q E g S e q => by
  refine wpAny_For ?_ (notSet_fold hn)
  refine (evE_snd T HC it B.eo l).use g S e q fun m₁ cs₁ v xv μ₁ s₁ g₁ S₁ hv e₁ q₁ => ?_
  obtain ⟨rfl, hv⟩ := hv
  obtain ⟨a, xs, rfl, hm, e₁⟩ := listOfM_ref e₁
  dsimp only at e₁
  refine El_ea hv.ref_inv fun ax r_1 hax => ?_; (first | subst r_1 | cases r_1)
  refine El_eeaa (isList_at S₁ hax hm) fun vs nn ho hl hr => ?_
  refine wpAny_pyIter_list hl ?_
  have Sa := S₁.exAdd { cls := .type "list_iterator", data := .fields #[.ref ax, .int 0 0] } rfl
  exact for_loop T B HC hb hax q₁ _ ⟨0, cs₁, _, _, _, ρ, rfl, Grow.refl _, Sa, (fun h a e => ⟨_, e, rfl, rfl⟩), l.grow (g.trans g₁), e₁⟩
end
/-! ## Loops over a range -/
section
variable {K : Frag} {w : World} {prog : Program} {X : Fx} {m m' : NsMap} {ex ex' : List (Addr × Obj)} {XR XR' : XRel} {cs cs₀ : List CO} {μ : Mem} {s : Shared} {mg mb : NsMap} {n : Nat} {h h' : Heap} {k : Kinds} {ρ : Loc} {C : CallT} {env : Env}
noncomputable abbrev rgObj (x left : Int) : Obj := { cls := .type "range_iterator", dict := none, data := .fields #[rawInt x, rawInt left, rawInt 1], slots := #[] }
noncomputable def RangeInv (K : Frag) (w : World) (prog : Program) (X : Fx) (ex : List (Addr × Obj)) (cs₁ : List CO) (I : Addr) (F : V → Loc → Mx (Option V × Loc)) (r : Out (Option V × Loc) × Mem) (n : Nat) (s : Shared) : Prop :=
  ∃ i cs μ m ρ, Grow (adr cs₁) (adr cs) ∧ SR K w prog X m ((I, rgObj (i : Nat) n) :: ex) cs μ s ∧ LR K X ex X.env m (adr cs) ρ ∧ rangeM F n i ρ μ = some r
theorem range_go {M : Model} {A : Around} {t : Expr} {I : Addr} {x left : Int} {v : Value} {Q : Unit → Shared → Prop} {E : Value → Shared → Prop} (hit : IsRangeIter s.heap I x left 1) (q : Q () s) : wpAny M A (letOwnedTupleGo t (.ref I) v) Q E s := by
  have core : wpAny M A (match (Value.ref I, v) with
    | (.ref r, .ref a) => do
      let o ← load r
      match o.cls, o.data with
      | .type n, .fields vs =>
        if ["enumerate", "zip", "dict_itemiterator", "dict_reverseitemiterator", "odict_iterator", "itertools.zip_longest", "itertools.pairwise"].contains n && vs[0]? == some (rawInt a) then
          rule "for.unpacks-the-owned-tuple"
          updateField r 0 .none
      | _, _ => pure ()
    | _ => pure ()) Q E s := by
    cases v with
    | ref a =>
      refine wpAny_bind (wpAny_load hit ?_)
      dsimp only
      rw [if_neg (by simp)]
      exact wpAny_pure q
    | _ => exact wpAny_pure q
  cases t with
  | Tuple a b c => exact core
  | List a b => exact core
  | _ => exact wpAny_pure q
theorem range_succ {σ : Type} {F : V → σ → Mx (Option V × σ)} {st : σ} {j i : Nat} {r : Out (Option V × σ) × Mem} (e : rangeM F (j + 1) i st μ = some r) : (bnd (F (.int i) st) fun
    | (some w, s') => ret (some w, s')
    | (none, s') => rangeM F j (i + 1) s') μ = some r := by
  unfold rangeM at e
  exact e
theorem range_loop (T : FxOk K mg mb n X) (B : BodyOk X k) (HC : CallS K w prog X C) {t : Expr} {b : List Stmt} (hb : ∀ ex, PSs K w prog X ex k C b) {I : Addr} {cs₁ : List CO} {r : Out (Option V × Loc) × Mem} {Q : Flow → Shared → Prop} {E : Value → Shared → Prop}
    (q : Post K w prog X ex cs₁ (XO K w prog X ex) (SQ K X ex) Q E r) (j : Nat) (hI : RangeInv K w prog X ex cs₁ I (fun v ρ' => bnd (asgT C k t v ρ') fun ρ'' => exSs C k b ρ'') r j s) :
    codeAny (model prog w) X.A (.forLoop t (.ref I) b [] X.env) (fun r s' => match r with | .ok f => Q f s' | .error e => cameBackBy (model prog w) X.A X.env E e s') s := by
  refine forLoop_any (RangeInv K w prog X ex cs₁ I (fun v ρ' => bnd (asgT C k t v ρ') fun ρ'' => exSs C k b ρ'') r) ?_ j hI
  rintro j s ⟨i, cs, μ, m, ρ, g, S, l, e⟩
  have hI0 := (S.1.led _ (.head _)).1
  cases j with
  | zero =>
    have e' : some ((Out.ok ((none : Option V), ρ), μ) : Out (Option V × Loc) × Mem) = some r := e
    cases e'
    refine wpAny_pyNext_range_end T.hnd hI0 (by simp) fun h' hb' => ?_
    have S' : SRh K w prog X m ex cs μ h' := SRh.exForget (pre := [(I, _)]) S.1 fun b o hbn eo => hb' b o (by simpa using hbn) eo
    exact wpAny_execs_nil (q _ cs m .next g ⟨S', S.2⟩ ⟨l, rfl⟩)
  | succ j =>
    have e1 := range_succ e
    refine wpAny_pyNext_range_item hI0 (by omega) fun h₁ hit₁ hs₁ => ?_
    have hit₂ : IsRangeIter h₁ I ((i + 1 : Nat) : Int) (j : Nat) 1 := by
      have e1 : ((i + 1 : Nat) : Int) = (i : Int) + 1 := by omega
      have e2 : ((j : Nat) : Int) = ((j + 1 : Nat) : Int) - 1 := by omega
      rw [e1, e2]; exact hit₁
    have S₁ : SR K w prog X m ((I, rgObj ((i + 1 : Nat) : Int) (j : Nat)) :: ex) cs μ { s with heap := h₁, toks := s.toks + 1 } := ⟨SRh.exChange (pre := [(I, _)]) (pre' := [(I, rgObj ((i + 1 : Nat) : Int) (j : Nat))]) S.1 (fun b o hbn eo => (hs₁.2 b (by simpa using hbn)).trans eo) (fun q hq => by rw [List.mem_singleton.mp hq]; exact hit₂) rfl, S.2⟩
    have hLI : X.env.locals ≠ I := fun z => by
      have hd := S.1.dist
      rw [← z, B.loc] at hd
      exact (List.nodup_cons.mp hd).1 (List.mem_append_right _ (.head _))
    refine range_go (s := { s with heap := h₁, toks := s.toks + 1 }) hit₂ ?_
    have hE : Post K w prog X ((I, rgObj ((i + 1 : Nat) : Int) (j : Nat)) :: ex) cs (XO K w prog X ((I, rgObj ((i + 1 : Nat) : Int) (j : Nat)) :: ex)) (SQ K X ((I, rgObj ((i + 1 : Nat) : Int) (j : Nat)) :: ex)) (fun x_ x_ => True) (notedBy (model prog w) X.A X.env fun e s' => cameBackBy (model prog w) X.A X.env E e s') r := by
      obtain ⟨o, μ'⟩ := r
      cases o with
      | ok _ => exact fun x_ x_ x_ x_ x_ x_ x_ => trivial
      | exc sy d =>
        intro s' cs' m' e' g' z
        obtain ⟨⟨dx, tb, P⟩, z2⟩ := z
        exact note_back T (E' := _) P fun h' tb' P' => q _ cs' m' e' (g.trans g') ⟨⟨dx, tb', P'.drop (pre := [(I, _)])⟩, z2⟩
    rw [bnd_assoc] at e1
    have l₁ : LR K X ((I, rgObj ((i + 1 : Nat) : Int) (j : Nat)) :: ex) X.env m (adr cs) ρ := l.wide fun q hq => .tail _ hq
    refine (asgT_snd T B HC l₁ .int).use (Grow.refl _) S₁ e1 hE fun m₁ cs₂ ρ₂ x_ μ₂ s₂ g₂ S₂ l₂ e₂ hE₂ => ?_
    refine (hb _ m₁ cs₂ ρ₂ l₂).use (Grow.refl _) S₂ e₂ hE₂ fun m₃ cs₃ o₃ f₃ μ₃ s₃ g₃ S₃ hf e₃ x_ => ?_
    obtain ⟨o, ρ₃⟩ := o₃
    obtain ⟨l₃, hf⟩ := hf
    dsimp only at l₃ hf
    cases o with
    | none =>
      cases (show f₃ = .next from hf)
      exact ⟨j, Nat.lt_succ_self _, i + 1, cs₃, μ₃, m₃, ρ₃, g.trans (g₂.trans g₃), S₃, l₃.back (fun v z => by cases z) hLI, e₃⟩
    | some u =>
      refine El_ea hf fun uv r_1 hu => ?_; (first | subst r_1 | cases r_1)
      have e₄ : some ((Out.ok ((some u : Option V), ρ₃), μ₃) : Out (Option V × Loc) × Mem) = some r := e₃
      cases e₄
      exact q s₃ cs₃ m₃ _ (g.trans (g₂.trans g₃)) ⟨SRh.exDrop (pre := [(I, _)]) S₃.1, S₃.2⟩ ⟨l₃.back (fun v z => by cases z) hLI, uv, rfl, hu⟩
set_option tactic.hygienic true in
set_option backward.match.sparseCases false in
theorem For_range (T : FxOk K mg mb n X) (B : BodyOk X k) (HC : CallS K w prog X C) {t it e : Expr} {b : List Stmt} {p : Pos} (hr : rangeOf k ρ it = some e) (hb : ∀ ex, PSs K w prog X ex k C b) (l : LR K X ex X.env m (adr cs₀) ρ) :
    Snd K w prog X ex (XO K w prog X ex) m cs₀ (exec (.For t it b [] p) X.env) (bnd (evE C k ρ e) fun
      | .int n => if small n then rangeM (fun v ρ' => bnd (asgT C k t v ρ') fun ρ'' => exSs C k b ρ'') n.toNat 0 ρ else stuck
      | _ => stuck) (SQ K X ex) := by
  refine El_eeea (rangeOf_some hr) fun x p1 p2 r_3 hx => ?_; (first | subst r_3 | cases r_3)
  by_cases hst : noStar [e] = true
  · intro cs μ s r Q E g S e₀ q
    refine wpAny_For ?_
    show wpAny _ _ (eval (.Name x p1) X.env >>= fun fv => callWith p2 fv [] (backTo p2 (starEach [e] X.env)) []) _ _ _
    have hname := name_snd (K := K) (w := w) (prog := prog) (m := m) (XR := XO K w prog X ex) B.eo T (l.grow g) x p1 cs μ s (.ok (.ty "range"), μ)
    refine wpAny_bind (hname _ _ (Grow.refl _) S (by rw [hx]; rfl) fun s₁ cs₁ m₁ fv g₁ S₁ hf => ?_)
    obtain ⟨rfl, hf⟩ := hf
    rw [hf.ty_inv]
    refine PySem.callWith_type (star_any hst _) (args_wp (star_any hst _) ?_)
    have hs := (EsOk.cons (evE_snd T HC e B.eo (l.grow (g.trans g₁))) EsOk.nil).spl hst p2
    have e₁ : (bnd (bnd (evE C k ρ e) fun v => bnd (ret []) fun vs => ret (v :: vs)) fun vs => match vs with
      | [.int n] => if small n then rangeM (fun v ρ' => bnd (asgT C k t v ρ') fun ρ'' => exSs C k b ρ'') n.toNat 0 ρ else stuck
      | _ => stuck) μ = some r := by
      rw [bnd_assoc]
      unfold bnd at e₀ ⊢
      revert e₀
      cases evE C k ρ e μ with
      | none => intro z; cases z
      | some o =>
        obtain ⟨o, μ'⟩ := o
        cases o with
        | exc _ _ => exact id
        | ok v => cases v <;> exact id
    have q₁ : Post K w prog X ex cs₁ (XO K w prog X ex) (SQ K X ex) Q E r := by
      obtain ⟨o, μ'⟩ := r
      cases o with
      | ok _ => exact fun s' cs' m' a g' => q s' cs' m' a (g₁.trans g')
      | exc _ _ => exact fun s' cs' m' a g' => q s' cs' m' a (g₁.trans g')
    refine hs.use (Grow.refl _) S₁ e₁ q₁ fun m₂ cs₂ vs ws μ₂ s₂ g₂ S₂ hv e₂ q₂ => ?_
    obtain ⟨rfl, hv⟩ := hv
    split at e₂
    · rename_i nn
      split at e₂
      · rename_i hsm
        cases hv with
        | cons h1 h2 =>
        cases h2
        obtain ⟨tk, rfl⟩ := h1.int_inv
        simp only [small, decide_eq_true_eq] at hsm
        refine call_range_1 ?_
        refine wpAny_pyIter_range (IsRange.new _ _ _ _ _ _ _) (small_one (by decide) (by decide) (by omega) (by omega)) ?_
        have hsz : Builtin.Range.rangeSize 0 nn 1 = ((nn.toNat : Nat) : Int) := by
          rw [rangeSize_one]
          split <;> omega
        have Sr := S₂.push { cls := .type "range", data := .fields #[.int 0 s₂.toks, .int nn tk, .int 1 (s₂.toks + 1)] }
        have Sa := Sr.exAdd (rgObj 0 nn.toNat) rfl
        refine range_loop T B HC hb (I := (s₂.heap.push { cls := .type "range", data := .fields #[.int 0 s₂.toks, .int nn tk, .int 1 (s₂.toks + 1)] }).objs.size) q₂ nn.toNat ⟨0, cs₂, μ₂, _, ρ, Grow.refl _, ?_, l.grow (g.trans (g₁.trans g₂)), e₂⟩
        rw [hsz]
        exact Sa
      · cases e₂
    · cases e₂
  · refine Snd.none fun μ => ?_
    have : evE C k ρ e μ = none := by
      cases e <;> first | rfl | exact absurd rfl hst
    unfold bnd; rw [this]
end
section
variable {K : Frag} {w : World} {prog : Program} {X : Fx} {m m' : NsMap} {ex ex' : List (Addr × Obj)} {XR XR' : XRel} {cs cs₀ : List CO} {μ : Mem} {s : Shared} {mg mb : NsMap} {n : Nat} {h h' : Heap} {k : Kinds} {ρ : Loc} {C : CallT} {env : Env}
set_option backward.match.sparseCases false in
theorem For_snd (T : FxOk K mg mb n X) (B : BodyOk X k) (HC : CallS K w prog X C) {t it : Expr} {b o : List Stmt} {p : Pos} (hb : ∀ ex, PSs K w prog X ex k C b) : PS K w prog X ex k C (.For t it b o p) := fun m cs ρ l => by
  cases o with
  | cons _ _ => exact Snd.stuck
  | nil =>
    show Snd K w prog X ex _ m cs _ (match rangeOf k ρ it with
      | some e => bnd (evE C k ρ e) fun
        | .int n => if small n then rangeM (fun v ρ' => bnd (asgT C k t v ρ') fun ρ'' => exSs C k b ρ'') n.toNat 0 ρ else stuck
        | _ => stuck
      | none => if notSet it then bnd (evE C k ρ it) fun v => bnd (listOfM v) fun p => eachM p.1 p.2 (fun v ρ' => bnd (asgT C k t v ρ') fun ρ'' => exSs C k b ρ'') p.2 ρ else stuck) _
    cases hr : rangeOf k ρ it with
    | some e => exact For_range T B HC hr hb l
    | none => exact Snd.ite fun hn => For_list T B HC hn hb l
end
section
variable {K : Frag} {w : World} {prog : Program} {X : Fx} {m m' : NsMap} {ex ex' : List (Addr × Obj)} {XR XR' : XRel} {cs cs₀ : List CO} {μ : Mem} {s : Shared} {mg mb : NsMap} {n : Nat} {h h' : Heap} {k : Kinds} {ρ : Loc} {C : CallT} {env : Env}
/-- every statement, given raises and tries -/
theorem exS_all (T : FxOk K mg mb n X) (B : BodyOk X k) (HC : CallS K w prog X C) (hR : ∀ ex e c p, PS K w prog X ex k C (.Raise e c p)) (hT : ∀ ex b hs o f p, (∀ ex, PSs K w prog X ex k C b) → PS K w prog X ex k C (.Try b hs o f p)) :
    ∀ (j : Nat) (st : Stmt), sizeOf st < j → ∀ ex, PS K w prog X ex k C st := by
  intro j
  induction j with
  | zero => intro st hj; exact absurd hj (Nat.not_lt_zero _)
  | succ j ih =>
    intro st hj ex
    have sub : ∀ l : List Stmt, sizeOf l < sizeOf st → ∀ ex, PSs K w prog X ex k C l := fun l hl ex => exSs_of fun st' hs => ih st' (Nat.lt_of_lt_of_le (Nat.lt_trans (List.sizeOf_lt_of_mem hs) hl) (Nat.le_of_lt_succ hj)) ex
    clear ih hj
    cases st with
    | Expr e p => exact Expr_snd T B HC
    | Return e p => exact Return_snd T B HC
    | Assign ts e p => exact Assign_snd T B HC
    | If t b o p => exact If_snd T B HC (sub b (by simp only [Stmt.If.sizeOf_spec]; omega) ex) (sub o (by simp only [Stmt.If.sizeOf_spec]; omega) ex)
    | For t it b o p => exact For_snd T B HC (sub b (by simp only [Stmt.For.sizeOf_spec]; omega))
    | Raise e c p => exact hR ex e c p
    | Try b hs o f p => exact hT ex b hs o f p (sub b (by simp only [Stmt.Try.sizeOf_spec]; omega))
    | _ => exact fun m cs ρ l => Snd.stuck
end
/-! ## Built-ins -/
section
variable {K : Frag} {w : World} {prog : Program} {X : Fx} {m m' : NsMap} {ex ex' : List (Addr × Obj)} {XR XR' : XRel} {cs cs₀ : List CO} {μ : Mem} {s : Shared} {mg mb : NsMap} {n : Nat} {h h' : Heap} {k : Kinds} {ρ : Loc} {C : CallT} {env : Env}
theorem SR.keeps {h' : Heap} {tk : Nat} (S : SR K w prog X m ex cs μ s) (hb : ∀ b o, s.heap.get? b = some o → h'.get? b = some o) : SR K w prog X m ex cs μ { s with heap := h', toks := tk } := ⟨S.1.keep hb, S.2⟩
theorem small63 {n : Nat} (h : n ≤ big) : (n : Int) < 2 ^ 63 := Int.lt_of_le_of_lt (Int.ofNat_le.mpr h) (by decide)
set_option backward.match.sparseCases false in
theorem len_snd {a : Nat} {vo : Value} (ho : VR K (adr cs₀) (.ref a) vo) : Snd K w prog X ex XR m cs₀ (call (.builtin "len") [vo] []) (bnd (getM a) fun
    | .list xs => ret (.int xs.length)
    | _ => stuck) (VQ K m) := fun cs μ s r Q E g S e p => by
  refine El_ea ho.ref_inv fun x r_1 hx => ?_; (first | subst r_1 | cases r_1)
  refine El_ea (getM_ref e) fun o hm e => ?_
  cases o with
  | list xs =>
    cases e
    refine El_eeaa (isList_at S (g.at hx) hm) fun vs nn ho hl hr => ?_
    exact Calls.call_len_list hl (small63 (show vs.length ≤ big from hr.length ▸ szList S hm)) (p _ cs m _ (Grow.refl _) S ⟨rfl, by rw [List.size_toArray, ← hr.length]; exact .int⟩)
  | _ => exact no_some e
set_option backward.match.sparseCases false in
theorem min_snd (T : FxOk K mg mb n X) {i j : Int} {va vb : Value} (ha : VR K (adr cs₀) (.int i) va) (hb : VR K (adr cs₀) (.int j) vb) : Snd K w prog X ex XR m cs₀ (call (.builtin "min") [va, vb] []) (ret (.int (if j < i then j else i))) (VQ K m) := fun cs μ s r Q E g S e p => by
  obtain ⟨t, rfl⟩ := ha.int_inv
  obtain ⟨u, rfl⟩ := hb.int_inv
  cases e
  refine min_two_ints T.hnd fun h' tk hk => p _ cs m _ (Grow.refl _) (S.keeps hk) ⟨rfl, ?_⟩
  split <;> exact .int
set_option backward.match.sparseCases false in
theorem max_snd (T : FxOk K mg mb n X) {i j : Int} {va vb : Value} (ha : VR K (adr cs₀) (.int i) va) (hb : VR K (adr cs₀) (.int j) vb) : Snd K w prog X ex XR m cs₀ (call (.builtin "max") [va, vb] []) (ret (.int (if i < j then j else i))) (VQ K m) := fun cs μ s r Q E g S e p => by
  obtain ⟨t, rfl⟩ := ha.int_inv
  obtain ⟨u, rfl⟩ := hb.int_inv
  cases e
  refine max_two_ints T.hnd fun h' tk hk => p _ cs m _ (Grow.refl _) (S.keeps hk) ⟨rfl, ?_⟩
  by_cases hij : i < j
  · rw [if_pos hij, if_pos (show j > i from hij)]; exact .int
  · rw [if_neg hij, if_neg (show ¬ j > i from hij)]; exact .int
set_option backward.match.sparseCases false in
theorem abs_snd {i : Int} {va : Value} (ha : VR K (adr cs₀) (.int i) va) : Snd K w prog X ex XR m cs₀ (call (.builtin "abs") [va] []) (ret (.int i.natAbs)) (VQ K m) := fun cs μ s r Q E g S e p => by
  obtain ⟨t, rfl⟩ := ha.int_inv
  cases e
  refine call_abs_int fun u tk => p _ cs m _ (Grow.refl _) S ⟨rfl, ?_⟩
  have : (if i < 0 then -i else i) = (i.natAbs : Int) := by split <;> omega
  rw [this]; exact .int
set_option backward.match.sparseCases false in
theorem append_snd {a : Nat} {v : V} {vo vv : Value} (ho : VR K (adr cs₀) (.ref a) vo) (hv : VR K (adr cs₀) v vv) : Snd K w prog X ex XR m cs₀ (call (.builtin "list.append") [vo, vv] []) (bnd (getM a) fun
    | .list xs => bnd (setM a (.list (xs ++ [v]))) fun x_ => ret .none
    | _ => stuck) (VQ K m) := fun cs μ s r Q E g S e p => by
  refine El_ea ho.ref_inv fun x r_1 hx => ?_; (first | subst r_1 | cases r_1)
  refine El_ea (getM_ref e) fun o hm e => ?_
  cases o with
  | list xs =>
    refine El_aa (setM_ref e) fun hz h0 e => ?_
    cases e
    obtain ⟨c, hc, rfl, ⟨vs, nn, h1, h2, h3⟩, hg, _⟩ := co_at S (g.at hx) hm
    have hb1 : xs.length ≤ big := szList S hm
    refine wpAny_list_append_plain ⟨nn, by rw [hg, h1]⟩ (fun h' hp hs => ?_) (by simp only [List.size_toArray]; rw [← h3.length]; exact Nat.le_trans hb1 big_line)
    obtain ⟨n', ho'⟩ := hp
    have ho'' : h'.get? c.x = some (listObj (vs ++ [vv]) n') := by rw [ho']; simp
    have hadr := adr_set (c' := ⟨c.x, listObj (vs ++ [vv]) n', none⟩) hc rfl
    refine p _ (cs.set a ⟨c.x, listObj (vs ++ [vv]) n', none⟩) m _ (by rw [hadr]; exact Grow.refl _) ⟨S.1.change (d := c.x) h0 hz hc (by simp [CO.ents]) (fun b hb => hs.2 b hb) rfl (by simp [CO.ents, h2]) (fun q hq => ?_) ⟨_, _, rfl, rfl, h3.append (.cons (hv.grow g) .nil)⟩, S.2⟩ ⟨rfl, .none⟩
    simp only [CO.ents, Option.toList_none, List.mem_cons, List.not_mem_nil, or_false] at hq
    rw [hq]; exact ho''
  | _ => cases e
end
section
variable {K : Frag} {w : World} {prog : Program} {X : Fx} {m m' : NsMap} {ex ex' : List (Addr × Obj)} {XR XR' : XRel} {cs cs₀ : List CO} {μ : Mem} {s : Shared} {mg mb : NsMap} {n : Nat} {h h' : Heap} {k : Kinds} {ρ : Loc} {C : CallT} {env : Env}
set_option backward.match.sparseCases false in
theorem get_snd {a : Nat} {k : Str} {d : V} {vo vi vd : Value} (ho : VR K (adr cs₀) (.ref a) vo) (hi : VR K (adr cs₀) (.str k) vi) (hd : VR K (adr cs₀) d vd) : Snd K w prog X ex XR m cs₀ (call (.builtin "dict.get") [vo, vi, vd] []) (bnd (getM a) fun
    | .dict es => if kindKey (.str k) es then ret ((getD (.str k) es).getD d) else stuck
    | _ => stuck) (VQ K m) := fun cs μ s r Q E g S e p => by
  refine El_ea ho.ref_inv fun x r_1 hx => ?_; (first | subst r_1 | cases r_1)
  obtain ⟨t, rfl⟩ := hi.str_inv
  refine El_ea (getM_ref e) fun o hm e => ?_
  cases o with
  | dict es =>
    obtain ⟨hk, e⟩ := if_stuck e
    cases e
    refine El_eaaaa (co_at S (g.at hx) hm) fun c hc r_2 hO hg hns => ?_; (first | subst r_2 | cases r_2)
    refine (dict_kind hO hk).elim (fun h => ?_) fun h => h.1.elim fun _ z => by cases z
    refine El_aaea h fun x_ x_ kvs hdo hp => ?_
    have hD := Heap.dictOf_iff.mpr ⟨_, hg, hdo⟩
    refine call_meetsIn PySem.F.slot_dict_get hD.typeIs PySem.F.entry_dict_get (PySem.F.args_dict_get_3 _ _ _) (meets_dict_get_default (strKind prog w) c.x (strKind_is prog w k t) (beq_eq_false_iff_ne.mpr hns) vd) ⟨_, hD.mapOf, ?_⟩
    refine p _ cs m _ (Grow.refl _) S ⟨rfl, ?_⟩
    cases hq : Mine.getD (V.str k) es with
    | none => rw [dget_none strInj hp hq]; exact hd.grow g
    | some v => refine El_ea (dget_some (P := VR K (adr cs)) strInj hp hq) fun val h1 h4 => ?_; rw [h1]; exact h4
  | _ => exact no_some e
end
section
variable {K : Frag} {w : World} {prog : Program} {X : Fx} {m m' : NsMap} {ex ex' : List (Addr × Obj)} {XR XR' : XRel} {cs cs₀ : List CO} {μ : Mem} {s : Shared} {mg mb : NsMap} {n : Nat} {h h' : Heap} {k : Kinds} {ρ : Loc} {C : CallT} {env : Env}
set_option tactic.hygienic true in
theorem post_more {o : MO} {c : CO} {Q : Value → Shared → Prop} {E : Value → Shared → Prop} {tk : Nat} (S : SR K w prog X m ex cs μ s) {r : Out V × Mem} (e : newM o μ = some r) (p : Post K w prog X ex cs XR (VQ K m) Q E r)
    (hk : ∀ b o, s.heap.get? b = some o → h'.get? b = some o) (hc : ∀ q ∈ c.ents, h'.get? q.1 = some q.2 ∧ s.heap.objs.size ≤ q.1) (hn : (c.ents.map (·.1)).Nodup) (ho : OR K w prog (adr (cs ++ [c])) o c) : Q (.ref c.x) { s with heap := h', toks := tk } := by
  unfold newM at e
  split at e
  · rename_i hz
    cases e
    have hlen : μ.length = cs.length := S.1.O.length
    refine p _ _ m _ (adr_push _ _) ⟨S.1.more hz hk hc hn ho, S.2⟩ ⟨rfl, ?_⟩
    rw [hlen]
    exact .ref (adr_last _ _)
  · cases e
set_option backward.match.sparseCases false in
theorem list_snd {v : V} {vo : Value} (ho : VR K (adr cs₀) v vo) : Snd K w prog X ex XR m cs₀ (call (.type "list") [vo] []) (bnd (listOfM v) fun p => newM (.list p.2)) (VQ K m) := fun cs μ s r Q E g S e p => by
  obtain ⟨a, xs, rfl, hm, e⟩ := listOfM_ref e
  refine El_ea ho.ref_inv fun x r_1 hx => ?_; (first | subst r_1 | cases r_1)
  refine El_eeaa (isList_at S (g.at hx) hm) fun vs nn hg hl hr => ?_
  have hz : vs.toArray.size ≤ sizeLine := by
    rw [List.size_toArray, ← hr.length]
    exact Nat.le_trans (szList S hm) big_line
  refine call_list_seq (hsz := hz) x (.inl rfl) hg rfl rfl fun h' c' hk hD => ?_
  refine post_more (c := ⟨_, _, none⟩) (tk := s.toks) S e p hk (fun q hq => ?_) (by simp [CO.ents]) ⟨vs, c', rfl, rfl, hr.mono fun x_ x_ z => z.grow (adr_push _ _)⟩
  simp only [CO.ents, Option.toList_none, List.mem_cons, List.not_mem_nil, or_false] at hq
  subst hq
  exact ⟨hD, Nat.le_refl _⟩
end
section
variable {K : Frag} {w : World} {prog : Program} {X : Fx} {m m' : NsMap} {ex ex' : List (Addr × Obj)} {XR XR' : XRel} {cs cs₀ : List CO} {μ : Mem} {s : Shared} {mg mb : NsMap} {n : Nat} {h h' : Heap} {k : Kinds} {ρ : Loc} {C : CallT} {env : Env}
theorem SRh.pushedAt (S : SRh K w prog X m ex cs μ h) {o : MO} (hz : szOk o = true) {lo : List (Addr × Obj)} {ob : Obj} {D : Addr} (hl : LowOk lo X.low) (F : Fr X.base X.L h' m) (N : News X.base X.L h' ((D, ob) :: (lo ++ (ex ++ nw cs)))) (hlt : ∀ q ∈ lo ++ (ex ++ nw cs), q.1 < D) (hsys : D ≠ sysModules)
    (ho : OR K w prog (adr (cs ++ [⟨D, ob, none⟩])) o ⟨D, ob, none⟩) : SRh K w prog X m ex (cs ++ [⟨D, ob, none⟩]) (μ ++ [o]) h' := by
  refine S.ofNews hl F (fun q hq => N q ?_) (fun q hq => ?_) (by rw [List.getElem?_append_left (by exact (List.getElem?_eq_some_iff.mp S.fro).1)]; exact S.fro) (fun o' ho' => by rcases List.mem_append.mp ho' with z | z; exact S.szs _ z; rw [List.mem_singleton.mp z]; exact hz) ?_ ((S.O.mono fun x_ x_ z => z.grow ⟨[D], by rw [adr_append]; rfl⟩).append (.cons ho .nil))
  · rw [nw_append, nw_one] at hq
    simp only [CO.ents, Option.toList_none, List.mem_append, List.mem_cons, List.not_mem_nil, or_false] at hq ⊢
    rcases hq with z | z | z | z
    · exact .inr (.inl z)
    · exact .inr (.inr (.inl z))
    · exact .inr (.inr (.inr z))
    · exact .inl z
  · rw [nw_append, nw_one] at hq
    simp only [CO.ents, Option.toList_none, List.mem_append, List.mem_cons, List.not_mem_nil, or_false] at hq
    rcases hq with z | z | z
    · exact (S.led q (List.mem_append_left _ z)).2.2
    · exact (S.led q (List.mem_append_right _ z)).2.2
    · rw [z]; exact hsys
  · rw [nw_append, nw_one, ← List.append_assoc ex, List.map_append, ← List.append_assoc]
    refine List.nodup_append.mpr ⟨S.dist, by simp [CO.ents], fun a ha b hb e => ?_⟩
    subst e
    simp only [CO.ents, Option.toList_none, List.map_cons, List.map_nil, List.mem_cons, List.not_mem_nil, or_false] at hb
    subst hb
    rcases List.mem_append.mp ha with z | z
    · rcases List.mem_cons.mp z with z | z
      · exact (N _ (.head _)).2.1 z
      · rw [← hl.map] at z
        refine El_ea (List.mem_map.mp z) fun q hq e => ?_
        have := hlt q (List.mem_append_left _ hq)
        rw [e] at this; exact Nat.lt_irrefl _ this
    · refine El_ea (List.mem_map.mp z) fun q hq e => ?_
      have := hlt q (List.mem_append_right _ hq)
      rw [e] at this; exact Nat.lt_irrefl _ this
end
/-! ## isinstance -/
section
variable {K : Frag} {w : World} {prog : Program} {X : Fx} {m m' : NsMap} {ex ex' : List (Addr × Obj)} {XR XR' : XRel} {cs cs₀ : List CO} {μ : Mem} {s : Shared} {mg mb : NsMap} {n : Nat} {A : Around} {E : Value → Shared → Prop} {Q : Value → Shared → Prop}
theorem ty_int : typeOf (.type "int") = pure (.type "type") := by first | rfl | (rw [typeOf]; rfl)
theorem ty_bool : typeOf (.type "bool") = pure (.type "type") := by first | rfl | (rw [typeOf]; rfl)
structure IsoAt (K : Frag) (D : Addr) : Prop where
  hg : plainGet K D "__class__" = true
  hd : hasDictIn K D = true
  ha : findIn K (.ref D) "__class__" = some (some (.builtin "object.__class__"))
  hm : mroIn K D (.type "object") = some true
  ni : kin_notT K D "int" = true
  nb : kin_notT K D "bool" = true
  cc : (([178, 290] : List Addr).all fun C => if D = C then isIn K (.ref D) C else kin_not K D C) = true
structure IsoAll (K : Frag) : Prop where
  cl : ∀ c ∈ clT, IsoAt K c.1
  hn : specialIn K (.builtin "object.__class__") "__get__" = some (some (.builtin "getset_descriptor.__get__"))
  ht : takesIn K (.builtin "object.__class__") = some true
  i1 : isNotIn K "int" 178 = true
  i2 : isNotIn K "int" 290 = true
  d1 : instDict K 135 = true
  d2 : instDict K 138 = true
theorem iso_all (h : isoOk K = true) : IsoAll K := by
  unfold isoOk at h
  simp only [Bool.and_eq_true, beq_iff_eq] at h
  obtain ⟨⟨⟨⟨⟨⟨a, b⟩, c⟩, d⟩, e⟩, f⟩, g⟩ := h
  refine ⟨fun c hc => ?_, b, c, d, e, f, g⟩
  have := List.all_eq_true.mp a c hc
  simp only [Bool.and_eq_true, beq_iff_eq] at this
  obtain ⟨⟨⟨⟨⟨⟨a, b⟩, c⟩, d⟩, e⟩, f⟩, g⟩ := this
  exact ⟨a, b, c, d, e, f, g⟩
theorem iso_inst (Z : IsoAll K) {x C D : Addr} {ox od : Obj} (Y : IsoAt K D) (X' : K.In s.heap) (I : W.InstAt s.heap x ox D (some od)) (hC : C = 178 ∨ C = 290) (h : ∀ tk, Q (.bool (D == C)) { s with toks := tk }) :
    wpAny (model prog w) A (call (.builtin "isinstance") [.ref x, .ref C] []) Q E s := by
  have hc := List.all_eq_true.mp Y.cc C (by rcases hC with rfl | rfl <;> simp)
  by_cases e : D = C
  · rw [if_pos e] at hc
    have : (D == C) = true := beq_iff_eq.mpr e
    rw [this] at h
    exact isi_call X' (fun M => I.type) hc (by intro q; cases q) (h s.toks)
  · rw [if_neg e] at hc
    have : (D == C) = false := beq_eq_false_iff_ne.mpr e
    rw [this] at h
    exact kin_callC X' I hc Y.hg Y.hd Y.ha Z.hn Z.ht Y.hm (h _)
theorem iso_instT (Z : IsoAll K) {x D : Addr} {ox od : Obj} {t : String} (Y : IsoAt K D) (X' : K.In s.heap) (I : W.InstAt s.heap x ox D (some od)) (hC : t = "int" ∨ t = "bool") (h : ∀ tk, Q (.bool false) { s with toks := tk }) :
    wpAny (model prog w) A (call (.builtin "isinstance") [.ref x, .type t] []) Q E s := by
  rcases hC with rfl | rfl
  · exact kin_callT X' I Y.ni ty_int Y.hg Y.hd Y.ha Z.hn Z.ht Y.hm (h _)
  · exact kin_callT X' I Y.nb ty_bool Y.hg Y.hd Y.ha Z.hn Z.ht Y.hm (h _)
theorem sym_mem : (129, (clT.lookup 129).getD ([], [])) ∈ clT := by decide +kernel
theorem iso_at {C : Addr} (Z : IsoAll K) (h : (clT.lookup C).isSome = true) : IsoAt K C := by
  obtain ⟨v, hv⟩ := Option.isSome_iff_exists.mp h
  exact Z.cl (C, v) (lookup_mem hv)
theorem top_inst {a : Addr} {h : Heap} (X' : K.In h) (hd : instDict K a = true) : ∃ ox od, W.InstAt h a ox 129 (some od) := by
  refine El_ea (any_of hd) fun o ho hd => ?_
  simp only [Bool.and_eq_true, beq_iff_eq] at hd
  obtain ⟨⟨h1, h2⟩, h3⟩ := hd
  refine El_ea (any_of h3) fun dx h4 h5 => ?_
  obtain ⟨od, hod⟩ := Option.isSome_iff_exists.mp h5
  exact ⟨o, od, X' _ _ ho, h1, h2, by rw [h4]; exact X' _ _ hod⟩
noncomputable def IsI (w : World) (prog : Program) (X : Fx) (s : Shared) (μ : Mem) (vv vc : Value) (r : Out Bool × Mem) : Prop :=
  ∃ b, r = (.ok b, μ) ∧ ∀ (Q : Value → Shared → Prop) (E : Value → Shared → Prop), (∀ tk, Q (.bool b) { s with toks := tk }) → wpAny (model prog w) X.A (call (.builtin "isinstance") [vv, vc] []) Q E s
theorem top_two (Z : IsoAll K) {a : Addr} (h : a = 135 ∨ a = 138) : instDict K a = true := h.elim (fun z => z ▸ Z.d1) fun z => z ▸ Z.d2
theorem isInt_at (Z : IsoAll K) (I : K.In s.heap) {as : List Addr} {v : V} {vv : Value} (hv : VR K as v vv) {r : Out Bool × Mem} (e : isIntM v μ = some r) : IsI w prog X s μ vv (.type "int") r := by
  cases v with
  | int i => cases e; obtain ⟨t, rfl⟩ := hv.int_inv; exact ⟨_, rfl, fun Q E q => IsiPair.int_int (q s.toks)⟩
  | top a =>
    obtain ⟨rfl, _⟩ := hv.top_inv
    obtain ⟨ha, e⟩ := if_stuck e
    cases e
    refine El_ee (top_inst I (top_two Z (.inl ha))) fun ox od J => ?_
    exact ⟨_, rfl, fun Q E q => iso_instT Z (Z.cl _ sym_mem) I J (.inl rfl) q⟩
  | _ => exact no_some e
theorem isBool_at {as : List Addr} {v : V} {vv : Value} (hv : VR K as v vv) {r : Out Bool × Mem} (e : isBoolM v μ = some r) : IsI w prog X s μ vv (.type "bool") r := by
  cases v with
  | int i => cases e; obtain ⟨t, rfl⟩ := hv.int_inv; exact ⟨_, rfl, fun Q E q => IsiPair.int_bool (q _)⟩
  | _ => exact no_some e
theorem isCls_at (Z : IsoAll K) (I : K.In s.heap) (S : SR K w prog X m ex cs μ s) {C : Addr} (hC : C = 178 ∨ C = 290) {v : V} {vv : Value} (hv : VR K (adr cs) v vv) {r : Out Bool × Mem} (e : isClsM C v μ = some r) : IsI w prog X s μ vv (.ref C) r := by
  cases v with
  | int i =>
    cases e
    obtain ⟨t, rfl⟩ := hv.int_inv
    rcases hC with rfl | rfl
    · exact ⟨_, rfl, fun Q E q => isn_call (P := fun x_ => True) I (fun M => Looks.of_pure rfl) Z.i1 (by intro q; cases q) trivial int_cls (q _)⟩
    · exact ⟨_, rfl, fun Q E q => isn_call (P := fun x_ => True) I (fun M => Looks.of_pure rfl) Z.i2 (by intro q; cases q) trivial int_cls (q _)⟩
  | top a =>
    obtain ⟨rfl, _⟩ := hv.top_inv
    obtain ⟨ha, e⟩ := if_stuck e
    cases e
    refine El_ee (top_inst I (top_two Z ha)) fun ox od J => ?_
    refine ⟨_, rfl, fun Q E q => iso_inst Z (Z.cl _ sym_mem) I J hC ?_⟩
    rcases hC with rfl | rfl <;> exact q
  | ref a =>
    refine El_ea hv.ref_inv fun x r_1 hx => ?_; (first | subst r_1 | cases r_1)
    refine El_ea (getM_ref e) fun o hm e => ?_
    cases o with
    | inst D fs =>
      obtain ⟨hcl, e⟩ := if_stuck e
      cases e
      refine El_eeeeaaaaaa (inst_at S hx hm) fun c' dx ds nn x_ x_ x_ x_ x_ J x_ => ?_
      exact ⟨_, rfl, fun Q E q => iso_inst Z (iso_at Z hcl) I J hC q⟩
    | _ => exact no_some e
  | _ => exact no_some e
theorem isInst_at (T : FxOk K mg mb n X) (S : SR K w prog X m ex cs μ s) {v c : V} {vv vc : Value} (hv : VR K (adr cs) v vv) (hc : VR K (adr cs) c vc) {r : Out Bool × Mem} (e : isInstM v c μ = some r) : IsI w prog X s μ vv vc r := by
  have Z := iso_all T.top.iso
  have I := T.top.inb.keeps S.1.stays
  cases c with
  | ty t =>
    cases hc.ty_inv
    by_cases h : t = "int"
    · subst h; exact isInt_at Z I hv e
    · obtain ⟨rfl, e⟩ := if_stuck ((congrFun (if_neg h) μ).symm.trans e)
      exact isBool_at hv e
  | top C =>
    obtain ⟨rfl, _⟩ := hc.top_inv
    obtain ⟨h, e⟩ := if_stuck e
    exact isCls_at Z I S h hv e
  | _ => exact no_some e
theorem isInst_snd (T : FxOk K mg mb n X) {v c : V} {vv vc : Value} (hv : VR K (adr cs₀) v vv) (hc : VR K (adr cs₀) c vc) :
    Snd K w prog X ex XR m cs₀ (call (.builtin "isinstance") [vv, vc] []) (bnd (isInstM v c) fun r => ret (.bool r)) (VQ K m) := fun cs μ s r Q E g S e p => by
  rcases bnd_some e with ⟨_, _, _, q, _⟩ | ⟨b, μ', q, e⟩
  · refine El_ea (isInst_at T S (hv.grow g) (hc.grow g) q) fun b z x_ => ?_; cases z
  · refine El_ea (isInst_at T S (hv.grow g) (hc.grow g) q) fun b z h => ?_
    cases z; cases e
    exact h _ _ fun tk => p _ cs m _ (Grow.refl _) ⟨S.1, S.2⟩ ⟨rfl, .bool⟩
end
/-! ## sorted(dict of ints) -/
theorem insI_perm (i : Int) : ∀ l, (insI i l).Perm (i :: l)
  | [] => .refl _
  | j :: r => by
    unfold insI
    split
    · exact .refl _
    · exact ((insI_perm i r).cons j).trans (.swap i j r)
theorem sortI_perm : ∀ l, (sortI l).Perm l
  | [] => .refl _
  | i :: r => (insI_perm i _).trans ((sortI_perm r).cons i)
set_option tactic.hygienic true in
theorem insI_sorted (i : Int) : ∀ {l : List Int}, l.Pairwise (· ≤ ·) → (insI i l).Pairwise (· ≤ ·)
  | [], _ => List.pairwise_singleton _ _
  | j :: r, h => by
    obtain ⟨h1, h2⟩ := List.pairwise_cons.mp h
    unfold insI
    split
    · rename_i hij
      refine List.pairwise_cons.mpr ⟨fun x hx => ?_, h⟩
      rcases List.mem_cons.mp hx with rfl | hx
      · exact hij
      · exact Int.le_trans hij (h1 x hx)
    · rename_i hij
      refine List.pairwise_cons.mpr ⟨fun x hx => ?_, insI_sorted i h2⟩
      rcases List.mem_cons.mp ((insI_perm i r).mem_iff.mp hx) with rfl | hx
      · omega
      · exact h1 x hx
theorem sortI_sorted : ∀ l, (sortI l).Pairwise (· ≤ ·)
  | [] => .nil
  | i :: r => insI_sorted i (sortI_sorted r)
theorem sortI_eq {l r : List Int} (p : r.Perm l) (s : r.Pairwise (· ≤ ·)) : r = sortI l :=
  List.Perm.eq_of_pairwise (fun x_ x_ x_ x_ h1 h2 => Int.le_antisymm h1 h2) s (sortI_sorted l) (p.trans (sortI_perm l).symm)
section
variable {K : Frag} {w : World} {prog : Program} {X : Fx} {m m' : NsMap} {ex ex' : List (Addr × Obj)} {XR XR' : XRel} {cs cs₀ : List CO} {μ : Mem} {s : Shared} {mg mb : NsMap} {n : Nat} {h h' : Heap} {k : Kinds} {ρ : Loc} {C : CallT} {env : Env}
theorem intsAre_all2 {as : List Addr} : ∀ {vs : List Value} {ns : List Int}, IntsAre vs ns → All2 (VR K as) (ns.map .int) vs
  | _, _, .nil => .nil
  | _, _, .cons i t r => .cons .int (intsAre_all2 r)
theorem keyInts_pairs {P : V → Value → Prop} : ∀ {es : List (V × V)} {kvs : List (Int × Value)} {is : List Int}, All2 (fun p q => p.1 = .int q.1 ∧ P p.2 q.2) es kvs → keyInts es = some is → is = kvs.map (·.1)
  | _, _, _, .nil, e => by cases e; rfl
  | _, _, is, .cons (a := a) (b := b) (l := l) x z, e => by
    obtain ⟨p1, p2⟩ := a
    obtain ⟨x1, x2⟩ := x
    dsimp only at x1
    subst x1
    unfold keyInts at e
    cases hq : keyInts l with
    | none => rw [hq] at e; cases e
    | some js => rw [hq] at e; cases e; rw [keyInts_pairs z hq]; rfl
theorem ints_of : ∀ {kvs : List (Int × Value)} {vs : List Value}, vs.length = kvs.length → (∀ (j : Nat) (v : Value), vs[j]? = some v → ∃ k x, kvs[j]? = some (k, x) ∧ (intKind prog w).is k v = true) → IntsAre vs (kvs.map (·.1))
  | [], [], _, _ => .nil
  | [], _ :: _, h, _ => by simp at h
  | _ :: _, [], h, _ => by simp at h
  | q :: kvs, v :: vs, h, hk => by
    refine El_eea (hk 0 v rfl) fun k x h1 h2 => ?_
    simp only [List.getElem?_cons_zero, Option.some.injEq] at h1
    subst h1
    obtain ⟨t, rfl⟩ := Value.isInt_shape h2
    exact .cons k t (ints_of (by simpa using h) fun j u hu => by simpa using hk (j + 1) u (by simpa using hu))
theorem gt_sys (T : FxOk K mg mb n X) (S : SRh K w prog X m ex cs μ h) {D : Addr} (hlt : ∀ q ∈ ex ++ nw cs, q.1 < D) : D ≠ sysModules := fun e => by
  have hm : X.c0 ∈ cs := List.mem_of_getElem? S.fro
  have hq := nw_mem hm (q := (X.c0.x, X.c0.o)) (.head _)
  have h1 := S.led _ (List.mem_append_right _ hq)
  have h2 := hlt _ (List.mem_append_right _ hq)
  refine El_eeea T.top.b fun o x_ x_ ho x_ => ?_
  have h3 : X.c0.x ≠ 0 := fun z => by have := h1.2.1; rw [show (X.c0.x, X.c0.o).1 = X.c0.x from rfl, z] at this; rw [show (0 : Addr) = builtinsNs from rfl, ho] at this; cases this
  dsimp only at h2
  rw [e] at h2
  have : (sysModules : Nat) = 1 := rfl
  have h4 : (X.c0.x : Nat) < 1 := h2
  exact h3 (Nat.lt_one_iff.mp h4)
set_option backward.match.sparseCases false in
theorem sorted_snd (T : FxOk K mg mb n X) {a : Nat} {vo : Value} (ho : VR K (adr cs₀) (.ref a) vo) : Snd K w prog X ex XR m cs₀ (call (.builtin "sorted") [vo] []) (bnd (getM a) fun
    | .dict es => match keyInts es with
      | some is => if is.length < 64 then newM (.list ((sortI is).map .int)) else stuck
      | none => stuck
    | _ => stuck) (VQ K m) := fun cs μ s r Q E g S e p => by
  refine El_ea ho.ref_inv fun x r_1 hx => ?_; (first | subst r_1 | cases r_1)
  refine El_ea (getM_ref e) fun o hm e => ?_
  cases o with
  | dict es =>
    dsimp only at e
    cases hk : keyInts es with
    | none => rw [hk] at e; cases e
    | some is =>
      rw [hk] at e
      dsimp only at e
      by_cases hlen : is.length < 64
      · rw [if_pos hlen] at e
        refine El_eaaaa (co_at S (g.at hx) hm) fun c hc r_2 hO hg hns => ?_; (first | subst r_2 | cases r_2)
        have lo : (c.x == sysModules) = false := beq_eq_false_iff_ne.mpr hns
        refine El_aa hO fun x_ h2 h3 => ?_
        obtain ⟨kvs, hdo, hp⟩ : ∃ kvs, c.o.IsDictOf (intKind prog w) kvs ∧ All2 (fun p q => p.1 = .int q.1 ∧ VR K (adr cs) p.2 q.2) es kvs := by
          cases es with
          | nil => exact ⟨[], (h3 rfl).2, .nil⟩
          | cons q0 r =>
            rcases h2 with ⟨hs, _⟩ | ⟨_, kvs, hd, hp⟩
            · exfalso
              obtain ⟨y, z⟩ := q0
              obtain ⟨j, hj⟩ := hs (y, z) (.head _)
              dsimp only at hj; rw [hj] at hk; cases hk
            · exact ⟨kvs, hd, hp⟩
        have his := keyInts_pairs hp hk
        subst his
        rw [List.length_map] at hlen
        have hD := Heap.dictOf_iff.mpr ⟨_, hg, hdo⟩
        obtain ⟨ep, hat⟩ := hD.dictAt
        refine El_ea S.1.news fun lo' hl N => ?_
        refine kdu_sorted (kdl_dict (knd := intKind prog w) (kvs := kvs) (ep := ep) lo) T.hnd S.1.fr N hat (kdl_size (by omega)) fun D h' tk vs F' N' l1 hl1 hv => ?_
        have hints := ints_of hl1 hv
        refine ksk_lsort (news' := fun o => (D, o) :: (lo' ++ (ex ++ nw cs))) F' N' (fun o => .head fun q hq => Nat.ne_of_lt (l1 q hq)) (by simp) hints (by simp only [List.length_map]; exact hlen) fun vs' ns' c' h'' F'' N'' hi hle hP hS x_ => ?_
        have hsort := sortI_eq hP hS
        subst hsort
        have hz := newM_sz e
        unfold newM at e
        rw [if_pos hz] at e
        cases e
        have hml : μ.length = cs.length := S.1.O.length
        have Sx := S.1.pushedAt (h' := h'') (o := .list ((sortI (kvs.map (·.1))).map .int)) (ob := listObj vs' c') (D := D) hz hl F'' N'' l1 (gt_sys T S.1 fun q hq => l1 q (List.mem_append_right _ hq)) ⟨vs', c', rfl, rfl, intsAre_all2 hi⟩
        refine p _ _ m _ (adr_push _ _) ⟨Sx, S.2⟩ ⟨rfl, ?_⟩
        rw [hml]
        exact .ref (adr_last _ _)
      · rw [if_neg hlen] at e; cases e
  | _ => cases e
end
/-! ## dict(list of pairs) -/
theorem x_entry_loop : entryFor table "dict.update.loop" = some Builtin.«dict.update.loop» := entryFor_of_tree (by kernel_rfl)
theorem x_plain_loop : plainId "dict.update.loop" = true := by decide +kernel
theorem x_no_keys : typeLookup (.type "list") "keys" = pure none := by rw [typeLookup_type, builtinLookup_eq_fast]; kernel_rfl
section
variable {w : World} {prog : Program} {A : Around} {E : Value → Shared → Prop} {s : Shared}
theorem getAttr?_miss_list {a : Addr} {xs : Array Value} {k : Nat} {name : Str} {Q : Option Value → Shared → Prop}
    (hx : s.heap.get? a = some { cls := .type "list", dict := none, data := .seq xs k, slots := #[] }) (hmiss : typeLookup (.type "list") name = pure none) (hname : (["__module__", "__name__", "__qualname__", "__doc__", "__annotations__"] : List Str).contains name = false) (hA : A.handled = none)
    (h : ∀ h' tk, (∀ b o, s.heap.get? b = some o → h'.get? b = some o) → Q none { s with heap := h', toks := tk }) (hsz : name.length + 100 ≤ sizeLine := by size_fits) :
    wpAny (model prog w) A (getAttr? (.ref a) name) Q E s := by
  obtain ⟨hp, g, d, tk, os⟩ := s
  have hT : ∀ tk', (⟨hp, g, d, tk', os⟩ : Shared).TypeIs (.ref a) "list" := fun x_ => ⟨_, hx, rfl⟩
  have f1 := sub_AttributeError
  have f3 := F.slot_list_getattribute.lookup
  have f4 := F.slot_list_getattribute.bind (.ref a)
  have f5 := am_list_getattr_none
  unfold getAttr? getAttrBy? getAttrBy
  repeat (any_goals (first | assumption | exact hT _ | ((with_reducible show wpAny _ _ (call (Value.builtin "list.__getattribute__") _ _) _ _ _); refine call_meets F.slot_list_getattribute (hT _) am_entry_list_getattribute (F.args_list_getattribute_2 _ _) (meets_getattribute_miss_list a xs k _ name _ hmiss hname hsz) ⟨hx, hA, fun h' tk' e hx' => ?_⟩) | wp_step))
  refine El_ee hx'.there fun t' u' he => ?_
  show wpAny _ _ (getattributeRaised _ _ _ _ _ _ _) _ _ _
  unfold getattributeRaised
  repeat (any_goals (first | assumption | wp_step))
  exact h _ _ hx'.keeps
theorem upd_loop (hh : A.handled = none) {R : Result → Shared → Prop} {D I l : Addr} {items : Array Value} {kvs : List (Str × Value)} {res : Value} (hDI : D ≠ I) (hlD : l ≠ D) (hlI : l ≠ I) (hz : items.size ≤ 1000) (hlen : kvs.length = items.size) (hnd : (kvs.map (·.1)).Nodup) :
    ∀ (k i : Nat) (s : Shared), items.size - i = k → i ≤ items.size → s.heap.IsListIter I l i → s.heap.IsList l items →
      (∀ (j : Nat) (v : Value) (kv : Str × Value), items[j]? = some v → kvs[j]? = some kv → ∃ a t, v = .ref a ∧ a ≠ D ∧ a ≠ I ∧ ∃ n, s.heap.get? a = some (tupObj [.str kv.1 t, kv.2] n)) → s.heap.DictOf (strKind prog w) D (kvs.take i) →
      (∀ h' tk, (∀ b o, b ≠ D → b ≠ I → s.heap.get? b = some o → h'.get? b = some o) → h'.DictOf (strKind prog w) D kvs → R (.ok (.ret res)) { s with heap := h', toks := tk }) →
      codeAny (model prog w) A (.builtin "dict.update.loop" ⟨[.ref D, .ref I, rawInt i, res], []⟩) R s := by
  intro k
  induction k with
  | zero =>
    intro i s hk hi hit hl hp hD hR
    have hin : i = items.size := by omega
    subst hin
    refine codeAny_builtin x_entry_loop ?_
    rw [Around.under_plainId x_plain_loop _]
    show wpAny _ A.in1 (pyNext (.ref I) >>= _) _ _ s
    refine wpAny_bind (wpAny_pyNext_list_end hh hit hl (by simp) fun h' hs => ?_)
    refine wpAny_bind (wpAny_pure ?_)
    refine wpAny_pure ?_
    refine hR h' s.toks (fun b o x_ hb ho => hs b o hb ho) ?_
    rw [← hlen, List.take_length] at hD
    exact hD.at fun o ho => hs D o hDI ho
  | succ k ih =>
    intro i s hk hi hit hl hp hD hR
    have hlt : i < items.size := by omega
    refine codeAny_builtin x_entry_loop ?_
    rw [Around.under_plainId x_plain_loop _]
    show wpAny _ A.in1 (pyNext (.ref I) >>= _) _ _ s
    refine wpAny_bind (wpAny_pyNext_list_item hit hl (x := items[i]) (by simp [hlt]) fun h' hit' hs' => ?_)
    obtain ⟨hx0, hx1⟩ : ∃ v, items[i]? = some v := ⟨items[i], by simp [hlt]⟩
    obtain ⟨kv, hkv⟩ : ∃ kv, kvs[i]? = some kv := ⟨kvs[i]'(by omega), by simp⟩
    have hxe : hx0 = items[i] := by simpa [hlt] using hx1.symm
    subst hxe
    obtain ⟨a, t, ha, haD, haI, n, hg⟩ := hp i _ kv hx1 hkv
    rw [ha]
    have hg' : h'.get? a = some (tupObj [.str kv.1 t, kv.2] n) := (hs'.2 a haI).trans hg
    have hD' : h'.DictOf (strKind prog w) D (kvs.take i) := hD.at fun o ho => (hs'.2 D hDI).trans ho
    refine wpAny_bind ?_
    refine wpAny_holding ?_
    unfold Builtin.Dict.pairItems seqItems?
    have hT : ({ s with heap := h' } : Shared).TypeIs (.ref a) "tuple" := ⟨_, hg', rfl⟩
    have hst : stored (kvs.take i) kv.1 kv.2 = kvs.take (i + 1) := by
      have hsp : kvs.take (i + 1) = kvs.take i ++ [kv] := by rw [List.take_add_one, hkv]; rfl
      have hni : ¬ ((kvs.take i).any fun q => decide (q.1 = kv.1)) = true := fun ha => by
        refine El_ea (List.any_eq_true.mp ha) fun q hq hqe => ?_
        have hnd' : ((kvs.take (i + 1)).map (·.1)).Nodup := List.Nodup.sublist ((List.take_sublist _ _).map _) hnd
        rw [hsp, List.map_append] at hnd'
        exact (List.nodup_append.mp hnd').2.2 q.1 (List.mem_map_of_mem hq) kv.1 (by simp) (of_decide_eq_true hqe)
      rw [stored, if_neg hni, hsp]
    refine wpAny_bind (wpAny_tryCatch (wpAny_bind (wpAny_typeOf (T := "tuple") hT ?_)))
    rw [if_pos (by decide)]
    refine wpAny_bind (wpAny_bind (wpAny_load hg' (wpAny_pure ?_)))
    refine wpAny_pure ?_
    refine wpAny_holding (wpAny_dictSet_pairs (knd := strKind prog w) (k := kv.1) (strKind_is prog w _ _) hD' (fun h'' hD'' hs'' => ?_) (by have h9 : (1000 : Nat) ≤ sizeLine := (by decide); rw [List.length_take]; exact Nat.le_trans (Nat.min_le_right _ _) (by omega)))
    rw [hst] at hD''
    have kp : ∀ b o, b ≠ D → b ≠ I → s.heap.get? b = some o → h''.get? b = some o := fun b o h1 h2 ho => (hs''.2 b h1).trans ((hs'.2 b h2).trans ho)
    refine wpAny_pure ⟨plainId_quiet x_plain_loop _, ?_⟩
    refine ih (i + 1) _ (by omega) (by omega) (hit'.at fun o ho => (hs''.2 I (Ne.symm hDI)).trans ho) (hl.at fun o ho => kp l o hlD hlI ho) (fun j v kv' h1 h2 => ?_) hD'' (fun h3 tk hk3 hD3 => hR h3 tk (fun b o h1 h2 ho => hk3 b o h1 h2 (kp b o h1 h2 ho)) hD3)
    obtain ⟨a', t', e1, e2, e3, n', e4⟩ := hp j v kv' h1 h2
    exact ⟨a', t', e1, e2, e3, n', kp a' _ e2 e3 e4⟩
theorem dict_pairs (hh : A.handled = none) {l : Addr} {n : Nat} {vs : List Value} {kvs : List (Str × Value)} {Q : Value → Shared → Prop} (hl : s.heap.get? l = some (listObj vs n)) (hz : vs.length ≤ 1000) (hsys : sysModules < s.heap.objs.size)
    (hp : All2 (fun v kv => ∃ a t n, v = .ref a ∧ s.heap.get? a = some (tupObj [.str kv.1 t, kv.2] n)) vs kvs) (hnd : (kvs.map (·.1)).Nodup)
    (h : ∀ h' tk o, (∀ b o, s.heap.get? b = some o → h'.get? b = some o) → h'.get? s.heap.objs.size = some o → o.IsDictOf (strKind prog w) kvs → Q (.ref s.heap.objs.size) { s with heap := h', toks := tk }) :
    wpAny (model prog w) A (call (.type "dict") [.ref l] []) Q E s := by
  refine callType_codes (Q₁ := fun obj s₁ => obj = .ref s.heap.objs.size ∧ s₁ = { s with heap := s.heap.push { cls := .type "dict", data := .dict #[] } }) F.kt_called_dict (F.kt_typeCall_dict_1 _) F.entry_dict_init (kt_code_dict_new _ ⟨rfl, rfl⟩) ?_
  rintro obj s₁ ⟨rfl, rfl⟩
  have hnew : (s.heap.push { cls := .type "dict", data := .dict #[] }).DictOf (strKind prog w) s.heap.objs.size [] := Heap.DictOf.new s.heap
  have hl' : (s.heap.push { cls := .type "dict", data := .dict #[] }).get? l = some (listObj vs n) := Heap.get?_push_of_some _ hl
  have hlD : l ≠ s.heap.objs.size := Nat.ne_of_lt (Heap.lt_size hl)
  refine ⟨hnew.typeIs, F.args_dict_init_2 _ _, ?_⟩
  unfold Builtin.«dict.__init__»
  refine wpAny_bind ?_
  unfold Builtin.Dict.selfAndRest
  refine wpAny_bind (wpAny_notOrdered_dict hnew.typeIs ?_)
  show wpAny _ _ (pure (s.heap.objs.size, [Value.ref l])) _ _ _
  refine wpAny_pure ?_
  show wpAny _ _ (Builtin.Dict.updateFrom "dict.__init__" s.heap.objs.size (.ref l) [] .none) _ _ _
  unfold Builtin.Dict.updateFrom
  refine wpAny_bind (wpAny_typeOf (T := "list") ⟨_, hl', rfl⟩ ?_)
  rw [if_pos (by decide)]
  refine wpAny_bind (getAttr?_miss_list hl' x_no_keys (by decide +kernel) hh (fun h1 tk1 k1 => ?_))
  rw [if_pos (show (none : Option Value).isNone = true from rfl)]
  refine wpAny_bind (wpAny_rule ?_)
  have hl1 : h1.get? l = some (listObj vs n) := k1 _ _ hl'
  have hlL : h1.IsList l vs.toArray := ⟨_, hl1, rfl, n, rfl⟩
  refine wpAny_bind (wpAny_pyIter_list hlL ?_)
  have hsz1 : s.heap.objs.size < h1.objs.size := by
    refine El_eeea hnew fun o x_ x_ ho x_ => ?_
    exact Heap.lt_size (k1 _ _ ho)
  have pk : ∀ b o, s.heap.get? b = some o → (h1.push { cls := .type "list_iterator", data := .fields #[.ref l, .int 0 0] }).get? b = some o := fun b o ho => Heap.get?_push_of_some _ (k1 _ _ (Heap.get?_push_of_some _ ho))
  refine wpAny_pure ⟨plainId_quiet x_plain_loop _, ?_⟩
  refine upd_loop (A := A.in1) (kvs := kvs) (items := vs.toArray) hh (Nat.ne_of_lt hsz1) hlD (Nat.ne_of_lt (Heap.lt_size hl1)) (by simpa using hz) (by rw [List.size_toArray, hp.length]) hnd _ 0 { s with heap := h1.push { cls := .type "list_iterator", data := .fields #[.ref l, .int 0 0] }, toks := tk1 } rfl (Nat.zero_le _) ⟨_, Heap.get?_push_size _ rfl, rfl, rfl⟩ ⟨listObj vs n, Heap.get?_push_of_some _ hl1, rfl, n, rfl⟩ (fun j v kv h1 h2 => ?_) ?_ (fun h' tk hk hD => ?_)
  · rw [List.getElem?_toArray] at h1
    obtain ⟨kv', h3, a, t, n', rfl, h4⟩ := hp.get h1
    rw [h2] at h3; cases h3
    exact ⟨a, t, rfl, Nat.ne_of_lt (Heap.lt_size h4), Nat.ne_of_lt (Nat.lt_trans (Heap.lt_size h4) hsz1), n', pk _ _ h4⟩
  · rw [List.take_zero]
    exact hnew.at fun o ho => Heap.get?_push_of_some _ (k1 _ _ ho)
  · refine El_ea (Heap.dictOf_iff.mp hD) fun o ho hd => ?_
    exact ⟨rfl, h h' tk o (fun b o ho => hk b o (Nat.ne_of_lt (Heap.lt_size ho)) (Nat.ne_of_lt (Nat.lt_trans (Heap.lt_size ho) hsz1)) (pk _ _ ho)) ho hd⟩
end
section
variable {K : Frag} {w : World} {prog : Program} {X : Fx} {m m' : NsMap} {ex ex' : List (Addr × Obj)} {XR XR' : XRel} {cs cs₀ : List CO} {μ : Mem} {s : Shared} {mg mb : NsMap} {n : Nat} {h h' : Heap} {k : Kinds} {ρ : Loc} {C : CallT} {env : Env}
theorem pair_at (S : SR K w prog X m ex cs μ s) {v : V} {val : Value} {p : V × V} (hx : VR K (adr cs) v val) (e : pairOf μ v = some p) :
    ∃ a k u t n, val = .ref a ∧ p.1 = .str k ∧ s.heap.get? a = some (tupObj [.str k t, u] n) ∧ VR K (adr cs) p.2 u := by
  obtain ⟨a, k, u, rfl, hm, rfl⟩ := pairOf_some e
  refine El_ea hx.ref_inv fun y r_1 hy => ?_; (first | subst r_1 | cases r_1)
  obtain ⟨c, hc, rfl, ⟨ws, nn, h3, _, h4⟩, hg, _⟩ := co_at S hy hm
  cases h4 with
  | cons g1 h4 =>
    cases h4 with
    | cons g2 h4 =>
      cases h4
      obtain ⟨t, rfl⟩ := g1.str_inv
      exact ⟨_, k, _, t, nn, rfl, rfl, hg.trans (congrArg some h3), g2⟩
theorem pairs_at (S : SR K w prog X m ex cs μ s) : ∀ {xs : List V} {vs : List Value} {es : List (V × V)}, All2 (VR K (adr cs)) xs vs → pairsD μ xs = some es →
    allStr es ∧ ∃ kvs : List (Str × Value), All2 (fun p q => p.1 = .str q.1 ∧ VR K (adr cs) p.2 q.2) es kvs ∧ All2 (fun v kv => ∃ a t n, v = .ref a ∧ s.heap.get? a = some (tupObj [.str kv.1 t, kv.2] n)) vs kvs := by
  intro xs vs es h
  induction h generalizing es with
  | nil => intro e; cases e; exact ⟨(fun p hp => nomatch hp), [], .nil, .nil⟩
  | cons hx _ ih =>
    intro e
    refine El_ea (bind_of e) fun p h1 e => ?_
    refine El_ea (map_of e) fun r h2 r_2 => ?_; (first | subst r_2 | cases r_2)
    refine El_aea (ih h2) fun hs kvs g1 g2 => ?_
    refine El_eeeeeaaa (pair_at S hx h1) fun a k u t n q1 q2 q3 q4 => ?_
    exact ⟨fun p hp => (List.mem_cons.mp hp).elim (fun z => ⟨k, z ▸ q2⟩) (hs p), (k, u) :: kvs, .cons ⟨q2, q4⟩ g1, .cons ⟨a, t, n, q1, q3⟩ g2⟩
theorem isDict_nil {o : Obj} (h : o.IsDictOf (strKind prog w) []) : o.IsDictOf (intKind prog w) [] := by
  refine El_eeaaaa h fun es ep h1 h2 h3 h4 h5 => ?_
  have : es = #[] := by
    have := h4.length
    simpa using this
  subst this
  exact ⟨#[], ep, h1, h2, fun e he => absurd he (by simp), .nil, List.nodup_nil⟩
theorem nodup_keys {P : V → Value → Prop} : ∀ {es : List (V × V)} {kvs : List (Str × Value)}, All2 (fun p q => p.1 = .str q.1 ∧ P p.2 q.2) es kvs → (es.map (·.1)).Nodup → (kvs.map (·.1)).Nodup
  | _, _, .nil, _ => List.nodup_nil
  | _, _, .cons (a := a) (b := b) (l := l) (r := r) x z, h => by
    rw [List.map_cons, List.nodup_cons] at h ⊢
    refine ⟨fun hm => h.1 ?_, nodup_keys z h.2⟩
    rw [x.1]
    clear h
    revert hm
    induction z with
    | nil => intro hm; cases hm
    | cons y z ih =>
      intro hm
      rw [List.map_cons] at hm ⊢
      rcases List.mem_cons.mp hm with e | hm
      · rw [y.1, ← e]; exact .head _
      · exact .tail _ (ih hm)
set_option backward.match.sparseCases false in
theorem dict_snd (T : FxOk K mg mb n X) {v : V} {vo : Value} (ho : VR K (adr cs₀) v vo) : Snd K w prog X ex XR m cs₀ (call (.type "dict") [vo] []) (bnd (listOfM v) fun p => fun μ => match pairsD μ p.2 with
    | some es => if (es.map (·.1)).Nodup then newM (.dict es) μ else none
    | none => none) (VQ K m) := fun cs μ s r Q E g S e p => by
  obtain ⟨a, xs, rfl, hm, e⟩ := listOfM_ref e
  refine El_ea ho.ref_inv fun x r_1 hx => ?_; (first | subst r_1 | cases r_1)
  refine El_eeaa (isList_at S (g.at hx) hm) fun vs nn hg hl hr => ?_
  dsimp only at e
  cases hq : pairsD μ xs with
  | none => rw [hq] at e; cases e
  | some es =>
    rw [hq] at e
    dsimp only at e
    by_cases hnd : (es.map (·.1)).Nodup
    · rw [if_pos hnd] at e
      refine El_aea (pairs_at S hr hq) fun hs kvs h1 h2 => ?_
      have hsz : sysModules < s.heap.objs.size := Nat.lt_of_lt_of_le S.1.sz S.1.size_le
      refine dict_pairs T.hnd hg (by rw [← hr.length]; exact szList S hm) hsz h2 (nodup_keys h1 hnd) fun h' tk o hk hD hd => ?_
      refine post_more (c := ⟨_, o, none⟩) (tk := tk) S e p hk (fun q hq => ?_) (by simp [CO.ents]) ⟨rfl, .inl ⟨hs, kvs, hd, h1.mono fun x_ x_ z => ⟨z.1, z.2.grow (adr_push _ _)⟩⟩, fun z => ?_⟩
      · simp only [CO.ents, Option.toList_none, List.mem_cons, List.not_mem_nil, or_false] at hq
        subst hq
        exact ⟨hD, Nat.le_refl _⟩
      · subst z; cases h1; exact ⟨hd, isDict_nil hd⟩
    · rw [if_neg hnd] at e; cases e
end
/-! ## All built-ins -/
section
variable {K : Frag} {w : World} {prog : Program} {X : Fx} {m m' : NsMap} {ex ex' : List (Addr × Obj)} {XR XR' : XRel} {cs cs₀ : List CO} {μ : Mem} {s : Shared} {mg mb : NsMap} {n : Nat} {h h' : Heap} {k : Kinds} {ρ : Loc} {C : CallT} {env : Env}
theorem all2_2 {α β : Type} {R : α → β → Prop} {a a' : α} {l : List β} (h : All2 R [a, a'] l) : ∃ b b', l = [b, b'] ∧ R a b ∧ R a' b' := by
  cases h with | cons x z => cases z with | cons y z => cases z; exact ⟨_, _, rfl, x, y⟩
theorem Snd.if2 {α β : Type} {t : Sem α} {f g : Mx β} {c : Prop} {_ : Decidable c} {R : NsMap → List CO → β → α → Prop} (h : c → Snd K w prog X ex XR m cs t f R) (h' : Snd K w prog X ex XR m cs t g R) : Snd K w prog X ex XR m cs t (if c then f else g) R := by
  by_cases hc : c
  · rw [if_pos hc]; exact h hc
  · rw [if_neg hc]; exact h'
theorem Snd.arg1 {α : Type} {as : List Addr} {args : List V} {vargs : List Value} {t : List Value → Sem α} {f : V → Mx V} {R : NsMap → List CO → V → α → Prop} (h : All2 (VR K as) args vargs) (k : ∀ v w', VR K as v w' → Snd K w prog X ex XR m cs (t [w']) (f v) R) : Snd K w prog X ex XR m cs (t vargs) (arg1 args f) R := by
  cases h with
  | nil => exact Snd.stuck
  | cons x z => cases z with
    | nil => exact k _ _ x
    | cons _ _ => exact Snd.stuck
theorem Snd.arg2 {α : Type} {as : List Addr} {args : List V} {vargs : List Value} {t : List Value → Sem α} {f : V → V → Mx V} {R : NsMap → List CO → V → α → Prop} (h : All2 (VR K as) args vargs) (k : ∀ v v' w' w'', VR K as v w' → VR K as v' w'' → Snd K w prog X ex XR m cs (t [w', w'']) (f v v') R) : Snd K w prog X ex XR m cs (t vargs) (arg2 args f) R := by
  cases h with
  | nil => exact Snd.stuck
  | cons x z => exact Snd.arg1 (t := fun l => t (_ :: l)) z fun x_ x_ y => k _ _ _ _ x y
theorem Snd.arg3 {α : Type} {as : List Addr} {args : List V} {vargs : List Value} {t : List Value → Sem α} {f : V → V → V → Mx V} {R : NsMap → List CO → V → α → Prop} (h : All2 (VR K as) args vargs) (k : ∀ u v v' w₁ w' w'', VR K as u w₁ → VR K as v w' → VR K as v' w'' → Snd K w prog X ex XR m cs (t [w₁, w', w'']) (f u v v') R) : Snd K w prog X ex XR m cs (t vargs) (arg3 args f) R := by
  cases h with
  | nil => exact Snd.stuck
  | cons x z => exact Snd.arg2 (t := fun l => t (_ :: l)) z fun x_ x_ x_ x_ y y' => k _ _ _ _ _ _ x y y'
theorem Snd.refB {α : Type} {t : Sem α} {v : V} {f : Nat → Mx V} {R : NsMap → List CO → V → α → Prop} (k : ∀ a, v = .ref a → Snd K w prog X ex XR m cs t (f a) R) : Snd K w prog X ex XR m cs t (refB v f) R := by
  cases v with
  | ref a => exact k a rfl
  | _ => exact Snd.stuck
theorem Snd.intB {α : Type} {t : Sem α} {v : V} {f : Int → Mx V} {R : NsMap → List CO → V → α → Prop} (k : ∀ a, v = .int a → Snd K w prog X ex XR m cs t (f a) R) : Snd K w prog X ex XR m cs t (intB v f) R := by
  cases v with
  | int a => exact k a rfl
  | _ => exact Snd.stuck
theorem Snd.strB {α : Type} {t : Sem α} {v : V} {f : Str → Mx V} {R : NsMap → List CO → V → α → Prop} (k : ∀ a, v = .str a → Snd K w prog X ex XR m cs t (f a) R) : Snd K w prog X ex XR m cs t (strB v f) R := by
  cases v with
  | str a => exact k a rfl
  | _ => exact Snd.stuck
theorem callB_snd (T : FxOk K mg mb n X) {b : String} {args : List V} {vargs : List Value} (h : All2 (VR K (adr cs₀)) args vargs) : Snd K w prog X ex XR m cs₀ (call (.builtin b) vargs []) (callB b args) (VQ K m) := by
  unfold callB
  refine Snd.if2 (fun e => ?_) (Snd.if2 (fun e => ?_) (Snd.if2 (fun e => ?_) (Snd.if2 (fun e => ?_) (Snd.if2 (fun e => ?_) (Snd.if2 (fun e => ?_) (Snd.if2 (fun e => ?_) (Snd.if2 (fun e => ?_) Snd.stuck))))))) <;> subst e
  · exact Snd.arg1 (t := fun l => call (.builtin "len") l []) h fun v x_ x => Snd.refB fun a e => len_snd (e ▸ x)
  · exact Snd.arg2 (t := fun l => call (.builtin "min") l []) h fun v v' x_ x_ x y => Snd.intB fun a e => Snd.intB fun b e' => min_snd T (e ▸ x) (e' ▸ y)
  · exact Snd.arg2 (t := fun l => call (.builtin "max") l []) h fun v v' x_ x_ x y => Snd.intB fun a e => Snd.intB fun b e' => max_snd T (e ▸ x) (e' ▸ y)
  · exact Snd.arg1 (t := fun l => call (.builtin "abs") l []) h fun v x_ x => Snd.intB fun a e => abs_snd (e ▸ x)
  · exact Snd.arg2 (t := fun l => call (.builtin "isinstance") l []) h fun v v' x_ x_ x y => isInst_snd T x y
  · exact Snd.arg2 (t := fun l => call (.builtin "list.append") l []) h fun v v' x_ x_ x y => Snd.refB fun a e => append_snd (e ▸ x) y
  · exact Snd.arg3 (t := fun l => call (.builtin "dict.get") l []) h fun u v v' x_ x_ x_ x y z => Snd.refB fun a e => Snd.strB fun k e' => get_snd (e ▸ x) (e' ▸ y) z
  · exact Snd.arg1 (t := fun l => call (.builtin "sorted") l []) h fun v x_ x => Snd.refB fun a e => sorted_snd T (e ▸ x)
theorem callT_snd (T : FxOk K mg mb n X) {b : String} {args : List V} {vargs : List Value} (h : All2 (VR K (adr cs₀)) args vargs) : Snd K w prog X ex XR m cs₀ (call (.type b) vargs []) (callT b args) (VQ K m) := by
  unfold callT
  refine Snd.if2 (fun e => ?_) (Snd.if2 (fun e => ?_) Snd.stuck) <;> subst e
  · exact Snd.arg1 (t := fun l => call (.type "list") l []) h fun v x_ x => list_snd x
  · exact Snd.arg1 (t := fun l => call (.type "dict") l []) h fun v x_ x => dict_snd T x
set_option tactic.hygienic true in
/-- what calls do, given the defs and classes -/
theorem callS_of (T : FxOk K mg mb n X) (hC : ∀ ex m cs a args vargs, All2 (VR K (adr cs)) args vargs → Snd K w prog X ex (XO K w prog X ex) m cs (call (.ref a) vargs []) (C (.top a) args) (VQ K m)) (hno : ∀ f args, (∀ a, f ≠ .top a) → C f args = stuck) : CallS K w prog X C := fun ex m cs f args vf vargs hf hargs => by
  unfold callV
  split
  · rename_i b
    obtain rfl := hf.bi_inv
    exact callB_snd T hargs
  · rename_i b
    obtain rfl := hf.ty_inv
    exact callT_snd T hargs
  · rename_i h1 h2
    by_cases ht : ∃ a, f = .top a
    · obtain ⟨a, rfl⟩ := ht
      obtain ⟨rfl, _⟩ := hf.top_inv
      exact hC ex m cs a args vargs hargs
    · rw [hno f args fun a e => ht ⟨a, e⟩]
      exact Snd.stuck
end
/-! ## Parameters bound -/
theorem filterMap_zip {β : Type} {g : Str → Option β} : ∀ {P : List Str} {us : List β}, P.length = us.length → (∀ (i : Nat) (p : Str), P[i]? = some p → g p = us[i]?) → P.filterMap (fun n => (g n).map (n, ·)) = P.zip us
  | [], us, _, _ => by simp
  | p :: P, [], h, _ => by simp at h
  | p :: P, u :: us, h, hg => by
    rw [List.filterMap_cons, hg 0 p rfl]
    simp only [List.getElem?_cons_zero, Option.map_some, List.zip_cons_cons]
    rw [filterMap_zip (by simpa using h) fun i q hq => by simpa using hg (i + 1) q (by simpa using hq)]
theorem lookup_zip {β : Type} : ∀ {P : List Str} {us : List β} {i : Nat} {p : Str}, P.Nodup → P[i]? = some p → (P.zip us).lookup p = us[i]?
  | [], _, _, _, _, e => by simp at e
  | q :: P, [], i, p, _, _ => by simp
  | q :: P, u :: us, 0, p, _, e => by simp at e; subst e; simp
  | q :: P, u :: us, i + 1, p, h, e => by
    simp only [List.getElem?_cons_succ] at e
    obtain ⟨h1, h2⟩ := List.nodup_cons.mp h
    rw [List.zip_cons_cons, List.lookup_cons, beq_eq_false_iff_ne.mpr (show p ≠ q from fun z => h1 (by rw [← z]; exact List.mem_of_getElem? e))]
    simpa using lookup_zip h2 e
theorem lookup_append' {β : Type} {x : Str} : ∀ {l r : List (Str × β)}, (l ++ r).lookup x = (l.lookup x <|> r.lookup x)
  | [], r => by simp
  | (y, v) :: l, r => by
    rw [List.cons_append, List.lookup_cons, List.lookup_cons, lookup_append' (l := l)]
    cases (x == y) <;> simp
section
variable {w : World} {prog : Program} {A : Around} {E : Value → Shared → Prop} {s : Shared}
noncomputable def argNames (p : Arguments) : List Str := p.args.map (·.arg)
structure PlainArgs (p : Arguments) : Prop where
  po : p.posonlyargs = []
  ko : p.kwonlyargs = []
  va : p.vararg = none
  ka : p.kwarg = none
  nd : (argNames p).Nodup
theorem bind_loop {A0 : List (Str × Value)} {Q : List (Str × Value) → Shared → Prop} : ∀ (rest sl pre : List (Str × Value)) (s : Shared), (∀ n, sl.lookup n = (A0.lookup n <|> pre.lookup n)) → (∀ sl', (∀ n, sl'.lookup n = (A0.lookup n <|> (pre ++ rest).lookup n)) → Q sl' s) →
    wpAny (model prog w) A (forIn rest sl fun x __s => if (List.lookup x.fst __s).isNone = true then pure (ForInStep.yield (__s ++ [(x.fst, x.snd)])) else pure (ForInStep.yield __s)) Q E s
  | [], sl, pre, s, h, q => by
    rw [List.forIn_nil]
    exact wpAny_pure (q sl fun n => by rw [List.append_nil]; exact h n)
  | (x, d) :: rest, sl, pre, s, h, q => by
    rw [List.forIn_cons]
    by_cases hx : (List.lookup x sl).isNone = true
    · rw [if_pos hx]
      refine wpAny_bind (wpAny_pure ?_)
      refine bind_loop rest _ (pre ++ [(x, d)]) s (fun n => ?_) (fun sl' h' => q sl' fun n => by rw [h' n, List.append_assoc]; rfl)
      rw [lookup_append', lookup_append', h n]
      cases A0.lookup n <;> simp
    · rw [if_neg hx]
      refine wpAny_bind (wpAny_pure ?_)
      refine bind_loop rest _ (pre ++ [(x, d)]) s (fun n => ?_) (fun sl' h' => q sl' fun n => by rw [h' n, List.append_assoc]; rfl)
      rw [lookup_append', h n]
      by_cases hn : n = x
      · subst hn
        rw [h n] at hx
        cases h1 : A0.lookup n with
        | some _ => simp
        | none =>
          rw [h1] at hx
          cases h2 : pre.lookup n with
          | some _ => simp
          | none => rw [h2] at hx; simp at hx
      · have : List.lookup n [(x, d)] = none := by rw [List.lookup_cons, beq_eq_false_iff_ne.mpr hn]; rfl
        rw [this]
        cases pre.lookup n <;> simp
theorem parts_of {p d v : Nat} (h1 : v ≤ p) (h2 : p - v ≤ d) (h3 : d ≤ p) : ∃ a b c, p = a + (b + c) ∧ v = a + b ∧ d = b + c := by
  obtain ⟨c, rfl⟩ := Nat.exists_eq_add_of_le h1
  rw [Nat.add_sub_cancel_left] at h2
  obtain ⟨b, rfl⟩ := Nat.exists_eq_add_of_le h2
  obtain ⟨a, rfl⟩ := Nat.exists_eq_add_of_le (show b ≤ v by omega)
  exact ⟨a, b, c, by rw [Nat.add_comm b a, Nat.add_assoc], Nat.add_comm _ _, Nat.add_comm _ _⟩
theorem bind_some {P : List Str} {vals : List Value} {a b c : Nat} (nd : P.Nodup) (hP : P.length = a + (b + c)) (hv : vals.length = a + b) : (List.filter (fun n => (List.lookup n (P.zip vals)).isNone) (P.take a)) = [] := List.filter_eq_nil_iff.mpr fun p hp => by
  obtain ⟨i, hi⟩ := List.mem_iff_getElem?.mp hp
  have hi2 : i < a := by have := (List.getElem?_eq_some_iff.mp hi).1; rw [List.length_take] at this; exact Nat.lt_of_lt_of_le this (Nat.min_le_left _ _)
  rw [List.getElem?_take_of_lt hi2] at hi
  rw [lookup_zip nd hi, List.getElem?_eq_getElem (by rw [hv]; exact Nat.lt_of_lt_of_le hi2 (Nat.le_add_right _ _))]
  exact Bool.false_ne_true
theorem bind_list {P : List Str} {vals ds : List Value} {a b c : Nat} {sl : List (Str × Value)} (nd : P.Nodup) (hP : P.length = a + (b + c)) (hv : vals.length = a + b) (hd : ds.length = b + c) (hsl : ∀ n, sl.lookup n = ((P.zip vals).lookup n <|> ((P.drop a).zip ds).lookup n)) :
    P.filterMap (fun n => (sl.lookup n).map (n, ·)) = P.zip (vals ++ ds.drop b) := by
  refine filterMap_zip (by rw [List.length_append, List.length_drop, hP, hv, hd, Nat.add_sub_cancel_left, Nat.add_assoc]) fun i p hp => ?_
  rw [hsl p, lookup_zip nd hp]
  rcases Nat.lt_or_ge i (a + b) with hlt | hge
  · rw [List.getElem?_append_left (by rw [hv]; exact hlt), List.getElem?_eq_getElem (by rw [hv]; exact hlt)]; rfl
  · obtain ⟨j, rfl⟩ := Nat.exists_eq_add_of_le hge
    rw [List.getElem?_append_right (by rw [hv]; exact hge), List.getElem?_eq_none (l := vals) (by rw [hv]; exact hge), List.getElem?_drop, hv, Nat.add_sub_cancel_left]
    exact lookup_zip ((List.drop_sublist _ _).nodup nd) (i := b + j) (by rw [List.getElem?_drop, ← Nat.add_assoc]; exact hp)
theorem bind_plain {fd : FuncData} {vals ds : List Value} {Q : List (Str × Value) → Shared → Prop} (Pa : PlainArgs fd.params) (hd : ∀ Q' : Option (Array Value) → Shared → Prop, (∀ x, (x.getD #[]).toList = ds → Q' x s) → wpAny (model prog w) A (seqItems? fd.defaults) Q' E s)
    (h1 : vals.length ≤ (argNames fd.params).length) (h2 : (argNames fd.params).length - vals.length ≤ ds.length) (h3 : ds.length ≤ (argNames fd.params).length)
    (q : Q ((argNames fd.params).zip (vals ++ ds.drop (ds.length - ((argNames fd.params).length - vals.length)))) s) : wpAny (model prog w) A (bindArgs fd ⟨vals, []⟩) Q E s := by
  obtain ⟨po, ko, va, ka, nd⟩ := Pa
  unfold bindArgs
  simp only [po, ko, va, ka, List.map_nil, List.nil_append, List.append_nil, List.forIn_nil]
  change wpAny _ _ _ _ _ _
  rw [show List.map (fun x => x.arg) fd.params.args = argNames fd.params from rfl]
  generalize argNames fd.params = P at *
  refine El_eeeaa (parts_of h1 h2 h3) fun a b c e1 e2 e3 => ?_
  have ea : P.length - ds.length = a := by rw [e1, e3, Nat.add_sub_cancel]
  have eb : ds.length - (P.length - vals.length) = b := by rw [e1, e2, e3, ← Nat.add_assoc, Nat.add_sub_cancel_left, Nat.add_sub_cancel]
  rw [eb] at q
  refine wpAny_bind (wpAny_pure (wpAny_bind (hd _ fun x hx => ?_)))
  rw [hx]
  dsimp only
  rw [if_neg (by rw [Bool.and_eq_true, decide_eq_true_eq]; exact fun z => Nat.not_lt.mpr h1 z.1), Nat.sub_eq_zero_of_le h3, List.drop_zero, ea, bind_some nd e1 e2]
  simp only [List.isEmpty_nil, Bool.not_true, Bool.false_eq_true, if_false]
  refine wpAny_bind (bind_loop (A0 := P.zip vals) _ _ [] _ (fun n => by rw [List.lookup_nil]; cases (P.zip vals).lookup n <;> rfl) (fun sl hsl => ?_))
  refine wpAny_bind (wpAny_pure ?_)
  rw [if_neg (by exact Bool.false_ne_true)]
  exact wpAny_pure ((bind_list nd e1 e2 e3 hsl).symm ▸ q)
end
/-! ## The entry into a def, and the way back -/
noncomputable def plainB (p : Arguments) : Bool := p.posonlyargs.isEmpty && p.kwonlyargs.isEmpty && p.vararg.isNone && p.kwarg.isNone && decide ((argNames p).Nodup)
noncomputable def prmB : Bool := fnT.all fun x => ((stmtAt x.2.2.1 x.2.2.2).bind partsOf).any fun q => plainB q.1 && !q.2.2.isCoroutine && !q.2.2.isGenerator && q.2.2.kind == .function && namesOk q.2.2.names && ((argNames q.1).all fun p => q.2.2.names.lookup p == some .local || q.2.2.names.lookup p == some .cell) && decide (((dsT.lookup x.1).getD []).length ≤ q.1.args.length)
set_option maxRecDepth 1000000 in
theorem prm_ok : prmB = true := by decide +kernel
section
variable {M : Model} {kindOf : Str → Option NameKind}
theorem bindL_other {x : Str} : ∀ {l : List (Str × Value)} {m : NsMap}, x ∉ l.map (·.1) → bindL kindOf l m x = m x
  | [], _, _ => rfl
  | (y, v) :: r, m, h => by
    unfold bindL
    rw [bindL_other fun hm => h (.tail _ hm)]
    have hy : x ≠ y := fun e => h (by rw [e]; exact .head _)
    split
    · exact if_neg hy
    · rfl
theorem bindC_other {x : Str} : ∀ {l : List (Str × Value)} {m : NsMap}, x ∉ l.map (·.1) → bindC kindOf l m x = m x
  | [], _, _ => rfl
  | (y, v) :: r, m, h => by
    unfold bindC
    rw [bindC_other fun hm => h (.tail _ hm)]
    have hy : x ≠ y := fun e => h (by rw [e]; exact .head _)
    split
    · rfl
    · exact if_neg hy
theorem bindL_at {x : Str} {v : Value} : ∀ {l : List (Str × Value)} {m : NsMap}, (l.map (·.1)).Nodup → (x, v) ∈ l → kindOf x = some .local → bindL kindOf l m x = some v
  | (y, u) :: r, m, h, hm, hk => by
    obtain ⟨h1, h2⟩ := List.nodup_cons.mp h
    unfold bindL
    rcases List.mem_cons.mp hm with e | hm
    · cases e
      rw [bindL_other h1, if_pos hk]
      exact if_pos rfl
    · exact bindL_at h2 hm hk
theorem bindC_at {x : Str} {v : Value} : ∀ {l : List (Str × Value)} {m : NsMap}, (l.map (·.1)).Nodup → (x, v) ∈ l → kindOf x ≠ some .local → bindC kindOf l m x = some v
  | (y, u) :: r, m, h, hm, hk => by
    obtain ⟨h1, h2⟩ := List.nodup_cons.mp h
    unfold bindC
    rcases List.mem_cons.mp hm with e | hm
    · cases e
      rw [bindC_other h1, if_neg hk]
      exact if_pos rfl
    · exact bindC_at h2 hm hk
theorem cells_keep {x : Str} : ∀ {l : List (Str × NameKind)} {n : Nat} {acc : List (Str × Addr)}, (acc.lookup x).isSome = true → ((cellsFrom n l acc).lookup x).isSome = true
  | [], _, _, h => h
  | (y, k) :: r, n, acc, h => by
    unfold cellsFrom
    split
    · refine cells_keep ?_
      rw [List.lookup_cons]
      cases (x == y)
      · exact h
      · rfl
    · exact cells_keep h
theorem cells_have {x : Str} : ∀ {l : List (Str × NameKind)} {n : Nat} {acc : List (Str × Addr)}, l.lookup x = some .cell → ((cellsFrom n l acc).lookup x).isSome = true
  | [], _, _, h => by cases h
  | (y, k) :: r, n, acc, h => by
    rw [List.lookup_cons] at h
    unfold cellsFrom
    by_cases hx : (x == y) = true
    · rw [hx] at h
      cases h
      rw [if_pos (by decide)]
      refine cells_keep ?_
      rw [List.lookup_cons, hx]; rfl
    · rw [Bool.not_eq_true] at hx
      rw [hx] at h
      split <;> exact cells_have h
theorem cells_of {s s₁ : Shared} {L' : Addr} {m' cm : NsMap} {cells : List (Str × Addr)} (x : InCallC s L' m' cells cm s₁) : ∀ {P : List Str}, P.Nodup →
    ∃ ce : List (Addr × Obj), (∀ p ∈ P, ∀ c, cells.lookup p = some c → ∃ o, (c, o) ∈ ce ∧ o.data = .cell (cm p)) ∧ (∀ q ∈ ce, s₁.heap.get? q.1 = some q.2 ∧ L' < q.1 ∧ ∃ p ∈ P, cells.lookup p = some q.1) ∧ (ce.map (·.1)).Nodup
  | [], _ => ⟨[], (fun p hp => nomatch hp), (fun q hq => nomatch hq), List.nodup_nil⟩
  | p :: P, h => by
    obtain ⟨h1, h2⟩ := List.nodup_cons.mp h
    refine El_eaa (cells_of x h2) fun ce a b c => ?_
    cases hl : cells.lookup p with
    | none =>
      refine ⟨ce, fun p' hp' c' hc' => ?_, fun q hq => ?_, c⟩
      · rcases List.mem_cons.mp hp' with rfl | hp'
        · rw [hl] at hc'; cases hc'
        · exact a p' hp' c' hc'
      · refine El_aaea (b q hq) fun b1 b2 p' b3 b4 => ?_
        exact ⟨b1, b2, p', .tail _ b3, b4⟩
    | some d =>
      refine El_ea (x.cell p d hl) fun o ho hd => ?_
      refine ⟨(d, o) :: ce, fun p' hp' c' hc' => ?_, fun q hq => ?_, List.nodup_cons.mpr ⟨fun hm => ?_, c⟩⟩
      · rcases List.mem_cons.mp hp' with rfl | hp'
        · rw [hl] at hc'; cases hc'
          exact ⟨o, .head _, hd⟩
        · refine El_ea (a p' hp' c' hc') fun o' e1 e2 => ?_
          exact ⟨o', .tail _ e1, e2⟩
      · rcases List.mem_cons.mp hq with rfl | hq
        · exact ⟨ho, x.above p d (lookup_mem hl), p, .head _, hl⟩
        · refine El_aaea (b q hq) fun b1 b2 p' b3 b4 => ?_
          exact ⟨b1, b2, p', .tail _ b3, b4⟩
      · refine El_ea (List.mem_map.mp hm) fun q hq e => ?_
        refine El_aaea (b q hq) fun x_ x_ p' b3 b4 => ?_
        rw [e] at b4
        have := name_of_addr x.apart (lookup_mem hl) (lookup_mem b4)
        exact h1 (by rw [this]; exact b3)
end
/-! ## What is known of a def -/
structure FnIs (K : Frag) (a : Addr) (fn : Fn) (o : Obj) (fd : FuncData) : Prop where
  look : K.lookup a = some o
  data : o.data = .func fd
  body : fd.body = .stmts fn.body
  names : fn.names = fd.scope.names
  ps : fn.ps = argNames fd.params
  glob : fd.globals = mainGlobals
  clo : fd.closure = []
  blt : fd.builtins = builtinsNs
  code : codeIn K fd.code fd.qualname = true
  plain : PlainArgs fd.params
  co : fd.scope.isCoroutine = false
  gen : fd.scope.isGenerator = false
  kind : fd.scope.kind = .function
  ok : namesOk fd.scope.names = true
  par : ∀ p ∈ argNames fd.params, fd.scope.names.lookup p = some .local ∨ fd.scope.names.lookup p = some .cell
  dlen : fn.ds.length ≤ fn.ps.length
  dfl : (fn.ds = [] ∧ fd.defaults = .none) ∨ ∃ t ot its nn, fd.defaults = .ref t ∧ K.lookup t = some ot ∧ ot.data = .seq its nn ∧ ∀ as, All2 (VR K as) fn.ds its.toList
theorem map_at {α β : Type} {f g : α → β} : ∀ {l : List α}, l.map f = l.map g → ∀ x ∈ l, f x = g x
  | [], _, x, hx => nomatch hx
  | y :: r, h, x, hx => by
    simp only [List.map_cons, List.cons.injEq] at h
    rcases List.mem_cons.mp hx with rfl | hx
    · exact h.1
    · exact map_at h.2 x hx
theorem vals_ok {K : Frag} {as : List Addr} : ∀ {ds : List V} {vs : List Value}, (∀ v ∈ ds, topIn K v = true) → ds.length = vs.length → ((ds.zip vs).all fun p => valOk p.1 p.2) = true → All2 (VR K as) ds vs := by
  intro ds
  induction ds with
  | nil => intro vs _ h _; cases vs with
    | nil => exact .nil
    | cons _ _ => cases h
  | cons v ds ih => intro vs ht h e; cases vs with
    | nil => cases h
    | cons x vs =>
      rw [List.zip_cons_cons, List.all_cons, Bool.and_eq_true] at e
      exact .cons (valOk_of e.1 (ht v (.head _)) as) (ih (fun u hu => ht u (.tail _ hu)) (Nat.succ.inj h) e.2)
theorem ds_top : (dsT.all fun p => p.2.all fun v => match v with | .top _ => false | _ => true) = true := by decide +kernel
theorem dsT_top {K : Frag} {a : Addr} {ds : List V} (h : dsT.lookup a = some ds) : ∀ v ∈ ds, topIn K v = true := fun v hv => by
  have h1 := List.all_eq_true.mp (List.all_eq_true.mp ds_top _ (lookup_mem h)) v hv
  cases v with
  | top _ => exact no_true h1
  | _ => rfl
theorem dfl_is {K : Frag} {a : Addr} {d : Value} (h : dfl1 K (dsT.lookup a) d = true) : ((dsT.lookup a).getD [] = [] ∧ d = .none) ∨ ∃ t ot its nn, d = .ref t ∧ K.lookup t = some ot ∧ ot.data = .seq its nn ∧ ∀ as, All2 (VR K as) ((dsT.lookup a).getD []) its.toList := by
  cases hd : dsT.lookup a with
  | none => rw [hd] at h; exact .inl ⟨rfl, noneW_true h⟩
  | some ds =>
    rw [hd] at h
    refine El_ea (any_of h) fun its h1 h2 => ?_
    refine El_ea (bind_of h1) fun t h3 h1 => ?_
    refine El_ea (bind_of h1) fun ot h4 h1 => ?_
    obtain ⟨nn, h5⟩ := seqD_some h1
    rw [valsOk, Bool.and_eq_true] at h2
    exact .inr ⟨t, ot, its, nn, refW_some h3, h4, h5, fun as => vals_ok (dsT_top hd) (beq_iff_eq.mp h2.1) h2.2⟩
theorem fn_is {K : Frag} {mg mb : NsMap} {base : Heap} (T : TopOk K mg mb base) {a : Addr} {fn : Fn} (h : fnAt a = some fn) : ∃ o fd, FnIs K a fn o fd := by
  refine El_ea (bind_of h) fun x hx h => ?_
  refine El_ea (bind_of h) fun st hst h => ?_
  obtain ⟨⟨p, b, sc⟩, hf, h⟩ := map_of h
  cases h
  have hm : (a, x) ∈ fnT := lookup_mem hx
  have hd := map_at T.dat _ hm
  have h9 : (stmtAt x.2.1 x.2.2).bind partsOf = some (p, FuncBody.stmts b, sc) := (congrArg (fun o => Option.bind o partsOf) hst).trans (congrArg (Option.map _) hf)
  refine El_ea (any_of (List.all_eq_true.mp prm_ok _ hm)) fun q e1 hp => ?_
  cases h9.symm.trans e1
  have hf1 := (Bool.and_eq_true _ _).mp (List.all_eq_true.mp T.fn _ hm)
  refine El_ea (any_of hf1.2) fun fd h1 h2 => ?_
  refine El_ea (any_of (List.all_eq_true.mp T.dfl _ hm)) fun fd' h1' h3 => ?_
  cases h1.symm.trans h1'
  refine El_ea (bind_of h1) fun o ho h4 => ?_
  have hd' : some (fd.params, fd.body, fd.scope) = some (p, FuncBody.stmts b, sc) := (congrArg (Option.map _) h1).symm.trans (hd.trans h9)
  simp only [Option.some.injEq, Prod.mk.injEq] at hd'
  refine El_aa hd' fun r_0 hb r_2 => ?_; (first | subst r_0 | cases r_0); (first | subst r_2 | cases r_2)
  simp only [Bool.and_eq_true, beq_iff_eq, List.isEmpty_iff] at h2
  simp only [Bool.and_eq_true, Bool.not_eq_true', beq_iff_eq, decide_eq_true_eq, plainB, List.isEmpty_iff, Option.isNone_iff_eq_none, List.all_eq_true, Bool.or_eq_true, Option.any_some] at hp
  obtain ⟨⟨⟨⟨⟨⟨⟨⟨⟨⟨p1, p2⟩, p3⟩, p4⟩, p5⟩, p6⟩, p7⟩, p8⟩, p9⟩, p10⟩, p11⟩ := hp
  obtain ⟨⟨⟨⟨f1, f2⟩, f3⟩, f4⟩, f5⟩ := h2
  exact ⟨_, fd, ho, funcD_some h4, hb, rfl, rfl, f2, f3, f4, by rw [f1]; exact f5, ⟨p1, p2, p3, p4, p5⟩, p6, p7, p8, p9, p10, by simpa using p11, dfl_is h3⟩
/-! ## A call's frame -/
section
variable {K : Frag} {w : World} {prog : Program} {X : Fx} {m m' : NsMap} {ex ex' : List (Addr × Obj)} {XR XR' : XRel} {cs cs₀ : List CO} {μ : Mem} {s : Shared} {mg mb : NsMap} {n : Nat} {h h' : Heap} {k : Kinds} {ρ : Loc} {C : CallT} {env : Env}
noncomputable def subFx (X : Fx) (m : NsMap) (A : Around) (env : Env) : Fx := { A := A, env := env, outer := X.env :: X.outer, L := env.locals, low := (X.L, m) :: X.low, base := X.base, os := X.os, c0 := X.c0 }
theorem SRh.up {A : Around} (S : SRh K w prog (subFx X m A env) m' (ex' ++ ex) cs μ h) (hsz : X.base.objs.size ≤ X.L) : SRh K w prog X m ex cs μ h := by
  refine ⟨S.stays, (S.low _ (.head _)).1, hsz, fun p hp => S.low p (.tail _ hp), fun q hq => S.led q (by rcases List.mem_append.mp hq with z | z; exact List.mem_append_left _ (List.mem_append_right _ z); exact List.mem_append_right _ z), S.sz, S.fro, S.szs, ?_, S.O⟩
  have hd := S.dist
  refine List.Sublist.nodup ?_ hd
  simp only [subFx, List.map_cons, List.map_append, List.cons_append, List.append_assoc]
  refine List.Sublist.cons _ (List.Sublist.cons_cons _ (List.Sublist.append (List.Sublist.refl _) (List.sublist_append_right _ _)))
theorem Pend.up {A : Around} {sy d : V} {e dx : Addr} {tb : Option Value} (P : Pend K w prog (subFx X m A env) m' (ex' ++ ex) cs μ sy d e dx tb h) (hsz : X.base.objs.size ≤ X.L) : Pend K w prog X m ex cs μ sy d e dx tb h := by
  obtain ⟨S, ⟨oe, vs, v, h1, h2, h3, h4, h5, h6⟩, fl, edx, eb, db, ea, da⟩ := P
  have sub : ∀ {x : Addr}, x ∈ (ex ++ nw cs).map (·.1) → x ∈ ((ex' ++ ex) ++ nw cs).map (·.1) := fun hx => by
    rw [List.append_assoc, List.map_append]; exact List.mem_append_right _ hx
  refine ⟨S.up hsz, ⟨oe, vs, v, h1, h2, h3, h4, h5, ?_⟩, fl, edx, eb, db, fun z => ea (sub z), fun z => da (.tail _ z)⟩
  cases tb with
  | none => exact h6
  | some f =>
    refine El_eeeaaaaaaa h6 fun Ta oT ts a1 a2 a3 a4 a5 a6 a7 a8 => ?_
    exact ⟨Ta, oT, ts, a1, a2, a3, a4, a5, a6, fun z => a7 (sub z), a8⟩
theorem SRh.old (S : SRh K w prog X m ex cs μ h) {a : Addr} (ha : a ∈ X.L :: X.low.map (·.1) ++ (ex ++ nw cs).map (·.1)) : a < h.objs.size := by
  rcases List.mem_append.mp ha with z | z
  · rcases List.mem_cons.mp z with rfl | z
    · refine El_eeea S.ns fun o x_ x_ ho x_ => ?_; exact Heap.lt_size ho
    · refine El_ea (List.mem_map.mp z) fun p hp r_2 => ?_; (first | subst r_2 | cases r_2)
      refine El_eeea ((S.low p hp).1) fun o x_ x_ ho x_ => ?_; exact Heap.lt_size ho
  · obtain ⟨p, hp, rfl⟩ := List.mem_map.mp z
    exact Heap.lt_size (S.led p hp).1
theorem zip_at {as : List Addr} {y : Str} {u : V} : ∀ {P : List Str} {full : List V} {vals : List Value}, All2 (VR K as) full vals → (P.zip full).lookup y = some u → ∃ val, (y, val) ∈ P.zip vals ∧ VR K as u val
  | [], _, _, _, h => by simp at h
  | _ :: _, _, _, .nil, h => by simp at h
  | p :: P, _, _, .cons (a := a) (b := b) x z, h => by
    rw [List.zip_cons_cons, List.lookup_cons] at h
    by_cases hy : (y == p) = true
    · rw [hy] at h; cases h
      rw [eq_of_beq hy]
      exact ⟨b, .head _, x⟩
    · rw [Bool.not_eq_true] at hy
      rw [hy] at h
      refine El_ea (zip_at z h) fun v h1 h2 => ?_
      exact ⟨v, .tail _ h1, h2⟩
theorem enter0 (T : FxOk K mg mb (n + 1) X) (A : Around) (hA : A.frames = X.A.frames) (hA2 : A.depth ≤ X.A.depth + 1) (hA3 : A.units ≤ X.A.units + 4) (hA4 : A.handled = none)
    (S : SR K w prog X m ex cs μ s) {a : Addr} {fn : Fn} {o : Obj} {fd : FuncData} {vargs : List Value} (F : FnIs K a fn o fd) (hlen : vargs.length ≤ fn.ps.length ∧ fn.ps.length - vargs.length ≤ fn.ds.length) {R : Result → Shared → Prop}
    (body : ∀ env ce m' s' dv, (∀ as, All2 (VR K as) fn.ds dv) → (∀ b o, s.heap.get? b = some o → s'.heap.get? b = some o) → (s.heap.get? env.locals = none ∧ ∀ q ∈ ce, s.heap.get? q.1 = none) → FxOk K mg mb n (subFx X m (A.deeper env) env) → BodyOk (subFx X m (A.deeper env) env) fn.names → SR K w prog (subFx X m (A.deeper env) env) m' (ce ++ ex) cs μ s' →
      (∀ y val, (y, val) ∈ fn.ps.zip (vargs ++ dv.drop (fn.ds.length - (fn.ps.length - vargs.length))) → NameAt (subFx X m (A.deeper env) env) m' (ce ++ ex) env y val) →
      wpAny (model prog w) (A.deeper env) (execs fn.body env) (fun f s' => R (.ok (.ret (match f with | .ret v => v | _ => .none))) s')
        (fun e s' => wpAny (model prog w) (A.deeper env) (leaving env e) (fun x_ s'' => R (.error e) s'') (fun e' s'' => R (.error e') s'') s') s') :
    codeAny (model prog w) A (.call (.ref a) ⟨vargs, []⟩) R s := by
  have X' := T.top.inb.keeps S.1.stays
  have hroom : A.depth < recursionLimit := by have := T.depth; omega
  have hlim := T.top.nolimit
  rw [F.ps] at hlen
  have fin : ∀ dv : List Value, (∀ as, All2 (VR K as) fn.ds dv) → (∀ Q' : Option (Array Value) → Shared → Prop, (∀ x, (x.getD #[]).toList = dv → Q' x s) → wpAny (model prog w) A.in1 (seqItems? fd.defaults) Q' (fun e s' => R (.error e) s') s) →
      codeAny (model prog w) A (.call (.ref a) ⟨vargs, []⟩) R s := fun dv hdv hseq => by
      refine codeAny_call_function hroom (X' _ _ F.look) F.data F.co F.gen F.body (codeRec_of X' F.code) ?_
      have hdl := F.dlen
      rw [F.ps] at hdl
      have hdvl := (hdv []).length
      refine bind_plain F.plain hseq (by omega) (by omega) (by omega) ?_
      rw [F.clo]
      have hlenF : (argNames fd.params).length = (vargs ++ dv.drop (dv.length - ((argNames fd.params).length - vargs.length))).length := by
        rw [List.length_append, List.length_drop]; omega
      have body' := fun env ce m' s' => body env ce m' s' dv hdv
      rw [F.ps, hdvl] at body'
      generalize vargs ++ dv.drop (dv.length - ((argNames fd.params).length - vargs.length)) = vals at hlenF body' ⊢
      have hnames : ((argNames fd.params).zip vals).map (·.1) = argNames fd.params := by rw [List.map_fst_zip]; omega
      refine wpAny_newFunctionEnv_cells F.kind (fun x hx => ?_) fun env he s' x => ?_
      · have hp : x.1 ∈ argNames fd.params := (List.of_mem_zip hx).1
        rcases F.par _ hp with z | z
        · exact .inl z
        · exact .inr ⟨z, cells_have z⟩
      subst he
      refine El_ee x.toInCall.same fun h' tk r_2 => ?_; (first | subst r_2 | cases r_2)
      have keep := x.toInCall.keep
      dsimp only at keep
      have ndn : (((argNames fd.params).zip vals).map (·.1)).Nodup := by rw [hnames]; exact F.plain.nd
      refine El_eaa (cells_of x (P := argNames fd.params) F.plain.nd) fun ce c1 c2 c3 => ?_
      refine ⟨hlim.keeps fun b o e => keep _ _ (S.1.stays b o e), codeAny_func ?_⟩
      refine body' _ ce _ _ keep ⟨Heap.get?_none_of_le (Nat.le_refl _), fun q hq => Heap.get?_none_of_le (Nat.le_of_lt (c2 q hq).2.1)⟩ ⟨T.top, ?_, rfl, F.kind, .cons ⟨T.frame, T.kind⟩ T.low, ?_, ?_, hA4⟩ ⟨⟨fun y q hq x_ => ?_, F.kind, F.glob, F.blt, by rw [F.names]; exact F.ok⟩, rfl⟩ ⟨⟨?_, x.toInCall.ns, S.1.size_le, ?_, ?_, S.1.sz, S.1.fro, S.1.szs, ?_, S.1.O⟩, S.2⟩ ?_
      · show A.frames.map _ = _
        rw [hA, T.frames]; rfl
      · show A.depth + 1 + 2 * n + 8 < recursionLimit
        have := T.depth; omega
      · show A.units + 3 + 8 * n + 40 < cLine
        have := T.units; omega
      · rw [F.names] at hq; exact hq
      · exact fun b o e => keep _ _ (S.1.stays b o e)
      · intro p hp
        rcases List.mem_cons.mp hp with rfl | hp
        · exact ⟨S.1.ns.keeps keep, S.1.baseNone⟩
        · exact ⟨(S.1.low p hp).1.keeps keep, (S.1.low p hp).2⟩
      · intro q hq
        rw [List.append_assoc] at hq
        rcases List.mem_append.mp hq with z | z
        · refine El_aa (c2 q z) fun g1 g2 x_ => ?_
          have g3 : s.heap.objs.size ≤ q.1 := Nat.le_of_lt g2
          exact ⟨g1, S.1.baseFresh g3, fun e => by rw [e] at g3; exact Nat.lt_irrefl _ (Nat.lt_of_lt_of_le S.1.sz (Nat.le_trans S.1.size_le g3))⟩
        · exact ⟨keep _ _ (S.1.led q z).1, (S.1.led q z).2⟩
      · show (s.heap.objs.size :: (X.L :: X.low.map (·.1)) ++ ((ce ++ ex) ++ nw cs).map (·.1)).Nodup
        rw [List.append_assoc, List.map_append, ← List.append_assoc]
        have hperm : (s.heap.objs.size :: (X.L :: X.low.map (·.1)) ++ ce.map (·.1) ++ (ex ++ nw cs).map (·.1)).Perm ((s.heap.objs.size :: ce.map (·.1)) ++ ((X.L :: X.low.map (·.1)) ++ (ex ++ nw cs).map (·.1))) := by
          rw [← List.append_assoc]
          refine List.Perm.append_right _ ?_
          exact (List.perm_append_comm (l₁ := X.L :: X.low.map (·.1)) (l₂ := ce.map (·.1))).cons _
        rw [hperm.nodup_iff]
        refine List.nodup_append.mpr ⟨List.nodup_cons.mpr ⟨fun hm => ?_, c3⟩, S.1.dist, fun u hu v hv e => ?_⟩
        · refine El_ea (List.mem_map.mp hm) fun q hq e => ?_
          have g2 := (c2 q hq).2.1
          rw [e] at g2
          exact Nat.lt_irrefl _ g2
        · subst e
          have h1 := S.1.old hv
          rcases List.mem_cons.mp hu with rfl | hu
          · exact Nat.lt_irrefl _ h1
          · refine El_ea (List.mem_map.mp hu) fun q hq e => ?_
            have g2 : s.heap.objs.size < q.1 := (c2 q hq).2.1
            rw [e] at g2
            exact Nat.lt_irrefl _ (Nat.lt_trans h1 g2)
      · intro y val hm
        have hp : y ∈ argNames fd.params := (List.of_mem_zip hm).1
        rcases F.par y hp with hk | hk
        · exact .loc rfl hk (bindL_at ndn hm hk)
        · obtain ⟨c, hc⟩ := Option.isSome_iff_exists.mp (cells_have (n := s.heap.objs.size + 1) (acc := []) hk)
          refine El_ea (c1 y hp c hc) fun oc e1 e2 => ?_
          exact .cell (.inl hk) hc (List.mem_append_left _ e1) (by rw [e2, bindC_at ndn hm (by rw [show Env.kindOf _ y = fd.scope.names.lookup y from rfl, hk]; decide)])
  rcases F.dfl with ⟨h1, h2⟩ | ⟨t, ot, its, nn, h1, h2, h3, h4⟩
  · refine fin [] (fun x_ => by rw [h1]; exact .nil) fun Q' q => ?_
    rw [h2]
    exact wpAny_bind (wpAny_pure (wpAny_pure (q _ rfl)))
  · refine fin its.toList h4 fun Q' q => ?_
    rw [h1]
    unfold seqItems?
    refine wpAny_bind (wpAny_load (X' _ _ h2) ?_)
    rw [h3]
    exact wpAny_pure (q _ rfl)
set_option tactic.hygienic true in
theorem enter (T : FxOk K mg mb (n + 1) X) (A : Around) (hA : A.frames = X.A.frames) (hA2 : A.depth ≤ X.A.depth + 1) (hA3 : A.units ≤ X.A.units + 4) (hA4 : A.handled = none)
    (S : SR K w prog X m ex cs μ s) {a : Addr} {fn : Fn} {args : List V} {vargs : List Value} (hf : fnAt a = some fn) (hargs : All2 (VR K (adr cs)) args vargs) (hb : bindA fn.ps fn.ds args = some ρ) {R : Result → Shared → Prop}
    (body : ∀ env ce m' s', FxOk K mg mb n (subFx X m (A.deeper env) env) → BodyOk (subFx X m (A.deeper env) env) fn.names → SR K w prog (subFx X m (A.deeper env) env) m' (ce ++ ex) cs μ s' → LR K (subFx X m (A.deeper env) env) (ce ++ ex) env m' (adr cs) ρ →
      wpAny (model prog w) (A.deeper env) (execs fn.body env) (fun f s' => R (.ok (.ret (match f with | .ret v => v | _ => .none))) s')
        (fun e s' => wpAny (model prog w) (A.deeper env) (leaving env e) (fun x_ s'' => R (.error e) s'') (fun e' s'' => R (.error e') s'') s') s') :
    codeAny (model prog w) A (.call (.ref a) ⟨vargs, []⟩) R s := by
  refine El_ee (fn_is T.top hf) fun o fd F => ?_
  unfold bindA at hb
  split at hb
  · rename_i hlen
    cases hb
    have hal := hargs.length
    rw [hal] at hlen
    refine enter0 T A hA hA2 hA3 hA4 S F hlen fun env ce m' s' dv hdv x_ x_ T' B' S' hN => body env ce m' s' T' B' S' fun y u hy => ?_
    rw [hal] at hy
    refine El_ea (zip_at (hargs.append ((hdv _).drop _)) hy) fun val hm hv => ?_
    exact ⟨val, hv, hN y val hm⟩
  · cases hb
end
/-! ## A def called -/
section
variable {K : Frag} {w : World} {prog : Program} {X : Fx} {m m' : NsMap} {ex ex' : List (Addr × Obj)} {XR XR' : XRel} {cs cs₀ : List CO} {μ : Mem} {s : Shared} {mg mb : NsMap} {n : Nat} {h h' : Heap} {k : Kinds} {ρ : Loc} {C : CallT} {env : Env}
theorem fn_code (T : FxOk K mg mb (n + 1) X) (HB : ∀ X', FxOk K mg mb n X' → ∀ ex k, BodyOk X' k → ∀ body, PSs K w prog X' ex k C body) (A : Around) (hA : A.frames = X.A.frames) (hA2 : A.depth ≤ X.A.depth + 1) (hA3 : A.units ≤ X.A.units + 4) (hA4 : A.handled = none)
    {a : Addr} {fn : Fn} (hf : fnAt a = some fn) {args : List V} {vargs : List Value} (S : SR K w prog X m ex cs μ s) (hargs : All2 (VR K (adr cs)) args vargs) {r : Out V × Mem} (e : runFn C fn args μ = some r) {Q : Value → Shared → Prop} {E : Value → Shared → Prop} (p : Post K w prog X ex cs (XO K w prog X ex) (VQ K m) Q E r) :
    codeAny (model prog w) A (.call (.ref a) ⟨vargs, []⟩) (fun r s' => match r with | .ok (.ret v) => Q v s' | .ok _ => False | .error e => E e s') s := by
  unfold runFn at e
  cases hb : bindA fn.ps fn.ds args with
  | none => rw [hb] at e; cases e
  | some ρ =>
    rw [hb] at e
    have e' : bnd (exSs C fn.names fn.body ρ) (fun r => ret (r.1.getD .none)) μ = some r := e
    refine enter T A hA hA2 hA3 hA4 S hf hargs hb fun env ce m' s' T' B' S' L' => ?_
    rcases bnd_some e' with ⟨sy, d, μ', z, rfl⟩ | ⟨q, μ', z, e⟩
    · refine HB _ T' (ce ++ ex) _ B' fn.body m' cs ρ L' cs μ s' _ _ _ (Grow.refl _) S' z fun s'' cs'' m'' e' g'' hx => ?_
      obtain ⟨⟨dx, tb, P⟩, hg, hos⟩ := hx
      exact pend_leave T' P fun h'' P' => p { s'' with heap := h'' } cs'' m e' g'' ⟨⟨dx, _, P'.up S.1.above⟩, hg, hos⟩
    · cases e
      refine HB _ T' (ce ++ ex) _ B' fn.body m' cs ρ L' cs μ s' _ _ _ (Grow.refl _) S' z fun s'' cs'' m'' f g'' S'' hx => ?_
      obtain ⟨o, ρ'⟩ := q
      obtain ⟨_, h2⟩ := hx
      cases o with
      | none =>
        cases (show f = .next from h2)
        exact p s'' cs'' m _ g'' ⟨S''.1.up S.1.above, S''.2⟩ ⟨rfl, .none⟩
      | some v =>
        refine El_ea h2 fun vv h3 h4 => ?_
        cases (show f = .ret vv from h3)
        exact p s'' cs'' m _ g'' ⟨S''.1.up S.1.above, S''.2⟩ ⟨rfl, h4⟩
theorem fn_snd (T : FxOk K mg mb (n + 1) X) (HB : ∀ X', FxOk K mg mb n X' → ∀ ex k, BodyOk X' k → ∀ body, PSs K w prog X' ex k C body) {a : Addr} {fn : Fn} (hf : fnAt a = some fn) {args : List V} {vargs : List Value}
    (hargs : All2 (VR K (adr cs₀)) args vargs) : Snd K w prog X ex (XO K w prog X ex) m cs₀ (call (.ref a) vargs []) (runFn C fn args) (VQ K m) := fun cs μ s r Q E g S e p =>
  wpAny_call (fn_code T HB X.A rfl (Nat.le_succ _) (Nat.le_add_right _ _) T.hnd hf S (hargs.mono fun x_ x_ z => z.grow g) e p)
end
/-! ## A class called -/
section
variable {K : Frag} {w : World} {prog : Program} {X : Fx} {m m' : NsMap} {ex ex' : List (Addr × Obj)} {XR XR' : XRel} {cs cs₀ : List CO} {μ : Mem} {s : Shared} {mg mb : NsMap} {n : Nat} {h h' : Heap} {k : Kinds} {ρ : Loc} {C : CallT} {env : Env}
theorem under_new {A : Around} {a : Addr} {l : List Value} : (A.under (.builtin "type.__call__" ⟨.ref a :: l, []⟩)).frames = A.frames ∧ (A.under (.builtin "type.__call__" ⟨.ref a :: l, []⟩)).depth ≤ A.depth + 1 ∧ (A.under (.builtin "type.__call__" ⟨.ref a :: l, []⟩)).units ≤ A.units + 4 ∧ (A.under (.builtin "type.__call__" ⟨.ref a :: l, []⟩)).handled = A.handled :=
  ⟨rfl, Nat.le_refl _, Nat.add_le_add_left (show 1 + 3 * 0 ≤ 4 by decide) _, rfl⟩
theorem push2 (S : SRh K w prog X m ex cs μ h) {a : Addr} : SRh K w prog X m ex (cs ++ [⟨h.objs.size + 1, instObj a h.objs.size, some (h.objs.size, emptyDict)⟩]) (μ ++ [.inst a []]) ((h.push emptyDict).push (instObj a h.objs.size)) := by
  refine S.more rfl (fun b o hb => Heap.get?_push_of_some _ (Heap.get?_push_of_some _ hb)) (fun q hq => ?_) (by simp [CO.ents]) ⟨h.objs.size, [], 0, rfl, rfl, rfl, rfl, .nil, fun x_ => rfl⟩
  simp only [CO.ents, Option.toList_some, List.mem_cons, List.not_mem_nil, or_false] at hq
  rcases hq with rfl | rfl
  · exact ⟨by heap_get, Nat.le_succ _⟩
  · exact ⟨Heap.get?_push_of_some _ (Heap.get?_push_size _ rfl), Nat.le_refl _⟩
set_option backward.match.sparseCases false in
theorem cls_snd (T : FxOk K mg mb (n + 1) X) (HB : ∀ X', FxOk K mg mb n X' → ∀ ex k, BodyOk X' k → ∀ body, PSs K w prog X' ex k C body) {a i : Addr} {fn : Fn} (hm : methT a "__init__" = some i) (hf : fnAt i = some fn) {args : List V} {vargs : List Value}
    (hargs : All2 (VR K (adr cs₀)) args vargs) : Snd K w prog X ex (XO K w prog X ex) m cs₀ (call (.ref a) vargs []) (bnd (newM (.inst a [])) fun v => bnd (runFn C fn (v :: args)) fun
      | .none => ret v
      | _ => stuck) (VQ K m) := fun cs μ s r Q E g S e p => by
  have X' := T.top.inb.keeps S.1.stays
  unfold methT at hm
  cases hcl : clT.lookup a with
  | none => rw [hcl] at hm; cases hm
  | some fm =>
    rw [hcl] at hm
    obtain ⟨fl, ml⟩ := fm
    have CO := cls_ok T.top.cl hcl
    have hme := CO.meth ("__init__", i) (lookup_mem hm)
    have e : bnd (runFn C fn (.ref μ.length :: args)) (fun x => match x with | .none => ret (.ref μ.length) | _ => stuck) (μ ++ [.inst a []]) = some r := e
    refine El_aaa (under_new (A := X.A) (a := a) (l := vargs)) fun u1 u2 u3 u4 => ?_
    obtain ⟨hh, gg, d, tk, os⟩ := s
    refine wpAny_call (make_core (makes_of X' CO.makes) (looks_findIn X' hme.1) (fun self => bind_fn X' self (beq_iff_eq.mp hme.2)) (.inl rfl) ?_)
    have hlen : μ.length = cs.length := S.1.O.length
    have S2 : SR K w prog X m ex _ _ ⟨(hh.push emptyDict).push (instObj a hh.objs.size), gg, d, tk, os⟩ := ⟨push2 S.1, S.2⟩
    have g2 := adr_push cs ⟨hh.objs.size + 1, instObj a hh.objs.size, some (hh.objs.size, emptyDict)⟩
    have hv : VR K (adr (cs ++ [⟨hh.objs.size + 1, instObj a hh.objs.size, some (hh.objs.size, emptyDict)⟩])) (.ref μ.length) (.ref (hh.objs.size + 1)) := by rw [hlen]; exact .ref (adr_last _ _)
    have hargs2 := hargs.mono fun x_ x_ z => VR.grow (g.trans g2) z
    obtain ⟨r0, z, p0⟩ : ∃ r0, runFn C fn (.ref μ.length :: args) (μ ++ [.inst a []]) = some r0 ∧ Post K w prog X ex (cs ++ [⟨hh.objs.size + 1, instObj a hh.objs.size, some (hh.objs.size, emptyDict)⟩]) (XO K w prog X ex) (VQ K m) (fun v s' => v = .none ∧ Q (.ref (hh.objs.size + 1)) s') E r0 := by
      rcases bnd_some e with ⟨sy, dd, μ', z, rfl⟩ | ⟨v, μ', z, e⟩
      · exact ⟨_, z, fun s' cs' m' e' g' hx => p s' cs' m' e' (g2.trans g') hx⟩
      · cases v with
        | none =>
          cases e
          refine ⟨_, z, fun s' cs' m' a' g' S' hx => ?_⟩
          obtain ⟨rfl, hv'⟩ := hx
          exact ⟨hv'.none_inv, p s' cs' _ _ (g2.trans g') S' ⟨rfl, hv.grow g'⟩⟩
        | _ => cases e
    refine codeAny_mono (fn_code T HB _ u1 u2 u3 (u4.trans T.hnd) hf S2 (.cons hv hargs2) z p0) fun r s' hr => ?_
    rcases r with er | (_ | _ | _ | v)
    · exact hr
    · exact hr
    · exact hr
    · exact hr
    · exact hr
end
/-! ## The own exception: its class, a first store -/
structure ExcIs (K : Frag) (nm q : Str) (bs : List Value) (sn : List Str) (sub : List Value) (ab : Bool) (col : Option Bool) (dd : Option Addr) (k0 k1 k2 k3 k5 : Option Value) (mN : NsMap) : Prop where
  cls : K.lookup 483 = some (excClassObj nm q 483 482 bs excMro true sn sub ab col dd k0 k1 k2 k3 k5 "Exception.__new__")
  ns : ∀ h : Heap, K.In h → h.Ns 482 mN
  init : mN "__init__" = some (.ref 480)
  set : mN "__setattr__" = none
  sym : mN "symbol" = none
  dat : mN "data" = none
  ga : mN "__getattribute__" = none
  gat : mN "__getattr__" = none
  fn : ∃ o, K.lookup 480 = some o ∧ o.cls = .type "function"
  keep : keepIn K (.ref 483) = true
theorem six_some {α : Type} {l : List α} {a b c d e f : α} (h : six l = some (a, b, c, d, e, f)) : l = [a, b, c, d, e, f] := by
  rcases l with _ | ⟨a', _ | ⟨b', _ | ⟨c', _ | ⟨d', _ | ⟨e', _ | ⟨f', _ | ⟨g', r⟩⟩⟩⟩⟩⟩⟩
  all_goals first
    | exact no_some h
    | (cases h; rfl)
theorem exc1_is {o : Obj} (h : exc1 o = true) : ∃ nm q bs sn sub ab col dd k0 k1 k2 k3 k5, o = excClassObj nm q 483 482 bs excMro true sn sub ab col dd k0 k1 k2 k3 k5 "Exception.__new__" := by
  obtain ⟨h1, h2⟩ := (Bool.and_eq_true _ _).mp h
  refine El_ea (any_of h2) fun cd h3 h4 => ?_
  simp only [Bool.and_eq_true, beq_iff_eq, Bool.not_eq_true'] at h4
  obtain ⟨⟨⟨⟨e1, e2⟩, e3⟩, e4⟩, h5⟩ := h4
  obtain ⟨⟨k0, k1, k2, k3, k4, k5⟩, h6, h7⟩ := any_of h5
  obtain ⟨cl, dd, dt, ⟨sl⟩⟩ := o
  obtain ⟨nm, bs, mro, ns, q, hdct, sn, sub, ab, col, hdel⟩ := cd
  refine ⟨nm, q, bs, sn, sub, ab, col, dd, k0, k1, k2, k3, k5, ?_⟩
  rw [show cl = _ from beq_iff_eq.mp h1, show dt = _ from clsD_some h3, show sl = _ from six_some h6, show mro = _ from e1, show ns = _ from e2, show hdct = _ from e3, show hdel = _ from e4, show k4 = _ from beq_iff_eq.mp h7]
theorem strKey_of {e : DictEntry} (h : isStrKey e = true) : ∃ n t, e.key = .str n t := by
  unfold isStrKey at h
  cases hk : e.key with
  | str n t => exact ⟨n, t, rfl⟩
  | _ => rw [hk] at h; exact no_true h
theorem exc_is {K : Frag} (h : excOk K = true) : ∃ nm q bs sn sub ab col dd k0 k1 k2 k3 k5 mN, ExcIs K nm q bs sn sub ab col dd k0 k1 k2 k3 k5 mN := by
  unfold excOk at h
  simp only [Bool.and_eq_true] at h
  obtain ⟨⟨⟨h1, h2⟩, h3⟩, h4⟩ := h
  refine El_ea (any_of h1) fun o ho h1 => ?_
  refine El_ea (any_of h2) fun o2 ho2 h2 => ?_
  refine El_ea (any_of h3) fun o3 ho3 h3 => ?_
  refine El_eeeeeeeeeeeee (exc1_is h1) fun nm q bs sn sub ab col dd k0 k1 k2 k3 k5 e1 => ?_
  refine El_ea (any_of h2) fun es h5 h6 => ?_
  obtain ⟨ep, h5⟩ := dictD_some h5
  simp only [Bool.and_eq_true, beq_iff_eq, List.all_cons, List.all_nil, Bool.and_true] at h6
  obtain ⟨⟨a1, a2⟩, a3, a4, a5, a6, a7⟩ := h6
  exact ⟨nm, q, bs, sn, sub, ab, col, dd, k0, k1, k2, k3, k5, nsFind es, ho.trans (congrArg some e1), fun h X => ⟨_, es, ep, X _ _ ho2, h5, fun e he => strKey_of (Array.all_eq_true_iff_forall_mem.mp a1 e he), fun x_ => rfl⟩, a2, a3, a4, a5, a6, a7, ⟨o3, ho3, beq_iff_eq.mp h3⟩, h4⟩
theorem x_sym : typeLookup (.type "Exception") "symbol" = pure none := by rw [typeLookup_type, builtinLookup_eq_fast]; kernel_rfl
theorem x_dat : typeLookup (.type "Exception") "data" = pure none := by rw [typeLookup_type, builtinLookup_eq_fast]; kernel_rfl
section
variable {prog : Program} {w : World} {A : Around} {E : Value → Shared → Prop} {h : Heap} {g : Array GenState} {d : Drawn} {t : Nat} {os : OsState}
variable {nm q : Str} {C N x : Addr} {bs bm : List Value} {sn : List Str} {sub : List Value} {ab : Bool} {col : Option Bool} {dd : Option Addr} {k0 k1 k2 k3 k5 : Option Value} {B newId sa owner : String}
  {mN mA : Str → Option Value} {name : Str} {v : Value}
set_option tactic.hygienic true in
theorem first_store {o : Obj} {Q : Unit → Shared → Prop} (SF : StoreFacts B bm sa owner) (hC : h.get? C = some (excClassObj nm q C N bs bm true sn sub ab col dd k0 k1 k2 k3 k5 newId)) (hn : h.Ns N mN) (hns : mN "__setattr__" = none) (hna : mN name = none)
    (hB : typeLookup (.type B) name = pure none) (hx : h.get? x = some o) (hc : o.cls = .ref C) (hnc : ∀ c, o.data ≠ .cls c) (hdn : o.dict = none)
    (hq : ∀ h' tk', h'.get? x = some { o with dict := some h.objs.size } → h'.Ns1 h.objs.size (fun y => if y = name then some v else none) → (∀ b ob, b ≠ x → h.get? b = some ob → h'.get? b = some ob) → Q () ⟨h', g, d, tk', os⟩) :
    wpAny (model prog w) A (setAttr (.ref x) name v) Q E ⟨h, g, d, t, os⟩ := by
  have f3 := SF.slot.bind (.ref x)
  have hpass := SF.passes (.ref x)
  unfold setAttr callSpecial? specialOf
  repeat (any_goals (first | assumption | (with_reducible refine wpAny_loadPart_at hx ?_; rw [hc]) | (with_reducible refine wpAny_typeLookup_exc hC hn SF.mro SF.slot.lookup ?_; rw [hns]) | wp_step))
  refine codeAny_call_builtin SF.slot.plain SF.entry (wpAny_check_sa SF hC hx hc ?_)
  unfold Builtin.«object.__setattr__»
  repeat (first | rw [refuse_eq] | (rw [refuseLoop_ref, hpass]) | (with_reducible refine wpAny_loadPart_at hx ?_; rw [hc]) | with_reducible refine wpAny_mroOf_exc hC ?_ | (with_reducible refine wpAny_typeLookup_exc hC hn SF.mro hB ?_; rw [hna]) | wp_step)
  rw [hdn, if_neg (by simp [typeHasDict])]
  split
  · rename_i hcd; cases hcd
  split
  · rename_i c hcd; exact absurd hcd (hnc c)
  have hx1 : (h.push emptyDict).get? x = some o := Heap.get?_push_of_some _ hx
  have hxs : x ≠ h.objs.size := Nat.ne_of_lt (Heap.lt_size hx)
  refine wpAny_bind (wpAny_alloc' ?_)
  refine wpAny_bind (wpAny_update' hx1 ?_)
  refine wpAny_pure ?_
  have hgd : ((h.push emptyDict).update x fun o => { o with dict := some h.objs.size }).get? h.objs.size = some emptyDict := (Heap.get?_update_ne _ _ _ _ hxs.symm).trans (Heap.get?_push_at rfl rfl)
  have hnd : ((h.push emptyDict).update x fun o => { o with dict := some h.objs.size }).Ns h.objs.size (fun x_ => none) := ⟨_, #[], _, hgd, rfl, fun e he => absurd he (by simp), fun x_ => rfl⟩
  show wpAny _ _ (Builtin.ObjectAttr.storeInDict h.objs.size (.str name t) name v) _ _ _
  unfold Builtin.ObjectAttr.storeInDict Builtin.ObjectAttr.newKeyGuard
  refine wpAny_bind (wpAny_pure (wpAny_bind (wpAny_nsSet1 (Heap.Ns1.of_empty hnd) fun h' hn' hs => ?_)))
  refine El_eeeaa (hn'.count (Within.cons name v Within.nil)) fun oD esD epD hoD hdD hcD => ?_
  refine wpAny_bind (wpAny_lookBehind hoD (by rw [hdD]; exact pastItsLine_dict (Nat.le_trans hcD (by rw [List.length_cons, List.length_nil, sizeLine_eq]; omega))) ?_)
  refine wpAny_pure (wpAny_pure (wpAny_pure (hq h' _ ?_ hn' fun b ob hb hob => ?_)))
  · refine (hs.2 x hxs).trans (Heap.get?_update_self _ hx1 ?_)
    have hfr := (Heap.get?_some_iff.mp hx).2
    obtain ⟨oc, od, odt, osl⟩ := o
    cases odt <;> first | rfl | exact hfr
  · exact (hs.2 b (Nat.ne_of_lt (Heap.lt_size hob))).trans ((Heap.get?_update_ne _ _ _ _ hb).trans (Heap.get?_push_of_some _ hob))
end
/-! ## The own exception made -/
theorem fn480 : ∃ fn p1 p2 p3 p4 p5 p6 p7 p8, fnAt 480 = some fn ∧ fn.ps = ([("self" : Str), ("symbol" : Str), ("data" : Str)] : List Str) ∧ fn.ds = [] ∧ fn.names = ([(("self" : Str), NameKind.local), (("symbol" : Str), NameKind.local), (("data" : Str), NameKind.local)] : Kinds) ∧
    fn.body = [.Assign [.Attribute (.Name "self" p1) "symbol" p2] (.Name "symbol" p3) p4, .Assign [.Attribute (.Name "self" p5) "data" p6] (.Name "data" p7) p8] :=
  ⟨_, _, _, _, _, _, _, _, _, rfl, rfl, rfl, rfl, rfl⟩
section
variable {K : Frag} {w : World} {prog : Program} {X : Fx} {m m' : NsMap} {ex ex' : List (Addr × Obj)} {XR XR' : XRel} {cs cs₀ : List CO} {μ : Mem} {s : Shared} {mg mb : NsMap} {n : Nat} {h h' : Heap} {k : Kinds} {ρ : Loc} {C : CallT} {env : Env}
theorem SRh.but (S : SRh K w prog X m ex cs μ h) {e dx : Addr} (hk : ∀ b o, b ≠ e → b ≠ dx → h.get? b = some o → h'.get? b = some o) (eb : X.base.get? e = none) (db : X.base.get? dx = none)
    (ea : e ∉ X.L :: X.low.map (·.1) ++ (ex ++ nw cs).map (·.1)) (da : dx ∉ X.L :: X.low.map (·.1) ++ (ex ++ nw cs).map (·.1)) : SRh K w prog X m ex cs μ h' := by
  have ns : ∀ {a : Addr} {m' : NsMap}, a ∈ X.L :: X.low.map (·.1) ++ (ex ++ nw cs).map (·.1) → h.Ns a m' → h'.Ns a m' := fun ha ⟨o, es, ep, ho, r⟩ => ⟨o, es, ep, hk _ _ (fun z => ea (z ▸ ha)) (fun z => da (z ▸ ha)) ho, r⟩
  refine ⟨fun b o q => hk b o (fun z => by rw [z, eb] at q; cases q) (fun z => by rw [z, db] at q; cases q) (S.stays b o q), ns (.head _) S.ns, S.above, fun p hp => ⟨ns (List.mem_append_left _ (.tail _ (List.mem_map_of_mem hp))) (S.low p hp).1, (S.low p hp).2⟩, fun q hq => ⟨?_, (S.led q hq).2⟩, S.sz, S.fro, S.szs, S.dist, S.O⟩
  have hm : q.1 ∈ X.L :: X.low.map (·.1) ++ (ex ++ nw cs).map (·.1) := List.mem_append_right _ (List.mem_map_of_mem hq)
  exact hk _ _ (fun z => ea (z ▸ hm)) (fun z => da (z ▸ hm)) (S.led q hq).1
theorem SRh.here (S : SRh K w prog X m ex cs μ h) {a : Addr} (ha : a ∈ X.L :: X.low.map (·.1) ++ (ex ++ nw cs).map (·.1)) : ∃ o, h.get? a = some o := by
  rcases List.mem_append.mp ha with z | z
  · rcases List.mem_cons.mp z with rfl | z
    · refine El_eeea S.ns fun o x_ x_ ho x_ => ?_; exact ⟨o, ho⟩
    · refine El_ea (List.mem_map.mp z) fun p hp r_2 => ?_; (first | subst r_2 | cases r_2)
      refine El_eeea ((S.low p hp).1) fun o x_ x_ ho x_ => ?_; exact ⟨o, ho⟩
  · obtain ⟨p, hp, rfl⟩ := List.mem_map.mp z
    exact ⟨_, (S.led p hp).1⟩
theorem asg_attr (eo : EnvOk X.env k) (S : SR K w prog X m ex cs μ s) {x y f : Str} {p1 p2 p3 p4 : Pos} {vo vv : Value} {Q : Flow → Shared → Prop} {E : Value → Shared → Prop} (hx : NameAt X m ex X.env x vo) (hy : NameAt X m ex X.env y vv)
    (bx : (x == ("__debug__" : Str)) = false ∧ (x == ("__classdict__" : Str)) = false) (bY : (y == ("__debug__" : Str)) = false ∧ (y == ("__classdict__" : Str)) = false)
    (q : wpAny (model prog w) X.A (setAttr vo f vv) (fun x_ s' => Q .next s') E s) : wpAny (model prog w) X.A (exec (.Assign [.Attribute (.Name x p1) f p2] (.Name y p3) p4) X.env) Q E s := by
  rw [arm_exec_Assign]
  refine wpAny_bind (wpAny_standAt ?_)
  have h1 : swapsWithSole [.Attribute (.Name x p1) f p2] (.Name y p3) p4.line X.env = pure false := swaps_not (t := some (.Attribute (.Name x p1) f p2)) (l := p4.line) (env := X.env) (show notComp (.Name y p3) = true from rfl)
  rw [h1, pure_bind, if_neg (by decide)]
  refine wpAny_bind (name_own eo S hy bY ?_)
  have hsw : swapT k (.Attribute (.Name x p1) f p2) (.Name y p3) = some none := rfl
  rw [(swapT_ok eo hsw).1, pure_bind]
  show wpAny _ _ (assign (.Attribute (.Name x p1) f p2) X.env vv >>= fun x_ => pure Flow.next) _ _ _
  rw [arm_assign_Attribute]
  refine wpAny_bind (wpAny_bind (wpAny_holding (name_own eo S hx bx ?_)))
  refine wpAny_bind (wpAny_standAt (wpAny_bind (wpAny_holding (wpAny_mono q (fun x_ s' hq => ?_) fun x_ x_ z => z))))
  exact wpAny_release (wpAny_pure hq)
theorem exc_made (T : FxOk K mg mb (n + 1) X) (S : SR K w prog X m ex cs μ s) {sy d : V} {vs vd : Value} (hs : VR K (adr cs) sy vs) {Q : Value → Shared → Prop} {E : Value → Shared → Prop}
    (q : ∀ s' e dx, Pend K w prog X m ex cs μ sy d e dx none s'.heap → s'.gens = #[] → s'.os = X.os → Q (.ref e) s') : wpAny (model prog w) X.A (call (.ref 483) [vs, vd] []) Q E s := by
  have X' := T.top.inb.keeps S.1.stays
  refine El_eeeeeeeeeeeeee (exc_is T.top.exc) fun nm q' bs sn sub ab col dd k0 k1 k2 k3 k5 mN Z => ?_
  refine El_eeeeeeeeeaaaa fn480 fun fn p1 p2 p3 p4 p5 p6 p7 p8 hf f1 f2 f3 f4 => ?_
  refine El_ee (fn_is T.top hf) fun of fd F => ?_
  refine El_ea Z.fn fun oI hoI hoc => ?_
  obtain ⟨hh, gg, d', tk, os⟩ := s
  have hC := X' _ _ Z.cls
  refine wpAny_call_exc_init PySem.F.excBase_Exception hC (Z.ns _ X') Z.init (X' _ _ hoI) hoc (fun h1 e hm => ?_) (by show 2 ≤ sizeLine; decide)
  have S1 : SR K w prog X m ex cs μ ⟨h1, gg, d', tk, os⟩ := S.keeps (tk := tk) hm.keeps
  refine El_aaa (under_new (A := X.A) (a := 483) (l := [vs, vd])) fun u1 u2 u3 u4 => ?_
  refine El_eaa hm.there fun t0 he1 x_ x_ => ?_
  refine wpAny_call (enter0 T _ u1 u2 u3 (u4.trans T.hnd) S1 F (vargs := [.ref e, vs, vd]) (by rw [f1, f2]; exact ⟨Nat.le_refl _, Nat.le_refl _⟩) fun env ce m' s1 dv hdv keep new T' B' S' hN => ?_)
  have hdv0 : dv = [] := by have := hdv []; rw [f2] at this; cases this; rfl
  subst hdv0
  rw [f1] at hN
  have nSelf := hN "self" (.ref e) (.head _)
  have nSym := hN "symbol" vs (.tail _ (.head _))
  have nDat := hN "data" vd (.tail _ (.tail _ (.head _)))
  have eo := B'.eo
  -- where nothing of the exception lies
  have ea : e ∉ env.locals :: (X.L :: X.low.map (·.1)) ++ ((ce ++ ex) ++ nw cs).map (·.1) := fun hmem => by
    have hs1 : h1.get? e ≠ none := by rw [he1]; exact fun z => by cases z
    have old : e ∉ X.L :: X.low.map (·.1) ++ (ex ++ nw cs).map (·.1) := fun z => by
      obtain ⟨o, ho⟩ := S.1.here z
      rw [hm.new] at ho; cases ho
    rw [List.append_assoc, List.map_append] at hmem
    rcases List.mem_append.mp hmem with z | z
    · rcases List.mem_cons.mp z with z | z
      · rw [z] at hs1; exact hs1 new.1
      · exact old (List.mem_append_left _ z)
    · rcases List.mem_append.mp z with z | z
      · refine El_ea (List.mem_map.mp z) fun q hq z => ?_
        rw [← z] at hs1; exact hs1 (new.2 q hq)
      · exact old (List.mem_append_right _ z)
  have eb : X.base.get? e = none := by
    cases hq : X.base.get? e with
    | none => rfl
    | some o => have := S.1.stays _ _ hq; rw [hm.new] at this; cases this
  obtain ⟨hs1, gs1, ds1, ts1, os1⟩ := s1
  have he2 := keep _ _ he1
  dsimp only at he2 S'
  have da : hs1.objs.size ∉ env.locals :: (X.L :: X.low.map (·.1)) ++ ((ce ++ ex) ++ nw cs).map (·.1) := fun hmem => Nat.lt_irrefl _ (S'.1.old hmem)
  have db : X.base.get? hs1.objs.size = none := S'.1.baseFresh (Nat.le_refl _)
  have edx : e ≠ hs1.objs.size := Nat.ne_of_lt (Heap.lt_size he2)
  rw [f4]
  show wpAny _ _ (exec _ env >>= fun f => match f with | .next => execs [_] env | f => pure f) _ _ _
  have X1 := T.top.inb.keeps S'.1.stays
  refine wpAny_bind (asg_attr (X := subFx X m _ env) eo S' nSelf nSym ⟨by decide +kernel, by decide +kernel⟩ ⟨by decide +kernel, by decide +kernel⟩ ?_)
  refine first_store PySem.F.store_Exception (X1 _ _ Z.cls) (Z.ns _ X1) Z.set Z.sym x_sym he2 rfl (fun c z => by cases z) rfl fun h2 tk2 g1 g2 g3 => ?_
  have S2 : SR K w prog (subFx X m _ env) m' (ce ++ ex) cs μ ⟨h2, gs1, ds1, tk2, os1⟩ := ⟨S'.1.but (e := e) (dx := hs1.objs.size) (fun b o hb x_ ho => g3 b o hb ho) eb db ea da, S'.2⟩
  show wpAny _ _ (exec _ env >>= fun f => match f with | .next => execs [] env | f => pure f) _ _ _
  have X2 := T.top.inb.keeps S2.1.stays
  refine wpAny_bind (asg_attr (X := subFx X m _ env) eo S2 nSelf nDat ⟨by decide +kernel, by decide +kernel⟩ ⟨by decide +kernel, by decide +kernel⟩ ?_)
  refine store_attr (ns := ["symbol"]) PySem.F.store_Exception (X2 _ _ Z.cls) (Z.ns _ X2) Z.set Z.dat x_dat (fun z => ?_) ⟨_, g1, rfl, (fun c z => by cases z), .inr ⟨_, rfl, edx.symm, g2⟩⟩ (fun h3 tk3 i1 i2 i3 => ?_) (Within.cons _ _ Within.nil)
  · rw [z, X2 _ _ Z.cls] at g1; cases g1
  · refine El_eaaaa (i3 _ g1) fun o1 j1 j2 j3 j4 j5 => ?_
    have S3 : SRh K w prog (subFx X m _ env) m' (ce ++ ex) cs μ h3 := S2.1.but (e := e) (dx := hs1.objs.size) (fun b o hb hb2 ho => i2 b o hb (fun o₀ dx' y1 y2 => by rw [g1] at y1; cases y1; cases y2; exact hb2) ho) eb db ea da
    refine wpAny_pure ⟨rfl, q _ e hs1.objs.size ?_ S'.2.1 S'.2.2⟩
    refine Pend.up (A := _) (env := env) (m' := m') (ex' := ce) ⟨S3, ⟨o1, _, .none, j1, j2, j5 _ rfl, j3, rfl, rfl⟩, ?_, edx, eb, db, fun z => ea (List.mem_append_right _ z), fun z => da (List.mem_append_left _ z)⟩ S.1.above
    refine El_eaaa i1 fun o2 y1 y2 y3 y4 => ?_
    rw [j1] at y1; cases y1
    rcases y4 with ⟨y5, _⟩ | ⟨dx', y5, y6, od, es, ep, y7, y8, y9, _, y10⟩
    · rw [j5 _ rfl] at y5; cases y5
    · rw [j5 _ rfl] at y5; cases y5
      exact ⟨od, y7, es, ep, vs, y8, y9, (y10 "symbol").trans (by rfl), hs⟩
end
/-! ## raise -/
section
variable {K : Frag} {w : World} {prog : Program} {X : Fx} {m m' : NsMap} {ex ex' : List (Addr × Obj)} {XR XR' : XRel} {cs cs₀ : List CO} {μ : Mem} {s : Shared} {mg mb : NsMap} {n : Nat} {h h' : Heap} {k : Kinds} {ρ : Loc} {C : CallT} {env : Env}
theorem raise_made {M : Model} {A : Around} {E : Value → Shared → Prop} {nm q : Str} {C N : Addr} {bs bm : List Value} {hdct : Bool} {sn : List Str} {sub : List Value} {ab : Bool} {col : Option Bool} {dd : Option Addr} {k0 k1 k2 k3 k5 : Option Value} {newId : String} {x : Sem Value} {Q : Flow → Shared → Prop}
    (hbase : bm.contains (.type "BaseException") = true) (hh : A.handled = none)
    (h : wpAny M A x (fun v s₁ => ∃ e oe vs, v = .ref e ∧ s₁.heap.get? C = some (excClassObj nm q C N bs bm hdct sn sub ab col dd k0 k1 k2 k3 k5 newId) ∧ s₁.heap.get? e = some oe ∧ oe.cls = .ref C ∧ oe.data = .fields vs ∧ vs[1]? = some .none ∧ E (.ref e) s₁) E s) :
    wpAny M A (raiseStmt env (some x) none) Q E s := by
  have hcB : (Value.ref C :: bm).contains (.type "BaseException") = true := by rw [List.contains_cons, hbase, Bool.or_true]
  unfold raiseStmt
  refine wpAny_bind (wpAny_mono h (fun v s₁ h₁ => ?_) fun x_ x_ x => x)
  obtain ⟨e, oe, vs, rfl, hC, he, hcl, hda, hv1, hE⟩ := h₁
  obtain ⟨hp, g, d, tk, os⟩ := s₁
  obtain ⟨oc, od, oda, osl⟩ := oe
  dsimp only at hcl hda
  subst hcl hda
  repeat (first | with_reducible refine wpAny_loadPart_at he ?_ | with_reducible refine wpAny_loadPart_at hC ?_ | (with_reducible refine wpAny_isSubtype_exc hC ?_; rw [hcB]) | wp_step)
  rw [hv1]
  refine wpAny_pure ?_
  rw [if_neg (by decide)]
  exact wpAny_pure (wpAny_raiseNew_none hh hE)
theorem Raise_snd (T : FxOk K mg mb (n + 1) X) (B : BodyOk X k) (HC : CallS K w prog X C) {e c : Option Expr} {p : Pos} : PS K w prog X ex k C (.Raise e c p) := fun m cs ρ l => by
  show Snd K w prog X ex (XO K w prog X ex) m cs (exec (.Raise e c p) X.env) (match raiseOf e c with
    | some q => if nameV k ρ q.1 = some (.top 483) ∧ noStar q.2 = true then bnd (evEs C k ρ q.2) raiseM else stuck
    | none => stuck) (SQ K X ex)
  cases hq : raiseOf e c with
  | none => exact Snd.stuck
  | some q =>
    obtain ⟨x, as⟩ := q
    refine El_eea (raiseOf_some hq) fun xp cp r_2 r_3 => ?_; (first | subst r_2 | cases r_2); (first | subst r_3 | cases r_3)
    clear hq
    refine Snd.ite (c := nameV k ρ x = some (.top 483) ∧ noStar as = true) (f := bnd (evEs C k ρ as) raiseM) fun hc => ?_
    obtain ⟨hn, hst⟩ := hc
    intro cs₁ μ s r Q E g S e q
    refine El_eeeeeeeeeeeeee (exc_is T.top.exc) fun nm q' bs sn sub ab col dd k0 k1 k2 k3 k5 mN Z => ?_
    rw [arm_exec_Raise]
    refine wpAny_bind (wpAny_standAt (raise_made (C := 483) (nm := nm) (q := q') (N := 482) (bs := bs) (bm := excMro) (hdct := true) (sn := sn) (sub := sub) (ab := ab) (col := col) (dd := dd) (k0 := k0) (k1 := k1) (k2 := k2) (k3 := k3) (k5 := k5) (newId := "Exception.__new__") (by decide) T.hnd ?_))
    have e0 : eval (.Call (.Name x xp) as [] cp) X.env = (eval (.Name x xp) X.env >>= fun fv => callWith cp fv [] (backTo cp (starEach as X.env)) []) := rfl
    refine wpAny_bind ?_
    show wpAny _ _ (eval (.Call (.Name x xp) as [] cp) X.env) _ _ _
    rw [e0]
    have hname := name_snd (w := w) (prog := prog) (ex := ex) (XR := XO K w prog X ex) B.eo T l x xp
    refine wpAny_bind (hname cs₁ μ s (.ok (.top 483), μ) _ _ g S (by rw [hn]; rfl) fun s' cs' m' a g' S' hx => ?_)
    obtain ⟨rfl, ha⟩ := hx
    obtain ⟨rfl, _⟩ := ha.top_inv
    have q' : Post K w prog X ex cs' (XO K w prog X ex) (SQ K X ex) Q E r := by
      obtain ⟨o, μ'⟩ := r
      cases o with
      | ok b' => exact fun s'' cs'' m'' a' g'' S'' z' => q s'' cs'' m'' a' (g'.trans g'') S'' z'
      | exc sy d => exact fun s'' cs'' m'' e' g'' z' => q s'' cs'' m'' e' (g'.trans g'') z'
    have hargs := (evEs_ok T HC as B.eo (l.grow (g.trans g'))).spl hst cp
    refine callWith_of (P := fun h => K.In h) (by rw [star_any hst]; rfl) (keeps_K Z.keep) (args_wp (star_any hst _) (hargs.use (Grow.refl _) S' e q' fun m₁ cs₂ vs ws μ₁ s₁ g₁ S₁ hv e₁ p₁ => ⟨T.top.inb.keeps S₁.1.stays, ?_⟩))
    obtain ⟨rfl, hv⟩ := hv
    rcases vs with _ | ⟨sy, _ | ⟨d, _ | ⟨_, _⟩⟩⟩
    · cases e₁
    · cases e₁
    · cases e₁
      obtain ⟨vs, vd, rfl, h1, h2⟩ := all2_2 hv
      refine exc_made (d := d) T S₁ h1 fun s₂ e dx P hg hos => ?_
      refine wpAny_bind (wpAny_standAt (wpAny_pure ?_))
      refine El_eeeaaaaa P.obj fun oe ves v b1 b2 b3 b4 b5 b6 => ?_
      cases (show v = .none from b6)
      exact ⟨e, oe, ves, rfl, T.top.inb.keeps P.S.stays _ _ Z.cls, b1, b2, b4, b5, p₁ s₂ cs₂ _ e (Grow.refl _) ⟨⟨dx, none, P⟩, hg, hos⟩⟩
    · cases e₁
end
/-! ## The field of an exception read -/
section
variable {prog : Program} {w : World} {A : Around} {E : Value → Shared → Prop} {h : Heap} {g : Array GenState} {d : Drawn} {t : Nat} {os : OsState}
variable {nm q : Str} {C N x : Addr} {bs bm : List Value} {sn : List Str} {sub : List Value} {ab : Bool} {col : Option Bool} {dd : Option Addr} {k0 k1 k2 k3 k5 : Option Value} {B newId sa owner : String}
  {mN mA : Str → Option Value} {name : Str} {v : Value}
theorem exc_check {M : Model} {o : Obj} {nameV : Value} {Q : Unit → Shared → Prop} (hC : h.get? C = some (excClassObj nm q C N bs excMro true sn sub ab col dd k0 k1 k2 k3 k5 newId)) (hx : h.get? x = some o) (hc : o.cls = .ref C) (hq : Q () ⟨h, g, d, t, os⟩) :
    wpAny M A (checkBuiltinCall "BaseException.__getattribute__" ⟨[.ref x, nameV], []⟩) Q E ⟨h, g, d, t, os⟩ := by
  have hk : builtinKind "BaseException.__getattribute__" = some .slot := by decide +kernel
  have hsplit : splitId "BaseException.__getattribute__" = some ("BaseException", "__getattribute__") := by decide +kernel
  have hcB : (Value.ref C :: excMro).contains (.type "BaseException") = true := by rw [List.contains_cons]; simp [excMro]
  have ha := F.args_bexc_ga (.ref x) nameV
  simp only [checkBuiltinCall, hk, hsplit]
  refine wpAny_bind ?_
  unfold isInstance
  repeat (first | (with_reducible refine wpAny_loadPart_at hx ?_; rw [hc]) | (with_reducible refine wpAny_isSubtype_exc hC ?_; rw [hcB]) | wp_step)
  exact hq
set_option tactic.hygienic true in
theorem exc_get {o od : Obj} {dx : Addr} {es : Array DictEntry} {ep : Nat} {expr : Bool} {Q : Value → Shared → Prop} (hC : h.get? C = some (excClassObj nm q C N bs excMro true sn sub ab col dd k0 k1 k2 k3 k5 newId)) (hn : h.Ns N mN) (hng : mN "__getattribute__" = none) (hnh : mN "__getattr__" = none) (hna : mN name = none)
    (hB : typeLookup (.type "Exception") name = pure none) (hx : h.get? x = some o) (hc : o.cls = .ref C) (hnc : ∀ c, o.data ≠ .cls c) (hd : o.dict = some dx) (hdx : h.get? dx = some od) (hod : od.data = .dict es ep) (hsk : StrKeys es) (hv : nsFind es name = some v) (hh : handedOut v = pure v) (hq : Q v ⟨h, g, d, t + 1, os⟩) :
    wpAny (model prog w) A (getAttr (.ref x) name expr) Q E ⟨h, g, d, t, os⟩ := by
  have FB := PySem.F.attrBase_Exception
  have f3 := FB.ga.bind (.ref x)
  have hx0 : (expr && onTheHeap (Value.builtin "BaseException.__getattribute__")) = false := by cases expr <;> rfl
  have hx2 : (Value.builtin "BaseException.__getattribute__" == Value.builtin "object.__getattribute__") = false := by decide +kernel
  have hx1 : (onTheHeap (Value.ref C) && Value.builtin "BaseException.__getattribute__" == Value.builtin "object.__getattribute__") = false := by rw [hx2]; rfl
  have hns : h.Ns dx (nsFind es) := ⟨od, es, ep, hdx, hod, hsk, fun x_ => rfl⟩
  unfold getAttr getAttrBy
  repeat (any_goals (first | assumption | (with_reducible refine wpAny_loadPart_at hx ?_; rw [hc]) | (with_reducible refine wpAny_typeLookup_exc hC hn FB.mro FB.ga.lookup ?_; rw [hng]) | (with_reducible refine wpAny_typeLookup_exc hC hn FB.mro FB.noGetattr ?_; rw [hnh]) | wp_step))
  refine codeAny_call_builtin FB.ga.plain F.entry_bexc_ga (exc_check hC hx hc ?_)
  unfold Builtin.«object.__getattribute__»
  repeat (first | (with_reducible refine wpAny_loadPart_at hx ?_; rw [hc]) | (with_reducible refine wpAny_typeLookup_exc hC hn FB.mro hB ?_; rw [hna]) | wp_step)
  split
  · rename_i c hcd; exact absurd hcd (hnc c)
  unfold instanceDict
  repeat (first | (with_reducible refine wpAny_loadPart_at hx ?_; rw [hc]) | with_reducible refine wpAny_loadPart_at hC ?_ | wp_step)
  rw [hd]
  repeat (first | (with_reducible refine wpAny_nsGet hns ?_; rw [hv]) | wp_step)
  exact hq
end
/-! ## try -/
section
variable {K : Frag} {w : World} {prog : Program} {X : Fx} {m m' : NsMap} {ex ex' : List (Addr × Obj)} {XR XR' : XRel} {cs cs₀ : List CO} {μ : Mem} {s : Shared} {mg mb : NsMap} {n : Nat} {h h' : Heap} {k : Kinds} {ρ : Loc} {C : CallT} {env : Env}
theorem symbol_get (T : FxOk K mg mb n X) (B : BodyOk X k) {A : Around} {nn : Str} {np ap : Pos} {e dx : Addr} {sy d : V} {oe od : Obj} (hn : k.lookup nn = some .local) (hp : plainV sy = true) (S : SR K w prog X m ex cs μ s) (hm : m nn = some (.ref e)) (he : s.heap.get? e = some oe) (hc : oe.cls = .ref 483) (hnc : ∀ c, oe.data ≠ .cls c) (hd : oe.dict = some dx) (hdx : s.heap.get? dx = some od) (hF : ExF K cs sy od)
    {Q : Value → Shared → Prop} {E : Value → Shared → Prop} (q : ∀ v tk, VR K (adr cs) sy v → Q v { s with toks := tk }) : wpAny (model prog w) A (eval (.Attribute (.Name nn np) "symbol" ap) X.env) Q E s := by
  refine El_eeeeeeeeeeeeee (exc_is T.top.exc) fun nm q' bs sn sub ab col dd k0 k1 k2 k3 k5 mN Z => ?_
  refine El_eeeaaa hF fun es ep vs h1 h2 h3 h4 => ?_
  have X' := T.top.inb.keeps S.1.stays
  rw [arm_eval_Attribute, base_of rfl]
  refine wpAny_bind (wpAny_Name (wpAny_loadName_local B.eo.kind (B.eo.names _ _ hn (by decide)) (B.loc ▸ S.1.ns) hm ?_) (kindOf_ok B.eo hn).2.1)
  refine wpAny_bind (wpAny_standAt (wpAny_bind (wpAny_holding ?_)))
  obtain ⟨hh, g, dr, tk, os⟩ := s
  refine exc_get (X' _ _ Z.cls) (Z.ns _ X') Z.ga Z.gat Z.sym x_sym he hc hnc hd hdx h1 h2 h3 ?_ ?_
  · exact handedOut_of (handed_of h4 hp)
  · exact wpAny_bind (wpAny_letTemporaryGo (wpAny_pure (q _ _ h4)))
theorem exc_match {A : Around} {e : Addr} {oe : Obj} {Q : Bool → Shared → Prop} {E : Value → Shared → Prop} (T : FxOk K mg mb n X) (I : K.In s.heap) (b1 : s.heap.get? e = some oe) (b2 : oe.cls = .ref 483) (q : Q true s) : wpAny (model prog w) A (excMatches (.ref e) (.ref 483)) Q E s := by
  refine El_eeeeeeeeeeeeee (exc_is T.top.exc) fun nm q' bs sn sub ab col dd k0 k1 k2 k3 k5 mN Z => ?_
  exact wpAny_excMatches_sub_self (I _ _ Z.cls) b1 b2 (by decide) q
theorem glob_483 {x : Str} (hg : globV x = some (.top 483)) : glT.lookup x = some (.top 483) := by
  unfold globV at hg
  cases h : glT.lookup x with
  | some v => rw [h] at hg; exact hg
  | none =>
    rw [h] at hg
    have hmem := lookup_mem hg
    simp [biT] at hmem
theorem new_ref {α : Type} {o : MO} {f : V → Mx α} {r : Out α × Mem} (e : bnd (newM o) f μ = some r) : szOk o = true ∧ f (.ref μ.length) (μ ++ [o]) = some r := by
  have hz : szOk o = true := by rcases bnd_some e with ⟨_, _, _, z, _⟩ | ⟨_, _, z, _⟩ <;> exact newM_sz z
  have e2 : newM o μ = some (.ok (.ref μ.length), μ ++ [o]) := if_pos hz
  unfold bnd at e
  rw [e2] at e
  exact ⟨hz, e⟩
theorem ret_sym (T : FxOk K mg mb n X) (B : BodyOk X k) {A : Around} {nn tx : Str} {np ap c2 lp rp : Pos} {c1 : Nat} {e dx : Addr} {sy d : V} {oe od : Obj} (hn : k.lookup nn = some .local) (hp : plainV sy = true) (S : SR K w prog X m ex cs μ s) (hm : m nn = some (.ref e)) (he : s.heap.get? e = some oe) (hc : oe.cls = .ref 483) (hnc : ∀ c, oe.data ≠ .cls c) (hd : oe.dict = some dx) (hdx : s.heap.get? dx = some od) (hF : ExF K cs sy od) (hz : szOk (.list [.str tx, sy]) = true)
    {Q : Flow → Shared → Prop} {E : Value → Shared → Prop} (q : ∀ cs₂ s₂ a, Grow (adr cs) (adr cs₂) → SR K w prog X m ex cs₂ (μ ++ [.list [.str tx, sy]]) s₂ → VR K (adr cs₂) (.ref μ.length) (.ref a) → Q (.ret (.ref a)) s₂) :
    wpAny (model prog w) A (exec (.Return (some (.List [.Constant (.str tx) c1 c2, .Attribute (.Name nn np) "symbol" ap] lp)) rp) X.env) Q E s := by
  show wpAny _ _ (standAt rp >>= fun x_ => eval (.List [.Constant (.str tx) c1 c2, .Attribute (.Name nn np) "symbol" ap] lp) X.env >>= fun v => pure (Flow.ret v)) _ _ _
  refine wpAny_bind (wpAny_standAt (wpAny_bind ?_))
  rw [arm_eval_List]
  refine wpAny_bind (wpAny_standAt (wpAny_bind ?_))
  show wpAny _ _ (spliced [(false, eval (.Constant (.str tx) c1 c2) X.env), (false, eval (.Attribute (.Name nn np) "symbol" ap) X.env)]) _ _ _
  rw [spliced]
  refine wpAny_bind ?_
  show wpAny _ _ (constValue X.env (.str tx)) _ _ _
  refine wpAny_mkText ?_
  simp only [Bool.false_eq_true, if_false]
  rw [pure_bind]
  refine wpAny_bind (wpAny_holding ?_)
  rw [spliced]
  refine wpAny_bind (symbol_get (s := { s with toks := s.toks + 1 }) (d := d) T B hn hp ⟨S.1, S.2⟩ hm he hc hnc hd hdx hF fun vs tk hvs => ?_)
  simp only [Bool.false_eq_true, if_false]
  rw [pure_bind, spliced]
  refine wpAny_bind (wpAny_holding (wpAny_pure (wpAny_pure (wpAny_pure ?_))))
  refine wpAny_newList ?_ (by show 2 ≤ sizeLine; decide)
  refine wpAny_pure (q (cs ++ [⟨s.heap.objs.size, listObj [.str tx s.toks, vs] 0, none⟩]) _ s.heap.objs.size (adr_push _ _) ⟨S.1.more hz (fun b o hb => Heap.get?_push_of_some _ hb) (fun q hq => ?_) (by simp [CO.ents]) ⟨_, 0, rfl, rfl, .cons .str (.cons (hvs.grow (adr_push _ _)) .nil)⟩, S.2⟩ ?_)
  · cases List.mem_singleton.mp hq
    exact ⟨Heap.get?_push_size _ rfl, Nat.le_refl _⟩
  · rw [show μ.length = cs.length from S.1.O.length]
    exact .ref (adr_last _ _)
theorem handler_test (T : FxOk K mg mb n X) (B : BodyOk X k) {A : Around} {x : Str} {xp hp : Pos} (hx : k.lookup x = some .globalImplicit) (hg : globV x = some (.top 483)) {sy d : V} {e' dx : Addr} {fo : Option Value} (P : Pend K w prog X m ex cs μ sy d e' dx fo s.heap)
    {R : Except Value Flow → Shared → Prop} (q : R (.ok .brk) s) : codeAny (model prog w) A (.handlers (.ref e') [.ExceptHandler (some (.Name x xp)) none [] hp] X.env) R s := by
  refine El_aa (kindOf_ok B.eo hx) fun k1' k2' x_ => ?_
  refine El_ea (glob_of T.top.inb T.top.g T.top.gl (glob_483 hg)) fun val hv1 hv2 => ?_
  obtain ⟨rfl, _⟩ := (hv2 []).top_inv
  refine El_eeeaa P.obj fun oe ves v b1 b2 x_ => ?_
  exact codeAny_handlers_test (Calls.Name_function_global B.eo.kind (k1' (by decide)) (Calls.loadGlobal_global (B.eo.globals ▸ T.top.g.keeps P.S.stays) hv1 (exc_match T (T.top.inb.keeps P.S.stays) b1 b2 q)) k2')
theorem handler_suite (T : FxOk K mg mb n X) (B : BodyOk X k) {nn tx : Str} {np ap c2 lp rp hp : Pos} {c1 : Nat} (hn : k.lookup nn = some .local) {sy d : V} (hpl : plainV sy = true) (hz : szOk (.list [.str tx, sy]) = true) {e' dx : Addr} {fo : Option Value} (hgens : s.gens = #[]) (hos : s.os = X.os) (P : Pend K w prog X m ex cs μ sy d e' dx fo s.heap)
    {A : Around} {R : Except Value Flow → Shared → Prop} (q : ∀ cs₂ s₂ m₂ a, Grow (adr cs) (adr cs₂) → SR K w prog X m₂ ex cs₂ (μ ++ [.list [.str tx, sy]]) s₂ → VR K (adr cs₂) (.ref μ.length) (.ref a) → R (.ok (.ret (.ref a))) s₂) :
    codeAny (model prog w) A (.handlers (.ref e') [.ExceptHandler none (some nn) [.Return (some (.List [.Constant (.str tx) c1 c2, .Attribute (.Name nn np) "symbol" ap] lp)) rp] hp] X.env) R s := by
  refine codeAny_handlers_suite_as (pend_flight (fo := none) P fun h3 P3 => ?_)
  refine El_eeeaaaaa P3.obj fun oe ves v b1 b2 b3 b4 b5 b6 => ?_
  refine El_ea P3.flds fun od f1 f2 => ?_
  refine wpAny_storeName_local (B.eo.names _ _ hn (by decide)) (B.loc ▸ P3.S.ns) (fun h4 hn4 hs4 => ?_) (by rw [B.eo.kind]; rfl)
  rw [B.loc] at hn4 hs4
  have ne : e' ≠ X.L := fun z => by
    refine El_eeeaa P3.S.ns fun o' es ep ho hd' x_ => ?_
    rw [← z, b1] at ho; cases ho; rw [b4] at hd'; cases hd'
  have hx4 := (hs4.2 dx fun z => P3.da (z ▸ List.mem_cons_self)).trans f1
  refine wpAny_bind (ret_sym (s := { s with heap := h4, toks := s.toks + 1 }) (m := fun y => if y = nn then some (.ref e') else m y) (d := d) T B hn hpl ⟨P3.S.store hn4 hs4, hgens, hos⟩ (if_pos rfl) ((hs4.2 e' ne).trans b1) b2 (fun c z => by rw [b4] at z; cases z) b3 hx4 f2 hz fun cs₂ s₂ a g S hv => wpAny_pure (q cs₂ s₂ _ a g S hv))
theorem handle_exc (T : FxOk K mg mb n X) (B : BodyOk X k) {x nn tx : Str} {xp np ap c2 lp rp hp : Pos} {c1 : Nat} (hx : k.lookup x = some .globalImplicit) (hg : globV x = some (.top 483)) (hn : k.lookup nn = some .local) {sy d : V} (hpl : plainV sy = true) (hz : szOk (.list [.str tx, sy]) = true) {e' dx : Addr} {fo : Option Value} (hgens : s.gens = #[]) (hos : s.os = X.os) (P : Pend K w prog X m ex cs μ sy d e' dx fo s.heap)
    {Q : Flow → Shared → Prop} {E : Value → Shared → Prop} (q : ∀ cs₂ s₂ m₂ a, Grow (adr cs) (adr cs₂) → SR K w prog X m₂ ex cs₂ (μ ++ [.list [.str tx, sy]]) s₂ → VR K (adr cs₂) (.ref μ.length) (.ref a) → Q (.ret (.ref a)) s₂) :
    wpAny (model prog w) X.A (handleBy (.ref e') X.env [.ExceptHandler (some (.Name x xp)) (some nn) [.Return (some (.List [.Constant (.str tx) c1 c2, .Attribute (.Name nn np) "symbol" ap] lp)) rp] hp]) Q E s := by
  refine wpAny_handleBy_cons (handler_test T B hx hg P ?_) (by intro z; cases z)
  refine handler_suite T B hn hpl hz hgens hos P fun cs₂ s₂ m₂ a g S hv => ?_
  refine wpAny_nameGoes (B.eo.names _ _ hn (by decide)) (B.loc ▸ S.1.ns) (by rw [B.eo.kind]; rfl) fun h6 m6 hn6 hs6 => ?_
  rw [B.loc] at hn6 hs6
  exact q cs₂ _ m6 a g ⟨S.1.store hn6 hs6, S.2⟩ hv
theorem Try_snd (T : FxOk K mg mb n X) (B : BodyOk X k) {b : List Stmt} {hs : List ExceptHandler} {o f : List Stmt} {p : Pos} (hb : ∀ ex, PSs K w prog X ex k C b) : PS K w prog X ex k C (.Try b hs o f p) := fun m cs ρ l => by
  show Snd K w prog X ex (XO K w prog X ex) m cs (exec (.Try b hs o f p) X.env) (match tryOf hs o f with
    | some q => if k.lookup q.1 = some .globalImplicit ∧ globV q.1 = some (.top 483) ∧ k.lookup q.2.1 = some .local ∧ q.2.2.2.1 = q.2.1 ∧ q.2.2.2.2 = "symbol" then tryR q.2.2.1 (exSs C k b ρ) else stuck
    | none => stuck) (SQ K X ex)
  cases hq : tryOf hs o f with
  | none => exact Snd.stuck
  | some q =>
  obtain ⟨x, nn, tx, n', at'⟩ := q
  refine El_eeeeeeeeaa (tryOf_some hq) fun xp c1 c2 np ap lp rp hp r_8 r_9 r_10 => ?_; (first | subst r_8 | cases r_8); (first | subst r_9 | cases r_9); (first | subst r_10 | cases r_10)
  refine Snd.ite (c := k.lookup x = some .globalImplicit ∧ globV x = some (.top 483) ∧ k.lookup nn = some .local ∧ n' = nn ∧ at' = "symbol") (f := tryR tx (exSs C k b ρ)) fun hc => ?_
  refine El_aaaa hc fun hx hg hn r_3 r_4 => ?_; (first | subst r_3 | cases r_3); (first | subst r_4 | cases r_4)
  clear hq
  intro cs₁ μ s r Q E g S e q
  refine wpAny_Try_except ?_
  unfold tryR at e
  cases hr : exSs C k b ρ μ with
  | none => rw [hr] at e; exact no_some e
  | some q0 =>
    obtain ⟨o0, μ'⟩ := q0
    rw [hr] at e
    cases o0 with
    | ok r0 =>
      cases e
      refine hb ex m cs ρ l cs₁ μ s _ _ _ g S hr (fun s' cs' m' fl g' S' hf => ?_)
      obtain ⟨ov, ρ'⟩ := r0
      obtain ⟨h1, h2⟩ := hf
      cases ov with
      | none =>
        cases (show fl = .next from h2)
        exact wpAny_execs_nil (q s' cs' m' .next g' S' ⟨h1, rfl⟩)
      | some v =>
        refine El_ea h2 fun vv h3 h4 => ?_
        cases (show fl = .ret vv from h3)
        exact q s' cs' m' (.ret vv) g' S' ⟨h1, vv, rfl, h4⟩
    | exc sy d =>
      obtain ⟨hpl, e⟩ : plainV sy = true ∧ (bnd (newM (.list [.str tx, sy])) fun v => ret ((some v : Option V), ([] : Loc))) μ' = some r := if_some e
      obtain ⟨hz, e⟩ := new_ref e
      cases e
      refine hb ex m cs ρ l cs₁ μ s _ _ _ g S hr (fun s' cs' m' e' g' hx' => ?_)
      obtain ⟨⟨dx, tb, P⟩, hgens, hos⟩ := hx'
      refine pend_note T P fun h1 P1 => ?_
      refine pend_flight (s := { s' with heap := h1 }) (fo := none) P1 fun h2 P2 => ?_
      exact handle_exc (s := { s' with heap := h2 }) T B hx hg hn hpl hz hgens hos P2 fun cs₂ s₂ m₂ a g₂ S₂ hv => q s₂ cs₂ m₂ _ (g'.trans g₂) S₂ ⟨(fun y u hy => by cases hy), _, rfl, hv⟩
end
/-! ## Every call -/
section
variable {K : Frag} {w : World} {prog : Program} {X : Fx} {m m' : NsMap} {ex ex' : List (Addr × Obj)} {XR XR' : XRel} {cs cs₀ : List CO} {μ : Mem} {s : Shared} {mg mb : NsMap} {n : Nat} {h h' : Heap} {k : Kinds} {ρ : Loc} {C : CallT} {env : Env}
theorem FxOk.less (T : FxOk K mg mb (n + 1) X) : FxOk K mg mb n X := ⟨T.top, T.frames, T.frame, T.kind, T.low, by have := T.depth; omega, by have := T.units; omega, T.hnd⟩
theorem body_all (T : FxOk K mg mb (n + 1) X) (HC : CallS K w prog X C) (B : BodyOk X k) (body : List Stmt) : PSs K w prog X ex k C body :=
  exSs_of fun st x_ => exS_all T B HC (fun x_ x_ x_ x_ => Raise_snd T B HC) (fun x_ x_ x_ x_ x_ x_ hb => Try_snd T B hb) _ st (Nat.lt_succ_self _) ex
theorem init_fn : (clT.all fun c => match c.2.2.lookup ("__init__" : Str) with
  | some i => (fnAt i).isSome
  | none => true) = true := by decide +kernel
set_option backward.match.sparseCases false in
theorem calls_all (j : Nat) : ∀ n, n ≤ j → ∀ X, FxOk K mg mb (n + 1) X → CallS K w prog X (callN n) := by
  induction j with
  | zero =>
    intro n hn X T
    obtain rfl : n = 0 := Nat.le_zero.mp hn
    exact callS_of T (fun x_ x_ x_ x_ x_ x_ x_ => Snd.stuck) fun x_ x_ x_ => rfl
  | succ j ih =>
    intro n hn X T
    cases n with
    | zero => exact ih 0 (Nat.zero_le _) X T
    | succ n =>
      refine callS_of T (fun ex m cs a args vargs hargs => ?_) (fun f args hf => by cases f <;> first | rfl | exact absurd rfl (hf _))
      have HB : ∀ X', FxOk K mg mb (n + 1) X' → ∀ ex k, BodyOk X' k → ∀ body, PSs K w prog X' ex k (callN n) body := fun X' T' ex k B body => body_all T' (ih n (by omega) X' T') B body
      cases hfn : fnAt a with
      | some fn =>
        have e : callN (n + 1) (.top a) args = runFn (callN n) fn args := by
          show (match fnAt a with | some fn => runFn (callN n) fn args | none => _) = _
          rw [hfn]; try rfl
        rw [e]
        exact fn_snd T HB hfn hargs
      | none =>
        have e : callN (n + 1) (.top a) args = (if a = 483 then stuck else match methT a "__init__" with
          | some i => bnd (newM (.inst a [])) fun v => bnd (callN n (.top i) (v :: args)) fun
            | .none => ret v
            | _ => stuck
          | none => stuck) := by
          show (match fnAt a with | some fn => runFn (callN n) fn args | none => _) = _
          rw [hfn]; try rfl
        rw [e]
        by_cases ha : a = 483
        · rw [if_pos ha]; exact Snd.stuck
        · rw [if_neg ha]
          cases hm : methT a "__init__" with
          | none => exact Snd.stuck
          | some i =>
            have hfi : ∃ fi, fnAt i = some fi := by
              unfold methT at hm
              refine El_ea (Option.bind_eq_some_iff.mp hm) fun c hc hm => ?_
              have := List.all_eq_true.mp init_fn _ (lookup_mem hc)
              dsimp only at this
              rw [hm] at this
              exact Option.isSome_iff_exists.mp this
            obtain ⟨fi, hfi⟩ := hfi
            cases n with
            | zero => exact Snd.none fun μ => rfl
            | succ n =>
              have e2 : ∀ v, callN (n + 1) (.top i) (v :: args) = runFn (callN n) fi (v :: args) := fun v => by
                show (match fnAt i with | some fn => runFn (callN n) fn (v :: args) | none => _) = _
                rw [hfi]; try rfl
              simp only [e2]
              exact cls_snd T (fun X' T' ex k B body => body_all T'.less (ih n (by omega) X' T'.less) B body) hm hfi hargs
end
/-! ## The law's own call -/
section
variable {K : Frag} {w : World} {prog : Program} {mg mb : NsMap} {n : Nat} {s : Shared} {l : Addr} {ol : Obj} {vs : List Value} {xs : List V}
noncomputable def lawFx (A : Around) (env : Env) (base : Heap) (os : OsState) (l : Addr) (ol : Obj) : Fx := { A := A, env := env, outer := [], L := env.locals, low := [], base := base, os := os, c0 := ⟨l, ol, none⟩ }
theorem law_enter (A : Around) (hA : A.frames = some []) (hA2 : A.depth + 2 * n + 9 < recursionLimit) (hA3 : A.units + 3 + 8 * n + 40 < cLine) (hA4 : A.handled = none) {base : Heap} (T : TopOk K mg mb base) (hsub : base.StaysIn s.heap) (hsize : base.objs.size = s.heap.objs.size) (hsys : sysModules < base.objs.size)
    (hl : s.heap.get? l = some ol) (hlb : base.get? l = none) (hls : l ≠ sysModules) {nn : Nat} (hlc : ol.cls = .type "list") (hld : ol.data = .seq vs.toArray nn) (hx : All2 (VR K [l]) xs vs) (hxs : xs.length ≤ big) (hg : s.gens = #[])
    {a : Addr} {fn : Fn} {p0 : Str} (hf : fnAt a = some fn) (hps : fn.ps = [p0]) (hds : fn.ds = []) {R : Result → Shared → Prop}
    (body : ∀ env ce m' s', FxOk K mg mb n (lawFx (A.deeper env) env base s.os l ol) → BodyOk (lawFx (A.deeper env) env base s.os l ol) fn.names → SR K w prog (lawFx (A.deeper env) env base s.os l ol) m' ce [⟨l, ol, none⟩] [.src xs] s' → LR K (lawFx (A.deeper env) env base s.os l ol) ce env m' [l] [(p0, .ref 0)] →
      wpAny (model prog w) (A.deeper env) (execs fn.body env) (fun f s' => R (.ok (.ret (match f with | .ret v => v | _ => .none))) s')
        (fun e s' => wpAny (model prog w) (A.deeper env) (leaving env e) (fun x_ s'' => R (.error e) s'') (fun e' s'' => R (.error e') s'') s') s') :
    codeAny (model prog w) A (.call (.ref a) ⟨[.ref l], []⟩) R s := by
  refine El_ee (fn_is T hf) fun o fd F => ?_
  have X' := T.inb.keeps hsub
  have hroom : A.depth < recursionLimit := by omega
  have hseq : ∀ Q' : Option (Array Value) → Shared → Prop, (∀ x, (x.getD #[]).toList = [] → Q' x s) → wpAny (model prog w) A.in1 (seqItems? fd.defaults) Q' (fun e s' => R (.error e) s') s := fun Q' q => by
    rcases F.dfl with ⟨h1, h2⟩ | ⟨t, ot, its, nn, h1, h2, h3, h4⟩
    · rw [h2]; exact wpAny_bind (wpAny_pure (wpAny_pure (q _ rfl)))
    · rw [h1]
      unfold seqItems?
      refine wpAny_bind (wpAny_load (X' _ _ h2) ?_)
      rw [h3]
      have := h4 []
      rw [hds] at this
      have hL : its.toList = [] := by
        generalize its.toList = L at this
        cases this; rfl
      exact wpAny_pure (q _ hL)
  have hP : argNames fd.params = [p0] := by rw [← F.ps, hps]
  refine codeAny_call_function hroom (X' _ _ F.look) F.data F.co F.gen F.body (codeRec_of X' F.code) ?_
  refine bind_plain F.plain hseq (by rw [hP]; exact Nat.le_refl _) (by rw [hP]; exact Nat.le_refl _) (by rw [hP]; exact Nat.zero_le _) ?_
  rw [F.clo, hP]
  show wpAny _ _ (newFunctionEnv fd.scope fd.globals [] [(p0, .ref l)] _ _ _ _ _) _ _ _
  have hmem : p0 ∈ argNames fd.params := by rw [hP]; exact .head _
  refine wpAny_newFunctionEnv_cells F.kind (fun x hx => ?_) fun env he s' x => ?_
  · obtain rfl := List.mem_singleton.mp hx
    rcases F.par _ hmem with z | z
    · exact .inl z
    · exact .inr ⟨z, cells_have z⟩
  subst he
  refine El_ee x.toInCall.same fun h' tk r_2 => ?_; (first | subst r_2 | cases r_2)
  have keep := x.toInCall.keep
  dsimp only at keep
  have ndn : ([(p0, Value.ref l)].map (·.1)).Nodup := by simp
  refine El_eaa (cells_of x (P := [p0]) (by simp)) fun ce c1 c2 c3 => ?_
  have kb : ∀ b o, base.get? b = some o → h'.get? b = some o := fun b o e => keep _ _ (hsub b o e)
  refine ⟨T.nolimit.keeps kb, codeAny_func ?_⟩
  refine body _ ce _ _ ⟨T, ?_, rfl, F.kind, .nil, ?_, ?_, hA4⟩ ⟨⟨fun y q hq x_ => ?_, F.kind, F.glob, F.blt, by rw [F.names]; exact F.ok⟩, rfl⟩ ⟨⟨kb, x.toInCall.ns, Nat.le_of_eq hsize, (fun p hp => nomatch hp), ?_, hsys, rfl, ?_, ?_, .cons ⟨vs, nn, hlc, hld, rfl, hx⟩ .nil⟩, hg, rfl⟩ ?_
  · show A.frames.map _ = _
    rw [hA]; rfl
  · show A.depth + 1 + 2 * n + 8 < recursionLimit
    omega
  · show A.units + 3 + 8 * n + 40 < cLine
    exact hA3
  · rw [F.names] at hq; exact hq
  · intro q hq
    rcases List.mem_append.mp hq with z | z
    · refine El_aa (c2 q z) fun g1 g2 x_ => ?_
      have g3 : s.heap.objs.size < q.1 := g2
      refine ⟨g1, ?_, fun e => ?_⟩
      · show base.get? q.1 = none
        cases hb : base.get? q.1 with
        | none => rfl
        | some o => exact absurd (Nat.lt_trans g3 (hsize ▸ Heap.lt_size hb)) (Nat.lt_irrefl _)
      · rw [e] at g3; exact Nat.lt_irrefl _ (Nat.lt_trans g3 (hsize ▸ hsys))
    · obtain rfl := List.mem_singleton.mp (show q ∈ [(l, ol)] from z)
      exact ⟨keep _ _ hl, hlb, hls⟩
  · intro o ho
    obtain rfl := List.mem_singleton.mp ho
    simpa [szOk] using hxs
  · show (s.heap.objs.size :: [] ++ (ce ++ [(l, ol)]).map (·.1)).Nodup
    have hlt := Heap.lt_size hl
    rw [List.map_append]
    show (s.heap.objs.size :: (ce.map (·.1) ++ [l])).Nodup
    refine List.nodup_cons.mpr ⟨fun hm => ?_, List.nodup_append.mpr ⟨c3, by simp, fun u hu v hv e => ?_⟩⟩
    · rcases List.mem_append.mp hm with z | z
      · refine El_ea (List.mem_map.mp z) fun q hq e => ?_
        have g2 : s.heap.objs.size < q.1 := (c2 q hq).2.1
        rw [e] at g2; exact Nat.lt_irrefl _ g2
      · rw [← List.mem_singleton.mp z] at hlt; exact Nat.lt_irrefl _ hlt
    · refine El_ea (List.mem_map.mp hu) fun q hq e2 => ?_
      have g2 : s.heap.objs.size < q.1 := (c2 q hq).2.1
      rw [e2, e, List.mem_singleton.mp hv] at g2
      exact Nat.lt_irrefl _ (Nat.lt_trans g2 hlt)
  · intro y u hy
    rw [List.lookup_cons] at hy
    by_cases hyp : (y == p0) = true
    · rw [hyp] at hy
      cases hy
      rw [eq_of_beq hyp]
      refine ⟨.ref l, .ref rfl, ?_⟩
      rcases F.par _ hmem with hk | hk
      · exact .loc rfl hk (bindL_at ndn (.head _) hk)
      · obtain ⟨c, hc⟩ := Option.isSome_iff_exists.mp (cells_have (n := s.heap.objs.size + 1) (acc := []) hk)
        refine El_ea (c1 p0 (.head _) c hc) fun oc e1 e2 => ?_
        exact .cell (.inl hk) hc e1 (by rw [e2, bindC_at ndn (.head _) (by rw [show Env.kindOf _ p0 = fd.scope.names.lookup p0 from rfl, hk]; decide)])
    · rw [Bool.not_eq_true] at hyp
      rw [hyp] at hy; cases hy
set_option backward.match.sparseCases false in
theorem callN_fn {n : Nat} {a : Addr} {fn : Fn} {args : List V} (h : fnAt a = some fn) : callN (n + 1) (.top a) args = runFn (callN n) fn args := by
  show (match fnAt a with | some fn => runFn (callN n) fn args | none => (if a = 483 then stuck else match methT a "__init__" with
          | some i => bnd (newM (.inst a [])) fun v => bnd (callN n (.top i) (v :: args)) fun
            | .none => ret v
            | _ => stuck
          | none => stuck)) = _
  rw [h]
theorem fn1330 : ∃ fn, fnAt 1330 = some fn ∧ fn.ps = ([("script" : Str)] : List Str) ∧ fn.ds = [] := ⟨_, rfl, rfl, rfl⟩
theorem law_call {base : Heap} (T : TopOk K mg mb base) (hsub : base.StaysIn s.heap) (hsize : base.objs.size = s.heap.objs.size) (hsys : sysModules < base.objs.size) (hall : ∀ b o, s.heap.get? b = some o → b ≠ l → base.get? b = some o)
    (hl : s.heap.get? l = some ol) (hlb : base.get? l = none) (hls : l ≠ sysModules) {nn : Nat} (hlc : ol.cls = .type "list") (hld : ol.data = .seq vs.toArray nn) (hx : All2 (VR K [l]) xs vs) (hxs : xs.length ≤ big) (hg : s.gens = #[])
    {μ' : Mem} (hrun : callN 20 (.top 1330) [.ref 0] [.src xs] = some (.ok (.bool true), μ')) {Q : Value → Shared → Prop} {E : Value → Shared → Prop}
    (q : ∀ s', (∀ b o, s.heap.get? b = some o → s'.heap.get? b = some o) → s'.os = s.os → s'.gens = #[] → Q (.bool true) s') : wpAny (model prog w) callerA (call (.ref 1330) [.ref l] []) Q E s := by
  refine El_eaa fn1330 fun fn hf hps hds => ?_
  have e0 : callN 20 (.top 1330) [.ref 0] = runFn (callN 19) fn [.ref 0] := by
    exact callN_fn hf
  rw [e0] at hrun
  have hb : bindA fn.ps fn.ds [.ref 0] = some [(("script" : Str), V.ref 0)] := by rw [hps, hds]; rfl
  have e1 : bnd (exSs (callN 19) fn.names fn.body [(("script" : Str), V.ref 0)]) (fun r => ret (r.1.getD .none)) [.src xs] = some (.ok (.bool true), μ') := by
    unfold runFn at hrun
    rw [hb] at hrun
    exact hrun
  refine wpAny_call (law_enter (n := 20) callerA rfl (by decide +kernel) (by decide +kernel) rfl T hsub hsize hsys hl hlb hls hlc hld hx hxs hg hf hps hds fun env ce m' s' T' B' S' L' => ?_)
  have HC : CallS K w prog (lawFx (callerA.deeper env) env base s.os l ol) (callN 19) := calls_all 19 19 (Nat.le_refl _) _ T'
  have hbody := body_all (ex := ce) (C := callN 19) T' HC B' fn.body
  rcases bnd_some e1 with ⟨_, _, _, z, z2⟩ | ⟨⟨ov, ρ'⟩, μ'', z, z2⟩
  · cases z2
  refine hbody m' [⟨l, ol, none⟩] _ L' _ _ s' _ _ _ (Grow.refl _) S' z fun s'' cs'' m'' f g'' S'' hx' => ?_
  obtain ⟨_, h2⟩ := hx'
  have fin : Q (.bool true) s'' := by
    refine q s'' (fun b o hbo => ?_) S''.2.2 S''.2.1
    by_cases hbl : b = l
    · subst hbl
      rw [hl] at hbo; cases hbo
      exact (S''.1.led (b, ol) (List.mem_append_right _ (nw_mem (List.mem_of_getElem? S''.1.fro) (.head _)))).1
    · exact S''.1.stays b o (hall b o hbo hbl)
  cases ov with
  | none => cases z2
  | some v =>
    cases z2
    refine El_ea h2 fun vv h3 h4 => ?_
    cases (show f = .ret vv from h3)
    cases h4.bool_inv
    exact fin
end
set_option backward.match.sparseCases false
/-! ## The mini evaluator, its continuations pushed to the leaves -/
theorem bnd_ret {α : Type} (m : Mx α) : bnd m ret = m := by
  funext μ
  unfold bnd
  cases m μ with
  | none => rfl
  | some q => obtain ⟨o, μ'⟩ := q; cases o <;> rfl
theorem bnd_congr {α β : Type} (m : Mx α) {f g : α → Mx β} (h : ∀ a, f a = g a) : bnd m f = bnd m g := by rw [show f = g from funext h]
noncomputable def negM : V → Mx V
  | .int i => ret (.int (-i))
  | _ => stuck
noncomputable def stepT {α : Type} (op : BoolOp) (b : Bool) (K : Bool → Mx α) (rest : Mx α) : Mx α := match op, b with
  | .And, false => K false
  | .Or, true => K true
  | _, _ => rest
mutual
noncomputable def kE {α : Type} (C : CallT) (k : Kinds) (ρ : Loc) : Expr → (V → Mx α) → Mx α
  | .Constant c _ _, K => bnd (opt (constV c)) K
  | .Name x _, K => bnd (opt (nameV k ρ x)) K
  | .BinOp l op r _, K => kE C k ρ l fun a => kE C k ρ r fun b => bnd (binM op a b) K
  | .UnaryOp .Not x _, K => kE C k ρ x fun v => bnd (boolM v) fun b => K (.bool (!b))
  | .UnaryOp .USub x _, K => kE C k ρ x fun v => bnd (negM v) K
  | .IfExp t b o _, K => bnd (kT C k ρ t (kE C k ρ t) fun c => if c then kE C k ρ b ret else kE C k ρ o ret) K
  | .List es _, K => if noStar es then kEs C k ρ es fun vs => bnd (newM (.list vs)) K else stuck
  | .Tuple es _ _, K => if noStar es then kEs C k ρ es fun vs => bnd (newM (.tup vs)) K else stuck
  | .Compare l [op] [r] _, K => kE C k ρ l fun a => kE C k ρ r fun b => bnd (cmpM op a b) fun c => K (.bool c)
  | .Call (.Attribute o x ap) as [] pos, K => if ap.endLine == pos.line && as.length < 30 && plainBase o && noStar as then kE C k ρ o fun ov => bnd (selM ov x) fun f => if mayCall f then kEs C k ρ as fun vs => bnd (callV C f (ov :: vs)) K else stuck else stuck
  | .Call f as [] _, K => if noStar as then kE C k ρ f fun fv => if mayCall fv then kEs C k ρ as fun vs => bnd (callV C fv vs) K else stuck else stuck
  | .Attribute o x _, K => if plainBase o then kE C k ρ o fun ov => bnd (attrM ov x) K else stuck
  | .Subscript o (.Slice l u none _) _, K => kE C k ρ o fun ov => kO C k ρ l fun lv => kO C k ρ u fun uv => bnd (sliceM ov lv uv) K
  | .Subscript o i _, K => kE C k ρ o fun ov => kE C k ρ i fun iv => bnd (itemM ov iv) K
  | .BoolOp op vs _, K => bnd (kBool C k ρ op vs ret) K
  | .ListComp e [⟨.Name x _, it, [], 0⟩] sc _, K => if compOk k ρ sc x && notSet it then kE C k ρ it fun v => bnd (listOfM v) fun p =>
      bnd (compM p.1 p.2 (fun w => noExc (kE C sc.names ((x, w) :: ρ.filter fun q => sc.names.lookup q.1 == some .free) e ret)) p.2) fun ws => bnd (newM (.list ws)) K else stuck
  | e, K => bnd (evE C k ρ e) K
noncomputable def kT {α : Type} (C : CallT) (k : Kinds) (ρ : Loc) : Expr → ((V → Mx α) → Mx α) → (Bool → Mx α) → Mx α
  | .UnaryOp .Not x _, _, K => kT C k ρ x (kE C k ρ x) fun b => K (!b)
  | .BoolOp op vs _, _, K => bnd (kAll C k ρ op vs ret) K
  | .IfExp t b o _, _, K => bnd (kT C k ρ t (kE C k ρ t) fun c => if c then kT C k ρ b (kE C k ρ b) ret else kT C k ρ o (kE C k ρ o) ret) K
  | .Compare l [op] [r] _, _, K => kE C k ρ l fun a => kE C k ρ r fun b => bnd (cmpM op a b) K
  | .Compare l ops rs _, _, K => if ops.length = rs.length then kE C k ρ l fun a => bnd (kCmp C k ρ a ops rs ret) K else stuck
  | _, whole, K => whole fun v => bnd (boolM v) K
noncomputable def kAll {α : Type} (C : CallT) (k : Kinds) (ρ : Loc) (op : BoolOp) : List Expr → (Bool → Mx α) → Mx α
  | [], K => K (op == .And)
  | x :: r, K => kT C k ρ x (kE C k ρ x) fun b => stepT op b K (kAll C k ρ op r K)
noncomputable def kBool {α : Type} (C : CallT) (k : Kinds) (ρ : Loc) (op : BoolOp) : List Expr → (V → Mx α) → Mx α
  | [], K => stuck
  | [x], K => kE C k ρ x K
  | x :: r, K => kE C k ρ x fun v => bnd (boolM v) fun b => stepT op b (fun x_ => K v) (kBool C k ρ op r K)
noncomputable def kCmp {α : Type} (C : CallT) (k : Kinds) (ρ : Loc) (a : V) : List CmpOp → List Expr → (Bool → Mx α) → Mx α
  | [op], [r], K => kE C k ρ r fun b => bnd (cmpM op a b) K
  | op :: ops, r :: rs, K => kE C k ρ r fun b => bnd (cmpM op a b) fun c => if c then kCmp C k ρ b ops rs K else K false
  | _, _, K => stuck
noncomputable def kEs {α : Type} (C : CallT) (k : Kinds) (ρ : Loc) : List Expr → (List V → Mx α) → Mx α
  | [], K => K []
  | e :: r, K => kE C k ρ e fun v => kEs C k ρ r fun vs => K (v :: vs)
noncomputable def kO {α : Type} (C : CallT) (k : Kinds) (ρ : Loc) : Option Expr → (V → Mx α) → Mx α
  | none, K => K .none
  | some e, K => kE C k ρ e K
end

section
variable {α β γ : Type} {A : (γ → Mx α) → Mx α} {a : Mx γ} {F : γ → Mx α} {f : γ → Mx β} {K : β → Mx α}
theorem q_bnd (h : ∀ K, A K = bnd a K) (hf : ∀ x, F x = bnd (f x) K) : A F = bnd (bnd a f) K := (h F).trans ((bnd_congr a hf).trans (bnd_assoc a f K).symm)
theorem q_ite {c : Prop} {d1 d2 : Decidable c} {A : Mx α} {B : Mx β} (h : A = bnd B K) : @ite _ c d1 A stuck = bnd (@ite _ c d2 B stuck) K := by
  by_cases hc : c
  · rw [if_pos hc, if_pos hc]; exact h
  · rw [if_neg hc, if_neg hc]; rfl
theorem q_if {A : (Bool → Mx β) → Mx β} {a : Mx Bool} (h : ∀ K, A K = bnd a K) {x y x' y' : Mx β} (hx : x' = x) (hy : y' = y) (K : β → Mx α) : bnd (A fun c => if c = true then x' else y') K = bnd (bnd a fun c => if c = true then x else y) K := by
  rw [h, hx, hy]
theorem q_ret {A : (γ → Mx γ) → Mx γ} (h : ∀ K, A K = bnd a K) : A ret = a := (h ret).trans (bnd_ret a)
end
section
variable {C : CallT} {k : Kinds} {ρ : Loc}
theorem kAll_of {op : BoolOp} {l : List Expr} (h : ∀ e ∈ l, ∀ {α : Type} (K : Bool → Mx α), kT C k ρ e (kE C k ρ e) K = bnd (evT C k ρ e (evE C k ρ e)) K) : ∀ {α : Type} (K : Bool → Mx α), kAll C k ρ op l K = bnd (evAll C k ρ op l) K := by
  induction l with
  | nil => exact fun x_ => rfl
  | cons x r ih =>
    intro α K
    refine q_bnd (A := kT C k ρ x (kE C k ρ x)) (h x (.head _)) fun b => ?_
    have e := ih (fun e he => h e (.tail _ he)) K
    cases op <;> cases b <;> first | rfl | exact e
theorem kBool_of {op : BoolOp} {l : List Expr} (h : ∀ e ∈ l, ∀ {α : Type} (K : V → Mx α), kE C k ρ e K = bnd (evE C k ρ e) K) : ∀ {α : Type} (K : V → Mx α), kBool C k ρ op l K = bnd (evBool C k ρ op l) K := by
  induction l with
  | nil => exact fun x_ => rfl
  | cons x r ih =>
    intro α K
    have e := ih (fun e he => h e (.tail _ he)) K
    cases r with
    | nil => exact h x (.head _) K
    | cons y r =>
      refine q_bnd (A := kE C k ρ x) (h x (.head _)) fun v => q_bnd (A := bnd (boolM v)) (fun x_ => rfl) fun b => ?_
      cases op <;> cases b <;> first | rfl | exact e
theorem kCmp_of {rs : List Expr} : ∀ {ops : List CmpOp} {a : V}, (∀ e ∈ rs, ∀ {α : Type} (K : V → Mx α), kE C k ρ e K = bnd (evE C k ρ e) K) → ∀ {α : Type} (K : Bool → Mx α), kCmp C k ρ a ops rs K = bnd (evCmp C k ρ a ops rs) K := by
  induction rs with
  | nil =>
    intro ops a _ α K
    cases ops with
    | nil => rfl
    | cons x l => cases l <;> rfl
  | cons r rs ih =>
    intro ops a h α K
    have go : ∀ {op ops}, (kE C k ρ r fun b => bnd (cmpM op a b) fun c => if c = true then kCmp C k ρ b ops rs K else K false) = bnd (bnd (evE C k ρ r) fun b => bnd (cmpM op a b) fun c => if c = true then evCmp C k ρ b ops rs else ret false) K := fun {op ops} =>
      q_bnd (A := kE C k ρ r) (h r (.head _)) fun b => q_bnd (A := bnd (cmpM op a b)) (fun x_ => rfl) fun c => by
        cases c
        · rfl
        · exact ih (fun e he => h e (.tail _ he)) K
    cases ops with
    | nil => cases rs <;> rfl
    | cons op ops =>
      cases ops with
      | nil =>
        cases rs with
        | nil => exact q_bnd (A := kE C k ρ r) (h r (.head _)) fun x_ => rfl
        | cons _ _ => exact go
      | cons _ _ => cases rs <;> exact go
theorem kEs_of {l : List Expr} (h : ∀ e ∈ l, ∀ {α : Type} (K : V → Mx α), kE C k ρ e K = bnd (evE C k ρ e) K) : ∀ {α : Type} (K : List V → Mx α), kEs C k ρ l K = bnd (evEs C k ρ l) K := by
  induction l with
  | nil => exact fun x_ => rfl
  | cons x r ih => exact fun K => q_bnd (A := kE C k ρ x) (h x (.head _)) fun x_ => q_bnd (A := kEs C k ρ r) (ih fun e he => h e (.tail _ he)) fun x_ => rfl
theorem kO_of {o : Option Expr} (h : ∀ e, o = some e → ∀ {α : Type} (K : V → Mx α), kE C k ρ e K = bnd (evE C k ρ e) K) {α : Type} (K : V → Mx α) : kO C k ρ o K = bnd (evO C k ρ o) K := by
  cases o with
  | none => rfl
  | some x => exact h x rfl K
end
abbrev kQ (C : CallT) (k : Kinds) (ρ : Loc) (e : Expr) : Prop := ∀ {α : Type} (K : V → Mx α), kE C k ρ e K = bnd (evE C k ρ e) K
structure kP (C : CallT) (k : Kinds) (ρ : Loc) (x : Expr) : Prop where
  e : kQ C k ρ x
  t : ∀ {α : Type} (K : Bool → Mx α), kT C k ρ x (kE C k ρ x) K = bnd (evT C k ρ x (evE C k ρ x)) K
theorem szt {e x j : Nat} (h : x < e) (hj : e < j + 1) : x < j := Nat.lt_of_lt_of_le h (Nat.le_of_lt_succ hj)
section
variable {C : CallT} {k : Kinds} {ρ : Loc}
theorem kP_of {e : Expr} (h : kQ C k ρ e) (h1 : ∀ {α : Type} (K : Bool → Mx α), kT C k ρ e (kE C k ρ e) K = kE C k ρ e fun v => bnd (boolM v) K) (h2 : evT C k ρ e (evE C k ρ e) = bnd (evE C k ρ e) boolM) : kP C k ρ e :=
  ⟨h, fun K => (h1 K).trans ((q_bnd (A := kE C k ρ e) h fun x_ => rfl).trans (congrArg (bnd · K) h2.symm))⟩
theorem k_bin {l r : Expr} {op : Operator} {p : Pos} (hl : kQ C k ρ l) (hr : kQ C k ρ r) : kQ C k ρ (.BinOp l op r p) := fun x_ => q_bnd (A := kE C k ρ l) hl fun x_ => q_bnd (A := kE C k ρ r) hr fun x_ => rfl
theorem k_un {op : UnaryOp} {x : Expr} {p : Pos} (hx : kP C k ρ x) : kP C k ρ (.UnaryOp op x p) := by
  have hx1 := fun {α : Type} => hx.e (α := α)
  cases op with
  | Not => exact ⟨fun x_ => q_bnd (A := kE C k ρ x) hx1 fun v => q_bnd (A := bnd (boolM v)) (fun x_ => rfl) fun x_ => rfl, fun x_ => q_bnd (A := kT C k ρ x (kE C k ρ x)) hx.t fun x_ => rfl⟩
  | USub => exact kP_of (fun x_ => q_bnd (A := kE C k ρ x) hx1 fun x_ => rfl) (fun x_ => rfl) rfl
  | _ => exact kP_of (fun x_ => rfl) (fun x_ => rfl) rfl
theorem k_if {t b o : Expr} {p : Pos} (ht : kP C k ρ t) (hb : kP C k ρ b) (ho : kP C k ρ o) : kP C k ρ (.IfExp t b o p) :=
  ⟨fun K => q_if ht.t (q_ret hb.e) (q_ret ho.e) K, fun K => q_if ht.t (q_ret (A := kT C k ρ b (kE C k ρ b)) hb.t) (q_ret (A := kT C k ρ o (kE C k ρ o)) ho.t) K⟩
theorem k_list {es : List Expr} {p : Pos} (h : ∀ x ∈ es, kQ C k ρ x) : kQ C k ρ (.List es p) := fun x_ => q_ite (q_bnd (A := kEs C k ρ es) (kEs_of h) fun x_ => rfl)
theorem k_tup {es : List Expr} {c : Nat} {p : Pos} (h : ∀ x ∈ es, kQ C k ρ x) : kQ C k ρ (.Tuple es c p) := fun x_ => q_ite (q_bnd (A := kEs C k ρ es) (kEs_of h) fun x_ => rfl)
theorem k_cmp {l : Expr} {ops : List CmpOp} {rs : List Expr} {p : Pos} (hl : kQ C k ρ l) (hr : ∀ x ∈ rs, kQ C k ρ x) : kP C k ρ (.Compare l ops rs p) := by
  have g : ∀ {α : Type} (K : Bool → Mx α), (if ops.length = rs.length then kE C k ρ l fun a => bnd (kCmp C k ρ a ops rs ret) K else stuck) = bnd (if ops.length = rs.length then bnd (evE C k ρ l) fun a => evCmp C k ρ a ops rs else stuck) K := fun K => q_ite (q_bnd (A := kE C k ρ l) hl fun a => congrArg (bnd · K) (q_ret (kCmp_of hr)))
  cases ops with
  | nil => exact ⟨fun x_ => rfl, g⟩
  | cons op ops =>
    cases ops with
    | nil =>
      cases rs with
      | nil => exact ⟨fun x_ => rfl, g⟩
      | cons r rs =>
        cases rs with
        | nil => exact ⟨fun K => q_bnd (A := kE C k ρ l) hl fun x_ => q_bnd (A := kE C k ρ r) (hr r (.head _)) fun x_ => q_bnd (A := bnd _) (fun x_ => rfl) fun x_ => rfl, fun K => q_bnd (A := kE C k ρ l) hl fun x_ => q_bnd (A := kE C k ρ r) (hr r (.head _)) fun x_ => rfl⟩
        | cons _ _ => exact ⟨fun x_ => rfl, g⟩
    | cons _ _ => exact ⟨fun x_ => rfl, g⟩
theorem k_callK {f : Expr} {as : List Expr} {a : Keyword} {b : List Keyword} {p : Pos} : kQ C k ρ (.Call f as (a :: b) p) := by
  intro α K
  cases f <;> rfl
theorem k_callA {o : Expr} {x : Str} {ap p : Pos} {as : List Expr} (ho : kQ C k ρ o) (ha : ∀ x ∈ as, kQ C k ρ x) : kQ C k ρ (.Call (.Attribute o x ap) as [] p) := fun x_ => q_ite (q_bnd (A := kE C k ρ o) ho fun x_ => q_bnd (A := bnd _) (fun x_ => rfl) fun x_ => q_ite (q_bnd (A := kEs C k ρ as) (kEs_of ha) fun x_ => rfl))
theorem k_callF {f : Expr} {as : List Expr} {α : Type} {p : Pos} (hx : evE C k ρ (.Call f as [] p) = if noStar as then bnd (evE C k ρ f) fun fv => if mayCall fv then bnd (evEs C k ρ as) fun vs => callV C fv vs else stuck else stuck) (K : V → Mx α) (hy : kE C k ρ (.Call f as [] p) K = if noStar as then kE C k ρ f fun fv => if mayCall fv then kEs C k ρ as fun vs => bnd (callV C fv vs) K else stuck else stuck) (hf : kQ C k ρ f) (ha : ∀ x ∈ as, kQ C k ρ x) : kE C k ρ (.Call f as [] p) K = bnd (evE C k ρ (.Call f as [] p)) K := by
  rw [hx, hy]
  exact q_ite (q_bnd (A := kE C k ρ f) hf fun x_ => q_ite (q_bnd (A := kEs C k ρ as) (kEs_of ha) fun x_ => rfl))
theorem k_call {f : Expr} {as : List Expr} {kw : List Keyword} {p : Pos} (ho : ∀ o x ap, f = .Attribute o x ap → kQ C k ρ o) (hf : kQ C k ρ f) (ha : ∀ x ∈ as, kQ C k ρ x) : kQ C k ρ (.Call f as kw p) := by
  intro α K
  cases kw with
  | cons _ _ => exact k_callK K
  | nil =>
    revert hf ho
    cases f with
    | Attribute o x ap => exact fun ho x_ => k_callA (ho o x ap rfl) ha K
    | _ => exact fun x_ hf => k_callF rfl K rfl hf ha
theorem k_subI {o i : Expr} {p : Pos} {α : Type} {K : V → Mx α} (h1 : kE C k ρ (.Subscript o i p) K = kE C k ρ o fun ov => kE C k ρ i fun iv => bnd (itemM ov iv) K) (h2 : evE C k ρ (.Subscript o i p) = bnd (evE C k ρ o) fun ov => bnd (evE C k ρ i) fun iv => itemM ov iv) (ho : kQ C k ρ o) (hi : kQ C k ρ i) : kE C k ρ (.Subscript o i p) K = bnd (evE C k ρ (.Subscript o i p)) K := by
  rw [h1, h2]
  exact q_bnd (A := kE C k ρ o) ho fun x_ => q_bnd (A := kE C k ρ i) hi fun x_ => rfl
theorem k_sub {o i : Expr} {p : Pos} (ho : kQ C k ρ o) (hi : kQ C k ρ i) (hs : ∀ l u sp, i = .Slice l u none sp → (∀ x, l = some x → kQ C k ρ x) ∧ (∀ x, u = some x → kQ C k ρ x)) : kQ C k ρ (.Subscript o i p) := by
  intro α K
  revert hi hs
  cases i with
  | Slice l u s sp =>
    cases s with
    | none => exact fun x_ hs => q_bnd (A := kE C k ρ o) ho fun x_ => q_bnd (A := kO C k ρ l) (kO_of (hs l u sp rfl).1) fun x_ => q_bnd (A := kO C k ρ u) (kO_of (hs l u sp rfl).2) fun x_ => rfl
    | some _ => exact fun hi x_ => k_subI rfl rfl ho hi
  | _ => exact fun hi x_ => k_subI rfl rfl ho hi
theorem k_comp {el : Expr} {gs : List Comprehension} {sc : Scope} {p : Pos} (he : ∀ ρ, kQ C sc.names ρ el) (hi : ∀ t it ifs n r, gs = ⟨t, it, ifs, n⟩ :: r → kQ C k ρ it) : kQ C k ρ (.ListComp el gs sc p) := by
  intro α K
  cases gs with
  | nil => rfl
  | cons g gs =>
    obtain ⟨t, it, ifs, n⟩ := g
    have hq : kQ C k ρ it := hi t it ifs n gs rfl
    clear hi
    cases t with
    | Name x xp =>
      cases ifs with
      | cons _ _ => rfl
      | nil =>
        rcases n with (_ | _) | _
        · cases gs with
          | cons _ _ => rfl
          | nil =>
            refine q_ite (q_bnd (A := kE C k ρ it) hq fun x_ => q_bnd (A := bnd _) (fun x_ => rfl) fun q => q_bnd (A := bnd _) (a := compM q.1 q.2 (fun w => noExc (evE C sc.names ((x, w) :: ρ.filter fun q => sc.names.lookup q.1 == some .free) el)) q.2) (fun K => ?_) fun x_ => rfl)
            exact congrArg (fun e => bnd (compM q.1 q.2 e q.2) K) (funext fun w => congrArg noExc (q_ret (he _)))
        · rfl
        · rfl
    | _ => rfl
end
theorem k_all (j : Nat) : ∀ e : Expr, sizeOf e < j → ∀ (C : CallT) (k : Kinds) (ρ : Loc), kP C k ρ e := by
  induction j with
  | zero => exact fun e h => absurd h (Nat.not_lt_zero _)
  | succ j ih =>
    intro e hj C k ρ
    have sL : ∀ {l : List Expr}, sizeOf l < j → ∀ x ∈ l, kQ C k ρ x := fun hl x hx => (ih x (Nat.lt_trans (List.sizeOf_lt_of_mem hx) hl) C k ρ).e
    cases e with
    | BinOp l op r p => exact kP_of (k_bin (ih l (szt (by simp +arith) hj) C k ρ).e (ih r (szt (by simp +arith) hj) C k ρ).e) (fun x_ => rfl) rfl
    | UnaryOp op x p => exact k_un (ih x (szt (by simp +arith) hj) C k ρ)
    | IfExp t b o p => exact k_if (ih t (szt (by simp +arith) hj) C k ρ) (ih b (szt (by simp +arith) hj) C k ρ) (ih o (szt (by simp +arith) hj) C k ρ)
    | List es p => exact kP_of (k_list (sL (szt (by simp +arith) hj))) (fun x_ => rfl) rfl
    | Tuple es c p => exact kP_of (k_tup (sL (szt (by simp +arith) hj))) (fun x_ => rfl) rfl
    | Compare l ops rs p => exact k_cmp (ih l (szt (by simp +arith) hj) C k ρ).e (sL (szt (by simp +arith) hj))
    | Call f as kw p => exact kP_of (k_call (fun o x ap e => (ih o (szt (by subst e; simp +arith) hj) C k ρ).e) (ih f (szt (by simp +arith) hj) C k ρ).e (sL (szt (by simp +arith) hj))) (fun x_ => rfl) rfl
    | Attribute o x p => exact kP_of (fun x_ => q_ite (q_bnd (A := kE C k ρ o) (ih o (szt (by simp +arith) hj) C k ρ).e fun x_ => rfl)) (fun x_ => rfl) rfl
    | Subscript o i p => exact kP_of (k_sub (ih o (szt (by simp +arith) hj) C k ρ).e (ih i (szt (by simp +arith) hj) C k ρ).e fun l u sp e => ⟨fun x hx => (ih x (szt (by subst e hx; simp +arith) hj) C k ρ).e, fun x hx => (ih x (szt (by subst e hx; simp +arith) hj) C k ρ).e⟩) (fun x_ => rfl) rfl
    | BoolOp op vs p => exact ⟨fun K => congrArg (bnd · K) (q_ret (kBool_of (sL (szt (by simp +arith) hj)))), fun K => congrArg (bnd · K) (q_ret (kAll_of fun x hx => (ih x (szt (Nat.lt_trans (List.sizeOf_lt_of_mem hx) (by simp +arith)) hj) C k ρ).t))⟩
    | ListComp el gs sc p => exact kP_of (k_comp (fun ρ => (ih el (szt (by simp +arith) hj) C sc.names ρ).e) fun t it ifs n r e => (ih it (szt (by subst e; simp +arith) hj) C k ρ).e) (fun x_ => rfl) rfl
    | _ => exact kP_of (fun x_ => rfl) (fun x_ => rfl) rfl
theorem kE_eq {α : Type} {C : CallT} {k : Kinds} {ρ : Loc} (e : Expr) (K : V → Mx α) : kE C k ρ e K = bnd (evE C k ρ e) K := (k_all _ e (Nat.lt_succ_self _) C k ρ).e K
theorem kT_eq {α : Type} {C : CallT} {k : Kinds} {ρ : Loc} (e : Expr) (K : Bool → Mx α) : kT C k ρ e (kE C k ρ e) K = bnd (evT C k ρ e (evE C k ρ e)) K := (k_all _ e (Nat.lt_succ_self _) C k ρ).t K
theorem kEs_eq {α : Type} {C : CallT} {k : Kinds} {ρ : Loc} (l : List Expr) (K : List V → Mx α) : kEs C k ρ l K = bnd (evEs C k ρ l) K := kEs_of (fun e x_ x_ K => kE_eq e K) K
theorem kO_eq {α : Type} {C : CallT} {k : Kinds} {ρ : Loc} (o : Option Expr) (K : V → Mx α) : kO C k ρ o K = bnd (evO C k ρ o) K := kO_of (fun e x_ x_ K => kE_eq e K) K
set_option backward.match.sparseCases true
set_option backward.match.sparseCases false
/-! ## Statements, their continuations at the leaves -/
noncomputable def kAsg {α : Type} (C : CallT) (k : Kinds) (t : Expr) (v : V) (ρ : Loc) (K : Loc → Mx α) : Mx α := match t with
  | .Name x _ => if k.lookup x = some .local then K (setL x v ρ) else stuck
  | .Attribute o x _ => kE C k ρ o fun ov => bnd (putAttrM ov x v) fun x_ => K ρ
  | .Subscript o (.Slice l u none _) _ => kE C k ρ o fun ov => kO C k ρ l fun lv => kO C k ρ u fun uv => bnd (putSliceM ov lv uv v) fun x_ => K ρ
  | .Subscript o i _ => kE C k ρ o fun ov => kE C k ρ i fun iv => bnd (putItemM ov iv v) fun x_ => K ρ
  | _ => stuck
noncomputable def kAsgs {α : Type} (C : CallT) (k : Kinds) : List Expr → List V → Loc → (Loc → Mx α) → Mx α
  | [], [], ρ, K => K ρ
  | t :: ts, v :: vs, ρ, K => kAsg C k t v ρ fun ρ' => kAsgs C k ts vs ρ' K
  | _, _, _, _ => stuck
noncomputable def tup2 {α : Type} (xs : List V) (F : V → V → Mx α) : Mx α := if xs.length = 2 then (match xs with
  | a :: r => (match r with
    | b :: r2 => (match r2 with
      | [] => F a b
      | _ :: _ => stuck)
    | [] => stuck)
  | [] => stuck) else stuck
noncomputable def kAsgT {α : Type} (C : CallT) (k : Kinds) (t : Expr) (v : V) (ρ : Loc) (K : Loc → Mx α) : Mx α := match t with
  | .Tuple [t1, t2] _ _ => if noStar [t1, t2] then bnd (tupM v) fun xs => tup2 xs fun a b => kAsg C k t1 a ρ fun ρ' => kAsg C k t2 b ρ' K else stuck
  | .Tuple ts _ _ => if noStar ts then bnd (tupM v) fun xs => if xs.length = ts.length then kAsgs C k ts xs ρ K else stuck else stuck
  | t => kAsg C k t v ρ K
noncomputable def kAsgW {α : Type} (C : CallT) (k : Kinds) (t : Expr) (v : V) (ρ : Loc) (sw : Option (List Str)) (K : Loc → Mx α) : Mx α := match sw with
  | none => kAsgT C k t v ρ K
  | some names => bnd (tupM v) fun xs => if xs.length = names.length then K (nst names.reverse xs.reverse ρ) else stuck
/-- the stores of a tuple display, its items known -/
noncomputable def kAsgD {α : Type} (C : CallT) (k : Kinds) (t : Expr) (vs : List V) (ρ : Loc) (sw : Option (List Str)) (K : Loc → Mx α) : Mx α := match sw with
  | none => (match t with
    | .Tuple ts _ _ => if noStar ts then (if vs.length = ts.length then kAsgs C k ts vs ρ K else stuck) else stuck
    | _ => stuck)
  | some names => if vs.length = names.length then K (nst names.reverse vs.reverse ρ) else stuck
noncomputable def isTup : Expr → Option (List Expr)
  | .Tuple es _ _ => some es
  | _ => none
noncomputable def seqK {α : Type} (q : Option V × Loc) (K : Option V × Loc → Mx α) (G : Loc → Mx α) : Mx α := match q with
  | (some v, ρ') => K (some v, ρ')
  | (none, ρ') => G ρ'
noncomputable def tryK {α : Type} (tx : Str) (f : Mx (Option V × Loc)) (K : Option V × Loc → Mx α) : Mx α := fun μ => match f μ with
  | none => none
  | some (.ok r, μ') => K r μ'
  | some (.exc s _, μ') => if plainV s then (bnd (newM (.list [.str tx, s])) fun v => K (some v, [])) μ' else none
noncomputable def rangeK {α : Type} (v : V) (turn : V → Loc → Mx (Option V × Loc)) (ρ : Loc) (K : Option V × Loc → Mx α) : Mx α := match v with
  | .int n => if small n then bnd (rangeM turn n.toNat 0 ρ) K else stuck
  | _ => stuck
noncomputable def asK {α : Type} (C : CallT) (k : Kinds) (t e : Expr) (ρ : Loc) (K : Option V × Loc → Mx α) : Option (Option (List Str)) → Mx α
  | some sw => if notComp e || useOk k t e then (match isTup t with
    | some _ => (match isTup e with
      | some es => if noStar es then kEs C k ρ es fun vs => bnd (newM (.tup vs)) fun x_ => kAsgD C k t vs ρ sw fun ρ' => K (none, ρ') else stuck
      | none => kE C k ρ e fun v => kAsgW C k t v ρ sw fun ρ' => K (none, ρ'))
    | none => kE C k ρ e fun v => kAsgW C k t v ρ sw fun ρ' => K (none, ρ')) else stuck
  | none => stuck
noncomputable def forK {α : Type} (C : CallT) (k : Kinds) (it : Expr) (ρ : Loc) (turn : V → Loc → Mx (Option V × Loc)) (K : Option V × Loc → Mx α) : Option Expr → Mx α
  | some e => kE C k ρ e fun v => rangeK v turn ρ K
  | none => if notSet it then kE C k ρ it fun v => bnd (listOfM v) fun p => bnd (eachM p.1 p.2 turn p.2 ρ) K else stuck
noncomputable def raiK {α : Type} (C : CallT) (k : Kinds) (ρ : Loc) : Option (Str × List Expr) → Mx α
  | some q => if nameV k ρ q.1 = some (.top 483) ∧ noStar q.2 = true then kEs C k ρ q.2 raiseM else stuck
  | none => stuck
mutual
noncomputable def kS {α : Type} (C : CallT) (k : Kinds) : Stmt → Loc → (Option V × Loc → Mx α) → Mx α
  | .Expr e _, ρ, K => if notComp e then kE C k ρ e fun x_ => K (none, ρ) else stuck
  | .Return o _, ρ, K => kO C k ρ o fun v => K (some v, ρ)
  | .Assign [t] e _, ρ, K => asK C k t e ρ K (swapT k t e)
  | .If t b o _, ρ, K => kT C k ρ t (kE C k ρ t) fun c => if c then kSs C k b ρ K else kSs C k o ρ K
  | .Raise e c _, ρ, _ => raiK C k ρ (raiseOf e c)
  | .For t it b [] _, ρ, K => forK C k it ρ (fun v ρ' => bnd (asgT C k t v ρ') fun ρ'' => exSs C k b ρ'') K (rangeOf k ρ it)
  | s, ρ, K => bnd (exS C k s ρ) K
noncomputable def kSs {α : Type} (C : CallT) (k : Kinds) : List Stmt → Loc → (Option V × Loc → Mx α) → Mx α
  | [], ρ, K => K (none, ρ)
  | s :: r, ρ, K => kS C k s ρ fun q => seqK q K fun ρ' => kSs C k r ρ' K
end
section
variable {α : Type} {C : CallT} {k : Kinds} {ρ : Loc}
theorem b_rfl {β γ : Type} {m : Mx γ} {F : γ → Mx α} {f : γ → Mx β} {K : β → Mx α} (hf : ∀ x, F x = bnd (f x) K) : bnd m F = bnd (bnd m f) K := q_bnd (A := bnd m) (fun x_ => rfl) hf
theorem kE_q {β : Type} {e : Expr} {F : V → Mx α} {f : V → Mx β} {K : β → Mx α} (hf : ∀ x, F x = bnd (f x) K) : kE C k ρ e F = bnd (bnd (evE C k ρ e) f) K := q_bnd (A := kE C k ρ e) (kE_eq e) hf
theorem kO_q {β : Type} {e : Option Expr} {F : V → Mx α} {f : V → Mx β} {K : β → Mx α} (hf : ∀ x, F x = bnd (f x) K) : kO C k ρ e F = bnd (bnd (evO C k ρ e) f) K := q_bnd (A := kO C k ρ e) (kO_eq e) hf
theorem asg_sub {o i : Expr} {p : Pos} {v : V} {K : Loc → Mx α} (h1 : kAsg C k (.Subscript o i p) v ρ K = kE C k ρ o fun ov => kE C k ρ i fun iv => bnd (putItemM ov iv v) fun x_ => K ρ) (h2 : asg C k (.Subscript o i p) v ρ = bnd (evE C k ρ o) fun ov => bnd (evE C k ρ i) fun iv => bnd (putItemM ov iv v) fun x_ => ret ρ) : kAsg C k (.Subscript o i p) v ρ K = bnd (asg C k (.Subscript o i p) v ρ) K := by
  rw [h1, h2]
  exact kE_q fun x_ => kE_q fun x_ => b_rfl fun x_ => rfl
theorem kAsg_eq {t : Expr} {v : V} {K : Loc → Mx α} : kAsg C k t v ρ K = bnd (asg C k t v ρ) K := by
  cases t with
  | Name x p => exact q_ite rfl
  | Attribute o x p => exact kE_q fun x_ => b_rfl fun x_ => rfl
  | Subscript o i p =>
    cases i with
    | Slice l u s sp =>
      cases s with
      | none => exact kE_q fun x_ => kO_q fun x_ => kO_q fun x_ => b_rfl fun x_ => rfl
      | some _ => exact asg_sub rfl rfl
    | _ => exact asg_sub rfl rfl
  | _ => rfl
theorem kAsgs_eq {ts : List Expr} : ∀ {vs : List V} {ρ : Loc} {K : Loc → Mx α}, kAsgs C k ts vs ρ K = bnd (asgs C k ts vs ρ) K := by
  induction ts with
  | nil => intro vs ρ K; cases vs <;> rfl
  | cons t ts ih =>
    intro vs ρ K
    cases vs with
    | nil => rfl
    | cons v vs => exact q_bnd (A := kAsg C k t v ρ) (fun x_ => kAsg_eq) fun x_ => ih
theorem tup2_eq {t1 t2 : Expr} {K : Loc → Mx α} (xs : List V) : (tup2 xs fun a b => kAsg C k t1 a ρ fun ρ' => kAsg C k t2 b ρ' K) = if xs.length = [t1, t2].length then kAsgs C k [t1, t2] xs ρ K else stuck := by
  rcases xs with _ | ⟨a, _ | ⟨b, _ | ⟨c, r⟩⟩⟩
  · rfl
  · rfl
  · rfl
  · exact (if_neg (by simp)).trans (if_neg (by simp)).symm
theorem asgT_tup {ts : List Expr} {c : Nat} {p : Pos} {v : V} {K : Loc → Mx α} : (if noStar ts then bnd (tupM v) fun xs => if xs.length = ts.length then kAsgs C k ts xs ρ K else stuck else stuck) = bnd (asgT C k (.Tuple ts c p) v ρ) K := q_ite (b_rfl fun x_ => q_ite kAsgs_eq)
theorem asgT_of {t : Expr} {v : V} {K : Loc → Mx α} (h1 : kAsgT C k t v ρ K = kAsg C k t v ρ K) (h2 : asgT C k t v ρ = asg C k t v ρ) : kAsgT C k t v ρ K = bnd (asgT C k t v ρ) K := h1.trans (kAsg_eq.trans (congrArg (bnd · K) h2.symm))
theorem kAsgT_eq {t : Expr} {v : V} {K : Loc → Mx α} : kAsgT C k t v ρ K = bnd (asgT C k t v ρ) K := by
  cases t with
  | Tuple ts c p =>
    refine Eq.trans ?_ asgT_tup
    rcases ts with _ | ⟨a, _ | ⟨b, _ | ⟨d, r⟩⟩⟩
    · rfl
    · rfl
    · show (if noStar [a, b] then bnd (tupM v) fun xs => tup2 xs fun x y => kAsg C k a x ρ fun ρ' => kAsg C k b y ρ' K else stuck) = _
      rw [funext tup2_eq]
    · rfl
  | _ => exact asgT_of rfl rfl
theorem kAsgW_eq {t : Expr} {v : V} {sw : Option (List Str)} {K : Loc → Mx α} : kAsgW C k t v ρ sw K = bnd (asgW C k t v ρ sw) K := by
  cases sw with
  | none => exact kAsgT_eq
  | some names => exact b_rfl fun x_ => q_ite rfl
theorem bnd_val {α β : Type} {f : Mx α} {g : α → Mx β} {μ μ' : Mem} {a : α} (e : f μ = some (.ok a, μ')) : bnd f g μ = g a μ' := by
  unfold bnd; rw [e]
theorem rdM_val {β : Type} {f : Mem → Option β} {μ : Mem} {v : β} (h : f μ = some v) : rdM f μ = some (.ok v, μ) := congrArg (Option.map fun a => (Out.ok a, μ)) h
theorem rd_bnd {β γ : Type} {f : Mem → Option β} {μ : Mem} {v : β} (h : f μ = some v) (K : β → Mx γ) : bnd (rdM f) K μ = K v μ := bnd_val (rdM_val h)
theorem new_tup {β : Type} {vs : List V} {F : V → List V → Mx β} : bnd (newM (.tup vs)) (fun v => bnd (tupM v) (F v)) = bnd (newM (.tup vs)) fun v => F v vs := by
  funext μ
  by_cases hz : szOk (.tup vs) = true
  · have e1 : newM (.tup vs) μ = some (.ok (.ref μ.length), μ ++ [.tup vs]) := by unfold newM; rw [if_pos hz]
    have e2 : tupM (.ref μ.length) (μ ++ [.tup vs]) = some (.ok vs, μ ++ [.tup vs]) := by
      refine rdM_val ?_
      show ((μ ++ [MO.tup vs])[μ.length]?.bind tupO) = some vs
      rw [List.getElem?_concat_length]; rfl
    rw [bnd_val e1, bnd_val e1, bnd_val e2]
  · have e1 : newM (.tup vs) μ = none := by unfold newM; rw [if_neg hz]
    unfold bnd
    rw [e1]
theorem new_tup' {β γ : Type} {vs : List V} {F : List V → Mx γ} {G : Mx β} {K : γ → Mx β} (h : G = bnd (F vs) K) : bnd (newM (.tup vs)) (fun x_ => G) = bnd (bnd (newM (.tup vs)) fun v => bnd (tupM v) F) K := by
  rw [bnd_assoc, h]
  exact (new_tup (F := fun x_ xs => bnd (F xs) K)).symm.trans (congrArg _ (funext fun v => (bnd_assoc _ _ _).symm))
theorem isTup_some {t : Expr} {ts : List Expr} (h : isTup t = some ts) : ∃ a b, t = .Tuple ts a b := by
  cases t with
  | Tuple ts' a b => cases h; exact ⟨a, b, rfl⟩
  | _ => exact no_some h
theorem kAsgD_eq {t : Expr} {ts : List Expr} (ht : isTup t = some ts) {vs : List V} {sw : Option (List Str)} {K : Loc → Mx α} : bnd (newM (.tup vs)) (fun x_ => kAsgD C k t vs ρ sw K) = bnd (bnd (newM (.tup vs)) fun v => asgW C k t v ρ sw) K := by
  cases sw with
  | some names => exact new_tup' (q_ite rfl)
  | none =>
    refine El_ee (isTup_some ht) fun a b r_2 => ?_; (first | subst r_2 | cases r_2)
    show bnd (newM (.tup vs)) (fun x_ => if noStar ts then (if vs.length = ts.length then kAsgs C k ts vs ρ K else stuck) else stuck) = bnd (bnd (newM (.tup vs)) fun v => if noStar ts then bnd (tupM v) fun xs => if xs.length = ts.length then asgs C k ts xs ρ else stuck else stuck) K
    by_cases hn : noStar ts = true
    · rw [if_pos hn, funext fun v => if_pos hn]
      exact new_tup' (q_ite kAsgs_eq)
    · rw [if_neg hn, funext fun v => if_neg hn, bnd_assoc]; rfl
theorem tryK_eq {tx : Str} {f : Mx (Option V × Loc)} {K : Option V × Loc → Mx α} : bnd (tryR tx f) K = tryK tx f K := by
  funext μ
  unfold bnd tryR tryK
  cases f μ with
  | none => rfl
  | some q =>
    obtain ⟨o, μ'⟩ := q
    cases o with
    | ok r => rfl
    | exc s d =>
      by_cases hp : plainV s = true
      · dsimp only
        rw [if_pos hp, if_pos hp]
        exact congrFun (bnd_assoc (newM (.list [.str tx, s])) (fun v => ret ((some v : Option V), ([] : Loc))) K) μ'
      · dsimp only
        rw [if_neg hp, if_neg hp]
end
set_option backward.match.sparseCases true
set_option backward.match.sparseCases false
section
variable {α : Type} {C : CallT} {k : Kinds} {ρ : Loc}
theorem raise_eq {β : Type} {K : Option V × Loc → Mx β} (l : List V) : (raiseM l : Mx β) = bnd (raiseM l : Mx (Option V × Loc)) K := by
  rcases l with _ | ⟨a, _ | ⟨b, _ | ⟨c, r⟩⟩⟩ <;> rfl
abbrev sQ (C : CallT) (k : Kinds) (s : Stmt) : Prop := ∀ (α : Type) (ρ : Loc) (K : Option V × Loc → Mx α), kS C k s ρ K = bnd (exS C k s ρ) K
abbrev lQ (C : CallT) (k : Kinds) (l : List Stmt) : Prop := ∀ (α : Type) (ρ : Loc) (K : Option V × Loc → Mx α), kSs C k l ρ K = bnd (exSs C k l ρ) K
theorem kSs_of {l : List Stmt} (h : ∀ s ∈ l, sQ C k s) : lQ C k l := by
  intro α
  induction l with
  | nil => exact fun x_ x_ => rfl
  | cons s r ih =>
    refine fun ρ K => q_bnd (A := kS C k s ρ) (h s (.head _) α ρ) fun q => ?_
    obtain ⟨o, ρ'⟩ := q
    cases o with
    | some v => rfl
    | none => exact ih (fun s hs => h s (.tail _ hs)) ρ' K
/-! what exS says, its inner choices named -/
noncomputable def exAs (C : CallT) (k : Kinds) (t e : Expr) (ρ : Loc) : Option (Option (List Str)) → Mx (Option V × Loc)
  | some sw => if notComp e || useOk k t e then bnd (evE C k ρ e) fun v => bnd (asgW C k t v ρ sw) fun ρ' => ret (none, ρ') else stuck
  | none => stuck
noncomputable def range0 (v : V) (turn : V → Loc → Mx (Option V × Loc)) (ρ : Loc) : Mx (Option V × Loc) := match v with
  | .int n => if small n then rangeM turn n.toNat 0 ρ else stuck
  | _ => stuck
noncomputable def exFo (C : CallT) (k : Kinds) (it : Expr) (ρ : Loc) (turn : V → Loc → Mx (Option V × Loc)) : Option Expr → Mx (Option V × Loc)
  | some e => bnd (evE C k ρ e) fun v => range0 v turn ρ
  | none => if notSet it then bnd (evE C k ρ it) fun v => bnd (listOfM v) fun p => eachM p.1 p.2 turn p.2 ρ else stuck
theorem exS_as {t e : Expr} {p : Pos} : exS C k (.Assign [t] e p) ρ = exAs C k t e ρ (swapT k t e) := rfl
theorem exS_for {t it : Expr} {b : List Stmt} {p : Pos} : exS C k (.For t it b [] p) ρ = exFo C k it ρ (fun v ρ' => bnd (asgT C k t v ρ') fun ρ'' => exSs C k b ρ'') (rangeOf k ρ it) := rfl
theorem range_eq {v : V} {turn : V → Loc → Mx (Option V × Loc)} {K : Option V × Loc → Mx α} : rangeK v turn ρ K = bnd (range0 v turn ρ) K := by
  cases v with
  | int n => exact q_ite rfl
  | _ => rfl
theorem s_for {it : Expr} {turn : V → Loc → Mx (Option V × Loc)} {K : Option V × Loc → Mx α} (o : Option Expr) : forK C k it ρ turn K o = bnd (exFo C k it ρ turn o) K := by
  cases o with
  | some e => exact kE_q fun x_ => range_eq
  | none => exact q_ite (kE_q fun x_ => b_rfl fun x_ => rfl)
theorem s_as {t e : Expr} {K : Option V × Loc → Mx α} (o : Option (Option (List Str))) : asK C k t e ρ K o = bnd (exAs C k t e ρ o) K := by
  cases o with
  | none => rfl
  | some sw =>
    refine q_ite ?_
    have g : (kE C k ρ e fun v => kAsgW C k t v ρ sw fun ρ' => K (none, ρ')) = bnd (bnd (evE C k ρ e) fun v => bnd (asgW C k t v ρ sw) fun ρ' => ret (none, ρ')) K := kE_q fun v => q_bnd (A := kAsgW C k t v ρ sw) (fun x_ => kAsgW_eq) fun x_ => rfl
    cases h1 : isTup t with
    | none => exact g
    | some ts =>
      cases h2 : isTup e with
      | none => exact g
      | some es =>
        refine El_ee (isTup_some h2) fun a b r_2 => ?_; (first | subst r_2 | cases r_2)
        have hD : ∀ vs, bnd (newM (.tup vs)) (fun x_ => kAsgD C k t vs ρ sw fun ρ' => K (none, ρ')) = bnd (bnd (newM (.tup vs)) fun v => asgW C k t v ρ sw) fun ρ' => K (none, ρ') := fun vs => kAsgD_eq h1
        show (if noStar es then kEs C k ρ es fun vs => bnd (newM (.tup vs)) fun x_ => kAsgD C k t vs ρ sw fun ρ' => K (none, ρ') else stuck) = bnd (bnd (if noStar es then bnd (evEs C k ρ es) fun vs => newM (.tup vs) else stuck) fun v => bnd (asgW C k t v ρ sw) fun ρ' => ret (none, ρ')) K
        rw [bnd_assoc]
        refine q_ite (q_bnd (A := kEs C k ρ es) (kEs_eq es) fun vs => (hD vs).trans ((bnd_assoc _ _ _).trans (bnd_congr _ fun v => b_rfl fun x_ => rfl)))
noncomputable def exRa (C : CallT) (k : Kinds) (ρ : Loc) : Option (Str × List Expr) → Mx (Option V × Loc)
  | some q => if nameV k ρ q.1 = some (.top 483) ∧ noStar q.2 = true then bnd (evEs C k ρ q.2) raiseM else stuck
  | none => stuck
theorem exS_ra {e c : Option Expr} {p : Pos} : exS C k (.Raise e c p) ρ = exRa C k ρ (raiseOf e c) := rfl
theorem s_raise {K : Option V × Loc → Mx α} (o : Option (Str × List Expr)) : raiK C k ρ o = bnd (exRa C k ρ o) K := by
  cases o with
  | none => rfl
  | some q => exact q_ite (q_bnd (A := kEs C k ρ q.2) (kEs_eq q.2) raise_eq)
theorem s_if {t : Expr} {b o : List Stmt} {p : Pos} (hb : lQ C k b) (ho : lQ C k o) : sQ C k (.If t b o p) := fun x_ ρ K => q_bnd (A := kT C k ρ t (kE C k ρ t)) (kT_eq t) fun c => by
  cases c
  · exact ho _ ρ K
  · exact hb _ ρ K
theorem kS_all (j : Nat) : ∀ s : Stmt, sizeOf s < j → sQ C k s := by
  induction j with
  | zero => exact fun s h => absurd h (Nat.not_lt_zero _)
  | succ j ih =>
    intro s hj
    have sub : ∀ {l : List Stmt}, sizeOf l < j → lQ C k l := fun hl => kSs_of fun s hs => ih s (Nat.lt_trans (List.sizeOf_lt_of_mem hs) hl)
    clear ih
    cases s with
    | If t b o p => exact s_if (sub (szt (by simp +arith) hj)) (sub (szt (by simp +arith) hj))
    | Expr e p => exact fun x_ ρ K => q_ite (kE_q fun x_ => rfl)
    | Return o p =>
      intro _ ρ K
      cases o with
      | none => rfl
      | some e => exact kE_q fun x_ => rfl
    | Assign ts e p =>
      intro _ ρ K
      rcases ts with _ | ⟨t, _ | ⟨a, r⟩⟩
      · rfl
      · exact (s_as (swapT k t e)).trans (congrArg (bnd · K) exS_as.symm)
      · rfl
    | For t it b o p =>
      intro _ ρ K
      cases o with
      | nil => exact (s_for (rangeOf k ρ it)).trans (congrArg (bnd · K) exS_for.symm)
      | cons _ _ => rfl
    | Raise e c p => exact fun x_ ρ K => (s_raise (raiseOf e c)).trans (congrArg (bnd · K) exS_ra.symm)
    | _ => exact fun x_ x_ x_ => rfl
theorem kSs_eq (l : List Stmt) (ρ : Loc) (K : Option V × Loc → Mx α) : kSs C k l ρ K = bnd (exSs C k l ρ) K := kSs_of (fun st x_ => kS_all _ st (Nat.lt_succ_self _)) _ ρ K
end
theorem runFn_k (C : CallT) (f : Fn) (args : List V) (ρ : Loc) (h : bindA f.ps f.ds args = some ρ) : runFn C f args = kSs C f.names f.body ρ fun r => ret (r.1.getD .none) := by
  rw [kSs_eq]
  unfold runFn
  rw [h]; rfl
theorem exSs_k (C : CallT) (k : Kinds) (l : List Stmt) (ρ : Loc) : exSs C k l ρ = kSs C k l ρ ret := by rw [kSs_eq, bnd_ret]
noncomputable def fnOf (a : Addr) : Fn := (fnAt a).getD ⟨[], [], [], []⟩
noncomputable def stOf (a : Addr) (i : Nat) : Stmt := ((fnOf a).body[i]?).getD (.Return none default)
noncomputable def tryBody : Stmt → List Stmt
  | .Try b _ _ _ _ => b
  | _ => []
noncomputable def forTurn (C : CallT) (k : Kinds) (st : Stmt) : V → Loc → Mx (Option V × Loc) := match st with
  | .For t _ b _ _ => fun v ρ' => bnd (asgT C k t v ρ') fun ρ'' => exSs C k b ρ''
  | _ => fun x_ x_ => stuck
noncomputable def turnK (C : CallT) (k : Kinds) (st : Stmt) (v : V) (ρ : Loc) : Mx (Option V × Loc) := match st with
  | .For t _ b _ _ => kAsgT C k t v ρ fun ρ'' => kSs C k b ρ'' ret
  | _ => stuck
theorem forTurn_k (C : CallT) (k : Kinds) (st : Stmt) (v : V) (ρ : Loc) : forTurn C k st v ρ = turnK C k st v ρ := by
  unfold forTurn turnK
  cases st <;> try rfl
  dsimp only
  rw [kAsgT_eq]
  exact bnd_congr _ fun ρ'' => exSs_k C k _ ρ''
theorem lookup_set {x y : Str} {v : V} {ρ : Loc} : (setL x v ρ).lookup y = if y = x then some v else ρ.lookup y := lookup_setL
theorem kSs_drop {α : Type} {C : CallT} {k : Kinds} {l : List Stmt} {s : Stmt} {r : List Stmt} (h : l = s :: r) (ρ : Loc) (K : Option V × Loc → Mx α) : kSs C k l ρ K = kS C k s ρ fun q => seqK q K fun ρ' => kSs C k r ρ' K := by
  subst h; rfl
set_option backward.match.sparseCases true
/-! ## The defs as programs (printed by gensh.py, genst.py, genx.py, checked by the kernel) -/
theorem s42 (C : CallT) (a0 : V) : runFn C (fnOf 42) [a0] = bnd (attrM a0 "cells") fun x1 => bnd (callB "len" [x1]) fun x2 => bnd (attrM a0 "gap_end") fun x3 => bnd (binM .Sub x2 x3) fun x4 => bnd (attrM a0 "gap_start") fun x5 => bnd (binM .Add x4 x5) fun x6 => ret x6 :=
  (runFn_k C (fnOf 42) [a0] [("self", a0)] (by kernel_rfl)).trans (by kernel_rfl)
theorem s49 (C : CallT) (a0 a1 : V) : runFn C (fnOf 49) [a0, a1] = bnd (attrM a0 "gap_start") fun x1 => bnd (cmpM .Lt a1 x1) fun c2 => if c2 then bnd (attrM a0 "cells") fun x3 => bnd (itemM x3 a1) fun x4 => ret x4 else bnd (attrM a0 "cells") fun x5 => bnd (attrM a0 "gap_start") fun x6 => bnd (binM .Sub a1 x6) fun x7 => bnd (attrM a0 "gap_end") fun x8 => bnd (binM .Add x7 x8) fun x9 => bnd (itemM x5 x9) fun x10 => ret x10 :=
  (runFn_k C (fnOf 49) [a0, a1] [("self", a0), ("at", a1)] (by kernel_rfl)).trans (by kernel_rfl)
theorem s56 (C : CallT) (a0 a1 a2 : V) : runFn C (fnOf 56) [a0, a1, a2] = bnd (attrM a0 "gap_end") fun x1 => bnd (attrM a0 "gap_start") fun x2 => bnd (binM .Sub x1 x2) fun x3 => bnd (attrM a0 "gap_start") fun x4 => bnd (cmpM .LtE a2 x4) fun c5 => if c5 then bnd (attrM a0 "cells") fun x6 => bnd (sliceM x6 a1 a2) fun x7 => ret x7 else bnd (attrM a0 "gap_start") fun x8 => bnd (cmpM .GtE a1 x8) fun c9 => if c9 then bnd (attrM a0 "cells") fun x10 => bnd (binM .Add a1 x3) fun x11 => bnd (binM .Add a2 x3) fun x12 => bnd (sliceM x10 x11 x12) fun x13 => ret x13 else bnd (attrM a0 "cells") fun x14 => bnd (attrM a0 "gap_start") fun x15 => bnd (sliceM x14 a1 x15) fun x16 => bnd (attrM a0 "cells") fun x17 => bnd (attrM a0 "gap_end") fun x18 => bnd (binM .Add a2 x3) fun x19 => bnd (sliceM x17 x18 x19) fun x20 => bnd (binM .Add x16 x20) fun x21 => ret x21 :=
  (runFn_k C (fnOf 56) [a0, a1, a2] [("self", a0), ("start", a1), ("end", a2)] (by kernel_rfl)).trans (by kernel_rfl)
theorem s63 (C : CallT) (a0 a1 : V) : runFn C (fnOf 63) [a0, a1] = bnd (attrM a0 "gap_start") fun x1 => bnd (cmpM .Lt a1 x1) fun c2 => if c2 then bnd (attrM a0 "cells") fun x3 => bnd (attrM a0 "gap_start") fun x4 => bnd (sliceM x3 a1 x4) fun x5 => bnd (attrM a0 "cells") fun x6 => bnd (attrM a0 "gap_end") fun x7 => bnd (callB "len" [x5]) fun x8 => bnd (binM .Sub x7 x8) fun x9 => bnd (attrM a0 "gap_end") fun x10 => bnd (putSliceM x6 x9 x10 x5) fun x_ => bnd (attrM a0 "gap_end") fun x11 => bnd (callB "len" [x5]) fun x12 => bnd (binM .Sub x11 x12) fun x13 => bnd (putAttrM a0 "gap_end" x13) fun x_ => bnd (putAttrM a0 "gap_start" a1) fun x_ => ret V.none else bnd (attrM a0 "cells") fun x14 => bnd (attrM a0 "gap_end") fun x15 => bnd (attrM a0 "gap_end") fun x16 => bnd (binM .Add x16 a1) fun x17 => bnd (attrM a0 "gap_start") fun x18 => bnd (binM .Sub x17 x18) fun x19 => bnd (sliceM x14 x15 x19) fun x20 => bnd (attrM a0 "cells") fun x21 => bnd (attrM a0 "gap_start") fun x22 => bnd (attrM a0 "gap_start") fun x23 => bnd (callB "len" [x20]) fun x24 => bnd (binM .Add x23 x24) fun x25 => bnd (putSliceM x21 x22 x25 x20) fun x_ => bnd (attrM a0 "gap_end") fun x26 => bnd (callB "len" [x20]) fun x27 => bnd (binM .Add x26 x27) fun x28 => bnd (putAttrM a0 "gap_end" x28) fun x_ => bnd (putAttrM a0 "gap_start" a1) fun x_ => ret V.none :=
  (runFn_k C (fnOf 63) [a0, a1] [("self", a0), ("at", a1)] (by kernel_rfl)).trans (by kernel_rfl)
theorem s70 (C : CallT) (a0 a1 : V) : runFn C (fnOf 70) [a0, a1] = bnd (attrM a0 "gap_end") fun x1 => bnd (attrM a0 "gap_start") fun x2 => bnd (binM .Sub x1 x2) fun x3 => bnd (binM .Sub a1 x3) fun x4 => bnd (cmpM .Gt x4 (V.int 0)) fun c5 => if c5 then bnd (newM (.list [(V.int 0)])) fun x6 => bnd (attrM a0 "room") fun x7 => bnd (binM .Add x4 x7) fun x8 => bnd (binM .Mult x6 x8) fun x9 => bnd (attrM a0 "cells") fun x10 => bnd (attrM a0 "gap_end") fun x11 => bnd (attrM a0 "gap_end") fun x12 => bnd (putSliceM x10 x11 x12 x9) fun x_ => bnd (attrM a0 "gap_end") fun x13 => bnd (binM .Add x13 x4) fun x14 => bnd (attrM a0 "room") fun x15 => bnd (binM .Add x14 x15) fun x16 => bnd (putAttrM a0 "gap_end" x16) fun x_ => ret V.none else ret V.none :=
  (runFn_k C (fnOf 70) [a0, a1] [("self", a0), ("wanted", a1)] (by kernel_rfl)).trans (by kernel_rfl)
theorem s77 (C : CallT) (a0 a1 a2 : V) : runFn C (fnOf 77) [a0, a1, a2] = bnd (selM a0 "widen_gap") fun f1 => if mayCall f1 then bnd (callB "len" [a2]) fun x2 => bnd (callV C f1 [a0, x2]) fun x3 => bnd (selM a0 "move_gap") fun f4 => if mayCall f4 then bnd (callV C f4 [a0, a1]) fun x5 => bnd (attrM a0 "cells") fun x6 => bnd (callB "len" [a2]) fun x7 => bnd (binM .Add a1 x7) fun x8 => bnd (putSliceM x6 a1 x8 a2) fun x_ => bnd (callB "len" [a2]) fun x9 => bnd (binM .Add a1 x9) fun x10 => bnd (putAttrM a0 "gap_start" x10) fun x_ => ret V.none else stuck else stuck :=
  (runFn_k C (fnOf 77) [a0, a1, a2] [("self", a0), ("at", a1), ("codes", a2)] (by kernel_rfl)).trans (by kernel_rfl)
theorem s84 (C : CallT) (a0 a1 a2 : V) : runFn C (fnOf 84) [a0, a1, a2] = bnd (selM a0 "codes") fun f1 => if mayCall f1 then bnd (callV C f1 [a0, a1, a2]) fun x2 => bnd (attrM a0 "gap_start") fun x3 => bnd (cmpM .Lt a2 x3) fun c4 => if c4 then bnd (selM a0 "move_gap") fun f5 => if mayCall f5 then bnd (callV C f5 [a0, a2]) fun x6 => bnd (attrM a0 "gap_start") fun x7 => bnd (cmpM .Gt a1 x7) fun c8 => if c8 then bnd (selM a0 "move_gap") fun f9 => if mayCall f9 then bnd (callV C f9 [a0, a1]) fun x10 => bnd (attrM a0 "gap_end") fun x11 => bnd (binM .Add x11 a2) fun x12 => bnd (attrM a0 "gap_start") fun x13 => bnd (binM .Sub x12 x13) fun x14 => bnd (putAttrM a0 "gap_end" x14) fun x_ => bnd (putAttrM a0 "gap_start" a1) fun x_ => ret x2 else stuck else bnd (attrM a0 "gap_end") fun x15 => bnd (binM .Add x15 a2) fun x16 => bnd (attrM a0 "gap_start") fun x17 => bnd (binM .Sub x16 x17) fun x18 => bnd (putAttrM a0 "gap_end" x18) fun x_ => bnd (putAttrM a0 "gap_start" a1) fun x_ => ret x2 else stuck else bnd (attrM a0 "gap_start") fun x19 => bnd (cmpM .Gt a1 x19) fun c20 => if c20 then bnd (selM a0 "move_gap") fun f21 => if mayCall f21 then bnd (callV C f21 [a0, a1]) fun x22 => bnd (attrM a0 "gap_end") fun x23 => bnd (binM .Add x23 a2) fun x24 => bnd (attrM a0 "gap_start") fun x25 => bnd (binM .Sub x24 x25) fun x26 => bnd (putAttrM a0 "gap_end" x26) fun x_ => bnd (putAttrM a0 "gap_start" a1) fun x_ => ret x2 else stuck else bnd (attrM a0 "gap_end") fun x27 => bnd (binM .Add x27 a2) fun x28 => bnd (attrM a0 "gap_start") fun x29 => bnd (binM .Sub x28 x29) fun x30 => bnd (putAttrM a0 "gap_end" x30) fun x_ => bnd (putAttrM a0 "gap_start" a1) fun x_ => ret x2 else stuck :=
  (runFn_k C (fnOf 84) [a0, a1, a2] [("self", a0), ("start", a1), ("end", a2)] (by kernel_rfl)).trans (by kernel_rfl)
theorem s245 (C : CallT) (a0 : V) : runFn C (fnOf 245) [a0] = bnd (bnd (callB "isinstance" [a0, (V.ty "int")]) fun x1 => bnd (boolM x1) fun b2 => stepT .And b2 (fun x_ => ret x1) (bnd (callB "isinstance" [a0, (V.ty "bool")]) fun x3 => bnd (boolM x3) fun b4 => ret (V.bool (!b4)))) fun x5 => ret x5 :=
  (runFn_k C (fnOf 245) [a0] [("datum", a0)] (by kernel_rfl)).trans (by kernel_rfl)
theorem s252 (C : CallT) (a0 : V) : runFn C (fnOf 252) [a0] = bnd (bnd (boolM a0) fun b1 => if b1 then ret (V.top 138) else ret (V.top 135)) fun x2 => ret x2 :=
  (runFn_k C (fnOf 252) [a0] [("flag", a0)] (by kernel_rfl)).trans (by kernel_rfl)
theorem s266 (C : CallT) (a0 a1 a2 : V) : runFn C (fnOf 266) [a0, a1, a2] = bnd (putAttrM a0 "number" a1) fun x_ => bnd (putAttrM a0 "advances" a2) fun x_ => bnd (putAttrM a0 "buffer" V.none) fun x_ => bnd (putAttrM a0 "position" (V.int 0)) fun x_ => ret V.none :=
  (runFn_k C (fnOf 266) [a0, a1, a2] [("self", a0), ("number", a1), ("advances", a2)] (by kernel_rfl)).trans (by kernel_rfl)
theorem s313 (C : CallT) (a0 : V) : runFn C (fnOf 313) [a0] = bnd (attrM a0 "rows") fun x1 => bnd (callB "sorted" [x1]) fun x2 => ret x2 :=
  (runFn_k C (fnOf 313) [a0] [("self", a0)] (by kernel_rfl)).trans (by kernel_rfl)
theorem s320 (C : CallT) (a0 a1 a2 : V) : runFn C (fnOf 320) [a0, a1, a2] = bnd (attrM a0 "rows") fun x1 => bnd (attrM a1 "number") fun x2 => bnd (putItemM x1 x2 a1) fun x_ => bnd (putAttrM a1 "position" a2) fun x_ => ret V.none :=
  (runFn_k C (fnOf 320) [a0, a1, a2] [("self", a0), ("marker", a1), ("position", a2)] (by kernel_rfl)).trans (by kernel_rfl)
theorem s341 (C : CallT) (a0 a1 a2 a3 : V) : runFn C (fnOf 341) [a0, a1, a2, a3] = bnd (selM a0 "numbers") fun f2 => if mayCall f2 then bnd (callV C f2 [a0]) fun x3 => bnd (listOfM x3) fun p4 => bnd (eachM p4.1 p4.2 (forTurn C (fnOf 341).names (stOf 341 0)) p4.2 [("self", a0), ("start", a1), ("end", a2), ("is_before", a3)]) fun q1 => seqK q1 (fun r => ret (r.1.getD .none)) fun ρ => kSs C (fnOf 341).names ((fnOf 341).body.drop 1) ρ fun r => ret (r.1.getD .none) else stuck :=
  (runFn_k C (fnOf 341) [a0, a1, a2, a3] [("self", a0), ("start", a1), ("end", a2), ("is_before", a3)] (by kernel_rfl)).trans (by kernel_rfl)
theorem s348 (C : CallT) (a0 a1 a2 : V) : runFn C (fnOf 348) [a0, a1, a2] = bnd (selM a0 "numbers") fun f2 => if mayCall f2 then bnd (callV C f2 [a0]) fun x3 => bnd (listOfM x3) fun p4 => bnd (eachM p4.1 p4.2 (forTurn C (fnOf 348).names (stOf 348 0)) p4.2 [("self", a0), ("start", a1), ("end", a2)]) fun q1 => seqK q1 (fun r => ret (r.1.getD .none)) fun ρ => kSs C (fnOf 348).names ((fnOf 348).body.drop 1) ρ fun r => ret (r.1.getD .none) else stuck :=
  (runFn_k C (fnOf 348) [a0, a1, a2] [("self", a0), ("start", a1), ("end", a2)] (by kernel_rfl)).trans (by kernel_rfl)
theorem s398 (C : CallT) (a0 : V) : runFn C (fnOf 398) [a0] = bnd (attrM a0 "begv") fun x1 => ret x1 :=
  (runFn_k C (fnOf 398) [a0] [("self", a0)] (by kernel_rfl)).trans (by kernel_rfl)
theorem s405 (C : CallT) (a0 : V) : runFn C (fnOf 405) [a0] = bnd (attrM a0 "zv") fun x1 => ret x1 :=
  (runFn_k C (fnOf 405) [a0] [("self", a0)] (by kernel_rfl)).trans (by kernel_rfl)
theorem s412 (C : CallT) (a0 : V) : runFn C (fnOf 412) [a0] = bnd (attrM a0 "text") fun x1 => bnd (selM x1 "size") fun f2 => if mayCall f2 then bnd (callV C f2 [x1]) fun x3 => ret x3 else stuck :=
  (runFn_k C (fnOf 412) [a0] [("self", a0)] (by kernel_rfl)).trans (by kernel_rfl)
theorem s419 (C : CallT) (a0 a1 : V) : runFn C (fnOf 419) [a0, a1] = bnd (bnd (attrM a0 "begv") fun x1 => bnd (cmpM .Lt a1 x1) fun c2 => stepT .Or c2 ret (bnd (attrM a0 "zv") fun x3 => bnd (cmpM .GtE a1 x3) fun c4 => stepT .Or c4 ret (ret false))) fun c5 => if c5 then ret (V.int (-1)) else bnd (attrM a0 "text") fun x6 => bnd (selM x6 "code") fun f7 => if mayCall f7 then bnd (binM .Sub a1 (V.int 1)) fun x8 => bnd (callV C f7 [x6, x8]) fun x9 => ret x9 else stuck :=
  (runFn_k C (fnOf 419) [a0, a1] [("self", a0), ("place", a1)] (by kernel_rfl)).trans (by kernel_rfl)
theorem s426 (C : CallT) (a0 a1 a2 : V) : runFn C (fnOf 426) [a0, a1, a2] = bnd (attrM a0 "text") fun x1 => bnd (selM x1 "codes") fun f2 => if mayCall f2 then bnd (binM .Sub a1 (V.int 1)) fun x3 => bnd (binM .Sub a2 (V.int 1)) fun x4 => bnd (callV C f2 [x1, x3, x4]) fun x5 => ret x5 else stuck :=
  (runFn_k C (fnOf 426) [a0, a1, a2] [("self", a0), ("start", a1), ("end", a2)] (by kernel_rfl)).trans (by kernel_rfl)
theorem s433 (C : CallT) (a0 a1 : V) : runFn C (fnOf 433) [a0, a1] = bnd (attrM a0 "begv") fun x1 => bnd (callB "max" [a1, x1]) fun x2 => bnd (attrM a0 "zv") fun x3 => bnd (callB "min" [x2, x3]) fun x4 => bnd (putAttrM a0 "point" x4) fun x_ => bnd (attrM a0 "point") fun x5 => ret x5 :=
  (runFn_k C (fnOf 433) [a0, a1] [("self", a0), ("place", a1)] (by kernel_rfl)).trans (by kernel_rfl)
theorem s461 (C : CallT) (a0 a1 : V) : runFn C (fnOf 461) [a0, a1] = bnd (attrM a0 "ticks") fun x1 => bnd (binM .Add x1 (V.int 1)) fun x2 => bnd (putAttrM a0 "ticks" x2) fun x_ => bnd (boolM a1) fun b3 => if b3 then bnd (attrM a0 "ticks") fun x4 => bnd (putAttrM a0 "codes_ticks" x4) fun x_ => ret V.none else ret V.none :=
  (runFn_k C (fnOf 461) [a0, a1] [("self", a0), ("are_codes", a1)] (by kernel_rfl)).trans (by kernel_rfl)
theorem s493 (C : CallT) (a0 : V) : runFn C (fnOf 493) [a0] = bnd (attrM a0 "is_read_only") fun x1 => bnd (boolM x1) fun b2 => if b2 then bnd (attrM a0 "name") fun x3 => bnd (newM (.list [x3])) fun x4 => raiseM [(V.str "buffer-read-only"), x4] else ret V.none :=
  (runFn_k C (fnOf 493) [a0] [("buffer", a0)] (by kernel_rfl)).trans (by kernel_rfl)
theorem s500 (C : CallT) (a0 a1 a2 : V) : runFn C (fnOf 500) [a0, a1, a2] = bnd (callB "min" [a1, a2]) fun x1 => bnd (callB "max" [a1, a2]) fun x2 => bnd (newM (.tup [x1, x2])) fun x_ => bnd (bnd (attrM a0 "begv") fun x3 => bnd (cmpM .Lt x1 x3) fun c4 => stepT .Or c4 ret (bnd (attrM a0 "zv") fun x5 => bnd (cmpM .Gt x2 x5) fun c6 => stepT .Or c6 ret (ret false))) fun c7 => if c7 then bnd (newM (.list [a1, a2])) fun x8 => raiseM [(V.str "args-out-of-range"), x8] else bnd (newM (.tup [x1, x2])) fun x9 => ret x9 :=
  (runFn_k C (fnOf 500) [a0, a1, a2] [("buffer", a0), ("start", a1), ("end", a2)] (by kernel_rfl)).trans (by kernel_rfl)
theorem s507 (C : CallT) (a0 a1 a2 : V) : runFn C (fnOf 507) [a0, a1, a2] = bnd (attrM a0 "listeners") fun x2 => bnd (callT "list" [x2]) fun x3 => bnd (listOfM x3) fun p4 => bnd (eachM p4.1 p4.2 (forTurn C (fnOf 507).names (stOf 507 0)) p4.2 [("buffer", a0), ("start", a1), ("end", a2)]) fun q1 => seqK q1 (fun r => ret (r.1.getD .none)) fun ρ => kSs C (fnOf 507).names ((fnOf 507).body.drop 1) ρ fun r => ret (r.1.getD .none) :=
  (runFn_k C (fnOf 507) [a0, a1, a2] [("buffer", a0), ("start", a1), ("end", a2)] (by kernel_rfl)).trans (by kernel_rfl)
theorem s514 (C : CallT) (a0 a1 a2 a3 : V) : runFn C (fnOf 514) [a0, a1, a2, a3] = bnd (selM a0 "touch") fun f1 => if mayCall f1 then bnd (callV C f1 [a0, (V.bool true)]) fun x2 => bnd (attrM a0 "listeners") fun x4 => bnd (callT "list" [x4]) fun x5 => bnd (listOfM x5) fun p6 => bnd (eachM p6.1 p6.2 (forTurn C (fnOf 514).names (stOf 514 1)) p6.2 [("buffer", a0), ("start", a1), ("end", a2), ("old_length", a3)]) fun q3 => seqK q3 (fun r => ret (r.1.getD .none)) fun ρ => kSs C (fnOf 514).names ((fnOf 514).body.drop 2) ρ fun r => ret (r.1.getD .none) else stuck :=
  (runFn_k C (fnOf 514) [a0, a1, a2, a3] [("buffer", a0), ("start", a1), ("end", a2), ("old_length", a3)] (by kernel_rfl)).trans (by kernel_rfl)
theorem s521 (C : CallT) (a0 a1 a2 : V) : runFn C (fnOf 521) [a0, a1, a2] = bnd (attrM a0 "undo") fun x1 => bnd (cmpM .IsNot x1 V.none) fun c2 => if c2 then bnd (attrM a0 "undo") fun x3 => bnd (selM x3 "text_goes") fun f4 => if mayCall f4 then bnd (callV C f4 [x3, a0, a1, a2]) fun x5 => bnd (attrM a0 "text") fun x6 => bnd (selM x6 "delete") fun f7 => if mayCall f7 then bnd (binM .Sub a1 (V.int 1)) fun x8 => bnd (binM .Sub a2 (V.int 1)) fun x9 => bnd (callV C f7 [x6, x8, x9]) fun x10 => bnd (attrM a0 "zv") fun x11 => bnd (binM .Sub a2 a1) fun x12 => bnd (binM .Sub x11 x12) fun x13 => bnd (putAttrM a0 "zv" x13) fun x_ => bnd (attrM a0 "point") fun x14 => bnd (cmpM .Gt x14 a1) fun c15 => if c15 then bnd (attrM a0 "point") fun x16 => bnd (binM .Sub a2 a1) fun x17 => bnd (binM .Sub x16 x17) fun x18 => bnd (callB "max" [a1, x18]) fun x19 => bnd (putAttrM a0 "point" x19) fun x_ => ret x10 else ret x10 else stuck else stuck else bnd (attrM a0 "text") fun x20 => bnd (selM x20 "delete") fun f21 => if mayCall f21 then bnd (binM .Sub a1 (V.int 1)) fun x22 => bnd (binM .Sub a2 (V.int 1)) fun x23 => bnd (callV C f21 [x20, x22, x23]) fun x24 => bnd (attrM a0 "zv") fun x25 => bnd (binM .Sub a2 a1) fun x26 => bnd (binM .Sub x25 x26) fun x27 => bnd (putAttrM a0 "zv" x27) fun x_ => bnd (attrM a0 "point") fun x28 => bnd (cmpM .Gt x28 a1) fun c29 => if c29 then bnd (attrM a0 "point") fun x30 => bnd (binM .Sub a2 a1) fun x31 => bnd (binM .Sub x30 x31) fun x32 => bnd (callB "max" [a1, x32]) fun x33 => bnd (putAttrM a0 "point" x33) fun x_ => ret x24 else ret x24 else stuck :=
  (runFn_k C (fnOf 521) [a0, a1, a2] [("buffer", a0), ("start", a1), ("end", a2)] (by kernel_rfl)).trans (by kernel_rfl)
theorem s528 (C : CallT) (a0 a1 a2 : V) : runFn C (fnOf 528) [a0, a1, a2] = bnd (attrM a0 "undo") fun x1 => bnd (cmpM .IsNot x1 V.none) fun c2 => if c2 then bnd (attrM a0 "undo") fun x3 => bnd (selM x3 "text_comes") fun f4 => if mayCall f4 then bnd (callB "len" [a2]) fun x5 => bnd (callV C f4 [x3, a0, a1, x5]) fun x6 => bnd (attrM a0 "text") fun x7 => bnd (selM x7 "insert") fun f8 => if mayCall f8 then bnd (binM .Sub a1 (V.int 1)) fun x9 => bnd (callV C f8 [x7, x9, a2]) fun x10 => bnd (attrM a0 "zv") fun x11 => bnd (callB "len" [a2]) fun x12 => bnd (binM .Add x11 x12) fun x13 => bnd (putAttrM a0 "zv" x13) fun x_ => bnd (attrM a0 "point") fun x14 => bnd (cmpM .Gt x14 a1) fun c15 => if c15 then bnd (attrM a0 "point") fun x16 => bnd (callB "len" [a2]) fun x17 => bnd (binM .Add x16 x17) fun x18 => bnd (putAttrM a0 "point" x18) fun x_ => ret V.none else ret V.none else stuck else stuck else bnd (attrM a0 "text") fun x19 => bnd (selM x19 "insert") fun f20 => if mayCall f20 then bnd (binM .Sub a1 (V.int 1)) fun x21 => bnd (callV C f20 [x19, x21, a2]) fun x22 => bnd (attrM a0 "zv") fun x23 => bnd (callB "len" [a2]) fun x24 => bnd (binM .Add x23 x24) fun x25 => bnd (putAttrM a0 "zv" x25) fun x_ => bnd (attrM a0 "point") fun x26 => bnd (cmpM .Gt x26 a1) fun c27 => if c27 then bnd (attrM a0 "point") fun x28 => bnd (callB "len" [a2]) fun x29 => bnd (binM .Add x28 x29) fun x30 => bnd (putAttrM a0 "point" x30) fun x_ => ret V.none else ret V.none else stuck :=
  (runFn_k C (fnOf 528) [a0, a1, a2] [("buffer", a0), ("place", a1), ("codes", a2)] (by kernel_rfl)).trans (by kernel_rfl)
theorem s535 (C : CallT) (a0 a1 a2 : V) : runFn C (fnOf 535) [a0, a1, a2] = bnd (attrM a0 "props") fun x1 => bnd (cmpM .IsNot x1 V.none) fun c2 => if c2 then bnd (attrM a0 "props") fun x3 => bnd (selM x3 "text_gone") fun f4 => if mayCall f4 then bnd (binM .Sub a1 (V.int 1)) fun x5 => bnd (binM .Sub a2 (V.int 1)) fun x6 => bnd (callV C f4 [x3, x5, x6]) fun x7 => bnd (attrM a0 "overlays") fun x8 => bnd (cmpM .IsNot x8 V.none) fun c9 => if c9 then bnd (attrM a0 "overlays") fun x10 => bnd (selM x10 "text_gone") fun f11 => if mayCall f11 then bnd (binM .Sub a1 (V.int 1)) fun x12 => bnd (binM .Sub a2 (V.int 1)) fun x13 => bnd (callV C f11 [x10, x12, x13]) fun x14 => ret V.none else stuck else ret V.none else stuck else bnd (attrM a0 "overlays") fun x15 => bnd (cmpM .IsNot x15 V.none) fun c16 => if c16 then bnd (attrM a0 "overlays") fun x17 => bnd (selM x17 "text_gone") fun f18 => if mayCall f18 then bnd (binM .Sub a1 (V.int 1)) fun x19 => bnd (binM .Sub a2 (V.int 1)) fun x20 => bnd (callV C f18 [x17, x19, x20]) fun x21 => ret V.none else stuck else ret V.none :=
  (runFn_k C (fnOf 535) [a0, a1, a2] [("buffer", a0), ("start", a1), ("end", a2)] (by kernel_rfl)).trans (by kernel_rfl)
theorem s542 (C : CallT) (a0 a1 a2 a3 : V) : runFn C (fnOf 542) [a0, a1, a2, a3] = bnd (attrM a0 "props") fun x1 => bnd (cmpM .IsNot x1 V.none) fun c2 => if c2 then bnd (attrM a0 "props") fun x3 => bnd (selM x3 "text_came") fun f4 => if mayCall f4 then bnd (binM .Sub a1 (V.int 1)) fun x5 => bnd (callV C f4 [x3, x5, a2]) fun x6 => bnd (attrM a0 "overlays") fun x7 => bnd (cmpM .IsNot x7 V.none) fun c8 => if c8 then bnd (attrM a0 "overlays") fun x9 => bnd (selM x9 "text_came") fun f10 => if mayCall f10 then bnd (binM .Sub a1 (V.int 1)) fun x11 => bnd (callV C f10 [x9, x11, a2, a3]) fun x12 => ret V.none else stuck else ret V.none else stuck else bnd (attrM a0 "overlays") fun x13 => bnd (cmpM .IsNot x13 V.none) fun c14 => if c14 then bnd (attrM a0 "overlays") fun x15 => bnd (selM x15 "text_came") fun f16 => if mayCall f16 then bnd (binM .Sub a1 (V.int 1)) fun x17 => bnd (callV C f16 [x15, x17, a2, a3]) fun x18 => ret V.none else stuck else ret V.none :=
  (runFn_k C (fnOf 542) [a0, a1, a2, a3] [("buffer", a0), ("place", a1), ("many", a2), ("before_markers", a3)] (by kernel_rfl)).trans (by kernel_rfl)
theorem s549 (C : CallT) (a0 a1 a2 a3 a4 : V) : runFn C (fnOf 549) [a0, a1, a2, a3, a4] = bnd (C (V.top 493) [a0]) fun x1 => bnd (C (V.top 500) [a0, a1, a1]) fun x2 => bnd (callB "len" [a2]) fun x3 => bnd (cmpM .Eq x3 (V.int 0)) fun c4 => if c4 then ret V.none else bnd (C (V.top 507) [a0, a1, a1]) fun x5 => bnd (C (V.top 528) [a0, a1, a2]) fun x6 => bnd (boolM a4) fun b7 => if b7 then bnd (callB "len" [a2]) fun x8 => bnd (binM .Add a1 x8) fun x9 => bnd (putAttrM a0 "point" x9) fun x_ => bnd (attrM a0 "markers") fun x10 => bnd (selM x10 "inserted") fun f11 => if mayCall f11 then bnd (callB "len" [a2]) fun x12 => bnd (binM .Add a1 x12) fun x13 => bnd (callV C f11 [x10, a1, x13, a3]) fun x14 => bnd (callB "len" [a2]) fun x15 => bnd (C (V.top 542) [a0, a1, x15, a3]) fun x16 => bnd (callB "len" [a2]) fun x17 => bnd (binM .Add a1 x17) fun x18 => bnd (C (V.top 514) [a0, a1, x18, (V.int 0)]) fun x19 => ret V.none else stuck else bnd (attrM a0 "markers") fun x20 => bnd (selM x20 "inserted") fun f21 => if mayCall f21 then bnd (callB "len" [a2]) fun x22 => bnd (binM .Add a1 x22) fun x23 => bnd (callV C f21 [x20, a1, x23, a3]) fun x24 => bnd (callB "len" [a2]) fun x25 => bnd (C (V.top 542) [a0, a1, x25, a3]) fun x26 => bnd (callB "len" [a2]) fun x27 => bnd (binM .Add a1 x27) fun x28 => bnd (C (V.top 514) [a0, a1, x28, (V.int 0)]) fun x29 => ret V.none else stuck :=
  (runFn_k C (fnOf 549) [a0, a1, a2, a3, a4] [("buffer", a0), ("place", a1), ("codes", a2), ("before_markers", a3), ("is_point_behind", a4)] (by kernel_rfl)).trans (by kernel_rfl)
theorem s564 (C : CallT) (a0 a1 a2 : V) : runFn C (fnOf 564) [a0, a1, a2] = bnd (C (V.top 493) [a0]) fun x1 => bnd (C (V.top 500) [a0, a1, a2]) fun x2 => bnd (tupM x2) fun xs3 => tup2 xs3 fun u4 u5 => bnd (cmpM .Eq u4 u5) fun c6 => if c6 then bnd (newM (.list [])) fun x7 => ret x7 else bnd (C (V.top 507) [a0, u4, u5]) fun x8 => bnd (C (V.top 521) [a0, u4, u5]) fun x9 => bnd (attrM a0 "markers") fun x10 => bnd (selM x10 "deleted") fun f11 => if mayCall f11 then bnd (callV C f11 [x10, u4, u5]) fun x12 => bnd (C (V.top 535) [a0, u4, u5]) fun x13 => bnd (binM .Sub u5 u4) fun x14 => bnd (C (V.top 514) [a0, u4, u4, x14]) fun x15 => ret x9 else stuck :=
  (runFn_k C (fnOf 564) [a0, a1, a2] [("buffer", a0), ("start", a1), ("end", a2)] (by kernel_rfl)).trans (by kernel_rfl)
theorem s571 (C : CallT) (a0 : V) : runFn C (fnOf 571) [a0] = bnd (C (V.top 493) [a0]) fun x1 => bnd (selM a0 "size") fun f2 => if mayCall f2 then bnd (callV C f2 [a0]) fun x3 => bnd (binM .Add x3 (V.int 1)) fun x4 => bnd (newM (.tup [(V.int 1), x4])) fun x_ => bnd (putAttrM a0 "begv" (V.int 1)) fun x_ => bnd (putAttrM a0 "zv" x4) fun x_ => bnd (attrM a0 "begv") fun x5 => bnd (attrM a0 "zv") fun x6 => bnd (C (V.top 564) [a0, x5, x6]) fun x7 => ret x7 else stuck :=
  (runFn_k C (fnOf 571) [a0] [("buffer", a0)] (by kernel_rfl)).trans (by kernel_rfl)
theorem s578 (C : CallT) (a0 a1 a2 : V) : runFn C (fnOf 578) [a0, a1, a2] = bnd (callB "min" [a1, a2]) fun x1 => bnd (callB "max" [a1, a2]) fun x2 => bnd (newM (.tup [x1, x2])) fun x_ => bnd (bnd (cmpM .Lt x1 (V.int 1)) fun c3 => stepT .Or c3 ret (bnd (selM a0 "size") fun f4 => if mayCall f4 then bnd (callV C f4 [a0]) fun x5 => bnd (binM .Add x5 (V.int 1)) fun x6 => bnd (cmpM .Gt x2 x6) fun c7 => stepT .Or c7 ret (ret false) else stuck)) fun c8 => if c8 then bnd (newM (.list [a1, a2])) fun x9 => raiseM [(V.str "args-out-of-range"), x9] else bnd (newM (.tup [x1, x2])) fun x_ => bnd (putAttrM a0 "begv" x1) fun x_ => bnd (putAttrM a0 "zv" x2) fun x_ => bnd (selM a0 "goto") fun f10 => if mayCall f10 then bnd (attrM a0 "point") fun x11 => bnd (callV C f10 [a0, x11]) fun x12 => ret V.none else stuck :=
  (runFn_k C (fnOf 578) [a0, a1, a2] [("buffer", a0), ("start", a1), ("end", a2)] (by kernel_rfl)).trans (by kernel_rfl)
theorem s585 (C : CallT) (a0 : V) : runFn C (fnOf 585) [a0] = bnd (selM a0 "size") fun f1 => if mayCall f1 then bnd (callV C f1 [a0]) fun x2 => bnd (binM .Add x2 (V.int 1)) fun x3 => bnd (newM (.tup [(V.int 1), x3])) fun x_ => bnd (putAttrM a0 "begv" (V.int 1)) fun x_ => bnd (putAttrM a0 "zv" x3) fun x_ => ret V.none else stuck :=
  (runFn_k C (fnOf 585) [a0] [("buffer", a0)] (by kernel_rfl)).trans (by kernel_rfl)
theorem s592 (C : CallT) (a0 : V) : runFn C (fnOf 592) [a0] = bnd (C (V.top 245) [a0]) fun x1 => bnd (boolM x1) fun b2 => if b2 then ret a0 else bnd (callB "isinstance" [a0, (V.top 290)]) fun x3 => bnd (boolM x3) fun b4 => if (!b4) then bnd (newM (.list [(V.str "number-or-marker-p"), a0])) fun x5 => raiseM [(V.str "wrong-type-argument"), x5] else bnd (attrM a0 "buffer") fun x6 => bnd (cmpM .Is x6 V.none) fun c7 => if c7 then bnd (newM (.list [(V.str "Marker does not point anywhere")])) fun x8 => raiseM [(V.str "error"), x8] else bnd (attrM a0 "position") fun x9 => ret x9 :=
  (runFn_k C (fnOf 592) [a0] [("value", a0)] (by kernel_rfl)).trans (by kernel_rfl)
theorem s599 (C : CallT) (a0 a1 a2 : V) : runFn C (fnOf 599) [a0, a1, a2] = bnd (bnd (attrM a0 "buffer") fun x1 => bnd (cmpM .IsNot x1 V.none) fun c2 => stepT .And c2 ret (bnd (attrM a0 "buffer") fun x3 => bnd (cmpM .IsNot x3 a1) fun c4 => stepT .And c4 ret (ret true))) fun c5 => if c5 then bnd (attrM a0 "buffer") fun x6 => bnd (attrM x6 "markers") fun x7 => bnd (selM x7 "drop") fun f8 => if mayCall f8 then bnd (callV C f8 [x7, a0]) fun x9 => bnd (putAttrM a0 "buffer" a1) fun x_ => bnd (cmpM .Is a1 V.none) fun c10 => if c10 then bnd (putAttrM a0 "position" (V.int 0)) fun x_ => ret V.none else bnd (attrM a1 "markers") fun x11 => bnd (selM x11 "put") fun f12 => if mayCall f12 then bnd (callB "max" [a2, (V.int 1)]) fun x13 => bnd (selM a1 "size") fun f14 => if mayCall f14 then bnd (callV C f14 [a1]) fun x15 => bnd (binM .Add x15 (V.int 1)) fun x16 => bnd (callB "min" [x13, x16]) fun x17 => bnd (callV C f12 [x11, a0, x17]) fun x18 => ret V.none else stuck else stuck else stuck else bnd (putAttrM a0 "buffer" a1) fun x_ => bnd (cmpM .Is a1 V.none) fun c19 => if c19 then bnd (putAttrM a0 "position" (V.int 0)) fun x_ => ret V.none else bnd (attrM a1 "markers") fun x20 => bnd (selM x20 "put") fun f21 => if mayCall f21 then bnd (callB "max" [a2, (V.int 1)]) fun x22 => bnd (selM a1 "size") fun f23 => if mayCall f23 then bnd (callV C f23 [a1]) fun x24 => bnd (binM .Add x24 (V.int 1)) fun x25 => bnd (callB "min" [x22, x25]) fun x26 => bnd (callV C f21 [x20, a0, x26]) fun x27 => ret V.none else stuck else stuck :=
  (runFn_k C (fnOf 599) [a0, a1, a2] [("marker", a0), ("buffer", a1), ("place", a2)] (by kernel_rfl)).trans (by kernel_rfl)
theorem s620 (C : CallT) (a0 : V) : runFn C (fnOf 620) [a0] = bnd (attrM a0 "point") fun x1 => bnd (selM a0 "begin") fun f2 => if mayCall f2 then bnd (callV C f2 [a0]) fun x3 => bnd (cmpM .Eq x1 x3) fun c4 => ret (V.bool c4) else stuck :=
  (runFn_k C (fnOf 620) [a0] [("buffer", a0)] (by kernel_rfl)).trans (by kernel_rfl)
theorem s627 (C : CallT) (a0 : V) : runFn C (fnOf 627) [a0] = bnd (attrM a0 "point") fun x1 => bnd (selM a0 "end") fun f2 => if mayCall f2 then bnd (callV C f2 [a0]) fun x3 => bnd (cmpM .Eq x1 x3) fun c4 => ret (V.bool c4) else stuck :=
  (runFn_k C (fnOf 627) [a0] [("buffer", a0)] (by kernel_rfl)).trans (by kernel_rfl)
theorem s634 (C : CallT) (a0 : V) : runFn C (fnOf 634) [a0] = bnd (bnd (C (V.top 620) [a0]) fun x1 => bnd (boolM x1) fun b2 => stepT .Or b2 (fun x_ => ret x1) (bnd (attrM a0 "point") fun x3 => bnd (C (V.top 613) [a0, x3]) fun x4 => bnd (cmpM .Eq x4 (V.int (10))) fun c5 => ret (V.bool c5))) fun x6 => ret x6 :=
  (runFn_k C (fnOf 634) [a0] [("buffer", a0)] (by kernel_rfl)).trans (by kernel_rfl)
theorem s641 (C : CallT) (a0 : V) : runFn C (fnOf 641) [a0] = bnd (bnd (C (V.top 627) [a0]) fun x1 => bnd (boolM x1) fun b2 => stepT .Or b2 (fun x_ => ret x1) (bnd (attrM a0 "point") fun x3 => bnd (C (V.top 606) [a0, x3]) fun x4 => bnd (cmpM .Eq x4 (V.int (10))) fun c5 => ret (V.bool c5))) fun x6 => ret x6 :=
  (runFn_k C (fnOf 641) [a0] [("buffer", a0)] (by kernel_rfl)).trans (by kernel_rfl)
theorem s606 (C : CallT) (a0 a1 : V) : runFn C (fnOf 606) [a0, a1] = bnd (selM a0 "code_at") fun f1 => if mayCall f1 then bnd (callV C f1 [a0, a1]) fun x2 => ret x2 else stuck :=
  (runFn_k C (fnOf 606) [a0, a1] [("buffer", a0), ("place", a1)] (by kernel_rfl)).trans (by kernel_rfl)
theorem s613 (C : CallT) (a0 a1 : V) : runFn C (fnOf 613) [a0, a1] = bnd (bnd (selM a0 "end") fun f1 => if mayCall f1 then bnd (callV C f1 [a0]) fun x2 => bnd (cmpM .Gt a1 x2) fun c3 => if c3 then ret (V.int (-1)) else bnd (selM a0 "code_at") fun f4 => if mayCall f4 then bnd (binM .Sub a1 (V.int 1)) fun x5 => bnd (callV C f4 [a0, x5]) fun x6 => ret x6 else stuck else stuck) fun x7 => ret x7 :=
  (runFn_k C (fnOf 613) [a0, a1] [("buffer", a0), ("place", a1)] (by kernel_rfl)).trans (by kernel_rfl)
theorem s648 (C : CallT) (a0 a1 a2 : V) : runFn C (fnOf 648) [a0, a1, a2] = bnd (C (V.top 500) [a0, a1, a2]) fun x1 => bnd (tupM x1) fun xs2 => tup2 xs2 fun u3 u4 => bnd (selM a0 "codes") fun f5 => if mayCall f5 then bnd (callV C f5 [a0, u3, u4]) fun x6 => ret x6 else stuck :=
  (runFn_k C (fnOf 648) [a0, a1, a2] [("buffer", a0), ("start", a1), ("end", a2)] (by kernel_rfl)).trans (by kernel_rfl)
theorem s655 (C : CallT) (a0 : V) : runFn C (fnOf 655) [a0] = bnd (attrM a0 "current") fun x1 => bnd (cmpM .Is x1 V.none) fun c2 => if c2 then bnd (newM (.list [(V.str "No current buffer")])) fun x3 => raiseM [(V.str "error"), x3] else bnd (attrM a0 "current") fun x4 => ret x4 :=
  (runFn_k C (fnOf 655) [a0] [("world", a0)] (by kernel_rfl)).trans (by kernel_rfl)
theorem s662 (C : CallT) (a0 : V) : runFn C (fnOf 662) [a0] = bnd (bnd (C (V.top 245) [a0]) fun x1 => bnd (boolM x1) fun b2 => stepT .Or (!b2) ret (bnd (bnd (cmpM .LtE (V.int 0) a0) fun c3 => if c3 then bnd (cmpM .Lt a0 (V.int (1114112))) fun c4 => ret c4 else ret false) fun c5 => stepT .Or (!c5) ret (ret false))) fun c6 => if c6 then bnd (newM (.list [(V.str "characterp"), a0])) fun x7 => raiseM [(V.str "wrong-type-argument"), x7] else ret a0 :=
  (runFn_k C (fnOf 662) [a0] [("value", a0)] (by kernel_rfl)).trans (by kernel_rfl)
theorem s669 (C : CallT) (a0 : V) : runFn C (fnOf 669) [a0] = bnd (callB "isinstance" [a0, (V.top 290)]) fun x1 => bnd (boolM x1) fun b2 => if (!b2) then bnd (newM (.list [(V.str "markerp"), a0])) fun x3 => raiseM [(V.str "wrong-type-argument"), x3] else ret a0 :=
  (runFn_k C (fnOf 669) [a0] [("value", a0)] (by kernel_rfl)).trans (by kernel_rfl)
theorem s676 (C : CallT) (a0 a1 a2 : V) : runFn C (fnOf 676) [a0, a1, a2] = bnd (bnd (callB "len" [a1]) fun x1 => bnd (cmpM .LtE x1 a2) fun c2 => stepT .Or c2 ret (bnd (itemM a1 a2) fun x3 => bnd (cmpM .Is x3 (V.top 135)) fun c4 => stepT .Or c4 ret (ret false))) fun c5 => if c5 then bnd (C (V.top 655) [a0]) fun x6 => bnd (attrM x6 "point") fun x7 => ret x7 else bnd (itemM a1 a2) fun x8 => bnd (C (V.top 592) [x8]) fun x9 => ret x9 :=
  (runFn_k C (fnOf 676) [a0, a1, a2] [("world", a0), ("args", a1), ("at", a2)] (by kernel_rfl)).trans (by kernel_rfl)
theorem s683 (C : CallT) (a0 a1 : V) : runFn C (fnOf 683) [a0, a1] = bnd (C (V.top 655) [a0]) fun x1 => bnd (attrM x1 "point") fun x2 => ret x2 :=
  (runFn_k C (fnOf 683) [a0, a1] [("world", a0), ("args", a1)] (by kernel_rfl)).trans (by kernel_rfl)
theorem s690 (C : CallT) (a0 a1 : V) : runFn C (fnOf 690) [a0, a1] = bnd (C (V.top 655) [a0]) fun x1 => bnd (selM x1 "begin") fun f2 => if mayCall f2 then bnd (callV C f2 [x1]) fun x3 => ret x3 else stuck :=
  (runFn_k C (fnOf 690) [a0, a1] [("world", a0), ("args", a1)] (by kernel_rfl)).trans (by kernel_rfl)
theorem s697 (C : CallT) (a0 a1 : V) : runFn C (fnOf 697) [a0, a1] = bnd (C (V.top 655) [a0]) fun x1 => bnd (selM x1 "end") fun f2 => if mayCall f2 then bnd (callV C f2 [x1]) fun x3 => ret x3 else stuck :=
  (runFn_k C (fnOf 697) [a0, a1] [("world", a0), ("args", a1)] (by kernel_rfl)).trans (by kernel_rfl)
theorem s704 (C : CallT) (a0 a1 : V) : runFn C (fnOf 704) [a0, a1] = bnd (C (V.top 655) [a0]) fun x1 => bnd (selM x1 "goto") fun f2 => if mayCall f2 then bnd (itemM a1 (V.int 0)) fun x3 => bnd (C (V.top 592) [x3]) fun x4 => bnd (callV C f2 [x1, x4]) fun x5 => bnd (itemM a1 (V.int 0)) fun x6 => ret x6 else stuck :=
  (runFn_k C (fnOf 704) [a0, a1] [("world", a0), ("args", a1)] (by kernel_rfl)).trans (by kernel_rfl)
theorem s711 (C : CallT) (a0 : V) : runFn C (fnOf 711) [a0] = bnd (bnd (cmpM .Eq a0 (V.int (-1))) fun c1 => if c1 then ret (V.top 135) else ret a0) fun x2 => ret x2 :=
  (runFn_k C (fnOf 711) [a0] [("code", a0)] (by kernel_rfl)).trans (by kernel_rfl)
theorem s718 (C : CallT) (a0 a1 : V) : runFn C (fnOf 718) [a0, a1] = bnd (C (V.top 655) [a0]) fun x1 => bnd (selM x1 "code_at") fun f2 => if mayCall f2 then bnd (C (V.top 676) [a0, a1, (V.int 0)]) fun x3 => bnd (callV C f2 [x1, x3]) fun x4 => bnd (C (V.top 711) [x4]) fun x5 => ret x5 else stuck :=
  (runFn_k C (fnOf 718) [a0, a1] [("world", a0), ("args", a1)] (by kernel_rfl)).trans (by kernel_rfl)
theorem s725 (C : CallT) (a0 a1 : V) : runFn C (fnOf 725) [a0, a1] = bnd (C (V.top 655) [a0]) fun x1 => bnd (selM x1 "code_at") fun f2 => if mayCall f2 then bnd (C (V.top 676) [a0, a1, (V.int 0)]) fun x3 => bnd (binM .Sub x3 (V.int 1)) fun x4 => bnd (callV C f2 [x1, x4]) fun x5 => bnd (C (V.top 711) [x5]) fun x6 => ret x6 else stuck :=
  (runFn_k C (fnOf 725) [a0, a1] [("world", a0), ("args", a1)] (by kernel_rfl)).trans (by kernel_rfl)
theorem s732 (C : CallT) (a0 a1 : V) : runFn C (fnOf 732) [a0, a1] = bnd (C (V.top 655) [a0]) fun x1 => bnd (selM x1 "code_at") fun f2 => if mayCall f2 then bnd (C (V.top 655) [a0]) fun x3 => bnd (attrM x3 "point") fun x4 => bnd (callV C f2 [x1, x4]) fun x5 => bnd (callB "max" [(V.int 0), x5]) fun x6 => ret x6 else stuck :=
  (runFn_k C (fnOf 732) [a0, a1] [("world", a0), ("args", a1)] (by kernel_rfl)).trans (by kernel_rfl)
theorem s739 (C : CallT) (a0 a1 : V) : runFn C (fnOf 739) [a0, a1] = bnd (C (V.top 655) [a0]) fun x1 => bnd (selM x1 "code_at") fun f2 => if mayCall f2 then bnd (C (V.top 655) [a0]) fun x3 => bnd (attrM x3 "point") fun x4 => bnd (binM .Sub x4 (V.int 1)) fun x5 => bnd (callV C f2 [x1, x5]) fun x6 => bnd (callB "max" [(V.int 0), x6]) fun x7 => ret x7 else stuck :=
  (runFn_k C (fnOf 739) [a0, a1] [("world", a0), ("args", a1)] (by kernel_rfl)).trans (by kernel_rfl)
theorem s746 (C : CallT) (a0 a1 : V) : runFn C (fnOf 746) [a0, a1] = bnd (C (V.top 655) [a0]) fun x1 => bnd (C (V.top 620) [x1]) fun x2 => bnd (C (V.top 252) [x2]) fun x3 => ret x3 :=
  (runFn_k C (fnOf 746) [a0, a1] [("world", a0), ("args", a1)] (by kernel_rfl)).trans (by kernel_rfl)
theorem s753 (C : CallT) (a0 a1 : V) : runFn C (fnOf 753) [a0, a1] = bnd (C (V.top 655) [a0]) fun x1 => bnd (C (V.top 627) [x1]) fun x2 => bnd (C (V.top 252) [x2]) fun x3 => ret x3 :=
  (runFn_k C (fnOf 753) [a0, a1] [("world", a0), ("args", a1)] (by kernel_rfl)).trans (by kernel_rfl)
theorem s760 (C : CallT) (a0 a1 : V) : runFn C (fnOf 760) [a0, a1] = bnd (C (V.top 655) [a0]) fun x1 => bnd (C (V.top 634) [x1]) fun x2 => bnd (C (V.top 252) [x2]) fun x3 => ret x3 :=
  (runFn_k C (fnOf 760) [a0, a1] [("world", a0), ("args", a1)] (by kernel_rfl)).trans (by kernel_rfl)
theorem s767 (C : CallT) (a0 a1 : V) : runFn C (fnOf 767) [a0, a1] = bnd (C (V.top 655) [a0]) fun x1 => bnd (C (V.top 641) [x1]) fun x2 => bnd (C (V.top 252) [x2]) fun x3 => ret x3 :=
  (runFn_k C (fnOf 767) [a0, a1] [("world", a0), ("args", a1)] (by kernel_rfl)).trans (by kernel_rfl)
theorem s774 (C : CallT) (a0 a1 : V) : runFn C (fnOf 774) [a0, a1] = bnd (C (V.top 655) [a0]) fun x1 => bnd (listOfM a1) fun p3 => bnd (eachM p3.1 p3.2 (forTurn C (fnOf 774).names (stOf 774 1)) p3.2 [("world", a0), ("args", a1), ("buffer", x1)]) fun q2 => seqK q2 (fun r => ret (r.1.getD .none)) fun ρ => kSs C (fnOf 774).names ((fnOf 774).body.drop 2) ρ fun r => ret (r.1.getD .none) :=
  (runFn_k C (fnOf 774) [a0, a1] [("world", a0), ("args", a1)] (by kernel_rfl)).trans (by kernel_rfl)
theorem s781 (C : CallT) (a0 a1 : V) : runFn C (fnOf 781) [a0, a1] = bnd (bnd (bnd (callB "len" [a1]) fun x1 => bnd (cmpM .Lt x1 (V.int 2)) fun c2 => stepT .Or c2 ret (bnd (itemM a1 (V.int 1)) fun x3 => bnd (cmpM .Is x3 (V.top 135)) fun c4 => stepT .Or c4 ret (ret false))) fun c5 => if c5 then ret (V.int 1) else bnd (itemM a1 (V.int 1)) fun x6 => bnd (C (V.top 592) [x6]) fun x7 => ret x7) fun x8 => bnd (C (V.top 655) [a0]) fun x9 => bnd (itemM a1 (V.int 0)) fun x10 => bnd (C (V.top 662) [x10]) fun x11 => bnd (newM (.list [x11])) fun x12 => bnd (callB "max" [(V.int 0), x8]) fun x13 => bnd (binM .Mult x12 x13) fun x14 => bnd (C (V.top 557) [x9, x14]) fun x15 => ret (V.top 135) :=
  (runFn_k C (fnOf 781) [a0, a1] [("world", a0), ("args", a1)] (by kernel_rfl)).trans (by kernel_rfl)
theorem s788 (C : CallT) (a0 a1 : V) : runFn C (fnOf 788) [a0, a1] = bnd (C (V.top 655) [a0]) fun x1 => bnd (itemM a1 (V.int 0)) fun x2 => bnd (C (V.top 592) [x2]) fun x3 => bnd (itemM a1 (V.int 1)) fun x4 => bnd (C (V.top 592) [x4]) fun x5 => bnd (C (V.top 564) [x1, x3, x5]) fun x6 => ret (V.top 135) :=
  (runFn_k C (fnOf 788) [a0, a1] [("world", a0), ("args", a1)] (by kernel_rfl)).trans (by kernel_rfl)
theorem s795 (C : CallT) (a0 a1 : V) : runFn C (fnOf 795) [a0, a1] = bnd (C (V.top 655) [a0]) fun x1 => bnd (C (V.top 571) [x1]) fun x2 => ret (V.top 135) :=
  (runFn_k C (fnOf 795) [a0, a1] [("world", a0), ("args", a1)] (by kernel_rfl)).trans (by kernel_rfl)
theorem s802 (C : CallT) (a0 a1 : V) : runFn C (fnOf 802) [a0, a1] = bnd (C (V.top 655) [a0]) fun x1 => bnd (itemM a1 (V.int 0)) fun x2 => bnd (C (V.top 592) [x2]) fun x3 => bnd (itemM a1 (V.int 1)) fun x4 => bnd (C (V.top 592) [x4]) fun x5 => bnd (C (V.top 648) [x1, x3, x5]) fun x6 => bnd (C (V.top 178) [x6]) fun x7 => ret x7 :=
  (runFn_k C (fnOf 802) [a0, a1] [("world", a0), ("args", a1)] (by kernel_rfl)).trans (by kernel_rfl)
theorem s809 (C : CallT) (a0 a1 : V) : runFn C (fnOf 809) [a0, a1] = bnd (C (V.top 655) [a0]) fun x1 => bnd (selM x1 "codes") fun f2 => if mayCall f2 then bnd (selM x1 "begin") fun f3 => if mayCall f3 then bnd (callV C f3 [x1]) fun x4 => bnd (selM x1 "end") fun f5 => if mayCall f5 then bnd (callV C f5 [x1]) fun x6 => bnd (callV C f2 [x1, x4, x6]) fun x7 => bnd (C (V.top 178) [x7]) fun x8 => ret x8 else stuck else stuck else stuck :=
  (runFn_k C (fnOf 809) [a0, a1] [("world", a0), ("args", a1)] (by kernel_rfl)).trans (by kernel_rfl)
theorem s816 (C : CallT) (a0 a1 : V) : runFn C (fnOf 816) [a0, a1] = bnd (C (V.top 655) [a0]) fun x1 => bnd (selM x1 "size") fun f2 => if mayCall f2 then bnd (callV C f2 [x1]) fun x3 => ret x3 else stuck :=
  (runFn_k C (fnOf 816) [a0, a1] [("world", a0), ("args", a1)] (by kernel_rfl)).trans (by kernel_rfl)
theorem s823 (C : CallT) (a0 a1 : V) : runFn C (fnOf 823) [a0, a1] = bnd (C (V.top 655) [a0]) fun x1 => bnd (itemM a1 (V.int 0)) fun x2 => bnd (C (V.top 592) [x2]) fun x3 => bnd (itemM a1 (V.int 1)) fun x4 => bnd (C (V.top 592) [x4]) fun x5 => bnd (C (V.top 578) [x1, x3, x5]) fun x6 => ret (V.top 135) :=
  (runFn_k C (fnOf 823) [a0, a1] [("world", a0), ("args", a1)] (by kernel_rfl)).trans (by kernel_rfl)
theorem s830 (C : CallT) (a0 a1 : V) : runFn C (fnOf 830) [a0, a1] = bnd (C (V.top 655) [a0]) fun x1 => bnd (C (V.top 585) [x1]) fun x2 => ret (V.top 135) :=
  (runFn_k C (fnOf 830) [a0, a1] [("world", a0), ("args", a1)] (by kernel_rfl)).trans (by kernel_rfl)
theorem s872 (C : CallT) (a0 a1 : V) : runFn C (fnOf 872) [a0, a1] = bnd (itemM a1 (V.int 0)) fun x1 => bnd (C (V.top 669) [x1]) fun x2 => bnd (bnd (bnd (callB "len" [a1]) fun x3 => bnd (cmpM .Gt x3 (V.int 2)) fun c4 => stepT .And c4 ret (bnd (itemM a1 (V.int 2)) fun x5 => bnd (callB "isinstance" [x5, (V.top 464)]) fun x6 => bnd (boolM x6) fun b7 => stepT .And b7 ret (ret true))) fun c8 => if c8 then bnd (itemM a1 (V.int 2)) fun x9 => ret x9 else bnd (C (V.top 655) [a0]) fun x10 => ret x10) fun x11 => bnd (itemM a1 (V.int 1)) fun x12 => bnd (cmpM .Is x12 (V.top 135)) fun c13 => if c13 then bnd (C (V.top 599) [x2, V.none, (V.int 0)]) fun x14 => ret x2 else bnd (itemM a1 (V.int 1)) fun x15 => bnd (C (V.top 592) [x15]) fun x16 => bnd (C (V.top 599) [x2, x11, x16]) fun x17 => ret x2 :=
  (runFn_k C (fnOf 872) [a0, a1] [("world", a0), ("args", a1)] (by kernel_rfl)).trans (by kernel_rfl)
theorem s865 (C : CallT) (a0 a1 : V) : runFn C (fnOf 865) [a0, a1] = bnd (selM a0 "fresh_marker") fun f1 => if mayCall f1 then bnd (callV C f1 [a0]) fun x2 => bnd (bnd (callB "len" [a1]) fun x3 => bnd (cmpM .Gt x3 (V.int 1)) fun c4 => bnd (boolM (V.bool c4)) fun b5 => stepT .And b5 (fun x_ => ret (V.bool c4)) (bnd (itemM a1 (V.int 1)) fun x6 => bnd (cmpM .IsNot x6 (V.top 135)) fun c7 => ret (V.bool c7))) fun x8 => bnd (C (V.top 290) [x2, x8]) fun x9 => bnd (itemM a1 (V.int 0)) fun x10 => bnd (callB "isinstance" [x10, (V.top 290)]) fun x11 => bnd (boolM x11) fun b12 => if b12 then bnd (itemM a1 (V.int 0)) fun x13 => bnd (attrM x13 "buffer") fun x14 => bnd (itemM a1 (V.int 0)) fun x15 => bnd (attrM x15 "position") fun x16 => bnd (C (V.top 599) [x9, x14, x16]) fun x17 => ret x9 else bnd (C (V.top 655) [a0]) fun x18 => bnd (itemM a1 (V.int 0)) fun x19 => bnd (C (V.top 592) [x19]) fun x20 => bnd (C (V.top 599) [x9, x18, x20]) fun x21 => ret x9 else stuck :=
  (runFn_k C (fnOf 865) [a0, a1] [("world", a0), ("args", a1)] (by kernel_rfl)).trans (by kernel_rfl)
theorem s879 (C : CallT) (a0 a1 : V) : runFn C (fnOf 879) [a0, a1] = bnd (itemM a1 (V.int 0)) fun x1 => bnd (C (V.top 669) [x1]) fun x2 => bnd (bnd (attrM x2 "buffer") fun x3 => bnd (cmpM .Is x3 V.none) fun c4 => if c4 then ret (V.top 135) else bnd (attrM x2 "position") fun x5 => ret x5) fun x6 => ret x6 :=
  (runFn_k C (fnOf 879) [a0, a1] [("world", a0), ("args", a1)] (by kernel_rfl)).trans (by kernel_rfl)
theorem s1243 (C : CallT) (a0 : V) : runFn C (fnOf 1243) [a0] = bnd (attrM a0 "last_marker") fun x1 => bnd (binM .Add x1 (V.int 1)) fun x2 => bnd (putAttrM a0 "last_marker" x2) fun x_ => bnd (attrM a0 "last_marker") fun x3 => ret x3 :=
  (runFn_k C (fnOf 1243) [a0] [("self", a0)] (by kernel_rfl)).trans (by kernel_rfl)
theorem s1264 (C : CallT) (a0 a1 : V) : runFn C (fnOf 1264) [a0, a1] = bnd (itemM a0 (V.int 1)) fun x1 => bnd (binM .Add x1 (V.int 1)) fun x2 => bnd (putItemM a0 (V.int 1) x2) fun x_ => bnd (itemM a0 (V.int 1)) fun x3 => bnd (itemM a0 (V.int 0)) fun x4 => bnd (callB "len" [x4]) fun x5 => bnd (cmpM .LtE x3 x5) fun c6 => if c6 then bnd (itemM a0 (V.int 0)) fun x7 => bnd (itemM a0 (V.int 1)) fun x8 => bnd (binM .Sub x8 (V.int 1)) fun x9 => bnd (itemM x7 x9) fun x10 => bnd (binM .Mod x10 a1) fun x11 => ret x11 else bnd (itemM a0 (V.int 1)) fun x12 => bnd (itemM a0 (V.int 1)) fun x13 => bnd (binM .Mult x12 x13) fun x14 => bnd (binM .Mult x14 (V.int 29)) fun x15 => bnd (itemM a0 (V.int 1)) fun x16 => bnd (binM .Mult (V.int 13) x16) fun x17 => bnd (binM .Add x15 x17) fun x18 => bnd (itemM a0 (V.int 0)) fun x19 => bnd (callB "len" [x19]) fun x20 => bnd (binM .Mult (V.int 5) x20) fun x21 => bnd (binM .Add x18 x21) fun x22 => bnd (binM .FloorDiv x22 (V.int 3)) fun x23 => bnd (binM .Mod x23 a1) fun x24 => ret x24 :=
  (runFn_k C (fnOf 1264) [a0, a1] [("deck", a0), ("many", a1)] (by kernel_rfl)).trans (by kernel_rfl)
theorem s1271 (C : CallT) (a0 a1 a2 a3 : V) : runFn C (fnOf 1271) [a0, a1, a2, a3] = tryK "refused" (exSs C (fnOf 1271).names (tryBody (stOf 1271 0)) [("deeds", a0), ("name", a1), ("world", a2), ("args", a3)]) fun q1 => seqK q1 (fun r => ret (r.1.getD .none)) fun ρ => kSs C (fnOf 1271).names ((fnOf 1271).body.drop 1) ρ fun r => ret (r.1.getD .none) :=
  (runFn_k C (fnOf 1271) [a0, a1, a2, a3] [("deeds", a0), ("name", a1), ("world", a2), ("args", a3)] (by kernel_rfl)).trans ((show _ = bnd (tryR "refused" (exSs C (fnOf 1271).names (tryBody (stOf 1271 0)) [("deeds", a0), ("name", a1), ("world", a2), ("args", a3)])) fun q1 => seqK q1 (fun r => ret (r.1.getD .none)) fun ρ => kSs C (fnOf 1271).names ((fnOf 1271).body.drop 1) ρ fun r => ret (r.1.getD .none) by kernel_rfl).trans tryK_eq)
theorem s1278 (C : CallT) (a0 a1 : V) : runFn C (fnOf 1278) [a0, a1] = bnd (itemM a1 (V.str "text")) fun x1 => bnd (callB "len" [x1]) fun x2 => bnd (binM .Add x2 (V.int 4)) fun x3 => bnd (C (V.top 1264) [a0, x3]) fun x4 => bnd (binM .Sub x4 (V.int 1)) fun x5 => ret x5 :=
  (runFn_k C (fnOf 1278) [a0, a1] [("deck", a0), ("own", a1)] (by kernel_rfl)).trans (by kernel_rfl)
theorem s1285 (C : CallT) (a0 a1 : V) : runFn C (fnOf 1285) [a0, a1] = bnd (bnd (itemM a0 (V.str "low")) fun x1 => bnd (bnd (cmpM .LtE x1 a1) fun c2 => if c2 then bnd (itemM a0 (V.str "high")) fun x3 => bnd (cmpM .Lt a1 x3) fun c4 => ret c4 else ret false) fun c5 => if c5 then bnd (itemM a0 (V.str "text")) fun x6 => bnd (binM .Sub a1 (V.int 1)) fun x7 => bnd (itemM x6 x7) fun x8 => ret x8 else ret V.none) fun x9 => ret x9 :=
  (runFn_k C (fnOf 1285) [a0, a1] [("own", a0), ("place", a1)] (by kernel_rfl)).trans (by kernel_rfl)
theorem s1292 (C : CallT) (a0 a1 : V) : runFn C (fnOf 1292) [a0, a1] = bnd (itemM a0 (V.str "point")) fun x1 => bnd (itemM a0 (V.str "text")) fun x2 => bnd (binM .Sub x1 (V.int 1)) fun x3 => bnd (sliceM x2 V.none x3) fun x4 => bnd (binM .Add x4 a1) fun x5 => bnd (itemM a0 (V.str "text")) fun x6 => bnd (binM .Sub x1 (V.int 1)) fun x7 => bnd (sliceM x6 x7 V.none) fun x8 => bnd (binM .Add x5 x8) fun x9 => bnd (putItemM a0 (V.str "text") x9) fun x_ => bnd (itemM a0 (V.str "spots")) fun x11 => bnd (listOfM x11) fun p12 => bnd (eachM p12.1 p12.2 (forTurn C (fnOf 1292).names (stOf 1292 2)) p12.2 [("own", a0), ("signs", a1), ("at", x1)]) fun q10 => seqK q10 (fun r => ret (r.1.getD .none)) fun ρ => kSs C (fnOf 1292).names ((fnOf 1292).body.drop 3) ρ fun r => ret (r.1.getD .none) :=
  (runFn_k C (fnOf 1292) [a0, a1] [("own", a0), ("signs", a1)] (by kernel_rfl)).trans (by kernel_rfl)
theorem s1299 (C : CallT) (a0 a1 a2 : V) : runFn C (fnOf 1299) [a0, a1, a2] = bnd (itemM a0 (V.str "text")) fun x1 => bnd (binM .Sub a1 (V.int 1)) fun x2 => bnd (sliceM x1 V.none x2) fun x3 => bnd (itemM a0 (V.str "text")) fun x4 => bnd (binM .Sub a2 (V.int 1)) fun x5 => bnd (sliceM x4 x5 V.none) fun x6 => bnd (binM .Add x3 x6) fun x7 => bnd (putItemM a0 (V.str "text") x7) fun x_ => bnd (itemM a0 (V.str "spots")) fun x9 => bnd (listOfM x9) fun p10 => bnd (eachM p10.1 p10.2 (forTurn C (fnOf 1299).names (stOf 1299 1)) p10.2 [("own", a0), ("low", a1), ("high", a2)]) fun q8 => seqK q8 (fun r => ret (r.1.getD .none)) fun ρ => kSs C (fnOf 1299).names ((fnOf 1299).body.drop 2) ρ fun r => ret (r.1.getD .none) :=
  (runFn_k C (fnOf 1299) [a0, a1, a2] [("own", a0), ("low", a1), ("high", a2)] (by kernel_rfl)).trans (by kernel_rfl)
theorem s1306 (C : CallT) (a0 a1 a2 a3 : V) : runFn C (fnOf 1306) [a0, a1, a2, a3] = bnd (C (V.top 1278) [a0, a1]) fun x1 => bnd (C (V.top 1278) [a0, a1]) fun x2 => bnd (newM (.tup [x1, x2])) fun x_ => bnd (callB "min" [x1, x2]) fun x3 => bnd (callB "max" [x1, x2]) fun x4 => bnd (C (V.top 1264) [a0, (V.int 3)]) fun x5 => bnd (newM (.tup [x3, x4, x5])) fun x_ => bnd (newM (.list [(V.str "delete-region"), (V.str "narrow-to-region"), (V.str "buffer-substring")])) fun x6 => bnd (itemM x6 x5) fun x7 => bnd (newM (.list [x1, x2])) fun x8 => bnd (C (V.top 1271) [a2, x7, a3, x8]) fun x9 => bnd (cmpM .Eq x5 (V.int 1)) fun c10 => if c10 then bnd (bnd (cmpM .Lt x3 (V.int 1)) fun c11 => stepT .Or c11 ret (bnd (itemM a1 (V.str "text")) fun x12 => bnd (callB "len" [x12]) fun x13 => bnd (binM .Add x13 (V.int 1)) fun x14 => bnd (cmpM .Gt x4 x14) fun c15 => stepT .Or c15 ret (ret false))) fun c16 => if c16 then bnd (newM (.list [(V.str "refused"), (V.str "args-out-of-range")])) fun x17 => bnd (newM (.tup [x9, x17])) fun x18 => ret x18 else bnd (itemM a1 (V.str "point")) fun x19 => bnd (callB "max" [x19, x3]) fun x20 => bnd (callB "min" [x20, x4]) fun x21 => bnd (newM (.tup [x3, x4, x21])) fun x_ => bnd (putItemM a1 (V.str "low") x3) fun x_ => bnd (putItemM a1 (V.str "high") x4) fun x_ => bnd (putItemM a1 (V.str "point") x21) fun x_ => bnd (newM (.list [(V.str "nil")])) fun x22 => bnd (newM (.tup [x9, x22])) fun x23 => ret x23 else bnd (bnd (itemM a1 (V.str "low")) fun x24 => bnd (cmpM .Lt x3 x24) fun c25 => stepT .Or c25 ret (bnd (itemM a1 (V.str "high")) fun x26 => bnd (cmpM .Gt x4 x26) fun c27 => stepT .Or c27 ret (ret false))) fun c28 => if c28 then bnd (newM (.list [(V.str "refused"), (V.str "args-out-of-range")])) fun x29 => bnd (newM (.tup [x9, x29])) fun x30 => ret x30 else bnd (cmpM .Eq x5 (V.int 2)) fun c31 => if c31 then bnd (itemM a1 (V.str "text")) fun x32 => bnd (binM .Sub x3 (V.int 1)) fun x33 => bnd (binM .Sub x4 (V.int 1)) fun x34 => bnd (sliceM x32 x33 x34) fun x35 => bnd (newM (.list [(V.str "text"), x35])) fun x36 => bnd (newM (.tup [x9, x36])) fun x37 => ret x37 else bnd (C (V.top 1299) [a1, x3, x4]) fun x38 => bnd (newM (.list [(V.str "nil")])) fun x39 => bnd (newM (.tup [x9, x39])) fun x40 => ret x40 :=
  (runFn_k C (fnOf 1306) [a0, a1, a2, a3] [("deck", a0), ("own", a1), ("deeds", a2), ("world", a3)] (by kernel_rfl)).trans (by kernel_rfl)
theorem s1313 (C : CallT) (a0 a1 a2 a3 a4 : V) : runFn C (fnOf 1313) [a0, a1, a2, a3, a4] = bnd (C (V.top 1278) [a0, a1]) fun x1 => bnd (itemM a1 (V.str "text")) fun x2 => bnd (callB "len" [x2]) fun x3 => bnd (newM (.tup [x1, x3])) fun x_ => bnd (callB "max" [x1, (V.int 1)]) fun x4 => bnd (binM .Add x3 (V.int 1)) fun x5 => bnd (callB "min" [x4, x5]) fun x6 => bnd (bnd (newM (.list [])) fun x7 => bnd (cmpM .Eq a4 x7) fun c8 => stepT .Or c8 ret (bnd (C (V.top 1264) [a0, (V.int 2)]) fun x9 => bnd (cmpM .Eq x9 (V.int 0)) fun c10 => stepT .Or c10 ret (ret false))) fun c11 => if c11 then bnd (C (V.top 1264) [a0, (V.int 2)]) fun x12 => bnd (cmpM .Eq x12 (V.int 1)) fun c13 => bnd (selM a4 "append") fun f14 => if mayCall f14 then bnd (itemM a2 (V.str "copy-marker")) fun x15 => if mayCall x15 then bnd (bnd (boolM (V.bool c13)) fun b16 => if b16 then ret (V.top 138) else ret (V.top 135)) fun x17 => bnd (newM (.list [x1, x17])) fun x18 => bnd (callV C x15 [a3, x18]) fun x19 => bnd (callV C f14 [a4, x19]) fun x20 => bnd (itemM a1 (V.str "spots")) fun x21 => bnd (selM x21 "append") fun f22 => if mayCall f22 then bnd (newM (.list [x6, (V.bool c13)])) fun x23 => bnd (callV C f22 [x21, x23]) fun x24 => ret (V.bool true) else stuck else stuck else stuck else bnd (callB "len" [a4]) fun x25 => bnd (C (V.top 1264) [a0, x25]) fun x26 => bnd (itemM a1 (V.str "spots")) fun x27 => bnd (itemM x27 x26) fun x28 => bnd (putItemM x28 (V.int 0) x6) fun x_ => bnd (itemM a2 (V.str "set-marker")) fun x29 => if mayCall x29 then bnd (itemM a4 x26) fun x30 => bnd (newM (.list [x30, x1])) fun x31 => bnd (callV C x29 [a3, x31]) fun x32 => bnd (itemM a4 x26) fun x33 => bnd (cmpM .Is x32 x33) fun c34 => ret (V.bool c34) else stuck :=
  (runFn_k C (fnOf 1313) [a0, a1, a2, a3, a4] [("deck", a0), ("own", a1), ("deeds", a2), ("world", a3), ("things", a4)] (by kernel_rfl)).trans (by kernel_rfl)
theorem s1320 (C : CallT) (a0 a1 a2 a3 : V) : runFn C (fnOf 1320) [a0, a1, a2, a3] = bnd (C (V.top 1264) [a0, (V.int 6)]) fun x1 => bnd (C (V.top 1278) [a0, a1]) fun x2 => bnd (newM (.tup [x1, x2])) fun x_ => bnd (cmpM .Eq x1 (V.int 0)) fun c3 => if c3 then bnd (itemM a1 (V.str "low")) fun x4 => bnd (callB "max" [x2, x4]) fun x5 => bnd (itemM a1 (V.str "high")) fun x6 => bnd (callB "min" [x5, x6]) fun x7 => bnd (putItemM a1 (V.str "point") x7) fun x_ => bnd (newM (.list [x2])) fun x8 => bnd (C (V.top 1271) [a2, (V.str "goto-char"), a3, x8]) fun x9 => bnd (newM (.list [(V.str "told"), x2])) fun x10 => bnd (newM (.tup [x9, x10])) fun x11 => ret x11 else bnd (cmpM .Eq x1 (V.int 1)) fun c12 => if c12 then bnd (C (V.top 1285) [a1, x2]) fun x13 => bnd (newM (.list [x2])) fun x14 => bnd (C (V.top 1271) [a2, (V.str "char-after"), a3, x14]) fun x15 => bnd (bnd (cmpM .Is x13 V.none) fun c16 => if c16 then bnd (newM (.list [(V.str "nil")])) fun x17 => ret x17 else bnd (newM (.list [(V.str "told"), x13])) fun x18 => ret x18) fun x19 => bnd (newM (.tup [x15, x19])) fun x20 => ret x20 else bnd (cmpM .Eq x1 (V.int 2)) fun c21 => if c21 then bnd (binM .Sub x2 (V.int 1)) fun x22 => bnd (C (V.top 1285) [a1, x22]) fun x23 => bnd (newM (.list [x2])) fun x24 => bnd (C (V.top 1271) [a2, (V.str "char-before"), a3, x24]) fun x25 => bnd (bnd (cmpM .Is x23 V.none) fun c26 => if c26 then bnd (newM (.list [(V.str "nil")])) fun x27 => ret x27 else bnd (newM (.list [(V.str "told"), x23])) fun x28 => ret x28) fun x29 => bnd (newM (.tup [x25, x29])) fun x30 => ret x30 else bnd (cmpM .Eq x1 (V.int 3)) fun c31 => if c31 then bnd (itemM a1 (V.str "text")) fun x32 => bnd (callB "len" [x32]) fun x33 => bnd (binM .Add x33 (V.int 1)) fun x34 => bnd (newM (.tup [(V.int 1), x34])) fun x_ => bnd (putItemM a1 (V.str "low") (V.int 1)) fun x_ => bnd (putItemM a1 (V.str "high") x34) fun x_ => bnd (newM (.list [])) fun x35 => bnd (C (V.top 1271) [a2, (V.str "widen"), a3, x35]) fun x36 => bnd (newM (.list [(V.str "nil")])) fun x37 => bnd (newM (.tup [x36, x37])) fun x38 => ret x38 else bnd (cmpM .Eq x1 (V.int 4)) fun c39 => if c39 then bnd (itemM a1 (V.str "text")) fun x40 => bnd (callB "len" [x40]) fun x41 => bnd (binM .Add x41 (V.int 1)) fun x42 => bnd (newM (.tup [(V.int 1), x42])) fun x_ => bnd (putItemM a1 (V.str "low") (V.int 1)) fun x_ => bnd (putItemM a1 (V.str "high") x42) fun x_ => bnd (itemM a1 (V.str "high")) fun x43 => bnd (C (V.top 1299) [a1, (V.int 1), x43]) fun x44 => bnd (newM (.list [])) fun x45 => bnd (C (V.top 1271) [a2, (V.str "erase-buffer"), a3, x45]) fun x46 => bnd (newM (.list [(V.str "nil")])) fun x47 => bnd (newM (.tup [x46, x47])) fun x48 => ret x48 else bnd (newM (.list [(V.top 135)])) fun x49 => bnd (C (V.top 1271) [a2, (V.str "insert"), a3, x49]) fun x50 => bnd (newM (.list [(V.str "refused"), (V.str "wrong-type-argument")])) fun x51 => bnd (newM (.tup [x50, x51])) fun x52 => ret x52 :=
  (runFn_k C (fnOf 1320) [a0, a1, a2, a3] [("deck", a0), ("own", a1), ("deeds", a2), ("world", a3)] (by kernel_rfl)).trans (by kernel_rfl)
theorem s175 (C : CallT) (a0 a1 : V) : runFn C (fnOf 175) [a0, a1] = bnd (putAttrM a0 "codes" a1) fun x_ => bnd (putAttrM a0 "spans" V.none) fun x_ => ret V.none :=
  (runFn_k C (fnOf 175) [a0, a1] [("self", a0), ("codes", a1), ("spans", V.none)] (by kernel_rfl)).trans (by kernel_rfl)
theorem s557 (C : CallT) (a0 a1 : V) : runFn C (fnOf 557) [a0, a1] = bnd (attrM a0 "point") fun x1 => bnd (C (V.top 549) [a0, x1, a1, (V.bool false), (V.bool true)]) fun x2 => ret V.none :=
  (runFn_k C (fnOf 557) [a0, a1] [("buffer", a0), ("codes", a1), ("before_markers", (V.bool false))] (by kernel_rfl)).trans (by kernel_rfl)
theorem s1325_0 (C : CallT) (K : Option V × Loc → Mx V) (a0 a1 a2 a3 : V) : kS C (fnOf 1325).names (stOf 1325 0) [("own", a0), ("deeds", a1), ("world", a2), ("things", a3)] K = bnd (itemM a0 (V.str "point")) fun x1 => bnd (itemM a0 (V.str "low")) fun x2 => bnd (itemM a0 (V.str "high")) fun x3 => bnd (newM (.tup [x1, x2, x3])) fun x_ => K (none, [("own", a0), ("deeds", a1), ("world", a2), ("things", a3), ("high", x3), ("low", x2), ("point", x1)]) := by kernel_rfl
theorem s1325_1 (C : CallT) (K : Option V × Loc → Mx V) (b0 b1 b2 b3 b4 b5 b6 : V) : kS C (fnOf 1325).names (stOf 1325 1) [("own", b0), ("deeds", b1), ("world", b2), ("things", b3), ("high", b4), ("low", b5), ("point", b6)] K = bnd (newM (.list [(V.str "point"), (V.str "point-min"), (V.str "point-max"), (V.str "buffer-size")])) fun x1 => K (none, [("own", b0), ("deeds", b1), ("world", b2), ("things", b3), ("high", b4), ("low", b5), ("point", b6), ("wanted", x1)]) := by kernel_rfl
theorem s1325_2 (C : CallT) (K : Option V × Loc → Mx V) (b0 b1 b2 b3 b4 b5 b6 b7 : V) : kS C (fnOf 1325).names (stOf 1325 2) [("own", b0), ("deeds", b1), ("world", b2), ("things", b3), ("high", b4), ("low", b5), ("point", b6), ("wanted", b7)] K = bnd (listOfM b7) fun p1 => bnd (compM p1.1 p1.2 (fun w2 => noExc (bnd (itemM b1 w2) fun x4 => if mayCall x4 then bnd (newM (.list [])) fun x5 => bnd (callV C x4 [b2, x5]) fun x6 => ret x6 else stuck)) p1.2) fun ws3 => bnd (newM (.list ws3)) fun x7 => bnd (itemM b0 (V.str "text")) fun x8 => bnd (callB "len" [x8]) fun x9 => bnd (newM (.list [b6, b5, b4, x9])) fun x10 => bnd (cmpM .NotEq x7 x10) fun c11 => if c11 then K (some (V.bool false), [("own", b0), ("deeds", b1), ("world", b2), ("things", b3), ("high", b4), ("low", b5), ("point", b6), ("wanted", b7)]) else K (none, [("own", b0), ("deeds", b1), ("world", b2), ("things", b3), ("high", b4), ("low", b5), ("point", b6), ("wanted", b7)]) := by kernel_rfl
theorem s1325_3 (C : CallT) (K : Option V × Loc → Mx V) (b0 b1 b2 b3 b4 b5 b6 b7 : V) : kS C (fnOf 1325).names (stOf 1325 3) [("own", b0), ("deeds", b1), ("world", b2), ("things", b3), ("high", b4), ("low", b5), ("point", b6), ("wanted", b7)] K = bnd (binM .Sub b6 (V.int 1)) fun x1 => bnd (C (V.top 1285) [b0, x1]) fun x2 => bnd (C (V.top 1285) [b0, b6]) fun x3 => bnd (newM (.tup [x2, x3])) fun x_ => K (none, [("own", b0), ("deeds", b1), ("world", b2), ("things", b3), ("high", b4), ("low", b5), ("point", b6), ("wanted", b7), ("behind", x3), ("ahead", x2)]) := by kernel_rfl
theorem s1325_4 (C : CallT) (K : Option V × Loc → Mx V) (b0 b1 b2 b3 b4 b5 b6 b7 b8 b9 : V) : kS C (fnOf 1325).names (stOf 1325 4) [("own", b0), ("deeds", b1), ("world", b2), ("things", b3), ("high", b4), ("low", b5), ("point", b6), ("wanted", b7), ("behind", b8), ("ahead", b9)] K = bnd (cmpM .Eq b6 b5) fun c1 => bnd (cmpM .Eq b6 b4) fun c2 => bnd (newM (.tup [V.none, (V.int 10)])) fun x3 => bnd (cmpM .In b9 x3) fun c4 => bnd (newM (.tup [V.none, (V.int 10)])) fun x5 => bnd (cmpM .In b8 x5) fun c6 => bnd (newM (.list [(V.bool c1), (V.bool c2), (V.bool c4), (V.bool c6)])) fun x7 => K (none, [("own", b0), ("deeds", b1), ("world", b2), ("things", b3), ("high", b4), ("low", b5), ("point", b6), ("wanted", b7), ("behind", b8), ("ahead", b9), ("due", x7)]) := by kernel_rfl
theorem s1325_5 (C : CallT) (K : Option V × Loc → Mx V) (b0 b1 b2 b3 b4 b5 b6 b7 b8 b9 b10 : V) : kS C (fnOf 1325).names (stOf 1325 5) [("own", b0), ("deeds", b1), ("world", b2), ("things", b3), ("high", b4), ("low", b5), ("point", b6), ("wanted", b7), ("behind", b8), ("ahead", b9), ("due", b10)] K = bnd (newM (.list [(V.str "bobp"), (V.str "eobp"), (V.str "bolp"), (V.str "eolp")])) fun x1 => bnd (listOfM x1) fun p2 => bnd (compM p2.1 p2.2 (fun w3 => noExc (bnd (itemM b1 w3) fun x5 => if mayCall x5 then bnd (newM (.list [])) fun x6 => bnd (callV C x5 [b2, x6]) fun x7 => bnd (cmpM .Is x7 (V.top 138)) fun c8 => ret (V.bool c8) else stuck)) p2.2) fun ws4 => bnd (newM (.list ws4)) fun x9 => bnd (cmpM .NotEq x9 b10) fun c10 => if c10 then K (some (V.bool false), [("own", b0), ("deeds", b1), ("world", b2), ("things", b3), ("high", b4), ("low", b5), ("point", b6), ("wanted", b7), ("behind", b8), ("ahead", b9), ("due", b10)]) else K (none, [("own", b0), ("deeds", b1), ("world", b2), ("things", b3), ("high", b4), ("low", b5), ("point", b6), ("wanted", b7), ("behind", b8), ("ahead", b9), ("due", b10)]) := by kernel_rfl
theorem s1325_6 (C : CallT) (K : Option V × Loc → Mx V) (b0 b1 b2 b3 b4 b5 b6 b7 b8 b9 b10 : V) : kS C (fnOf 1325).names (stOf 1325 6) [("own", b0), ("deeds", b1), ("world", b2), ("things", b3), ("high", b4), ("low", b5), ("point", b6), ("wanted", b7), ("behind", b8), ("ahead", b9), ("due", b10)] K = bnd (newM (.list [(V.str "preceding-char"), (V.str "following-char")])) fun x1 => bnd (listOfM x1) fun p2 => bnd (compM p2.1 p2.2 (fun w3 => noExc (bnd (itemM b1 w3) fun x5 => if mayCall x5 then bnd (newM (.list [])) fun x6 => bnd (callV C x5 [b2, x6]) fun x7 => ret x7 else stuck)) p2.2) fun ws4 => bnd (newM (.list ws4)) fun x8 => K (none, [("own", b0), ("deeds", b1), ("world", b2), ("things", b3), ("high", b4), ("low", b5), ("point", b6), ("wanted", b7), ("behind", b8), ("ahead", b9), ("due", b10), ("signs", x8)]) := by kernel_rfl
theorem s1325_7 (C : CallT) (K : Option V × Loc → Mx V) (b0 b1 b2 b3 b4 b5 b6 b7 b8 b9 b10 b11 : V) : kS C (fnOf 1325).names (stOf 1325 7) [("own", b0), ("deeds", b1), ("world", b2), ("things", b3), ("high", b4), ("low", b5), ("point", b6), ("wanted", b7), ("behind", b8), ("ahead", b9), ("due", b10), ("signs", b11)] K = bnd (newM (.list [b9, b8])) fun x1 => bnd (listOfM x1) fun p2 => bnd (compM p2.1 p2.2 (fun w3 => noExc (bnd (bnd (cmpM .Is w3 V.none) fun c5 => if c5 then ret (V.int 0) else ret w3) fun x6 => ret x6)) p2.2) fun ws4 => bnd (newM (.list ws4)) fun x7 => bnd (cmpM .NotEq b11 x7) fun c8 => if c8 then K (some (V.bool false), [("own", b0), ("deeds", b1), ("world", b2), ("things", b3), ("high", b4), ("low", b5), ("point", b6), ("wanted", b7), ("behind", b8), ("ahead", b9), ("due", b10), ("signs", b11)]) else K (none, [("own", b0), ("deeds", b1), ("world", b2), ("things", b3), ("high", b4), ("low", b5), ("point", b6), ("wanted", b7), ("behind", b8), ("ahead", b9), ("due", b10), ("signs", b11)]) := by kernel_rfl
theorem s1325_8 (C : CallT) (K : Option V × Loc → Mx V) (b0 b1 b2 b3 b4 b5 b6 b7 b8 b9 b10 b11 : V) : kS C (fnOf 1325).names (stOf 1325 8) [("own", b0), ("deeds", b1), ("world", b2), ("things", b3), ("high", b4), ("low", b5), ("point", b6), ("wanted", b7), ("behind", b8), ("ahead", b9), ("due", b10), ("signs", b11)] K = bnd (itemM b1 (V.str "buffer-string")) fun x1 => if mayCall x1 then bnd (newM (.list [])) fun x2 => bnd (callV C x1 [b2, x2]) fun x3 => bnd (attrM x3 "codes") fun x4 => bnd (itemM b0 (V.str "text")) fun x5 => bnd (binM .Sub b5 (V.int 1)) fun x6 => bnd (binM .Sub b4 (V.int 1)) fun x7 => bnd (sliceM x5 x6 x7) fun x8 => bnd (cmpM .NotEq x4 x8) fun c9 => if c9 then K (some (V.bool false), [("own", b0), ("deeds", b1), ("world", b2), ("things", b3), ("high", b4), ("low", b5), ("point", b6), ("wanted", b7), ("behind", b8), ("ahead", b9), ("due", b10), ("signs", b11)]) else K (none, [("own", b0), ("deeds", b1), ("world", b2), ("things", b3), ("high", b4), ("low", b5), ("point", b6), ("wanted", b7), ("behind", b8), ("ahead", b9), ("due", b10), ("signs", b11)]) else stuck := by kernel_rfl
theorem s1325_9 (C : CallT) (K : Option V × Loc → Mx V) (b0 b1 b2 b3 b4 b5 b6 b7 b8 b9 b10 b11 : V) : kS C (fnOf 1325).names (stOf 1325 9) [("own", b0), ("deeds", b1), ("world", b2), ("things", b3), ("high", b4), ("low", b5), ("point", b6), ("wanted", b7), ("behind", b8), ("ahead", b9), ("due", b10), ("signs", b11)] K = bnd (listOfM b3) fun p1 => bnd (compM p1.1 p1.2 (fun w2 => noExc (bnd (itemM b1 (V.str "marker-position")) fun x4 => if mayCall x4 then bnd (newM (.list [w2])) fun x5 => bnd (callV C x4 [b2, x5]) fun x6 => ret x6 else stuck)) p1.2) fun ws3 => bnd (newM (.list ws3)) fun x7 => bnd (itemM b0 (V.str "spots")) fun x8 => bnd (listOfM x8) fun p9 => bnd (compM p9.1 p9.2 (fun w10 => noExc (bnd (itemM w10 (V.int 0)) fun x12 => ret x12)) p9.2) fun ws11 => bnd (newM (.list ws11)) fun x13 => bnd (cmpM .Eq x7 x13) fun c14 => K (some (V.bool c14), [("own", b0), ("deeds", b1), ("world", b2), ("things", b3), ("high", b4), ("low", b5), ("point", b6), ("wanted", b7), ("behind", b8), ("ahead", b9), ("due", b10), ("signs", b11)]) := by kernel_rfl
theorem t341 (C : CallT) (a0 a1 a2 a3 v : V) (ρt : Loc) : forTurn C (fnOf 341).names (stOf 341 0) v (("self", a0) :: ("start", a1) :: ("end", a2) :: ("is_before", a3) :: ρt : Loc) = bnd (attrM a0 "rows") fun x1 => bnd (opt (List.lookup ("number" : Str) (setL "number" v (ρt)))) fun x2 => bnd (itemM x1 x2) fun x3 => bnd (bnd (opt (List.lookup ("marker" : Str) (setL "marker" x3 (setL "number" v (ρt))))) fun x4 => bnd (attrM x4 "position") fun x5 => bnd (cmpM .Gt x5 a1) fun c6 => stepT .Or c6 ret (bnd (bnd (opt (List.lookup ("marker" : Str) (setL "marker" x3 (setL "number" v (ρt))))) fun x7 => bnd (attrM x7 "position") fun x8 => bnd (cmpM .Eq x8 a1) fun c9 => stepT .And c9 ret (bnd (bnd (boolM a3) fun b10 => stepT .Or b10 ret (bnd (opt (List.lookup ("marker" : Str) (setL "marker" x3 (setL "number" v (ρt))))) fun x11 => bnd (attrM x11 "advances") fun x12 => bnd (boolM x12) fun b13 => stepT .Or b13 ret (ret false))) fun c14 => stepT .And c14 ret (ret true))) fun c15 => stepT .Or c15 ret (ret false))) fun c16 => if c16 then bnd (opt (List.lookup ("marker" : Str) (setL "marker" x3 (setL "number" v (ρt))))) fun x17 => bnd (attrM x17 "position") fun x18 => bnd (binM .Add x18 a2) fun x19 => bnd (binM .Sub x19 a1) fun x20 => bnd (opt (List.lookup ("marker" : Str) (setL "marker" x3 (setL "number" v (ρt))))) fun x21 => bnd (putAttrM x21 "position" x20) fun x_ => ret (none, (("self", a0) :: ("start", a1) :: ("end", a2) :: ("is_before", a3) :: setL "marker" x3 (setL "number" v (ρt)) : Loc)) else ret (none, (("self", a0) :: ("start", a1) :: ("end", a2) :: ("is_before", a3) :: setL "marker" x3 (setL "number" v (ρt)) : Loc)) :=
  (forTurn_k C _ _ v _).trans (by kernel_rfl)
theorem t348 (C : CallT) (a0 a1 a2 v : V) (ρt : Loc) : forTurn C (fnOf 348).names (stOf 348 0) v (("self", a0) :: ("start", a1) :: ("end", a2) :: ρt : Loc) = bnd (attrM a0 "rows") fun x1 => bnd (opt (List.lookup ("number" : Str) (setL "number" v (ρt)))) fun x2 => bnd (itemM x1 x2) fun x3 => bnd (opt (List.lookup ("marker" : Str) (setL "marker" x3 (setL "number" v (ρt))))) fun x4 => bnd (attrM x4 "position") fun x5 => bnd (cmpM .Gt x5 a2) fun c6 => if c6 then bnd (opt (List.lookup ("marker" : Str) (setL "marker" x3 (setL "number" v (ρt))))) fun x7 => bnd (attrM x7 "position") fun x8 => bnd (binM .Sub a2 a1) fun x9 => bnd (binM .Sub x8 x9) fun x10 => bnd (opt (List.lookup ("marker" : Str) (setL "marker" x3 (setL "number" v (ρt))))) fun x11 => bnd (putAttrM x11 "position" x10) fun x_ => ret (none, (("self", a0) :: ("start", a1) :: ("end", a2) :: setL "marker" x3 (setL "number" v (ρt)) : Loc)) else bnd (opt (List.lookup ("marker" : Str) (setL "marker" x3 (setL "number" v (ρt))))) fun x12 => bnd (attrM x12 "position") fun x13 => bnd (cmpM .Gt x13 a1) fun c14 => if c14 then bnd (opt (List.lookup ("marker" : Str) (setL "marker" x3 (setL "number" v (ρt))))) fun x15 => bnd (putAttrM x15 "position" a1) fun x_ => ret (none, (("self", a0) :: ("start", a1) :: ("end", a2) :: setL "marker" x3 (setL "number" v (ρt)) : Loc)) else ret (none, (("self", a0) :: ("start", a1) :: ("end", a2) :: setL "marker" x3 (setL "number" v (ρt)) : Loc)) :=
  (forTurn_k C _ _ v _).trans (by kernel_rfl)
theorem t774 (C : CallT) (a0 a1 a2 v : V) (ρt : Loc) : forTurn C (fnOf 774).names (stOf 774 1) v (("world", a0) :: ("args", a1) :: ("buffer", a2) :: ρt : Loc) = bnd (opt (List.lookup ("value" : Str) (setL "value" v (ρt)))) fun x1 => bnd (callB "isinstance" [x1, (V.top 178)]) fun x2 => bnd (boolM x2) fun b3 => if b3 then bnd (opt (List.lookup ("value" : Str) (setL "value" v (ρt)))) fun x4 => bnd (attrM x4 "codes") fun x5 => bnd (callT "list" [x5]) fun x6 => bnd (C (V.top 557) [a2, x6]) fun x7 => ret (none, (("world", a0) :: ("args", a1) :: ("buffer", a2) :: setL "value" v (ρt) : Loc)) else bnd (opt (List.lookup ("value" : Str) (setL "value" v (ρt)))) fun x8 => bnd (C (V.top 662) [x8]) fun x9 => bnd (newM (.list [x9])) fun x10 => bnd (C (V.top 557) [a2, x10]) fun x11 => ret (none, (("world", a0) :: ("args", a1) :: ("buffer", a2) :: setL "value" v (ρt) : Loc)) :=
  (forTurn_k C _ _ v _).trans (by kernel_rfl)
theorem t1292 (C : CallT) (a0 a1 a2 v : V) (ρt : Loc) : forTurn C (fnOf 1292).names (stOf 1292 2) v (("own", a0) :: ("signs", a1) :: ("at", a2) :: ρt : Loc) = bnd (bnd (opt (List.lookup ("spot" : Str) (setL "spot" v (ρt)))) fun x1 => bnd (itemM x1 (V.int 0)) fun x2 => bnd (cmpM .Gt x2 a2) fun c3 => stepT .Or c3 ret (bnd (bnd (opt (List.lookup ("spot" : Str) (setL "spot" v (ρt)))) fun x4 => bnd (itemM x4 (V.int 0)) fun x5 => bnd (cmpM .Eq x5 a2) fun c6 => stepT .And c6 ret (bnd (opt (List.lookup ("spot" : Str) (setL "spot" v (ρt)))) fun x7 => bnd (itemM x7 (V.int 1)) fun x8 => bnd (boolM x8) fun b9 => stepT .And b9 ret (ret true))) fun c10 => stepT .Or c10 ret (ret false))) fun c11 => if c11 then bnd (opt (List.lookup ("spot" : Str) (setL "spot" v (ρt)))) fun x12 => bnd (itemM x12 (V.int 0)) fun x13 => bnd (callB "len" [a1]) fun x14 => bnd (binM .Add x13 x14) fun x15 => bnd (opt (List.lookup ("spot" : Str) (setL "spot" v (ρt)))) fun x16 => bnd (putItemM x16 (V.int 0) x15) fun x_ => ret (none, (("own", a0) :: ("signs", a1) :: ("at", a2) :: setL "spot" v (ρt) : Loc)) else ret (none, (("own", a0) :: ("signs", a1) :: ("at", a2) :: setL "spot" v (ρt) : Loc)) :=
  (forTurn_k C _ _ v _).trans (by kernel_rfl)
theorem t1299 (C : CallT) (a0 a1 a2 v : V) (ρt : Loc) : forTurn C (fnOf 1299).names (stOf 1299 1) v (("own", a0) :: ("low", a1) :: ("high", a2) :: ρt : Loc) = bnd (opt (List.lookup ("spot" : Str) (setL "spot" v (ρt)))) fun x1 => bnd (itemM x1 (V.int 0)) fun x2 => bnd (cmpM .Gt x2 a1) fun c3 => if c3 then bnd (opt (List.lookup ("spot" : Str) (setL "spot" v (ρt)))) fun x4 => bnd (itemM x4 (V.int 0)) fun x5 => bnd (binM .Sub a2 a1) fun x6 => bnd (binM .Sub x5 x6) fun x7 => bnd (callB "max" [a1, x7]) fun x8 => bnd (opt (List.lookup ("spot" : Str) (setL "spot" v (ρt)))) fun x9 => bnd (putItemM x9 (V.int 0) x8) fun x_ => ret (none, (("own", a0) :: ("low", a1) :: ("high", a2) :: setL "spot" v (ρt) : Loc)) else ret (none, (("own", a0) :: ("low", a1) :: ("high", a2) :: setL "spot" v (ρt) : Loc)) :=
  (forTurn_k C _ _ v _).trans (by kernel_rfl)
theorem t1330 (C : CallT) (a0 a1 a2 a3 a4 a5 v : V) (ρt : Loc) : forTurn C (fnOf 1330).names (stOf 1330 5) v (("script", a0) :: ("things", a1) :: ("world", a2) :: ("deck", a3) :: ("deeds", a4) :: ("own", a5) :: ρt : Loc) = bnd (C (V.top 1264) [a3, (V.int 5)]) fun x1 => bnd (opt (List.lookup ("way" : Str) (setL "way" x1 (setL "turn" v (ρt))))) fun x2 => bnd (cmpM .Eq x2 (V.int 0)) fun c3 => if c3 then bnd (newM (.list [(V.int 101)])) fun x4 => bnd (newM (.list [(V.int 102), (V.int 10)])) fun x5 => bnd (newM (.list [])) fun x6 => bnd (newM (.list [(V.int 103)])) fun x7 => bnd (binM .Mult x7 (V.int 3)) fun x8 => bnd (newM (.list [x4, x5, x6, x8])) fun x9 => bnd (C (V.top 1264) [a3, (V.int 4)]) fun x10 => bnd (itemM x9 x10) fun x11 => bnd (opt (List.lookup ("signs" : Str) (setL "signs" x11 (setL "way" x1 (setL "turn" v (ρt)))))) fun x12 => bnd (callT "list" [x12]) fun x13 => bnd (C (V.top 178) [x13]) fun x14 => bnd (newM (.list [x14])) fun x15 => bnd (C (V.top 1271) [a4, (V.str "insert"), a2, x15]) fun x16 => bnd (opt (List.lookup ("signs" : Str) (setL "signs" x11 (setL "way" x1 (setL "turn" v (ρt)))))) fun x17 => bnd (C (V.top 1292) [a5, x17]) fun x18 => bnd (newM (.tup [x16, x18])) fun x19 => bnd (bnd (opt (List.lookup ("given" : Str) (setL "given" x19 (setL "signs" x11 (setL "way" x1 (setL "turn" v (ρt))))))) fun x20 => bnd (itemM x20 (V.int 0)) fun x21 => bnd (opt (List.lookup ("given" : Str) (setL "given" x19 (setL "signs" x11 (setL "way" x1 (setL "turn" v (ρt))))))) fun x22 => bnd (itemM x22 (V.int 1)) fun x23 => bnd (cmpM .NotEq x21 x23) fun c24 => stepT .Or c24 ret (bnd (C (V.top 1325) [a5, a4, a2, a1]) fun x25 => bnd (boolM x25) fun b26 => stepT .Or (!b26) ret (ret false))) fun c27 => if c27 then ret (some (V.bool false), (("script", a0) :: ("things", a1) :: ("world", a2) :: ("deck", a3) :: ("deeds", a4) :: ("own", a5) :: setL "given" x19 (setL "signs" x11 (setL "way" x1 (setL "turn" v (ρt)))) : Loc)) else ret (none, (("script", a0) :: ("things", a1) :: ("world", a2) :: ("deck", a3) :: ("deeds", a4) :: ("own", a5) :: setL "given" x19 (setL "signs" x11 (setL "way" x1 (setL "turn" v (ρt)))) : Loc)) else bnd (opt (List.lookup ("way" : Str) (setL "way" x1 (setL "turn" v (ρt))))) fun x28 => bnd (cmpM .Eq x28 (V.int 1)) fun c29 => if c29 then bnd (C (V.top 1264) [a3, (V.int 4)]) fun x30 => bnd (binM .Sub x30 (V.int 1)) fun x31 => bnd (opt (List.lookup ("many" : Str) (setL "many" x31 (setL "way" x1 (setL "turn" v (ρt)))))) fun x32 => bnd (newM (.list [(V.int 120), x32])) fun x33 => bnd (C (V.top 1271) [a4, (V.str "insert-char"), a2, x33]) fun x34 => bnd (newM (.list [(V.int 120)])) fun x35 => bnd (opt (List.lookup ("many" : Str) (setL "many" x31 (setL "way" x1 (setL "turn" v (ρt)))))) fun x36 => bnd (callB "max" [(V.int 0), x36]) fun x37 => bnd (binM .Mult x35 x37) fun x38 => bnd (C (V.top 1292) [a5, x38]) fun x39 => bnd (newM (.tup [x34, x39])) fun x40 => bnd (bnd (opt (List.lookup ("given" : Str) (setL "given" x40 (setL "many" x31 (setL "way" x1 (setL "turn" v (ρt))))))) fun x41 => bnd (itemM x41 (V.int 0)) fun x42 => bnd (opt (List.lookup ("given" : Str) (setL "given" x40 (setL "many" x31 (setL "way" x1 (setL "turn" v (ρt))))))) fun x43 => bnd (itemM x43 (V.int 1)) fun x44 => bnd (cmpM .NotEq x42 x44) fun c45 => stepT .Or c45 ret (bnd (C (V.top 1325) [a5, a4, a2, a1]) fun x46 => bnd (boolM x46) fun b47 => stepT .Or (!b47) ret (ret false))) fun c48 => if c48 then ret (some (V.bool false), (("script", a0) :: ("things", a1) :: ("world", a2) :: ("deck", a3) :: ("deeds", a4) :: ("own", a5) :: setL "given" x40 (setL "many" x31 (setL "way" x1 (setL "turn" v (ρt)))) : Loc)) else ret (none, (("script", a0) :: ("things", a1) :: ("world", a2) :: ("deck", a3) :: ("deeds", a4) :: ("own", a5) :: setL "given" x40 (setL "many" x31 (setL "way" x1 (setL "turn" v (ρt)))) : Loc)) else bnd (opt (List.lookup ("way" : Str) (setL "way" x1 (setL "turn" v (ρt))))) fun x49 => bnd (cmpM .Eq x49 (V.int 2)) fun c50 => if c50 then bnd (C (V.top 1306) [a3, a5, a4, a2]) fun x51 => bnd (bnd (opt (List.lookup ("given" : Str) (setL "given" x51 (setL "way" x1 (setL "turn" v (ρt)))))) fun x52 => bnd (itemM x52 (V.int 0)) fun x53 => bnd (opt (List.lookup ("given" : Str) (setL "given" x51 (setL "way" x1 (setL "turn" v (ρt)))))) fun x54 => bnd (itemM x54 (V.int 1)) fun x55 => bnd (cmpM .NotEq x53 x55) fun c56 => stepT .Or c56 ret (bnd (C (V.top 1325) [a5, a4, a2, a1]) fun x57 => bnd (boolM x57) fun b58 => stepT .Or (!b58) ret (ret false))) fun c59 => if c59 then ret (some (V.bool false), (("script", a0) :: ("things", a1) :: ("world", a2) :: ("deck", a3) :: ("deeds", a4) :: ("own", a5) :: setL "given" x51 (setL "way" x1 (setL "turn" v (ρt))) : Loc)) else ret (none, (("script", a0) :: ("things", a1) :: ("world", a2) :: ("deck", a3) :: ("deeds", a4) :: ("own", a5) :: setL "given" x51 (setL "way" x1 (setL "turn" v (ρt))) : Loc)) else bnd (opt (List.lookup ("way" : Str) (setL "way" x1 (setL "turn" v (ρt))))) fun x60 => bnd (cmpM .Eq x60 (V.int 3)) fun c61 => if c61 then bnd (C (V.top 1313) [a3, a5, a4, a2, a1]) fun x62 => bnd (newM (.tup [x62, (V.bool true)])) fun x63 => bnd (bnd (opt (List.lookup ("given" : Str) (setL "given" x63 (setL "way" x1 (setL "turn" v (ρt)))))) fun x64 => bnd (itemM x64 (V.int 0)) fun x65 => bnd (opt (List.lookup ("given" : Str) (setL "given" x63 (setL "way" x1 (setL "turn" v (ρt)))))) fun x66 => bnd (itemM x66 (V.int 1)) fun x67 => bnd (cmpM .NotEq x65 x67) fun c68 => stepT .Or c68 ret (bnd (C (V.top 1325) [a5, a4, a2, a1]) fun x69 => bnd (boolM x69) fun b70 => stepT .Or (!b70) ret (ret false))) fun c71 => if c71 then ret (some (V.bool false), (("script", a0) :: ("things", a1) :: ("world", a2) :: ("deck", a3) :: ("deeds", a4) :: ("own", a5) :: setL "given" x63 (setL "way" x1 (setL "turn" v (ρt))) : Loc)) else ret (none, (("script", a0) :: ("things", a1) :: ("world", a2) :: ("deck", a3) :: ("deeds", a4) :: ("own", a5) :: setL "given" x63 (setL "way" x1 (setL "turn" v (ρt))) : Loc)) else bnd (C (V.top 1320) [a3, a5, a4, a2]) fun x72 => bnd (bnd (opt (List.lookup ("given" : Str) (setL "given" x72 (setL "way" x1 (setL "turn" v (ρt)))))) fun x73 => bnd (itemM x73 (V.int 0)) fun x74 => bnd (opt (List.lookup ("given" : Str) (setL "given" x72 (setL "way" x1 (setL "turn" v (ρt)))))) fun x75 => bnd (itemM x75 (V.int 1)) fun x76 => bnd (cmpM .NotEq x74 x76) fun c77 => stepT .Or c77 ret (bnd (C (V.top 1325) [a5, a4, a2, a1]) fun x78 => bnd (boolM x78) fun b79 => stepT .Or (!b79) ret (ret false))) fun c80 => if c80 then ret (some (V.bool false), (("script", a0) :: ("things", a1) :: ("world", a2) :: ("deck", a3) :: ("deeds", a4) :: ("own", a5) :: setL "given" x72 (setL "way" x1 (setL "turn" v (ρt))) : Loc)) else ret (none, (("script", a0) :: ("things", a1) :: ("world", a2) :: ("deck", a3) :: ("deeds", a4) :: ("own", a5) :: setL "given" x72 (setL "way" x1 (setL "turn" v (ρt))) : Loc)) :=
  (forTurn_k C _ _ v _).trans (by kernel_rfl)
theorem u1271 (C : CallT) (a0 a1 a2 a3 : V) : exSs C (fnOf 1271).names (tryBody (stOf 1271 0)) [("deeds", a0), ("name", a1), ("world", a2), ("args", a3)] = bnd (itemM a0 a1) fun x1 => if mayCall x1 then bnd (callV C x1 [a2, a3]) fun x2 => ret ((none : Option V), ([("deeds", a0), ("name", a1), ("world", a2), ("args", a3), ("value", x2)] : Loc)) else stuck :=
  (exSs_k C _ _ _).trans (by kernel_rfl)
theorem r1271 (C : CallT) (a0 a1 a2 a3 a4 : V) : (kSs C (fnOf 1271).names ((fnOf 1271).body.drop 1) [("deeds", a0), ("name", a1), ("world", a2), ("args", a3), ("value", a4)] fun r => ret (r.1.getD .none)) = bnd (callB "isinstance" [a4, (V.top 178)]) fun x1 => bnd (boolM x1) fun b2 => if b2 then bnd (attrM a4 "codes") fun x3 => bnd (newM (.list [(V.str "text"), x3])) fun x4 => ret x4 else bnd (bnd (cmpM .Is a4 (V.top 135)) fun c5 => if c5 then bnd (newM (.list [(V.str "nil")])) fun x6 => ret x6 else bnd (bnd (cmpM .Is a4 (V.top 138)) fun c7 => if c7 then bnd (newM (.list [(V.str "t")])) fun x8 => ret x8 else bnd (newM (.list [(V.str "told"), a4])) fun x9 => ret x9) fun x10 => ret x10) fun x11 => ret x11 := by kernel_rfl
set_option backward.match.sparseCases false
/-! ## The memory of the law -/
set_option genInjectivity false in
set_option genSizeOf false in
structure St where
  dk : Int
  pt : Int
  lo : Int
  hi : Int
  t1 : Int
  t2 : Int
  cells : List Int
  gs : Int
  ge : Int
  lm : Int
  ths : List Nat
  thl : List Nat
  mks : List (Int × Bool)
  op : Int
  ol : Int
  oh : Int
  txa : Nat
  txt : List Int
  sps : List Nat
  spv : List (Int × Bool)
noncomputable abbrev il (l : List Int) : MO := .list (l.map .int)
noncomputable def wF (lm : Int) : Loc := [("obarray", .ref 5), ("cells", .ref 8), ("variables", .ref 11), ("bare", .ref 15), ("current", .ref 19), ("machine", .none), ("last_marker", .int lm)]
noncomputable def bF (pt lo hi t1 t2 : Int) : Loc := [("number", .int 1), ("name", .str "b"), ("text", .ref 21), ("markers", .ref 26), ("point", .int pt), ("begv", .int lo), ("zv", .int hi), ("mark", .none), ("is_live", .bool true), ("is_read_only", .bool false), ("ticks", .int t1), ("codes_ticks", .int t2),
  ("saved_ticks", .int 1), ("listeners", .ref 28), ("undo", .none), ("props", .none), ("overlays", .none), ("locals", .none), ("syntax", .none), ("file", .none)]
noncomputable def gF (gs ge : Int) : Loc := [("room", .int 8), ("cells", .ref 25), ("gap_start", .int gs), ("gap_end", .int ge)]
noncomputable def oF (txa : Nat) (op ol oh : Int) : List (V × V) := [(.str "text", .ref txa), (.str "point", .int op), (.str "low", .int ol), (.str "high", .int oh), (.str "spots", .ref 166)]
noncomputable def rowsL : Int → List Nat → List (V × V)
  | _, [] => []
  | i, a :: r => (.int i, .ref a) :: rowsL (i + 1) r
noncomputable def deedsT : List (Str × Addr) := [("point", 683), ("point-min", 690), ("point-max", 697), ("goto-char", 704), ("char-after", 718), ("char-before", 725), ("following-char", 732), ("preceding-char", 739), ("bobp", 746), ("eobp", 753), ("bolp", 760), ("eolp", 767), ("buffer-size", 816),
  ("insert", 774), ("insert-char", 781), ("delete-region", 788), ("erase-buffer", 795), ("buffer-substring", 802), ("buffer-substring-no-properties", 802), ("buffer-string", 809), ("narrow-to-region", 823), ("widen", 830), ("buffer-modified-p", 837), ("set-buffer-modified-p", 844),
  ("make-marker", 851), ("point-marker", 858), ("copy-marker", 865), ("set-marker", 872), ("marker-position", 879), ("marker-buffer", 886), ("marker-insertion-type", 893), ("set-marker-insertion-type", 900)]
noncomputable def deedsL : List (V × V) := deedsT.map fun p => (V.str p.1, V.top p.2)
noncomputable def mkO (i : Int) (p : Int × Bool) : MO := .inst 290 [("number", .int i), ("advances", .bool p.2), ("buffer", .ref 19), ("position", .int p.1)]
noncomputable def spO (p : Int × Bool) : MO := .list [.int p.1, .bool p.2]
/-- the objects that stand from the start -/
structure Fix (ds : List Int) (st : St) (μ : Mem) : Prop where
  f2 : μ[2]? = some (il ds)
  f3 : μ[3]? = some (.list [.ref 2, .int st.dk])
  f4 : μ[4]? = some (.inst 1253 (wF st.lm))
  f17 : μ[17]? = some (.list (st.thl.map .ref))
  f19 : μ[19]? = some (.inst 464 (bF st.pt st.lo st.hi st.t1 st.t2))
  f21 : μ[21]? = some (.inst 108 (gF st.gs st.ge))
  f25 : μ[25]? = some (il st.cells)
  f26 : μ[26]? = some (.inst 358 [("rows", .ref 27)])
  f27 : μ[27]? = some (.dict (rowsL 1 st.ths))
  f28 : μ[28]? = some (.list [])
  f164 : μ[164]? = some (.dict deedsL)
  f166 : μ[166]? = some (.list (st.sps.map .ref))
  f167 : μ[167]? = some (.dict (oF st.txa st.op st.ol st.oh))
noncomputable abbrev St.L (st : St) : List Nat := st.ths ++ st.sps
/-- markers, spots, the law's text -/
structure Ev (ths : List Nat) (mks : List (Int × Bool)) (sps : List Nat) (spv : List (Int × Bool)) (txa : Nat) (txt : List Int) (μ : Mem) : Prop where
  mrk : ∀ {j a : Nat} {p : Int × Bool}, ths[j]? = some a → mks[j]? = some p → μ[a]? = some (mkO (1 + j) p)
  sp : ∀ {j a : Nat} {p : Int × Bool}, sps[j]? = some a → spv[j]? = some p → μ[a]? = some (spO p)
  tx : μ[txa]? = some (il txt)
  lm : ths.length = mks.length
  ls : sps.length = spv.length
  bigT : 168 ≤ txa
  big : ∀ a ∈ ths ++ sps, 168 ≤ a ∧ a < μ.length
  nd : (ths ++ sps).Nodup
  tn : txa ∉ ths ++ sps
  sz : ∀ o ∈ μ, szOk o = true
structure H (ds : List Int) (st : St) (μ : Mem) : Prop where
  fix : Fix ds st μ
  ev : Ev st.ths st.mks st.sps st.spv st.txa st.txt μ
def Free (L : List Nat) (a : Nat) : Prop := 168 ≤ a ∧ a ∉ L
structure Keep (L : List Nat) (μ μ' : Mem) : Prop where
  get : ∀ a o, Free L a → μ[a]? = some o → μ'[a]? = some o
  len : μ.length ≤ μ'.length
theorem get_lt {μ : Mem} {a : Nat} {o : MO} (h : μ[a]? = some o) : a < μ.length := (List.getElem?_eq_some_iff.mp h).1
theorem get_push {μ : Mem} {a : Nat} {o x : MO} (h : μ[a]? = some x) : (μ ++ [o])[a]? = some x := (List.getElem?_append_left (get_lt h)).trans h
theorem last_get {μ : Mem} (o : MO) : (μ ++ [o])[μ.length]? = some o := List.getElem?_concat_length
theorem nset {μ : Mem} {f a : Nat} {o x : MO} (hn : f ≠ a) (h : μ[a]? = some x) : (μ.set f o)[a]? = some x := (List.getElem?_set_ne hn).trans h
theorem nb {μ : Mem} {f a : Nat} {o x : MO} (h : μ[a]? = some x) (hn : Nat.beq f a = false := by rfl) : (μ.set f o)[a]? = some x := nset (Nat.ne_of_beq_eq_false hn) h
theorem yset {μ : Mem} {f : Nat} {o x : MO} (h : μ[f]? = some x) : (μ.set f o)[f]? = some o := List.getElem?_set_self (get_lt h)
theorem Keep.refl (L : List Nat) (μ : Mem) : Keep L μ μ := ⟨fun x_ x_ x_ h => h, Nat.le_refl _⟩
theorem Keep.trans {L : List Nat} {a b c : Mem} (x : Keep L a b) (y : Keep L b c) : Keep L a c := ⟨fun i o f h => y.get i o f (x.get i o f h), Nat.le_trans x.len y.len⟩
theorem len_push (μ : Mem) (o : MO) : μ.length ≤ (μ ++ [o]).length := List.length_append ▸ Nat.le_add_right _ _
theorem Keep.push (L : List Nat) (μ : Mem) (o : MO) : Keep L μ (μ ++ [o]) := ⟨fun x_ x_ x_ h => get_push h, len_push μ o⟩
theorem Keep.set {L : List Nat} {μ : Mem} {f : Nat} {o : MO} (hf : ∀ a, Free L a → f ≠ a) : Keep L μ (μ.set f o) := ⟨fun a x_ fr hm => nset (hf a fr) hm, List.length_set ▸ Nat.le_refl _⟩
theorem Keep.setF {L : List Nat} {μ : Mem} {f : Nat} {o : MO} (hf : f < 168) : Keep L μ (μ.set f o) := .set fun x_ fr e => Nat.not_le_of_lt hf (e ▸ fr.1)
theorem Keep.setL {L : List Nat} {μ : Mem} {f : Nat} {o : MO} (hf : f ∈ L) : Keep L μ (μ.set f o) := .set fun x_ fr e => fr.2 (e ▸ hf)
section
variable {ds : List Int} {st : St} {μ μ' : Mem}
theorem Fix.push (h : Fix ds st μ) (o : MO) : Fix ds st (μ ++ [o]) := ⟨get_push h.f2, get_push h.f3, get_push h.f4, get_push h.f17, get_push h.f19, get_push h.f21, get_push h.f25, get_push h.f26, get_push h.f27, get_push h.f28, get_push h.f164, get_push h.f166, get_push h.f167⟩
section
variable {ths : List Nat} {mks : List (Int × Bool)} {sps : List Nat} {spv : List (Int × Bool)} {txa : Nat} {txt : List Int}
theorem sz_push {μ : Mem} {o : MO} (h : ∀ o ∈ μ, szOk o = true) (hz : szOk o = true) : ∀ x ∈ μ ++ [o], szOk x = true := fun x hx => (List.mem_append.mp hx).elim (h x) fun e => List.mem_singleton.mp e ▸ hz
theorem sz_set {μ : Mem} {f : Nat} {o : MO} (h : ∀ o ∈ μ, szOk o = true) (hz : szOk o = true) : ∀ x ∈ μ.set f o, szOk x = true := fun x hx => (List.mem_or_eq_of_mem_set hx).elim (h x) fun e => e ▸ hz
theorem Ev.push (h : Ev ths mks sps spv txa txt μ) {o : MO} (hz : szOk o = true) : Ev ths mks sps spv txa txt (μ ++ [o]) := ⟨fun hj hp => get_push (h.mrk hj hp), fun hj hp => get_push (h.sp hj hp), get_push h.tx, h.lm, h.ls, h.bigT, fun a ha => ⟨(h.big a ha).1, Nat.lt_of_lt_of_le (h.big a ha).2 (len_push μ o)⟩, h.nd, h.tn, sz_push h.sz hz⟩
theorem Ev.mkn (h : Ev ths mks sps spv txa txt μ) {f : Nat} (hf : f < 168) {j a : Nat} (hq : ths[j]? = some a) : f ≠ a := fun e => Nat.not_le_of_lt hf (e ▸ (h.big _ (List.mem_append_left _ (List.mem_of_getElem? hq))).1)
theorem Ev.spn (h : Ev ths mks sps spv txa txt μ) {f : Nat} (hf : f < 168) {j a : Nat} (hq : sps[j]? = some a) : f ≠ a := fun e => Nat.not_le_of_lt hf (e ▸ (h.big _ (List.mem_append_right _ (List.mem_of_getElem? hq))).1)
theorem big_set {L : List Nat} {μ : Mem} {f : Nat} {o : MO} (h : ∀ a ∈ L, 168 ≤ a ∧ a < μ.length) : ∀ a ∈ L, 168 ≤ a ∧ a < (μ.set f o).length := by rw [List.length_set]; exact h
/-- one of the fixed objects is stored -/
theorem Ev.setF (h : Ev ths mks sps spv txa txt μ) {f : Nat} {o : MO} (hf : Nat.blt f 168 = true) (hz : szOk o = true) : Ev ths mks sps spv txa txt (μ.set f o) :=
  have hf := Nat.le_of_ble_eq_true hf
  ⟨fun hj hp => nset (h.mkn hf hj) (h.mrk hj hp), fun hj hp => nset (h.spn hf hj) (h.sp hj hp), nset (fun e => Nat.not_le_of_lt hf (e ▸ h.bigT)) h.tx, h.lm, h.ls, h.bigT, big_set h.big, h.nd, h.tn, sz_set h.sz hz⟩
end
theorem H.push (h : H ds st μ) {o : MO} (hz : szOk o = true) : H ds st (μ ++ [o]) := ⟨h.fix.push o, h.ev.push hz⟩
noncomputable abbrev St.sBuf (st : St) (pt lo hi t1 t2 : Int) : St := { st with pt := pt, lo := lo, hi := hi, t1 := t1, t2 := t2 }
noncomputable abbrev St.sGap (st : St) (cells : List Int) (gs ge : Int) : St := { st with cells := cells, gs := gs, ge := ge }
noncomputable abbrev St.sDk (st : St) (dk : Int) : St := { st with dk := dk }
noncomputable abbrev St.sLm (st : St) (lm : Int) : St := { st with lm := lm }
noncomputable abbrev St.sOwn (st : St) (op ol oh : Int) : St := { st with op := op, ol := ol, oh := oh }
noncomputable abbrev St.sMk (st : St) (mks : List (Int × Bool)) : St := { st with mks := mks }
noncomputable abbrev St.sSp (st : St) (spv : List (Int × Bool)) : St := { st with spv := spv }
noncomputable abbrev St.sTx (st : St) (a : Nat) (l : List Int) : St := { st with txa := a, txt := l }
theorem H.buf (h : H ds st μ) (pt lo hi t1 t2 : Int) : H ds (st.sBuf pt lo hi t1 t2) (μ.set 19 (.inst 464 (bF pt lo hi t1 t2))) :=
  have f := h.fix
  ⟨⟨nb f.f2, nb f.f3, nb f.f4, nb f.f17, yset f.f19, nb f.f21, nb f.f25, nb f.f26, nb f.f27, nb f.f28, nb f.f164, nb f.f166, nb f.f167⟩, h.ev.setF rfl rfl⟩
theorem H.gap (h : H ds st μ) (gs ge : Int) : H ds (st.sGap st.cells gs ge) (μ.set 21 (.inst 108 (gF gs ge))) :=
  have f := h.fix
  ⟨⟨nb f.f2, nb f.f3, nb f.f4, nb f.f17, nb f.f19, yset f.f21, nb f.f25, nb f.f26, nb f.f27, nb f.f28, nb f.f164, nb f.f166, nb f.f167⟩, h.ev.setF rfl rfl⟩
theorem H.cel (h : H ds st μ) {c : List Int} (hz : szOk (il c) = true) : H ds (st.sGap c st.gs st.ge) (μ.set 25 (il c)) :=
  have f := h.fix
  ⟨⟨nb f.f2, nb f.f3, nb f.f4, nb f.f17, nb f.f19, nb f.f21, yset f.f25, nb f.f26, nb f.f27, nb f.f28, nb f.f164, nb f.f166, nb f.f167⟩, h.ev.setF rfl hz⟩
theorem H.dck (h : H ds st μ) (dk : Int) : H ds (st.sDk dk) (μ.set 3 (.list [.ref 2, .int dk])) :=
  have f := h.fix
  ⟨⟨nb f.f2, yset f.f3, nb f.f4, nb f.f17, nb f.f19, nb f.f21, nb f.f25, nb f.f26, nb f.f27, nb f.f28, nb f.f164, nb f.f166, nb f.f167⟩, h.ev.setF rfl rfl⟩
theorem H.wld (h : H ds st μ) (lm : Int) : H ds (st.sLm lm) (μ.set 4 (.inst 1253 (wF lm))) :=
  have f := h.fix
  ⟨⟨nb f.f2, nb f.f3, yset f.f4, nb f.f17, nb f.f19, nb f.f21, nb f.f25, nb f.f26, nb f.f27, nb f.f28, nb f.f164, nb f.f166, nb f.f167⟩, h.ev.setF rfl rfl⟩
theorem H.own (h : H ds st μ) (op ol oh : Int) : H ds (st.sOwn op ol oh) (μ.set 167 (.dict (oF st.txa op ol oh))) :=
  have f := h.fix
  ⟨⟨nb f.f2, nb f.f3, nb f.f4, nb f.f17, nb f.f19, nb f.f21, nb f.f25, nb f.f26, nb f.f27, nb f.f28, nb f.f164, nb f.f166, yset f.f167⟩, h.ev.setF rfl rfl⟩
theorem H.len (h : H ds st μ) : 167 < μ.length := get_lt h.fix.f167
theorem H.lt (h : H ds st μ) {a : Nat} (ha : a ∈ st.L) : a < μ.length := (h.ev.big a ha).2
theorem H.le (h : H ds st μ) {a : Nat} {l : List Int} (hm : μ[a]? = some (il l)) : l.length ≤ 1000 := (List.length_map (f := V.int) (as := l)) ▸ of_decide_eq_true (h.ev.sz _ (List.mem_of_getElem? hm))
theorem H.free (h : H ds st μ) : Free st.L μ.length := ⟨h.len, fun hm => Nat.lt_irrefl _ (h.lt hm)⟩
theorem H.freeT (h : H ds st μ) : Free st.L st.txa := ⟨h.ev.bigT, h.ev.tn⟩
theorem H.txLt (h : H ds st μ) : st.txa < μ.length := get_lt h.ev.tx
theorem H.bigM (h : H ds st μ) {a : Nat} (ha : a ∈ st.ths) : 168 ≤ a := (h.ev.big a (List.mem_append_left _ ha)).1
theorem H.bigS (h : H ds st μ) {a : Nat} (ha : a ∈ st.sps) : 168 ≤ a := (h.ev.big a (List.mem_append_right _ ha)).1
end
/-! ## What is read of it -/
section
variable {α : Type} {ds : List Int} {st : St} {μ μ' : Mem}
theorem obind {α β : Type} {o : Option α} {f : α → Option β} {x : α} {y : β} (h : o = some x) (h2 : f x = some y) : o.bind f = some y := by rw [h]; exact h2
theorem at_bnd {β : Type} {a : Nat} {o : MO} {f : MO → Option β} {v : β} (hm : μ[a]? = some o) (h : f o = some v) (K : β → Mx α) : bnd (rdM fun μ => (refO (.ref a)).bind fun a => μ[a]?.bind f) K μ = K v μ :=
  rd_bnd (f := fun μ => (refO (.ref a)).bind fun a => μ[a]?.bind f) ((congrArg (fun x => Option.bind x f) hm).trans h) K
theorem attr_bnd {a : Nat} {C : Addr} {fs : Loc} {x : Str} {v : V} (hm : μ[a]? = some (.inst C fs)) (hk : (fieldsT C).contains x = true) (hv : fs.lookup x = some v) (hp : plainV v = true) (K : V → Mx α) : bnd (attrM (.ref a) x) K μ = K v μ :=
  at_bnd hm ((if_pos hk).trans (obind hv (if_pos hp))) K
theorem sel_bnd {a : Nat} {C : Addr} {fs : Loc} {x : Str} {f : Addr} (hm : μ[a]? = some (.inst C fs)) (hk : methT C x = some f) (hv : fs.lookup x = none) (K : V → Mx α) : bnd (selM (.ref a) x) K μ = K (.top f) μ :=
  at_bnd hm (obind hk (if_pos (hv ▸ rfl))) K
theorem len_bnd {a : Nat} {l : List Int} (hm : μ[a]? = some (il l)) (K : V → Mx α) : bnd (callB "len" [.ref a]) K μ = K (.int l.length) μ := by
  refine bnd_val ?_
  show bnd (getM a) _ μ = _
  refine (bnd_val (a := il l) (μ' := μ) (rdM_val hm)).trans ?_
  show ret (V.int ((l.map V.int).length : Int)) μ = _
  rw [List.length_map]; rfl
theorem item_bnd {a : Nat} {xs : List V} {i : Int} {v : V} (hm : μ[a]? = some (.list xs)) (hi : 0 ≤ i ∧ small i = true) (hv : xs[i.toNat]? = some v) (K : V → Mx α) : bnd (itemM (.ref a) (.int i)) K μ = K v μ :=
  at_bnd hm ((if_pos hi).trans hv) K
theorem ditem_bnd {a : Nat} {es : List (V × V)} {k : Str} {v : V} (hm : μ[a]? = some (.dict es)) (hv : getD (.str k) es = some v) (K : V → Mx α) : bnd (itemM (.ref a) (.str k)) K μ = K v μ := at_bnd hm (show itemIn (.str k) (.dict es) = some v from hv) K
theorem ditem_int {a : Nat} {es : List (V × V)} {k : Int} {v : V} (hm : μ[a]? = some (.dict es)) (hv : getD (.int k) es = some v) (K : V → Mx α) : bnd (itemM (.ref a) (.int k)) K μ = K v μ := at_bnd hm (show itemIn (.int k) (.dict es) = some v from hv) K
theorem new_bnd {o : MO} (hz : szOk o = true) (K : V → Mx α) : bnd (newM o) K μ = K (.ref μ.length) (μ ++ [o]) := bnd_val (by unfold newM; rw [if_pos hz])
theorem listOf_bnd {a : Nat} {xs : List V} (hm : μ[a]? = some (.list xs)) (K : Nat × List V → Mx α) : bnd (listOfM (.ref a)) K μ = K (a, xs) μ :=
  rd_bnd (f := fun μ => (refO (.ref a)).bind fun a => (μ[a]?.bind listO).map fun xs => (a, xs)) (congrArg (fun x => (Option.bind x listO).map fun xs => (a, xs)) hm) K
theorem tup_bnd {a : Nat} {xs : List V} (hm : μ[a]? = some (.tup xs)) (K : List V → Mx α) : bnd (tupM (.ref a)) K μ = K xs μ := at_bnd (f := tupO) hm rfl K
theorem rd0 (h : H ds st μ) (K : V → Mx α) : bnd (attrM (.ref 19) "text") K μ = K (.ref 21) μ := attr_bnd h.fix.f19 (by kernel_rfl) (by kernel_rfl) (by kernel_rfl) K
theorem rd1 (h : H ds st μ) (K : V → Mx α) : bnd (attrM (.ref 19) "markers") K μ = K (.ref 26) μ := attr_bnd h.fix.f19 (by kernel_rfl) (by kernel_rfl) (by kernel_rfl) K
theorem rd2 (h : H ds st μ) (K : V → Mx α) : bnd (attrM (.ref 19) "point") K μ = K (.int st.pt) μ := attr_bnd h.fix.f19 (by kernel_rfl) (by kernel_rfl) (by kernel_rfl) K
theorem rd3 (h : H ds st μ) (K : V → Mx α) : bnd (attrM (.ref 19) "begv") K μ = K (.int st.lo) μ := attr_bnd h.fix.f19 (by kernel_rfl) (by kernel_rfl) (by kernel_rfl) K
theorem rd4 (h : H ds st μ) (K : V → Mx α) : bnd (attrM (.ref 19) "zv") K μ = K (.int st.hi) μ := attr_bnd h.fix.f19 (by kernel_rfl) (by kernel_rfl) (by kernel_rfl) K
theorem rd5 (h : H ds st μ) (K : V → Mx α) : bnd (attrM (.ref 19) "is_read_only") K μ = K (.bool false) μ := attr_bnd h.fix.f19 (by kernel_rfl) (by kernel_rfl) (by kernel_rfl) K
theorem rd6 (h : H ds st μ) (K : V → Mx α) : bnd (attrM (.ref 19) "ticks") K μ = K (.int st.t1) μ := attr_bnd h.fix.f19 (by kernel_rfl) (by kernel_rfl) (by kernel_rfl) K
theorem rd7 (h : H ds st μ) (K : V → Mx α) : bnd (attrM (.ref 19) "listeners") K μ = K (.ref 28) μ := attr_bnd h.fix.f19 (by kernel_rfl) (by kernel_rfl) (by kernel_rfl) K
theorem rd8 (h : H ds st μ) (K : V → Mx α) : bnd (attrM (.ref 19) "undo") K μ = K (.none) μ := attr_bnd h.fix.f19 (by kernel_rfl) (by kernel_rfl) (by kernel_rfl) K
theorem rd9 (h : H ds st μ) (K : V → Mx α) : bnd (attrM (.ref 19) "props") K μ = K (.none) μ := attr_bnd h.fix.f19 (by kernel_rfl) (by kernel_rfl) (by kernel_rfl) K
theorem rd10 (h : H ds st μ) (K : V → Mx α) : bnd (attrM (.ref 19) "overlays") K μ = K (.none) μ := attr_bnd h.fix.f19 (by kernel_rfl) (by kernel_rfl) (by kernel_rfl) K
theorem rd11 (h : H ds st μ) (K : V → Mx α) : bnd (attrM (.ref 21) "cells") K μ = K (.ref 25) μ := attr_bnd h.fix.f21 (by kernel_rfl) (by kernel_rfl) (by kernel_rfl) K
theorem rd12 (h : H ds st μ) (K : V → Mx α) : bnd (attrM (.ref 21) "gap_start") K μ = K (.int st.gs) μ := attr_bnd h.fix.f21 (by kernel_rfl) (by kernel_rfl) (by kernel_rfl) K
theorem rd13 (h : H ds st μ) (K : V → Mx α) : bnd (attrM (.ref 21) "gap_end") K μ = K (.int st.ge) μ := attr_bnd h.fix.f21 (by kernel_rfl) (by kernel_rfl) (by kernel_rfl) K
theorem rd14 (h : H ds st μ) (K : V → Mx α) : bnd (attrM (.ref 21) "room") K μ = K (.int 8) μ := attr_bnd h.fix.f21 (by kernel_rfl) (by kernel_rfl) (by kernel_rfl) K
theorem rd15 (h : H ds st μ) (K : V → Mx α) : bnd (attrM (.ref 26) "rows") K μ = K (.ref 27) μ := attr_bnd h.fix.f26 (by kernel_rfl) (by kernel_rfl) (by kernel_rfl) K
theorem rd16 (h : H ds st μ) (K : V → Mx α) : bnd (attrM (.ref 4) "current") K μ = K (.ref 19) μ := attr_bnd h.fix.f4 (by kernel_rfl) (by kernel_rfl) (by kernel_rfl) K
theorem rd17 (h : H ds st μ) (K : V → Mx α) : bnd (attrM (.ref 4) "last_marker") K μ = K (.int st.lm) μ := attr_bnd h.fix.f4 (by kernel_rfl) (by kernel_rfl) (by kernel_rfl) K
theorem rd18 (h : H ds st μ) (K : V → Mx α) : bnd (selM (.ref 21) "size") K μ = K (.top 42) μ := sel_bnd h.fix.f21 (by kernel_rfl) (by kernel_rfl) K
theorem rd19 (h : H ds st μ) (K : V → Mx α) : bnd (selM (.ref 21) "code") K μ = K (.top 49) μ := sel_bnd h.fix.f21 (by kernel_rfl) (by kernel_rfl) K
theorem rd20 (h : H ds st μ) (K : V → Mx α) : bnd (selM (.ref 21) "codes") K μ = K (.top 56) μ := sel_bnd h.fix.f21 (by kernel_rfl) (by kernel_rfl) K
theorem rd21 (h : H ds st μ) (K : V → Mx α) : bnd (selM (.ref 21) "move_gap") K μ = K (.top 63) μ := sel_bnd h.fix.f21 (by kernel_rfl) (by kernel_rfl) K
theorem rd22 (h : H ds st μ) (K : V → Mx α) : bnd (selM (.ref 21) "widen_gap") K μ = K (.top 70) μ := sel_bnd h.fix.f21 (by kernel_rfl) (by kernel_rfl) K
theorem rd23 (h : H ds st μ) (K : V → Mx α) : bnd (selM (.ref 21) "insert") K μ = K (.top 77) μ := sel_bnd h.fix.f21 (by kernel_rfl) (by kernel_rfl) K
theorem rd24 (h : H ds st μ) (K : V → Mx α) : bnd (selM (.ref 21) "delete") K μ = K (.top 84) μ := sel_bnd h.fix.f21 (by kernel_rfl) (by kernel_rfl) K
theorem rd25 (h : H ds st μ) (K : V → Mx α) : bnd (selM (.ref 26) "numbers") K μ = K (.top 313) μ := sel_bnd h.fix.f26 (by kernel_rfl) (by kernel_rfl) K
theorem rd26 (h : H ds st μ) (K : V → Mx α) : bnd (selM (.ref 26) "put") K μ = K (.top 320) μ := sel_bnd h.fix.f26 (by kernel_rfl) (by kernel_rfl) K
theorem rd27 (h : H ds st μ) (K : V → Mx α) : bnd (selM (.ref 26) "inserted") K μ = K (.top 341) μ := sel_bnd h.fix.f26 (by kernel_rfl) (by kernel_rfl) K
theorem rd28 (h : H ds st μ) (K : V → Mx α) : bnd (selM (.ref 26) "deleted") K μ = K (.top 348) μ := sel_bnd h.fix.f26 (by kernel_rfl) (by kernel_rfl) K
theorem rd29 (h : H ds st μ) (K : V → Mx α) : bnd (selM (.ref 19) "begin") K μ = K (.top 398) μ := sel_bnd h.fix.f19 (by kernel_rfl) (by kernel_rfl) K
theorem rd30 (h : H ds st μ) (K : V → Mx α) : bnd (selM (.ref 19) "end") K μ = K (.top 405) μ := sel_bnd h.fix.f19 (by kernel_rfl) (by kernel_rfl) K
theorem rd31 (h : H ds st μ) (K : V → Mx α) : bnd (selM (.ref 19) "size") K μ = K (.top 412) μ := sel_bnd h.fix.f19 (by kernel_rfl) (by kernel_rfl) K
theorem rd32 (h : H ds st μ) (K : V → Mx α) : bnd (selM (.ref 19) "code_at") K μ = K (.top 419) μ := sel_bnd h.fix.f19 (by kernel_rfl) (by kernel_rfl) K
theorem rd33 (h : H ds st μ) (K : V → Mx α) : bnd (selM (.ref 19) "codes") K μ = K (.top 426) μ := sel_bnd h.fix.f19 (by kernel_rfl) (by kernel_rfl) K
theorem rd34 (h : H ds st μ) (K : V → Mx α) : bnd (selM (.ref 19) "goto") K μ = K (.top 433) μ := sel_bnd h.fix.f19 (by kernel_rfl) (by kernel_rfl) K
theorem rd35 (h : H ds st μ) (K : V → Mx α) : bnd (selM (.ref 19) "touch") K μ = K (.top 461) μ := sel_bnd h.fix.f19 (by kernel_rfl) (by kernel_rfl) K
theorem rd36 (h : H ds st μ) (K : V → Mx α) : bnd (selM (.ref 4) "fresh_marker") K μ = K (.top 1243) μ := sel_bnd h.fix.f4 (by kernel_rfl) (by kernel_rfl) K
theorem rd37 (h : H ds st μ) (K : V → Mx α) : bnd (callB "len" [.ref 25]) K μ = K (.int st.cells.length) μ := len_bnd h.fix.f25 K
theorem rd38 (h : H ds st μ) (K : V → Mx α) : bnd (callB "len" [.ref 2]) K μ = K (.int ds.length) μ := len_bnd h.fix.f2 K
theorem rd39 (h : H ds st μ) (K : V → Mx α) : bnd (itemM (.ref 3) (.int 0)) K μ = K (.ref 2) μ := item_bnd h.fix.f3 (by decide) (by kernel_rfl) K
theorem rd40 (h : H ds st μ) (K : V → Mx α) : bnd (itemM (.ref 3) (.int 1)) K μ = K (.int st.dk) μ := item_bnd h.fix.f3 (by decide) (by kernel_rfl) K
theorem rd41 (h : H ds st μ) (K : V → Mx α) : bnd (itemM (.ref 167) (.str "text")) K μ = K (.ref st.txa) μ := ditem_bnd h.fix.f167 (by kernel_rfl) K
theorem rd42 (h : H ds st μ) (K : V → Mx α) : bnd (itemM (.ref 167) (.str "point")) K μ = K (.int st.op) μ := ditem_bnd h.fix.f167 (by kernel_rfl) K
theorem rd43 (h : H ds st μ) (K : V → Mx α) : bnd (itemM (.ref 167) (.str "low")) K μ = K (.int st.ol) μ := ditem_bnd h.fix.f167 (by kernel_rfl) K
theorem rd44 (h : H ds st μ) (K : V → Mx α) : bnd (itemM (.ref 167) (.str "high")) K μ = K (.int st.oh) μ := ditem_bnd h.fix.f167 (by kernel_rfl) K
theorem rd45 (h : H ds st μ) (K : V → Mx α) : bnd (itemM (.ref 167) (.str "spots")) K μ = K (.ref 166) μ := ditem_bnd h.fix.f167 (by kernel_rfl) K
end
/-! ## Steps that end well -/
def Go {α : Type} (x : Option (Out α × Mem)) (Q : α → Mem → Prop) : Prop := ∃ a μ', x = some (.ok a, μ') ∧ Q a μ'
def Ex {α : Type} (x : Option (Out α × Mem)) (s : V) (Q : Mem → Prop) : Prop := ∃ d μ', x = some (.exc s d, μ') ∧ Q μ'
section
variable {α β γ : Type} {ds : List Int} {st : St} {μ μ' : Mem} {Q : β → Mem → Prop} {K : α → Mx β}
theorem go_ret {b : β} (h : Q b μ) : Go (ret b μ) Q := ⟨b, μ, rfl, h⟩
theorem go_eq {x y : Option (Out β × Mem)} (e : x = y) (h : Go y Q) : Go x Q := e ▸ h
theorem go_c {f g : Mx β} (e : f = g) (h : Go (g μ) Q) : Go (f μ) Q := e ▸ h
theorem go_b {f : Mx α} (e : Go (f μ) fun v μ' => Go (K v μ') Q) : Go (bnd f K μ) Q := by
  refine El_eea e fun a μ' e r => ?_
  rw [bnd_val e]; exact r
theorem go_m {x : Option (Out β × Mem)} {R : β → Mem → Prop} (e : Go x R) (k : ∀ a μ', R a μ' → Q a μ') : Go x Q := by
  refine El_eea e fun a μ' e r => ?_
  exact ⟨a, μ', e, k a μ' r⟩
theorem go_t {c : Prop} {_ : Decidable c} {f g : Mx β} (h : c) (k : Go (f μ) Q) : Go ((if c then f else g) μ) Q := by rw [if_pos h]; exact k
theorem go_f {c : Prop} {_ : Decidable c} {f g : Mx β} (h : ¬ c) (k : Go (g μ) Q) : Go ((if c then f else g) μ) Q := by rw [if_neg h]; exact k
theorem go_td {c : Prop} {_ : Decidable c} {f g : Mx β} (h : c) (k : Go (f μ) Q) : Go ((if decide c = true then f else g) μ) Q := go_t (decide_eq_true h) k
theorem go_fd {c : Prop} {_ : Decidable c} {f g : Mx β} (h : ¬ c) (k : Go (g μ) Q) : Go ((if decide c = true then f else g) μ) Q := go_f (by rw [decide_eq_false h]; exact Bool.false_ne_true) k
theorem go_dec {c : Prop} {_ : Decidable c} {f g : Mx β} (h1 : c → Go (f μ) Q) (h2 : ¬ c → Go (g μ) Q) : Go ((if decide c = true then f else g) μ) Q := by
  by_cases h : c
  · exact go_td h (h1 h)
  · exact go_fd h (h2 h)
theorem go_tt {f g : Mx β} (k : Go (f μ) Q) : Go ((if true = true then f else g) μ) Q := k
theorem go_ff {f g : Mx β} (k : Go (g μ) Q) : Go ((if false = true then f else g) μ) Q := k
theorem go_as {f : Mx γ} {F : γ → Mx α} (k : Go (bnd f (fun a => bnd (F a) K) μ) Q) : Go (bnd (bnd f F) K μ) Q := by rw [bnd_assoc]; exact k
theorem go_bt {c : Prop} {_ : Decidable c} {f g : Mx α} (h : c) (k : Go (bnd f K μ) Q) : Go (bnd (if c then f else g) K μ) Q := by rw [if_pos h]; exact k
theorem go_bf {c : Prop} {_ : Decidable c} {f g : Mx α} (h : ¬ c) (k : Go (bnd g K μ) Q) : Go (bnd (if c then f else g) K μ) Q := by rw [if_neg h]; exact k
theorem go_i1 {b : Bool} {f g : Mx β} (h : b = true) (k : Go (f μ) Q) : Go ((if b = true then f else g) μ) Q := go_t h k
theorem go_i0 {b : Bool} {f g : Mx β} (h : b = false) (k : Go (g μ) Q) : Go ((if b = true then f else g) μ) Q := go_f (h ▸ Bool.false_ne_true) k
theorem go_j1 {b : Bool} {f g : Mx α} (h : b = true) (k : Go (bnd f K μ) Q) : Go (bnd (if b = true then f else g) K μ) Q := go_bt h k
theorem go_j0 {b : Bool} {f g : Mx α} (h : b = false) (k : Go (bnd g K μ) Q) : Go (bnd (if b = true then f else g) K μ) Q := go_bf (h ▸ Bool.false_ne_true) k
theorem go_o1 {b : Bool} {F : Bool → Mx α} {r : Mx α} (h : b = true) (k : Go (bnd (F true) K μ) Q) : Go (bnd (stepT .Or b F r) K μ) Q := by subst h; exact k
theorem go_o0 {b : Bool} {F : Bool → Mx α} {r : Mx α} (h : b = false) (k : Go (bnd r K μ) Q) : Go (bnd (stepT .Or b F r) K μ) Q := by subst h; exact k
theorem go_a1 {b : Bool} {F : Bool → Mx α} {r : Mx α} (h : b = true) (k : Go (bnd r K μ) Q) : Go (bnd (stepT .And b F r) K μ) Q := by subst h; exact k
theorem go_a0 {b : Bool} {F : Bool → Mx α} {r : Mx α} (h : b = false) (k : Go (bnd (F false) K μ) Q) : Go (bnd (stepT .And b F r) K μ) Q := by subst h; exact k
theorem go_O1 {b : Bool} {F : Bool → Mx β} {r : Mx β} (h : b = true) (k : Go (F true μ) Q) : Go (stepT .Or b F r μ) Q := by subst h; exact k
theorem go_O0 {b : Bool} {F : Bool → Mx β} {r : Mx β} (h : b = false) (k : Go (r μ) Q) : Go (stepT .Or b F r μ) Q := by subst h; exact k
theorem go_d {f : Mx α} {v : α} (e : Go (f μ) fun a m => a = v ∧ m = μ) (k : Go (K v μ) Q) : Go (bnd f K μ) Q := by
  obtain ⟨a, μ', e, rfl, rfl⟩ := e
  rw [bnd_val e]; exact k
theorem go_fin {f : Mx α} {v : α} (g : ∀ {Q : α → Mem → Prop}, Q v μ → Go (f μ) Q) (K : α → Mx β) : bnd f K μ = K v μ := by
  refine El_eeaa (g (Q := fun a m => a = v ∧ m = μ) ⟨rfl, rfl⟩) fun a μ' e r_3 r_4 => ?_; (first | subst r_3 | cases r_3); (first | subst r_4 | cases r_4)
  exact bnd_val e
theorem dt {c : Prop} {_ : Decidable c} (h : c) : decide c = true := decide_eq_true h
theorem df {c : Prop} {_ : Decidable c} (h : ¬ c) : decide c = false := decide_eq_false h
theorem nt {c : Prop} {_ : Decidable c} (h : ¬ c) : (!decide c) = true := by rw [decide_eq_false h]; rfl
theorem nf {c : Prop} {_ : Decidable c} (h : c) : (!decide c) = false := by rw [decide_eq_true h]; rfl
/-- a call: a def's program -/
theorem callF {n : Nat} {a : Addr} {args : List V} (h : (fnAt a).isSome = true) : callN (n + 1) (.top a) args = runFn (callN n) (fnOf a) args := by
  refine callN_fn ?_
  unfold fnOf
  cases h2 : fnAt a with
  | none => rw [h2] at h; cases h
  | some f => rfl
theorem callS {n : Nat} {a : Addr} {args : List V} {p : Mx V} (e : runFn (callN n) (fnOf a) args = p) (h : (fnAt a).isSome = true) : callN (n + 1) (.top a) args = p := (callF h).trans e
theorem go_call {C : CallT} {a : Addr} {l : List V} {K : V → Mx β} (k : Go (bnd (C (.top a) l) K μ) Q) : Go (bnd (callV C (.top a) l) K μ) Q := k
theorem go_cbi {C : CallT} {a : String} {l : List V} {K : V → Mx β} (k : Go (bnd (callB a l) K μ) Q) : Go (bnd (callV C (.bi a) l) K μ) Q := k
/-! what raises -/
variable {s : V} {E : Mem → Prop}
theorem ex_eq {x y : Option (Out β × Mem)} (e : x = y) (h : Ex y s E) : Ex x s E := e ▸ h
theorem ex_c {f g : Mx β} (e : f = g) (h : Ex (g μ) s E) : Ex (f μ) s E := e ▸ h
theorem ex_bnd {f : Mx α} (e : Ex (f μ) s E) : Ex (bnd f K μ) s E := by
  refine El_eea e fun d μ' e q => ?_
  refine ⟨d, μ', ?_, q⟩
  unfold bnd; rw [e]
theorem ex_go {f : Mx α} (e : Go (f μ) fun v μ' => Ex (K v μ') s E) : Ex (bnd f K μ) s E := by
  refine El_eea e fun a μ' e r => ?_
  rw [bnd_val e]; exact r
theorem ex_t {c : Prop} {_ : Decidable c} {f g : Mx β} (h : c) (k : Ex (f μ) s E) : Ex ((if c then f else g) μ) s E := by rw [if_pos h]; exact k
theorem ex_f {c : Prop} {_ : Decidable c} {f g : Mx β} (h : ¬ c) (k : Ex (g μ) s E) : Ex ((if c then f else g) μ) s E := by rw [if_neg h]; exact k
/-! new objects, stored fields -/
theorem st_new {o : MO} {K : V → Mx β} (h : H ds st μ) (hz : szOk o = true) (k : ∀ a μ', H ds st μ' → Keep st.L μ μ' → Free st.L a → μ'[a]? = some o → Go (K (.ref a) μ') Q) : Go (bnd (newM o) K μ) Q :=
  go_eq (new_bnd hz K) (k μ.length _ (h.push hz) (Keep.push _ _ _) h.free (last_get o))
theorem putA_bnd {a : Nat} {C : Addr} {fs : Loc} {x : Str} {v : V} (h0 : a ≠ 0) (hm : μ[a]? = some (.inst C fs)) (hk : (fieldsT C).contains x = true) (hz : szOk (.inst C (setL x v fs)) = true) (K : Unit → Mx α) : bnd (putAttrM (.ref a) x v) K μ = K () (μ.set a (.inst C (setL x v fs))) := by
  refine bnd_val ?_
  show bnd (getM a) _ μ = _
  refine (bnd_val (a := .inst C fs) (μ' := μ) (rdM_val hm)).trans ?_
  exact (congrFun (if_pos hk) μ).trans (if_pos ⟨hz, h0⟩)
theorem putD_bnd {a : Nat} {es : List (V × V)} {k v : V} (h0 : a ≠ 0) (hm : μ[a]? = some (.dict es)) (hk : kindKey k es = true) (hz : szOk (.dict (setD k v es)) = true) (K : Unit → Mx α) : bnd (putItemM (.ref a) k v) K μ = K () (μ.set a (.dict (setD k v es))) := by
  refine bnd_val ?_
  show bnd (getM a) _ μ = _
  refine (bnd_val (a := .dict es) (μ' := μ) (rdM_val hm)).trans ?_
  exact (congrFun (if_pos hk) μ).trans (if_pos ⟨hz, h0⟩)
theorem putI_bnd {a : Nat} {xs : List V} {k : Int} {v : V} (h0 : a ≠ 0) (hm : μ[a]? = some (.list xs)) (hk : 0 ≤ k ∧ small k = true ∧ k.toNat < xs.length) (hz : szOk (.list (xs.set k.toNat v)) = true) (K : Unit → Mx α) : bnd (putItemM (.ref a) (.int k) v) K μ = K () (μ.set a (.list (xs.set k.toNat v))) := by
  refine bnd_val ?_
  show bnd (getM a) _ μ = _
  refine (bnd_val (a := .list xs) (μ' := μ) (rdM_val hm)).trans ?_
  exact (congrFun (if_pos hk) μ).trans (if_pos ⟨hz, h0⟩)
theorem app_bnd {a : Nat} {xs : List V} {v : V} (h0 : a ≠ 0) (hm : μ[a]? = some (.list xs)) (hz : szOk (.list (xs ++ [v])) = true) (K : V → Mx α) : bnd (callB "list.append" [.ref a, v]) K μ = K .none (μ.set a (.list (xs ++ [v]))) := by
  refine bnd_val ?_
  show bnd (getM a) _ μ = _
  refine (bnd_val (a := .list xs) (μ' := μ) (rdM_val hm)).trans ?_
  show bnd (setM a _) _ μ = _
  refine (bnd_val (a := ()) (μ' := μ.set a (.list (xs ++ [v]))) (by unfold setM; rw [if_pos ⟨hz, h0⟩])).trans rfl
variable {K : Unit → Mx β} {x : Int}
theorem st_pt (h : H ds st μ) (k : ∀ μ', H ds (st.sBuf x st.lo st.hi st.t1 st.t2) μ' → Keep st.L μ μ' → Go (K () μ') Q) : Go (bnd (putAttrM (.ref 19) "point" (.int x)) K μ) Q :=
  go_eq (putA_bnd (by decide) h.fix.f19 (by kernel_rfl) (by kernel_rfl) K) (k _ (h.buf x st.lo st.hi st.t1 st.t2) (Keep.setF (by decide)))
theorem st_lo (h : H ds st μ) (k : ∀ μ', H ds (st.sBuf st.pt x st.hi st.t1 st.t2) μ' → Keep st.L μ μ' → Go (K () μ') Q) : Go (bnd (putAttrM (.ref 19) "begv" (.int x)) K μ) Q :=
  go_eq (putA_bnd (by decide) h.fix.f19 (by kernel_rfl) (by kernel_rfl) K) (k _ (h.buf st.pt x st.hi st.t1 st.t2) (Keep.setF (by decide)))
theorem st_hi (h : H ds st μ) (k : ∀ μ', H ds (st.sBuf st.pt st.lo x st.t1 st.t2) μ' → Keep st.L μ μ' → Go (K () μ') Q) : Go (bnd (putAttrM (.ref 19) "zv" (.int x)) K μ) Q :=
  go_eq (putA_bnd (by decide) h.fix.f19 (by kernel_rfl) (by kernel_rfl) K) (k _ (h.buf st.pt st.lo x st.t1 st.t2) (Keep.setF (by decide)))
theorem st_t1 (h : H ds st μ) (k : ∀ μ', H ds (st.sBuf st.pt st.lo st.hi x st.t2) μ' → Keep st.L μ μ' → Go (K () μ') Q) : Go (bnd (putAttrM (.ref 19) "ticks" (.int x)) K μ) Q :=
  go_eq (putA_bnd (by decide) h.fix.f19 (by kernel_rfl) (by kernel_rfl) K) (k _ (h.buf st.pt st.lo st.hi x st.t2) (Keep.setF (by decide)))
theorem st_t2 (h : H ds st μ) (k : ∀ μ', H ds (st.sBuf st.pt st.lo st.hi st.t1 x) μ' → Keep st.L μ μ' → Go (K () μ') Q) : Go (bnd (putAttrM (.ref 19) "codes_ticks" (.int x)) K μ) Q :=
  go_eq (putA_bnd (by decide) h.fix.f19 (by kernel_rfl) (by kernel_rfl) K) (k _ (h.buf st.pt st.lo st.hi st.t1 x) (Keep.setF (by decide)))
theorem st_gs (h : H ds st μ) (k : ∀ μ', H ds (st.sGap st.cells x st.ge) μ' → Keep st.L μ μ' → Go (K () μ') Q) : Go (bnd (putAttrM (.ref 21) "gap_start" (.int x)) K μ) Q :=
  go_eq (putA_bnd (by decide) h.fix.f21 (by kernel_rfl) (by kernel_rfl) K) (k _ (h.gap x st.ge) (Keep.setF (by decide)))
theorem st_ge (h : H ds st μ) (k : ∀ μ', H ds (st.sGap st.cells st.gs x) μ' → Keep st.L μ μ' → Go (K () μ') Q) : Go (bnd (putAttrM (.ref 21) "gap_end" (.int x)) K μ) Q :=
  go_eq (putA_bnd (by decide) h.fix.f21 (by kernel_rfl) (by kernel_rfl) K) (k _ (h.gap st.gs x) (Keep.setF (by decide)))
theorem st_lm (h : H ds st μ) (k : ∀ μ', H ds (st.sLm x) μ' → Keep st.L μ μ' → Go (K () μ') Q) : Go (bnd (putAttrM (.ref 4) "last_marker" (.int x)) K μ) Q :=
  go_eq (putA_bnd (by decide) h.fix.f4 (by kernel_rfl) (by kernel_rfl) K) (k _ (h.wld x) (Keep.setF (by decide)))
theorem st_dk (h : H ds st μ) (k : ∀ μ', H ds (st.sDk x) μ' → Keep st.L μ μ' → Go (K () μ') Q) : Go (bnd (putItemM (.ref 3) (.int 1) (.int x)) K μ) Q :=
  go_eq (putI_bnd (by decide) h.fix.f3 ⟨by decide, by decide, Nat.lt_succ_self _⟩ (by kernel_rfl) K) (k _ (h.dck x) (Keep.setF (by decide)))
theorem st_op (h : H ds st μ) (k : ∀ μ', H ds (st.sOwn x st.ol st.oh) μ' → Keep st.L μ μ' → Go (K () μ') Q) : Go (bnd (putItemM (.ref 167) (.str "point") (.int x)) K μ) Q :=
  go_eq (putD_bnd (by decide) h.fix.f167 (by kernel_rfl) (by kernel_rfl) K) (k _ (h.own x st.ol st.oh) (Keep.setF (by decide)))
theorem st_ol (h : H ds st μ) (k : ∀ μ', H ds (st.sOwn st.op x st.oh) μ' → Keep st.L μ μ' → Go (K () μ') Q) : Go (bnd (putItemM (.ref 167) (.str "low") (.int x)) K μ) Q :=
  go_eq (putD_bnd (by decide) h.fix.f167 (by kernel_rfl) (by kernel_rfl) K) (k _ (h.own st.op x st.oh) (Keep.setF (by decide)))
theorem st_oh (h : H ds st μ) (k : ∀ μ', H ds (st.sOwn st.op st.ol x) μ' → Keep st.L μ μ' → Go (K () μ') Q) : Go (bnd (putItemM (.ref 167) (.str "high") (.int x)) K μ) Q :=
  go_eq (putD_bnd (by decide) h.fix.f167 (by kernel_rfl) (by kernel_rfl) K) (k _ (h.own st.op st.ol x) (Keep.setF (by decide)))
end
/-! ## What needs no memory -/
section
variable {α β : Type} {μ : Mem} {a b : Int} {x : Nat} {y : Addr}
theorem p_lt (K : Bool → Mx α) : bnd (cmpM .Lt (.int a) (.int b)) K μ = K (decide (a < b)) μ := rfl
theorem p_le (K : Bool → Mx α) : bnd (cmpM .LtE (.int a) (.int b)) K μ = K (decide (a ≤ b)) μ := rfl
theorem p_gt (K : Bool → Mx α) : bnd (cmpM .Gt (.int a) (.int b)) K μ = K (decide (b < a)) μ := rfl
theorem p_ge (K : Bool → Mx α) : bnd (cmpM .GtE (.int a) (.int b)) K μ = K (decide (b ≤ a)) μ := rfl
theorem eqv_int (a b : Int) : PyData.eqv (.int a) (.int b) = decide (a = b) := by unfold PyData.eqv; rfl
theorem p_eq (K : Bool → Mx α) : bnd (cmpM .Eq (.int a) (.int b)) K μ = K (decide (a = b)) μ := by rw [← eqv_int]; rfl
theorem p_isN (K : Bool → Mx α) : bnd (cmpM .Is .none .none) K μ = K true μ := rfl
theorem p_inN (K : Bool → Mx α) : bnd (cmpM .IsNot .none .none) K μ = K false μ := rfl
theorem p_isR (K : Bool → Mx α) : bnd (cmpM .Is (.ref x) .none) K μ = K false μ := rfl
theorem p_inR (K : Bool → Mx α) : bnd (cmpM .IsNot (.ref x) .none) K μ = K true μ := rfl
theorem p_isI (K : Bool → Mx α) : bnd (cmpM .Is (.int a) .none) K μ = K false μ := rfl
theorem p_isT (K : Bool → Mx α) : bnd (cmpM .Is (.int a) (.top y)) K μ = K false μ := rfl
theorem p_nn (K : Bool → Mx α) : bnd (cmpM .Is (.top 135) (.top 135)) K μ = K true μ := rfl
theorem p_add (K : V → Mx α) : bnd (binM .Add (.int a) (.int b)) K μ = K (.int (a + b)) μ := rfl
theorem p_sub (K : V → Mx α) : bnd (binM .Sub (.int a) (.int b)) K μ = K (.int (a - b)) μ := rfl
def mn (a b : Int) : Int := if b < a then b else a
def mx (a b : Int) : Int := if a < b then b else a
theorem p_min (K : V → Mx α) : bnd (callB "min" [.int a, .int b]) K μ = K (.int (mn a b)) μ := rfl
theorem p_max (K : V → Mx α) : bnd (callB "max" [.int a, .int b]) K μ = K (.int (mx a b)) μ := rfl
theorem p_boo {b : Bool} (K : Bool → Mx α) : bnd (boolM (.bool b)) K μ = K b μ := rfl
theorem p_ret {v : β} (K : β → Mx α) : bnd (ret v) K μ = K v μ := rfl
theorem p_ii (K : V → Mx α) : bnd (callB "isinstance" [.int a, .ty "int"]) K μ = K (.bool true) μ := rfl
theorem p_ib (K : V → Mx α) : bnd (callB "isinstance" [.int a, .ty "bool"]) K μ = K (.bool false) μ := rfl
theorem p_n1 (K : V → Mx α) : bnd (callB "isinstance" [.top 135, .top 178]) K μ = K (.bool false) μ := rfl
theorem p_ni (K : V → Mx α) : bnd (callB "isinstance" [.top 135, .ty "int"]) K μ = K (.bool false) μ := rfl
theorem small_of {i : Int} (h1 : -100000 ≤ i) (h2 : i ≤ 100000) : small i = true := by
  unfold small
  have : (2 : Nat) ^ 40 = 1099511627776 := by decide
  simp only [decide_eq_true_eq, this]
  omega
end
/-! ## Slices -/
theorem mid_l {α : Type} {X Y Z : List α} {a b : Nat} (ha : X.length = a) (hb : X.length + Y.length = b) : ((X ++ (Y ++ Z)).take b).drop a = Y := by
  subst ha hb
  rw [← List.append_assoc, ← List.length_append, List.take_left, List.drop_left]
theorem cut_nat {n a : Nat} (h : a ≤ n) : cutAt n (a : Int) = a := by
  unfold cutAt
  rw [if_neg (Int.not_lt.mpr (Int.natCast_nonneg a)), Int.toNat_natCast, Nat.min_eq_left h]
theorem small_nat {a : Nat} (h : a ≤ 1000) : small (a : Int) = true := small_of (by omega) (by omega)
theorem cutO_nat {n d a : Nat} (h : a ≤ n) (hl : n ≤ 1000) : cutO n d (.int a) = some a := (if_pos (small_nat (Nat.le_trans h hl))).trans (congrArg some (cut_nat h))
theorem sl2 {xs : List V} {a b : Nat} (ha : a ≤ xs.length) (hb : b ≤ xs.length) (hl : xs.length ≤ 1000) : sliceOf xs (.int a) (.int b) = some (a, b) := by
  exact obind (cutO_nat ha hl) (congrArg (Option.map _) (cutO_nat hb hl))
theorem sl0 {xs : List V} {b : Nat} (hb : b ≤ xs.length) (hl : xs.length ≤ 1000) : sliceOf xs .none (.int b) = some (0, b) := by
  exact congrArg (Option.map _) (cutO_nat hb hl)
theorem sl1 {xs : List V} {a : Nat} (ha : a ≤ xs.length) (hl : xs.length ≤ 1000) : sliceOf xs (.int a) .none = some (a, xs.length) := by
  exact obind (cutO_nat ha hl) rfl
theorem szIl {l : List Int} (h : l.length ≤ 1000) : szOk (il l) = true := decide_eq_true (by rw [List.length_map]; exact h)
section
variable {α β : Type} {ds : List Int} {st : St} {μ μ' : Mem} {Q : β → Mem → Prop} {K : V → Mx β} {x y z w : List Int} {a c : Nat} {i j : Int}
theorem srcOf_bnd {a : Nat} {xs : List V} (hm : μ[a]? = some (.list xs)) (K : List V → Mx α) : bnd (srcOfM (.ref a)) K μ = K xs μ := at_bnd (f := srcO) hm rfl K
theorem len3 : (x ++ (y ++ z)).length = x.length + y.length + z.length := by rw [List.length_append, List.length_append, Nat.add_assoc]
theorem slice_go {xs : List V} {lv uv : V} {a' b' : Nat} (h : H ds st μ) (hm : μ[a]? = some (.list xs)) (hs : sliceOf xs lv uv = some (a', b')) (he : (xs.take b').drop a' = y.map .int) (hl : y.length ≤ 1000)
    (k : ∀ a μ', H ds st μ' → Keep st.L μ μ' → Free st.L a → μ'[a]? = some (il y) → Go (K (.ref a) μ') Q) : Go (bnd (sliceM (.ref a) lv uv) K μ) Q := by
  refine go_eq (y := bnd (newM (il y)) K μ) ?_ (st_new h (szIl hl) k)
  unfold sliceM
  rw [bnd_assoc, srcOf_bnd hm, bnd_assoc, hs]
  show bnd (newM (.list ((xs.take b').drop a'))) K μ = _
  rw [he]
theorem il3 : (x ++ (y ++ z)).map V.int = x.map V.int ++ (y.map V.int ++ z.map V.int) := by rw [List.map_append, List.map_append]
theorem slice_mid (h : H ds st μ) (hm : μ[a]? = some (il (x ++ (y ++ z)))) (hi : i = x.length) (hj : j = x.length + y.length)
    (k : ∀ a μ', H ds st μ' → Keep st.L μ μ' → Free st.L a → μ'[a]? = some (il y) → Go (K (.ref a) μ') Q) : Go (bnd (sliceM (.ref a) (.int i) (.int j)) K μ) Q := by
  subst hi hj
  have hl := h.le hm
  rw [len3] at hl
  have hn : ((x ++ (y ++ z)).map V.int).length = x.length + y.length + z.length := (List.length_map ..).trans len3
  have h1 : x.length + y.length ≤ x.length + y.length + z.length := Nat.le_add_right _ _
  refine slice_go (a' := x.length) (b' := x.length + y.length) h hm (sl2 (hn ▸ Nat.le_trans (Nat.le_add_right _ _) h1) (hn ▸ h1) (hn ▸ hl)) ?_ (Nat.le_trans (Nat.le_add_left _ _) (Nat.le_trans h1 hl)) k
  rw [il3]; exact mid_l (List.length_map ..) (by rw [List.length_map, List.length_map])
theorem slice_lo (h : H ds st μ) (hm : μ[a]? = some (il (y ++ z))) (hj : j = y.length)
    (k : ∀ a μ', H ds st μ' → Keep st.L μ μ' → Free st.L a → μ'[a]? = some (il y) → Go (K (.ref a) μ') Q) : Go (bnd (sliceM (.ref a) .none (.int j)) K μ) Q := by
  subst hj
  have hl := h.le hm
  have hn : ((y ++ z).map V.int).length = y.length + z.length := (List.length_map ..).trans List.length_append
  rw [List.length_append] at hl
  refine slice_go (a' := 0) (b' := y.length) h hm (sl0 (hn ▸ Nat.le_add_right _ _) (hn ▸ hl)) ?_ (Nat.le_trans (Nat.le_add_right _ _) hl) k
  rw [List.map_append, ← List.length_map (f := V.int), List.take_left]; rfl
theorem slice_hi (h : H ds st μ) (hm : μ[a]? = some (il (x ++ y))) (hi : i = x.length)
    (k : ∀ a μ', H ds st μ' → Keep st.L μ μ' → Free st.L a → μ'[a]? = some (il y) → Go (K (.ref a) μ') Q) : Go (bnd (sliceM (.ref a) (.int i) .none) K μ) Q := by
  subst hi
  have hl := h.le hm
  have hn : ((x ++ y).map V.int).length = x.length + y.length := (List.length_map ..).trans List.length_append
  rw [List.length_append] at hl
  refine slice_go (a' := x.length) h hm (sl1 (hn ▸ Nat.le_add_right _ _) (hn ▸ hl)) ?_ (Nat.le_trans (Nat.le_add_left _ _) hl) k
  rw [List.take_length, List.map_append, ← List.length_map (f := V.int), List.drop_left]
theorem add_go (h : H ds st μ) (ha : μ[a]? = some (il x)) (hb : μ[c]? = some (il y)) (hl : x.length + y.length ≤ 1000)
    (k : ∀ a μ', H ds st μ' → Keep st.L μ μ' → Free st.L a → μ'[a]? = some (il (x ++ y)) → Go (K (.ref a) μ') Q) : Go (bnd (binM .Add (.ref a) (.ref c)) K μ) Q := by
  refine go_eq (y := bnd (newM (il (x ++ y))) K μ) ?_ (st_new h (szIl (by rw [List.length_append]; exact hl)) k)
  show bnd (bnd (listOfM (.ref a)) fun p => bnd (listOfM (.ref c)) fun q => newM (.list (p.2 ++ q.2))) K μ = _
  rw [bnd_assoc, listOf_bnd ha, bnd_assoc, listOf_bnd hb, ← List.map_append]
theorem mul_go {v : Int} (h : H ds st μ) (ha : μ[a]? = some (il [v])) (h2 : i ≤ 1000) (h1 : -1000 ≤ i)
    (k : ∀ a μ', H ds st μ' → Keep st.L μ μ' → Free st.L a → μ'[a]? = some (il (List.replicate i.toNat v)) → Go (K (.ref a) μ') Q) : Go (bnd (binM .Mult (.ref a) (.int i)) K μ) Q := by
  have hi : i.toNat ≤ 1000 := by omega
  refine go_eq (y := bnd (newM (il (List.replicate i.toNat v))) K μ) ?_ (st_new h (szIl (by rw [List.length_replicate]; exact hi)) k)
  show bnd (bnd (listOfM (.ref a)) fun p => oneB p.2 fun v => repM v (.int i)) K μ = _
  rw [bnd_assoc, listOf_bnd ha]
  show bnd (if i.toNat ≤ big ∧ small i then newM (.list (List.replicate i.toNat (V.int v))) else stuck) K μ = _
  rw [if_pos ⟨hi, small_of (by omega) (by omega)⟩, show il (List.replicate i.toNat v) = .list ((List.replicate i.toNat v).map V.int) from rfl, List.map_replicate]
theorem st_cells {K : Unit → Mx β} (h : H ds st μ) (hc : μ[c]? = some (il w)) (hf : Free st.L c) (e : st.cells = x ++ (y ++ z)) (hi : i = x.length) (hj : j = x.length + y.length) (hw : x.length + w.length + z.length ≤ 1000)
    (k : ∀ μ', H ds (st.sGap (x ++ (w ++ z)) st.gs st.ge) μ' → Keep st.L μ μ' → Go (K () μ') Q) : Go (bnd (putSliceM (.ref 25) (.int i) (.int j) (.ref c)) K μ) Q := by
  subst hi hj
  have hm := h.fix.f25
  rw [e] at hm
  have hl := h.le hm
  rw [len3] at hl
  have hn : ((x ++ (y ++ z)).map V.int).length = x.length + y.length + z.length := (List.length_map ..).trans len3
  have h1 : x.length + y.length ≤ x.length + y.length + z.length := Nat.le_add_right _ _
  have hz : szOk (il (x ++ (w ++ z))) = true := szIl (by rw [len3]; exact hw)
  refine go_eq (y := K () (μ.set 25 (il (x ++ (w ++ z))))) ?_ (k _ (h.cel hz) (Keep.setF (by decide)))
  unfold putSliceM
  rw [bnd_assoc, listOf_bnd hm, bnd_assoc, listOf_bnd hc, bnd_assoc]
  have s : sliceOf ((x ++ (y ++ z)).map V.int) (.int x.length) (.int (x.length + y.length)) = some (x.length, x.length + y.length) := sl2 (hn ▸ Nat.le_trans (Nat.le_add_right _ _) h1) (hn ▸ h1) (hn ▸ hl)
  have n : (25 : Nat) ≠ c := fun q => absurd hf.1 (q ▸ by decide)
  rw [s]
  show bnd (if (25 : Nat) ≠ c then setM 25 (.list (((x ++ (y ++ z)).map V.int).take x.length ++ w.map V.int ++ ((x ++ (y ++ z)).map V.int).drop (max x.length (x.length + y.length)))) else stuck) K μ = _
  have e2 : ((x ++ (y ++ z)).map V.int).take x.length ++ w.map V.int ++ ((x ++ (y ++ z)).map V.int).drop (max x.length (x.length + y.length)) = (x ++ (w ++ z)).map V.int := by
    rw [Nat.max_eq_right (Nat.le_add_right _ _), ← List.map_take, ← List.map_drop, List.take_left, ← List.append_assoc x, ← List.length_append, List.drop_left, List.append_assoc, ← List.map_append, ← List.map_append]
  rw [if_pos n, e2]
  exact bnd_val (if_pos ⟨hz, by decide⟩)
end
section
variable {α β : Type} {μ : Mem} {Q : β → Mem → Prop} {a b : V}
theorem gt_a {x : Str} {K : V → Mx β} (k : Go (bnd (attrM a x) K μ) Q) : Go (bnd (attrM a x) K μ) Q := k
theorem gt_m {x : Str} {K : V → Mx β} (k : Go (bnd (selM a x) K μ) Q) : Go (bnd (selM a x) K μ) Q := k
theorem gt_i {K : V → Mx β} (k : Go (bnd (itemM a b) K μ) Q) : Go (bnd (itemM a b) K μ) Q := k
theorem gt_c {o : CmpOp} {K : Bool → Mx β} (k : Go (bnd (cmpM o a b) K μ) Q) : Go (bnd (cmpM o a b) K μ) Q := k
theorem gt_o {o : Operator} {K : V → Mx β} (k : Go (bnd (binM o a b) K μ) Q) : Go (bnd (binM o a b) K μ) Q := k
theorem gt_b {f : String} {l : List V} {K : V → Mx β} (k : Go (bnd (callB f l) K μ) Q) : Go (bnd (callB f l) K μ) Q := k
end
local macro_rules | `(tactic| wtm_at $s:str) => do
  let t := s.getString
  if t == "s" then `(tactic| repeat (first | wtm_at "gt_a rd2 rd3 rd4 rd0 rd1 rd5 rd6 rd7 rd8 rd9 rd10 rd11 rd12 rd13 rd14 rd15 rd16 rd17" | wtm_at "gt_o p_add p_sub" | wtm_at "gt_c p_lt p_le p_gt p_ge p_eq p_isN p_inN p_isR p_inR p_isI p_isT p_nn" | wtm_at "gt_m rd18 rd19 rd20 rd21 rd22 rd23 rd24 rd25 rd26 rd27 rd28 rd29 rd30 rd31 rd32 rd33 rd34 rd35 rd36" | wtm_at "gt_i rd39 rd40 rd41 rd42 rd43 rd44 rd45" | wtm_at "gt_b p_min p_max p_ii p_ib p_n1 p_ni" | wtm_at "gt_b rd37 rd38" | wtm_at "c"))
  else if t == "c" then `(tactic| first | wtm_at "p_ret p_boo" | (with_reducible refine go_t (show mayCall (.top _) = true by kernel_rfl) ?_; with_reducible refine go_call ?_) | wtm_at "go_tt go_ff go_as" | wtm_at "go_o1 go_o0 go_a1 go_a0 go_O1 go_O0 go_j1 go_j0 go_i1 go_i0")
  else
    let l := t.splitOn " "
    let x := Lean.mkIdent (Lean.Name.mkSimple l.head!)
    let xs := (l.map fun x => Lean.mkIdent (Lean.Name.mkSimple x)).toArray
    if t.startsWith "gt" then `(tactic| ((fail_if_success (fail_if_success with_reducible refine $x ?_)); wtm_at $(Lean.quote (" ".intercalate l.tail))))
    else if t.startsWith "r" then `(tactic| first $[| with_reducible refine go_eq ($xs (by assumption) _) ?_]*)
    else if t.startsWith "p" then `(tactic| first $[| with_reducible refine go_eq ($xs _) ?_]*)
    else if t.startsWith "go_t" then `(tactic| first $[| with_reducible refine $xs ?_]*)
    else `(tactic| first $[| with_reducible refine $xs rfl ?_]*)
/-! ## The gap -/
inductive GJ (cs : List Int) (gs ge : Int) (t : List Int) : Prop
  | mk (p g q : List Int) (c : cs = p ++ (g ++ q)) (a : gs = p.length) (b : ge = p.length + g.length) (e : t = p ++ q) (l : p.length + g.length + q.length ≤ 400)
abbrev GI (st : St) (t : List Int) : Prop := GJ st.cells st.gs st.ge t
theorem app_cut {A B C D : List Int} (e : A ++ B = C ++ D) (h : A.length ≤ C.length) : ∃ w, C = A ++ w ∧ B = w ++ D := by
  rcases List.append_eq_append_iff.mp e with ⟨w, h1, h2⟩ | ⟨w, h1, h2⟩
  · exact ⟨w, h1, h2⟩
  · rw [h1, List.length_append] at h
    cases List.eq_nil_of_length_eq_zero (Nat.le_zero.mp (Nat.le_of_add_le_add_left h))
    exact ⟨[], by rw [h1, List.append_nil, List.append_nil], h2.symm⟩
theorem app_at (l : List Int) {n : Nat} (h : n ≤ l.length) : ∃ a b, l = a ++ b ∧ a.length = n := ⟨l.take n, l.drop n, (List.take_append_drop n l).symm, List.length_take_of_le h⟩
theorem i_le {i k : Int} {a b : Nat} (hi : i = a) (hk : k = b) (h : i ≤ k) : a ≤ b := by subst hi hk; exact Int.ofNat_le.mp h
theorem i_lt {i k : Int} {a b : Nat} (hi : i = a) (hk : k = b) (h : i < k) : a < b := by subst hi hk; exact Int.ofNat_lt.mp h
theorem la {x y : List Int} : (x ++ y).length = x.length + y.length := List.length_append
theorem ar1 {i gs ge : Int} {p w g : Nat} (hi : i = (p + w : Nat)) (a : gs = p) (b : ge = p + g) : i - gs + ge = (p + g + w : Nat) := by omega
theorem ar2 {i gs ge : Int} {p w g : Nat} (hi : i = (p + w : Nat)) (a : gs = p) (b : ge = p + g) : i + (ge - gs) = (p + (g + w) : Nat) := by omega
theorem ar3 {i gs ge : Int} {p w g y : Nat} (hi : i = (p + w + y : Nat)) (a : gs = p) (b : ge = p + g) : i + (ge - gs) = (p + (g + w) + y : Nat) := by omega
theorem ar4 {i gs ge : Int} {x y1 y2 g : Nat} (hi : i = (x + (y1 + y2) : Nat)) (a : gs = (x + y1 : Nat)) (b : ge = (x + y1 + g : Nat)) : i + (ge - gs) = (x + y1 + g + y2 : Nat) := by omega
section
variable {α β : Type} {ds : List Int} {st : St} {μ μ' : Mem} {Q : V → Mem → Prop} {t x y z w : List Int} {i j : Int}
theorem GJ.len (g : GI st t) : (st.cells.length : Int) - st.ge + st.gs = t.length := by
  obtain ⟨p, g, q, c, a, b, e, l⟩ := g
  rw [c, a, b, e, len3, la]; omega
theorem g42 (h : H ds st μ) (n : Nat) (g : GI st t) (k : Q (.int t.length) μ) : Go (callN (n + 1) (.top 42) [.ref 21] μ) Q := by
  refine go_c (callS (s42 _ _) (by kernel_rfl)) ?_
  rw [← g.len] at k
  wtm_at "s"
  exact go_ret k
theorem item_at {a : Nat} {c : Int} {K : V → Mx β} {Q : β → Mem → Prop} (h : H ds st μ) (hm : μ[a]? = some (il (x ++ c :: z))) (hi : i = x.length) (k : Go (K (.int c) μ) Q) : Go (bnd (itemM (.ref a) (.int i)) K μ) Q := by
  subst hi
  have hl := h.le hm
  rw [la] at hl
  refine go_eq (item_bnd hm ⟨Int.natCast_nonneg _, small_nat (Nat.le_trans (Nat.le_add_right _ _) hl)⟩ (v := .int c) ?_ K) k
  rw [Int.toNat_natCast, List.map_append, List.getElem?_append_right (Nat.le_of_eq (List.length_map ..)), List.length_map, Nat.sub_self]; rfl
theorem g49 (h : H ds st μ) (n : Nat) (g : GI st (x ++ c :: z)) (hi : i = x.length) (k : Q (.int c) μ) : Go (callN (n + 1) (.top 49) [.ref 21, .int i] μ) Q := by
  obtain ⟨p, g, q, e, a, b, e2, l⟩ := g
  have hm := h.fix.f25
  rw [e] at hm
  refine go_c (callS (s49 _ _ _) (by kernel_rfl)) ?_
  wtm_at "s"
  by_cases hz : i < st.gs
  · have lt := i_lt hi a hz
    refine El_ea (app_cut e2 (Nat.le_of_lt lt)) fun w h1 h2 => ?_
    cases w with
    | nil => rw [h1, List.append_nil] at lt; exact absurd lt (Nat.lt_irrefl _)
    | cons d w =>
      cases h2
      refine go_td hz ?_
      wtm_at "s"
      rw [h1, List.append_assoc] at hm
      exact item_at h hm hi (go_ret k)
  · refine El_ea (app_cut e2.symm (i_le a hi (Int.not_lt.mp hz))) fun w h1 h2 => ?_
    refine go_fd hz ?_
    wtm_at "s"
    rw [h2, ← List.append_assoc g, ← List.append_assoc p] at hm
    rw [h1, la] at hi
    refine item_at h hm ?_ (go_ret k)
    rw [← List.append_assoc, la, la]; exact ar1 hi a b
theorem g56 (h : H ds st μ) (n : Nat) (g : GI st (x ++ (y ++ z))) (hi : i = x.length) (hj : j = x.length + y.length) (k : ∀ a μ', H ds st μ' → Keep st.L μ μ' → Free st.L a → μ'[a]? = some (il y) → Q (.ref a) μ') : Go (callN (n + 1) (.top 56) [.ref 21, .int i, .int j] μ) Q := by
  obtain ⟨p, g, q, e, a, b, e2, l⟩ := g
  have hm := h.fix.f25
  rw [e] at hm
  have hj' : j = ((x ++ y).length : Nat) := by rw [la]; exact hj
  refine go_c (callS (s56 _ _ _ _) (by kernel_rfl)) ?_
  wtm_at "s"
  by_cases hz : j ≤ st.gs
  · refine El_ea (app_cut ((List.append_assoc x y z).trans e2) (i_le hj' a hz)) fun w h1 h2 => ?_
    refine go_td hz ?_
    wtm_at "s"
    rw [h1, List.append_assoc, List.append_assoc] at hm
    exact slice_mid h hm hi hj fun a μ' h' k' f m => go_ret (k a μ' h' k' f m)
  · refine go_fd hz ?_
    wtm_at "s"
    by_cases hy : st.gs ≤ i
    · refine El_ea (app_cut e2.symm (i_le a hi hy)) fun w h1 h2 => ?_
      refine go_td hy ?_
      wtm_at "s"
      rw [h2, ← List.append_assoc g, ← List.append_assoc p] at hm
      rw [h1, la] at hi hj
      exact slice_mid h hm (by rw [la, la]; exact ar2 hi a b) (by rw [la, la]; exact ar3 hj a b) fun a μ' h' k' f m => go_ret (k a μ' h' k' f m)
    · refine El_ea (app_cut e2 (Nat.le_of_lt (i_lt hi a (Int.not_le.mp hy)))) fun y1 h1 h2 => ?_
      rw [h1, ← List.append_assoc] at e2
      have lt := i_lt a hj' (Int.not_le.mp hz)
      refine El_ea (app_cut h2.symm (by rw [h1, la, la] at lt; exact Nat.le_of_lt (Nat.lt_of_add_lt_add_left lt))) fun y2 h3 h4 => ?_
      refine go_fd hy ?_
      wtm_at "s"
      rw [h1, List.append_assoc] at hm
      rw [h1, la] at a b
      rw [h3, la] at hj
      refine slice_mid h hm hi a fun a1 μ1 u1 k1 f1 m1 => ?_
      wtm_at "s"
      have hm1 := u1.fix.f25
      rw [e, h1, h4, ← List.append_assoc] at hm1
      refine slice_mid u1 hm1 (by rw [la, la]; exact b) (by rw [la, la]; exact ar4 hj a b) fun a2 μ2 u2 k2 f2 m2 => ?_
      have l1 : y1.length + y2.length ≤ 1000 := by rw [h1, h4, la, la] at l; omega
      refine add_go u2 (k2.get _ _ f1 m1) m2 l1 fun a3 μ3 u3 k3 f3 m3 => go_ret (k _ _ u3 ((k1.trans k2).trans k3) f3 ?_)
      rw [h3]; exact m3
end
/-! ## The gap moved, widened; signs put in and taken out -/
section
variable {α β : Type} {ds : List Int} {st : St} {μ μ' : Mem} {Q : V → Mem → Prop} {t x y z w : List Int} {i j : Int}
theorem GJ.of {p g q : List Int} {cs : List Int} {gs ge : Int} (c : cs = p ++ (g ++ q)) (a : gs = p.length) (b : ge = p.length + g.length) (l : p.length + g.length + q.length ≤ 400) : GJ cs gs ge (p ++ q) := ⟨p, g, q, c, a, b, rfl, l⟩
theorem ar5 {ge : Int} {x g w : Nat} (b : ge = (x + w + g : Nat)) : ge - w = (x + g : Nat) := by omega
theorem ar6 {ge : Int} {x g w : Nat} (b : ge = (x + w + g : Nat)) : ge = (x + g + w : Nat) := by omega
theorem ar7 {i gs ge : Int} {p w g : Nat} (hi : i = (p + w : Nat)) (a : gs = p) (b : ge = (p + g : Nat)) : ge + i - gs = (p + g + w : Nat) := by omega
theorem ar8 {ge : Int} {p w g : Nat} (b : ge = (p + g : Nat)) : ge + w = (p + w + g : Nat) := by omega
theorem ar9 {i gs ge : Int} {x w g : Nat} (hi : i = x) (a : gs = (x + w : Nat)) (b : ge = (x + w + g : Nat)) : ge - w - i = ge - gs := by omega
theorem ar10 {i gs ge : Int} {p w : Nat} (hi : i = (p + w : Nat)) (a : gs = p) : ge + w - i = ge - gs := by omega
theorem ar11 {j gs ge : Int} {x y1 y2 g : Nat} (hj : j = (x + (y1 + y2) : Nat)) (a : gs = (x + y1 : Nat)) (b : ge = (x + y1 + g : Nat)) : ge + j - gs = (x + (y1 + (g + y2)) : Nat) := by omega
theorem g63 (h : H ds st μ) (n : Nat) (g : GI st (x ++ z)) (hi : i = x.length) (k : ∀ cs ge μ', H ds (st.sGap cs i ge) μ' → GI (st.sGap cs i ge) (x ++ z) → ge - i = st.ge - st.gs → Keep st.L μ μ' → Q .none μ') : Go (callN (n + 1) (.top 63) [.ref 21, .int i] μ) Q := by
  obtain ⟨p, g, q, e, a, b, e2, l⟩ := g
  have hm := h.fix.f25
  rw [e] at hm
  refine go_c (callS (s63 _ _ _) (by kernel_rfl)) ?_
  wtm_at "s"
  by_cases hz : i < st.gs
  · refine El_ea (app_cut e2 (Nat.le_of_lt (i_lt hi a hz))) fun w h1 h2 => ?_
    refine go_td hz ?_
    wtm_at "s"
    rw [h1, List.append_assoc] at hm
    rw [h1, la] at a b l
    refine slice_mid h hm hi a fun a1 μ1 u1 k1 f1 m1 => ?_
    wtm_at "s"
    refine go_eq (len_bnd m1 _) ?_
    wtm_at "s"
    refine El_eea (app_at (w ++ g) (n := g.length) (by rw [la]; exact Nat.le_add_left _ _)) fun u v h3 hu => ?_
    have hv : v.length = w.length := by have := congrArg List.length h3; rw [la, la, hu, Nat.add_comm] at this; exact (Nat.add_left_cancel this).symm
    have ec : st.cells = (x ++ u) ++ (v ++ q) := by rw [e, h1, List.append_assoc, ← List.append_assoc w, h3, List.append_assoc, List.append_assoc]
    refine st_cells (z := q) u1 m1 f1 ec (by rw [la, hu]; exact ar5 b) (by rw [la, hu, hv]; exact ar6 b) (by rw [la, hu]; omega) fun μ2 u2 k2 => ?_
    wtm_at "s"
    refine go_eq (len_bnd (k2.get _ _ f1 m1) _) ?_
    wtm_at "s"
    refine st_ge u2 fun μ3 u3 k3 => ?_
    refine st_gs u3 fun μ4 u4 k4 => go_ret (k _ _ _ u4 ?_ ?_ (((k1.trans k2).trans k3).trans k4))
    · rw [h2]
      refine .of (g := u) (List.append_assoc ..) hi ?_ ?_
      · rw [hu]; exact ar5 b
      · rw [hu, la]; omega
    · exact ar9 hi a b
  · refine El_ea (app_cut e2.symm (i_le a hi (Int.not_lt.mp hz))) fun w h1 h2 => ?_
    refine go_fd hz ?_
    wtm_at "s"
    rw [h2, ← List.append_assoc] at hm
    rw [h1, la] at hi
    rw [h2, la] at l
    refine slice_mid h hm (by rw [la]; exact b) (by rw [la]; exact ar7 hi a b) fun a1 μ1 u1 k1 f1 m1 => ?_
    wtm_at "s"
    refine go_eq (len_bnd m1 _) ?_
    wtm_at "s"
    refine El_eea (app_at (g ++ w) (n := w.length) (by rw [la]; exact Nat.le_add_left _ _)) fun v u h3 hv => ?_
    have hu : u.length = g.length := by have := congrArg List.length h3; rw [la, la, hv, Nat.add_comm] at this; exact (Nat.add_left_cancel this).symm
    have ec : st.cells = p ++ (v ++ (u ++ z)) := by rw [e, h2, ← List.append_assoc g, h3, List.append_assoc]
    refine st_cells (z := u ++ z) u1 m1 f1 ec a (by rw [a, hv]) (by rw [la, hu]; omega) fun μ2 u2 k2 => ?_
    wtm_at "s"
    refine go_eq (len_bnd (k2.get _ _ f1 m1) _) ?_
    wtm_at "s"
    refine st_ge u2 fun μ3 u3 k3 => ?_
    refine st_gs u3 fun μ4 u4 k4 => go_ret (k _ _ _ u4 ?_ ?_ (((k1.trans k2).trans k3).trans k4))
    · refine .of (g := u) (by rw [h1, List.append_assoc]) (by rw [h1, la]; exact hi) ?_ ?_
      · rw [hu, h1, la]; exact ar8 b
      · rw [hu, h1, la]; omega
    · exact ar10 hi a
theorem g70 (h : H ds st μ) (n : Nat) (g : GI st t) {w : Nat} (hw : t.length + w ≤ 300) (k : ∀ cs ge μ', H ds (st.sGap cs st.gs ge) μ' → GI (st.sGap cs st.gs ge) t → st.gs + w ≤ ge → Keep st.L μ μ' → Q .none μ') : Go (callN (n + 1) (.top 70) [.ref 21, .int w] μ) Q := by
  have g0 := g
  obtain ⟨p, g, q, e, a, b, e2, l⟩ := g
  rw [e2, la] at hw
  refine go_c (callS (s70 _ _ _) (by kernel_rfl)) ?_
  wtm_at "s"
  by_cases hz : 0 < (w : Int) - (st.ge - st.gs)
  · refine go_td hz ?_
    rw [a, b] at hz
    refine st_new h rfl fun a1 μ1 u1 k1 f1 m1 => ?_
    wtm_at "s"
    refine mul_go (v := 0) u1 m1 (by omega) (by omega) fun a2 μ2 u2 k2 f2 m2 => ?_
    wtm_at "s"
    have hr : ((w : Int) - (st.ge - st.gs) + 8).toNat = w - g.length + 8 := by omega
    have ec : st.cells = (p ++ g) ++ ([] ++ q) := by rw [e, List.append_assoc]; rfl
    refine st_cells (z := q) u2 m2 f2 ec (by rw [la]; exact b) (by rw [la]; exact b) (by rw [la, List.length_replicate]; omega) fun μ3 u3 k3 => ?_
    wtm_at "s"
    refine st_ge u3 fun μ4 u4 k4 => go_ret (k _ _ _ u4 ?_ ?_ (((k1.trans k2).trans k3).trans k4))
    · rw [e2]
      refine .of (g := g ++ List.replicate ((w : Int) - (st.ge - st.gs) + 8).toNat 0) (by rw [List.append_assoc, List.append_assoc]) a ?_ ?_
      · show st.ge + ((w : Int) - (st.ge - st.gs)) + 8 = _
        rw [la, List.length_replicate, hr, a, b]; omega
      · rw [la, List.length_replicate, hr]; omega
    · rw [a, b]; omega
  · refine go_fd hz (go_ret (k _ _ _ h g0 ?_ (Keep.refl _ _)))
    omega
theorem g77 (h : H ds st μ) (n : Nat) {c : Nat} (g : GI st (x ++ z)) (hi : i = x.length) (hc : μ[c]? = some (il w)) (hf : Free st.L c) (hw : (x ++ z).length + w.length ≤ 300) (k : ∀ cs gs ge μ', H ds (st.sGap cs gs ge) μ' → GI (st.sGap cs gs ge) (x ++ (w ++ z)) → Keep st.L μ μ' → Q .none μ') : Go (callN (n + 2) (.top 77) [.ref 21, .int i, .ref c] μ) Q := by
  refine go_c (callS (s77 _ _ _ _) (by kernel_rfl)) ?_
  wtm_at "s"
  refine go_eq (len_bnd hc _) ?_
  wtm_at "s"
  refine go_b (g70 h _ g hw fun cs1 ge1 μ1 u1 g1 r1 k1 => ?_)
  wtm_at "s"
  refine go_b (g63 u1 _ g1 hi fun cs2 ge2 μ2 u2 g2 r2 k2 => ?_)
  have hc2 := k2.get _ _ hf (k1.get _ _ hf hc)
  wtm_at "s"
  refine go_eq (len_bnd hc2 _) ?_
  wtm_at "s"
  obtain ⟨p, g, q, e, a, b, e2, l⟩ := g2
  have hp : x = p ∧ z = q := List.append_inj e2 (Int.ofNat.inj (hi.symm.trans a))
  rw [la] at hw
  rw [← hp.1] at e b l
  rw [← hp.2] at e l
  have hg : w.length ≤ g.length := by
    have b : ge2 = x.length + g.length := b
    have r2 : ge2 - i = ge1 - st.gs := r2
    omega
  refine El_eea (app_at g hg) fun v u h3 hv => ?_
  have ec : cs2 = x ++ (v ++ (u ++ z)) := by rw [← List.append_assoc v, ← h3]; exact e
  have hl : g.length = w.length + u.length := by rw [h3, la, hv]
  refine st_cells (z := u ++ z) u2 hc2 hf ec hi (by rw [hi, hv]) (by rw [la]; omega) fun μ3 u3 k3 => ?_
  refine go_eq (len_bnd (k3.get _ _ hf hc2) _) ?_
  wtm_at "s"
  refine st_gs u3 fun μ4 u4 k4 => go_ret (k _ _ _ _ u4 ?_ (((k1.trans k2).trans k3).trans k4))
  refine ⟨x ++ w, u, z, (List.append_assoc ..).symm, ?_, ?_, (List.append_assoc ..).symm, ?_⟩
  · rw [la, hi]; rfl
  · rw [la]
    have b : ge2 = x.length + g.length := b
    show ge2 = _
    omega
  · rw [la]; omega
/-- the end of a deletion: the gap swallows y -/
theorem g84e (h : H ds st μ) (g : GI st (x ++ (y ++ z))) (hi : i = x.length) (hj : j = x.length + y.length) (h1 : i ≤ st.gs) (h2 : st.gs ≤ j) {v : V} (k : ∀ cs gs ge μ', H ds (st.sGap cs gs ge) μ' → GI (st.sGap cs gs ge) (x ++ z) → Keep st.L μ μ' → Q v μ') :
    Go ((bnd (attrM (.ref 21) "gap_end") fun x => bnd (binM .Add x (.int j)) fun y => bnd (attrM (.ref 21) "gap_start") fun z => bnd (binM .Sub y z) fun w => bnd (putAttrM (.ref 21) "gap_end" w) fun x_ => bnd (putAttrM (.ref 21) "gap_start" (.int i)) fun x_ => ret v) μ) Q := by
  obtain ⟨p, g, q, e, a, b, e2, l⟩ := g
  wtm_at "s"
  refine st_ge h fun μ3 u3 k3 => ?_
  refine st_gs u3 fun μ4 u4 k4 => go_ret (k _ _ _ _ u4 ?_ (k3.trans k4))
  refine El_ea (app_cut e2 (i_le hi a h1)) fun y1 c1 c2 => ?_
  obtain ⟨y2, c3, c4⟩ := app_cut c2.symm (by
    have := i_le a (show j = ((x.length + y.length : Nat) : Int) from hj) h2
    rw [c1, la] at this; exact Nat.le_of_add_le_add_left this)
  rw [c1, la] at a b l
  rw [c4, la] at l
  refine .of (g := y1 ++ (g ++ y2)) ?_ hi ?_ ?_
  · show st.cells = _
    rw [e, c1, c4, List.append_assoc, List.append_assoc, List.append_assoc]
  · rw [c3, la] at hj
    rw [la, la]; exact ar11 hj a b
  · rw [la, la]; omega
theorem g84 (h : H ds st μ) (n : Nat) (g : GI st (x ++ (y ++ z))) (hi : i = x.length) (hj : j = x.length + y.length) (k : ∀ v cs gs ge μ', H ds (st.sGap cs gs ge) μ' → GI (st.sGap cs gs ge) (x ++ z) → Keep st.L μ μ' → Q v μ') : Go (callN (n + 2) (.top 84) [.ref 21, .int i, .int j] μ) Q := by
  have hij : i ≤ j := by omega
  have hj' : j = ((x ++ y).length : Nat) := by rw [la]; exact hj
  refine go_c (callS (s84 _ _ _ _) (by kernel_rfl)) ?_
  wtm_at "s"
  refine go_b (g56 h _ g hi hj fun a1 μ1 u1 k1 f1 m1 => ?_)
  wtm_at "s"
  by_cases z1 : j < st.gs
  · refine go_td z1 ?_
    wtm_at "s"
    rw [← List.append_assoc] at g
    refine go_b (g63 u1 _ g hj' fun cs2 ge2 μ2 u2 g2 r2 k2 => ?_)
    wtm_at "s"
    rw [List.append_assoc] at g2
    by_cases z2 : j < i
    · exact absurd z2 (Int.not_lt.mpr hij)
    · refine go_fd z2 (g84e u2 g2 hi hj hij (Int.le_refl _) fun cs gs ge μ3 u3 g3 k3 => k _ _ _ _ _ u3 g3 ((k1.trans k2).trans k3))
  · refine go_fd z1 ?_
    wtm_at "s"
    by_cases z2 : st.gs < i
    · refine go_td z2 ?_
      wtm_at "s"
      refine go_b (g63 u1 _ g hi fun cs2 ge2 μ2 u2 g2 r2 k2 => ?_)
      exact g84e u2 g2 hi hj (Int.le_refl _) hij fun cs gs ge μ3 u3 g3 k3 => k _ _ _ _ _ u3 g3 ((k1.trans k2).trans k3)
    · exact go_fd z2 (g84e u1 g hi hj (Int.not_lt.mp z2) (Int.not_lt.mp z1) fun cs gs ge μ3 u3 g3 k3 => k _ _ _ _ _ u3 g3 (k1.trans k3))
end
/-! ## What only reads -/
section
variable {α β : Type} {ds : List Int} {st : St} {μ μ' : Mem} {t : List Int}
theorem b245i (n : Nat) (i : Int) (K : V → Mx α) : bnd (callN (n + 1) (.top 245) [.int i]) K μ = K (.bool true) μ := go_fin (fun k => by
  refine go_c (callS (s245 _ _) (by kernel_rfl)) ?_
  wtm_at "s"
  exact go_ret k) K
theorem b245n (n : Nat) (K : V → Mx α) : bnd (callN (n + 1) (.top 245) [.top 135]) K μ = K (.bool false) μ := go_fin (fun k => by
  refine go_c (callS (s245 _ _) (by kernel_rfl)) ?_
  wtm_at "s"
  exact go_ret k) K
theorem b252 (n : Nat) (b : Bool) (K : V → Mx α) : bnd (callN (n + 1) (.top 252) [.bool b]) K μ = K (if b = true then .top 138 else .top 135) μ := go_fin (fun k => by
  refine go_c (callS (s252 _ _) (by kernel_rfl)) ?_
  cases b <;> wtm_at "s" <;> exact go_ret k) K
theorem b592 (n : Nat) (i : Int) (K : V → Mx α) : bnd (callN (n + 2) (.top 592) [.int i]) K μ = K (.int i) μ := go_fin (fun k => by
  refine go_c (callS (s592 _ _) (by kernel_rfl)) ?_
  refine go_eq (b245i _ _ _) ?_
  wtm_at "s"
  exact go_ret k) K
theorem b662 (n : Nat) {i : Int} (h0 : 0 ≤ i) (h1 : i < 1114112) (K : V → Mx α) : bnd (callN (n + 2) (.top 662) [.int i]) K μ = K (.int i) μ := go_fin (fun k => by
  refine go_c (callS (s662 _ _) (by kernel_rfl)) (go_as (go_eq (b245i _ _ _) ?_))
  wtm_at "s"
  refine go_j1 (dt h0) ?_
  wtm_at "s"
  refine go_o0 (nf h1) ?_
  wtm_at "s"
  exact go_ret k) K
theorem b711 (n : Nat) (c : Int) (K : V → Mx α) : bnd (callN (n + 1) (.top 711) [.int c]) K μ = K (if c = -1 then .top 135 else .int c) μ := go_fin (fun k => by
  refine go_c (callS (s711 _ _) (by kernel_rfl)) ?_
  wtm_at "s"
  by_cases z : c = -1
  · rw [if_pos z] at k; exact go_j1 (dt z) (go_ret k)
  · rw [if_neg z] at k; exact go_j0 (df z) (go_ret k)) K
theorem b655 (h : H ds st μ) (n : Nat) (K : V → Mx α) : bnd (callN (n + 1) (.top 655) [.ref 4]) K μ = K (.ref 19) μ := go_fin (fun k => by
  refine go_c (callS (s655 _ _) (by kernel_rfl)) ?_
  wtm_at "s"
  exact go_ret k) K
theorem b398 (h : H ds st μ) (n : Nat) (K : V → Mx α) : bnd (callN (n + 1) (.top 398) [.ref 19]) K μ = K (.int st.lo) μ := go_fin (fun k => by
  refine go_c (callS (s398 _ _) (by kernel_rfl)) ?_
  wtm_at "s"
  exact go_ret k) K
theorem b405 (h : H ds st μ) (n : Nat) (K : V → Mx α) : bnd (callN (n + 1) (.top 405) [.ref 19]) K μ = K (.int st.hi) μ := go_fin (fun k => by
  refine go_c (callS (s405 _ _) (by kernel_rfl)) ?_
  wtm_at "s"
  exact go_ret k) K
theorem b412 (h : H ds st μ) (n : Nat) (g : GI st t) (K : V → Mx α) : bnd (callN (n + 2) (.top 412) [.ref 19]) K μ = K (.int t.length) μ := go_fin (fun k => by
  refine go_c (callS (s412 _ _) (by kernel_rfl)) ?_
  wtm_at "s"
  exact go_b (g42 h _ g (go_ret k))) K
noncomputable def codeAt (lo hi : Int) (t : List Int) (p : Int) : Int := if p < lo ∨ hi ≤ p then -1 else (t[(p - 1).toNat]?).getD 0
/-- the bounds of what can be reached lie in the text -/
structure Bd (st : St) (t : List Int) : Prop where
  lo : 1 ≤ st.lo
  pl : st.lo ≤ st.pt
  ph : st.pt ≤ st.hi
  hi : st.hi ≤ t.length + 1
theorem at_split {n : Nat} (h : n < t.length) : ∃ x c z, t = x ++ c :: z ∧ x.length = n ∧ t[n]? = some c :=
  ⟨t.take n, t[n], t.drop (n + 1), by rw [← List.drop_eq_getElem_cons h, List.take_append_drop], List.length_take_of_le (Nat.le_of_lt h), List.getElem?_eq_getElem h⟩
theorem b419 (h : H ds st μ) (n : Nat) (g : GI st t) (b : Bd st t) (p : Int) (K : V → Mx α) : bnd (callN (n + 2) (.top 419) [.ref 19, .int p]) K μ = K (.int (codeAt st.lo st.hi t p)) μ := go_fin (fun k => by
  refine go_c (callS (s419 _ _ _) (by kernel_rfl)) ?_
  unfold codeAt at k
  wtm_at "s"
  by_cases z : p < st.lo
  · rw [if_pos (.inl z)] at k
    refine go_o1 (dt z) ?_
    wtm_at "s"
    exact go_ret k
  · refine go_o0 (df z) ?_
    wtm_at "s"
    by_cases y : st.hi ≤ p
    · rw [if_pos (.inr y)] at k
      refine go_o1 (dt y) ?_
      wtm_at "s"
      exact go_ret k
    · rw [if_neg (fun q => q.elim z y)] at k
      refine go_o0 (df y) ?_
      wtm_at "s"
      have h1 : 1 ≤ p := Int.le_trans b.lo (Int.not_lt.mp z)
      refine El_eeeaa (at_split (t := t) (n := (p - 1).toNat) (by have := b.hi; omega)) fun x c w e hx hc => ?_
      rw [hc] at k
      subst e
      exact go_b (g49 h _ g (by rw [hx]; omega) (go_ret k))) K
theorem b606 (h : H ds st μ) (n : Nat) (g : GI st t) (b : Bd st t) (p : Int) (K : V → Mx α) : bnd (callN (n + 3) (.top 606) [.ref 19, .int p]) K μ = K (.int (codeAt st.lo st.hi t p)) μ := go_fin (fun k => by
  refine go_c (callS (s606 _ _ _) (by kernel_rfl)) ?_
  wtm_at "s"
  exact go_eq (b419 h _ g b _ _) (go_ret k)) K
theorem b613 (h : H ds st μ) (n : Nat) (g : GI st t) (b : Bd st t) (p : Int) (hp : p ≤ st.hi) (K : V → Mx α) : bnd (callN (n + 3) (.top 613) [.ref 19, .int p]) K μ = K (.int (codeAt st.lo st.hi t (p - 1))) μ := go_fin (fun k => by
  refine go_c (callS (s613 _ _ _) (by kernel_rfl)) ?_
  wtm_at "s"
  refine go_eq (b405 h _ _) ?_
  wtm_at "s"
  refine go_j0 (df (Int.not_lt.mpr hp)) ?_
  wtm_at "s"
  exact go_eq (b419 h _ g b _ _) (go_ret k)) K
theorem b620 (h : H ds st μ) (n : Nat) (K : V → Mx α) : bnd (callN (n + 2) (.top 620) [.ref 19]) K μ = K (.bool (decide (st.pt = st.lo))) μ := go_fin (fun k => by
  refine go_c (callS (s620 _ _) (by kernel_rfl)) ?_
  wtm_at "s"
  refine go_eq (b398 h _ _) ?_
  wtm_at "s"
  exact go_ret k) K
theorem b627 (h : H ds st μ) (n : Nat) (K : V → Mx α) : bnd (callN (n + 2) (.top 627) [.ref 19]) K μ = K (.bool (decide (st.pt = st.hi))) μ := go_fin (fun k => by
  refine go_c (callS (s627 _ _) (by kernel_rfl)) ?_
  wtm_at "s"
  refine go_eq (b405 h _ _) ?_
  wtm_at "s"
  exact go_ret k) K
theorem or_t {c d : Prop} {_ : Decidable c} {_ : Decidable d} (h : c) : (decide c || decide d) = true := by rw [decide_eq_true h]; rfl
theorem or_f {c d : Prop} {_ : Decidable c} {_ : Decidable d} (h : ¬ c) : (decide c || decide d) = decide d := by rw [decide_eq_false h]; rfl
theorem b634 (h : H ds st μ) (n : Nat) (g : GI st t) (b : Bd st t) (K : V → Mx α) : bnd (callN (n + 4) (.top 634) [.ref 19]) K μ = K (.bool (decide (st.pt = st.lo) || decide (codeAt st.lo st.hi t (st.pt - 1) = 10))) μ := go_fin (fun k => by
  refine go_c (callS (s634 _ _) (by kernel_rfl)) (go_as (go_eq (b620 h _ _) ?_))
  wtm_at "s"
  by_cases z : st.pt = st.lo
  · rw [or_t z] at k
    refine go_o1 (dt z) ?_
    wtm_at "s"
    exact go_ret (by rw [dt z]; exact k)
  · rw [or_f z] at k
    refine go_o0 (df z) ?_
    wtm_at "s"
    refine go_eq (b613 h _ g b _ b.ph _) ?_
    wtm_at "s"
    exact go_ret k) K
theorem b641 (h : H ds st μ) (n : Nat) (g : GI st t) (b : Bd st t) (K : V → Mx α) : bnd (callN (n + 4) (.top 641) [.ref 19]) K μ = K (.bool (decide (st.pt = st.hi) || decide (codeAt st.lo st.hi t st.pt = 10))) μ := go_fin (fun k => by
  refine go_c (callS (s641 _ _) (by kernel_rfl)) (go_as (go_eq (b627 h _ _) ?_))
  wtm_at "s"
  by_cases z : st.pt = st.hi
  · rw [or_t z] at k
    refine go_o1 (dt z) ?_
    wtm_at "s"
    exact go_ret (by rw [dt z]; exact k)
  · rw [or_f z] at k
    refine go_o0 (df z) ?_
    wtm_at "s"
    refine go_eq (b606 h _ g b _ _) ?_
    wtm_at "s"
    exact go_ret k) K
theorem len_list {a : Nat} {xs : List V} (hm : μ[a]? = some (.list xs)) (K : V → Mx α) : bnd (callB "len" [.ref a]) K μ = K (.int xs.length) μ :=
  bnd_val ((bnd_val (a := .list xs) (μ' := μ) (rdM_val hm)).trans rfl)
theorem it0 {a : Nat} {x : V} {xs : List V} (hm : μ[a]? = some (.list (x :: xs))) (K : V → Mx α) : bnd (itemM (.ref a) (.int 0)) K μ = K x μ := item_bnd hm (by decide) rfl K
theorem it1 {a : Nat} {x y : V} {xs : List V} (hm : μ[a]? = some (.list (x :: y :: xs))) (K : V → Mx α) : bnd (itemM (.ref a) (.int 1)) K μ = K y μ := item_bnd hm (by decide) rfl K
theorem it2 {a : Nat} {x y z : V} {xs : List V} (hm : μ[a]? = some (.list (x :: y :: z :: xs))) (K : V → Mx α) : bnd (itemM (.ref a) (.int 2)) K μ = K z μ := item_bnd hm (by decide) rfl K
theorem b676 (n : Nat) {a : Nat} {p : Int} {w : V} (hm : μ[a]? = some (.list [.int p])) (K : V → Mx α) : bnd (callN (n + 3) (.top 676) [w, .ref a, .int 0]) K μ = K (.int p) μ := go_fin (fun k => by
  refine go_c (callS (s676 _ _ _ _) (by kernel_rfl)) (go_as (go_eq (len_list hm _) ?_))
  wtm_at "s"
  refine go_eq (it0 hm _) ?_
  wtm_at "s"
  exact go_eq (it0 hm _) (go_eq (b592 _ _ _) (go_ret k))) K
/-! the deeds that only read -/
theorem b683 (h : H ds st μ) (n : Nat) (w : V) (K : V → Mx α) : bnd (callN (n + 2) (.top 683) [.ref 4, w]) K μ = K (.int st.pt) μ := go_fin (fun k => by
  refine go_c (callS (s683 _ _ _) (by kernel_rfl)) (go_eq (b655 h _ _) ?_)
  wtm_at "s"
  exact go_ret k) K
theorem b690 (h : H ds st μ) (n : Nat) (w : V) (K : V → Mx α) : bnd (callN (n + 2) (.top 690) [.ref 4, w]) K μ = K (.int st.lo) μ := go_fin (fun k => by
  refine go_c (callS (s690 _ _ _) (by kernel_rfl)) (go_eq (b655 h _ _) ?_)
  wtm_at "s"
  exact go_eq (b398 h _ _) (go_ret k)) K
theorem b697 (h : H ds st μ) (n : Nat) (w : V) (K : V → Mx α) : bnd (callN (n + 2) (.top 697) [.ref 4, w]) K μ = K (.int st.hi) μ := go_fin (fun k => by
  refine go_c (callS (s697 _ _ _) (by kernel_rfl)) (go_eq (b655 h _ _) ?_)
  wtm_at "s"
  exact go_eq (b405 h _ _) (go_ret k)) K
theorem b816 (h : H ds st μ) (n : Nat) (g : GI st t) (w : V) (K : V → Mx α) : bnd (callN (n + 3) (.top 816) [.ref 4, w]) K μ = K (.int t.length) μ := go_fin (fun k => by
  refine go_c (callS (s816 _ _ _) (by kernel_rfl)) (go_eq (b655 h _ _) ?_)
  wtm_at "s"
  exact go_eq (b412 h _ g _) (go_ret k)) K
theorem b718 (h : H ds st μ) (n : Nat) (g : GI st t) (b : Bd st t) {a : Nat} {p : Int} (hm : μ[a]? = some (.list [.int p])) (K : V → Mx α) : bnd (callN (n + 4) (.top 718) [.ref 4, .ref a]) K μ = K (if codeAt st.lo st.hi t p = -1 then .top 135 else .int (codeAt st.lo st.hi t p)) μ := go_fin (fun k => by
  refine go_c (callS (s718 _ _ _) (by kernel_rfl)) (go_eq (b655 h _ _) ?_)
  wtm_at "s"
  refine go_eq (b676 _ hm _) ?_
  wtm_at "s"
  exact go_eq (b419 h _ g b _ _) (go_eq (b711 _ _ _) (go_ret k))) K
theorem b725 (h : H ds st μ) (n : Nat) (g : GI st t) (b : Bd st t) {a : Nat} {p : Int} (hm : μ[a]? = some (.list [.int p])) (K : V → Mx α) : bnd (callN (n + 4) (.top 725) [.ref 4, .ref a]) K μ = K (if codeAt st.lo st.hi t (p - 1) = -1 then .top 135 else .int (codeAt st.lo st.hi t (p - 1))) μ := go_fin (fun k => by
  refine go_c (callS (s725 _ _ _) (by kernel_rfl)) (go_eq (b655 h _ _) ?_)
  wtm_at "s"
  refine go_eq (b676 _ hm _) ?_
  wtm_at "s"
  exact go_eq (b419 h _ g b _ _) (go_eq (b711 _ _ _) (go_ret k))) K
theorem b732 (h : H ds st μ) (n : Nat) (g : GI st t) (b : Bd st t) (w : V) (K : V → Mx α) : bnd (callN (n + 3) (.top 732) [.ref 4, w]) K μ = K (.int (mx 0 (codeAt st.lo st.hi t st.pt))) μ := go_fin (fun k => by
  refine go_c (callS (s732 _ _ _) (by kernel_rfl)) (go_eq (b655 h _ _) ?_)
  wtm_at "s"
  refine go_eq (b655 h _ _) ?_
  wtm_at "s"
  refine go_eq (b419 h _ g b _ _) ?_
  wtm_at "s"
  exact go_ret k) K
theorem b739 (h : H ds st μ) (n : Nat) (g : GI st t) (b : Bd st t) (w : V) (K : V → Mx α) : bnd (callN (n + 3) (.top 739) [.ref 4, w]) K μ = K (.int (mx 0 (codeAt st.lo st.hi t (st.pt - 1)))) μ := go_fin (fun k => by
  refine go_c (callS (s739 _ _ _) (by kernel_rfl)) (go_eq (b655 h _ _) ?_)
  wtm_at "s"
  refine go_eq (b655 h _ _) ?_
  wtm_at "s"
  refine go_eq (b419 h _ g b _ _) ?_
  wtm_at "s"
  exact go_ret k) K
theorem b746 (h : H ds st μ) (n : Nat) (w : V) (K : V → Mx α) : bnd (callN (n + 3) (.top 746) [.ref 4, w]) K μ = K (if decide (st.pt = st.lo) = true then .top 138 else .top 135) μ := go_fin (fun k =>
  go_c (callS (s746 _ _ _) (by kernel_rfl)) (go_eq (b655 h _ _) (go_eq (b620 h _ _) (go_eq (b252 _ _ _) (go_ret k))))) K
theorem b753 (h : H ds st μ) (n : Nat) (w : V) (K : V → Mx α) : bnd (callN (n + 3) (.top 753) [.ref 4, w]) K μ = K (if decide (st.pt = st.hi) = true then .top 138 else .top 135) μ := go_fin (fun k =>
  go_c (callS (s753 _ _ _) (by kernel_rfl)) (go_eq (b655 h _ _) (go_eq (b627 h _ _) (go_eq (b252 _ _ _) (go_ret k))))) K
theorem b760 (h : H ds st μ) (n : Nat) (g : GI st t) (b : Bd st t) (w : V) (K : V → Mx α) : bnd (callN (n + 5) (.top 760) [.ref 4, w]) K μ = K (if (decide (st.pt = st.lo) || decide (codeAt st.lo st.hi t (st.pt - 1) = 10)) = true then .top 138 else .top 135) μ := go_fin (fun k =>
  go_c (callS (s760 _ _ _) (by kernel_rfl)) (go_eq (b655 h _ _) (go_eq (b634 h _ g b _) (go_eq (b252 _ _ _) (go_ret k))))) K
theorem b767 (h : H ds st μ) (n : Nat) (g : GI st t) (b : Bd st t) (w : V) (K : V → Mx α) : bnd (callN (n + 5) (.top 767) [.ref 4, w]) K μ = K (if (decide (st.pt = st.hi) || decide (codeAt st.lo st.hi t st.pt = 10)) = true then .top 138 else .top 135) μ := go_fin (fun k =>
  go_c (callS (s767 _ _ _) (by kernel_rfl)) (go_eq (b655 h _ _) (go_eq (b641 h _ g b _) (go_eq (b252 _ _ _) (go_ret k))))) K
end
/-! ## Steps that raise, loops, and the editing that touches no marker -/
noncomputable def clip (p lo hi : Int) : Int := mn (mx p lo) hi
section
variable {α β : Type} {ds : List Int} {st : St} {μ μ' : Mem} {Q : V → Mem → Prop} {t x y z w : List Int} {i j : Int}
theorem ex_new {o : MO} {K : V → Mx β} {s : V} {E : Mem → Prop} (h : H ds st μ) (hz : szOk o = true) (k : ∀ a μ', H ds st μ' → Keep st.L μ μ' → Ex (K (.ref a) μ') s E) : Ex (bnd (newM o) K μ) s E :=
  ex_eq (new_bnd hz K) (k μ.length _ (h.push hz) (Keep.push _ _ _))
theorem same_bnd {a : Nat} {xs : List V} (hm : μ[a]? = some (.list xs)) (K : Unit → Mx α) : bnd (sameM a xs) K μ = K () μ := by
  refine bnd_val ?_
  show bnd (getM a) _ μ = _
  refine (bnd_val (a := .list xs) (μ' := μ) (rdM_val hm)).trans ?_
  dsimp only
  rw [if_pos rfl]; rfl
theorem eachN {σ : Type} {a : Nat} {all : List V} {turn : V → σ → Mx (Option V × σ)} {s : σ} (hm : μ[a]? = some (.list all)) (K : Option V × σ → Mx α) : bnd (eachM a all turn [] s) K μ = K (none, s) μ :=
  bnd_val (same_bnd hm _)
theorem go_sn {K : Option V × Loc → Mx β} {Q : β → Mem → Prop} {ρ : Loc} {f : Loc → Mx β} (k : Go (f ρ μ) Q) : Go (seqK ((none : Option V), ρ) K f μ) Q := k
theorem go_ss {K : Option V × Loc → Mx β} {Q : β → Mem → Prop} {ρ : Loc} {v : V} {f : Loc → Mx β} (k : Go (K (some v, ρ) μ) Q) : Go (seqK (some v, ρ) K f μ) Q := k
theorem g433 (h : H ds st μ) (n : Nat) (p : Int) (k : ∀ μ', H ds (st.sBuf (clip p st.lo st.hi) st.lo st.hi st.t1 st.t2) μ' → Keep st.L μ μ' → Q (.int (clip p st.lo st.hi)) μ') : Go (callN (n + 1) (.top 433) [.ref 19, .int p] μ) Q := by
  refine go_c (callS (s433 _ _ _) (by kernel_rfl)) ?_
  wtm_at "s"
  refine st_pt h fun μ1 h1 k1 => ?_
  wtm_at "s"
  exact go_ret (k _ h1 k1)
theorem g461 (h : H ds st μ) (n : Nat) (k : ∀ μ', H ds (st.sBuf st.pt st.lo st.hi (st.t1 + 1) (st.t1 + 1)) μ' → Keep st.L μ μ' → Q .none μ') : Go (callN (n + 1) (.top 461) [.ref 19, .bool true] μ) Q := by
  refine go_c (callS (s461 _ _ _) (by kernel_rfl)) ?_
  wtm_at "s"
  refine st_t1 h fun μ1 h1 k1 => ?_
  wtm_at "s"
  exact st_t2 h1 fun μ2 h2 k2 => go_ret (k _ h2 (k1.trans k2))
theorem b493 (h : H ds st μ) (n : Nat) (K : V → Mx α) : bnd (callN (n + 1) (.top 493) [.ref 19]) K μ = K .none μ := go_fin (fun k => by
  refine go_c (callS (s493 _ _) (by kernel_rfl)) ?_
  wtm_at "s"
  exact go_ret k) K
theorem g500 (h : H ds st μ) (n : Nat) {a b : Int} (h1 : st.lo ≤ mn a b) (h2 : mx a b ≤ st.hi) (k : ∀ c μ', H ds st μ' → Keep st.L μ μ' → μ'[c]? = some (.tup [.int (mn a b), .int (mx a b)]) → Q (.ref c) μ') : Go (callN (n + 1) (.top 500) [.ref 19, .int a, .int b] μ) Q := by
  refine go_c (callS (s500 _ _ _ _) (by kernel_rfl)) ?_
  wtm_at "s"
  refine st_new h rfl fun c1 μ1 u1 k1 f1 m1 => ?_
  wtm_at "s"
  refine go_o0 (df (Int.not_lt.mpr h1)) ?_
  wtm_at "s"
  refine go_o0 (df (Int.not_lt.mpr h2)) ?_
  wtm_at "s"
  exact st_new u1 rfl fun c2 μ2 u2 k2 f2 m2 => go_ret (k _ _ u2 (k1.trans k2) m2)
theorem x500 (h : H ds st μ) (n : Nat) {a b : Int} {E : Mem → Prop} (hx : mn a b < st.lo ∨ st.hi < mx a b) (k : ∀ μ', H ds st μ' → Keep st.L μ μ' → E μ') : Ex (callN (n + 1) (.top 500) [.ref 19, .int a, .int b] μ) (.str "args-out-of-range") E := by
  refine ex_c (callS (s500 _ _ _ _) (by kernel_rfl)) (ex_eq (p_min _) (ex_eq (p_max _) (ex_new h rfl fun c1 μ1 u1 k1 => ?_)))
  refine ex_go (go_eq (rd3 u1 _) (go_eq (p_lt _) ?_))
  have fin : Ex ((if true = true then bnd (newM (.list [.int a, .int b])) fun x8 => raiseM [(V.str "args-out-of-range"), x8] else bnd (newM (.tup [.int (mn a b), .int (mx a b)])) fun x9 => ret x9) μ1) (.str "args-out-of-range") E :=
    ex_t rfl (ex_new u1 rfl fun c2 μ2 u2 k2 => ⟨_, μ2, rfl, k _ u2 (k1.trans k2)⟩)
  by_cases z : mn a b < st.lo
  · rw [dt z]; exact go_ret fin
  · rw [df z]
    refine go_eq (rd4 u1 _) (go_eq (p_gt _) ?_)
    rw [dt (hx.resolve_left z)]; exact go_ret fin
theorem lst_bnd {a : Nat} {xs : List V} (hm : μ[a]? = some (.list xs)) (K : V → Mx α) : bnd (callT "list" [.ref a]) K μ = bnd (newM (.list xs)) K μ := by
  show bnd (bnd (listOfM (.ref a)) _) K μ = _
  rw [bnd_assoc, listOf_bnd hm]
theorem e507 {C : CallT} {ρ : Loc} {K : Option V × Loc → Mx V} : kSs C (fnOf 507).names ((fnOf 507).body.drop 1) ρ K = K (none, ρ) := by kernel_rfl
theorem e514 {C : CallT} {ρ : Loc} {K : Option V × Loc → Mx V} : kSs C (fnOf 514).names ((fnOf 514).body.drop 2) ρ K = K (none, ρ) := by kernel_rfl
theorem g507 (h : H ds st μ) (n : Nat) (x y : V) (k : ∀ μ', H ds st μ' → Keep st.L μ μ' → Q .none μ') : Go (callN (n + 1) (.top 507) [.ref 19, x, y] μ) Q := by
  refine go_c (callS (s507 _ _ _ _) (by kernel_rfl)) ?_
  wtm_at "s"
  refine go_eq (lst_bnd h.fix.f28 _) (st_new h rfl fun c1 μ1 h1 k1 f1 m1 => ?_)
  exact go_eq (listOf_bnd m1 _) (go_eq (eachN m1 _) (go_sn (go_c e507 (go_ret (k _ h1 k1)))))
theorem g514 (h : H ds st μ) (n : Nat) (x y z : V) (k : ∀ t1 t2 μ', H ds (st.sBuf st.pt st.lo st.hi t1 t2) μ' → Keep st.L μ μ' → Q .none μ') : Go (callN (n + 2) (.top 514) [.ref 19, x, y, z] μ) Q := by
  refine go_c (callS (s514 _ _ _ _ _) (by kernel_rfl)) ?_
  wtm_at "s"
  refine go_b (g461 h _ fun μ1 h1 k1 => ?_)
  wtm_at "s"
  refine go_eq (lst_bnd h1.fix.f28 _) (st_new h1 rfl fun c1 μ2 h2 k2 f2 m2 => ?_)
  exact go_eq (listOf_bnd m2 _) (go_eq (eachN m2 _) (go_sn (go_c e514 (go_ret (k _ _ _ h2 (k1.trans k2))))))
theorem b535 (h : H ds st μ) (n : Nat) (x y : V) (K : V → Mx α) : bnd (callN (n + 1) (.top 535) [.ref 19, x, y]) K μ = K .none μ := go_fin (fun k => by
  refine go_c (callS (s535 _ _ _ _) (by kernel_rfl)) ?_
  wtm_at "s"
  exact go_ret k) K
theorem b542 (h : H ds st μ) (n : Nat) (x y z : V) (K : V → Mx α) : bnd (callN (n + 1) (.top 542) [.ref 19, x, y, z]) K μ = K .none μ := go_fin (fun k => by
  refine go_c (callS (s542 _ _ _ _ _) (by kernel_rfl)) ?_
  wtm_at "s"
  exact go_ret k) K
/-- signs come at point -/
theorem g528 (h : H ds st μ) (n : Nat) {c : Nat} (g : GI st (x ++ z)) (hp : st.pt = x.length + 1) (hc : μ[c]? = some (il w)) (hf : Free st.L c) (hw : (x ++ z).length + w.length ≤ 300) (k : ∀ cs gs ge μ', H ds ((st.sGap cs gs ge).sBuf st.pt st.lo (st.hi + w.length) st.t1 st.t2) μ' → GI (st.sGap cs gs ge) (x ++ (w ++ z)) → Keep st.L μ μ' → Q .none μ') : Go (callN (n + 3) (.top 528) [.ref 19, .int st.pt, .ref c] μ) Q := by
  refine go_c (callS (s528 _ _ _ _) (by kernel_rfl)) ?_
  wtm_at "s"
  refine go_b (g77 h _ g (by rw [hp, Int.add_sub_cancel]) hc hf hw fun cs gs ge μ1 h1 g1 k1 => ?_)
  wtm_at "s"
  refine go_eq (len_bnd (k1.get _ _ hf hc) _) ?_
  wtm_at "s"
  refine st_hi h1 fun μ2 h2 k2 => ?_
  wtm_at "s"
  exact go_fd (Int.lt_irrefl _) (go_ret (k _ _ _ _ h2 g1 (k1.trans k2)))
/-- signs go -/
theorem g521 (h : H ds st μ) (n : Nat) (g : GI st (x ++ (y ++ z))) (hi : i = x.length + 1) (hj : j = x.length + y.length + 1) (k : ∀ v cs gs ge μ', H ds ((st.sGap cs gs ge).sBuf (if i < st.pt then mx i (st.pt - (j - i)) else st.pt) st.lo (st.hi - (j - i)) st.t1 st.t2) μ' → GI (st.sGap cs gs ge) (x ++ z) → Keep st.L μ μ' → Q v μ') : Go (callN (n + 3) (.top 521) [.ref 19, .int i, .int j] μ) Q := by
  refine go_c (callS (s521 _ _ _ _) (by kernel_rfl)) ?_
  wtm_at "s"
  refine go_b (g84 h _ g (by rw [hi, Int.add_sub_cancel]) (by rw [hj, Int.add_sub_cancel]) fun v cs gs ge μ1 h1 g1 k1 => ?_)
  wtm_at "s"
  refine st_hi h1 fun μ2 h2 k2 => ?_
  wtm_at "s"
  by_cases z : i < st.pt
  · rw [if_pos z] at k
    refine go_td z ?_
    wtm_at "s"
    exact st_pt h2 fun μ3 h3 k3 => go_ret (k _ _ _ _ _ h3 g1 ((k1.trans k2).trans k3))
  · rw [if_neg z] at k
    exact go_fd z (go_ret (k _ _ _ _ _ h2 g1 (k1.trans k2)))
end
/-! ## The markers and the spots -/
noncomputable def kk : Int → Nat → List Int
  | _, 0 => []
  | i, n + 1 => i :: kk (i + 1) n
theorem keyInts_rows (ths : List Nat) : ∀ i : Int, keyInts (rowsL i ths) = some (kk i ths.length) := by
  induction ths with
  | nil => exact fun x_ => rfl
  | cons a r ih => exact fun i => (congrArg (Option.map (i :: ·)) (ih (i + 1))).trans rfl
theorem kk_len (n : Nat) : ∀ i : Int, (kk i n).length = n := by
  induction n with
  | zero => exact fun x_ => rfl
  | succ n ih => exact fun i => congrArg (· + 1) (ih (i + 1))
theorem sort_kk (n : Nat) : ∀ i : Int, sortI (kk i n) = kk i n := by
  induction n with
  | zero => exact fun x_ => rfl
  | succ n ih =>
    intro i
    show insI i (sortI (kk (i + 1) n)) = _
    rw [ih]
    cases n with
    | zero => rfl
    | succ m => exact if_pos (Int.le_of_lt (Int.lt_succ i))
theorem rows_get (ths : List Nat) : ∀ (i : Int) (j : Nat), getD (.int (i + j)) (rowsL i ths) = (ths[j]?).map V.ref := by
  induction ths with
  | nil => exact fun x_ x_ => rfl
  | cons a r ih =>
    intro i j
    show (if V.int i = .int (i + j) then some (V.ref a) else getD (.int (i + j)) (rowsL (i + 1) r)) = _
    cases j with
    | zero => exact if_pos (congrArg V.int (Int.add_zero i).symm)
    | succ j =>
      rw [if_neg (fun e => by injection e with e; omega), show i + ((j + 1 : Nat) : Int) = i + 1 + j from by omega]
      exact ih (i + 1) j
section
variable {α β : Type} {ds : List Int} {st : St} {μ μ' : Mem} {Q : β → Mem → Prop} {j a : Nat} {p : Int × Bool} {x : Int} {i : Int}
theorem nd_inj {l : List Nat} {j k a : Nat} (n : l.Nodup) (hj : l[j]? = some a) (hk : l[k]? = some a) : j = k := (List.getElem?_inj (List.getElem?_eq_some_iff.mp hj).1 n).mp (hj.trans hk.symm)
theorem H.ndT (h : H ds st μ) : st.ths.Nodup := (List.nodup_append.mp h.ev.nd).1
theorem H.ndS (h : H ds st μ) : st.sps.Nodup := (List.nodup_append.mp h.ev.nd).2.1
theorem H.disj (h : H ds st μ) {b k : Nat} (h1 : st.ths[j]? = some a) (h2 : st.sps[k]? = some b) : a ≠ b := (List.nodup_append.mp h.ev.nd).2.2 a (List.mem_of_getElem? h1) b (List.mem_of_getElem? h2)
theorem Fix.setL (f : Fix ds st μ) {o : MO} (ha : 168 ≤ a) {m s : List (Int × Bool)} : Fix ds ((st.sMk m).sSp s) (μ.set a o) :=
  have n {f : Nat} (hf : Nat.blt f 168 = true) : a ≠ f := fun e => Nat.not_le_of_lt (Nat.le_of_ble_eq_true hf) (e ▸ ha)
  ⟨nset (n rfl) f.f2, nset (n rfl) f.f3, nset (n rfl) f.f4, nset (n rfl) f.f17, nset (n rfl) f.f19, nset (n rfl) f.f21, nset (n rfl) f.f25, nset (n rfl) f.f26, nset (n rfl) f.f27, nset (n rfl) f.f28, nset (n rfl) f.f164, nset (n rfl) f.f166, nset (n rfl) f.f167⟩
theorem set_cases {γ : Type} {l : List γ} {k : Nat} {m m' : γ} (h : (l.set j m)[k]? = some m') : (k = j ∧ m' = m) ∨ (k ≠ j ∧ l[k]? = some m') := by
  by_cases e : k = j
  · subst e
    rw [List.getElem?_set_self (by rw [← List.length_set (i := k) (a := m)]; exact (List.getElem?_eq_some_iff.mp h).1)] at h
    exact .inl ⟨rfl, (Option.some.inj h).symm⟩
  · rw [List.getElem?_set_ne (fun q => e q.symm)] at h; exact .inr ⟨e, h⟩
/-- a marker's numbers are stored -/
theorem H.setM (h : H ds st μ) (hj : st.ths[j]? = some a) : H ds (st.sMk (st.mks.set j p)) (μ.set a (mkO (1 + j) p)) := by
  have ha := List.mem_append_left st.sps (List.mem_of_getElem? hj)
  refine ⟨h.fix.setL (m := st.mks.set j p) (s := st.spv) (h.ev.big a ha).1, ⟨fun hk hp => ?_, fun hk hp => nset (h.disj hj hk) (h.ev.sp hk hp), nset (fun e => h.ev.tn (e ▸ ha)) h.ev.tx, (List.length_set ..).symm ▸ h.ev.lm, h.ev.ls, h.ev.bigT, big_set h.ev.big, h.ev.nd, h.ev.tn, sz_set h.ev.sz rfl⟩⟩
  rcases set_cases hp with ⟨e, e2⟩ | ⟨e, e2⟩
  · subst e e2
    cases Option.some.inj (hj.symm.trans hk)
    exact List.getElem?_set_self (h.ev.big a ha).2
  · exact nset (fun q => e (nd_inj h.ndT hk (q ▸ hj))) (h.ev.mrk hk e2)
/-- a spot is stored -/
theorem H.setS (h : H ds st μ) (hj : st.sps[j]? = some a) : H ds (st.sSp (st.spv.set j p)) (μ.set a (spO p)) := by
  have ha := List.mem_append_right st.ths (List.mem_of_getElem? hj)
  refine ⟨h.fix.setL (m := st.mks) (s := st.spv.set j p) (h.ev.big a ha).1, ⟨fun hk hp => nset (h.disj hk hj).symm (h.ev.mrk hk hp), fun hk hp => ?_, nset (fun e => h.ev.tn (e ▸ ha)) h.ev.tx, h.ev.lm, (List.length_set ..).symm ▸ h.ev.ls, h.ev.bigT, big_set h.ev.big, h.ev.nd, h.ev.tn, sz_set h.ev.sz rfl⟩⟩
  rcases set_cases hp with ⟨e, e2⟩ | ⟨e, e2⟩
  · subst e e2
    cases Option.some.inj (hj.symm.trans hk)
    exact List.getElem?_set_self (h.ev.big a ha).2
  · exact nset (fun q => e (nd_inj h.ndS hk (q ▸ hj))) (h.ev.sp hk e2)
theorem mk_pos (hm : μ[a]? = some (mkO i p)) (K : V → Mx α) : bnd (attrM (.ref a) "position") K μ = K (.int p.1) μ := attr_bnd hm (by kernel_rfl) (by kernel_rfl) (by kernel_rfl) K
theorem mk_adv (hm : μ[a]? = some (mkO i p)) (K : V → Mx α) : bnd (attrM (.ref a) "advances") K μ = K (.bool p.2) μ := attr_bnd hm (by kernel_rfl) (by kernel_rfl) (by kernel_rfl) K
theorem mk_num (hm : μ[a]? = some (mkO i p)) (K : V → Mx α) : bnd (attrM (.ref a) "number") K μ = K (.int i) μ := attr_bnd hm (by kernel_rfl) (by kernel_rfl) (by kernel_rfl) K
theorem mk_buf (hm : μ[a]? = some (mkO i p)) (K : V → Mx α) : bnd (attrM (.ref a) "buffer") K μ = K (.ref 19) μ := attr_bnd hm (by kernel_rfl) (by kernel_rfl) (by kernel_rfl) K
theorem H.rows (h : H ds st μ) (hj : st.ths[j]? = some a) (K : V → Mx α) : bnd (itemM (.ref 27) (.int (1 + j))) K μ = K (.ref a) μ := ditem_int h.fix.f27 ((rows_get _ _ _).trans (congrArg (Option.map V.ref) hj)) K
theorem st_pos {K : Unit → Mx β} (h : H ds st μ) (hj : st.ths[j]? = some a) (hp : st.mks[j]? = some p) (k : ∀ μ', H ds (st.sMk (st.mks.set j (x, p.2))) μ' → Keep st.L μ μ' → Go (K () μ') Q) : Go (bnd (putAttrM (.ref a) "position" (.int x)) K μ) Q :=
  have ha := List.mem_append_left st.sps (List.mem_of_getElem? hj)
  go_eq (putA_bnd (fun e => absurd (h.ev.big a ha).1 (by rw [e]; decide)) (h.ev.mrk hj hp) (by kernel_rfl) (by kernel_rfl) K) (k _ (h.setM hj) (Keep.setL ha))
theorem st_spot {K : Unit → Mx β} (h : H ds st μ) (hj : st.sps[j]? = some a) (hp : st.spv[j]? = some p) (k : ∀ μ', H ds (st.sSp (st.spv.set j (x, p.2))) μ' → Keep st.L μ μ' → Go (K () μ') Q) : Go (bnd (putItemM (.ref a) (.int 0) (.int x)) K μ) Q :=
  have ha := List.mem_append_right st.ths (List.mem_of_getElem? hj)
  go_eq (putI_bnd (k := 0) (fun e => absurd (h.ev.big a ha).1 (by rw [e]; decide)) (h.ev.sp hj hp) ⟨by decide, by decide, show 0 < 2 from by decide⟩ (by kernel_rfl) K) (k _ (h.setS hj) (Keep.setL ha))
end
/-! ## Markers and spots go along -/
noncomputable def insM (p n : Int) (m : Int × Bool) : Int × Bool := if m.1 > p ∨ (m.1 = p ∧ m.2 = true) then (m.1 + n, m.2) else m
noncomputable def delM (s e : Int) (m : Int × Bool) : Int × Bool := if s < m.1 then (mx s (m.1 - (e - s)), m.2) else m
section
variable {γ : Type} {A B : List γ} {m : γ} {f : γ → γ}
theorem ms_get : (A.map f ++ m :: B)[A.length]? = some m := by
  rw [List.getElem?_append_right (Nat.le_of_eq (List.length_map ..)), List.length_map, Nat.sub_self]; rfl
theorem ms_set {x : γ} : (A.map f ++ m :: B).set A.length x = A.map f ++ x :: B := by
  rw [List.set_append_right _ _ (Nat.le_of_eq (List.length_map ..)), List.length_map, Nat.sub_self]; rfl
theorem ms_next : A.map f ++ f m :: B = (A ++ [m]).map f ++ B := by rw [List.map_append, List.append_assoc]; rfl
theorem ms_app : A ++ m :: B = A ++ [m] ++ B := by rw [List.append_assoc]; rfl
theorem set_same {l : List γ} {j : Nat} (h : l[j]? = some m) : l.set j m = l := by
  obtain ⟨hlt, he⟩ := List.getElem?_eq_some_iff.mp h
  rw [← he, List.set_getElem_self]
end
section
variable {α β : Type} {ds : List Int} {st : St} {μ μ' μ0 : Mem} {Q : V → Mem → Prop}
theorem sorted_bnd (h : H ds st μ) (hn : st.ths.length < 64) (K : V → Mx α) : bnd (callB "sorted" [.ref 27]) K μ = bnd (newM (il (kk 1 st.ths.length))) K μ := by
  show bnd (bnd (getM 27) _) K μ = _
  rw [bnd_assoc]
  refine (bnd_val (a := .dict (rowsL 1 st.ths)) (μ' := μ) (rdM_val h.fix.f27)).trans ?_
  dsimp only
  rw [keyInts_rows]
  dsimp only
  rw [if_pos (by rw [kk_len]; exact hn), sort_kk]
theorem g313 (h : H ds st μ) (n : Nat) (hn : st.ths.length < 64) (k : ∀ a μ', H ds st μ' → Keep st.L μ μ' → Free st.L a → μ'[a]? = some (il (kk 1 st.ths.length)) → Q (.ref a) μ') : Go (callN (n + 1) (.top 313) [.ref 26] μ) Q := by
  refine go_c (callS (s313 _ _) (by kernel_rfl)) ?_
  wtm_at "s"
  exact go_eq (sorted_bnd h hn _) (st_new h (szIl (by rw [kk_len]; exact Nat.le_trans (Nat.le_of_lt hn) (by decide))) fun a μ1 h1 k1 f1 m1 => go_ret (k _ _ h1 k1 f1 m1))
theorem look {x : Str} {v : V} {ρ : Loc} {K : V → Mx β} {Q : β → Mem → Prop} (k : Go (K v μ) Q) : Go (bnd (opt (List.lookup x (setL x v ρ))) K μ) Q := by rw [lookup_set, if_pos rfl]; exact k
theorem e341 {C : CallT} {ρ : Loc} {K : Option V × Loc → Mx V} : kSs C (fnOf 341).names ((fnOf 341).body.drop 1) ρ K = K (none, ρ) := by kernel_rfl
theorem e348 {C : CallT} {ρ : Loc} {K : Option V × Loc → Mx V} : kSs C (fnOf 348).names ((fnOf 348).body.drop 1) ρ K = K (none, ρ) := by kernel_rfl
/-- a loop over the markers -/
theorem mark_loop {turn : V → Loc → Mx (Option V × Loc)} {fr : Loc} {b : Nat} {f : Int × Bool → Int × Bool} (hb : μ0[b]? = some (il (kk 1 st.ths.length))) (fb : Free st.L b)
    (hT : ∀ (j a : Nat) (X : List (Int × Bool)) (m : Int × Bool) (ρ : Loc) (μ : Mem) {Q : Option V × Loc → Mem → Prop}, H ds (st.sMk X) μ → st.ths[j]? = some a → X[j]? = some m → (∀ ρ' μ', H ds (st.sMk (X.set j (f m))) μ' → Keep st.L μ μ' → Q (none, fr ++ ρ') μ') → Go (turn (.int (1 + j)) (fr ++ ρ) μ) Q)
    {Q : Option V × Loc → Mem → Prop} (k : ∀ ρ μ', H ds (st.sMk (st.mks.map f)) μ' → Keep st.L μ0 μ' → Q (none, ρ) μ') (B : List (Int × Bool)) : ∀ (A : List (Int × Bool)) (ρ : Loc) (μ : Mem), st.mks = A ++ B → H ds (st.sMk (A.map f ++ B)) μ → Keep st.L μ0 μ →
      Go (eachM b ((kk 1 st.ths.length).map .int) turn ((kk (1 + A.length) B.length).map .int) (fr ++ ρ) μ) Q := by
  induction B with
  | nil =>
    intro A ρ μ e h k0
    rw [List.append_nil] at e h
    rw [e] at k
    exact go_eq (same_bnd (k0.get _ _ fb hb) _) (go_ret (k _ _ h k0))
  | cons m B ih =>
    intro A ρ μ e h k0
    have hl : A.length < st.ths.length := by
      have := h.ev.lm
      rw [List.length_append, List.length_map] at this
      rw [this]; exact Nat.lt_add_of_pos_right (Nat.succ_pos _)
    refine go_eq (same_bnd (k0.get _ _ fb hb) _) (go_b (hT A.length _ _ m ρ μ h (List.getElem?_eq_getElem hl) ms_get fun ρ' μ' h' k' => ?_))
    rw [ms_set, ms_next] at h'
    have g := ih (A ++ [m]) ρ' μ' (e.trans ms_app) h' (k0.trans k')
    rw [List.length_append] at g
    exact g
theorem g341 (h : H ds st μ) (n : Nat) (hn : st.ths.length < 64) (p w : Int) (k : ∀ v μ', H ds (st.sMk (st.mks.map (insM p w))) μ' → Keep st.L μ μ' → Q v μ') : Go (callN (n + 2) (.top 341) [.ref 26, .int p, .int (p + w), .bool false] μ) Q := by
  refine go_c (callS (s341 _ _ _ _ _) (by kernel_rfl)) ?_
  wtm_at "s"
  refine go_b (g313 h _ hn fun b μ1 h1 k1 f1 m1 => ?_)
  refine go_eq (listOf_bnd m1 _) (go_b ?_)
  have e0 : st.ths.length = st.mks.length := h.ev.lm
  have L := mark_loop (ds := ds) (turn := forTurn (callN (n + 1)) (fnOf 341).names (stOf 341 0)) (fr := [("self", .ref 26), ("start", .int p), ("end", .int (p + w)), ("is_before", .bool false)]) (f := insM p w) m1 f1 ?_
    (Q := fun q μ' => Go (seqK q (fun r => ret (r.1.getD .none)) (fun ρ => kSs (callN (n + 1)) (fnOf 341).names ((fnOf 341).body.drop 1) ρ fun r => ret (r.1.getD .none)) μ') Q)
    (fun ρ μ2 h2 k2 => go_sn (go_c e341 (go_ret (k _ _ h2 (k1.trans k2))))) st.mks [] [] μ1 rfl h1 (Keep.refl _ _)
  · rw [← e0] at L; exact L
  · intro j a X m ρ μ Q h hj hm k
    show Go (forTurn (callN (n + 1)) (fnOf 341).names (stOf 341 0) (.int (1 + j)) (("self", .ref 26) :: ("start", .int p) :: ("end", .int (p + w)) :: ("is_before", .bool false) :: ρ : Loc) μ) _
    refine go_c (t341 ..) ?_
    have hM := h.ev.mrk hj hm
    unfold insM at k
    wtm_at "s"
    refine look (go_eq (h.rows hj _) ?_)
    refine go_d (v := decide (m.1 > p ∨ (m.1 = p ∧ m.2 = true))) ?_ ?_
    · refine look (go_eq (mk_pos hM _) ?_)
      wtm_at "s"
      by_cases z : p < m.1
      · exact go_O1 (dt z) (go_ret ⟨(decide_eq_true (.inl z)).symm, rfl⟩)
      · refine go_O0 (df z) (go_as (look (go_as (go_eq (mk_pos hM _) ?_))))
        wtm_at "s"
        by_cases y : m.1 = p
        · refine go_a1 (dt y) (go_as ?_)
          wtm_at "s"
          refine look (go_as (go_eq (mk_adv hM _) ?_))
          wtm_at "s"
          cases y2 : m.2
          · wtm_at "s"
            exact go_ret ⟨(decide_eq_false (fun q => q.elim z fun q => Bool.false_ne_true q.2)).symm, rfl⟩
          · wtm_at "s"
            exact go_ret ⟨(decide_eq_true (.inr ⟨y, rfl⟩)).symm, rfl⟩
        · refine go_a0 (df y) ?_
          wtm_at "s"
          exact go_ret ⟨(decide_eq_false (fun q => q.elim z fun q => y q.1)).symm, rfl⟩
    · by_cases z : m.1 > p ∨ (m.1 = p ∧ m.2 = true)
      · rw [if_pos z] at k
        refine go_td z (look (go_eq (mk_pos hM _) ?_))
        wtm_at "s"
        refine look (st_pos h hj hm fun μ2 h2 k2 => go_ret (k _ _ ?_ k2))
        rw [show m.1 + (p + w) - p = m.1 + w from by omega] at h2
        exact h2
      · rw [if_neg z] at k
        exact go_fd z (go_ret (k _ _ (by rw [set_same hm]; exact h) (Keep.refl _ _)))
theorem g348 (h : H ds st μ) (n : Nat) (hn : st.ths.length < 64) {s e : Int} (hse : s ≤ e) (k : ∀ v μ', H ds (st.sMk (st.mks.map (delM s e))) μ' → Keep st.L μ μ' → Q v μ') : Go (callN (n + 2) (.top 348) [.ref 26, .int s, .int e] μ) Q := by
  refine go_c (callS (s348 _ _ _ _) (by kernel_rfl)) ?_
  wtm_at "s"
  refine go_b (g313 h _ hn fun b μ1 h1 k1 f1 m1 => ?_)
  refine go_eq (listOf_bnd m1 _) (go_b ?_)
  have e0 : st.ths.length = st.mks.length := h.ev.lm
  have L := mark_loop (ds := ds) (turn := forTurn (callN (n + 1)) (fnOf 348).names (stOf 348 0)) (fr := [("self", .ref 26), ("start", .int s), ("end", .int e)]) (f := delM s e) m1 f1 ?_
    (Q := fun q μ' => Go (seqK q (fun r => ret (r.1.getD .none)) (fun ρ => kSs (callN (n + 1)) (fnOf 348).names ((fnOf 348).body.drop 1) ρ fun r => ret (r.1.getD .none)) μ') Q)
    (fun ρ μ2 h2 k2 => go_sn (go_c e348 (go_ret (k _ _ h2 (k1.trans k2))))) st.mks [] [] μ1 rfl h1 (Keep.refl _ _)
  · rw [← e0] at L; exact L
  · intro j a X m ρ μ Q h hj hm k
    show Go (forTurn (callN (n + 1)) (fnOf 348).names (stOf 348 0) (.int (1 + j)) (("self", .ref 26) :: ("start", .int s) :: ("end", .int e) :: ρ : Loc) μ) _
    refine go_c (t348 ..) ?_
    have hM := h.ev.mrk hj hm
    unfold delM at k
    wtm_at "s"
    refine look (go_eq (h.rows hj _) (look (go_eq (mk_pos hM _) ?_)))
    wtm_at "s"
    by_cases z : e < m.1
    · have h1 : s < m.1 := Int.lt_of_le_of_lt hse z
      rw [if_pos h1] at k
      refine go_td z (look (go_eq (mk_pos hM _) ?_))
      wtm_at "s"
      refine look (st_pos h hj hm fun μ2 h2 k2 => go_ret (k _ _ ?_ k2))
      rw [show mx s (m.1 - (e - s)) = m.1 - (e - s) from if_pos (by omega)]
      exact h2
    · refine go_fd z (look (go_eq (mk_pos hM _) ?_))
      wtm_at "s"
      by_cases y : s < m.1
      · rw [if_pos y, show mx s (m.1 - (e - s)) = s from if_neg (by omega)] at k
        exact go_td y (look (st_pos h hj hm fun μ2 h2 k2 => go_ret (k _ _ h2 k2)))
      · rw [if_neg y] at k
        exact go_fd y (go_ret (k _ _ (by rw [set_same hm]; exact h) (Keep.refl _ _)))
end
/-! ## Editing, the gap hidden -/
noncomputable abbrev St.hid (st : St) (cs : List Int) (gs ge t1 t2 : Int) : St := (st.sGap cs gs ge).sBuf st.pt st.lo st.hi t1 t2
inductive HG (ds : List Int) (st : St) (t : List Int) (μ : Mem) : Prop
  | mk (cs : List Int) (gs ge t1 t2 : Int) (h : H ds (st.hid cs gs ge t1 t2) μ) (g : GJ cs gs ge t)
theorem insM_zero (p : Int) (m : Int × Bool) : insM p 0 m = m := by
  unfold insM
  split
  · rw [Int.add_zero]
  · rfl
theorem delM_same (s : Int) (m : Int × Bool) : delM s s m = m := by
  unfold delM
  split
  · rw [Int.sub_self, Int.sub_zero, show mx s m.1 = m.1 from if_pos ‹_›]
  · rfl
theorem map_id_of {f : Int × Bool → Int × Bool} (h : ∀ m, f m = m) (l : List (Int × Bool)) : l.map f = l := by
  rw [show f = id from funext h, List.map_id]
noncomputable abbrev St.sE (st : St) (pt lo hi : Int) (mks : List (Int × Bool)) : St := (st.sBuf pt lo hi st.t1 st.t2).sMk mks
noncomputable abbrev insB (st : St) (n : Nat) : St := st.sE (st.pt + n) st.lo (st.hi + n) (st.mks.map (insM st.pt n))
noncomputable abbrev delB (st : St) (s e : Int) : St := st.sE (if s < st.pt then mx s (st.pt - (e - s)) else st.pt) st.lo (st.hi - (e - s)) (st.mks.map (delM s e))
theorem mn_self {a : Int} : mn a a = a := if_neg (Int.lt_irrefl _)
theorem mx_self {a : Int} : mx a a = a := if_neg (Int.lt_irrefl _)
theorem mn_mx {a b : Int} : mn a b ≤ mx a b := by unfold mn mx; split <;> split <;> omega
section
variable {α β : Type} {ds : List Int} {st : St} {μ μ' : Mem} {Q : V → Mem → Prop} {t x y z w : List Int} {i j : Int}
theorem HG.elim (H0 : HG ds st t μ) {P : Prop} (k : ∀ cs gs ge t1 t2, H ds (st.hid cs gs ge t1 t2) μ → GJ cs gs ge t → P) : P := by
  obtain ⟨cs, gs, ge, t1, t2, h, g⟩ := H0
  exact k _ _ _ _ _ h g
theorem go_tup2 {a b : V} {F : V → V → Mx β} {Q : β → Mem → Prop} (k : Go (F a b μ) Q) : Go (tup2 [a, b] F μ) Q := k
theorem h557 (H0 : HG ds st (x ++ z) μ) (b : Bd st (x ++ z)) (hp : st.pt = x.length + 1) (n : Nat) {c : Nat} (hc : μ[c]? = some (il w)) (hf : Free st.L c) (hw : (x ++ z).length + w.length ≤ 300) (hn : st.ths.length < 64) (k : ∀ μ', HG ds (insB st w.length) (x ++ (w ++ z)) μ' → Keep st.L μ μ' → Q .none μ') : Go (callN (n + 5) (.top 557) [.ref 19, .ref c] μ) Q := H0.elim fun cs gs ge t1 t2 h g => by
  refine go_c (callS (s557 _ _ _) (by kernel_rfl)) (go_eq (rd2 h _) (go_b (go_c (callS (s549 _ _ _ _ _ _) (by kernel_rfl)) (go_eq (b493 h _ _) ?_))))
  refine go_b (g500 h _ (a := st.pt) (b := st.pt) (mn_self.symm ▸ b.pl) (mx_self.symm ▸ b.ph) fun x_ μ1 h1 k1 x_ => ?_)
  have hc1 := k1.get _ _ hf hc
  refine go_eq (len_bnd hc1 _) ?_
  wtm_at "s"
  by_cases z0 : (w.length : Int) = 0
  · have z' : w = [] := List.eq_nil_of_length_eq_zero (Int.ofNat.inj z0)
    subst z'
    refine go_td z0 (go_ret (go_ret (k _ ⟨cs, gs, ge, t1, t2, ?_, g⟩ k1)))
    show H ds ((st.hid cs gs ge t1 t2).sE (st.pt + 0) st.lo (st.hi + 0) (st.mks.map (insM st.pt 0))) μ1
    rw [map_id_of (insM_zero st.pt), Int.add_zero, Int.add_zero]
    exact h1
  · refine go_fd z0 (go_b (g507 h1 _ _ _ fun μ2 h2 k2 => ?_))
    have hc2 := k2.get _ _ hf hc1
    refine go_b (g528 h2 _ g hp hc2 hf hw fun cs' gs' ge' μ3 h3 g3 k3 => ?_)
    have hc3 := k3.get _ _ hf hc2
    wtm_at "s"
    refine go_eq (len_bnd hc3 _) ?_
    wtm_at "s"
    refine st_pt h3 fun μ4 h4 k4 => ?_
    have hc4 := k4.get _ _ hf hc3
    wtm_at "s"
    refine go_eq (len_bnd hc4 _) ?_
    wtm_at "s"
    refine go_b (g341 h4 _ hn _ _ fun x_ μ5 h5 k5 => ?_)
    have hc5 := k5.get _ _ hf hc4
    refine go_eq (len_bnd hc5 _) (go_eq (b542 h5 _ _ _ _ _) (go_eq (len_bnd hc5 _) ?_))
    wtm_at "s"
    exact go_b (g514 h5 _ _ _ _ fun t1' t2' μ6 h6 k6 => go_ret (go_ret (k _ ⟨cs', gs', ge', t1', t2', h6, g3⟩ (((((k1.trans k2).trans k3).trans k4).trans k5).trans k6))))
theorem h564 (H0 : HG ds st (x ++ (y ++ z)) μ) (n : Nat) {a b : Int} (hi : mn a b = x.length + 1) (hj : mx a b = x.length + y.length + 1) (r1 : st.lo ≤ mn a b) (r2 : mx a b ≤ st.hi) (hn : st.ths.length < 64) (k : ∀ v μ', HG ds (delB st (mn a b) (mx a b)) (x ++ z) μ' → Keep st.L μ μ' → Q v μ') : Go (callN (n + 4) (.top 564) [.ref 19, .int a, .int b] μ) Q := H0.elim fun cs gs ge t1 t2 h g => by
  have hse : mn a b ≤ mx a b := mn_mx
  refine go_c (callS (s564 _ _ _ _) (by kernel_rfl)) (go_eq (b493 h _ _) (go_b (g500 h _ r1 r2 fun x_ μ1 h1 k1 m1 => ?_)))
  clear r1 r2
  generalize mn a b = s at *
  generalize mx a b = e at *
  refine go_eq (tup_bnd m1 _) (go_tup2 (go_eq (p_eq _) ?_))
  by_cases z0 : s = e
  · subst z0
    have z' : y = [] := List.eq_nil_of_length_eq_zero (by omega)
    subst z'
    refine go_td rfl (st_new h1 rfl fun x_ μ2 h2 k2 x_ x_ => go_ret (k _ _ ⟨cs, gs, ge, t1, t2, ?_, g⟩ (k1.trans k2)))
    have e1 : (if s < st.pt then mx s (st.pt - (s - s)) else st.pt) = st.pt := by
      rw [Int.sub_self, Int.sub_zero]; split
      · exact if_pos ‹_›
      · rfl
    show H ds ((st.hid cs gs ge t1 t2).sE (if s < st.pt then mx s (st.pt - (s - s)) else st.pt) st.lo (st.hi - (s - s)) (st.mks.map (delM s s))) μ2
    rw [e1, map_id_of (delM_same s), Int.sub_self, Int.sub_zero]
    exact h2
  · refine go_fd z0 (go_b (g507 h1 _ _ _ fun μ2 h2 k2 => go_b (g521 h2 _ g hi hj fun v cs' gs' ge' μ3 h3 g3 k3 => ?_)))
    wtm_at "s"
    refine go_b (g348 h3 _ hn hse fun x_ μ4 h4 k4 => go_eq (b535 h4 _ _ _ _) ?_)
    wtm_at "s"
    exact go_b (g514 h4 _ _ _ _ fun t1' t2' μ5 h5 k5 => go_ret (k _ _ ⟨cs', gs', ge', t1', t2', h5, g3⟩ ((((k1.trans k2).trans k3).trans k4).trans k5)))
theorem x564 (H0 : HG ds st t μ) (n : Nat) {a b : Int} {E : Mem → Prop} (hx : mn a b < st.lo ∨ st.hi < mx a b) (k : ∀ μ', HG ds st t μ' → E μ') : Ex (callN (n + 4) (.top 564) [.ref 19, .int a, .int b] μ) (.str "args-out-of-range") E := H0.elim fun cs gs ge t1 t2 h g =>
  ex_c (callS (s564 _ _ _ _) (by kernel_rfl)) (ex_eq (b493 h _ _) (ex_bnd (x500 h _ hx fun μ1 h1 x_ => k _ ⟨cs, gs, ge, t1, t2, h1, g⟩)))
theorem h571 (H0 : HG ds st t μ) (n : Nat) (hn : st.ths.length < 64) (k : ∀ v μ', HG ds (st.sE (if 1 < st.pt then mx 1 (st.pt - t.length) else st.pt) 1 1 (st.mks.map (delM 1 (t.length + 1)))) [] μ' → Keep st.L μ μ' → Q v μ') : Go (callN (n + 5) (.top 571) [.ref 19] μ) Q := H0.elim fun cs gs ge t1 t2 h g => by
  refine go_c (callS (s571 _ _) (by kernel_rfl)) (go_eq (b493 h _ _) ?_)
  wtm_at "s"
  refine go_eq (b412 h _ g _) ?_
  wtm_at "s"
  refine st_new h rfl fun x_ μ1 h1 k1 x_ x_ => st_lo h1 fun μ2 h2 k2 => st_hi h2 fun μ3 h3 k3 => ?_
  wtm_at "s"
  have e1 : mn 1 ((t.length : Int) + 1) = 1 := if_neg (Int.not_lt.mpr (Int.le_add_of_nonneg_left (Int.natCast_nonneg _)))
  have e2 : mx 1 ((t.length : Int) + 1) = t.length + 1 := by unfold mx; split <;> omega
  have e3 : (t.length : Int) + 1 - 1 = t.length := Int.add_sub_cancel ..
  have key := h564 (st := st.sE st.pt 1 (t.length + 1) st.mks) (x := []) (y := t) (z := []) (μ := μ3) (ds := ds) (Q := Q) ⟨cs, gs, ge, t1, t2, h3, by rw [List.append_nil]; exact g⟩ n (a := 1) (b := t.length + 1)
  rw [e1, e2] at key
  refine go_b (go_m (key rfl (by rw [List.length_nil]; exact congrArg (· + 1) (Int.zero_add _).symm) (Int.le_refl _) (Int.le_refl _) hn fun v μ4 h4 k4 => ?_) fun v μ' q => go_ret q)
  refine k _ _ (show HG ds (st.sE (if 1 < st.pt then mx 1 (st.pt - t.length) else st.pt) 1 1 (st.mks.map (delM 1 (t.length + 1)))) [] μ4 from ?_) (((k1.trans k2).trans k3).trans k4)
  have h5 : HG ds (st.sE (if 1 < st.pt then mx 1 (st.pt - (t.length + 1 - 1)) else st.pt) 1 (t.length + 1 - (t.length + 1 - 1)) (st.mks.map (delM 1 (t.length + 1)))) [] μ4 := h4
  rw [e3, show (t.length : Int) + 1 - t.length = 1 from by omega] at h5
  exact h5
theorem h578 (H0 : HG ds st t μ) (n : Nat) {a b : Int} (r1 : 1 ≤ mn a b) (r2 : mx a b ≤ t.length + 1) (k : ∀ v μ', HG ds (st.sE (clip st.pt (mn a b) (mx a b)) (mn a b) (mx a b) st.mks) t μ' → Keep st.L μ μ' → Q v μ') : Go (callN (n + 3) (.top 578) [.ref 19, .int a, .int b] μ) Q := H0.elim fun cs gs ge t1 t2 h g => by
  refine go_c (callS (s578 _ _ _ _) (by kernel_rfl)) ?_
  wtm_at "s"
  refine st_new h rfl fun x_ μ1 h1 k1 x_ x_ => ?_
  wtm_at "s"
  refine go_o0 (df (Int.not_lt.mpr r1)) ?_
  wtm_at "s"
  refine go_eq (b412 h1 _ g _) ?_
  wtm_at "s"
  refine go_o0 (df (Int.not_lt.mpr r2)) ?_
  wtm_at "s"
  refine st_new h1 rfl fun x_ μ2 h2 k2 x_ x_ => st_lo h2 fun μ3 h3 k3 => st_hi h3 fun μ4 h4 k4 => ?_
  wtm_at "s"
  exact go_b (g433 h4 _ _ fun μ5 h5 k5 => go_ret (k _ _ ⟨cs, gs, ge, t1, t2, h5, g⟩ ((((k1.trans k2).trans k3).trans k4).trans k5)))
theorem x578 (H0 : HG ds st t μ) (n : Nat) {a b : Int} {E : Mem → Prop} (hx : mn a b < 1 ∨ t.length + 1 < mx a b) (k : ∀ μ', HG ds st t μ' → E μ') : Ex (callN (n + 3) (.top 578) [.ref 19, .int a, .int b] μ) (.str "args-out-of-range") E := H0.elim fun cs gs ge t1 t2 h g => by
  refine ex_c (callS (s578 _ _ _ _) (by kernel_rfl)) (ex_eq (p_min _) (ex_eq (p_max _) (ex_new h rfl fun x_ μ1 h1 x_ => ex_go ?_)))
  refine go_m (R := fun c μ' => c = true ∧ μ' = μ1) ?_ fun c μ' ⟨e1, e2⟩ => by
    rw [e1, e2]
    exact ex_t rfl (ex_new h1 rfl fun x_ μ2 h2 x_ => ⟨_, μ2, rfl, k _ ⟨cs, gs, ge, t1, t2, h2, g⟩⟩)
  wtm_at "s"
  by_cases z0 : mn a b < 1
  · exact go_O1 (dt z0) (go_ret ⟨rfl, rfl⟩)
  · refine go_O0 (df z0) ?_
    wtm_at "s"
    refine go_eq (b412 h1 _ g _) ?_
    wtm_at "s"
    exact go_O1 (dt (hx.resolve_left z0)) (go_ret ⟨rfl, rfl⟩)
theorem h585 (H0 : HG ds st t μ) (n : Nat) (k : ∀ v μ', HG ds (st.sE st.pt 1 (t.length + 1) st.mks) t μ' → Keep st.L μ μ' → Q v μ') : Go (callN (n + 3) (.top 585) [.ref 19] μ) Q := H0.elim fun cs gs ge t1 t2 h g => by
  refine go_c (callS (s585 _ _) (by kernel_rfl)) ?_
  wtm_at "s"
  refine go_eq (b412 h _ g _) ?_
  wtm_at "s"
  exact st_new h rfl fun x_ μ1 h1 k1 x_ x_ => st_lo h1 fun μ2 h2 k2 => st_hi h2 fun μ3 h3 k3 => go_ret (k _ _ ⟨cs, gs, ge, t1, t2, h3, g⟩ ((k1.trans k2).trans k3))
end
/-! ## New instances, and the deeds that change -/
noncomputable def txO (c : Nat) : MO := .inst 178 [("codes", .ref c), ("spans", .none)]
section
variable {α β : Type} {ds : List Int} {st : St} {μ μ' : Mem} {Q : V → Mem → Prop} {t x y z w : List Int} {i j : Int}
/-- a field of the newest object -/
theorem new_put {C : Addr} {fs : Loc} {x : Str} {v : V} {K : Unit → Mx β} {Q : β → Mem → Prop} (h : H ds st μ) (hk : (fieldsT C).contains x = true) (hz : szOk (.inst C (setL x v fs)) = true) (k : Go (K () (μ ++ [.inst C (setL x v fs)])) Q) : Go (bnd (putAttrM (.ref μ.length) x v) K (μ ++ [.inst C fs])) Q := by
  refine go_eq (putA_bnd (fun e => absurd h.len (by rw [e]; decide)) (last_get _) hk hz K) ?_
  rw [List.set_append_right _ _ (Nat.le_refl _), Nat.sub_self]
  exact k
theorem callC {n : Nat} {a i : Addr} {args : List V} (h1 : (fnAt a).isNone = true) (h2 : a ≠ 483) (h3 : methT a "__init__" = some i) : callN (n + 1) (.top a) args = bnd (newM (.inst a [])) fun v => bnd (callN n (.top i) (v :: args)) fun
    | .none => ret v
    | _ => stuck := by
  rw [callN]
  dsimp only
  cases h : fnAt a with
  | none =>
    dsimp only
    rw [if_neg h2, h3]
    try rfl
  | some f => rw [h] at h1; cases h1
theorem g178 (h : H ds st μ) (n : Nat) (c : Nat) (k : ∀ a μ', H ds st μ' → Keep st.L μ μ' → Free st.L a → μ'[a]? = some (txO c) → Q (.ref a) μ') : Go (callN (n + 2) (.top 178) [.ref c] μ) Q := by
  refine go_c (callC (by kernel_rfl) (by decide) (i := 175) (by kernel_rfl)) (go_eq (new_bnd (by rfl) _) (go_b (go_c (callS (s175 _ _ _) (by kernel_rfl)) ?_)))
  refine new_put h (by kernel_rfl) (by kernel_rfl) (new_put h (by kernel_rfl) (by kernel_rfl) (go_ret (go_ret ?_)))
  exact k _ _ (h.push (by kernel_rfl)) (Keep.push _ _ _) h.free (last_get _)
theorem isT {a : Nat} {c : Nat} (hm : μ[a]? = some (txO c)) (K : V → Mx α) : bnd (callB "isinstance" [.ref a, .top 178]) K μ = K (.bool true) μ := by
  refine bnd_val ?_
  show bnd (bnd (getM a) _) _ μ = _
  rw [bnd_assoc]
  exact (bnd_val (a := txO c) (μ' := μ) (rdM_val hm)).trans (by kernel_rfl)
theorem tx_codes {a : Nat} {c : Nat} (hm : μ[a]? = some (txO c)) (K : V → Mx α) : bnd (attrM (.ref a) "codes") K μ = K (.ref c) μ := attr_bnd hm (by kernel_rfl) (by kernel_rfl) (by kernel_rfl) K
theorem e774 {C : CallT} {ρ : Loc} {K : Option V × Loc → Mx V} : kSs C (fnOf 774).names ((fnOf 774).body.drop 2) ρ K = K (some (.top 135), ρ) := by kernel_rfl
theorem HG.cur (H0 : HG ds st t μ) (n : Nat) (K : V → Mx α) : bnd (callN (n + 1) (.top 655) [.ref 4]) K μ = K (.ref 19) μ := H0.elim fun x_ x_ x_ x_ x_ h x_ => b655 h n K
theorem sg_new {o : MO} {K : V → Mx β} {Q : β → Mem → Prop} (H0 : HG ds st t μ) (hz : szOk o = true) (k : ∀ a μ', HG ds st t μ' → Keep st.L μ μ' → Free st.L a → μ'[a]? = some o → Go (K (.ref a) μ') Q) : Go (bnd (newM o) K μ) Q :=
  H0.elim fun cs gs ge t1 t2 h g => st_new h hz fun a μ' h' k' f m => k a μ' ⟨cs, gs, ge, t1, t2, h', g⟩ k' f m
theorem each_one {σ : Type} {a : Nat} {v : V} {turn : V → σ → Mx (Option V × σ)} {s : σ} {Q : Option V × σ → Mem → Prop} (hm : μ[a]? = some (.list [v])) (k : Go (turn v s μ) fun q μ' => ∃ s', q = (none, s') ∧ μ'[a]? = some (.list [v]) ∧ Q (none, s') μ') : Go (eachM a [v] turn [v] s μ) Q := by
  refine go_eq (same_bnd hm _) (go_b (go_m k fun q μ' e => ?_))
  obtain ⟨s', rfl, hm', q⟩ := e
  exact go_eq (same_bnd hm' _) (go_ret q)
/-- insert, of one string -/
theorem d774 (H0 : HG ds st (x ++ z) μ) (b : Bd st (x ++ z)) (hp : st.pt = x.length + 1) (n : Nat) {c a r : Nat} (hr : μ[r]? = some (.list [.ref a])) (fr : Free st.L r) (hx : μ[a]? = some (txO c)) (hc : μ[c]? = some (il w)) (hw : (x ++ z).length + w.length ≤ 300) (hn : st.ths.length < 64) (k : ∀ μ', HG ds (insB st w.length) (x ++ (w ++ z)) μ' → Keep st.L μ μ' → Q (.top 135) μ') : Go (callN (n + 6) (.top 774) [.ref 4, .ref r] μ) Q := by
  refine go_c (callS (s774 _ _ _) (by kernel_rfl)) (go_eq (H0.cur _ _) (go_eq (listOf_bnd hr _) (go_b (each_one hr ?_))))
  refine go_c (t774 _ _ _ _ _ []) ?_
  refine look (go_eq (isT hx _) ?_)
  wtm_at "s"
  refine look (go_eq (tx_codes hx _) (go_eq (lst_bnd hc _) (sg_new H0 (szIl (Nat.le_trans (Nat.le_trans (Nat.le_add_left _ _) hw) (by decide))) fun y μ1 h1 k1 f1 m1 => ?_)))
  exact go_b (h557 h1 b hp _ m1 f1 hw hn fun μ2 h2 k2 => go_ret ⟨_, rfl, k2.get _ _ fr (k1.get _ _ fr hr), go_sn (go_c e774 (go_ret (k _ h2 (k1.trans k2))))⟩)
theorem ex_look {x : Str} {v : V} {ρ : Loc} {K : V → Mx β} {s : V} {E : Mem → Prop} (k : Ex (K v μ) s E) : Ex (bnd (opt (List.lookup x (setL x v ρ))) K μ) s E := by rw [lookup_set, if_pos rfl]; exact k
theorem x662 (H0 : HG ds st t μ) (n : Nat) {E : Mem → Prop} (k : ∀ μ', HG ds st t μ' → E μ') : Ex (callN (n + 2) (.top 662) [.top 135] μ) (.str "wrong-type-argument") E := H0.elim fun cs gs ge t1 t2 h g => by
  refine ex_c (callS (s662 _ _) (by kernel_rfl)) (ex_go (go_eq (b245n _ _) ?_))
  wtm_at "s"
  exact go_ret (ex_t rfl (ex_new h rfl fun x_ μ1 h1 x_ => ⟨_, μ1, rfl, k _ ⟨cs, gs, ge, t1, t2, h1, g⟩⟩))
theorem x774 (H0 : HG ds st t μ) (n : Nat) {r : Nat} {E : Mem → Prop} (hr : μ[r]? = some (.list [.top 135])) (k : ∀ μ', HG ds st t μ' → E μ') : Ex (callN (n + 3) (.top 774) [.ref 4, .ref r] μ) (.str "wrong-type-argument") E := by
  refine ex_c (callS (s774 _ _ _) (by kernel_rfl)) (ex_eq (H0.cur _ _) (ex_eq (listOf_bnd hr _) (ex_bnd (ex_eq (same_bnd hr _) (ex_bnd ?_)))))
  exact ex_c (t774 _ _ _ _ _ []) (ex_look (ex_eq (p_n1 _) (ex_eq (p_boo _) (ex_f Bool.false_ne_true (ex_look (ex_bnd (x662 H0 _ k)))))))
theorem sg_mul {a : Nat} {v : Int} {K : V → Mx β} {Q : β → Mem → Prop} (H0 : HG ds st t μ) (ha : μ[a]? = some (il [v])) (h2 : i ≤ 1000) (h1 : -1000 ≤ i)
    (k : ∀ a μ', HG ds st t μ' → Keep st.L μ μ' → Free st.L a → μ'[a]? = some (il (List.replicate i.toNat v)) → Go (K (.ref a) μ') Q) : Go (bnd (binM .Mult (.ref a) (.int i)) K μ) Q :=
  H0.elim fun cs gs ge t1 t2 h g => mul_go h ha h2 h1 fun a μ' h' k' f m => k a μ' ⟨cs, gs, ge, t1, t2, h', g⟩ k' f m
theorem d781 (H0 : HG ds st (x ++ z) μ) (b : Bd st (x ++ z)) (hp : st.pt = x.length + 1) (n : Nat) {r : Nat} (hr : μ[r]? = some (.list [.int 120, .int i])) (h1 : -1 ≤ i) (h2 : i ≤ 100) (hw : (x ++ z).length ≤ 200) (hn : st.ths.length < 64) (k : ∀ μ', HG ds (insB st (mx 0 i).toNat) (x ++ (List.replicate (mx 0 i).toNat 120 ++ z)) μ' → Keep st.L μ μ' → Q (.top 135) μ') : Go (callN (n + 6) (.top 781) [.ref 4, .ref r] μ) Q := by
  refine go_c (callS (s781 _ _ _) (by kernel_rfl)) (go_as (go_as (go_eq (len_list hr _) ?_)))
  wtm_at "s"
  refine go_eq (it1 hr _) ?_
  wtm_at "s"
  refine go_eq (it1 hr _) ?_
  wtm_at "s"
  refine go_eq (b592 _ _ _) ?_
  wtm_at "s"
  refine go_eq (H0.cur _ _) (go_eq (it0 hr _) (go_eq (b662 _ (by decide) (by decide) _) (sg_new H0 rfl fun y μ1 H1 k1 f1 m1 => ?_)))
  wtm_at "s"
  have b2 : mx 0 i ≤ 100 := by unfold mx; split <;> omega
  have b1 : 0 ≤ mx 0 i := by unfold mx; split <;> omega
  refine sg_mul (v := 120) H1 m1 (by omega) (by omega) fun y μ2 H2 k2 f2 m2 => ?_
  refine go_b (h557 H2 b hp _ m2 f2 (by rw [List.length_replicate]; omega) hn fun μ3 h3 k3 => go_ret ?_)
  rw [List.length_replicate] at h3
  exact k _ h3 ((k1.trans k2).trans k3)
theorem d788 (H0 : HG ds st (x ++ (y ++ z)) μ) (n : Nat) {a b : Int} {r : Nat} (hr : μ[r]? = some (.list [.int a, .int b])) (hi : mn a b = x.length + 1) (hj : mx a b = x.length + y.length + 1) (r1 : st.lo ≤ mn a b) (r2 : mx a b ≤ st.hi) (hn : st.ths.length < 64) (k : ∀ μ', HG ds (delB st (mn a b) (mx a b)) (x ++ z) μ' → Keep st.L μ μ' → Q (.top 135) μ') : Go (callN (n + 5) (.top 788) [.ref 4, .ref r] μ) Q :=
  go_c (callS (s788 _ _ _) (by kernel_rfl)) (go_eq (H0.cur _ _) (go_eq (it0 hr _) (go_eq (b592 _ _ _) (go_eq (it1 hr _) (go_eq (b592 _ _ _) (go_b (h564 H0 _ hi hj r1 r2 hn fun x_ μ' h' k' => go_ret (k _ h' k'))))))))
theorem x788 (H0 : HG ds st t μ) (n : Nat) {a b : Int} {r : Nat} {E : Mem → Prop} (hr : μ[r]? = some (.list [.int a, .int b])) (hx : mn a b < st.lo ∨ st.hi < mx a b) (k : ∀ μ', HG ds st t μ' → E μ') : Ex (callN (n + 5) (.top 788) [.ref 4, .ref r] μ) (.str "args-out-of-range") E :=
  ex_c (callS (s788 _ _ _) (by kernel_rfl)) (ex_eq (H0.cur _ _) (ex_eq (it0 hr _) (ex_eq (b592 _ _ _) (ex_eq (it1 hr _) (ex_eq (b592 _ _ _) (ex_bnd (x564 H0 _ hx k)))))))
theorem d795 (H0 : HG ds st t μ) (n : Nat) (w : V) (hn : st.ths.length < 64) (k : ∀ μ', HG ds (st.sE (if 1 < st.pt then mx 1 (st.pt - t.length) else st.pt) 1 1 (st.mks.map (delM 1 (t.length + 1)))) [] μ' → Keep st.L μ μ' → Q (.top 135) μ') : Go (callN (n + 6) (.top 795) [.ref 4, w] μ) Q :=
  go_c (callS (s795 _ _ _) (by kernel_rfl)) (go_eq (H0.cur _ _) (go_b (h571 H0 _ hn fun x_ μ' h' k' => go_ret (k _ h' k'))))
theorem g426 (h : H ds st μ) (n : Nat) (g : GI st (x ++ (y ++ z))) (hi : i = x.length + 1) (hj : j = x.length + y.length + 1) (k : ∀ a μ', H ds st μ' → Keep st.L μ μ' → Free st.L a → μ'[a]? = some (il y) → Q (.ref a) μ') : Go (callN (n + 2) (.top 426) [.ref 19, .int i, .int j] μ) Q := by
  refine go_c (callS (s426 _ _ _ _) (by kernel_rfl)) ?_
  wtm_at "s"
  exact go_b (g56 h _ g (by rw [hi, Int.add_sub_cancel]) (by rw [hj, Int.add_sub_cancel]) fun a μ' h' k' f m => go_ret (k _ _ h' k' f m))
theorem d802 (H0 : HG ds st (x ++ (y ++ z)) μ) (n : Nat) {a b : Int} {r : Nat} (hr : μ[r]? = some (.list [.int a, .int b])) (hi : mn a b = x.length + 1) (hj : mx a b = x.length + y.length + 1) (r1 : st.lo ≤ mn a b) (r2 : mx a b ≤ st.hi) (k : ∀ a c μ', μ'[a]? = some (txO c) → μ'[c]? = some (il y) → Free st.L a → Free st.L c → HG ds st (x ++ (y ++ z)) μ' → Keep st.L μ μ' → Q (.ref a) μ') : Go (callN (n + 4) (.top 802) [.ref 4, .ref r] μ) Q := H0.elim fun cs gs ge t1 t2 h g => by
  refine go_c (callS (s802 _ _ _) (by kernel_rfl)) (go_eq (H0.cur _ _) (go_eq (it0 hr _) (go_eq (b592 _ _ _) (go_eq (it1 hr _) (go_eq (b592 _ _ _) (go_b (go_c (callS (s648 _ _ _ _) (by kernel_rfl)) (go_b (g500 h _ r1 r2 fun x_ μ1 h1 k1 m1 => go_eq (tup_bnd m1 _) (go_tup2 ?_))))))))))
  wtm_at "s"
  exact go_b (g426 h1 _ g hi hj fun c μ2 h2 k2 f2 m2 => go_ret (go_b (g178 h2 _ c fun a μ3 h3 k3 f3 m3 => go_ret (k _ _ _ m3 (k3.get _ _ f2 m2) f3 f2 ⟨cs, gs, ge, t1, t2, h3, g⟩ ((k1.trans k2).trans k3)))))
theorem x802 (H0 : HG ds st t μ) (n : Nat) {a b : Int} {r : Nat} {E : Mem → Prop} (hr : μ[r]? = some (.list [.int a, .int b])) (hx : mn a b < st.lo ∨ st.hi < mx a b) (k : ∀ μ', HG ds st t μ' → E μ') : Ex (callN (n + 4) (.top 802) [.ref 4, .ref r] μ) (.str "args-out-of-range") E := H0.elim fun cs gs ge t1 t2 h g =>
  ex_c (callS (s802 _ _ _) (by kernel_rfl)) (ex_eq (H0.cur _ _) (ex_eq (it0 hr _) (ex_eq (b592 _ _ _) (ex_eq (it1 hr _) (ex_eq (b592 _ _ _) (ex_bnd (ex_c (callS (s648 _ _ _ _) (by kernel_rfl)) (ex_bnd (x500 h _ hx fun μ1 h1 x_ => k _ ⟨cs, gs, ge, t1, t2, h1, g⟩)))))))))
theorem d809 (H0 : HG ds st (x ++ (y ++ z)) μ) (n : Nat) (w : V) (hi : st.lo = x.length + 1) (hj : st.hi = x.length + y.length + 1) (k : ∀ a c μ', μ'[a]? = some (txO c) → μ'[c]? = some (il y) → Free st.L a → Free st.L c → HG ds st (x ++ (y ++ z)) μ' → Keep st.L μ μ' → Q (.ref a) μ') : Go (callN (n + 4) (.top 809) [.ref 4, w] μ) Q := H0.elim fun cs gs ge t1 t2 h g => by
  refine go_c (callS (s809 _ _ _) (by kernel_rfl)) (go_eq (H0.cur _ _) ?_)
  wtm_at "s"
  refine go_eq (b398 h _ _) ?_
  wtm_at "s"
  refine go_eq (b405 h _ _) ?_
  wtm_at "s"
  exact go_b (g426 h _ g hi hj fun c μ2 h2 k2 f2 m2 => go_b (g178 h2 _ c fun a μ3 h3 k3 f3 m3 => go_ret (k _ _ _ m3 (k3.get _ _ f2 m2) f3 f2 ⟨cs, gs, ge, t1, t2, h3, g⟩ (k2.trans k3))))
theorem d823 (H0 : HG ds st t μ) (n : Nat) {a b : Int} {r : Nat} (hr : μ[r]? = some (.list [.int a, .int b])) (r1 : 1 ≤ mn a b) (r2 : mx a b ≤ t.length + 1) (k : ∀ μ', HG ds (st.sE (clip st.pt (mn a b) (mx a b)) (mn a b) (mx a b) st.mks) t μ' → Keep st.L μ μ' → Q (.top 135) μ') : Go (callN (n + 4) (.top 823) [.ref 4, .ref r] μ) Q :=
  go_c (callS (s823 _ _ _) (by kernel_rfl)) (go_eq (H0.cur _ _) (go_eq (it0 hr _) (go_eq (b592 _ _ _) (go_eq (it1 hr _) (go_eq (b592 _ _ _) (go_b (h578 H0 _ r1 r2 fun x_ μ' h' k' => go_ret (k _ h' k'))))))))
theorem x823 (H0 : HG ds st t μ) (n : Nat) {a b : Int} {r : Nat} {E : Mem → Prop} (hr : μ[r]? = some (.list [.int a, .int b])) (hx : mn a b < 1 ∨ t.length + 1 < mx a b) (k : ∀ μ', HG ds st t μ' → E μ') : Ex (callN (n + 4) (.top 823) [.ref 4, .ref r] μ) (.str "args-out-of-range") E :=
  ex_c (callS (s823 _ _ _) (by kernel_rfl)) (ex_eq (H0.cur _ _) (ex_eq (it0 hr _) (ex_eq (b592 _ _ _) (ex_eq (it1 hr _) (ex_eq (b592 _ _ _) (ex_bnd (x578 H0 _ hx k)))))))
theorem d830 (H0 : HG ds st t μ) (n : Nat) (w : V) (k : ∀ μ', HG ds (st.sE st.pt 1 (t.length + 1) st.mks) t μ' → Keep st.L μ μ' → Q (.top 135) μ') : Go (callN (n + 4) (.top 830) [.ref 4, w] μ) Q :=
  go_c (callS (s830 _ _ _) (by kernel_rfl)) (go_eq (H0.cur _ _) (go_b (h585 H0 _ fun x_ μ' h' k' => go_ret (k _ h' k'))))
theorem d704 (H0 : HG ds st t μ) (n : Nat) {p : Int} {r : Nat} (hr : μ[r]? = some (.list [.int p])) (fr : Free st.L r) (k : ∀ μ', HG ds (st.sE (clip p st.lo st.hi) st.lo st.hi st.mks) t μ' → Keep st.L μ μ' → Q (.int p) μ') : Go (callN (n + 3) (.top 704) [.ref 4, .ref r] μ) Q := H0.elim fun cs gs ge t1 t2 h g => by
  refine go_c (callS (s704 _ _ _) (by kernel_rfl)) (go_eq (H0.cur _ _) ?_)
  wtm_at "s"
  refine go_eq (it0 hr _) (go_eq (b592 _ _ _) ?_)
  wtm_at "s"
  exact go_b (g433 h _ p fun μ1 h1 k1 => go_eq (it0 (k1.get _ _ fr hr) _) (go_ret (k _ ⟨cs, gs, ge, t1, t2, h1, g⟩ k1)))
end
/-! ## Equal plain data; the law's own helpers -/
theorem eqvAll_refl : ∀ {l : List PyData}, (∀ d ∈ l, PyData.eqv d d = true) → PyData.eqvAll l l = true
  | [], _ => by unfold PyData.eqvAll; rfl
  | d :: r, h => by
    unfold PyData.eqvAll
    rw [h d (.head _), eqvAll_refl fun x hx => h x (.tail _ hx)]; rfl
theorem toPys_refl {f : V → Option PyData} (hf : ∀ v d, f v = some d → PyData.eqv d d = true) {l : List V} : ∀ {ds : List PyData}, toPys f l = some ds → ∀ d ∈ ds, PyData.eqv d d = true := by
  induction l with
  | nil => intro ds h d hd; cases h; cases hd
  | cons v r ih =>
    intro ds h d hd
    refine El_ea (bind_of h) fun x hx h => ?_
    refine El_ea (map_of h) fun xs hxs r_2 => ?_; (first | subst r_2 | cases r_2)
    rcases List.mem_cons.mp hd with rfl | hd
    · exact hf _ _ hx
    · exact ih hxs d hd
theorem plain_refl {v : V} {d : PyData} (h : plainPy v = some d) : PyData.eqv d d = true := by
  cases v with
  | bool b => cases h; unfold PyData.eqv; simp
  | int b => cases h; unfold PyData.eqv; simp
  | str b => obtain ⟨_, h⟩ := if_some h; cases h; unfold PyData.eqv; simp
  | _ => exact no_some h
theorem toPy_refl {μ : Mem} (n : Nat) : ∀ (v : V) (d : PyData), toPy n μ v = some d → PyData.eqv d d = true := by
  induction n with
  | zero => intro v d h; exact plain_refl h
  | succ n ih =>
    intro v d h
    cases hq : listAt μ v with
    | none => exact plain_refl ((toPy_none hq n).symm.trans h)
    | some xs =>
      refine El_ea (map_of ((toPy_some hq n).symm.trans h)) fun ps hp r_2 => ?_; (first | subst r_2 | cases r_2)
      unfold PyData.eqv
      exact eqvAll_refl (toPys_refl ih hp)
theorem eqM_true {μ : Mem} {x y : V} {d : PyData} (hl : lenDiff μ x y = false) (hx : toPy 3 μ x = some d) (hy : toPy 3 μ y = some d) : eqM x y μ = some (.ok true, μ) := by
  refine rdM_val ((if_neg (by rw [hl]; exact Bool.false_ne_true)).trans (obind hx ((congrArg (Option.map _) hy).trans (congrArg some (toPy_refl _ _ _ hx)))))
theorem toPy_plain {n : Nat} {μ : Mem} {v : V} {d : PyData} (h1 : refO v = none) (h : plainPy v = some d) : toPy n μ v = some d := by
  cases n with
  | zero => exact h
  | succ n => exact (toPy_none (congrArg (fun x => Option.bind x _) h1) n).trans h
theorem toPy_int {n : Nat} {μ : Mem} {i : Int} : toPy n μ (.int i) = some (.int i) := toPy_plain rfl rfl
theorem toPy_bool {n : Nat} {μ : Mem} {b : Bool} : toPy n μ (.bool b) = some (.bool b) := toPy_plain rfl rfl
theorem toPy_str {n : Nat} {μ : Mem} {s : Str} (h : PyData.strOk s = true) : toPy n μ (.str s) = some (.str s) := toPy_plain rfl (if_pos h)
theorem toPys_cons {f : V → Option PyData} {v : V} {r : List V} {d : PyData} {ds : List PyData} (h1 : f v = some d) (h2 : toPys f r = some ds) : toPys f (v :: r) = some (d :: ds) := obind h1 (congrArg (Option.map _) h2)
theorem toPys_ints {n : Nat} {μ : Mem} : ∀ (l : List Int), toPys (toPy n μ) (l.map .int) = some (l.map .int)
  | [] => rfl
  | i :: r => toPys_cons toPy_int (toPys_ints r)
theorem list_val {μ : Mem} {a : Nat} {xs : List V} (hm : μ[a]? = some (.list xs)) : listAt μ (.ref a) = some xs := obind (f := fun a => μ[a]?.bind listO) rfl (obind hm rfl)
theorem toPy_list {n : Nat} {μ : Mem} {a : Nat} {xs : List V} {ds : List PyData} (hm : μ[a]? = some (.list xs)) (h : toPys (toPy n μ) xs = some ds) : toPy (n + 1) μ (.ref a) = some (.list ds) :=
  (toPy_some (list_val hm) n).trans (congrArg (Option.map _) h)
theorem toPy_il {n : Nat} {μ : Mem} {a : Nat} {l : List Int} (hm : μ[a]? = some (il l)) : toPy (n + 1) μ (.ref a) = some (.list (l.map .int)) := toPy_list hm (toPys_ints l)
theorem lenD {μ : Mem} {a b : Nat} {xs ys : List V} (ha : μ[a]? = some (.list xs)) (hb : μ[b]? = some (.list ys)) (h : xs.length = ys.length) : lenDiff μ (.ref a) (.ref b) = false := by
  unfold lenDiff
  rw [list_val ha, list_val hb]
  show (xs.length != ys.length) = false
  rw [h]; exact bne_self_eq_false _
/-- what _law_told tells -/
inductive Td where
  | nil
  | text (l : List Int)
  | told (i : Int)
  | refused (s : Str)
def TdAt (L : List Nat) (μ : Mem) (a : Nat) : Td → Prop
  | .nil => μ[a]? = some (.list [.str "nil"]) ∧ Free L a
  | .text l => ∃ c, μ[a]? = some (.list [.str "text", .ref c]) ∧ Free L a ∧ μ[c]? = some (il l) ∧ Free L c
  | .told i => μ[a]? = some (.list [.str "told", .int i]) ∧ Free L a
  | .refused s => μ[a]? = some (.list [.str "refused", .str s]) ∧ Free L a ∧ PyData.strOk s = true
theorem TdAt.keep {L : List Nat} {μ μ' : Mem} {a : Nat} {d : Td} (h : TdAt L μ a d) (k : Keep L μ μ') : TdAt L μ' a d := by
  cases d with
  | nil => exact ⟨k.get _ _ h.2 h.1, h.2⟩
  | text l =>
    refine El_eaaa h fun c h1 h2 h3 h4 => ?_
    exact ⟨c, k.get _ _ h2 h1, h2, k.get _ _ h4 h3, h4⟩
  | told i => exact ⟨k.get _ _ h.2 h.1, h.2⟩
  | refused s => exact ⟨k.get _ _ h.2.1 h.1, h.2⟩
noncomputable def Td.py : Td → PyData
  | .nil => .list [.str "nil"]
  | .text l => .list [.str "text", .list (l.map .int)]
  | .told i => .list [.str "told", .int i]
  | .refused s => .list [.str "refused", .str s]
noncomputable def Td.n : Td → Nat
  | .nil => 1
  | _ => 2
theorem Td_py {L : List Nat} {μ : Mem} {a : Nat} {d : Td} (h : TdAt L μ a d) : toPy 3 μ (.ref a) = some d.py ∧ ∃ xs, μ[a]? = some (.list xs) ∧ xs.length = d.n := by
  cases d with
  | nil => exact ⟨toPy_list h.1 (toPys_cons (toPy_str (by kernel_rfl)) rfl), _, h.1, rfl⟩
  | text l =>
    refine El_eaaa h fun c h1 h2 h3 h4 => ?_
    exact ⟨toPy_list h1 (toPys_cons (toPy_str (by kernel_rfl)) (toPys_cons (toPy_il h3) rfl)), _, h1, rfl⟩
  | told i => exact ⟨toPy_list h.1 (toPys_cons (toPy_str (by kernel_rfl)) (toPys_cons toPy_int rfl)), _, h.1, rfl⟩
  | refused s => exact ⟨toPy_list h.1 (toPys_cons (toPy_str (by kernel_rfl)) (toPys_cons (toPy_str h.2.2) rfl)), _, h.1, rfl⟩
theorem Td_eq {L : List Nat} {μ : Mem} {a b : Nat} {d : Td} (ha : TdAt L μ a d) (hb : TdAt L μ b d) : eqM (.ref a) (.ref b) μ = some (.ok true, μ) := by
  refine El_aea (Td_py ha) fun h1 xs h2 h3 => ?_
  refine El_aea (Td_py hb) fun h1' xs' h2' h3' => ?_
  exact eqM_true (lenD h2 h2' (by rw [h3, h3'])) h1 h1'
section
variable {α β : Type} {ds : List Int} {st : St} {μ μ' : Mem} {Q : V → Mem → Prop} {t x y z w : List Int} {i j : Int}
theorem mod_bnd (h1 : 0 < j) (h2 : j ≤ 100000) (K : V → Mx α) : bnd (binM .Mod (.int i) (.int j)) K μ = K (.int (i % j)) μ := by
  refine bnd_val ?_
  show (if 0 < j ∧ j < 1000000000 then ret (V.int (i.fmod j)) else stuck) μ = _
  rw [if_pos ⟨h1, Int.lt_of_le_of_lt h2 (by decide)⟩, Int.fmod_eq_emod_of_nonneg _ (Int.le_of_lt h1)]; rfl
theorem div_bnd (h1 : 0 < j ∧ j < 1000000000) (K : V → Mx α) : bnd (binM .FloorDiv (.int i) (.int j)) K μ = K (.int (i.fdiv j)) μ :=
  bnd_val (congrFun (show (if 0 < j ∧ j < 1000000000 then ret (V.int (i.fdiv j)) else stuck) = _ from if_pos h1) μ)
theorem mulI_bnd (h1 : small i = true) (h2 : small j = true) (K : V → Mx α) : bnd (binM .Mult (.int i) (.int j)) K μ = K (.int (i * j)) μ := by
  refine bnd_val ?_
  show (if small i && small j then ret (V.int (i * j)) else stuck) μ = _
  rw [h1, h2]; rfl
theorem small_sq (h1 : 0 ≤ i) (h2 : i ≤ 2001) : small (i * i) = true := by
  have a : i.natAbs ≤ 2001 := by omega
  exact decide_eq_true (Nat.lt_of_le_of_lt (Int.natAbs_mul i i ▸ Nat.mul_le_mul a a) (by decide))
theorem g1264 (H0 : HG ds st t μ) (n : Nat) {m : Int} (d0 : 0 ≤ st.dk) (d1 : st.dk ≤ 2000) (hd : ds.length ≤ 63) (m0 : 0 < m) (m1 : m ≤ 1000) (k : ∀ r μ', 0 ≤ r → r < m → HG ds (st.sDk (st.dk + 1)) t μ' → Keep st.L μ μ' → Q (.int r) μ') : Go (callN (n + 1) (.top 1264) [.ref 3, .int m] μ) Q := H0.elim fun cs gs ge t1 t2 h g => by
  refine go_c (callS (s1264 _ _ _) (by kernel_rfl)) ?_
  wtm_at "s"
  refine st_dk h fun μ1 h1 k1 => ?_
  have fin : ∀ i : Int, Go (ret (V.int (i % m)) μ1) Q := fun i => go_ret (k _ _ (Int.emod_nonneg _ (Int.ne_of_gt m0)) (Int.emod_lt_of_pos _ m0) ⟨cs, gs, ge, t1, t2, h1, g⟩ k1)
  wtm_at "s"
  have sm : small (st.dk + 1) = true := small_of (by omega) (by omega)
  by_cases z : st.dk + 1 ≤ ds.length
  · refine go_td z ?_
    wtm_at "s"
    refine El_eeeaa (at_split (t := ds) (n := (st.dk + 1 - 1).toNat) (by omega)) fun x c w e hx x_ => ?_
    subst e
    refine item_at h1 h1.fix.f2 (by rw [hx]; show st.dk + 1 - 1 = _; omega) (go_eq (mod_bnd m0 (Int.le_trans m1 (by decide)) _) (fin _))
  · refine go_fd z ?_
    wtm_at "s"
    refine go_eq (mulI_bnd sm sm _) (go_eq (mulI_bnd (small_sq (by omega) (by omega)) (by decide) _) ?_)
    wtm_at "s"
    refine go_eq (mulI_bnd (by decide) sm _) ?_
    wtm_at "s"
    refine go_eq (mulI_bnd (by decide) (small_nat (Nat.le_trans hd (by decide))) _) ?_
    wtm_at "s"
    exact go_eq (div_bnd (by decide) _) (go_eq (mod_bnd m0 (Int.le_trans m1 (by decide)) _) (fin _))
theorem HG.tx (H0 : HG ds st t μ) : μ[st.txa]? = some (il st.txt) := H0.elim fun x_ x_ x_ x_ x_ h x_ => h.ev.tx
theorem HG.own (H0 : HG ds st t μ) : μ[167]? = some (.dict (oF st.txa st.op st.ol st.oh)) := H0.elim fun x_ x_ x_ x_ x_ h x_ => h.fix.f167
theorem HG.dee (H0 : HG ds st t μ) : μ[164]? = some (.dict deedsL) := H0.elim fun x_ x_ x_ x_ x_ h x_ => h.fix.f164
theorem g1278 (H0 : HG ds st t μ) (n : Nat) (d0 : 0 ≤ st.dk) (d1 : st.dk ≤ 2000) (hd : ds.length ≤ 63) (ht : st.txt.length ≤ 300) (k : ∀ p μ', -1 ≤ p → p ≤ 400 → HG ds (st.sDk (st.dk + 1)) t μ' → Keep st.L μ μ' → Q (.int p) μ') : Go (callN (n + 2) (.top 1278) [.ref 3, .ref 167] μ) Q := by
  refine go_c (callS (s1278 _ _ _) (by kernel_rfl)) (go_eq (ditem_bnd H0.own (by kernel_rfl) _) (go_eq (len_bnd H0.tx _) ?_))
  wtm_at "s"
  refine go_b (g1264 H0 _ d0 d1 hd (m := st.txt.length + 4) (by omega) (by omega) fun r μ1 r0 r1 h1 k1 => ?_)
  wtm_at "s"
  exact go_ret (k _ _ (by omega) (by omega) h1 k1)
noncomputable def sgV (st : St) (p : Int) : V := if st.ol ≤ p ∧ p < st.oh then .int ((st.txt[(p - 1).toNat]?).getD 0) else .none
theorem b1285 (H0 : HG ds st t μ) (n : Nat) (p : Int) (h1 : 1 ≤ st.ol) (h2 : st.oh ≤ st.txt.length + 1) (K : V → Mx α) : bnd (callN (n + 1) (.top 1285) [.ref 167, .int p]) K μ = K (sgV st p) μ := H0.elim fun cs gs ge t1 t2 h g => go_fin (fun k => by
  refine go_c (callS (s1285 _ _ _) (by kernel_rfl)) ?_
  unfold sgV at k
  wtm_at "s"
  by_cases z : st.ol ≤ p
  · refine go_j1 (dt z) ?_
    wtm_at "s"
    by_cases y : p < st.oh
    · rw [if_pos ⟨z, y⟩] at k
      refine go_j1 (dt y) ?_
      wtm_at "s"
      refine El_eeeaa (at_split (t := st.txt) (n := (p - 1).toNat) (by omega)) fun x c w e hx hc => ?_
      rw [hc] at k
      exact item_at h (e ▸ h.ev.tx) (by rw [hx]; omega) (go_ret k)
    · rw [if_neg (fun q => y q.2)] at k
      refine go_j0 (df y) ?_
      wtm_at "s"
      exact go_ret k
  · rw [if_neg (fun q => z q.1)] at k
    refine go_j0 (df z) ?_
    wtm_at "s"
    exact go_ret k) K
end
/-! ## The law's own text and spots; what is told -/
section
variable {α β : Type} {ds : List Int} {st : St} {μ μ' μ0 : Mem} {Q : V → Mem → Prop} {t x y z w : List Int} {i j : Int}
theorem st_tx {c : Nat} {K : Unit → Mx β} {Q : β → Mem → Prop} (h : H ds st μ) (hc : μ[c]? = some (il w)) (fc : Free st.L c) (k : ∀ μ', H ds (st.sTx c w) μ' → Keep st.L μ μ' → Go (K () μ') Q) : Go (bnd (putItemM (.ref 167) (.str "text") (.ref c)) K μ) Q :=
  have f := h.fix
  have e := h.ev
  have n : ∀ {a : Nat}, 168 ≤ a → (167 : Nat) ≠ a := fun ha q => absurd ha (q ▸ by decide)
  go_eq (putD_bnd (by decide) f.f167 (by kernel_rfl) (by kernel_rfl) K) (k _ ⟨⟨nb f.f2, nb f.f3, nb f.f4, nb f.f17, nb f.f19, nb f.f21, nb f.f25, nb f.f26, nb f.f27, nb f.f28, nb f.f164, nb f.f166, yset f.f167⟩,
    ⟨fun hj hp => nset (n (h.bigM (List.mem_of_getElem? hj))) (e.mrk hj hp), fun hj hp => nset (n (h.bigS (List.mem_of_getElem? hj))) (e.sp hj hp), nset (n fc.1) hc, e.lm, e.ls, fc.1, big_set e.big, e.nd, fc.2, sz_set e.sz (by kernel_rfl)⟩⟩ (Keep.setF (by decide)))
/-- a loop over the spots -/
theorem spot_loop {turn : V → Loc → Mx (Option V × Loc)} {fr : Loc} {f : Int × Bool → Int × Bool}
    (hT : ∀ (j a : Nat) (X : List (Int × Bool)) (m : Int × Bool) (ρ : Loc) (μ : Mem) {Q : Option V × Loc → Mem → Prop}, H ds (st.sSp X) μ → Keep st.L μ0 μ → st.sps[j]? = some a → X[j]? = some m → (∀ ρ' μ', H ds (st.sSp (X.set j (f m))) μ' → Keep st.L μ μ' → Q (none, fr ++ ρ') μ') → Go (turn (.ref a) (fr ++ ρ) μ) Q)
    {Q : Option V × Loc → Mem → Prop} (k : ∀ ρ μ', H ds (st.sSp (st.spv.map f)) μ' → Keep st.L μ0 μ' → Q (none, fr ++ ρ) μ') (B : List (Int × Bool)) : ∀ (A : List (Int × Bool)) (S T : List Nat) (ρ : Loc) (μ : Mem), st.spv = A ++ B → st.sps = S ++ T → S.length = A.length → T.length = B.length → H ds (st.sSp (A.map f ++ B)) μ → Keep st.L μ0 μ →
      Go (eachM 166 (st.sps.map .ref) turn (T.map .ref) (fr ++ ρ) μ) Q := by
  induction B with
  | nil =>
    intro A S T ρ μ e e1 l1 l2 h k0
    cases List.eq_nil_of_length_eq_zero l2
    rw [List.append_nil] at e h
    rw [e] at k
    exact go_eq (same_bnd h.fix.f166 _) (go_ret (k _ _ h k0))
  | cons m B ih =>
    intro A S T ρ μ e e1 l1 l2 h k0
    cases T with
    | nil => cases l2
    | cons a T =>
      have hj : st.sps[A.length]? = some a := by rw [e1, ← l1, List.getElem?_append_right (Nat.le_refl _), Nat.sub_self]; rfl
      refine go_eq (same_bnd h.fix.f166 _) (go_b (hT A.length a _ m ρ μ h k0 hj ms_get fun ρ' μ' h' k' => ?_))
      rw [ms_set, ms_next] at h'
      exact ih (A ++ [m]) (S ++ [a]) T ρ' μ' (e.trans ms_app) (e1.trans ms_app) (by rw [List.length_append, List.length_append, l1]; rfl) (Nat.succ.inj l2) h' (k0.trans k')
theorem sp0 {a : Nat} {p : Int × Bool} (hm : μ[a]? = some (spO p)) (K : V → Mx α) : bnd (itemM (.ref a) (.int 0)) K μ = K (.int p.1) μ := item_bnd hm (by decide) rfl K
theorem sp1 {a : Nat} {p : Int × Bool} (hm : μ[a]? = some (spO p)) (K : V → Mx α) : bnd (itemM (.ref a) (.int 1)) K μ = K (.bool p.2) μ := item_bnd hm (by decide) rfl K
theorem e1292 {C : CallT} {a0 a1 a2 : V} {ρ : Loc} : (kSs C (fnOf 1292).names ((fnOf 1292).body.drop 3) (("own", a0) :: ("signs", a1) :: ("at", a2) :: ρ : Loc) fun r => ret (r.1.getD .none)) = bnd (itemM a0 (V.str "high")) fun x1 => bnd (callB "len" [a1]) fun x2 => bnd (binM .Add x1 x2) fun x3 => bnd (putItemM a0 (V.str "high") x3) fun x_ => bnd (callB "len" [a1]) fun x4 => bnd (binM .Add a2 x4) fun x5 => bnd (putItemM a0 (V.str "point") x5) fun x_ => bnd (newM (.list [V.str "nil"])) fun x6 => ret x6 := by kernel_rfl
theorem e1299 {C : CallT} {a0 a1 a2 : V} {ρ : Loc} : (kSs C (fnOf 1299).names ((fnOf 1299).body.drop 2) (("own", a0) :: ("low", a1) :: ("high", a2) :: ρ : Loc) fun r => ret (r.1.getD .none)) = bnd (itemM a0 (V.str "high")) fun x1 => bnd (binM .Sub a2 a1) fun x2 => bnd (binM .Sub x1 x2) fun x3 => bnd (putItemM a0 (V.str "high") x3) fun x_ => bnd (itemM a0 (V.str "point")) fun x4 => bnd (cmpM .Gt x4 a1) fun c5 => if c5 then bnd (itemM a0 (V.str "point")) fun x6 => bnd (binM .Sub a2 a1) fun x7 => bnd (binM .Sub x6 x7) fun x8 => bnd (callB "max" [a1, x8]) fun x9 => bnd (putItemM a0 (V.str "point") x9) fun x_ => ret V.none else ret V.none := by kernel_rfl
noncomputable abbrev St.sLaw (st : St) (a : Nat) (l : List Int) (op oh : Int) (spv : List (Int × Bool)) : St := ((st.sTx a l).sSp spv).sOwn op st.ol oh
/-- _law_put -/
theorem g1292 (H0 : HG ds st t μ) (n : Nat) {c : Nat} (hx : st.txt = x ++ z) (hp : st.op = x.length + 1) (hc : μ[c]? = some (il w)) (fc : Free st.L c) (hl : (x ++ z).length + w.length ≤ 300) (k : ∀ a b μ', μ'[a]? = some (.list [.str "nil"]) → Free st.L a → HG ds (st.sLaw b (x ++ (w ++ z)) (st.op + w.length) (st.oh + w.length) (st.spv.map (insM st.op w.length))) t μ' → Keep st.L μ μ' → Q (.ref a) μ') : Go (callN (n + 1) (.top 1292) [.ref 167, .ref c] μ) Q := H0.elim fun cs gs ge t1 t2 h g => by
  have tx := h.ev.tx
  have f1 := h.freeT
  rw [show (st.hid cs gs ge t1 t2).txt = x ++ z from hx] at tx
  rw [la] at hl
  refine go_c (callS (s1292 _ _ _) (by kernel_rfl)) ?_
  wtm_at "s"
  refine slice_lo h tx (by rw [hp, Int.add_sub_cancel]) fun a1 μ1 h1 k1 f1 m1 => ?_
  have hc1 := k1.get _ _ fc hc
  refine add_go h1 m1 hc1 (by omega) fun a2 μ2 h2 k2 f2 m2 => ?_
  wtm_at "s"
  have k02 := k1.trans k2
  refine slice_hi h2 (k02.get _ _ h.freeT tx) (by rw [hp, Int.add_sub_cancel]) fun a3 μ3 h3 k3 f3 m3 => ?_
  refine add_go h3 (k3.get _ _ f2 m2) m3 (by rw [la]; omega) fun a4 μ4 h4 k4 f4 m4 => ?_
  rw [List.append_assoc] at m4
  refine st_tx h4 m4 f4 fun μ5 h5 k5 => ?_
  have k05 := ((k02.trans k3).trans k4).trans k5
  have hc5 := k05.get _ _ fc hc
  wtm_at "s"
  refine go_eq (listOf_bnd h5.fix.f166 _) (go_b ?_)
  refine spot_loop (ds := ds) (turn := forTurn (callN n) (fnOf 1292).names (stOf 1292 2)) (fr := [("own", .ref 167), ("signs", .ref c), ("at", .int st.op)]) (f := insM st.op w.length) ?_ ?_ st.spv [] [] st.sps [] μ5 rfl rfl rfl h5.ev.ls h5 (Keep.refl _ _)
  · intro j a X m ρ μ Q h kk hj hm k
    have hc' := kk.get _ _ fc hc5
    have hM := h.ev.sp hj hm
    show Go (forTurn (callN n) (fnOf 1292).names (stOf 1292 2) (.ref a) (("own", .ref 167) :: ("signs", .ref c) :: ("at", .int st.op) :: ρ : Loc) μ) _
    refine go_c (t1292 ..) ?_
    unfold insM at k
    refine go_d (v := decide (m.1 > st.op ∨ (m.1 = st.op ∧ m.2 = true))) ?_ ?_
    · refine look (go_eq (sp0 hM _) ?_)
      wtm_at "s"
      by_cases z : st.op < m.1
      · exact go_O1 (dt z) (go_ret ⟨(decide_eq_true (.inl z)).symm, rfl⟩)
      · refine go_O0 (df z) (go_as (look (go_as (go_eq (sp0 hM _) ?_))))
        wtm_at "s"
        by_cases y : m.1 = st.op
        · refine go_a1 (dt y) (go_as (look (go_as (go_eq (sp1 hM _) ?_))))
          wtm_at "s"
          cases y2 : m.2
          · wtm_at "s"
            exact go_ret ⟨(decide_eq_false (fun q => q.elim z fun q => Bool.false_ne_true q.2)).symm, rfl⟩
          · wtm_at "s"
            exact go_ret ⟨(decide_eq_true (.inr ⟨y, rfl⟩)).symm, rfl⟩
        · refine go_a0 (df y) ?_
          wtm_at "s"
          exact go_ret ⟨(decide_eq_false (fun q => q.elim z fun q => y q.1)).symm, rfl⟩
    · by_cases z : m.1 > st.op ∨ (m.1 = st.op ∧ m.2 = true)
      · rw [if_pos z] at k
        refine go_td z (look (go_eq (sp0 hM _) (go_eq (len_bnd hc' _) ?_)))
        wtm_at "s"
        exact look (st_spot h hj hm fun μ2 h2 k2 => go_ret (k _ _ h2 k2))
      · rw [if_neg z] at k
        exact go_fd z (go_ret (k _ _ (by rw [set_same hm]; exact h) (Keep.refl _ _)))
  · intro ρ μ6 h6 k6
    have hc6 := k6.get _ _ fc hc5
    refine go_sn (go_c e1292 ?_)
    wtm_at "s"
    refine go_eq (len_bnd hc6 _) ?_
    wtm_at "s"
    refine st_oh h6 fun μ7 h7 k7 => ?_
    refine go_eq (len_bnd (k7.get _ _ fc hc6) _) ?_
    wtm_at "s"
    exact st_op h7 fun μ8 h8 k8 => st_new h8 (by rfl) fun a9 μ9 h9 k9 f9 m9 => go_ret (k _ _ _ m9 f9 ⟨cs, gs, ge, t1, t2, h9, g⟩ ((((k05.trans k6).trans k7).trans k8).trans k9))
/-- _law_cut -/
theorem g1299 (H0 : HG ds st t μ) (n : Nat) {s e : Int} (hx : st.txt = x ++ (y ++ z)) (hs : s = x.length + 1) (he : e = x.length + y.length + 1) (hl : (x ++ (y ++ z)).length ≤ 300) (k : ∀ v b μ', HG ds (st.sLaw b (x ++ z) (if s < st.op then mx s (st.op - (e - s)) else st.op) (st.oh - (e - s)) (st.spv.map (delM s e))) t μ' → Keep st.L μ μ' → Q v μ') : Go (callN (n + 1) (.top 1299) [.ref 167, .int s, .int e] μ) Q := H0.elim fun cs gs ge t1 t2 h g => by
  have tx := h.ev.tx
  rw [show (st.hid cs gs ge t1 t2).txt = x ++ (y ++ z) from hx] at tx
  have tx2 := tx
  rw [← List.append_assoc] at tx2
  rw [len3] at hl
  refine go_c (callS (s1299 _ _ _ _) (by kernel_rfl)) ?_
  wtm_at "s"
  refine slice_lo h tx (by rw [hs, Int.add_sub_cancel]) fun a1 μ1 h1 k1 f1 m1 => ?_
  wtm_at "s"
  refine slice_hi h1 (k1.get _ _ h.freeT tx2) (by rw [he, Int.add_sub_cancel, la]; rfl) fun a2 μ2 h2 k2 f2 m2 => ?_
  refine add_go h2 (k2.get _ _ f1 m1) m2 (by omega) fun a3 μ3 h3 k3 f3 m3 => ?_
  refine st_tx h3 m3 f3 fun μ5 h5 k5 => ?_
  wtm_at "s"
  refine go_eq (listOf_bnd h5.fix.f166 _) (go_b ?_)
  refine spot_loop (ds := ds) (turn := forTurn (callN n) (fnOf 1299).names (stOf 1299 1)) (fr := [("own", .ref 167), ("low", .int s), ("high", .int e)]) (f := delM s e) ?_ ?_ st.spv [] [] st.sps [] μ5 rfl rfl rfl h5.ev.ls h5 (Keep.refl _ _)
  · intro j a X m ρ μ Q h _ hj hm k
    have hM := h.ev.sp hj hm
    show Go (forTurn (callN n) (fnOf 1299).names (stOf 1299 1) (.ref a) (("own", .ref 167) :: ("low", .int s) :: ("high", .int e) :: ρ : Loc) μ) _
    refine go_c (t1299 ..) (look (go_eq (sp0 hM _) ?_))
    unfold delM at k
    wtm_at "s"
    by_cases z : s < m.1
    · rw [if_pos z] at k
      refine go_td z (look (go_eq (sp0 hM _) ?_))
      wtm_at "s"
      exact look (st_spot h hj hm fun μ2 h2 k2 => go_ret (k _ _ h2 k2))
    · rw [if_neg z] at k
      exact go_fd z (go_ret (k _ _ (by rw [set_same hm]; exact h) (Keep.refl _ _)))
  · intro ρ μ6 h6 k6
    have k06 := (((k1.trans k2).trans k3).trans k5).trans k6
    refine go_sn (go_c e1299 ?_)
    wtm_at "s"
    refine st_oh h6 fun μ7 h7 k7 => ?_
    wtm_at "s"
    by_cases z : s < st.op
    · rw [if_pos z] at k
      refine go_td z ?_
      wtm_at "s"
      exact st_op h7 fun μ8 h8 k8 => go_ret (k _ _ _ ⟨cs, gs, ge, t1, t2, h8, g⟩ ((k06.trans k7).trans k8))
    · rw [if_neg z] at k
      exact go_fd z (go_ret (k _ _ _ ⟨cs, gs, ge, t1, t2, h7, g⟩ (k06.trans k7)))
noncomputable def tailM (n : Nat) (nm : Str) (r v : V) : Mx V := kSs (callN n) (fnOf 1271).names ((fnOf 1271).body.drop 1) [("deeds", .ref 164), ("name", .str nm), ("world", .ref 4), ("args", r), ("value", v)] fun r => ret (r.1.getD .none)
theorem told_ok (H0 : HG ds st t μ) (n : Nat) {f : Addr} {nm : Str} {r : V} (hd : getD (.str nm) deedsL = some (.top f)) (hc : mayCall (.top f) = true) (e : Go (callN n (.top f) [.ref 4, r] μ) fun v μ' => Go (tailM n nm r v μ') Q) : Go (callN (n + 1) (.top 1271) [.ref 164, .str nm, .ref 4, r] μ) Q := by
  refine El_eea e fun v μ' e q => ?_
  have z : exSs (callN n) (fnOf 1271).names (tryBody (stOf 1271 0)) [("deeds", .ref 164), ("name", .str nm), ("world", .ref 4), ("args", r)] μ = some (.ok (none, [("deeds", .ref 164), ("name", .str nm), ("world", .ref 4), ("args", r), ("value", v)]), μ') := by
    rw [u1271, ditem_bnd H0.dee hd, if_pos hc]
    exact (bnd_val (f := callN n (.top f) [.ref 4, r]) e).trans rfl
  refine go_c (callS (s1271 _ _ _ _ _) (by kernel_rfl)) ?_
  unfold tryK
  rw [z]
  exact q
theorem told_ex (H0 : HG ds st t μ) (n : Nat) {f : Addr} {nm s : Str} {r : V} (hd : getD (.str nm) deedsL = some (.top f)) (hc : mayCall (.top f) = true) (e : Ex (callN n (.top f) [.ref 4, r] μ) (.str s) fun μ' => Go (bnd (newM (.list [.str "refused", .str s])) ret μ') Q) : Go (callN (n + 1) (.top 1271) [.ref 164, .str nm, .ref 4, r] μ) Q := by
  refine El_eea e fun d μ' e q => ?_
  have z : exSs (callN n) (fnOf 1271).names (tryBody (stOf 1271 0)) [("deeds", .ref 164), ("name", .str nm), ("world", .ref 4), ("args", r)] μ = some (.exc (.str s) d, μ') := by
    rw [u1271, ditem_bnd H0.dee hd, if_pos hc]
    show bnd (callN n (.top f) [.ref 4, r]) _ μ = _
    unfold bnd
    rw [e]
  refine go_c (callS (s1271 _ _ _ _ _) (by kernel_rfl)) ?_
  unfold tryK
  rw [z]
  exact q
/-- what is told of a deed that gives nil -/
theorem tail_nil (H0 : HG ds st t μ) {n : Nat} {nm : Str} {r : V} (k : ∀ a μ', TdAt st.L μ' a .nil → HG ds st t μ' → Keep st.L μ μ' → Q (.ref a) μ') : Go (tailM n nm r (.top 135) μ) Q := by
  refine go_c (r1271 ..) ?_
  wtm_at "s"
  exact sg_new H0 (by rfl) fun a μ1 h1 k1 f1 m1 => go_ret (k a μ1 ⟨m1, f1⟩ h1 k1)
theorem tail_int (H0 : HG ds st t μ) {n : Nat} {nm : Str} {r : V} (k : ∀ a μ', TdAt st.L μ' a (.told i) → HG ds st t μ' → Keep st.L μ μ' → Q (.ref a) μ') : Go (tailM n nm r (.int i) μ) Q := by
  refine go_c (r1271 ..) ?_
  wtm_at "s"
  exact sg_new H0 (by rfl) fun a μ1 h1 k1 f1 m1 => go_ret (k a μ1 ⟨m1, f1⟩ h1 k1)
theorem tail_tx (H0 : HG ds st t μ) {n : Nat} {nm : Str} {r : V} {a c : Nat} (m1 : μ[a]? = some (txO c)) (m2 : μ[c]? = some (il w)) (f2 : Free st.L c) (k : ∀ a μ', TdAt st.L μ' a (.text w) → HG ds st t μ' → Keep st.L μ μ' → Q (.ref a) μ') : Go (tailM n nm r (.ref a) μ) Q := by
  refine go_c (r1271 ..) (go_eq (isT m1 _) ?_)
  wtm_at "s"
  exact go_eq (tx_codes m1 _) (sg_new H0 (by rfl) fun a μ3 h3 k3 f3 m3 => go_ret (k a μ3 ⟨c, m3, f3, k3.get _ _ f2 m2, f2⟩ h3 k3))
theorem tail_ref (H0 : HG ds st t μ) {s : Str} (hs : PyData.strOk s = true) (k : ∀ a μ', TdAt st.L μ' a (.refused s) → HG ds st t μ' → Keep st.L μ μ' → Q (.ref a) μ') : Go (bnd (newM (.list [.str "refused", .str s])) ret μ) Q :=
  sg_new H0 (by rfl) fun a μ1 h1 k1 f1 m1 => go_ret (k a μ1 ⟨m1, f1, hs⟩ h1 k1)
end
/-! ## Markers made and put -/
theorem kindKey_rows (k : Int) : ∀ {i : Int} {ths : List Nat}, kindKey (.int k) (rowsL i ths) = true
  | _, [] => rfl
  | _, _ :: _ => rfl
theorem rows_len (ths : List Nat) : ∀ i : Int, (rowsL i ths).length = ths.length := by
  induction ths with
  | nil => exact fun x_ => rfl
  | cons a r ih => exact fun i => congrArg (· + 1) (ih (i + 1))
theorem int_ne {i k : Int} (h : i ≠ k) : ¬ V.int i = V.int k := fun e => h (V.int.inj e)
theorem rows_add (a : Nat) (ths : List Nat) : ∀ i : Int, setD (.int (i + ths.length)) (.ref a) (rowsL i ths) = rowsL i (ths ++ [a]) := by
  induction ths with
  | nil => exact fun i => by rw [List.length_nil]; show [(V.int (i + 0), V.ref a)] = _; rw [Int.add_zero]; rfl
  | cons b r ih =>
    intro i
    show (if V.int i = V.int (i + ((r.length + 1 : Nat) : Int)) then _ else (V.int i, V.ref b) :: setD (.int (i + ((r.length + 1 : Nat) : Int))) (.ref a) (rowsL (i + 1) r)) = (V.int i, V.ref b) :: rowsL (i + 1) (r ++ [a])
    rw [if_neg (int_ne (by omega)), ← ih (i + 1), Int.natCast_succ, Int.add_assoc, Int.add_comm 1]
theorem rows_same {a : Nat} (ths : List Nat) : ∀ (i : Int) (j : Nat), ths[j]? = some a → setD (.int (i + j)) (.ref a) (rowsL i ths) = rowsL i ths := by
  induction ths with
  | nil => exact fun x_ x_ h => nomatch h
  | cons b r ih =>
    intro i j h
    cases j with
    | zero =>
      cases Option.some.inj h
      exact if_pos (congrArg V.int (Int.add_zero i).symm)
    | succ j =>
      show (if V.int i = V.int (i + ((j + 1 : Nat) : Int)) then _ else (V.int i, V.ref b) :: setD (.int (i + ((j + 1 : Nat) : Int))) (.ref a) (rowsL (i + 1) r)) = (V.int i, V.ref b) :: rowsL (i + 1) r
      rw [if_neg (int_ne (by omega)), Int.natCast_succ, Int.add_comm (j : Int), ← Int.add_assoc, ih _ _ h]
theorem add_cases {γ δ : Type} {l : List γ} {m : List δ} (e : l.length = m.length) {x u : γ} {y v : δ} {j : Nat} (h1 : (l ++ [x])[j]? = some u) (h2 : (m ++ [y])[j]? = some v) : (l[j]? = some u ∧ m[j]? = some v) ∨ (j = l.length ∧ u = x ∧ v = y) := by
  rcases Nat.lt_trichotomy j l.length with h | h | h
  · exact .inl ⟨(List.getElem?_append_left h).symm.trans h1, (List.getElem?_append_left (e ▸ h)).symm.trans h2⟩
  · subst h
    rw [List.getElem?_concat_length] at h1
    rw [e, List.getElem?_concat_length] at h2
    exact .inr ⟨rfl, (Option.some.inj h1).symm, (Option.some.inj h2).symm⟩
  · rw [List.getElem?_eq_none (List.length_append ▸ h)] at h1
    cases h1
noncomputable abbrev St.aMk (st : St) (a : Nat) (p : Int × Bool) : St := { st with ths := st.ths ++ [a], mks := st.mks ++ [p] }
noncomputable abbrev St.aSp (st : St) (a : Nat) (p : Int × Bool) : St := { st with sps := st.sps ++ [a], spv := st.spv ++ [p] }
noncomputable abbrev St.aTh (st : St) (a : Nat) : St := { st with thl := st.thl ++ [a] }
noncomputable def mkN (i : Int) (b : Bool) : MO := .inst 290 [("number", .int i), ("advances", .bool b), ("buffer", .none), ("position", .int 0)]
section
variable {α β : Type} {ds : List Int} {st : St} {μ μ' : Mem} {Q : V → Mem → Prop} {t : List Int} {a j : Nat} {p : Int × Bool} {x i : Int} {b : Bool}
theorem p1 {l s : List Nat} : (l ++ [a] ++ s).Perm (a :: (l ++ s)) := by rw [List.append_assoc]; exact List.perm_middle
theorem p2 {l s : List Nat} : (l ++ (s ++ [a])).Perm (a :: (l ++ s)) := by rw [← List.append_assoc]; exact (List.perm_append_comm).trans (.refl _)
theorem nd_add {l m : List Nat} (p : m.Perm (a :: l)) (h : l.Nodup) (f : a ∉ l) : m.Nodup := p.nodup_iff.mpr (List.nodup_cons.mpr ⟨f, h⟩)
theorem big_add {l m : List Nat} (p : m.Perm (a :: l)) (h : ∀ x ∈ l, 168 ≤ x ∧ x < μ.length) (f : 168 ≤ a) (ha : a < μ.length) : ∀ x ∈ m, 168 ≤ x ∧ x < μ.length := fun x hx => (List.mem_cons.mp (p.mem_iff.mp hx)).elim (fun e => e ▸ ⟨f, ha⟩) (h x)
theorem tn_add {l m : List Nat} {y : Nat} (p : m.Perm (a :: l)) (h : y ∉ l) (n : a ≠ y) : y ∉ m := fun hx => (List.mem_cons.mp (p.mem_iff.mp hx)).elim (fun e => n e.symm) h
/-- the rows take a new marker -/
theorem H.addM (h : H ds st μ) (hm : μ[a]? = some (mkO (1 + st.ths.length) p)) (fa : Free st.L a) (ht : a ≠ st.txa) (hz : szOk (.dict (rowsL 1 (st.ths ++ [a]))) = true) : H ds (st.aMk a p) (μ.set 27 (.dict (rowsL 1 (st.ths ++ [a])))) :=
  have f := h.fix
  have e := h.ev.setF (f := 27) (by decide) hz
  have n : (27 : Nat) ≠ a := fun q => absurd fa.1 (q ▸ by decide)
  ⟨⟨nb f.f2, nb f.f3, nb f.f4, nb f.f17, nb f.f19, nb f.f21, nb f.f25, nb f.f26, yset f.f27, nb f.f28, nb f.f164, nb f.f166, nb f.f167⟩,
    ⟨fun hj hp => (add_cases e.lm hj hp).elim (fun q => e.mrk q.1 q.2) fun ⟨e1, e2, e3⟩ => by subst e1 e2 e3; exact nset n hm, e.sp, e.tx, by rw [List.length_append, List.length_append, e.lm]; rfl, e.ls, e.bigT, big_add p1 e.big fa.1 (get_lt (nset n hm)), nd_add p1 e.nd fa.2, tn_add p1 e.tn ht, e.sz⟩⟩
/-- the spots take a new one -/
theorem H.addS (h : H ds st μ) (hm : μ[a]? = some (spO p)) (fa : Free st.L a) (ht : a ≠ st.txa) (hz : szOk (.list ((st.sps ++ [a]).map .ref)) = true) : H ds (st.aSp a p) (μ.set 166 (.list ((st.sps ++ [a]).map .ref))) :=
  have f := h.fix
  have e := h.ev.setF (f := 166) (by decide) hz
  have n : (166 : Nat) ≠ a := fun q => absurd fa.1 (q ▸ by decide)
  ⟨⟨nb f.f2, nb f.f3, nb f.f4, nb f.f17, nb f.f19, nb f.f21, nb f.f25, nb f.f26, nb f.f27, nb f.f28, nb f.f164, yset f.f166, nb f.f167⟩,
    ⟨e.mrk, fun hj hp => (add_cases e.ls hj hp).elim (fun q => e.sp q.1 q.2) fun ⟨e1, e2, e3⟩ => by subst e1 e2 e3; exact nset n hm, e.tx, e.lm, by rw [List.length_append, List.length_append, e.ls]; rfl, e.bigT, big_add p2 e.big fa.1 (get_lt (nset n hm)), nd_add p2 e.nd fa.2, tn_add p2 e.tn ht, e.sz⟩⟩
theorem H.addT (h : H ds st μ) (hz : szOk (.list ((st.thl ++ [a]).map .ref)) = true) : H ds (st.aTh a) (μ.set 17 (.list ((st.thl ++ [a]).map .ref))) :=
  have f := h.fix
  ⟨⟨nb f.f2, nb f.f3, nb f.f4, yset f.f17, nb f.f19, nb f.f21, nb f.f25, nb f.f26, nb f.f27, nb f.f28, nb f.f164, nb f.f166, nb f.f167⟩, h.ev.setF rfl hz⟩
/-- a free object is stored -/
theorem H.setFree (h : H ds st μ) (fa : Free st.L a) (ht : a ≠ st.txa) {o : MO} (hz : szOk o = true) : H ds st (μ.set a o) :=
  have e := h.ev
  ⟨h.fix.setL (m := st.mks) (s := st.spv) fa.1, ⟨fun hj hp => nset (fun q => fa.2 (q ▸ List.mem_append_left _ (List.mem_of_getElem? hj))) (e.mrk hj hp), fun hj hp => nset (fun q => fa.2 (q ▸ List.mem_append_right _ (List.mem_of_getElem? hj))) (e.sp hj hp), nset ht e.tx, e.lm, e.ls, e.bigT, big_set e.big, e.nd, e.tn, sz_set e.sz hz⟩⟩
theorem szR {l : List Nat} (h : l.length < 1000) : szOk (.list ((l ++ [a]).map .ref)) = true := decide_eq_true (by rw [List.length_map, List.length_append]; exact h)
theorem app_ref {l : List Nat} {c : Nat} (h0 : c ≠ 0) (hm : μ[c]? = some (.list (l.map .ref))) (hz : szOk (.list ((l ++ [a]).map .ref)) = true) (K : V → Mx α) : bnd (callB "list.append" [.ref c, .ref a]) K μ = K .none (μ.set c (.list ((l ++ [a]).map .ref))) := by
  rw [List.map_append] at hz ⊢
  exact app_bnd h0 hm hz K
theorem st_thl {K : V → Mx β} {Q : β → Mem → Prop} (h : H ds st μ) (hl : st.thl.length < 1000) (k : ∀ μ', H ds (st.aTh a) μ' → Keep st.L μ μ' → Go (K .none μ') Q) : Go (bnd (callB "list.append" [.ref 17, .ref a]) K μ) Q :=
  go_eq (app_ref (by decide) h.fix.f17 (szR hl) K) (k _ (h.addT (szR hl)) (Keep.setF (by decide)))
theorem st_addS {K : V → Mx β} {Q : β → Mem → Prop} (h : H ds st μ) (hm : μ[a]? = some (spO p)) (fa : Free st.L a) (ht : a ≠ st.txa) (hl : st.sps.length < 1000) (k : ∀ μ', H ds (st.aSp a p) μ' → Go (K .none μ') Q) : Go (bnd (callB "list.append" [.ref 166, .ref a]) K μ) Q :=
  go_eq (app_ref (by decide) h.fix.f166 (szR hl) K) (k _ (h.addS hm fa ht (szR hl)))
theorem g1243 (h : H ds st μ) (n : Nat) (k : ∀ μ', H ds (st.sLm (st.lm + 1)) μ' → Keep st.L μ μ' → Q (.int (st.lm + 1)) μ') : Go (callN (n + 1) (.top 1243) [.ref 4] μ) Q := by
  refine go_c (callS (s1243 _ _) (by kernel_rfl)) ?_
  wtm_at "s"
  refine st_lm h fun μ1 h1 k1 => ?_
  wtm_at "s"
  exact go_ret (k _ h1 k1)
theorem g290 (h : H ds st μ) (n : Nat) (i : Int) (b : Bool) (k : ∀ a μ', H ds st μ' → Keep st.L μ μ' → Free st.L a → a ≠ st.txa → μ'[a]? = some (mkN i b) → Q (.ref a) μ') : Go (callN (n + 2) (.top 290) [.int i, .bool b] μ) Q := by
  refine go_c (callC (by kernel_rfl) (by decide) (i := 266) (by kernel_rfl)) (go_eq (new_bnd (by rfl) _) (go_b (go_c (callS (s266 _ _ _ _) (by kernel_rfl)) ?_)))
  refine new_put h (by kernel_rfl) (by kernel_rfl) (new_put h (by kernel_rfl) (by kernel_rfl) (new_put h (by kernel_rfl) (by kernel_rfl) (new_put h (by kernel_rfl) (by kernel_rfl) (go_ret (go_ret ?_)))))
  exact k _ _ (h.push (by kernel_rfl)) (Keep.push _ _ _) h.free (Nat.ne_of_gt h.txLt) (last_get _)
theorem mkN_buf (hm : μ[a]? = some (mkN i b)) (K : V → Mx α) : bnd (attrM (.ref a) "buffer") K μ = K .none μ := attr_bnd hm (by kernel_rfl) (by kernel_rfl) (by kernel_rfl) K
theorem is_self (K : Bool → Mx α) : bnd (cmpM .Is (.ref a) (.ref a)) K μ = K true μ := rd_bnd (f := fun x_ => isV (.ref a) (.ref a)) (if_pos rfl) K
theorem isnot_self (K : Bool → Mx α) : bnd (cmpM .IsNot (.ref a) (.ref a)) K μ = K false μ := by
  show bnd (bnd (cmpM .Is (.ref a) (.ref a)) fun r => ret (!r)) K μ = _
  rw [bnd_assoc, is_self]; rfl
theorem isMk (hm : μ[a]? = some (mkO i p)) (K : V → Mx α) : bnd (callB "isinstance" [.ref a, .top 290]) K μ = K (.bool true) μ := by
  refine bnd_val ?_
  show bnd (bnd (getM a) _) _ μ = _
  rw [bnd_assoc]
  exact (bnd_val (a := mkO i p) (μ' := μ) (rdM_val hm)).trans (by kernel_rfl)
theorem szRows {l : List Nat} (h : l.length ≤ 64) : szOk (.dict (rowsL 1 l)) = true := decide_eq_true (by rw [rows_len]; exact Nat.le_trans h (by decide))
theorem set_end {γ : Type} {l : List γ} {y z : γ} {m : Nat} (e : m = l.length) : (l ++ [y]).set m z = l ++ [z] := by
  subst e; rw [List.set_append_right _ _ (Nat.le_refl _), Nat.sub_self]; rfl
/-- a new marker is put to the rows -/
theorem g320n (h : H ds st μ) (n : Nat) (hm : μ[a]? = some (mkO (1 + st.ths.length) (0, b))) (fa : Free st.L a) (ht : a ≠ st.txa) (hn : st.ths.length < 64) (k : ∀ v μ', H ds (st.aMk a (x, b)) μ' → Q v μ') : Go (callN (n + 1) (.top 320) [.ref 26, .ref a, .int x] μ) Q := by
  have hz : szOk (.dict (rowsL 1 (st.ths ++ [a]))) = true := szRows (List.length_append ▸ hn)
  refine go_c (callS (s320 _ _ _ _) (by kernel_rfl)) ?_
  wtm_at "s"
  refine go_eq (mk_num hm _) (go_eq (putD_bnd (by decide) h.fix.f27 (kindKey_rows _) (by rw [rows_add]; exact hz) _) ?_)
  rw [rows_add]
  refine st_pos (j := st.ths.length) (p := (0, b)) (h.addM hm fa ht hz) List.getElem?_concat_length (by show (st.mks ++ [_])[st.ths.length]? = _; rw [h.ev.lm, List.getElem?_concat_length]) fun μ2 h2 x_ => go_ret (k _ _ ?_)
  have e := set_end (y := ((0 : Int), b)) (z := (x, b)) h.ev.lm
  exact (show (st.aMk a (0, b)).sMk ((st.mks ++ [(0, b)]).set st.ths.length (x, b)) = st.aMk a (x, b) by rw [e]) ▸ h2
/-- a marker that stands there is put -/
theorem g320s (h : H ds st μ) (n : Nat) (hj : st.ths[j]? = some a) (hp : st.mks[j]? = some p) (hn : st.ths.length < 64) (k : ∀ v μ', H ds (st.sMk (st.mks.set j (x, p.2))) μ' → Q v μ') : Go (callN (n + 1) (.top 320) [.ref 26, .ref a, .int x] μ) Q := by
  have e := rows_same st.ths 1 j hj
  have hz := szRows (Nat.le_of_lt hn)
  have f := h.fix
  refine go_c (callS (s320 _ _ _ _) (by kernel_rfl)) ?_
  wtm_at "s"
  refine go_eq (mk_num (h.ev.mrk hj hp) _) (go_eq (putD_bnd (by decide) f.f27 (kindKey_rows _) (by rw [e]; exact hz) _) ?_)
  rw [e]
  have h1 : H ds st (μ.set 27 (.dict (rowsL 1 st.ths))) := ⟨⟨nb f.f2, nb f.f3, nb f.f4, nb f.f17, nb f.f19, nb f.f21, nb f.f25, nb f.f26, yset f.f27, nb f.f28, nb f.f164, nb f.f166, nb f.f167⟩, h.ev.setF rfl hz⟩
  exact st_pos h1 hj hp fun μ2 h2 x_ => go_ret (k _ _ h2)
/-- set_marker, of a new marker -/
theorem g599n (h : H ds st μ) (n : Nat) (g : GI st t) (hm : μ[a]? = some (mkN (1 + st.ths.length) b)) (fa : Free st.L a) (ht : a ≠ st.txa) (hn : st.ths.length < 64) (k : ∀ v μ', H ds (st.aMk a (clip x 1 (t.length + 1), b)) μ' → Q v μ') : Go (callN (n + 3) (.top 599) [.ref a, .ref 19, .int x] μ) Q := by
  refine go_c (callS (s599 _ _ _ _) (by kernel_rfl)) (go_as (go_eq (mkN_buf hm _) ?_))
  wtm_at "s"
  refine go_eq (putA_bnd (by intro e; rw [e] at fa; exact absurd fa.1 (by decide)) hm (by kernel_rfl) (by kernel_rfl) _) ?_
  have h1 := h.setFree fa ht (o := mkO (1 + st.ths.length) (0, b)) (by rfl)
  have m1 : (μ.set a (mkO (1 + st.ths.length) (0, b)))[a]? = some (mkO (1 + st.ths.length) (0, b)) := yset hm
  show Go (bnd (cmpM .Is (.ref 19) .none) _ (μ.set a (mkO (1 + st.ths.length) (0, b)))) _
  wtm_at "s"
  refine go_eq (b412 h1 _ g _) ?_
  wtm_at "s"
  exact go_b (g320n h1 _ m1 fa ht hn fun v μ2 h2 => go_ret (k _ _ h2))
/-- set_marker, of a marker that stands there -/
theorem g599s (h : H ds st μ) (n : Nat) (g : GI st t) (hj : st.ths[j]? = some a) (hp : st.mks[j]? = some p) (hn : st.ths.length < 64) (k : ∀ v μ', H ds (st.sMk (st.mks.set j (clip x 1 (t.length + 1), p.2))) μ' → Q v μ') : Go (callN (n + 3) (.top 599) [.ref a, .ref 19, .int x] μ) Q := by
  have hm := h.ev.mrk hj hp
  refine go_c (callS (s599 _ _ _ _) (by kernel_rfl)) (go_as (go_eq (mk_buf hm _) ?_))
  wtm_at "s"
  refine go_eq (mk_buf hm _) ?_
  wtm_at "s"
  refine go_eq (isnot_self _) ?_
  wtm_at "s"
  refine go_eq (putA_bnd (by intro e; rw [e] at hj; exact absurd (h.bigM (List.mem_of_getElem? hj)) (by decide)) hm (by kernel_rfl) (by kernel_rfl) _) ?_
  have h1 := h.setM (p := p) hj
  rw [set_same hp] at h1
  show Go (bnd (cmpM .Is (.ref 19) .none) _ (μ.set a (mkO (1 + j) p))) _
  wtm_at "s"
  refine go_eq (b412 h1 _ g _) ?_
  wtm_at "s"
  exact go_b (g320s h1 _ hj hp hn fun v μ2 h2 => go_ret (k _ _ h2))
theorem c669 (hm : μ[a]? = some (mkO i p)) (n : Nat) (K : V → Mx α) : bnd (callN (n + 1) (.top 669) [.ref a]) K μ = K (.ref a) μ := go_fin (fun k => by
  refine go_c (callS (s669 _ _) (by kernel_rfl)) (go_eq (isMk hm _) ?_)
  wtm_at "s"
  exact go_ret k) K
theorem nil_b (K : Bool → Mx α) : bnd (cmpM .IsNot (if b = true then .top 138 else .top 135) (.top 135)) K μ = K b μ := by cases b <;> rfl
/-- copy-marker -/
theorem d865 (H0 : HG ds st t μ) (n : Nat) {r : Nat} (hr : μ[r]? = some (.list [.int x, if b = true then .top 138 else .top 135])) (fr : Free st.L r) (hl : st.lm = st.ths.length) (hn : st.ths.length < 64) (k : ∀ a μ', HG ds ((st.sLm (st.lm + 1)).aMk a (clip x 1 (t.length + 1), b)) t μ' → Free st.L a → Q (.ref a) μ') : Go (callN (n + 4) (.top 865) [.ref 4, .ref r] μ) Q := H0.elim fun cs gs ge t1 t2 h g => by
  refine go_c (callS (s865 _ _ _) (by kernel_rfl)) ?_
  wtm_at "s"
  refine go_b (g1243 h _ fun μ1 h1 k1 => ?_)
  have hr1 := k1.get _ _ fr hr
  refine go_as (go_eq (len_list hr1 _) ?_)
  wtm_at "s"
  refine go_eq (it1 hr1 _) ?_
  wtm_at "s"
  refine go_eq (nil_b _) ?_
  wtm_at "s"
  refine go_b (g290 h1 _ _ b fun a μ2 h2 k2 f2 n2 m2 => ?_)
  have hr2 := k2.get _ _ fr hr1
  refine go_eq (it0 hr2 _) ?_
  wtm_at "s"
  refine go_eq (b655 h2 _ _) (go_eq (it0 hr2 _) (go_eq (b592 _ _ _) ?_))
  rw [show (st.hid cs gs ge t1 t2).lm + 1 = 1 + (st.ths.length : Int) from hl ▸ Int.add_comm _ _] at m2
  exact go_b (g599n h2 _ g m2 f2 n2 hn fun v μ3 h3 => go_ret (k _ _ ⟨cs, gs, ge, t1, t2, h3, g⟩ f2))
/-- set-marker -/
theorem d872 (H0 : HG ds st t μ) (n : Nat) {r : Nat} (hj : st.ths[j]? = some a) (hp : st.mks[j]? = some p) (hr : μ[r]? = some (.list [.ref a, .int x])) (hn : st.ths.length < 64) (k : ∀ μ', HG ds (st.sMk (st.mks.set j (clip x 1 (t.length + 1), p.2))) t μ' → Q (.ref a) μ') : Go (callN (n + 4) (.top 872) [.ref 4, .ref r] μ) Q := H0.elim fun cs gs ge t1 t2 h g => by
  refine go_c (callS (s872 _ _ _) (by kernel_rfl)) (go_eq (it0 hr _) (go_eq (c669 (h.ev.mrk hj hp) _ _) (go_as (go_as (go_eq (len_list hr _) ?_)))))
  wtm_at "s"
  refine go_eq (b655 h _ _) (go_eq (it1 hr _) ?_)
  wtm_at "s"
  exact go_eq (it1 hr _) (go_eq (b592 _ _ _) (go_b (g599s h _ g hj hp hn fun v μ1 h1 => go_ret (k _ ⟨cs, gs, ge, t1, t2, h1, g⟩))))
/-- marker-position -/
theorem b879 (H0 : HG ds st t μ) (n : Nat) {r : Nat} (hj : st.ths[j]? = some a) (hp : st.mks[j]? = some p) (hr : μ[r]? = some (.list [.ref a])) (K : V → Mx α) : bnd (callN (n + 2) (.top 879) [.ref 4, .ref r]) K μ = K (.int p.1) μ := H0.elim fun cs gs ge t1 t2 h g => go_fin (fun k => by
  have hm := h.ev.mrk hj hp
  refine go_c (callS (s879 _ _ _) (by kernel_rfl)) (go_eq (it0 hr _) (go_eq (c669 hm _ _) (go_as (go_eq (mk_buf hm _) ?_))))
  wtm_at "s"
  refine go_eq (mk_pos hm _) ?_
  wtm_at "s"
  exact go_ret k) K
end
/-! ## Is the buffer as the law's own text says -/
theorem txt_at (t : List Int) {s : Int} (h1 : 1 ≤ s) (h2 : s ≤ t.length + 1) : ∃ x z, t = x ++ z ∧ s = x.length + 1 := by
  refine El_eea (app_at t (n := (s - 1).toNat) (by omega)) fun x z e l => ?_
  exact ⟨x, z, e, by rw [l]; omega⟩
theorem txt_cut (t : List Int) {s e : Int} (h1 : 1 ≤ s) (h2 : s ≤ e) (h3 : e ≤ t.length + 1) : ∃ x y z, t = x ++ (y ++ z) ∧ s = x.length + 1 ∧ e = x.length + y.length + 1 := by
  refine El_eea (txt_at t (Int.le_trans h1 h2) h3) fun w z e1 l => ?_
  refine El_eea (txt_at w h1 (l ▸ h2)) fun x y e2 l2 => ?_
  exact ⟨x, y, z, by rw [e1, e2, List.append_assoc], l2, by rw [l, e2, la]; rfl⟩
structure IV (ds : List Int) (j : Nat) (D : Int) (st : St) : Prop where
  op : st.op = st.pt
  ol : st.ol = st.lo
  oh : st.oh = st.hi
  b : Bd st st.txt
  cod : ∀ c ∈ st.txt, 0 ≤ c
  mkE : st.spv = st.mks
  lm : st.lm = st.ths.length
  thl : st.thl = st.ths
  nm : st.ths.length ≤ j
  tl : st.txt.length ≤ 5 + 4 * j
  dk0 : 0 ≤ st.dk
  dk : st.dk ≤ D
  hd : ds.length ≤ 63
noncomputable def inV : V → Bool
  | .none => true
  | .int c => c == 10
  | _ => false
noncomputable def orZ : V → V
  | .none => .int 0
  | v => v
section
variable {α β : Type} {ds : List Int} {st : St} {t : List Int} {μ μ' : Mem} {Q : V → Mem → Prop} {a b j : Nat} {D p : Int}
theorem toPys_bools {n : Nat} : ∀ (l : List Bool), toPys (toPy n μ) (l.map .bool) = some (l.map .bool)
  | [] => rfl
  | _ :: r => toPys_cons toPy_bool (toPys_bools r)
theorem noExc_go {f : Mx α} {Q : α → Mem → Prop} (h : Go (f μ) Q) : Go (noExc f μ) Q := by
  refine El_eea h fun a μ' e q => ?_
  exact ⟨a, μ', by unfold noExc; rw [e], q⟩
theorem cm_nil {all : List V} {elt : V → Mx V} {Q : List V → Mem → Prop} (hm : μ[a]? = some (.list all)) (k : Q [] μ) : Go (compM a all elt [] μ) Q := go_eq (same_bnd hm _) (go_ret k)
theorem cm_cons {all r : List V} {v : V} {elt : V → Mx V} {Q : List V → Mem → Prop} (hm : μ[a]? = some (.list all)) (e : Go (elt v μ) fun w μ' => Go (compM a all elt r μ') fun ws => Q (w :: ws)) : Go (compM a all elt (v :: r) μ) Q :=
  go_eq (same_bnd hm _) (go_b (go_m e fun x_ x_ e => go_b (go_m e fun x_ x_ q => go_ret q)))
theorem comp_all {all : List V} {elt : V → Mx V} {μ0 : Mem} {Q : List V → Mem → Prop} (hI : ∀ {μ}, HG ds st t μ → μ[a]? = some (.list all)) (ts : List Nat) : ∀ {ms : List (Int × Bool)} {μ : Mem}, ts.length = ms.length →
    (∀ {j a : Nat} {m : Int × Bool} {μ : Mem} {Q : V → Mem → Prop}, ts[j]? = some a → ms[j]? = some m → HG ds st t μ → (∀ μ', HG ds st t μ' → Keep st.L μ μ' → Q (.int m.1) μ') → Go (elt (.ref a) μ) Q) →
    HG ds st t μ → Keep st.L μ0 μ → (∀ ws μ', ws = (ms.map (·.1)).map V.int → HG ds st t μ' → Keep st.L μ0 μ' → Q ws μ') → Go (compM a all elt (ts.map .ref) μ) Q := by
  induction ts generalizing Q with
  | nil =>
    intro ms μ l _ h k0 k
    cases List.eq_nil_of_length_eq_zero l.symm
    exact cm_nil (hI h) (k _ _ rfl h k0)
  | cons x r ih =>
    intro ms μ l hE h k0 k
    cases ms with
    | nil => cases l
    | cons m ms => exact cm_cons (hI h) (hE (j := 0) rfl rfl h fun μ1 h1 k1 => ih (Nat.succ.inj l) (fun {j} {_} {_} {_} {_} hj hp => hE (j := j + 1) hj hp) h1 (k0.trans k1) fun ws μ' e => k _ _ (congrArg (V.int m.1 :: ·) e))
theorem eq_il {l : List Int} (ha : μ[a]? = some (il l)) (hb : μ[b]? = some (il l)) : eqM (.ref a) (.ref b) μ = some (.ok true, μ) := eqM_true (lenD ha hb rfl) (toPy_il ha) (toPy_il hb)
theorem eq_bl {l : List Bool} (ha : μ[a]? = some (.list (l.map .bool))) (hb : μ[b]? = some (.list (l.map .bool))) : eqM (.ref a) (.ref b) μ = some (.ok true, μ) := eqM_true (lenD ha hb rfl) (toPy_list ha (toPys_bools l)) (toPy_list hb (toPys_bools l))
theorem eq_bnd {x y : V} (h : eqM x y μ = some (.ok true, μ)) (K : Bool → Mx α) : bnd (cmpM .Eq x y) K μ = K true μ := bnd_val h
theorem ne_bnd {x y : V} (h : eqM x y μ = some (.ok true, μ)) (K : Bool → Mx α) : bnd (cmpM .NotEq x y) K μ = K false μ := by
  show bnd (bnd (eqM x y) fun r => ret (!r)) K μ = _
  rw [bnd_assoc, bnd_val h]; rfl
theorem sgV_or (st : St) (p : Int) : sgV st p = .none ∨ ∃ c, sgV st p = .int c := by
  unfold sgV; split
  · exact .inr ⟨_, rfl⟩
  · exact .inl rfl
theorem in_bnd {x : Nat} (hm : μ[x]? = some (.tup [.none, .int 10])) {v : V} (hv : v = .none ∨ ∃ c, v = .int c) (K : Bool → Mx α) : bnd (cmpM .In v (.ref x)) K μ = K (inV v) μ :=
  rd_bnd (f := fun μ => inO μ v (.ref x)) (obind (f := fun x => μ[x]?.bind _) rfl (obind hm (obind (f := fun l => (two l).bind _) rfl (by rcases hv with rfl | ⟨c, rfl⟩ <;> rfl)))) K
theorem orZ_int {v : V} (hv : v = .none ∨ ∃ c, v = .int c) : ∃ c, orZ v = .int c := by
  rcases hv with rfl | ⟨c, rfl⟩
  · exact ⟨0, rfl⟩
  · exact ⟨c, rfl⟩
theorem one_go {v : V} (hv : v = .none ∨ ∃ c, v = .int c) (k : Q (orZ v) μ) : Go (noExc (bnd (bnd (cmpM .Is v V.none) fun c5 => if c5 = true then ret (V.int 0) else ret v) fun x6 => ret x6) μ) Q := by
  refine noExc_go ?_
  rcases hv with rfl | ⟨c, rfl⟩
  · exact go_ret (b := V.int 0) k
  · exact go_ret (b := V.int c) k
variable (iv : IV ds j D st)
include iv
theorem IV.in (h1 : st.lo ≤ p) (h2 : p < st.hi) : ∃ c, sgV st p = .int c ∧ codeAt st.lo st.hi st.txt p = c ∧ 0 ≤ c := by
  have lo := iv.b.lo
  have hi := iv.b.hi
  have hlt : (p - 1).toNat < st.txt.length := by clear iv; omega
  unfold sgV codeAt
  rw [iv.ol, iv.oh, if_pos ⟨h1, h2⟩, if_neg (fun q => q.elim (Int.not_lt.mpr h1) (Int.not_le.mpr h2)), List.getElem?_eq_getElem hlt]
  exact ⟨_, rfl, rfl, iv.cod _ (List.getElem_mem hlt)⟩
theorem IV.out (h : p < st.lo ∨ st.hi ≤ p) : sgV st p = .none ∧ codeAt st.lo st.hi st.txt p = -1 := by
  unfold sgV codeAt
  rw [iv.ol, iv.oh, if_neg (fun q => h.elim (Int.not_lt.mpr q.1) (Int.not_le.mpr q.2)), if_pos h]
  exact ⟨rfl, rfl⟩
theorem IV.qV {c : Prop} {_ : Decidable c} (h : c ↔ (p < st.lo ∨ st.hi ≤ p)) : (decide c || decide (codeAt st.lo st.hi st.txt p = 10)) = inV (sgV st p) := by
  by_cases z : c
  · rw [or_t z, (iv.out (h.mp z)).1]; rfl
  · have z' := fun q => z (h.mpr q)
    refine El_eaa (iv.in (p := p) (Int.not_lt.mp fun q => z' (.inl q)) (Int.not_le.mp fun q => z' (.inr q))) fun d e1 e2 x_ => ?_
    rw [or_f z, e1, e2]; rfl
theorem IV.zV : V.int (mx 0 (codeAt st.lo st.hi st.txt p)) = orZ (sgV st p) := by
  by_cases z : p < st.lo ∨ st.hi ≤ p
  · rw [(iv.out z).1, (iv.out z).2]; rfl
  · refine El_eaa (iv.in (p := p) (Int.not_lt.mp fun q => z (.inl q)) (Int.not_le.mp fun q => z (.inr q))) fun d e1 e2 e3 => ?_
    rw [e1, e2]
    refine congrArg V.int ?_
    unfold mx
    split
    · rfl
    · exact Int.le_antisymm e3 (Int.not_lt.mp ‹_›)

theorem IV.o1 (H0 : HG ds st t μ) (K : V → Mx α) : bnd (itemM (.ref 167) (.str "point")) K μ = K (.int st.pt) μ := iv.op ▸ ditem_bnd H0.own (by kernel_rfl) K
theorem IV.o2 (H0 : HG ds st t μ) (K : V → Mx α) : bnd (itemM (.ref 167) (.str "low")) K μ = K (.int st.lo) μ := iv.ol ▸ ditem_bnd H0.own (by kernel_rfl) K
theorem IV.o3 (H0 : HG ds st t μ) (K : V → Mx α) : bnd (itemM (.ref 167) (.str "high")) K μ = K (.int st.hi) μ := iv.oh ▸ ditem_bnd H0.own (by kernel_rfl) K
theorem IV.th (H0 : HG ds st t μ) : μ[17]? = some (.list (st.ths.map .ref)) := iv.thl ▸ H0.elim fun x_ x_ x_ x_ x_ h x_ => h.fix.f17
omit iv
theorem HG.o1 (H0 : HG ds st t μ) (K : V → Mx α) : bnd (itemM (.ref 167) (.str "point")) K μ = K (.int st.op) μ := ditem_bnd H0.own (by kernel_rfl) K
theorem HG.o2 (H0 : HG ds st t μ) (K : V → Mx α) : bnd (itemM (.ref 167) (.str "low")) K μ = K (.int st.ol) μ := ditem_bnd H0.own (by kernel_rfl) K
theorem HG.o3 (H0 : HG ds st t μ) (K : V → Mx α) : bnd (itemM (.ref 167) (.str "high")) K μ = K (.int st.oh) μ := ditem_bnd H0.own (by kernel_rfl) K
theorem HG.o4 (H0 : HG ds st t μ) (K : V → Mx α) : bnd (itemM (.ref 167) (.str "text")) K μ = K (.ref st.txa) μ := ditem_bnd H0.own (by kernel_rfl) K
theorem HG.o5 (H0 : HG ds st t μ) (K : V → Mx α) : bnd (itemM (.ref 167) (.str "spots")) K μ = K (.ref 166) μ := ditem_bnd H0.own (by kernel_rfl) K
theorem HG.sp (H0 : HG ds st t μ) : μ[166]? = some (.list (st.sps.map .ref)) := H0.elim fun x_ x_ x_ x_ x_ h x_ => h.fix.f166
theorem HG.lens (H0 : HG ds st t μ) : st.ths.length = st.mks.length ∧ st.sps.length = st.spv.length := H0.elim fun x_ x_ x_ x_ x_ h x_ => ⟨h.ev.lm, h.ev.ls⟩
/-- one deed of a comprehension -/
theorem elt_go (H0 : HG ds st t μ) (n : Nat) {f : Addr} {nm : Str} {v w : V} {F : V → Mx V} (hd : getD (.str nm) deedsL = some (.top f)) (hc : mayCall (.top f) = true)
    (hv : ∀ {r : Nat} {μ' : Mem}, HG ds st t μ' → ∀ K : V → Mx V, bnd (callN n (.top f) [.ref 4, .ref r]) K μ' = K v μ') (hF : ∀ μ', F v μ' = some (.ok w, μ')) (k : ∀ μ', HG ds st t μ' → Keep st.L μ μ' → Q w μ') :
    Go (noExc (bnd (itemM (.ref 164) (.str nm)) fun x4 => if mayCall x4 = true then bnd (newM (.list [])) fun x5 => bnd (callV (callN n) x4 [.ref 4, x5]) fun x6 => F x6 else stuck) μ) Q :=
  noExc_go (go_eq (ditem_bnd H0.dee hd _) (go_t hc (sg_new H0 (by rfl) fun r μ1 h1 k1 x_ x_ => go_call (go_eq (hv h1 _) ⟨w, μ1, hF μ1, k _ h1 k1⟩))))
theorem isTT (c : Bool) (μ' : Mem) : bnd (cmpM .Is (if c = true then V.top 138 else .top 135) (.top 138)) (fun c8 => ret (V.bool c8)) μ' = some (.ok (.bool c), μ') := by cases c <;> rfl
end
/-! ## The question itself -/
section
variable {ds : List Int} {st : St} {μ : Mem} {Q : V → Mem → Prop} {j : Nat} {D : Int}
theorem g1325 (H0 : HG ds st st.txt μ) (iv : IV ds j D st) (hj : j ≤ 14) (n : Nat) (k : ∀ μ', HG ds st st.txt μ' → Keep st.L μ μ' → Q (.bool true) μ') : Go (callN (n + 8) (.top 1325) [.ref 167, .ref 164, .ref 4, .ref 17] μ) Q := by
  have hl := iv.nm
  have ln := H0.lens
  have r1 : 1 ≤ st.ol := iv.ol ▸ iv.b.lo
  have r2 : st.oh ≤ st.txt.length + 1 := iv.oh ▸ iv.b.hi
  refine go_c (callS (runFn_k (callN (n + 7)) (fnOf 1325) _ [("own", .ref 167), ("deeds", .ref 164), ("world", .ref 4), ("things", .ref 17)] (by kernel_rfl)) (by kernel_rfl)) ?_
  refine go_c (kSs_drop (s := stOf 1325 0) (r := (fnOf 1325).body.drop 1) (by kernel_rfl) _ _) (go_c (s1325_0 _ _ _ _ _ _) (go_eq (iv.o1 H0 _) (go_eq (iv.o2 H0 _) (go_eq (iv.o3 H0 _) (sg_new H0 (by rfl) fun x_ μ1 H1 k1 x_ x_ => go_sn ?_)))))
  refine go_c (kSs_drop (s := stOf 1325 1) (r := (fnOf 1325).body.drop 2) (by kernel_rfl) _ _) (go_c (s1325_1 ..) (sg_new H1 (by rfl) fun a2 μ2 H2 k2 f2 m2 => go_sn ?_))
  refine go_c (kSs_drop (s := stOf 1325 2) (r := (fnOf 1325).body.drop 3) (by kernel_rfl) _ _) (go_c (s1325_2 ..) (go_eq (listOf_bnd m2 _) (go_b ?_)))
  refine cm_cons m2 (elt_go (f := 683) (v := V.int st.pt) H2 _ (by kernel_rfl) (by kernel_rfl) (fun h => h.elim fun x_ x_ x_ x_ x_ h x_ => b683 h _ _) (fun x_ => rfl) fun μ3 H3 k3 => ?_)
  have m2 := k3.get _ _ f2 m2
  refine cm_cons m2 (elt_go (f := 690) (v := V.int st.lo) H3 _ (by kernel_rfl) (by kernel_rfl) (fun h => h.elim fun x_ x_ x_ x_ x_ h x_ => b690 h _ _) (fun x_ => rfl) fun μ4 H4 k4 => ?_)
  have m2 := k4.get _ _ f2 m2
  refine cm_cons m2 (elt_go (f := 697) (v := V.int st.hi) H4 _ (by kernel_rfl) (by kernel_rfl) (fun h => h.elim fun x_ x_ x_ x_ x_ h x_ => b697 h _ _) (fun x_ => rfl) fun μ5 H5 k5 => ?_)
  have m2 := k5.get _ _ f2 m2
  refine cm_cons m2 (elt_go (f := 816) (v := V.int st.txt.length) H5 _ (by kernel_rfl) (by kernel_rfl) (fun h => h.elim fun x_ x_ x_ x_ x_ h g => b816 h _ g _) (fun x_ => rfl) fun μ6 H6 k6 => ?_)
  have m2 := k6.get _ _ f2 m2
  refine cm_nil m2 (sg_new H6 (by rfl) fun a7 μ7 H7 k7 f7 m7 => go_eq (H7.o4 _) (go_eq (len_bnd H7.tx _) (sg_new H7 (by rfl) fun a8 μ8 H8 k8 f8 m8 => go_eq (ne_bnd (eq_il (l := [st.pt, st.lo, st.hi, st.txt.length]) (k8.get _ _ f7 m7) m8) _) (go_ff (go_sn ?_)))))
  have k8 := ((((((k1.trans k2).trans k3).trans k4).trans k5).trans k6).trans k7).trans k8
  clear k1 k2 k3 k4 k5 k6 k7 H0 H1 H2 H3 H4 H5 H6 H7 m2 m7 m8 f2 f7 f8
  refine go_c (kSs_drop (s := stOf 1325 3) (r := (fnOf 1325).body.drop 4) (by kernel_rfl) _ _) (go_c (s1325_3 ..) (go_eq (p_sub _) (go_eq (b1285 H8 _ _ r1 r2 _) (go_eq (b1285 H8 _ _ r1 r2 _) (sg_new H8 (by rfl) fun x_ μ9 H9 k9 x_ x_ => go_sn ?_)))))
  refine go_c (kSs_drop (s := stOf 1325 4) (r := (fnOf 1325).body.drop 5) (by kernel_rfl) _ _) (go_c (s1325_4 ..) (go_eq (p_eq _) (go_eq (p_eq _) (sg_new H9 (by rfl) fun x_ μ10 H10 k10 x_ m10 => go_eq (in_bnd m10 (sgV_or _ _) _) (sg_new H10 (by rfl) fun x_ μ11 H11 k11 x_ m11 => go_eq (in_bnd m11 (sgV_or _ _) _) (sg_new H11 (by rfl) fun a12 μ12 H12 k12 f12 m12 => go_sn ?_))))))
  have k12 := (((k8.trans k9).trans k10).trans k11).trans k12
  clear k8 k9 k10 k11 H8 H9 H10 H11 m10 m11
  refine go_c (kSs_drop (s := stOf 1325 5) (r := (fnOf 1325).body.drop 6) (by kernel_rfl) _ _) (go_c (s1325_5 ..) (sg_new H12 (by rfl) fun a13 μ13 H13 k13 f13 m13 => go_eq (listOf_bnd m13 _) (go_b ?_)))
  refine cm_cons m13 (elt_go (f := 746) (v := if decide (st.pt = st.lo) = true then V.top 138 else .top 135) (F := fun x7 => bnd (cmpM .Is x7 (V.top 138)) fun c8 => ret (V.bool c8)) H13 _ (by kernel_rfl) (by kernel_rfl) (fun h => h.elim fun x_ x_ x_ x_ x_ h x_ => b746 h _ _) (isTT _) fun μ14 H14 k14 => ?_)
  have m13 := k14.get _ _ f13 m13
  refine cm_cons m13 (elt_go (f := 753) (v := if decide (st.pt = st.hi) = true then V.top 138 else .top 135) (F := fun x7 => bnd (cmpM .Is x7 (V.top 138)) fun c8 => ret (V.bool c8)) H14 _ (by kernel_rfl) (by kernel_rfl) (fun h => h.elim fun x_ x_ x_ x_ x_ h x_ => b753 h _ _) (isTT _) fun μ15 H15 k15 => ?_)
  have m13 := k15.get _ _ f13 m13
  refine cm_cons m13 (elt_go (f := 760) (v := if (decide (st.pt = st.lo) || decide (codeAt st.lo st.hi st.txt (st.pt - 1) = 10)) = true then V.top 138 else .top 135) (F := fun x7 => bnd (cmpM .Is x7 (V.top 138)) fun c8 => ret (V.bool c8)) H15 _ (by kernel_rfl) (by kernel_rfl) (fun h => h.elim fun x_ x_ x_ x_ x_ h g => b760 h _ g ⟨iv.b.lo, iv.b.pl, iv.b.ph, iv.b.hi⟩ _) (isTT _) fun μ16 H16 k16 => ?_)
  have m13 := k16.get _ _ f13 m13
  refine cm_cons m13 (elt_go (f := 767) (v := if (decide (st.pt = st.hi) || decide (codeAt st.lo st.hi st.txt st.pt = 10)) = true then V.top 138 else .top 135) (F := fun x7 => bnd (cmpM .Is x7 (V.top 138)) fun c8 => ret (V.bool c8)) H16 _ (by kernel_rfl) (by kernel_rfl) (fun h => h.elim fun x_ x_ x_ x_ x_ h g => b767 h _ g ⟨iv.b.lo, iv.b.pl, iv.b.ph, iv.b.hi⟩ _) (isTT _) fun μ17 H17 k17 => ?_)
  have m13 := k17.get _ _ f13 m13
  have k17 := (((k13.trans k14).trans k15).trans k16).trans k17
  have i1 : st.pt = st.lo ↔ (st.pt - 1 < st.lo ∨ st.hi ≤ st.pt - 1) := by have := iv.b.pl; have := iv.b.ph; clear iv; omega
  have i2 : st.pt = st.hi ↔ (st.pt < st.lo ∨ st.hi ≤ st.pt) := by have := iv.b.pl; have := iv.b.ph; clear iv; omega
  rw [iv.qV i1, iv.qV i2]
  refine cm_nil m13 (sg_new H17 (by rfl) fun a18 μ18 H18 k18 f18 m18 => go_eq (ne_bnd (eq_bl (l := [decide (st.pt = st.lo), decide (st.pt = st.hi), inV (sgV st (st.pt - 1)), inV (sgV st st.pt)]) m18 ((k17.trans k18).get _ _ f12 m12)) _) (go_ff (go_sn ?_)))
  have k18 := (k12.trans k17).trans k18
  clear k12 k13 k14 k15 k16 k17 H12 H13 H14 H15 H16 H17 m13 m12 m18 f12 f13 f18 i1 i2
  refine go_c (kSs_drop (s := stOf 1325 6) (r := (fnOf 1325).body.drop 7) (by kernel_rfl) _ _) (go_c (s1325_6 ..) (sg_new H18 (by rfl) fun a19 μ19 H19 k19 f19 m19 => go_eq (listOf_bnd m19 _) (go_b ?_)))
  refine cm_cons m19 (elt_go (f := 739) (v := V.int (mx 0 (codeAt st.lo st.hi st.txt (st.pt - 1)))) H19 _ (by kernel_rfl) (by kernel_rfl) (fun h => h.elim fun x_ x_ x_ x_ x_ h g => b739 h _ g ⟨iv.b.lo, iv.b.pl, iv.b.ph, iv.b.hi⟩ _) (fun x_ => rfl) fun μ20 H20 k20 => ?_)
  have m19 := k20.get _ _ f19 m19
  refine cm_cons m19 (elt_go (f := 732) (v := V.int (mx 0 (codeAt st.lo st.hi st.txt st.pt))) H20 _ (by kernel_rfl) (by kernel_rfl) (fun h => h.elim fun x_ x_ x_ x_ x_ h g => b732 h _ g ⟨iv.b.lo, iv.b.pl, iv.b.ph, iv.b.hi⟩ _) (fun x_ => rfl) fun μ21 H21 k21 => ?_)
  have m19 := k21.get _ _ f19 m19
  rw [iv.zV, iv.zV]
  refine cm_nil m19 (sg_new H21 (by rfl) fun a22 μ22 H22 k22 f22 m22 => go_sn ?_)
  have k22 := (((k18.trans k19).trans k20).trans k21).trans k22
  clear k18 k19 k20 k21 H18 H19 H20 H21 m19 f19
  refine go_c (kSs_drop (s := stOf 1325 7) (r := (fnOf 1325).body.drop 8) (by kernel_rfl) _ _) (go_c (s1325_7 ..) (sg_new H22 (by rfl) fun a23 μ23 H23 k23 f23 m23 => go_eq (listOf_bnd m23 _) (go_b ?_)))
  obtain ⟨c1, e1⟩ := orZ_int (sgV_or st (st.pt - 1))
  obtain ⟨c2, e2⟩ := orZ_int (sgV_or st st.pt)
  refine cm_cons m23 (one_go (sgV_or _ _) (cm_cons m23 (one_go (sgV_or _ _) (cm_nil m23 ?_))))
  rw [e1, e2] at m22 ⊢
  refine sg_new H23 (by rfl) fun a24 μ24 H24 k24 f24 m24 => go_eq (ne_bnd (eq_il (l := [c1, c2]) ((k23.trans k24).get _ _ f22 m22) m24) _) (go_ff (go_sn ?_))
  have k24 := (k22.trans k23).trans k24
  clear k22 k23 H22 H23 m22 m23 m24 f22 f23 f24
  refine El_eeeaa (txt_cut st.txt iv.b.lo (Int.le_trans iv.b.pl iv.b.ph) iv.b.hi) fun x y z ex hx hy => ?_
  refine go_c (kSs_drop (s := stOf 1325 8) (r := (fnOf 1325).body.drop 9) (by kernel_rfl) _ _) (go_c (s1325_8 ..) (go_eq (ditem_bnd H24.dee (v := .top 809) (by kernel_rfl) _) (go_t (by kernel_rfl) (sg_new H24 (by rfl) fun a25 μ25 H25 k25 x_ x_ => go_call (go_b ?_)))))
  have hx' : st.txt = x ++ (y ++ z) := ex
  refine d809 (hx' ▸ H25) (n + 3) (.ref a25) hx hy fun a26 c26 μ26 m26 n26 f26 g26 H26 k26 => go_eq (tx_codes m26 _) (go_eq (H26.o4 _) (go_eq (p_sub _) (go_eq (p_sub _) ?_)))
  rw [← hx'] at H26
  refine H26.elim fun cs gs ge t1 t2 h26 g => slice_mid h26 (hx' ▸ H26.tx) (by rw [hx, Int.add_sub_cancel]) (by rw [hy, Int.add_sub_cancel]) fun a27 μ27 h27 k27 f27 m27 => go_eq (ne_bnd (eq_il (k27.get _ _ g26 n26) m27) _) (go_ff (go_sn ?_))
  have H27 : HG ds st st.txt μ27 := ⟨cs, gs, ge, t1, t2, h27, g⟩
  have k27 := ((k24.trans k25).trans k26).trans k27
  clear k24 k25 k26 H24 H25 H26 m26 n26 m27 f26 g26 f27 h26 h27 g hx hy ex hx'
  have hz : (st.mks.map (·.1)).length ≤ 1000 := by rw [List.length_map, ← ln.1]; exact Nat.le_trans hl (Nat.le_trans hj (by decide))
  refine go_c (kSs_drop (s := stOf 1325 9) (r := (fnOf 1325).body.drop 10) (by kernel_rfl) _ _) (go_c (s1325_9 ..) (go_eq (listOf_bnd (iv.th H27) _) (go_b ?_)))
  refine comp_all (fun h => iv.th h) st.ths ln.1 (fun {j a m μ Q} hj hp h k => noExc_go (go_eq (ditem_bnd h.dee (v := .top 879) (by kernel_rfl) _) (go_t (by kernel_rfl) (sg_new h (by rfl) fun r μ1 h1 k1 f1 m1 => go_call (go_eq (b879 h1 (n + 5) hj hp m1 _) (go_ret (k _ h1 k1))))))) H27 (Keep.refl _ _) fun ws μ28 e28 H28 k28 => ?_
  subst e28
  refine sg_new H28 (szIl hz) fun a29 μ29 H29 k29 f29 m29 => go_eq (H29.o5 _) (go_eq (listOf_bnd H29.sp _) (go_b ?_))
  refine comp_all (fun h => h.sp) st.sps ln.2 (fun {j a m μ Q} hj hp h k => noExc_go (go_eq (sp0 (h.elim fun x_ x_ x_ x_ x_ h x_ => h.ev.sp hj hp) _) (go_ret (k _ h (Keep.refl _ _))))) H29 (Keep.refl _ _) fun ws μ30 e30 H30 k30 => ?_
  subst e30
  rw [iv.mkE]
  exact sg_new H30 (szIl hz) fun a31 μ31 H31 k31 f31 m31 => go_eq (eq_bnd (eq_il ((k30.trans k31).get _ _ f29 m29) m31) _) (go_ss (go_ret (k _ H31 ((((k27.trans k28).trans k29).trans k30).trans k31))))
end
/-! ## The turns: what they keep -/
def GvAt (μ : Mem) (v : V) : Prop := ∃ x, v = .ref x ∧ ((∃ L a b d, μ[x]? = some (.tup [.ref a, .ref b]) ∧ TdAt L μ a d ∧ TdAt L μ b d) ∨ μ[x]? = some (.tup [.bool true, .bool true]))
def Done (ds : List Int) (j : Nat) (D : Int) (v : V) (μ : Mem) : Prop := ∃ st, HG ds st st.txt μ ∧ IV ds j D st ∧ GvAt μ v
theorem le_mn {a b c : Int} (h1 : c ≤ a) (h2 : c ≤ b) : c ≤ mn a b := by
  unfold mn; split
  · exact h2
  · exact h1
theorem mn_le {a b : Int} : mn a b ≤ b := by
  unfold mn; split
  · exact Int.le_refl _
  · exact Int.not_lt.mp ‹_›
theorem mx_ge {a b : Int} : b ≤ mx a b := by
  unfold mx; split
  · exact Int.le_refl _
  · exact Int.not_lt.mp ‹_›
theorem clip_bd {p lo hi : Int} (h : lo ≤ hi) : lo ≤ clip p lo hi ∧ clip p lo hi ≤ hi := ⟨le_mn mx_ge h, mn_le⟩
theorem del_ar {lo hi pt s e : Int} (h1 : lo ≤ s) (_ : s ≤ e) (h3 : e ≤ hi) (h4 : lo ≤ pt) (h5 : pt ≤ hi) : lo ≤ (if s < pt then mx s (pt - (e - s)) else pt) ∧ (if s < pt then mx s (pt - (e - s)) else pt) ≤ hi - (e - s) := by
  unfold mx; split
  · split <;> omega
  · omega
theorem cod2 {P : Int → Prop} {x y z : List Int} (h : ∀ c ∈ x ++ (y ++ z), P c) : ∀ c ∈ x ++ z, P c := fun c hc => (List.mem_append.mp hc).elim (fun q => h c (List.mem_append_left _ q)) fun q => h c (List.mem_append_right _ (List.mem_append_right _ q))
theorem cod3 {P : Int → Prop} {x w z : List Int} (h : ∀ c ∈ x ++ z, P c) (hw : ∀ c ∈ w, P c) : ∀ c ∈ x ++ (w ++ z), P c := fun c hc => (List.mem_append.mp hc).elim (fun q => h c (List.mem_append_left _ q)) fun q => (List.mem_append.mp q).elim (hw c) fun q => h c (List.mem_append_right _ q)
theorem tl300 {n j : Nat} (h : n ≤ 5 + 4 * j) (hj : j ≤ 14) : n ≤ 300 := Nat.le_trans h (Nat.le_trans (Nat.add_le_add_left (Nat.mul_le_mul_left 4 hj) 5) (by decide))
theorem c_lt {r n : Int} (h : r < n + 1) : r < n ∨ r = n := Int.lt_or_eq_of_le (Int.le_of_lt_add_one h)
theorem in3 {r : Int} (r0 : 0 ≤ r) (r1 : r < 3) : r = 2 ∨ r = 1 ∨ r = 0 := (c_lt (n := 2) r1).elim (fun h => .inr ((c_lt (n := 1) h).elim (fun h => .inr ((c_lt (n := 0) h).elim (fun h => absurd r0 (Int.not_le.mpr h)) id)) .inl)) .inl
@[elab_as_elim] theorem in3_elim {P : Int → Prop} {r : Int} (r0 : 0 ≤ r) (r1 : r < 3) (h2 : P 2) (h1 : P 1) (h0 : P 0) : P r := (in3 r0 r1).elim (fun e => e ▸ h2) fun h => h.elim (fun e => e ▸ h1) fun e => e ▸ h0
theorem in4 {r : Int} (r0 : 0 ≤ r) (r1 : r < 4) : r = 3 ∨ r = 2 ∨ r = 1 ∨ r = 0 := (c_lt (n := 3) r1).elim (fun h => .inr (in3 r0 h)) .inl
theorem in5 {r : Int} (r0 : 0 ≤ r) (r1 : r < 5) : r = 4 ∨ r = 3 ∨ r = 2 ∨ r = 1 ∨ r = 0 := (c_lt (n := 4) r1).elim (fun h => .inr (in4 r0 h)) .inl
theorem in6 {r : Int} (r0 : 0 ≤ r) (r1 : r < 6) : r = 5 ∨ r = 4 ∨ r = 3 ∨ r = 2 ∨ r = 1 ∨ r = 0 := (c_lt (n := 5) r1).elim (fun h => .inr (in5 r0 h)) .inl
theorem d1 {D : Int} (h : D ≤ 1000) : D + 1 ≤ 2000 := Int.le_trans (Int.add_le_add_right h 1) (by decide)
theorem d2 {D : Int} (h : D ≤ 1000) : D + 1 + 1 ≤ 2000 := Int.le_trans (Int.add_le_add_right (Int.add_le_add_right h 1) 1) (by decide)
theorem tl_le {n m j : Nat} (h : n ≤ 5 + 4 * j) (hm : m ≤ n + 4) : m ≤ 5 + 4 * (j + 1) := by omega
section
variable {α β : Type} {ds : List Int} {st : St} {t x y z w : List Int} {μ μ' : Mem} {j : Nat} {D s e : Int} {Q : V → Mem → Prop}
theorem IV.mono (iv : IV ds j D st) {j' : Nat} {D' : Int} (h1 : j ≤ j') (h2 : D ≤ D') : IV ds j' D' st := ⟨iv.op, iv.ol, iv.oh, iv.b, iv.cod, iv.mkE, iv.lm, iv.thl, Nat.le_trans iv.nm h1, Nat.le_trans iv.tl (Nat.add_le_add_left (Nat.mul_le_mul_left 4 h1) 5), iv.dk0, Int.le_trans iv.dk h2, iv.hd⟩
theorem IV.tl' (iv : IV ds j D st) : st.txt.length ≤ 5 + 4 * (j + 1) := (iv.mono (Nat.le_succ j) (Int.le_refl _)).tl
theorem IV.draw (iv : IV ds j D st) : IV ds j (D + 1) (st.sDk (st.dk + 1)) := ⟨iv.op, iv.ol, iv.oh, ⟨iv.b.lo, iv.b.pl, iv.b.ph, iv.b.hi⟩, iv.cod, iv.mkE, iv.lm, iv.thl, iv.nm, iv.tl, Int.add_nonneg iv.dk0 (by decide), Int.add_le_add_right iv.dk 1, iv.hd⟩
theorem IV.ins (iv : IV ds j D st) {a : Nat} (ex : st.txt = x ++ z) (hw : w.length ≤ 4) (cw : ∀ c ∈ w, 0 ≤ c) : IV ds (j + 1) D ((insB st w.length).sLaw a (x ++ (w ++ z)) (st.op + w.length) (st.oh + w.length) (st.spv.map (insM st.op w.length))) := by
  have hl : ((x ++ (w ++ z)).length : Int) = st.txt.length + w.length := by rw [ex, len3, la]; simp +arith
  refine ⟨congrArg (· + (w.length : Int)) iv.op, iv.ol, congrArg (· + (w.length : Int)) iv.oh, ⟨iv.b.lo, Int.le_trans iv.b.pl (Int.le_add_of_nonneg_right (Int.natCast_nonneg _)), Int.add_le_add_right iv.b.ph _, ?_⟩, cod3 (ex ▸ iv.cod) cw, by rw [iv.mkE, iv.op], iv.lm, iv.thl, Nat.le_succ_of_le iv.nm, tl_le (m := (x ++ (w ++ z)).length) iv.tl (by clear iv; omega), iv.dk0, iv.dk, iv.hd⟩
  show st.hi + (w.length : Int) ≤ ((x ++ (w ++ z)).length : Int) + 1
  have := iv.b.hi
  clear iv; omega
theorem IV.del (iv : IV ds j D st) {a : Nat} (ex : st.txt = x ++ (y ++ z)) (hs : s = x.length + 1) (he : e = x.length + y.length + 1) (h1 : st.lo ≤ s) (h3 : e ≤ st.hi) : IV ds (j + 1) D ((delB st s e).sLaw a (x ++ z) (if s < st.op then mx s (st.op - (e - s)) else st.op) (st.oh - (e - s)) (st.spv.map (delM s e))) := by
  have b := del_ar h1 (by omega) h3 iv.b.pl iv.b.ph
  have hl : ((x ++ z).length : Int) = st.txt.length - (e - s) := by rw [ex, len3, la]; omega
  refine ⟨by rw [iv.op], iv.ol, by rw [iv.oh], ⟨iv.b.lo, b.1, b.2, ?_⟩, cod2 (ex ▸ iv.cod), by rw [iv.mkE], iv.lm, iv.thl, Nat.le_succ_of_le iv.nm, tl_le (m := (x ++ z).length) iv.tl (by clear iv b; omega), iv.dk0, iv.dk, iv.hd⟩
  show st.hi - (e - s) ≤ ((x ++ z).length : Int) + 1
  have := iv.b.hi
  clear iv b; omega
theorem IV.nar (iv : IV ds j D st) (h1 : 1 ≤ s) (h2 : s ≤ e) (h3 : e ≤ st.txt.length + 1) : IV ds (j + 1) D ((st.sE (clip st.pt s e) s e st.mks).sOwn (clip st.op s e) s e) :=
  ⟨by rw [iv.op], rfl, rfl, ⟨h1, (clip_bd h2).1, (clip_bd h2).2, h3⟩, iv.cod, iv.mkE, iv.lm, iv.thl, Nat.le_succ_of_le iv.nm, iv.tl', iv.dk0, iv.dk, iv.hd⟩
theorem IV.wid (iv : IV ds j D st) : IV ds (j + 1) D ((st.sE st.pt 1 (st.txt.length + 1) st.mks).sOwn st.op 1 (st.txt.length + 1)) :=
  ⟨iv.op, rfl, rfl, ⟨Int.le_refl _, Int.le_trans iv.b.lo iv.b.pl, Int.le_trans iv.b.ph iv.b.hi, Int.le_refl _⟩, iv.cod, iv.mkE, iv.lm, iv.thl, Nat.le_succ_of_le iv.nm, iv.tl', iv.dk0, iv.dk, iv.hd⟩
theorem IV.got (iv : IV ds j D st) {p : Int} : IV ds (j + 1) D ((st.sE (clip p st.lo st.hi) st.lo st.hi st.mks).sOwn (clip p st.lo st.hi) st.ol st.oh) :=
  have hb := clip_bd (p := p) (Int.le_trans iv.b.pl iv.b.ph)
  ⟨rfl, iv.ol, iv.oh, ⟨iv.b.lo, hb.1, hb.2, iv.b.hi⟩, iv.cod, iv.mkE, iv.lm, iv.thl, Nat.le_succ_of_le iv.nm, iv.tl', iv.dk0, iv.dk, iv.hd⟩
theorem draw (H0 : HG ds st st.txt μ) (iv : IV ds j D st) (hD : D ≤ 2000) (n : Nat) {m : Int} (m0 : 0 < m) (m1 : m ≤ 1000) (k : ∀ r μ', 0 ≤ r → r < m → HG ds (st.sDk (st.dk + 1)) st.txt μ' → IV ds j (D + 1) (st.sDk (st.dk + 1)) → Keep st.L μ μ' → Q (.int r) μ') : Go (callN (n + 1) (.top 1264) [.ref 3, .int m] μ) Q :=
  g1264 H0 n iv.dk0 (Int.le_trans iv.dk hD) iv.hd m0 m1 fun r μ' a b h kp => k r μ' a b h iv.draw kp
theorem place (H0 : HG ds st st.txt μ) (iv : IV ds j D st) (hD : D ≤ 2000) (hj : j ≤ 14) (n : Nat) (k : ∀ p μ', -1 ≤ p → p ≤ 400 → HG ds (st.sDk (st.dk + 1)) st.txt μ' → IV ds j (D + 1) (st.sDk (st.dk + 1)) → Keep st.L μ μ' → Q (.int p) μ') : Go (callN (n + 2) (.top 1278) [.ref 3, .ref 167] μ) Q :=
  g1278 H0 n iv.dk0 (Int.le_trans iv.dk hD) iv.hd (tl300 iv.tl hj) fun r μ' a b h kp => k r μ' a b h iv.draw kp
theorem pair_go (H0 : HG ds st t μ) {a b : Nat} {d : Td} {Q : V → Mem → Prop} (ha : TdAt st.L μ a d) (hb : TdAt st.L μ b d) (k : ∀ v μ', GvAt μ' v → HG ds st t μ' → Q v μ') : Go (bnd (newM (.tup [.ref a, .ref b])) ret μ) Q :=
  sg_new H0 (by rfl) fun x μ1 h1 k1 f1 m1 => go_ret (k _ _ ⟨x, rfl, .inl ⟨_, a, b, d, m1, ha.keep k1, hb.keep k1⟩⟩ h1)
theorem refOk : PyData.strOk ("args-out-of-range" : Str) = true := by kernel_rfl
theorem refOk2 : PyData.strOk ("wrong-type-argument" : Str) = true := by kernel_rfl
/-- nil beside nil -/
theorem two_nil (H0 : HG ds st t μ) {a : Nat} (ha : TdAt st.L μ a .nil) (k : ∀ v μ', GvAt μ' v → HG ds st t μ' → Q v μ') : Go (bnd (newM (.list [.str "nil"])) (fun x => bnd (newM (.tup [.ref a, x])) ret) μ) Q :=
  sg_new H0 (by rfl) fun x_ μ1 h1 k1 f1 m1 => pair_go h1 (ha.keep k1) ⟨m1, f1⟩ k
theorem two_ref (H0 : HG ds st t μ) {a : Nat} {r : Str} (hr : PyData.strOk r = true) (ha : TdAt st.L μ a (.refused r)) (k : ∀ v μ', GvAt μ' v → HG ds st t μ' → Q v μ') : Go (bnd (newM (.list [.str "refused", .str r])) (fun x => bnd (newM (.tup [.ref a, x])) ret) μ) Q :=
  sg_new H0 (by rfl) fun x_ μ1 h1 k1 f1 m1 => pair_go h1 (ha.keep k1) ⟨m1, f1, hr⟩ k
/-- is the region in reach -/
theorem lohi (H0 : HG ds st t μ) {lo hi : Int} (e1 : st.ol = lo) (e2 : st.oh = hi) (K : Bool → Mx α) : bnd (bnd (itemM (.ref 167) (V.str "low")) fun x24 => bnd (cmpM .Lt (.int s) x24) fun c25 => stepT .Or c25 ret (bnd (itemM (.ref 167) (V.str "high")) fun x26 => bnd (cmpM .Gt (.int e) x26) fun c27 => stepT .Or c27 ret (ret false))) K μ = K (!decide (lo ≤ s ∧ e ≤ hi)) μ := go_fin (fun k => by
  refine go_eq (H0.o2 _) (go_eq (p_lt _) ?_)
  rw [e1]
  by_cases z : s < lo
  · rw [df fun q => Int.not_lt.mpr q.1 z] at k
    exact go_O1 (dt z) (go_ret k)
  · refine go_O0 (df z) (go_eq (H0.o3 _) (go_eq (p_gt _) ?_))
    rw [e2]
    by_cases y : hi < e
    · rw [df fun q => Int.not_lt.mpr q.2 y] at k
      exact go_O1 (dt y) (go_ret k)
    · rw [dt ⟨Int.not_lt.mp z, Int.not_lt.mp y⟩] at k
      exact go_O0 (df y) (go_ret k)) K
theorem inT (H0 : HG ds st st.txt μ) (K : Bool → Mx α) : bnd (bnd (cmpM .Lt (.int s) (V.int 1)) fun c11 => stepT .Or c11 ret (bnd (itemM (.ref 167) (V.str "text")) fun x12 => bnd (callB "len" [x12]) fun x13 => bnd (binM .Add x13 (V.int 1)) fun x14 => bnd (cmpM .Gt (.int e) x14) fun c15 => stepT .Or c15 ret (ret false))) K μ = K (!decide (1 ≤ s ∧ e ≤ st.txt.length + 1)) μ := go_fin (fun k => by
  refine go_eq (p_lt _) ?_
  by_cases z : s < 1
  · rw [df fun q => Int.not_lt.mpr q.1 z] at k
    exact go_O1 (dt z) (go_ret k)
  · refine go_O0 (df z) (go_eq (H0.o4 _) (go_eq (len_bnd H0.tx _) (go_eq (p_add _) (go_eq (p_gt _) ?_))))
    by_cases y : (st.txt.length : Int) + 1 < e
    · rw [df fun q => Int.not_lt.mpr q.2 y] at k
      exact go_O1 (dt y) (go_ret k)
    · rw [dt ⟨Int.not_lt.mp z, Int.not_lt.mp y⟩] at k
      exact go_O0 (df y) (go_ret k)) K
theorem not_in {a b c d : Int} (h : ¬ (a ≤ b ∧ c ≤ d)) : b < a ∨ d < c := by
  by_cases z : b < a
  · exact .inl z
  · exact .inr (Int.not_le.mp fun q => h ⟨Int.not_lt.mp z, q⟩)
end
/-! ## The turns with a region -/
section
variable {ds : List Int} {st : St} {μ : Mem} {j : Nat} {D : Int} {Q : V → Mem → Prop}
theorem g1306 (H0 : HG ds st st.txt μ) (iv : IV ds j D st) (hj : j ≤ 13) (hD : D ≤ 1000) (n : Nat) (k : ∀ v μ', Done ds (j + 1) (D + 3) v μ' → Q v μ') : Go (callN (n + 9) (.top 1306) [.ref 3, .ref 167, .ref 164, .ref 4] μ) Q := by
  refine go_c (callS (s1306 ..) (by kernel_rfl)) ?_
  refine go_b (place H0 iv (Int.le_trans hD (by decide)) (Nat.le_succ_of_le hj) _ fun a μ1 x_ x_ H1 iv1 x_ => go_b (place H1 iv1 (d1 hD) (Nat.le_succ_of_le hj) _ fun b μ2 x_ x_ H2 iv2 x_ => sg_new H2 (by rfl) fun x_ μ3 H3 x_ x_ x_ => go_eq (p_min _) (go_eq (p_max _) (go_b (draw H3 iv2 (d2 hD) _ (m := 3) (by decide) (by decide) fun r μ4 r0 r1 H4 iv4 x_ => sg_new H4 (by rfl) fun x_ μ5 H5 x_ x_ x_ => sg_new H5 (by rfl) fun x6 μ6 H6 x_ x_ m6 => ?_)))))
  rw [show D + 1 + 1 + 1 = D + 3 from by rw [Int.add_assoc, Int.add_assoc]; rfl] at iv4
  clear H0 H1 H2 H3 H4 H5 iv iv1 iv2
  have H6 : HG ds (((st.sDk (st.dk + 1)).sDk ((st.sDk (st.dk + 1)).dk + 1)).sDk (((st.sDk (st.dk + 1)).sDk ((st.sDk (st.dk + 1)).dk + 1)).dk + 1)) (((st.sDk (st.dk + 1)).sDk ((st.sDk (st.dk + 1)).dk + 1)).sDk (((st.sDk (st.dk + 1)).sDk ((st.sDk (st.dk + 1)).dk + 1)).dk + 1)).txt μ6 := H6
  generalize (((st.sDk (st.dk + 1)).sDk ((st.sDk (st.dk + 1)).dk + 1)).sDk (((st.sDk (st.dk + 1)).sDk ((st.sDk (st.dk + 1)).dk + 1)).dk + 1)) = s at H6 iv4
  have tl := tl300 iv4.tl (Nat.le_succ_of_le hj)
  have nm : s.ths.length < 64 := Nat.lt_of_le_of_lt (Nat.le_trans iv4.nm hj) (by decide)
  have hse : mn a b ≤ mx a b := mn_mx
  have same := iv4.mono (Nat.le_succ j) (Int.le_refl (D + 3))
  refine in3_elim r0 r1 ?_ ?_ ?_
  · refine go_eq (it2 m6 _) (sg_new H6 (by rfl) fun x7 μ7 H7 x_ x_ m7 => go_b ?_)
    by_cases z : s.lo ≤ mn a b ∧ mx a b ≤ s.hi
    · refine El_eeeaa (txt_cut s.txt (Int.le_trans iv4.b.lo z.1) hse (Int.le_trans z.2 iv4.b.hi)) fun x y w ex hx hy => ?_
      refine told_ok H7 _ (by kernel_rfl) (by kernel_rfl) (d802 (ex ▸ H7) (n + 3) m7 hx hy z.1 z.2 fun a8 c8 μ8 m8 n8 x_ f8 H8 x_ => tail_tx H8 m8 n8 f8 fun a9 μ9 t9 H9 x_ => go_eq (p_eq _) (go_fd (by decide) (go_eq (lohi H9 iv4.ol iv4.oh _) (go_i0 (nf z) (go_eq (p_eq _) (go_td rfl (go_eq (H9.o4 _) (go_eq (p_sub _) (go_eq (p_sub _) ?_)))))))))
      have tx := H9.tx
      rw [← ex] at H9
      rw [ex] at tx
      exact H9.elim fun cs gs ge t1 t2 h g => slice_mid h tx (by rw [hx, Int.add_sub_cancel]) (by rw [hy, Int.add_sub_cancel]) fun x10 μ10 h10 k10 f10 m10 => sg_new (st := s) (t := s.txt) ⟨cs, gs, ge, t1, t2, h10, g⟩ (by rfl) fun x11 μ11 H11 k11 f11 m11 => pair_go H11 ((t9.keep k10).keep k11) ⟨x10, m11, f11, k11.get _ _ f10 m10, f10⟩ fun v μ' gv H12 => k _ _ ⟨_, H12, same, gv⟩
    · exact told_ex H7 _ (by kernel_rfl) (by kernel_rfl) (x802 H7 (n + 3) m7 (not_in z) fun μ8 H8 => tail_ref H8 refOk fun a9 μ9 t9 H9 x_ => go_eq (p_eq _) (go_fd (by decide) (go_eq (lohi H9 iv4.ol iv4.oh _) (go_i1 (nt z) (two_ref H9 refOk t9 fun v μ' gv H11 => k _ _ ⟨_, H11, same, gv⟩)))))
  · refine go_eq (it1 m6 _) (sg_new H6 (by rfl) fun x7 μ7 H7 x_ x_ m7 => go_b ?_)
    by_cases z : 1 ≤ mn a b ∧ mx a b ≤ s.txt.length + 1
    · refine told_ok H7 _ (by kernel_rfl) (by kernel_rfl) (d823 H7 (n + 3) m7 z.1 z.2 fun μ8 H8 x_ => tail_nil H8 fun a9 μ9 t9 H9 x_ => go_eq (p_eq _) (go_td rfl (go_eq (inT H9 _) (go_i0 (nf z) (go_eq (H9.o1 _) (go_eq (p_max _) (go_eq (p_min _) (sg_new H9 (by rfl) fun x_ μ10 H10 k10 x_ x_ => H10.elim fun cs gs ge t1 t2 h g => ?_))))))))
      exact st_ol h fun μ11 h11 k11 => st_oh h11 fun μ12 h12 k12 => st_op h12 fun μ13 h13 k13 => two_nil (st := (s.sE (clip s.pt (mn a b) (mx a b)) (mn a b) (mx a b) s.mks).sOwn (clip s.op (mn a b) (mx a b)) (mn a b) (mx a b)) ⟨cs, gs, ge, t1, t2, h13, g⟩ ((((t9.keep k10).keep k11).keep k12).keep k13) fun v μ' gv H14 => k _ _ ⟨_, H14, iv4.nar z.1 hse z.2, gv⟩
    · exact told_ex H7 _ (by kernel_rfl) (by kernel_rfl) (x823 H7 (n + 3) m7 (not_in z) fun μ8 H8 => tail_ref H8 refOk fun a9 μ9 t9 H9 x_ => go_eq (p_eq _) (go_td rfl (go_eq (inT H9 _) (go_i1 (nt z) (two_ref H9 refOk t9 fun v μ' gv H11 => k _ _ ⟨_, H11, same, gv⟩)))))
  · refine go_eq (it0 m6 _) (sg_new H6 (by rfl) fun x7 μ7 H7 x_ x_ m7 => go_b ?_)
    by_cases z : s.lo ≤ mn a b ∧ mx a b ≤ s.hi
    · refine El_eeeaa (txt_cut s.txt (Int.le_trans iv4.b.lo z.1) hse (Int.le_trans z.2 iv4.b.hi)) fun x y w ex hx hy => ?_
      refine told_ok H7 _ (by kernel_rfl) (by kernel_rfl) (d788 (ex ▸ H7) (n + 2) m7 hx hy z.1 z.2 nm fun μ8 H8 x_ => tail_nil H8 fun a9 μ9 t9 H9 x_ => go_eq (p_eq _) (go_fd (by decide) (go_eq (lohi H9 iv4.ol iv4.oh _) (go_i0 (nf z) (go_eq (p_eq _) (go_fd (by decide) (go_b ?_)))))))
      exact g1299 H9 _ ex hx hy (ex ▸ tl) fun x_ b' μ10 H10 k10 => two_nil H10 (t9.keep k10) fun v μ' gv H11 => k _ _ ⟨_, H11, iv4.del ex hx hy z.1 z.2, gv⟩
    · exact told_ex H7 _ (by kernel_rfl) (by kernel_rfl) (x788 H7 (n + 2) m7 (not_in z) fun μ8 H8 => tail_ref H8 refOk fun a9 μ9 t9 H9 x_ => go_eq (p_eq _) (go_fd (by decide) (go_eq (lohi H9 iv4.ol iv4.oh _) (go_i1 (nt z) (two_ref H9 refOk t9 fun v μ' gv H11 => k _ _ ⟨_, H11, same, gv⟩)))))
end
/-! ## The simple turns -/
theorem era_ar {pt l : Int} (h1 : 1 ≤ pt) (h2 : pt ≤ l + 1) : (if 1 < pt then mx 1 (pt - l) else pt) = 1 := by
  unfold mx; split
  · exact if_neg (by omega)
  · exact Int.le_antisymm (Int.not_lt.mp ‹_›) h1
section
variable {ds : List Int} {st : St} {t : List Int} {μ μ' : Mem} {j : Nat} {D : Int} {Q : V → Mem → Prop}
theorem IV.era (iv : IV ds j D st) {a : Nat} {o h p : Int} (ho : o = 1) (hh : h = 1) (hp : p = 1) : IV ds (j + 1) D ((((st.sOwn st.op 1 (st.txt.length + 1)).sLaw a [] o h (st.spv.map (delM 1 (st.txt.length + 1))))).sE p 1 1 (st.mks.map (delM 1 (st.txt.length + 1)))) := by
  subst ho hh hp
  exact ⟨rfl, rfl, rfl, ⟨Int.le_refl 1, Int.le_refl 1, Int.le_refl 1, Int.le_refl 1⟩, (by intro _ hc; cases hc), by rw [iv.mkE], iv.lm, iv.thl, Nat.le_succ_of_le iv.nm, Nat.zero_le _, iv.dk0, iv.dk, iv.hd⟩
/-- char-after, char-before -/
theorem sign_turn (H0 : HG ds st st.txt μ) (iv : IV ds j D st) (n : Nat) {nm : Str} {f : Addr} {q : Int} {r : Nat} (hd : getD (.str nm) deedsL = some (.top f)) (hc : mayCall (.top f) = true)
    (hf : ∀ K : V → Mx V, bnd (callN n (.top f) [.ref 4, .ref r]) K μ = K (if codeAt st.lo st.hi st.txt q = -1 then .top 135 else .int (codeAt st.lo st.hi st.txt q)) μ)
    (k : ∀ v μ', GvAt μ' v → HG ds st st.txt μ' → Q v μ') : Go (bnd (callN (n + 1) (.top 1271) [.ref 164, .str nm, .ref 4, .ref r]) (fun x15 => bnd (bnd (cmpM .Is (sgV st q) V.none) fun c16 => if c16 = true then bnd (newM (.list [(V.str "nil")])) fun x17 => ret x17 else bnd (newM (.list [(V.str "told"), sgV st q])) fun x18 => ret x18) fun x19 => bnd (newM (.tup [x15, x19])) fun x20 => ret x20) μ) Q := by
  have hf := hf ret
  rw [bnd_ret] at hf
  by_cases z : q < st.lo ∨ st.hi ≤ q
  · have o := iv.out z
    rw [o.2, if_pos rfl] at hf
    rw [o.1]
    exact go_b (told_ok H0 _ hd hc (go_eq hf (go_ret (tail_nil H0 fun a μ1 t1 H1 x_ => go_as (go_eq (p_isN _) (go_j1 rfl (go_as (sg_new H1 (by rfl) fun b μ2 H2 k2 f2 m2 => go_eq (p_ret _) (pair_go H2 (t1.keep k2) ⟨m2, f2⟩ k)))))))))
  · refine El_eaa (iv.in (p := q) (Int.not_lt.mp fun q => z (.inl q)) (Int.not_le.mp fun q => z (.inr q))) fun c e1 e2 e3 => ?_
    rw [e2, if_neg (show ¬ c = -1 from fun q => absurd e3 (q ▸ by decide))] at hf
    rw [e1]
    exact go_b (told_ok H0 _ hd hc (go_eq hf (go_ret (tail_int H0 fun a μ1 t1 H1 x_ => go_as (go_eq (p_isI _) (go_j0 rfl (go_as (sg_new H1 (by rfl) fun b μ2 H2 k2 f2 m2 => go_eq (p_ret _) (pair_go (d := .told c) H2 (t1.keep k2) ⟨m2, f2⟩ k)))))))))
theorem g1320 (H0 : HG ds st st.txt μ) (iv : IV ds j D st) (hj : j ≤ 13) (hD : D ≤ 1000) (n : Nat) (k : ∀ v μ', Done ds (j + 1) (D + 2) v μ' → Q v μ') : Go (callN (n + 9) (.top 1320) [.ref 3, .ref 167, .ref 164, .ref 4] μ) Q := by
  refine go_c (callS (s1320 ..) (by kernel_rfl)) ?_
  refine go_b (draw H0 iv (Int.le_trans hD (by decide)) _ (m := 6) (by decide) (by decide) fun r μ1 r0 r1 H1 iv1 x_ => go_b (place H1 iv1 (d1 hD) (Nat.le_succ_of_le hj) _ fun p μ2 x_ x_ H2 iv2 x_ => sg_new H2 (by rfl) fun x_ μ3 H3 x_ x_ x_ => ?_))
  rw [show D + 1 + 1 = D + 2 from by rw [Int.add_assoc]; rfl] at iv2
  clear H0 H1 H2 iv iv1
  have H3 : HG ds ((st.sDk (st.dk + 1)).sDk ((st.sDk (st.dk + 1)).dk + 1)) ((st.sDk (st.dk + 1)).sDk ((st.sDk (st.dk + 1)).dk + 1)).txt μ3 := H3
  generalize (st.sDk (st.dk + 1)).sDk ((st.sDk (st.dk + 1)).dk + 1) = s at H3 iv2
  have tl := tl300 iv2.tl (Nat.le_succ_of_le hj)
  have nm : s.ths.length < 64 := Nat.lt_of_le_of_lt (Nat.le_trans iv2.nm hj) (by decide)
  have same := iv2.mono (Nat.le_succ j) (Int.le_refl (D + 2))
  have r3 : 1 ≤ s.ol := iv2.ol ▸ iv2.b.lo
  have r4 : s.oh ≤ s.txt.length + 1 := iv2.oh ▸ iv2.b.hi
  refine go_eq (p_eq _) (go_dec (fun x_ => ?_) fun x_ => go_eq (p_eq _) (go_dec (fun x_ => ?_) fun x_ => go_eq (p_eq _) (go_dec (fun x_ => ?_) fun x_ => go_eq (p_eq _) (go_dec (fun x_ => ?_) fun x_ => go_eq (p_eq _) (go_dec (fun x_ => ?_) fun x_ => ?_)))))
  · refine go_eq (H3.o2 _) (go_eq (p_max _) (go_eq (H3.o3 _) (go_eq (p_min _) (H3.elim fun cs gs ge t1 t2 h g => ?_))))
    rw [iv2.ol, iv2.oh]
    refine st_op h fun μ4 h4 x_ => sg_new (st := s.sOwn (clip p s.lo s.hi) s.ol s.oh) (t := s.txt) ⟨cs, gs, ge, t1, t2, h4, g⟩ (by rfl) fun x7 μ7 H7 x_ f7 m7 => go_b ?_
    exact told_ok H7 _ (by kernel_rfl) (by kernel_rfl) (d704 H7 (n + 4) m7 f7 fun μ8 H8 x_ => tail_int H8 fun a9 μ9 t9 H9 x_ => sg_new H9 (by rfl) fun a10 μ10 H10 k10 f10 m10 => pair_go (d := .told p) H10 (t9.keep k10) ⟨m10, f10⟩ fun v μ' gv H11 => k _ _ ⟨_, H11, iv2.got, gv⟩)
  · exact go_eq (b1285 H3 _ _ r3 r4 _) (sg_new H3 (by rfl) fun x7 μ7 H7 x_ f7 m7 => sign_turn H7 iv2 (n + 7) (f := 718) (q := p) (by kernel_rfl) (by kernel_rfl) (fun K => H7.elim fun x_ x_ x_ x_ x_ h g => b718 h (n + 3) g ⟨iv2.b.lo, iv2.b.pl, iv2.b.ph, iv2.b.hi⟩ m7 K) fun v μ' gv H11 => k _ _ ⟨_, H11, same, gv⟩)
  · exact go_eq (p_sub _) (go_eq (b1285 H3 _ _ r3 r4 _) (sg_new H3 (by rfl) fun x7 μ7 H7 x_ f7 m7 => sign_turn H7 iv2 (n + 7) (f := 725) (q := p - 1) (by kernel_rfl) (by kernel_rfl) (fun K => H7.elim fun x_ x_ x_ x_ x_ h g => b725 h (n + 3) g ⟨iv2.b.lo, iv2.b.pl, iv2.b.ph, iv2.b.hi⟩ m7 K) fun v μ' gv H11 => k _ _ ⟨_, H11, same, gv⟩))
  · refine go_eq (H3.o4 _) (go_eq (len_bnd H3.tx _) (go_eq (p_add _) (sg_new H3 (by rfl) fun x_ μ4 H4 x_ x_ x_ => H4.elim fun cs gs ge t1 t2 h g => st_ol h fun μ5 h5 x_ => st_oh h5 fun μ6 h6 x_ => sg_new (st := s.sOwn s.op 1 (s.txt.length + 1)) (t := s.txt) ⟨cs, gs, ge, t1, t2, h6, g⟩ (by rfl) fun x7 μ7 H7 x_ x_ x_ => go_b ?_)))
    exact told_ok H7 _ (by kernel_rfl) (by kernel_rfl) (d830 H7 (n + 3) _ fun μ8 H8 x_ => tail_nil H8 fun a9 μ9 t9 H9 x_ => two_nil H9 t9 fun v μ' gv H11 => k _ _ ⟨_, H11, iv2.wid, gv⟩)
  · refine go_eq (H3.o4 _) (go_eq (len_bnd H3.tx _) (go_eq (p_add _) (sg_new H3 (by rfl) fun x_ μ4 H4 x_ x_ x_ => H4.elim fun cs gs ge t1 t2 h g => st_ol h fun μ5 h5 x_ => st_oh h5 fun μ6 h6 x_ => ?_)))
    have H6 : HG ds (s.sOwn s.op 1 (s.txt.length + 1)) s.txt μ6 := ⟨cs, gs, ge, t1, t2, h6, g⟩
    refine go_eq (H6.o3 _) (go_b (g1299 H6 _ (x := []) (y := s.txt) (z := []) (List.append_nil _).symm rfl (by rw [List.length_nil, Int.natCast_zero, Int.zero_add]) (by rw [List.append_nil]; exact tl) fun x_ b μ9 H9 x_ => sg_new H9 (by rfl) fun x10 μ10 H10 x_ x_ x_ => go_b ?_))
    exact told_ok H10 _ (by kernel_rfl) (by kernel_rfl) (d795 H10 (n + 1) _ nm fun μ8 H8 x_ => tail_nil H8 fun a9 μ9 t9 H9 x_ => two_nil H9 t9 fun v μ' gv H11 => k _ _ ⟨_, H11, iv2.era (by rw [Int.add_sub_cancel, iv2.op]; exact era_ar (Int.le_trans iv2.b.lo iv2.b.pl) (Int.le_trans iv2.b.ph iv2.b.hi)) (by rw [Int.add_sub_cancel, Int.add_comm, Int.add_sub_cancel]) (era_ar (Int.le_trans iv2.b.lo iv2.b.pl) (Int.le_trans iv2.b.ph iv2.b.hi)), gv⟩)
  · exact sg_new H3 (by rfl) fun x7 μ7 H7 x_ x_ m7 => go_b (told_ex H7 _ (by kernel_rfl) (by kernel_rfl) (x774 H7 (n + 4) m7 fun μ8 H8 => tail_ref H8 refOk2 fun a9 μ9 t9 H9 x_ => two_ref H9 refOk2 t9 fun v μ' gv H11 => k _ _ ⟨_, H11, same, gv⟩))
end
/-! ## The turns with markers -/
section
variable {α β : Type} {ds : List Int} {st : St} {μ μ' : Mem} {j : Nat} {D x p : Int} {b : Bool} {a y i : Nat} {Q : V → Mem → Prop}
theorem IV.add (iv : IV ds j D st) : IV ds (j + 1) D ((((st.sLm (st.lm + 1)).aMk a (x, b)).aTh a).aSp y (x, b)) :=
  ⟨iv.op, iv.ol, iv.oh, ⟨iv.b.lo, iv.b.pl, iv.b.ph, iv.b.hi⟩, iv.cod, congrArg (· ++ [(x, b)]) iv.mkE, by rw [iv.lm, List.length_append]; rfl, congrArg (· ++ [a]) iv.thl, by rw [List.length_append]; exact Nat.succ_le_succ iv.nm, iv.tl', iv.dk0, iv.dk, iv.hd⟩
theorem IV.put (iv : IV ds j D st) : IV ds (j + 1) D ((st.sSp (st.spv.set i (x, b))).sMk (st.mks.set i (x, b))) :=
  ⟨iv.op, iv.ol, iv.oh, ⟨iv.b.lo, iv.b.pl, iv.b.ph, iv.b.hi⟩, iv.cod, by rw [iv.mkE], iv.lm, iv.thl, Nat.le_succ_of_le iv.nm, iv.tl', iv.dk0, iv.dk, iv.hd⟩
theorem eq_things {xs : List V} (ha : μ[a]? = some (.list xs)) (hb : μ[y]? = some (.list [])) : eqM (.ref a) (.ref y) μ = some (.ok xs.isEmpty, μ) := by
  cases xs with
  | nil => exact eqM_true (d := .list []) (lenD ha hb rfl) (toPy_list ha rfl) (toPy_list hb rfl)
  | cons x r => exact rdM_val (if_pos (by unfold lenDiff; rw [list_val ha, list_val hb]; rfl))
theorem sel_list {xs : List V} (hm : μ[a]? = some (.list xs)) (K : V → Mx α) : bnd (selM (.ref a) "append") K μ = K (.bi "list.append") μ := at_bnd hm (show (if ("append" : Str) = "append" then some (V.bi "list.append") else none) = _ from if_pos rfl) K
theorem b252' (b : Bool) (K : V → Mx α) : bnd (bnd (boolM (.bool b)) fun b16 => if b16 = true then ret (V.top 138) else ret (V.top 135)) K μ = K (if b = true then .top 138 else .top 135) μ := by cases b <;> rfl
theorem ref_at {l : List Nat} {c : Nat} (hm : μ[c]? = some (.list (l.map .ref))) (ha : l[i]? = some a) (hi : i ≤ 1000) (K : V → Mx α) : bnd (itemM (.ref c) (.int i)) K μ = K (.ref a) μ := item_bnd hm ⟨Int.natCast_nonneg _, small_nat hi⟩ (by rw [Int.toNat_natCast, List.getElem?_map, ha]; rfl) K
/-- is a new marker made -/
theorem mk_cond (H0 : HG ds st st.txt μ) (iv : IV ds j D st) (hD : D ≤ 2000) (n : Nat) {K : Bool → Mx V} (k : ∀ c s μ', HG ds s s.txt μ' → IV ds j (D + 1) s → s.txt.length = st.txt.length → (c = false → 0 < s.ths.length) → Go (K c μ') Q) :
    Go (bnd (bnd (newM (.list [])) fun x7 => bnd (cmpM .Eq (.ref 17) x7) fun c8 => stepT .Or c8 ret (bnd (callN (n + 1) (.top 1264) [.ref 3, .int 2]) fun x9 => bnd (cmpM .Eq x9 (.int 0)) fun c10 => stepT .Or c10 ret (ret false))) K μ) Q := by
  refine go_as (sg_new H0 (by rfl) fun x3 μ1 H1 x_ x_ m1 => go_as (go_eq (bnd_val (eq_things (iv.th H1) m1)) ?_))
  cases e : st.ths with
  | nil => exact go_o1 rfl (k true st _ H1 (iv.mono (Nat.le_refl _) (Int.le_add_of_nonneg_right (by decide))) rfl fun q => nomatch q)
  | cons a r =>
    refine go_o0 rfl (go_as (go_b (draw H1 iv hD _ (m := 2) (by decide) (by decide) fun r μ2 x_ x_ H2 iv2 x_ => go_as (go_eq (p_eq _) ?_))))
    have l : 0 < st.ths.length := by rw [e]; exact Nat.succ_pos _
    by_cases z : r = 0
    · exact go_o1 (dt z) (k true _ _ H2 iv2 rfl fun q => nomatch q)
    · exact go_o0 (df z) (k false _ _ H2 iv2 rfl fun x_ => l)
theorem g1313 (H0 : HG ds st st.txt μ) (iv : IV ds j D st) (hj : j ≤ 13) (hD : D ≤ 1000) (n : Nat) (k : ∀ s μ', HG ds s s.txt μ' → IV ds (j + 1) (D + 3) s → Q (.bool true) μ') : Go (callN (n + 9) (.top 1313) [.ref 3, .ref 167, .ref 164, .ref 4, .ref 17] μ) Q := by
  refine go_c (callS (s1313 ..) (by kernel_rfl)) ?_
  refine go_b (place H0 iv (Int.le_trans hD (by decide)) (Nat.le_succ_of_le hj) _ fun p μ1 x_ x_ H1 iv1 x_ => go_eq (H1.o4 _) (go_eq (len_bnd H1.tx _) (sg_new H1 (by rfl) fun x_ μ2 H2 x_ x_ x_ => go_eq (p_max _) (go_eq (p_add _) (go_eq (p_min _) (mk_cond H2 iv1 (d1 hD) _ fun c s μ3 H3 iv3 el hc => ?_))))))
  have el : s.txt.length = st.txt.length := el
  rw [← el]
  clear H0 H1 H2 iv iv1 el
  have nm : s.ths.length ≤ 13 := Nat.le_trans iv3.nm hj
  have hd3 : D + 1 + 1 + 1 = D + 3 := by rw [Int.add_assoc, Int.add_assoc]; rfl
  cases c with
  | true =>
    refine go_tt (go_b (draw H3 iv3 (d2 hD) _ (m := 2) (by decide) (by decide) fun r μ4 x_ x_ H4 iv4 x_ => go_eq (p_eq _) ?_))
    rw [hd3] at iv4
    generalize decide (r = 1) = b
    refine go_eq (sel_list (iv4.th H4) _) (go_t (by kernel_rfl) (go_eq (ditem_bnd H4.dee (v := .top 865) (by kernel_rfl) _) (go_t (by kernel_rfl) (go_eq (b252' _ _) (sg_new H4 (by rfl) fun x5 μ5 H5 x_ f5 m5 => go_call (go_b ?_))))))
    refine d865 H5 (n + 4) m5 f5 iv4.lm (Nat.lt_of_le_of_lt nm (by decide)) fun a μ6 H6 x_ => H6.elim fun cs gs ge t1 t2 h6 g => go_cbi (st_thl h6 (Nat.lt_of_le_of_lt (iv4.thl ▸ nm) (by decide)) fun μ7 h7 x_ => go_eq (rd45 h7 _) (go_eq (sel_list h7.fix.f166 _) (go_t (by kernel_rfl) (go_eq (new_bnd (by rfl) _) (go_cbi ?_)))))
    have ln : s.sps.length < 1000 := by rw [H3.lens.2, iv3.mkE, ← H3.lens.1]; exact Nat.lt_of_le_of_lt nm (by decide)
    exact st_addS (p := (clip p 1 (s.txt.length + 1), b)) (h7.push (by rfl)) (last_get _) h7.free (Nat.ne_of_gt h7.txLt) ln fun μ8 h8 => go_ret (k (((((s.sDk (s.dk + 1)).sLm (s.lm + 1)).aMk a (clip p 1 (s.txt.length + 1), b)).aTh a).aSp μ7.length (clip p 1 (s.txt.length + 1), b)) _ ⟨cs, gs, ge, t1, t2, h8, g⟩ iv4.add)
  | false =>
    have hc := hc rfl
    refine go_ff (go_eq (len_list (iv3.th H3) _) ?_)
    rw [List.length_map]
    refine go_b (draw H3 iv3 (d2 hD) _ (m := s.ths.length) (Int.ofNat_lt.mpr hc) (Int.ofNat_le.mpr (Nat.le_trans nm (by decide))) fun r μ4 r0 r1 H4 iv4 x_ => ?_)
    rw [hd3] at iv4
    obtain ⟨i, rfl⟩ := Int.eq_ofNat_of_zero_le r0
    have l1 := Int.ofNat_lt.mp r1
    have l2 : i < s.mks.length := H3.lens.1 ▸ l1
    obtain ⟨a, ha⟩ : ∃ a, s.ths[i]? = some a := ⟨_, List.getElem?_eq_getElem l1⟩
    obtain ⟨q, hp⟩ : ∃ q, s.mks[i]? = some q := ⟨_, List.getElem?_eq_getElem l2⟩
    obtain ⟨b, hb⟩ : ∃ b, s.sps[i]? = some b := ⟨_, List.getElem?_eq_getElem (by rw [H3.lens.2, iv3.mkE]; exact l2)⟩
    have hp' : s.spv[i]? = some q := by rw [iv3.mkE]; exact hp
    have hi : i ≤ 1000 := Nat.le_trans (Nat.le_of_lt l1) (Nat.le_trans nm (by decide))
    refine go_eq (H4.o5 _) (go_eq (ref_at H4.sp hb hi _) (H4.elim fun cs gs ge t1 t2 h4 g => st_spot h4 hb hp' fun μ5 h5 x_ => ?_))
    have H5 : HG ds ((s.sDk (s.dk + 1)).sSp (s.spv.set i (clip p 1 (s.txt.length + 1), q.2))) s.txt μ5 := ⟨cs, gs, ge, t1, t2, h5, g⟩
    have th : ∀ {t : List Int} {m : List (Int × Bool)} {μ : Mem}, HG ds (((s.sDk (s.dk + 1)).sSp (s.spv.set i (clip p 1 (s.txt.length + 1), q.2))).sMk m) t μ → μ[17]? = some (.list (s.ths.map .ref)) := fun H0 => iv3.thl ▸ H0.elim fun x_ x_ x_ x_ x_ h x_ => h.fix.f17
    exact go_eq (ditem_bnd H5.dee (v := .top 872) (by kernel_rfl) _) (go_t (by kernel_rfl) (go_eq (ref_at (th (m := s.mks) H5) ha hi _) (sg_new H5 (by rfl) fun x6 μ6 H6 x_ x_ m6 => go_call (go_b (d872 H6 (n + 4) ha hp m6 (Nat.lt_of_le_of_lt nm (by decide)) fun μ7 H7 => go_eq (ref_at (th H7) ha hi _) (go_eq (is_self _) (go_ret (k _ _ H7 iv4.put))))))))
end
/-! ## A turn, the loop -/
noncomputable abbrev fr (ρ : Loc) : Loc := ("script", .ref 0) :: ("things", .ref 17) :: ("world", .ref 4) :: ("deck", .ref 3) :: ("deeds", .ref 164) :: ("own", .ref 167) :: ρ
theorem d25 {D : Int} : D + 1 + 1 ≤ D + 5 := by omega
theorem d35 {D : Int} : D + 1 + 2 ≤ D + 5 := by omega
theorem d45 {D : Int} : D + 1 + 3 ≤ D + 5 := by omega
theorem mx_n {i : Int} (h : i ≤ 3) : mx 0 i ≤ 3 := by
  unfold mx; split
  · exact h
  · decide
theorem mx_0 {i : Int} : 0 ≤ mx 0 i := by
  unfold mx; split
  · exact Int.le_of_lt ‹_›
  · exact Int.le_refl _
section
variable {α β : Type} {ds : List Int} {st : St} {t x y z w : List Int} {μ μ' : Mem} {j : Nat} {D : Int}
theorem tup_at {a : Nat} {xs : List V} {i : Int} {v : V} (hm : μ[a]? = some (.tup xs)) (hi : 0 ≤ i ∧ small i = true) (hv : xs[i.toNat]? = some v) (K : V → Mx α) : bnd (itemM (.ref a) (.int i)) K μ = K v μ := at_bnd hm ((if_pos hi).trans hv) K
theorem GvAt.eq {v : V} (g : GvAt μ v) : ∃ p q, (∀ K : V → Mx Bool, bnd (itemM v (.int 0)) K μ = K p μ) ∧ (∀ K : V → Mx Bool, bnd (itemM v (.int 1)) K μ = K q μ) ∧ eqM p q μ = some (.ok true, μ) := by
  obtain ⟨x, rfl, ⟨L, a, b, d, hm, ha, hb⟩ | hm⟩ := g
  · exact ⟨_, _, tup_at hm (by decide) rfl, tup_at hm (by decide) rfl, Td_eq ha hb⟩
  · exact ⟨_, _, tup_at hm (by decide) rfl, tup_at hm (by decide) rfl, eqM_true (d := .bool true) rfl toPy_bool toPy_bool⟩
/-- what each turn ends with -/
theorem end_of {v : V} (d : Done ds j D v μ) (hj : j ≤ 14) {D' : Int} (hD : D ≤ D') (n : Nat) {ρ : Loc} {A : Mx (Option V × Loc)} {Q : Option V × Loc → Mem → Prop} (k : ∀ ρ' s μ', HG ds s s.txt μ' → IV ds j D' s → Q (none, fr ρ') μ') :
    Go (bnd (bnd (opt (List.lookup ("given" : Str) (setL "given" v ρ))) fun x20 => bnd (itemM x20 (V.int 0)) fun x21 => bnd (opt (List.lookup ("given" : Str) (setL "given" v ρ))) fun x22 => bnd (itemM x22 (V.int 1)) fun x23 => bnd (cmpM .NotEq x21 x23) fun c24 => stepT .Or c24 ret (bnd (callN (n + 8) (V.top 1325) [.ref 167, .ref 164, .ref 4, .ref 17]) fun x25 => bnd (boolM x25) fun b26 => stepT .Or (!b26) ret (ret false))) (fun c27 => if c27 = true then A else ret (none, fr (setL "given" v ρ))) μ) Q := by
  refine El_eaa d fun st H0 iv g => ?_
  refine El_eeaa g.eq fun p q h1 h2 h3 => ?_
  exact go_b (look (go_eq (h1 _) (look (go_eq (h2 _) (go_eq (ne_bnd h3 _) (go_O0 rfl (go_b (g1325 H0 iv hj n fun μ1 H1 x_ => go_eq (p_boo _) (go_O0 rfl (go_ret (go_ff (go_ret (k _ _ _ H1 (iv.mono (Nat.le_refl _) hD))))))))))))))
/-- _law_put beside what was told -/
theorem put_end (H0 : HG ds (insB st w.length) (x ++ (w ++ z)) μ) (iv : IV ds j D st) (ex : st.txt = x ++ z) (hp : st.pt = x.length + 1) {c a : Nat} (hc : μ[c]? = some (il w)) (fc : Free st.L c) (t4 : TdAt st.L μ a .nil) (hw : w.length ≤ 4) (cw : ∀ c ∈ w, 0 ≤ c) (hl : (x ++ z).length + w.length ≤ 300) (n : Nat) {F : V → Mx (Option V × Loc)} {Q : Option V × Loc → Mem → Prop} (k : ∀ v μ', Done ds (j + 1) D v μ' → Go (F v μ') Q) :
    Go (bnd (callN (n + 1) (.top 1292) [.ref 167, .ref c]) (fun x18 => bnd (newM (.tup [.ref a, x18])) F) μ) Q :=
  go_b (g1292 H0 n ex (iv.op.trans hp) hc fc hl fun b y μ1 m1 f1 H1 k1 => sg_new H1 (by rfl) fun x2 μ2 H2 k2 f2 m2 => k _ _ ⟨_, H2, iv.ins ex hw cw, x2, rfl, .inl ⟨_, a, b, .nil, m2, (t4.keep k1).keep k2, ⟨k2.get _ _ f1 m1, f1⟩⟩⟩)
theorem turn (H0 : HG ds st st.txt μ) (iv : IV ds j D st) (hj : j ≤ 13) (hD : D ≤ 800) (n : Nat) (v : V) (ρ : Loc) {Q : Option V × Loc → Mem → Prop} (k : ∀ ρ' s μ', HG ds s s.txt μ' → IV ds (j + 1) (D + 5) s → Q (none, fr ρ') μ') : Go (forTurn (callN (n + 10)) (fnOf 1330).names (stOf 1330 5) v (fr ρ) μ) Q := by
  refine go_c (t1330 ..) (go_b (draw H0 iv (Int.le_trans hD (by decide)) (n + 9) (m := 5) (by decide) (by decide) fun r μ1 r0 r1 H1 iv1 x_ => look (go_eq (p_eq _) ?_)))
  have H1 : HG ds (st.sDk (st.dk + 1)) (st.sDk (st.dk + 1)).txt μ1 := H1
  clear H0 iv
  generalize st.sDk (st.dk + 1) = s at H1 iv1
  have hD1 : D + 1 ≤ 1000 := Int.le_trans (Int.add_le_add_right hD 1) (by decide)
  have tl : s.txt.length ≤ 57 := Nat.le_trans iv1.tl (Nat.add_le_add_left (Nat.mul_le_mul_left 4 hj) 5)
  have nm : s.ths.length < 64 := Nat.lt_of_le_of_lt (Nat.le_trans iv1.nm hj) (by decide)
  have hj1 : j + 1 ≤ 14 := Nat.succ_le_succ hj
  refine go_dec (fun x_ => ?_) fun x_ => look (go_eq (p_eq _) (go_dec (fun x_ => ?_) fun x_ => look (go_eq (p_eq _) (go_dec (fun x_ => ?_) fun x_ => look (go_eq (p_eq _) (go_dec (fun x_ => ?_) fun x_ => ?_))))))
  · refine El_eea (txt_at s.txt (Int.le_trans iv1.b.lo iv1.b.pl) (Int.le_trans iv1.b.ph iv1.b.hi)) fun x z ex hp => ?_
    rw [ex] at tl
    refine (sg_new H1 (by rfl) fun x4 μ4 H4 k4 f4 m4 => sg_new H4 (by rfl) fun x5 μ5 H5 k5 f5 m5 => sg_new H5 (by rfl) fun x6 μ6 H6 k6 f6 m6 => sg_new H6 (by rfl) fun x7 μ7 H7 k7 f7 m7 => H7.elim fun cs gs ge t1 t2 h7 g => mul_go h7 (v := 103) m7 (by decide) (by decide) fun x8 μ8 h8 k8 f8 m8 => ?_)
    have H8 : HG ds s s.txt μ8 := ⟨cs, gs, ge, t1, t2, h8, g⟩
    refine sg_new H8 (by rfl) fun x9 μ9 H9 k9 f9 m9 => go_b (draw H9 iv1 (Int.le_trans hD1 (by decide)) (n + 9) (m := 4) (by decide) (by decide) fun q μ10 q0 q1 H10 iv2 k10 => ?_)
    have kk := k9.trans k10
    have kl := (k7.trans k8).trans kk
    have m9 := k10.get _ _ f9 m9
    have sel : ∃ c w, μ10[c]? = some (il w) ∧ Free s.L c ∧ w.length ≤ 4 ∧ (∀ x ∈ w, (0 : Int) ≤ x) ∧ ∀ K : V → Mx (Option V × Loc), bnd (itemM (.ref x9) (.int q)) K μ10 = K (.ref c) μ10 := by
      rcases in4 q0 q1 with rfl | rfl | rfl | rfl
      · exact ⟨x8, _, kk.get _ _ f8 m8, f8, by decide, by decide, item_bnd m9 (by decide) rfl⟩
      · exact ⟨x6, [], kl.get _ _ f6 m6, f6, by decide, by decide, item_bnd m9 (by decide) rfl⟩
      · exact ⟨x5, [102, 10], (k6.trans kl).get _ _ f5 m5, f5, by decide, by decide, item_bnd m9 (by decide) rfl⟩
      · exact ⟨x4, [101], ((k5.trans k6).trans kl).get _ _ f4 m4, f4, by decide, by decide, item_bnd m9 (by decide) rfl⟩
    refine El_eeaaaa sel fun c w hc fc hw cw hs => ?_
    clear k4 k5 k6 k7 k8 k9 k10 kk kl m4 m5 m6 m7 m8 m9 f4 f5 f6 f7 f8 f9 H4 H5 H6 H7 H8 H9 h7 h8
    have hz : w.length ≤ 1000 := Nat.le_trans hw (by decide)
    have hl : (x ++ z).length + w.length ≤ 300 := Nat.le_trans (Nat.add_le_add tl hw) (by decide)
    refine go_eq (hs _) (look (go_eq (lst_bnd hc _) (H10.elim fun cs gs ge t1 t2 h g => st_new h (szIl hz) fun x1 μ1 h1 k1 f1 m1 => go_b (g178 h1 (n + 8) x1 fun x2 μ2 h2 k2 f2 m2 => st_new h2 (by rfl) fun x3 μ3 h3 k3 f3 m3 => go_b ?_))))
    have H3 : HG ds (s.sDk (s.dk + 1)) (x ++ z) μ3 := ⟨cs, gs, ge, t1, t2, h3, ex ▸ g⟩
    have k3' := k2.trans k3
    exact told_ok H3 _ (by kernel_rfl) (by kernel_rfl) (d774 H3 ⟨iv1.b.lo, iv1.b.pl, iv1.b.ph, ex ▸ iv1.b.hi⟩ hp (n + 3) m3 f3 (k3.get _ _ f2 m2) (k3'.get _ _ f1 m1) hl nm fun μ4 H4 k4 => tail_nil H4 fun a5 μ5 t5 H5 k5 => look (put_end H5 iv2 ex hp ((((k1.trans k3').trans k4).trans k5).get _ _ fc hc) fc t5 hw cw hl _ fun v μ' d => end_of d hj1 d25 (n + 2) k))
  · refine El_eea (txt_at s.txt (Int.le_trans iv1.b.lo iv1.b.pl) (Int.le_trans iv1.b.ph iv1.b.hi)) fun x z ex hp => ?_
    rw [ex] at tl
    refine go_b (draw H1 iv1 (Int.le_trans hD1 (by decide)) (n + 9) (m := 4) (by decide) (by decide) fun q μ2 q0 q1 H2 iv2 x_ => go_eq (p_sub _) (look (sg_new H2 (by rfl) fun x3 μ3 H3 x_ x_ m3 => go_b ?_)))
    rw [ex] at H3
    have q3 : q - 1 ≤ 3 := Int.le_trans (Int.sub_le_self q (by decide)) (Int.le_of_lt_add_one q1)
    have q2 : -1 ≤ q - 1 := Int.sub_le_sub_right q0 1
    generalize q - 1 = i at q2 q3 m3
    have b0 : 0 ≤ mx 0 i := mx_0
    have b1 : mx 0 i ≤ 3 := mx_n q3
    refine told_ok H3 _ (by kernel_rfl) (by kernel_rfl) (d781 H3 ⟨iv1.b.lo, iv1.b.pl, iv1.b.ph, ex ▸ iv1.b.hi⟩ hp (n + 3) m3 q2 (Int.le_trans q3 (by decide)) (Nat.le_trans tl (by decide)) nm fun μ4 H4 x_ => tail_nil H4 fun a5 μ5 t5 H5 x_ => sg_new H5 (by rfl) fun x6 μ6 H6 k6 f6 m6 => look (go_eq (p_max _) (H6.elim fun cs gs ge t1 t2 h6 g => mul_go h6 (v := 120) m6 (Int.le_trans b1 (by decide)) (Int.le_trans (by decide) b0) fun x7 μ7 h7 k7 f7 m7 => ?_)))
    have H7 : HG ds (insB (s.sDk (s.dk + 1)) (mx 0 i).toNat) (x ++ (List.replicate (mx 0 i).toNat 120 ++ z)) μ7 := ⟨cs, gs, ge, t1, t2, h7, g⟩
    have b2 : (mx 0 i).toNat ≤ 4 := Int.toNat_le.mpr (Int.le_trans b1 (by decide))
    generalize (mx 0 i).toNat = m at H7 b2 m7
    have cw : ∀ x ∈ List.replicate m (120 : Int), 0 ≤ x := fun x hx => by rw [(List.mem_replicate.mp hx).2]; decide
    have lw : (List.replicate m (120 : Int)).length = m := List.length_replicate
    generalize List.replicate m (120 : Int) = w at H7 m7 cw lw
    subst lw
    exact put_end H7 iv2 ex hp m7 f7 ((t5.keep k6).keep k7) b2 cw (Nat.le_trans (Nat.add_le_add tl b2) (by decide)) _ fun v μ' d => end_of d hj1 d25 (n + 2) k
  · exact go_b (g1306 H1 iv1 hj hD1 (n + 1) fun v μ' d => end_of d hj1 d45 (n + 2) k)
  · exact go_b (g1313 H1 iv1 hj hD1 (n + 1) fun s' μ2 H2 iv2 => sg_new H2 (by rfl) fun x3 μ3 H3 x_ x_ m3 => end_of ⟨s', H3, iv2, x3, rfl, .inr m3⟩ hj1 d45 (n + 2) k)
  · exact go_b (g1320 H1 iv1 hj hD1 (n + 1) fun v μ' d => end_of d hj1 d35 (n + 2) k)
theorem loop (n m : Nat) : ∀ (i : Nat) {j : Nat} {D : Int} (ρ : Loc) {st : St} {μ : Mem}, HG ds st st.txt μ → IV ds j D st → j + m ≤ 14 → D + 5 * m ≤ 800 → Go (rangeM (forTurn (callN (n + 10)) (fnOf 1330).names (stOf 1330 5)) m i (fr ρ) μ) fun q x_ => ∃ ρ', q = (none, fr ρ') := by
  induction m with
  | zero => exact fun x_ x_ x_ ρ x_ x_ x_ x_ x_ x_ => go_ret ⟨ρ, rfl⟩
  | succ m ih =>
    intro i j D ρ st μ H0 iv h1 h2
    exact go_b (turn H0 iv (by omega) (by omega) n _ ρ fun ρ' s μ' H1 iv1 => ih (i + 1) ρ' H1 iv1 (by omega) (by omega))
end
/-! ## The start, by the kernel; the law on the mini evaluator -/
noncomputable def rho5 : Loc := [("script", .ref 0), ("things", .ref 17), ("world", .ref 4), ("deck", .ref 3), ("deeds", .ref 164), ("own", .ref 167)]
noncomputable def midS : List Stmt := [stOf 1330 1, stOf 1330 2, stOf 1330 3, stOf 1330 4]
@[irreducible] noncomputable def mid : Mx (Option V × Loc) := bnd (callN 19 (.top 1253) []) fun w => bnd (newM (.list [])) fun th => bnd (newM (.tup [.ref 3, w, th])) fun x_ => exSs (callN 19) (fnOf 1330).names midS [("script", .ref 0), ("things", th), ("world", w), ("deck", .ref 3)]
noncomputable def memOf {α : Type} (x : Option (Out α × Mem)) : Mem := (x.map (·.2)).getD []
@[irreducible] noncomputable def L5 (o0 o1 o2 : MO) : Mem := memOf (mid [o0, o1, o2, .list [.ref 2, .int 0]])
noncomputable def st0 : St := { dk := 0, pt := 6, lo := 1, hi := 6, t1 := 3, t2 := 3, cells := [97, 98, 10, 99, 100, 0, 0, 0], gs := 5, ge := 8, lm := 0, ths := [], thl := [], mks := [], op := 6, ol := 1, oh := 6, txa := 190, txt := [97, 98, 10, 99, 100], sps := [], spv := [] }
theorem L5_all (o0 o1 : MO) (ds : List Int) : mid [o0, o1, il ds, .list [.ref 2, .int 0]] = some (.ok (none, rho5), L5 o0 o1 (il ds)) ∧ L5 o0 o1 (il ds) = o0 :: o1 :: il ds :: (L5 o0 o1 (il ds)).drop 3 ∧ ((L5 o0 o1 (il ds)).drop 3).all szOk = true ∧ (L5 o0 o1 (il ds))[st0.txa]? = some (il st0.txt) ∧ Fix ds st0 (L5 o0 o1 (il ds)) :=
  ⟨by kernel_rfl, by kernel_rfl, by kernel_rfl, by kernel_rfl, by kernel_rfl, by kernel_rfl, by kernel_rfl, by kernel_rfl, by kernel_rfl, by kernel_rfl, by kernel_rfl, by kernel_rfl, by kernel_rfl, by kernel_rfl, by kernel_rfl, by kernel_rfl, by kernel_rfl⟩
theorem L5_0 (o0 o1 : MO) (ds : List Int) : (L5 o0 o1 (il ds))[0]? = some o0 := by rw [(L5_all o0 o1 ds).2.1]; rfl
theorem H_0 {o0 o1 : MO} {ds : List Int} (z0 : szOk o0 = true) (z1 : szOk o1 = true) (z2 : szOk (il ds) = true) : H ds st0 (L5 o0 o1 (il ds)) :=
  have h := (L5_all o0 o1 ds).2
  ⟨h.2.2.2, ⟨(fun h => nomatch h), (fun h => nomatch h), h.2.2.1, rfl, rfl, by decide, (fun x_ h => nomatch h), List.nodup_nil, (fun h => nomatch h), by
    rw [h.1]
    exact List.forall_mem_cons.mpr ⟨z0, List.forall_mem_cons.mpr ⟨z1, List.forall_mem_cons.mpr ⟨z2, fun o ho => List.all_eq_true.mp h.2.1 o ho⟩⟩⟩⟩⟩
theorem IV_0 {ds : List Int} (hd : ds.length ≤ 63) : IV ds 0 0 st0 := ⟨rfl, rfl, rfl, ⟨by decide, by decide, by decide, by decide⟩, by decide, rfl, rfl, rfl, Nat.le_refl _, by decide, Int.le_refl _, Int.le_refl _, hd⟩
theorem kSs_append {α : Type} {C : CallT} {k : Kinds} (l r : List Stmt) : ∀ (ρ : Loc) (K : Option V × Loc → Mx α), kSs C k (l ++ r) ρ K = kSs C k l ρ fun q => seqK q K fun ρ' => kSs C k r ρ' K := by
  induction l with
  | nil => exact fun ρ K => rfl
  | cons s l ih =>
    intro ρ K
    refine congrArg (kS C k s ρ) (funext fun q => ?_)
    obtain ⟨o, ρ'⟩ := q
    cases o with
    | some v => rfl
    | none => exact ih ρ' K
theorem s1330_0 (C : CallT) (K : Option V × Loc → Mx V) (a0 : V) : kS C (fnOf 1330).names (stOf 1330 0) [("script", a0)] K = bnd (sliceM a0 .none (.int 63)) fun x1 => bnd (listOfM x1) fun p2 => bnd (compM p2.1 p2.2 (fun w => noExc (bnd (callB "abs" [w]) fun x => ret x)) p2.2) fun ws => bnd (newM (.list ws)) fun x3 => bnd (newM (.list [x3, .int 0])) fun x4 => bnd (C (.top 1253) []) fun x5 => bnd (newM (.list [])) fun x6 => bnd (newM (.tup [x4, x5, x6])) fun x_ => K (none, [("script", a0), ("things", x6), ("world", x5), ("deck", x4)]) := by kernel_rfl
theorem s1330_5 (C : CallT) (K : Option V × Loc → Mx V) : kS C (fnOf 1330).names (stOf 1330 5) (fr []) K = bnd (sliceM (.ref 0) .none (.int 36)) fun x => bnd (callB "len" [x]) fun y => bnd (binM .FloorDiv y (.int 4)) fun z => bnd (binM .Add (.int 3) z) fun v => rangeK v (forTurn C (fnOf 1330).names (stOf 1330 5)) (fr []) K := by kernel_rfl
theorem e1330 {C : CallT} {ρ : Loc} {K : Option V × Loc → Mx V} : kSs C (fnOf 1330).names ((fnOf 1330).body.drop 6) (fr ρ) K = K (some (.bool true), fr ρ) := by kernel_rfl
section
variable {α β : Type} {μ : Mem} {a : Nat} {l : List Int}
theorem src_go {xs : List V} (hm : μ[a]? = some (.src xs)) (K : List V → Mx α) : bnd (srcOfM (.ref a)) K μ = K xs μ := at_bnd (f := srcO) hm rfl K
theorem src_slice {j : Nat} (hm : μ[a]? = some (.src (l.map .int))) (hl : l.length ≤ 1000) (hj : j ≤ 1000) (K : V → Mx α) : bnd (sliceM (.ref a) .none (.int j)) K μ = K (.ref μ.length) (μ ++ [il (l.take j)]) := by
  unfold sliceM
  rw [bnd_assoc, src_go hm, bnd_assoc]
  have e : sliceOf (l.map V.int) .none (.int j) = some (0, min j l.length) := by
    have e1 : cutO (l.map V.int).length (l.map V.int).length (.int j) = some (min j l.length) := by
      refine (if_pos (small_nat hj)).trans ?_
      unfold cutAt
      rw [if_neg (Int.not_lt.mpr (Int.natCast_nonneg j)), Int.toNat_natCast, List.length_map]
    exact congrArg (Option.map _) e1
  rw [e]
  show bnd (newM (.list ((l.map V.int).take (min j l.length)))) K μ = _
  rw [← List.map_take, ← List.take_take, List.take_length]
  exact new_bnd (szIl (Nat.le_trans (List.length_take_le _ _) hj)) K
theorem abs_all {all : List V} (hm : μ[a]? = some (.list all)) (l : List Int) : ∀ {Q : List V → Mem → Prop}, Q ((l.map fun i => (i.natAbs : Int)).map V.int) μ → Go (compM a all (fun w => noExc (bnd (callB "abs" [w]) fun x => ret x)) (l.map .int) μ) Q := by
  induction l with
  | nil => exact fun k => cm_nil hm k
  | cons i l ih => exact fun k => cm_cons hm (noExc_go (go_ret (ih k)))
end
theorem law_go (xs : List Int) (hx : xs.length ≤ 63) : Go (callN 20 (.top 1330) [.ref 0] [.src (xs.map .int)]) fun v x_ => v = .bool true := by
  have hx' : xs.length ≤ 1000 := Nat.le_trans hx (by decide)
  refine go_c (callS (n := 19) (runFn_k (callN 19) (fnOf 1330) _ [("script", .ref 0)] (by kernel_rfl)) (by kernel_rfl)) ?_
  refine go_c (kSs_drop (s := stOf 1330 0) (r := (fnOf 1330).body.drop 1) (by kernel_rfl) _ _) (go_c (s1330_0 ..) (go_eq (src_slice (l := xs) (j := 63) rfl hx' (by decide) _) (go_eq (listOf_bnd (xs := (xs.take 63).map .int) rfl _) (go_b (abs_all rfl (xs.take 63) ?_)))))
  have hd : ((xs.take 63).map fun i : Int => (i.natAbs : Int)).length ≤ 63 := by rw [List.length_map]; exact List.length_take_le _ _
  have ht : szOk (il (xs.take 63)) = true := szIl (Nat.le_trans (List.length_take_le _ _) (by decide))
  generalize ((xs.take 63).map fun i : Int => (i.natAbs : Int)) = ds at hd
  generalize xs.take 63 = ys at ht
  have hz : szOk (il ds) = true := szIl (Nat.le_trans hd (by decide))
  refine go_eq (new_bnd (o := il ds) hz _) (go_eq (new_bnd (by rfl) _) ?_)
  refine go_eq (y := bnd mid (fun q => seqK q (fun r => ret (r.1.getD .none)) fun ρ' => kSs (callN 19) (fnOf 1330).names ((fnOf 1330).body.drop 5) ρ' fun r => ret (r.1.getD .none)) [.src (xs.map V.int), il ys, il ds, .list [.ref 2, .int 0]]) ?_ (go_eq (bnd_val (L5_all _ _ _).1) (go_sn ?_))
  · unfold mid
    rw [bnd_assoc]
    refine congrFun (bnd_congr _ fun w => ?_) _
    rw [bnd_assoc]
    refine bnd_congr _ fun th => ?_
    rw [bnd_assoc]
    refine bnd_congr _ fun x_ => ?_
    show kSs (callN 19) (fnOf 1330).names ((fnOf 1330).body.drop 1) _ _ = _
    rw [← kSs_eq]
    exact kSs_append midS ((fnOf 1330).body.drop 5) _ _
  have h0 := H_0 (o0 := .src (xs.map V.int)) (show szOk (.src (xs.map V.int)) = true from szIl hx') ht hz
  refine go_c (kSs_drop (s := stOf 1330 5) (r := (fnOf 1330).body.drop 6) (by kernel_rfl) _ _) (go_c (s1330_5 ..) (go_eq (src_slice (l := xs) (j := 36) (L5_0 _ _ _) hx' (by decide) _) (go_eq (len_bnd (last_get _) _) (go_eq (div_bnd (by decide) _) (go_eq (p_add _) ?_)))))
  have hl : (xs.take 36).length ≤ 36 := List.length_take_le _ _
  have h1 := h0.push (o := il (xs.take 36)) (szIl (Nat.le_trans hl (by decide)))
  have hq : 0 ≤ ((xs.take 36).length : Int).fdiv 4 ∧ ((xs.take 36).length : Int).fdiv 4 ≤ 9 := by
    rw [Int.fdiv_eq_ediv_of_nonneg _ (by decide)]
    omega
  generalize ((xs.take 36).length : Int).fdiv 4 = q at hq
  have hs : small (3 + q) = true := small_of (by omega) (by omega)
  refine go_c (show rangeK (.int (3 + q)) _ (fr []) _ = bnd (rangeM _ (3 + q).toNat 0 (fr [])) _ from if_pos hs) (go_b (go_m (loop 9 (3 + q).toNat 0 [] (st := st0) ⟨_, _, _, _, _, h1, [97, 98, 10, 99, 100], [0, 0, 0], [], rfl, rfl, rfl, rfl, by decide⟩ (IV_0 hd) (by omega) (by omega)) ?_))
  rintro q μ' ⟨ρ', rfl⟩
  exact go_sn (go_c e1330 (go_ret rfl))
theorem law_mini (xs : List Int) (hx : xs.length ≤ 63) : ∃ μ', callN 20 (.top 1330) [.ref 0] [.src (xs.map .int)] = some (.ok (.bool true), μ') := by
  obtain ⟨v, μ', e, rfl⟩ := law_go xs hx
  exact ⟨μ', e⟩
set_option backward.match.sparseCases true
/-! ## The join -/
theorem ns_hide {h : Heap} {l a : Addr} {m : Str → Option Value} {ol : Obj} {vs : Array Value} {nn : Nat} (hl : h.get? l = some ol) (hd : ol.data = .seq vs nn) (n : h.Ns a m) : (h.hide l).Ns a m := by
  obtain ⟨o, es, ep, h1, h2, h3⟩ := n
  have : a ≠ l := by
    intro e; subst e
    rw [hl] at h1; cases h1
    rw [hd] at h2; cases h2
  exact ⟨o, es, ep, by rw [Heap.hide_ne _ this]; exact h1, h2, h3⟩
theorem all2_ints {K : Frag} {as : List Addr} : ∀ {vs : List Value} {xs : List Int}, IntsAre vs xs → All2 (VR K as) (xs.map .int) vs
  | [], [], h => .nil
  | v :: vs, x :: xs, h => by
    cases h
    exact .cons .int (all2_ints (by assumption))
theorem lt_get {h : Heap} {a : Addr} {o : Obj} (e : h.get? a = some o) : a < h.objs.size := by
  rcases Nat.lt_or_ge a h.objs.size with z | z
  · exact z
  · unfold Heap.get? at e
    rw [Array.getElem?_eq_none z] at e
    cases e
set_option tactic.hygienic true in
theorem join {q : Program} {loose : List Str} {XP : (Str → Option Value) → Heap → Prop} {d : DefRec} (hdn : d.name = "law") : WalkO q loose XP hook.says Challenge.rw_ok0072_01.row.toRowW d [] fun f vs => PySem.call f vs := by
  intro w s₀ s₁ mg mb G Y a o pm cd doc dV kV ho hd hcd hD hmg hg args vals as hpre hlay hrd hwl hlo
  have hlo' := hlo
  wrow_args hpre hlay hrd hwl hlo
  rename_i xs _ _ _ _ _ as1 as2 l vs ws hL ra w1 r0 hI hr hc1 hc2
  obtain ⟨ol, hl, hlc, nn, hld⟩ := hL
  obtain ⟨K, hK, hk⟩ := Y
  simp only [chk, good, Prod.mk.injEq] at hk
  obtain ⟨⟨k1, k2, k3⟩, ⟨k4, k5, k6⟩, ⟨k7, k8, k9⟩, k10⟩ := hk
  rw [Bool.and_eq_true] at k5
  have hne : ∀ b o, K.lookup b = some o → b ≠ l := by
    intro b o hb e
    subst e
    have := hK b o hb
    rw [hl] at this; cases this
    have := List.all_eq_true.mp k5.2 _ (lookup_mem hb)
    simp only [hlc] at this
    simp at this
  have hKb : K.In (s₁.heap.hide l) := fun b o hb => by rw [Heap.hide_ne _ (hne b o hb)]; exact hK b o hb
  have T : TopOk K mg mb (s₁.heap.hide l) := by
    refine ⟨hKb, ns_hide hl hld G.T.g, ns_hide hl hld G.T.b, ?_, G.T.builtins, ?_, k4, k5.1, k7, k8, k9, k6, k10⟩
    · obtain ⟨mc, h1, h2⟩ := G.T.nolimit
      exact ⟨mc, ns_hide hl hld h1, h2⟩
    · rw [k1, k2, k3]; rfl
  have hls : l ≠ sysModules := by
    intro e
    have hm : l ∈ as1 := by
      cases r0
      exact .head _
    have := hlo' l (List.mem_append_left _ hm)
    rw [e] at this
    simp at this
  have ha : a = 1330 := by
    obtain ⟨v, h1, h2⟩ := glob_of (x := "law") (v := .top 1330) hKb T.g T.gl (by kernel_rfl)
    rw [hdn, h1] at hmg
    injection hmg with hmg
    have := h2 []
    rw [hmg] at this
    cases this
    rfl
  subst ha
  obtain ⟨μ', hrun⟩ := law_mini xs (by omega)
  have h1330 : (K.lookup 1330).isSome = true := by
    obtain ⟨v, h1, h2⟩ := glob_of (x := "law") (v := .top 1330) hKb T.g T.gl (by kernel_rfl)
    have := h2 []
    cases this
    assumption
  refine law_call T (fun b o hb => ?_) (Heap.hide_size _ _) ?_ (fun b o hb hn => by rw [Heap.hide_ne _ hn]; exact hb) hl (Heap.hide_self _ _) hls hlc hld (all2_ints hI) (by unfold big; simp; omega) hg hrun fun s' keep hos hgens => ?_
  · by_cases e : b = l
    · subst e; rw [Heap.hide_self] at hb; cases hb
    · rw [Heap.hide_ne _ e] at hb; exact hb
  · rw [Heap.hide_size]
    obtain ⟨o', ho'⟩ := Option.isSome_iff_exists.mp h1330
    exact Nat.lt_trans (by decide) (lt_get (hK _ _ ho'))
  · refine GoodW.toG ⟨.inl ⟨.bool true, .bool true, [], rfl, fun x_ => rfl, .bool true, ?_, fun x_ => ⟨List.nodup_nil, fun x_ h => by cases h⟩⟩, keep, hos, hgens⟩
    kernel_rfl
end Mine
namespace MineH
/-! ## The head: the top's objects by recipes -/
noncomputable def bd : List Stmt := PySem.Challenge.pw_ok0072_01.main.body
noncomputable def fl : Str := "/claim/cut.py"
noncomputable def ob (c : String) (d : Data) : Obj := ⟨.type c, none, d, #[]⟩
noncomputable def fz (l : List Value) : Obj := ⟨.none, none, .fields l.toArray, #[]⟩
noncomputable def ii (i : Nat) : Value := .int i 0
noncomputable def tuO (l : List Value) : Obj := ob "tuple" (.seq l.toArray 0)
noncomputable def tks : Nat → List Str → List Value
  | _, [] => []
  | t, x :: r => .str x t :: tks (t + 1) r
noncomputable def locs : List (Str × NameKind) → List Str
  | [] => []
  | (x, .local) :: r => x :: locs r
  | _ :: r => locs r
abbrev Ent := Str × Nat × Value
noncomputable def et (x : Str) (t : Nat) (v : Value) : Ent := (x, t, v)
noncomputable def ents (P : Params) (l : List Ent) : List DictEntry := l.map fun e => ⟨PyData.keyHash P e.1, .str e.1 e.2.1, e.2.2⟩
noncomputable def diO (P : Params) (l : List Ent) (n : Nat) : Obj := ob "dict" (.dict (ents P l).toArray n)
/-- a code object -/
noncomputable def cO (n q : Str) (ln ac fg : Nat) (b : Bool) (a t t' : Nat) (r : List Value) : Obj :=
  ob "code" (.fields ([.str n t, .str q (t + 1), .str fl (t + 2), ii ln, ii ac, ii 0, ii 0, ii fg, .ref a, .bool b, ii 181, .ref (a + 1)] ++ r ++ [ii t', ii ln, .str fl (t' + 1)]).toArray)
/-- what is laid so far: the next address, the next token, the module's name, the objects, the entries, the lines -/
structure TS where
  a : Nat
  t : Nat
  m : Value
  os : List (List Obj)
  en : List Ent
  ln : List Value
/-- the defaults of a def: values, the next token -/
noncomputable def dfs : Nat → List Expr → List Value × Nat
  | t, .Constant (.int i) _ _ :: r => let q := dfs (t + 1) r; (.int i t :: q.1, q.2)
  | t, .Constant (.bool b) _ _ :: r => let q := dfs t r; (.bool b :: q.1, q.2)
  | t, .Constant .none _ _ :: r => let q := dfs t r; (.none :: q.1, q.2)
  | t, _ => ([], t)
/-- the chunks of objects in their order (the newest chunk stands first) -/
noncomputable def flat (l : List Obj) : List (List Obj) → List Obj
  | [] => l
  | c :: r => flat (c ++ l) r
/-- a def -/
noncomputable def fO (c : Str) (s : TS) : Stmt → TS
  | .FunctionDef n ar b _ _ _ sc _ _ p =>
    let q := c ++ n
    let dv := dfs s.t ar.defaults
    let d := dv.1
    let o0 := match d with | [] => [] | d => [tuO d]
    let a := match d with | [] => s.a | _ => s.a + 1
    let dr := match d with | [] => Value.none | _ => .ref s.a
    let t := dv.2
    let g (cd : Addr) : Obj := ob "function" (.func { name := n, qualname := q, params := ar, body := .stmts b, scope := sc, globals := 3, closure := [], defaults := dr, kwdefaults := .none, pyModule := s.m, code := .ref cd })
    let pr : Obj := ⟨.none, none, .func { name := n, qualname := q, params := ar, body := .stmts b, scope := sc, globals := 0, closure := [], defaults := .none, kwdefaults := .none }, #[]⟩
    match Nat.ble 720 p.line with
    | true => ⟨a + 5, t + 6, s.m, (o0 ++ [tuO [], fz [], pr, cO n q p.line ar.args.length 3 true a t (t + 3) [.none, .none, .none, .ref (a + 2)], g (a + 3)]) :: s.os, s.en ++ [(n, t + 5, .ref (a + 4))], s.ln ++ [ii p.line, ii p.col, .ref (a + 3)]⟩
    | false =>
      let vs := locs sc.names
      let t' := t + 3 + vs.length
      ⟨a + 7, t' + 3, s.m, (o0 ++ [tuO [], fz [], tuO (tks (t + 3) vs), tuO [], pr, cO n q p.line ar.args.length 3 true a t t' [.none, .ref (a + 2), .ref (a + 3), .ref (a + 4)], g (a + 5)]) :: s.os, s.en ++ [(n, t' + 2, .ref (a + 6))], s.ln ++ [ii p.line, ii p.col, .ref (a + 5)]⟩
  | _ => s
/-- a class: k tells its base: 0 object, 1 Opaque, 2 Exception -/
noncomputable def kO (P : Params) (s : TS) : Stmt → TS
  | .ClassDef n bs _ body _ _ _ _ _ sa p =>
    let q := fO.body (n ++ ("." : Str)) ⟨s.a + 7, s.t + 12, s.m, [], [], []⟩ body
    let (bv, mro, hd, hw, nw) := match bs with
      | [] => (([] : List Value), [Value.type "object"], true, true, "object.__new__")
      | .Name x _ :: _ => if x = ("Exception" : Str) then ([Value.type "Exception"], [Value.type "Exception", .type "BaseException", .type "object"], false, true, "Exception.__new__") else ([Value.ref 234], [Value.ref 234, .type "object"], false, false, "object.__new__")
      | _ => ([], [], true, true, "")
    let sl := q.a
    let tk := q.t + sa.length
    let c := sl + 2
    let ci := match hd, hw with | true, _ => 5 | _, true => 4 | _, _ => 3
    let tk2 := tk + 1
    let dO : List Obj × List Ent × Nat × Nat := match hd with | true => ([ob "getset_descriptor" (.fields #[.str "__dict__" tk2, .ref c, .builtin "function.__dict__", .builtin "function.__dict__#set"])], [et "__dict__" (tk2 + 1) (.ref (c + 1))], tk2 + 2, c + 2) | false => ([], [], tk2, c + 1)
    let tk3 := dO.2.2.1
    let wO : List Obj × List Ent × Nat := match hw with | true => ([ob "getset_descriptor" (.fields #[.str "__weakref__" tk3, .ref c, .builtin "ExceptionGroup.__weakref__", .none])], [et "__weakref__" (tk3 + 1) (.ref dO.2.2.2)], tk3 + 2) | false => ([], [], tk3)
    let tk4 := wO.2.2
    let tk5 := match bs with | .Name x _ :: _ => if x = ("Exception" : Str) then tk4 + 3 else tk4 + 1 | _ => tk4 + 1
    let h0 : List Ent := [et "__module__" (s.t + 7) s.m]
    let h1 : List Ent := [et "__firstlineno__" (s.t + 11) (.int p.line (s.t + 10))]
    let r : List Ent := q.en ++ [et "__static_attributes__" tk (.ref sl)]
    let os := [tuO bv, ob "builtin_function_or_method" (.fields #[.builtin "type.__prepare__", .type "type"]),
      diO P (h0 ++ [et "__qualname__" (s.t + 9) (.str n (s.t + 8))] ++ h1 ++ r) (4 + q.en.length), tuO [], fz q.ln, cO n n p.line 0 0 false (s.a + 3) (s.t + 2) (s.t + 5) [.none, .none, .none, .none],
      ⟨.type "frame", none, .plain, #[some (.ref (s.a + 5)), some (.ref 3), some (.ref (s.a + 2)), none, some s.m, none, some (.ref 0)]⟩] ++ flat [] q.os ++
      [tuO (tks q.t sa), diO P (h0 ++ h1 ++ r ++ dO.2.1 ++ wO.2.1 ++ [et "__doc__" tk4 .none]) (ci - 1),
       ⟨.type "type", none, .cls { name := n, bases := match bs with | [] => [.type "object"] | _ => bv, mro := .ref c :: mro, ns := sl + 1, qualname := n }, #[match bs with | [] => none | _ => some (.ref s.a), none, some (.str n s.t), some (.str n (s.t + 8)), some (.builtin nw), some (.bool true)]⟩] ++ dO.1 ++ wO.1 ++
      [ob "super" (.fields #[.ref c, .ref c, .ref c]), ob "builtin_function_or_method" (.fields #[.builtin "object.__init_subclass__", .ref c])]
    ⟨sl + ci + 2, tk5 + 2, s.m, os :: s.os, s.en ++ [(n, tk5 + 1, .ref c)], s.ln ++ [ii p.line, ii p.col, .ref (s.a + 5)]⟩
  | _ => s
where fO.body (c : Str) (s : TS) : List Stmt → TS
  | [] => s
  | x :: r => fO.body c (fO c s x) r
/-- one statement of the top -/
noncomputable def tO (P : Params) (s : TS) : Stmt → TS
  | .FunctionDef n ar b d r tp sc ts bi p => fO ("" : Str) s (.FunctionDef n ar b d r tp sc ts bi p)
  | .ClassDef n bs k b d tp sc ts bi sa p => kO P s (.ClassDef n bs k b d tp sc ts bi sa p)
  | .Assign [.Name x _] (.Constant (.str v) _ _) _ => if x = ("__name__" : Str) then ⟨s.a, s.t + 2, .str v s.t, s.os, s.en, s.ln⟩ else s
  | .Assign [.Name x _] (.Constant (.int i) _ _) _ => ⟨s.a, s.t + 2, s.m, s.os, s.en ++ [(x, s.t + 1, .int i s.t)], s.ln⟩
  | .Assign [.Name x _] (.UnaryOp .USub (.Constant (.int i) _ _) _) _ => ⟨s.a, s.t + 3, s.m, s.os, s.en ++ [(x, s.t + 2, .int (-i) (s.t + 1))], s.ln⟩
  | .Assign [.Name x _] (.Call _ [.Constant (.int i) _ _, .Constant (.str y) _ _] [] _) _ =>
    let t := s.t
    ⟨s.a + 3, t + 10, s.m, [diO P [et "number" (t + 6) (.int i t), et "name" (t + 8) (.str y (t + 1))] 2, ⟨.ref 129, some s.a, .plain, #[]⟩,
        ⟨.type "frame", none, .dict (ents P [et "self" (t + 2) (.ref (s.a + 1)), et "number" (t + 3) (.int i t), et "name" (t + 4) (.str y (t + 1))]).toArray 3, #[]⟩] :: s.os, s.en ++ [(x, t + 9, .ref (s.a + 1))], s.ln⟩
  | _ => s
noncomputable def tOs (P : Params) (s : TS) : List Stmt → TS
  | [] => s
  | x :: r => tOs P (tO P s x) r
noncomputable def ts0 : TS := ⟨15, 187, .str "__main__" 164, [], [], []⟩
/-! ## The states between the pieces -/

noncomputable def mainO (P : Params) (s : TS) (n : Nat) : Obj := diO P ([et "__name__" 165 s.m, et "__doc__" 166 .none, et "__package__" 167 .none, et "__loader__" 168 (.builtin "__main__.__loader__#opaque"), et "__spec__" 169 .none, et "__annotations__" 170 (.ref 6), et "__builtins__" 171 (.ref 4), et "__file__" 173 (.str fl 172), et "__cached__" 174 .none] ++ s.en) n
noncomputable def bootL (P : Params) (k : Nat) (s : TS) : List Obj := [boot_o_0 P, boot_o_1 P, match Nat.ble 20 k with | true => ⟨.none, none, .dict (ents P [et "type.__subclasses__.Exception.0" 839 (.int 483 0), et "type.__subclasses__.Exception.n" 840 (.int 1 0)]).toArray 2, #[]⟩ | false => boot_o_2 P,
  mainO P s (9 + s.en.length), boot_o_4 P, boot_o_5 P, boot_o_6 P, boot_o_7 P, boot_o_8 P, boot_o_9 P, boot_o_10 P, tuO [], fz s.ln,
  ob "code" (.fields #[.str "<module>" 182, .str "<module>" 183, .str fl 184, ii 1, ii 0, ii 0, ii 0, ii 0, .ref 11, .bool false, ii 181, .ref 12, .none, .none, .none, .none, ii 185, ii 1, .str fl 186]),
  ⟨.type "frame", none, .plain, #[some (.ref 13), some (.ref 3), some (.ref 3), none, some (.str "__main__" 164), none, some (.ref 0)]⟩]
noncomputable def subs (k : Nat) : List Value := match Nat.ble 15 k, Nat.ble 18 k with
  | false, _ => []
  | true, false => [.ref 290]
  | true, true => [.ref 290, .ref 464]
noncomputable def addO : BT → Nat → List Obj → BT
  | t, _, [] => t
  | t, n, o :: r => addO (t.ins n o) (n + 1) r
noncomputable def withSub (l : List Value) (o : Obj) : Obj := match o with
  | ⟨c, d, .cls cd, sl⟩ => ⟨c, d, .cls { cd with subclasses := l }, sl⟩
  | o => o
noncomputable def tr (P : Params) (k : Nat) : BT := match tOs P ts0 (bd.take k) with
  | s => (addO .nil 0 (bootL P k s ++ flat [] s.os)).set 234 (withSub (subs k))
noncomputable def SS (P : Params) (k : Nat) (os : OsState) : SharedT := match tOs P ts0 (bd.take k) with
  | s => ⟨tr P k, s.a, {}, #[], {}, s.t, os⟩
noncomputable def envT : Env := { scope := PySem.Challenge.pw_ok0072_01.main.scope, locals := mainNs, globals := mainNs, cells := [], code := .ref 13, frame := some 14 }
noncomputable def cdT : Code := .body bd envT
noncomputable def posT : Nat → Pos
  | 0 => ⟨0, 0, 0, 0⟩
  | k + 1 => match bd[k]? with
    | some s => s.pos
    | none => default
abbrev Seg (w : World) (os : OsState) (a n st : Nat) : Prop := segRunT treeTable PySem.Challenge.pw_ok0072_01 w 11 (some (.ref 6)) 1 st (SS w.params a os) (piecesOf ((bd.drop a).take n) envT cdT (posT a) [topFrame ⟨0, 0, 0, 0⟩]) = some (.next, SS w.params (a + n) os, cdT, posT (a + n))
/-! ## The pieces -/
theorem seg0 (w : World) (os : OsState) : Seg w os 0 3 590 := by
  unfold Seg
  rw [PySem.W.Fast.te10110043849684766642, PySem.W.Fast.te14364793385576792824]
  kernel_rfl
theorem seg3 (w : World) (os : OsState) : Seg w os 3 6 957 := by
  unfold Seg
  rw [PySem.W.Fast.te10110043849684766642, PySem.W.Fast.te14364793385576792824]
  kernel_rfl
theorem seg9 (w : World) (os : OsState) : Seg w os 9 4 572 := by
  unfold Seg
  rw [PySem.W.Fast.te10110043849684766642, PySem.W.Fast.te14364793385576792824]
  kernel_rfl
theorem seg13 (w : World) (os : OsState) : Seg w os 13 3 810 := by
  unfold Seg
  rw [PySem.W.Fast.te10110043849684766642, PySem.W.Fast.te14364793385576792824]
  kernel_rfl
theorem seg16 (w : World) (os : OsState) : Seg w os 16 2 656 := by
  unfold Seg
  rw [PySem.W.Fast.te10110043849684766642, PySem.W.Fast.te14364793385576792824]
  kernel_rfl
theorem seg18 (w : World) (os : OsState) : Seg w os 18 15 630 := by
  unfold Seg
  rw [PySem.W.Fast.te10110043849684766642, PySem.W.Fast.te14364793385576792824]
  kernel_rfl
theorem seg33 (w : World) (os : OsState) : Seg w os 33 23 527 := by
  unfold Seg
  rw [PySem.W.Fast.te10110043849684766642, PySem.W.Fast.te14364793385576792824]
  kernel_rfl
theorem seg56 (w : World) (os : OsState) : Seg w os 56 20 604 := by
  unfold Seg
  rw [PySem.W.Fast.te10110043849684766642, PySem.W.Fast.te14364793385576792824]
  kernel_rfl
theorem seg76 (w : World) (os : OsState) : Seg w os 76 16 485 := by
  unfold Seg
  rw [PySem.W.Fast.te10110043849684766642, PySem.W.Fast.te14364793385576792824]
  kernel_rfl
theorem seg92 (w : World) (os : OsState) : Seg w os 92 3 541 := by
  unfold Seg
  rw [PySem.W.Fast.te10110043849684766642, PySem.W.Fast.te14364793385576792824]
  kernel_rfl
theorem seg95 (w : World) (os : OsState) : Seg w os 95 4 915 := by
  unfold Seg
  rw [PySem.W.Fast.te10110043849684766642, PySem.W.Fast.te14364793385576792824]
  kernel_rfl
theorem seg99 (w : World) (os : OsState) : Seg w os 99 3 744 := by
  unfold Seg
  rw [PySem.W.Fast.te10110043849684766642, PySem.W.Fast.te14364793385576792824]
  kernel_rfl
theorem seg102 (w : World) (os : OsState) : Seg w os 102 12 361 := by
  unfold Seg
  rw [PySem.W.Fast.te10110043849684766642, PySem.W.Fast.te14364793385576792824]
  kernel_rfl
/-! ## The run -/
noncomputable abbrev HE (P : Params) : Heap := absHeap (tr P 114) 1331 {}
abbrev tF : List Frame := [topFrame ⟨0, 0, 0, 0⟩]
abbrev RunAt (w : World) (os : OsState) (N a : Nat) : Prop := topRun treeTable PySem.Challenge.pw_ok0072_01 w 11 (some (.ref 6)) N (SS w.params a os).abs (restOf (bd.drop a) envT cdT (posT a) tF) = some ⟨HE w.params, #[], {}, 1936, os⟩
theorem pc {w : World} {os : OsState} {a n st N : Nat} (h : Seg w os a n st) (k : RunAt w os N (a + n)) : RunAt w os (st + N) a := by
  have e : bd.drop a = (bd.drop a).take n ++ bd.drop (a + n) := by rw [← List.drop_drop, List.take_append_drop]
  unfold RunAt
  rw [e]
  exact piece_app (segRun_of h) k
theorem runEnd (w : World) (os : OsState) : RunAt w os 2 114 := by
  unfold RunAt
  rw [PySem.W.Fast.te14082659384304107361, PySem.W.Fast.te14364793385576792824]
  kernel_rfl
theorem runAll (w : World) (os : OsState) : ∃ M, M ≤ 16000 ∧ RunAt w os M 0 :=
  ⟨_, by decide, pc (seg0 w os) <| pc (seg3 w os) <| pc (seg9 w os) <| pc (seg13 w os) <| pc (seg16 w os) <| pc (seg18 w os) <| pc (seg33 w os) <| pc (seg56 w os) <| pc (seg76 w os) <| pc (seg92 w os) <| pc (seg95 w os) <| pc (seg99 w os) <| pc (seg102 w os) <| runEnd w os⟩
theorem runBlock (w : World) (os : OsState) : segRun treeTable PySem.Challenge.pw_ok0072_01 w 11 (some (.ref 6)) 1 1 (SS w.params 0 os).abs (blockOf bd envT cdT (posT 0) tF) = some (.next, (SS w.params 0 os).abs, cdT, posT 0) := by
  rw [PySem.W.Fast.te14374325043358763698, PySem.W.Fast.te14364793385576792824]
  kernel_rfl
theorem runPre (w : World) (os : OsState) : topGo treeTable PySem.Challenge.pw_ok0072_01 w 11 (some (.ref 6)) 12 ⟨boot_heap w.params, Array.mk [], boot_drawn, boot_toks, os⟩ (topStub PySem.Challenge.pw_ok0072_01) = some ((SS w.params 0 os).abs, ⟨denote treeTable cdT, cdT, posT 0, tF⟩) := by
  rw [PySem.W.Fast.te15667345088766844465, PySem.W.Fast.te11892475500146522536, PySem.W.Fast.te14364793385576792824]
  kernel_rfl
theorem runIt (w : World) (os : OsState) : ∃ M, M ≤ 16000 ∧ topRun treeTable PySem.Challenge.pw_ok0072_01 w 11 (some (.ref 6)) (12 + (1 + M)) ⟨boot_heap w.params, Array.mk [], boot_drawn, boot_toks, os⟩ (topStub PySem.Challenge.pw_ok0072_01) = some ⟨HE w.params, #[], {}, 1936, os⟩ := by
  obtain ⟨M, h, k⟩ := runAll w os
  exact ⟨M, h, go_top (runPre w os) (piece_block (runBlock w os) k)⟩
/-! ## The looks -/
noncomputable abbrev pg : Program := PySem.Challenge.pw_ok0072_01
noncomputable def qv : Program := { pg with main := { pg.main with body := [(bd[113]?).getD default] } }
noncomputable def lse : List Str := ((bd.take 113).flatMap bindsAtTop).filter fun x => x != ("__name__" : Str)
noncomputable abbrev MO' : List Str := importedModules pg.main.body
noncomputable abbrev SE (w : World) (os : OsState) : Shared := ⟨HE w.params, #[], {}, 1936, os⟩
theorem look1 (w : World) : namesBound pg (HE w.params) = true := by kernel_rfl
theorem look2 (w : World) : laidKept (boot_heap w.params) (HE w.params) = true := by kernel_rfl
theorem look3 (w : World) : staticsOk MO' (boot_heap w.params) (HE w.params) = true := by kernel_rfl
theorem look4 (w : World) (os : OsState) : seen ((recsOf qv).map (·.name)) (ownsOf qv) [] { SE w os with gens := #[] } = expectedOf qv := by kernel_rfl
theorem look5 (w : World) : (HE w.params).bltView = bltViewBooted := by kernel_rfl
theorem look6 (w : World) : (HE w.params).keysOk (looseW qv lse) ((recsOf qv).map (·.name)) ((litsOf qv).map (·.1)) ((clssOf qv (looseW qv lse)).map (·.name)) = true := by kernel_rfl
theorem look7 (w : World) : (HE w.params).accountedOkI MO' = true := by kernel_rfl
theorem look8 (w : World) : ((HE w.params).isNs mainGlobals && (HE w.params).isNs builtinsNs && tablesOk qv (HE w.params)) = true := by kernel_rfl
theorem look9 (w : World) (os : OsState) : tabsOk qv (SE w os) = true := by kernel_rfl
theorem lookA (w : World) (os : OsState) : pinSeenD qv (drecsOf qv) (SE w os) = pinGoodD (drecsOf qv) := by kernel_rfl
theorem lookB (w : World) (os : OsState) : plainSeenE qv (looseW qv lse) (SE w os) = plainGoodE qv (looseW qv lse) := by kernel_rfl
theorem lookC (w : World) (os : OsState) : plainSeenD qv lse (SE w os) = plainGoodD qv lse := by kernel_rfl
theorem lookD (w : World) (os : OsState) : wideSeen qv (SE w os) = wideGood qv := by kernel_rfl
theorem lookE (w : World) (os : OsState) : clsSeenW qv lse (SE w os) = clsGoodW qv lse := by kernel_rfl
open Mine
noncomputable def fragT (P : Params) : Frag := kAddrs.filterMap fun a => ((tr P 114).get a).map fun o => (a, o)
def notFreed (o : Obj) : Bool := match o.data with
  | .freed => false
  | _ => true
theorem lookF (w : World) : (chk (fragT w.params), (fragT w.params).all fun p => notFreed p.2) = (good, true) := by kernel_rfl
theorem lookG : (kAddrs.all fun a => Nat.blt a 1331) = true := by kernel_rfl
theorem lookup_fm {f : Nat → Option Obj} : ∀ {l : List Nat} {a : Nat} {o : Obj}, (l.filterMap fun a => (f a).map fun o => (a, o)).lookup a = some o → f a = some o ∧ a ∈ l
  | [], a, o, e => by cases e
  | b :: r, a, o, e => by
    rw [List.filterMap_cons] at e
    cases q : f b with
    | none => rw [q] at e; exact ⟨(lookup_fm e).1, .tail _ (lookup_fm e).2⟩
    | some x =>
      rw [q] at e
      rw [Option.map_some, List.lookup_cons] at e
      cases z : a == b with
      | true => rw [z] at e; cases e; rw [beq_iff_eq.mp z]; exact ⟨q, .head _⟩
      | false => rw [z] at e; exact ⟨(lookup_fm e).1, .tail _ (lookup_fm e).2⟩
theorem mem_lookup {l : List (Nat × Obj)} {a : Nat} {o : Obj} (e : l.lookup a = some o) : (a, o) ∈ l := by
  induction l with
  | nil => cases e
  | cons p r ih =>
    rw [List.lookup_cons] at e
    cases z : a == p.1 with
    | true => rw [z] at e; cases e; rw [beq_iff_eq.mp z]; exact .head _
    | false => rw [z] at e; exact .tail _ (ih e)
theorem fragT_in (w : World) : (fragT w.params).In (HE w.params) := fun a o e => by
  obtain ⟨h1, h2⟩ := lookup_fm (f := (tr w.params 114).get) e
  have lt : a < 1331 := Nat.le_of_ble_eq_true (List.all_eq_true.mp lookG a h2)
  have nf := List.all_eq_true.mp (Prod.mk.inj (lookF w)).2 _ (mem_lookup e)
  refine (abs_get lt h1).trans ?_
  obtain ⟨c, d, dt, sl⟩ := o
  cases dt <;> first | rfl | cases nf
theorem saysT (w : World) (s : Shared) (e : s.heap = HE w.params) : hook.says w s.heap := ⟨fragT w.params, e ▸ fragT_in w, (Prod.mk.inj (lookF w)).1⟩
/-! ## The head -/
theorem fenceT (s : Shared) : fenceModules? pg s = some s := by kernel_rfl
theorem seenT (w : World) (os : OsState) : openSeen qv lse MO' (fun _ => true) true (SE w os) = openGood qv lse := by
  have l8 := look8 w
  rw [Bool.and_eq_true, Bool.and_eq_true] at l8
  unfold openSeen openGood
  rw [look4, look5, look6, look7, look9, lookA, lookB, lookC, lookD, lookE, l8.1.1, l8.1.2, l8.2]
  rfl
theorem leftT : LeftO pg qv lse (fun _ => true) (fun s => s.heap) (fun w => HE w.params) 16884 := by
  intro w
  obtain ⟨⟨h, gs, d, k, os⟩, e, e'⟩ := Option.map_eq_some_iff.mp (boot_open (p := pg) (N := 16884) (by kernel_rfl) (by decide) fenceT w)
  obtain ⟨rfl, rfl, rfl, rfl⟩ : h = boot_heap w.params ∧ gs = Array.mk [] ∧ d = boot_drawn ∧ k = boot_toks := by simpa using e'
  obtain ⟨M, hM, r⟩ := runIt w os
  have r := topRun_mono (16884 - (12 + (1 + M))) _ _ _ _ r
  rw [Nat.add_sub_cancel' (by omega)] at r
  have z : (boot_heap w.params).isNs mainGlobals && (Array.mk [] : Array GenState).size == 0 := by kernel_rfl
  have t : topFrom treeTable pg w 16884 ⟨boot_heap w.params, Array.mk [], boot_drawn, boot_toks, os⟩ = some (SE w os) := by
    unfold topFrom
    dsimp only
    rw [z, show (boot_heap w.params).objs.size = 11 from rfl, show (boot_heap w.params).nsMap mainGlobals "__annotations__" = some (.ref 6) from by kernel_rfl, r]
    show (match staticsOk MO' (boot_heap w.params) (HE w.params) && namesBound pg (HE w.params) && gensDone (SE w os) && laidKept (boot_heap w.params) (HE w.params) with | true => _ | false => _) = _
    rw [look1, look2, look3, show gensDone (SE w os) = true from rfl]
    rfl
  unfold openEnds
  rw [e, Option.bind_some, t, Option.map_some]
  exact congrArg (fun z => some (z, HE w.params)) (seenT w os)
/-! ## What the law says of itself -/
theorem lk_ok : ({ strict := !(importedModules Challenge.rw_ok0072_01.row.prog.main.body).all cThrough.contains, foot := none, bare := List.filter (readsOut Challenge.rw_ok0072_01.row.prog Challenge.rw_ok0072_01.row.prog.main.body) [Str.ofString "vars", Str.ofString "dir", Str.ofString "locals"] } : Look) = { strict := false, foot := none, bare := [] } := by kernel_rfl
theorem nr_ok : noRoadLSs { strict := false, foot := none, bare := [] } Challenge.rw_ok0072_01.row.prog.main.body = true := by kernel_rfl
theorem ln1 : (namesMeet Challenge.rw_ok0072_01.row.prog Challenge.rw_ok0072_01.row.prog.main.body fun _ n => attrL n) = true := by kernel_rfl
theorem ln2 : (Challenge.rw_ok0072_01.bound'.all fun n => !builtinNamed n || Challenge.rw_ok0072_01.about == [n] || !Challenge.rw_ok0072_01.reads n) = true := by kernel_rfl
theorem ln3 : (namesMeet Challenge.rw_ok0072_01.prog Challenge.rw_ok0072_01.above fun _ n => !Challenge.rw_ok0072_01.own.contains n) = true := by kernel_rfl
theorem ln4 : namesResolve Challenge.rw_ok0072_01.row.prog = true := by kernel_rfl
theorem law_ok : PySem.Challenge.rw_ok0072_01.wellSaid = true := by
  unfold OpenLaw.wellSaid
  repeat' (with_reducible refine look_both ?_ ?_)
  all_goals try unfold OpenRow.wellSaid
  all_goals repeat' (with_reducible refine look_both ?_ ?_)
  all_goals try unfold OpenRow.partSaid
  all_goals repeat' (with_reducible refine look_both ?_ ?_)
  all_goals try unfold looksOpen
  all_goals repeat' (with_reducible refine look_both ?_ ?_)
  rotate_left 4
  · exact (congrArg (fun k => noRoadLSs k Challenge.rw_ok0072_01.row.prog.main.body) lk_ok).trans nr_ok
  all_goals with_reducible first | exact ln1 | exact ln2 | exact ln3 | exact ln4 | skip
  all_goals kernel_rfl
end MineH
set_option maxRecDepth 100000 in
set_option maxHeartbeats 80000000 in
theorem PySem.Challenge.cw_ok0072_01_holds : PySem.Challenge.rw_ok0072_01.Holds := by
  w_on
  refine holds_law MineH.law_ok fun said => ?_
  refine holds_open (q := MineH.qv) (loose := MineH.lse) (Xt := fun _ => true) (XP := fun _ _ => True) (Yf := fun s => s.heap) (Ya := fun w => MineH.HE w.params) (YP := Mine.hook.says) (N := 16884) MineH.leftT (fun w s e => MineH.saysT w s e) (Hook.keeps Mine.hook) (fun _ _ => trivial) (fun _ _ _ _ _ => trivial) (by rfl) (by rfl) (by rfl) (fun s e => recFacts_of (by rfl)) (by rfl) (by first | assumption | decide +kernel) (by decide +kernel) ⟨rfl, rfl, rfl, rfl, rfl, by decide +kernel⟩ ?hw (Mine.join rfl)
  (case hw => w_witness2)
