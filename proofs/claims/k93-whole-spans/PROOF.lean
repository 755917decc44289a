import PyProof.Rows.All
import Wide.All
import OpenK.AllK
import Wide.FinOn
import HandS.ForMost
import PySem.Challenge.RW_beamrows_k93_whole_spans_and_runs
import KE.KStateDown
import HandS.ForExc
import HandS.Defaults
import HandS.Head0
import HandS.Head1
import HandS.Head2
import HandS.HeadEnd
import HandS.HeadHook1
import HandS.HeadHook2
import HandS.Conv
import HandS.TupAny
import HandS.TupMul
import HandS.TupSets
import HandS.SortInts
import HandS.Rev
import HandS.Zip
import HandS.Walk
import HandS.Evl
import HandS.Steps
import HandS.ExcOwn
import HandS.TryOnly
import KE.GoesEnum
set_option Elab.async false
set_option linter.all false
set_option maxRecDepth 100000
namespace Bm
open PySem PySem.Spec PyProof.Rows L2
/-! ### the text by places -/
def top (i : Nat) : Stmt := PySem.Challenge.pw_beamrows_k93_whole_spans_and_runs.main.body.getD i (.Pass ⟨0, 0, 0, 0⟩)
abbrev s_kind : Stmt := top 12
abbrev s_byte_count : Stmt := top 13
abbrev s_beat_count : Stmt := top 14
abbrev s_is_table : Stmt := top 16
abbrev s_row_of : Stmt := top 17
abbrev s_long_of : Stmt := top 22
abbrev s_want_room : Stmt := top 23
abbrev s_addresses : Stmt := top 24
abbrev s_is_crossed : Stmt := top 25
abbrev s_page_sign : Stmt := top 26
abbrev s_page_signs : Stmt := top 27
abbrev s_more_parts : Stmt := top 31
abbrev s_less_parts : Stmt := top 32
abbrev s_x_behind : Stmt := top 33
abbrev s_x_where : Stmt := top 34
abbrev s_x_gone : Stmt := top 35
abbrev s_if_comes : Stmt := top 36
abbrev s_comes_of : Stmt := top 37
abbrev s_is_wait : Stmt := top 42
abbrev s_steps_of : Stmt := top 43
abbrev s_all_steps : Stmt := top 44
abbrev s_are_ends : Stmt := top 45
abbrev s_Seeker_init : Stmt := inClass (top 47) 0
abbrev s_Seeker_behind : Stmt := inClass (top 47) 1
abbrev s_Seeker_met_from : Stmt := inClass (top 47) 2
abbrev s_Seeker_way : Stmt := inClass (top 47) 3
abbrev s_Seeker_least : Stmt := inClass (top 47) 4
abbrev s_Seeker_most : Stmt := inClass (top 47) 5
abbrev s_Seeker_in_order : Stmt := inClass (top 47) 6
abbrev s_Seeker_round_of : Stmt := inClass (top 47) 7
abbrev s_Seeker_turning : Stmt := inClass (top 47) 8
abbrev s_shortened : Stmt := top 48
abbrev s_way_back : Stmt := top 49
abbrev s_low_paper : Stmt := top 50
abbrev s_round_paper : Stmt := top 51
abbrev s_high_paper : Stmt := top 52
abbrev s_span : Stmt := top 53
abbrev s_column_bit : Stmt := top 60
abbrev s_thing_shows : Stmt := top 61
abbrev s_ball_shows : Stmt := top 62
abbrev s_shows : Stmt := top 63
abbrev s_wall_colour : Stmt := top 64
abbrev s_colour : Stmt := top 65
abbrev s_meetings : Stmt := top 66
abbrev s_start : Stmt := top 70
abbrev s_with_door : Stmt := top 75
abbrev s_drawn_in : Stmt := top 76
abbrev s_Registers_init : Stmt := inClass (top 80) 0
abbrev s_Registers_set_a : Stmt := inClass (top 80) 1
abbrev s_Registers_set_x : Stmt := inClass (top 80) 2
abbrev s_Registers_store : Stmt := inClass (top 80) 3
abbrev s_Registers_do_byte : Stmt := inClass (top 80) 4
abbrev s_Registers_do_sum : Stmt := inClass (top 80) 5
abbrev s_Registers_do_bits : Stmt := inClass (top 80) 6
abbrev s_Registers_do_store : Stmt := inClass (top 80) 7
abbrev s_Registers_do_memory : Stmt := inClass (top 80) 8
abbrev s_Registers_do_plain : Stmt := inClass (top 80) 9
abbrev s_Registers_goes : Stmt := inClass (top 80) 10
abbrev s_table_byte : Stmt := top 81
abbrev s_way_sign : Stmt := top 82
abbrev s_at_sign : Stmt := top 83
abbrev s_beats_of : Stmt := top 84
abbrev s_deed_done : Stmt := top 85
abbrev s_Playing_init : Stmt := inClass (top 92) 0
abbrev s_Playing_line_beat : Stmt := inClass (top 92) 1
abbrev s_Playing_draw : Stmt := inClass (top 92) 2
abbrev s_Playing_end_beat : Stmt := inClass (top 92) 3
abbrev s_Playing_next_beat : Stmt := inClass (top 92) 4
abbrev s_Playing_pass_beats : Stmt := inClass (top 92) 5
abbrev s_Playing_pass_line : Stmt := inClass (top 92) 6
abbrev s_Playing_eye : Stmt := inClass (top 92) 7
abbrev s_Playing_write : Stmt := inClass (top 92) 8
abbrev s_Playing_do_row : Stmt := inClass (top 92) 9
abbrev s_Playing_wait_on : Stmt := inClass (top 92) 10
abbrev s_Playing_play : Stmt := inClass (top 92) 11
abbrev s_Playing_picture : Stmt := inClass (top 92) 12
abbrev s_Playing_log : Stmt := inClass (top 92) 13
abbrev s_Playing_state : Stmt := inClass (top 92) 14
abbrev s_frame : Stmt := top 93
abbrev s_hands_of : Stmt := top 96
abbrev s_run : Stmt := top 97
abbrev s_l_mixed : Stmt := top 99
abbrev s_l_deck : Stmt := top 100
abbrev s_l_next : Stmt := top 101
abbrev s_l_deeds : Stmt := top 102
abbrev s_l_most : Stmt := top 103
abbrev s_l_long : Stmt := top 104
abbrev s_l_beats : Stmt := top 105
abbrev s_l_name : Stmt := top 106
abbrev s_l_value : Stmt := top 107
abbrev s_l_straight : Stmt := top 108
abbrev s_l_block : Stmt := top 109
abbrev s_l_running : Stmt := top 110
abbrev s_l_tale : Stmt := top 111
abbrev s_l_places : Stmt := top 112
abbrev s_l_whole_long : Stmt := top 113
abbrev s_l_end : Stmt := top 114
abbrev s_l_base : Stmt := top 115
abbrev s_l_steps : Stmt := top 116
abbrev s_l_sum : Stmt := top 117
abbrev s_l_is_way : Stmt := top 118
abbrev s_l_begun : Stmt := top 119
abbrev s_l_behind_one : Stmt := top 120
abbrev s_l_holds : Stmt := top 121
abbrev s_l_turning : Stmt := top 122
abbrev s_law : Stmt := top 123
end Bm
set_option Elab.async false
set_option linter.all false
set_option maxRecDepth 100000
set_option maxHeartbeats 0
namespace Bm
open PySem PySem.Spec PyProof.Rows L2
/-! ### facts of the top, by literal addresses -/
structure DefA where
  a : Addr
  name : Str
  qual : Str
  params : Arguments
  body : List Stmt
  scope : Scope
def DefA.val (d : DefA) : He.FnW := some (d.name, d.qual, d.params, .stmts d.body, d.scope, mainGlobals, [], builtinsNs)
def fnA (K : PySem.W.Frag) (a : Addr) : He.FnW := match K.lookup a with
  | some ⟨_, _, .func fd, _⟩ => some (fd.name, fd.qualname, fd.params, fd.body, fd.scope, fd.globals, fd.closure, fd.builtins)
  | _ => none
def noDfl : Value → Bool
  | .none => true
  | _ => false
theorem noDfl_ok {v : Value} (h : noDfl v = true) : v = .none := by
  cases v with
  | none => rfl
  | _ => cases h
def DefA.ok (K : PySem.W.Frag) (d : DefA) : Bool := PySem.W.keepIn K (.ref d.a) && (match K.lookup d.a with
  | some ⟨_, _, .func fd, _⟩ => PySem.W.codeIn K fd.code d.qual && noDfl fd.defaults
  | _ => false)
theorem DefA.fun_ {K : PySem.W.Frag} {d : DefA} (e : fnA K d.a = d.val) (c : d.ok K = true) : ∃ fd, FunD K d.name d.qual d.params d.body d.scope [] [] d.a fd := by
  obtain ⟨kp, c2⟩ := He.ba c
  unfold fnA at e
  cases q : K.lookup d.a with
  | none =>
    rw [q] at c2
    cases c2
  | some o =>
    obtain ⟨oc, od, dt, osl⟩ := o
    rw [q] at c2 e
    cases dt with
    | func fd =>
      obtain ⟨n1, n2, n3, n4, n5, n6, n7, n8, n9, n10, n11, n12, n13, n14, n15⟩ := fd
      have e2 : (some (n1, n2, n3, n4, n5, n6, n7, n15) : He.FnW) = some (d.name, d.qual, d.params, .stmts d.body, d.scope, mainGlobals, [], builtinsNs) := e
      simp only [Option.some.injEq, Prod.mk.injEq] at e2
      obtain ⟨h1, h2, h3, h4, h5, h6, h7, h8⟩ := e2
      subst h1 h2 h3 h4 h5 h6 h7 h8
      obtain ⟨k1, k2⟩ := He.ba (show (PySem.W.codeIn K n13 d.qual && noDfl n8) = true from c2)
      have e8 : n8 = .none := noDfl_ok k2
      subst e8
      exact ⟨_, ⟨oc, od, .none, n9, n10, n11, n12, n13, n14, osl, rfl, q, k1, .inl ⟨rfl, rfl⟩, .inl rfl⟩, kp⟩
    | _ => cases c2
def glB (K : PySem.W.Frag) (q : Str × Addr) : Bool := He.eqO (PySem.W.nsIn K mainGlobals q.1) (some (some (.ref q.2)))
def giB (K : PySem.W.Frag) (q : Str × Int) : Bool := match PySem.W.nsIn K mainGlobals q.1 with
  | some (some (.int j _)) => decide (j = q.2)
  | _ => false
def gfB (K : PySem.W.Frag) (x : Str) : Bool := He.eqO (PySem.W.nsIn K mainGlobals x) (some none)
def meB (K : PySem.W.Frag) (q : Addr × Str × Addr) : Bool := He.eqO (PySem.W.findIn K (.ref q.1) q.2.1) (some (some (.ref q.2.2))) && (PySem.W.isFn K (.ref q.2.2) && PySem.W.keepIn K (.ref q.2.2))
def naB (K : PySem.W.Frag) (q : Addr × Str) : Bool := He.eqO (PySem.W.findIn K (.ref q.1) q.2) (some none)
def clB (K : PySem.W.Frag) (q : Addr × Addr) : Bool := PySem.W.plainGet K q.1 Str.empty && (PySem.W.hasDictIn K q.1 && (PySem.W.plainOver K q.1 && (He.eqO (PySem.W.findIn K (.ref q.1) "__setattr__") (some (some (.builtin "object.__setattr__"))) &&
  (PySem.W.makesIn K q.1 && (He.eqO (PySem.W.findIn K (.ref q.1) "__init__") (some (some (.ref q.2))) && (PySem.W.isFn K (.ref q.2) && PySem.W.keepIn K (.ref q.1)))))))
def tpB (K : PySem.W.Frag) (q : Addr × List V) : Bool := match K.lookup q.1 with
  | some ⟨.type c, _, .seq its _, _⟩ => decide (c = "tuple") && (decide (its.size ≤ sizeLine) && He.relAll q.2 its.toList)
  | _ => false
def exB (K : PySem.W.Frag) (C : Addr) : Bool := PySem.W.excIn K C He.veBase "ValueError.__new__" && (PySem.W.keepIn K (.ref C) && (decide (PySem.W.subIn K (.ref C) (.type "BaseException") = some true) && (decide (PySem.W.typeIn K (.ref C) = some (.type "type")) &&
  decide (PySem.W.exmOne K (.ref C) (.ref C) = some true))))
def asL0 : List Addr := [3, 64, 65, 66, 67, 68, 69, 103, 140, 321, 640, 24, 37, 49, 61, 276, 478, 628, 23, 36, 48, 60, 275, 477, 627, 76, 75, 83, 82, 90, 89, 97, 96, 102, 101, 108, 107, 115, 114, 122]
def asL1 : List Addr := [121, 129, 128, 134, 133, 139, 138, 147, 146, 154, 153, 159, 158, 166, 165, 173, 172, 180, 179, 185, 184, 192, 191, 199, 198, 204, 203, 209, 208, 221, 220, 226, 225, 233, 232, 240, 239, 247, 246, 254]
def asL2 : List Addr := [253, 259, 258, 266, 265, 273, 272, 287, 286, 294, 293, 299, 298, 306, 305, 313, 312, 320, 319, 328, 327, 335, 334, 342, 341, 349, 348, 356, 355, 363, 362, 370, 369, 377, 376, 384, 383, 391, 390, 405]
def asL3 : List Addr := [404, 412, 411, 419, 418, 426, 425, 433, 432, 440, 439, 447, 446, 454, 453, 461, 460, 468, 467, 475, 474, 489, 488, 496, 495, 503, 502, 510, 509, 517, 516, 531, 530, 538, 537, 545, 544, 552, 551, 559]
def asL4 : List Addr := [558, 566, 565, 573, 572, 580, 579, 587, 586, 594, 593, 601, 600, 608, 607, 613, 612, 618, 617, 625, 624, 639, 638, 647, 646, 654, 653, 661, 660, 666, 665, 673, 672, 680, 679, 687, 686, 694, 693, 701]
def asL5 : List Addr := [700, 708, 707, 715, 714, 722, 721, 729, 728, 736, 735, 741, 740, 748, 747, 753, 752, 758, 757, 765, 764, 772, 771, 777, 776, 782, 781, 789, 788, 796, 795, 803, 802, 810, 809, 815, 814]
def asL : List Addr := asL0 ++ asL1 ++ asL2 ++ asL3 ++ asL4 ++ asL5
def d_kind : DefA := ⟨76, "kind", "kind", defArgs s_kind, defBody s_kind, defScope s_kind⟩
def d_byte_count : DefA := ⟨83, "byte_count", "byte_count", defArgs s_byte_count, defBody s_byte_count, defScope s_byte_count⟩
def d_beat_count : DefA := ⟨90, "beat_count", "beat_count", defArgs s_beat_count, defBody s_beat_count, defScope s_beat_count⟩
def d_is_table : DefA := ⟨97, "is_table", "is_table", defArgs s_is_table, defBody s_is_table, defScope s_is_table⟩
def d_row_of : DefA := ⟨102, "row_of", "row_of", defArgs s_row_of, defBody s_row_of, defScope s_row_of⟩
def d_long_of : DefA := ⟨108, "long_of", "long_of", defArgs s_long_of, defBody s_long_of, defScope s_long_of⟩
def d_want_room : DefA := ⟨115, "want_room", "want_room", defArgs s_want_room, defBody s_want_room, defScope s_want_room⟩
def d_addresses : DefA := ⟨122, "addresses", "addresses", defArgs s_addresses, defBody s_addresses, defScope s_addresses⟩
def d_is_crossed : DefA := ⟨129, "is_crossed", "is_crossed", defArgs s_is_crossed, defBody s_is_crossed, defScope s_is_crossed⟩
def d_page_sign : DefA := ⟨134, "page_sign", "page_sign", defArgs s_page_sign, defBody s_page_sign, defScope s_page_sign⟩
def d_page_signs : DefA := ⟨139, "page_signs", "page_signs", defArgs s_page_signs, defBody s_page_signs, defScope s_page_signs⟩
def d_more_parts : DefA := ⟨147, "more_parts", "more_parts", defArgs s_more_parts, defBody s_more_parts, defScope s_more_parts⟩
def d_less_parts : DefA := ⟨154, "less_parts", "less_parts", defArgs s_less_parts, defBody s_less_parts, defScope s_less_parts⟩
def d_x_behind : DefA := ⟨159, "x_behind", "x_behind", defArgs s_x_behind, defBody s_x_behind, defScope s_x_behind⟩
def d_x_where : DefA := ⟨166, "x_where", "x_where", defArgs s_x_where, defBody s_x_where, defScope s_x_where⟩
def d_x_gone : DefA := ⟨173, "x_gone", "x_gone", defArgs s_x_gone, defBody s_x_gone, defScope s_x_gone⟩
def d_if_comes : DefA := ⟨180, "if_comes", "if_comes", defArgs s_if_comes, defBody s_if_comes, defScope s_if_comes⟩
def d_comes_of : DefA := ⟨185, "comes_of", "comes_of", defArgs s_comes_of, defBody s_comes_of, defScope s_comes_of⟩
def d_is_wait : DefA := ⟨192, "is_wait", "is_wait", defArgs s_is_wait, defBody s_is_wait, defScope s_is_wait⟩
def d_steps_of : DefA := ⟨199, "steps_of", "steps_of", defArgs s_steps_of, defBody s_steps_of, defScope s_steps_of⟩
def d_all_steps : DefA := ⟨204, "all_steps", "all_steps", defArgs s_all_steps, defBody s_all_steps, defScope s_all_steps⟩
def d_are_ends : DefA := ⟨209, "are_ends", "are_ends", defArgs s_are_ends, defBody s_are_ends, defScope s_are_ends⟩
def d_Seeker_init : DefA := ⟨221, "__init__", "Seeker.__init__", defArgs s_Seeker_init, defBody s_Seeker_init, defScope s_Seeker_init⟩
def d_Seeker_behind : DefA := ⟨226, "behind", "Seeker.behind", defArgs s_Seeker_behind, defBody s_Seeker_behind, defScope s_Seeker_behind⟩
def d_Seeker_met_from : DefA := ⟨233, "met_from", "Seeker.met_from", defArgs s_Seeker_met_from, defBody s_Seeker_met_from, defScope s_Seeker_met_from⟩
def d_Seeker_way : DefA := ⟨240, "way", "Seeker.way", defArgs s_Seeker_way, defBody s_Seeker_way, defScope s_Seeker_way⟩
def d_Seeker_least : DefA := ⟨247, "least", "Seeker.least", defArgs s_Seeker_least, defBody s_Seeker_least, defScope s_Seeker_least⟩
def d_Seeker_most : DefA := ⟨254, "most", "Seeker.most", defArgs s_Seeker_most, defBody s_Seeker_most, defScope s_Seeker_most⟩
def d_Seeker_in_order : DefA := ⟨259, "in_order", "Seeker.in_order", defArgs s_Seeker_in_order, defBody s_Seeker_in_order, defScope s_Seeker_in_order⟩
def d_Seeker_round_of : DefA := ⟨266, "round_of", "Seeker.round_of", defArgs s_Seeker_round_of, defBody s_Seeker_round_of, defScope s_Seeker_round_of⟩
def d_Seeker_turning : DefA := ⟨273, "turning", "Seeker.turning", defArgs s_Seeker_turning, defBody s_Seeker_turning, defScope s_Seeker_turning⟩
def d_shortened : DefA := ⟨287, "shortened", "shortened", defArgs s_shortened, defBody s_shortened, defScope s_shortened⟩
def d_way_back : DefA := ⟨294, "way_back", "way_back", defArgs s_way_back, defBody s_way_back, defScope s_way_back⟩
def d_low_paper : DefA := ⟨299, "low_paper", "low_paper", defArgs s_low_paper, defBody s_low_paper, defScope s_low_paper⟩
def d_round_paper : DefA := ⟨306, "round_paper", "round_paper", defArgs s_round_paper, defBody s_round_paper, defScope s_round_paper⟩
def d_high_paper : DefA := ⟨313, "high_paper", "high_paper", defArgs s_high_paper, defBody s_high_paper, defScope s_high_paper⟩
def d_span : DefA := ⟨320, "span", "span", defArgs s_span, defBody s_span, defScope s_span⟩
def d_column_bit : DefA := ⟨328, "column_bit", "column_bit", defArgs s_column_bit, defBody s_column_bit, defScope s_column_bit⟩
def d_thing_shows : DefA := ⟨335, "thing_shows", "thing_shows", defArgs s_thing_shows, defBody s_thing_shows, defScope s_thing_shows⟩
def d_ball_shows : DefA := ⟨342, "ball_shows", "ball_shows", defArgs s_ball_shows, defBody s_ball_shows, defScope s_ball_shows⟩
def d_shows : DefA := ⟨349, "shows", "shows", defArgs s_shows, defBody s_shows, defScope s_shows⟩
def d_wall_colour : DefA := ⟨356, "wall_colour", "wall_colour", defArgs s_wall_colour, defBody s_wall_colour, defScope s_wall_colour⟩
def d_colour : DefA := ⟨363, "colour", "colour", defArgs s_colour, defBody s_colour, defScope s_colour⟩
def d_meetings : DefA := ⟨370, "meetings", "meetings", defArgs s_meetings, defBody s_meetings, defScope s_meetings⟩
def d_start : DefA := ⟨377, "start", "start", defArgs s_start, defBody s_start, defScope s_start⟩
def d_with_door : DefA := ⟨384, "with_door", "with_door", defArgs s_with_door, defBody s_with_door, defScope s_with_door⟩
def d_drawn_in : DefA := ⟨391, "drawn_in", "drawn_in", defArgs s_drawn_in, defBody s_drawn_in, defScope s_drawn_in⟩
def d_Registers_init : DefA := ⟨405, "__init__", "Registers.__init__", defArgs s_Registers_init, defBody s_Registers_init, defScope s_Registers_init⟩
def d_Registers_set_a : DefA := ⟨412, "set_a", "Registers.set_a", defArgs s_Registers_set_a, defBody s_Registers_set_a, defScope s_Registers_set_a⟩
def d_Registers_set_x : DefA := ⟨419, "set_x", "Registers.set_x", defArgs s_Registers_set_x, defBody s_Registers_set_x, defScope s_Registers_set_x⟩
def d_Registers_store : DefA := ⟨426, "store", "Registers.store", defArgs s_Registers_store, defBody s_Registers_store, defScope s_Registers_store⟩
def d_Registers_do_byte : DefA := ⟨433, "do_byte", "Registers.do_byte", defArgs s_Registers_do_byte, defBody s_Registers_do_byte, defScope s_Registers_do_byte⟩
def d_Registers_do_sum : DefA := ⟨440, "do_sum", "Registers.do_sum", defArgs s_Registers_do_sum, defBody s_Registers_do_sum, defScope s_Registers_do_sum⟩
def d_Registers_do_bits : DefA := ⟨447, "do_bits", "Registers.do_bits", defArgs s_Registers_do_bits, defBody s_Registers_do_bits, defScope s_Registers_do_bits⟩
def d_Registers_do_store : DefA := ⟨454, "do_store", "Registers.do_store", defArgs s_Registers_do_store, defBody s_Registers_do_store, defScope s_Registers_do_store⟩
def d_Registers_do_memory : DefA := ⟨461, "do_memory", "Registers.do_memory", defArgs s_Registers_do_memory, defBody s_Registers_do_memory, defScope s_Registers_do_memory⟩
def d_Registers_do_plain : DefA := ⟨468, "do_plain", "Registers.do_plain", defArgs s_Registers_do_plain, defBody s_Registers_do_plain, defScope s_Registers_do_plain⟩
def d_Registers_goes : DefA := ⟨475, "goes", "Registers.goes", defArgs s_Registers_goes, defBody s_Registers_goes, defScope s_Registers_goes⟩
def d_table_byte : DefA := ⟨489, "table_byte", "table_byte", defArgs s_table_byte, defBody s_table_byte, defScope s_table_byte⟩
def d_way_sign : DefA := ⟨496, "way_sign", "way_sign", defArgs s_way_sign, defBody s_way_sign, defScope s_way_sign⟩
def d_at_sign : DefA := ⟨503, "at_sign", "at_sign", defArgs s_at_sign, defBody s_at_sign, defScope s_at_sign⟩
def d_beats_of : DefA := ⟨510, "beats_of", "beats_of", defArgs s_beats_of, defBody s_beats_of, defScope s_beats_of⟩
def d_deed_done : DefA := ⟨517, "deed_done", "deed_done", defArgs s_deed_done, defBody s_deed_done, defScope s_deed_done⟩
def d_Playing_init : DefA := ⟨531, "__init__", "Playing.__init__", defArgs s_Playing_init, defBody s_Playing_init, defScope s_Playing_init⟩
def d_Playing_line_beat : DefA := ⟨538, "line_beat", "Playing.line_beat", defArgs s_Playing_line_beat, defBody s_Playing_line_beat, defScope s_Playing_line_beat⟩
def d_Playing_draw : DefA := ⟨545, "draw", "Playing.draw", defArgs s_Playing_draw, defBody s_Playing_draw, defScope s_Playing_draw⟩
def d_Playing_end_beat : DefA := ⟨552, "end_beat", "Playing.end_beat", defArgs s_Playing_end_beat, defBody s_Playing_end_beat, defScope s_Playing_end_beat⟩
def d_Playing_next_beat : DefA := ⟨559, "next_beat", "Playing.next_beat", defArgs s_Playing_next_beat, defBody s_Playing_next_beat, defScope s_Playing_next_beat⟩
def d_Playing_pass_beats : DefA := ⟨566, "pass_beats", "Playing.pass_beats", defArgs s_Playing_pass_beats, defBody s_Playing_pass_beats, defScope s_Playing_pass_beats⟩
def d_Playing_pass_line : DefA := ⟨573, "pass_line", "Playing.pass_line", defArgs s_Playing_pass_line, defBody s_Playing_pass_line, defScope s_Playing_pass_line⟩
def d_Playing_eye : DefA := ⟨580, "eye", "Playing.eye", defArgs s_Playing_eye, defBody s_Playing_eye, defScope s_Playing_eye⟩
def d_Playing_write : DefA := ⟨587, "write", "Playing.write", defArgs s_Playing_write, defBody s_Playing_write, defScope s_Playing_write⟩
def d_Playing_do_row : DefA := ⟨594, "do_row", "Playing.do_row", defArgs s_Playing_do_row, defBody s_Playing_do_row, defScope s_Playing_do_row⟩
def d_Playing_wait_on : DefA := ⟨601, "wait_on", "Playing.wait_on", defArgs s_Playing_wait_on, defBody s_Playing_wait_on, defScope s_Playing_wait_on⟩
def d_Playing_play : DefA := ⟨608, "play", "Playing.play", defArgs s_Playing_play, defBody s_Playing_play, defScope s_Playing_play⟩
def d_Playing_picture : DefA := ⟨613, "picture", "Playing.picture", defArgs s_Playing_picture, defBody s_Playing_picture, defScope s_Playing_picture⟩
def d_Playing_log : DefA := ⟨618, "log", "Playing.log", defArgs s_Playing_log, defBody s_Playing_log, defScope s_Playing_log⟩
def d_Playing_state : DefA := ⟨625, "state", "Playing.state", defArgs s_Playing_state, defBody s_Playing_state, defScope s_Playing_state⟩
def d_frame : DefA := ⟨639, "frame", "frame", defArgs s_frame, defBody s_frame, defScope s_frame⟩
def d_hands_of : DefA := ⟨647, "hands_of", "hands_of", defArgs s_hands_of, defBody s_hands_of, defScope s_hands_of⟩
def d_run : DefA := ⟨654, "run", "run", defArgs s_run, defBody s_run, defScope s_run⟩
def d_l_mixed : DefA := ⟨661, "_law_mixed", "_law_mixed", defArgs s_l_mixed, defBody s_l_mixed, defScope s_l_mixed⟩
def d_l_deck : DefA := ⟨666, "_law_deck", "_law_deck", defArgs s_l_deck, defBody s_l_deck, defScope s_l_deck⟩
def d_l_next : DefA := ⟨673, "_law_next", "_law_next", defArgs s_l_next, defBody s_l_next, defScope s_l_next⟩
def d_l_deeds : DefA := ⟨680, "_law_deeds", "_law_deeds", defArgs s_l_deeds, defBody s_l_deeds, defScope s_l_deeds⟩
def d_l_most : DefA := ⟨687, "_law_most", "_law_most", defArgs s_l_most, defBody s_l_most, defScope s_l_most⟩
def d_l_long : DefA := ⟨694, "_law_long", "_law_long", defArgs s_l_long, defBody s_l_long, defScope s_l_long⟩
def d_l_beats : DefA := ⟨701, "_law_beats", "_law_beats", defArgs s_l_beats, defBody s_l_beats, defScope s_l_beats⟩
def d_l_name : DefA := ⟨708, "_law_name", "_law_name", defArgs s_l_name, defBody s_l_name, defScope s_l_name⟩
def d_l_value : DefA := ⟨715, "_law_value", "_law_value", defArgs s_l_value, defBody s_l_value, defScope s_l_value⟩
def d_l_straight : DefA := ⟨722, "_law_straight", "_law_straight", defArgs s_l_straight, defBody s_l_straight, defScope s_l_straight⟩
def d_l_block : DefA := ⟨729, "_law_block", "_law_block", defArgs s_l_block, defBody s_l_block, defScope s_l_block⟩
def d_l_running : DefA := ⟨736, "_law_running", "_law_running", defArgs s_l_running, defBody s_l_running, defScope s_l_running⟩
def d_l_tale : DefA := ⟨741, "_law_tale", "_law_tale", defArgs s_l_tale, defBody s_l_tale, defScope s_l_tale⟩
def d_l_places : DefA := ⟨748, "_law_places", "_law_places", defArgs s_l_places, defBody s_l_places, defScope s_l_places⟩
def d_l_whole_long : DefA := ⟨753, "_law_whole_long", "_law_whole_long", defArgs s_l_whole_long, defBody s_l_whole_long, defScope s_l_whole_long⟩
def d_l_end : DefA := ⟨758, "_law_end", "_law_end", defArgs s_l_end, defBody s_l_end, defScope s_l_end⟩
def d_l_base : DefA := ⟨765, "_law_base", "_law_base", defArgs s_l_base, defBody s_l_base, defScope s_l_base⟩
def d_l_steps : DefA := ⟨772, "_law_steps", "_law_steps", defArgs s_l_steps, defBody s_l_steps, defScope s_l_steps⟩
def d_l_sum : DefA := ⟨777, "_law_sum", "_law_sum", defArgs s_l_sum, defBody s_l_sum, defScope s_l_sum⟩
def d_l_is_way : DefA := ⟨782, "_law_is_way", "_law_is_way", defArgs s_l_is_way, defBody s_l_is_way, defScope s_l_is_way⟩
def d_l_begun : DefA := ⟨789, "_law_begun", "_law_begun", defArgs s_l_begun, defBody s_l_begun, defScope s_l_begun⟩
def d_l_behind_one : DefA := ⟨796, "_law_behind_one", "_law_behind_one", defArgs s_l_behind_one, defBody s_l_behind_one, defScope s_l_behind_one⟩
def d_l_holds : DefA := ⟨803, "_law_holds", "_law_holds", defArgs s_l_holds, defBody s_l_holds, defScope s_l_holds⟩
def d_l_turning : DefA := ⟨810, "_law_turning", "_law_turning", defArgs s_l_turning, defBody s_l_turning, defScope s_l_turning⟩
def d_law : DefA := ⟨815, "law", "law", defArgs s_law, defBody s_law, defScope s_law⟩
def fn0 : List DefA := [d_kind, d_byte_count, d_beat_count, d_is_table, d_row_of, d_long_of, d_want_room, d_addresses, d_is_crossed, d_page_sign, d_page_signs, d_more_parts, d_less_parts, d_x_behind, d_x_where, d_x_gone, d_if_comes, d_comes_of, d_is_wait, d_steps_of, d_all_steps, d_are_ends, d_Seeker_init, d_Seeker_behind, d_Seeker_met_from, d_Seeker_way, d_Seeker_least, d_Seeker_most, d_Seeker_in_order, d_Seeker_round_of]
def fn1 : List DefA := [d_Seeker_turning, d_shortened, d_way_back, d_low_paper, d_round_paper, d_high_paper, d_span, d_column_bit, d_thing_shows, d_ball_shows, d_shows, d_wall_colour, d_colour, d_meetings, d_start, d_with_door, d_drawn_in, d_Registers_init, d_Registers_set_a, d_Registers_set_x, d_Registers_store, d_Registers_do_byte, d_Registers_do_sum, d_Registers_do_bits, d_Registers_do_store, d_Registers_do_memory, d_Registers_do_plain, d_Registers_goes, d_table_byte, d_way_sign]
def fn2 : List DefA := [d_at_sign, d_beats_of, d_deed_done, d_Playing_init, d_Playing_line_beat, d_Playing_draw, d_Playing_end_beat, d_Playing_next_beat, d_Playing_pass_beats, d_Playing_pass_line, d_Playing_eye, d_Playing_write, d_Playing_do_row, d_Playing_wait_on, d_Playing_play, d_Playing_picture, d_Playing_log, d_Playing_state, d_frame, d_hands_of, d_run, d_l_mixed, d_l_deck, d_l_next, d_l_deeds, d_l_most, d_l_long, d_l_beats, d_l_name, d_l_value]
def fn3 : List DefA := [d_l_straight, d_l_block, d_l_running, d_l_tale, d_l_places, d_l_whole_long, d_l_end, d_l_base, d_l_steps, d_l_sum, d_l_is_way, d_l_begun, d_l_behind_one, d_l_holds, d_l_turning, d_law]
def fn : List DefA := fn0 ++ fn1 ++ fn2 ++ fn3
def gl0 : List (Str × Addr) := [("kind", 76), ("byte_count", 83), ("beat_count", 90), ("is_table", 97), ("row_of", 102), ("long_of", 108), ("want_room", 115), ("addresses", 122), ("is_crossed", 129), ("page_sign", 134), ("page_signs", 139), ("more_parts", 147), ("less_parts", 154), ("x_behind", 159), ("x_where", 166), ("x_gone", 173), ("if_comes", 180), ("comes_of", 185), ("is_wait", 192), ("steps_of", 199), ("all_steps", 204), ("are_ends", 209), ("shortened", 287), ("way_back", 294), ("low_paper", 299), ("round_paper", 306), ("high_paper", 313), ("span", 320), ("column_bit", 328), ("thing_shows", 335)]
def gl1 : List (Str × Addr) := [("ball_shows", 342), ("shows", 349), ("wall_colour", 356), ("colour", 363), ("meetings", 370), ("start", 377), ("with_door", 384), ("drawn_in", 391), ("table_byte", 489), ("way_sign", 496), ("at_sign", 503), ("beats_of", 510), ("deed_done", 517), ("frame", 639), ("hands_of", 647), ("run", 654), ("_law_mixed", 661), ("_law_deck", 666), ("_law_next", 673), ("_law_deeds", 680), ("_law_most", 687), ("_law_long", 694), ("_law_beats", 701), ("_law_name", 708), ("_law_value", 715), ("_law_straight", 722), ("_law_block", 729), ("_law_running", 736), ("_law_tale", 741), ("_law_places", 748)]
def gl2 : List (Str × Addr) := [("_law_whole_long", 753), ("_law_end", 758), ("_law_base", 765), ("_law_steps", 772), ("_law_sum", 777), ("_law_is_way", 782), ("_law_begun", 789), ("_law_behind_one", 796), ("_law_holds", 803), ("_law_turning", 810), ("law", 815), ("Seeker", 276), ("Registers", 478), ("Playing", 628), ("NoFrame", 49), ("NoRoom", 37), ("NoSpan", 61), ("BYTE_DEEDS", 64), ("MEMORY_DEEDS", 65), ("PLAIN_DEEDS", 66), ("MARK_DEEDS", 67), ("THREE_BEATS", 68), ("FOUR_BEATS", 69), ("IF_DEEDS", 103), ("SAME_FLAG", 140), ("BITS", 321), ("STILL", 640)]
def gl : List (Str × Addr) := gl0 ++ gl1 ++ gl2
def gi0 : List (Str × Int) := [("ROOM", 256), ("PAGE", 32), ("MOST_BYTE_cells", 255), ("MOST_BYTE_spans", 255), ("LEAST", 0), ("MOST", 1), ("PLACES", 48), ("HALF", 24), ("WIDTH", 8), ("APART", 16), ("MEMORY_states", 16), ("DOORS", 20), ("BEATS", 32), ("DARK", 8), ("MOST_LINES", 40), ("BYTES", 256), ("MEMORY_steps", 16), ("LAST_BEAT", 31), ("ASK", 0), ("CLEAR", 18), ("TIMER", 19), ("TICKS", 16)]
def gi : List (Str × Int) := gi0
def gf0 : List Str := ["len", "sum", "range", "max", "min", "int", "list", "sorted", "reversed", "tuple", "enumerate", "zip"]
def gf : List Str := gf0
def me0 : List (Addr × Str × Addr) := [(276, "behind", 226), (276, "met_from", 233), (276, "way", 240), (276, "least", 247), (276, "most", 254), (276, "in_order", 259), (276, "round_of", 266), (276, "turning", 273), (478, "set_a", 412), (478, "set_x", 419), (478, "store", 426), (478, "do_byte", 433), (478, "do_sum", 440), (478, "do_bits", 447), (478, "do_store", 454), (478, "do_memory", 461), (478, "do_plain", 468), (478, "goes", 475), (628, "line_beat", 538), (628, "draw", 545), (628, "end_beat", 552), (628, "next_beat", 559), (628, "pass_beats", 566), (628, "pass_line", 573), (628, "eye", 580), (628, "write", 587), (628, "do_row", 594), (628, "wait_on", 601), (628, "play", 608), (628, "picture", 613)]
def me1 : List (Addr × Str × Addr) := [(628, "log", 618), (628, "state", 625)]
def me : List (Addr × Str × Addr) := me0 ++ me1
def na0 : List (Addr × Str) := [(276, "one"), (276, "other"), (276, "steps"), (276, "waits"), (276, "met"), (276, "kept"), (478, "a"), (478, "x"), (478, "zero"), (478, "carry"), (478, "memory"), (628, "program"), (628, "base"), (628, "hands"), (628, "held"), (628, "first_doors"), (628, "doors"), (628, "met"), (628, "timer"), (628, "moment"), (628, "waiting"), (628, "asked"), (628, "drawn"), (628, "writes"), (628, "rows"), (628, "lines")]
def na : List (Addr × Str) := na0
def cl0 : List (Addr × Addr) := [(276, 221), (478, 405), (628, 531)]
def cl : List (Addr × Addr) := cl0
def tv_BYTE_DEEDS : List V := [.str "set", .str "test", .str "setx"]
def tv_MEMORY_DEEDS : List V := [.str "get", .str "put", .str "add", .str "sub", .str "mask", .str "flip", .str "getx", .str "putx", .str "lay", .str "take"]
def tv_PLAIN_DEEDS : List V := [.str "half", .str "twice", .str "up", .str "down", .str "tox", .str "toa", .str "rest", .str "idle", .str "wait"]
def tv_MARK_DEEDS : List V := [.str "go", .str "ifz", .str "ifn", .str "ifc", .str "ifd", .str "at"]
def tv_THREE_BEATS : List V := [.str "get", .str "put", .str "add", .str "sub", .str "mask", .str "flip", .str "getx", .str "putx", .str "idle", .str "go", .str "door", .str "eye"]
def tv_FOUR_BEATS : List V := [.str "lay", .str "take", .str "at"]
def tv_IF_DEEDS : List V := [.str "ifz", .str "ifn", .str "ifc", .str "ifd"]
def tv_SAME_FLAG : List V := [.str "put", .str "putx", .str "lay", .str "rest", .str "idle", .str "go", .str "ifz", .str "ifn", .str "ifc", .str "ifd", .str "door", .str "wait"]
def tv_BITS : List V := [.int 128, .int 64, .int 32, .int 16, .int 8, .int 4, .int 2, .int 1]
def tv_STILL : List V := [.int 0, .int 0, .int 0]
def tp0 : List (Addr × List V) := [(64, tv_BYTE_DEEDS), (65, tv_MEMORY_DEEDS), (66, tv_PLAIN_DEEDS), (67, tv_MARK_DEEDS), (68, tv_THREE_BEATS), (69, tv_FOUR_BEATS), (103, tv_IF_DEEDS), (140, tv_SAME_FLAG), (321, tv_BITS), (640, tv_STILL)]
def tp : List (Addr × List V) := tp0
def aNoFrame : Addr := 49
def loose0 : List PySem.Str := ["RowsError", "NoRoom", "NoFrame", "NoSpan", "BYTE_DEEDS", "MEMORY_DEEDS", "PLAIN_DEEDS", "MARK_DEEDS", "THREE_BEATS", "FOUR_BEATS", "kind", "byte_count", "beat_count", "is_table", "row_of", "ROOM", "PAGE", "IF_DEEDS", "long_of", "want_room", "addresses", "is_crossed", "page_sign", "page_signs", "MOST_BYTE_cells", "SAME_FLAG", "more_parts", "less_parts", "x_behind", "x_where"]
def loose1 : List PySem.Str := ["x_gone", "if_comes", "comes_of", "MOST_BYTE_spans", "LEAST", "MOST", "is_wait", "steps_of", "all_steps", "are_ends", "Seeker", "shortened", "way_back", "low_paper", "round_paper", "high_paper", "span", "PLACES", "HALF", "WIDTH", "APART", "BITS", "column_bit", "thing_shows", "ball_shows", "shows", "wall_colour", "colour", "meetings", "MEMORY_states"]
def loose2 : List PySem.Str := ["DOORS", "start", "BEATS", "DARK", "MOST_LINES", "with_door", "drawn_in", "BYTES", "MEMORY_steps", "Registers", "table_byte", "way_sign", "at_sign", "beats_of", "deed_done", "LAST_BEAT", "ASK", "CLEAR", "TIMER", "TICKS", "Playing", "frame", "STILL", "hands_of", "run", "_law_mixed", "_law_deck", "_law_next", "_law_deeds", "_law_most"]
def loose3 : List PySem.Str := ["_law_long", "_law_beats", "_law_name", "_law_value", "_law_straight", "_law_block", "_law_running", "_law_tale", "_law_places", "_law_whole_long", "_law_end", "_law_base", "_law_steps", "_law_sum", "_law_is_way", "_law_begun", "_law_behind_one", "_law_holds", "_law_turning"]
def loose : List PySem.Str := loose0 ++ loose1 ++ loose2 ++ loose3

abbrev AlY : Type := Bool × List He.FnW
def obsY (fn : List DefA) (ex : PySem.W.Frag → Bool) (K : PySem.W.Frag) : AlY := ((fn.all fun d => d.ok K) && ex K, fn.map fun d => fnA K d.a)
def valY (fn : List DefA) : AlY := (true, fn.map DefA.val)
def SaysY (fn : List DefA) (ex : PySem.W.Frag → Bool) (K : PySem.W.Frag) : Prop := obsY fn ex K = valY fn
def obsYG (as : List Addr) (fn : List DefA) (ex : PySem.W.Frag → Bool) (g : Addr → Option Obj) : AlY := obsY fn ex (He.frG g as)
def hookY (as : List Addr) (fn : List DefA) (ex : PySem.W.Frag → Bool) : PySem.W.Hook where
  α := AlY
  obs := fun s => obsYG as fn ex s.heap.get?
  val := fun _ => valY fn
  says := fun _ h => ∃ K : PySem.W.Frag, K.In h ∧ SaysY fn ex K
  of := fun _ _ e => ⟨_, He.frG_in, e⟩
  keeps := fun _ _ _ ⟨K, hK, c⟩ k => ⟨K, PySem.W.Frag.In.keeps hK k, c⟩
theorem obsYG_eq {as : List Addr} {fn : List DefA} {ex : PySem.W.Frag → Bool} {g : Addr → Option Obj} {s : Shared} (h : ∀ a, g a = s.heap.get? a) : obsYG as fn ex g = (hookY as fn ex).obs s := by
  have e : g = s.heap.get? := funext h
  rw [e] <;> rfl
abbrev R : PySem.W.OpenRow := PySem.W.OpenLaw.row PySem.Challenge.rw_beamrows_k93_whole_spans_and_runs
end Bm
set_option Elab.async false
set_option linter.all false
set_option maxRecDepth 100000
set_option maxHeartbeats 0
namespace Bm
open PySem PySem.Spec PyProof.Rows L2
structure Tx (K : PySem.W.Frag) (mg : Str → Option Value) : Prop where
  fn : ∀ (i : Nat) (d : DefA), fn[i]? = some d → ∃ fd, FunD K d.name d.qual d.params d.body d.scope [] [] d.a fd
  gl : ∀ (i : Nat) (q : Str × Addr), gl[i]? = some q → mg q.1 = some (.ref q.2)
  gi : ∀ (i : Nat) (q : Str × Int), gi[i]? = some q → ∃ t, mg q.1 = some (.int q.2 t)
  gf : ∀ (i : Nat) (x : Str), gf[i]? = some x → mg x = none
  me : ∀ (i : Nat) (q : Addr × Str × Addr), me[i]? = some q → Meth K q.1 q.2.1 q.2.2
  na : ∀ (i : Nat) (q : Addr × Str), na[i]? = some q → NoAttr K q.1 q.2
  cl : ∀ (i : Nat) (q : Addr × Addr), cl[i]? = some q → Cls K q.1 ∧ Mk K q.1 q.2
  tp : ∀ (i : Nat) (q : Addr × List V), tp[i]? = some q → ∀ H : Hp, SqT K H q.1 q.2
  exc : PySem.W.excIn K aNoFrame He.veBase "ValueError.__new__" = true ∧ PySem.W.keepIn K (.ref aNoFrame) = true ∧ PySem.W.subIn K (.ref aNoFrame) (.type "BaseException") = some true ∧ PySem.W.typeIn K (.ref aNoFrame) = some (.type "type") ∧ PySem.W.exmOne K (.ref aNoFrame) (.ref aNoFrame) = some true
def exv (K : PySem.W.Frag) : Bool := gl.all (glB K) && (gi.all (giB K) && (gf.all (gfB K) && (me.all (meB K) && (na.all (naB K) && (cl.all (clB K) && (tp.all (tpB K) && exB K aNoFrame))))))
theorem all_ix {α : Type} {l : List α} {f : α → Bool} (h : l.all f = true) (i : Nat) (x : α) (e : l[i]? = some x) : f x = true := List.all_eq_true.mp h x (List.mem_of_getElem? e)
theorem gi_ok {K : PySem.W.Frag} {h : Heap} {mg : Str → Option Value} (X : K.In h) (G : h.Ns mainGlobals mg) {q : Str × Int} (c : giB K q = true) : ∃ t, mg q.1 = some (.int q.2 t) := He.int_ok (x := q.1) (i := q.2) X G c
theorem tp_ok {K : PySem.W.Frag} {q : Addr × List V} (h : tpB K q = true) (H : Hp) : SqT K H q.1 q.2 := by
  unfold tpB at h
  cases e : K.lookup q.1 with
  | none =>
    rw [e] at h
    cases h
  | some o =>
    obtain ⟨oc, od, dt, osl⟩ := o
    rw [e] at h
    cases oc with
    | type c =>
      cases dt with
      | seq its n =>
        obtain ⟨h1, h2⟩ := He.ba (show (decide (c = "tuple") && (decide (its.size ≤ sizeLine) && He.relAll q.2 its.toList)) = true from h)
        obtain ⟨h3, h4⟩ := He.ba h2
        exact .inr ⟨_, its, n, e, congrArg Value.type (of_decide_eq_true h1), rfl, of_decide_eq_true h3, He.relAll_ok h4⟩
      | _ => cases h
    | _ => cases dt <;> cases h
theorem Tx.of {K : PySem.W.Frag} {h : Heap} {mg : Str → Option Value} (X : K.In h) (G : h.Ns mainGlobals mg) (c : SaysY Bm.fn exv K) : Tx K mg := by
  obtain ⟨c1, c2⟩ := He.ba (show ((Bm.fn.all fun d => d.ok K) && exv K) = true from congrArg (fun z : AlY => z.1) c)
  have e : Bm.fn.map (fun d => fnA K d.a) = Bm.fn.map DefA.val := congrArg (fun z : AlY => z.2) c
  obtain ⟨a1, c2⟩ := He.ba c2
  obtain ⟨a2, c2⟩ := He.ba c2
  obtain ⟨a3, c2⟩ := He.ba c2
  obtain ⟨a4, c2⟩ := He.ba c2
  obtain ⟨a5, c2⟩ := He.ba c2
  obtain ⟨a6, c2⟩ := He.ba c2
  obtain ⟨a7, c2⟩ := He.ba c2
  obtain ⟨b1, c2⟩ := He.ba c2
  obtain ⟨b2, c2⟩ := He.ba c2
  obtain ⟨b3, c2⟩ := He.ba c2
  obtain ⟨b4, b5⟩ := He.ba c2
  refine ⟨fun i d hd => ?_, fun i q hq => PySem.W.mg_of X G (He.eqO_ok (all_ix a1 i q hq)), fun i q hq => gi_ok X G (all_ix a2 i q hq), fun i x hx => PySem.W.mg_none_of X G (He.eqO_ok (all_ix a3 i x hx)), fun i q hq => ?_,
    fun i q hq => He.eqO_ok (all_ix a5 i q hq), fun i q hq => ?_, fun i q hq H => tp_ok (all_ix a7 i q hq) H, b1, b2, of_decide_eq_true b3, of_decide_eq_true b4, of_decide_eq_true b5⟩
  · have e2 : (Bm.fn.map fun d => fnA K d.a)[i]? = (Bm.fn.map DefA.val)[i]? := by rw [e]
    rw [List.getElem?_map, List.getElem?_map, hd] at e2
    exact DefA.fun_ (Option.some.inj e2) (all_ix c1 i d hd)
  · obtain ⟨d1, d2⟩ := He.ba (all_ix a4 i q hq)
    obtain ⟨d2, d3⟩ := He.ba d2
    exact ⟨He.eqO_ok d1, d2, d3⟩
  · obtain ⟨d1, d2⟩ := He.ba (all_ix a6 i q hq)
    obtain ⟨d2, d3⟩ := He.ba d2
    obtain ⟨d3, d4⟩ := He.ba d3
    obtain ⟨d4, d5⟩ := He.ba d4
    obtain ⟨d5, d6⟩ := He.ba d5
    obtain ⟨d6, d7⟩ := He.ba d6
    obtain ⟨d7, d8⟩ := He.ba d7
    exact ⟨⟨d1, d2, d3, He.eqO_ok d4⟩, ⟨d5, He.eqO_ok d6, d7, d8⟩⟩
section
variable {K : PySem.W.Frag} {mg : Str → Option Value}
theorem g_kind (T : Tx K mg) : mg "kind" = some (.ref 76) := T.gl 0 _ rfl
theorem g_byte_count (T : Tx K mg) : mg "byte_count" = some (.ref 83) := T.gl 1 _ rfl
theorem g_beat_count (T : Tx K mg) : mg "beat_count" = some (.ref 90) := T.gl 2 _ rfl
theorem g_is_table (T : Tx K mg) : mg "is_table" = some (.ref 97) := T.gl 3 _ rfl
theorem g_row_of (T : Tx K mg) : mg "row_of" = some (.ref 102) := T.gl 4 _ rfl
theorem g_long_of (T : Tx K mg) : mg "long_of" = some (.ref 108) := T.gl 5 _ rfl
theorem g_want_room (T : Tx K mg) : mg "want_room" = some (.ref 115) := T.gl 6 _ rfl
theorem g_addresses (T : Tx K mg) : mg "addresses" = some (.ref 122) := T.gl 7 _ rfl
theorem g_is_crossed (T : Tx K mg) : mg "is_crossed" = some (.ref 129) := T.gl 8 _ rfl
theorem g_page_sign (T : Tx K mg) : mg "page_sign" = some (.ref 134) := T.gl 9 _ rfl
theorem g_page_signs (T : Tx K mg) : mg "page_signs" = some (.ref 139) := T.gl 10 _ rfl
theorem g_more_parts (T : Tx K mg) : mg "more_parts" = some (.ref 147) := T.gl 11 _ rfl
theorem g_less_parts (T : Tx K mg) : mg "less_parts" = some (.ref 154) := T.gl 12 _ rfl
theorem g_x_behind (T : Tx K mg) : mg "x_behind" = some (.ref 159) := T.gl 13 _ rfl
theorem g_x_where (T : Tx K mg) : mg "x_where" = some (.ref 166) := T.gl 14 _ rfl
theorem g_x_gone (T : Tx K mg) : mg "x_gone" = some (.ref 173) := T.gl 15 _ rfl
theorem g_if_comes (T : Tx K mg) : mg "if_comes" = some (.ref 180) := T.gl 16 _ rfl
theorem g_comes_of (T : Tx K mg) : mg "comes_of" = some (.ref 185) := T.gl 17 _ rfl
theorem g_is_wait (T : Tx K mg) : mg "is_wait" = some (.ref 192) := T.gl 18 _ rfl
theorem g_steps_of (T : Tx K mg) : mg "steps_of" = some (.ref 199) := T.gl 19 _ rfl
theorem g_all_steps (T : Tx K mg) : mg "all_steps" = some (.ref 204) := T.gl 20 _ rfl
theorem g_are_ends (T : Tx K mg) : mg "are_ends" = some (.ref 209) := T.gl 21 _ rfl
theorem g_shortened (T : Tx K mg) : mg "shortened" = some (.ref 287) := T.gl 22 _ rfl
theorem g_way_back (T : Tx K mg) : mg "way_back" = some (.ref 294) := T.gl 23 _ rfl
theorem g_low_paper (T : Tx K mg) : mg "low_paper" = some (.ref 299) := T.gl 24 _ rfl
theorem g_round_paper (T : Tx K mg) : mg "round_paper" = some (.ref 306) := T.gl 25 _ rfl
theorem g_high_paper (T : Tx K mg) : mg "high_paper" = some (.ref 313) := T.gl 26 _ rfl
theorem g_span (T : Tx K mg) : mg "span" = some (.ref 320) := T.gl 27 _ rfl
theorem g_column_bit (T : Tx K mg) : mg "column_bit" = some (.ref 328) := T.gl 28 _ rfl
theorem g_thing_shows (T : Tx K mg) : mg "thing_shows" = some (.ref 335) := T.gl 29 _ rfl
theorem g_ball_shows (T : Tx K mg) : mg "ball_shows" = some (.ref 342) := T.gl 30 _ rfl
theorem g_shows (T : Tx K mg) : mg "shows" = some (.ref 349) := T.gl 31 _ rfl
theorem g_wall_colour (T : Tx K mg) : mg "wall_colour" = some (.ref 356) := T.gl 32 _ rfl
theorem g_colour (T : Tx K mg) : mg "colour" = some (.ref 363) := T.gl 33 _ rfl
theorem g_meetings (T : Tx K mg) : mg "meetings" = some (.ref 370) := T.gl 34 _ rfl
theorem g_start (T : Tx K mg) : mg "start" = some (.ref 377) := T.gl 35 _ rfl
theorem g_with_door (T : Tx K mg) : mg "with_door" = some (.ref 384) := T.gl 36 _ rfl
theorem g_drawn_in (T : Tx K mg) : mg "drawn_in" = some (.ref 391) := T.gl 37 _ rfl
theorem g_table_byte (T : Tx K mg) : mg "table_byte" = some (.ref 489) := T.gl 38 _ rfl
theorem g_way_sign (T : Tx K mg) : mg "way_sign" = some (.ref 496) := T.gl 39 _ rfl
theorem g_at_sign (T : Tx K mg) : mg "at_sign" = some (.ref 503) := T.gl 40 _ rfl
theorem g_beats_of (T : Tx K mg) : mg "beats_of" = some (.ref 510) := T.gl 41 _ rfl
theorem g_deed_done (T : Tx K mg) : mg "deed_done" = some (.ref 517) := T.gl 42 _ rfl
theorem g_frame (T : Tx K mg) : mg "frame" = some (.ref 639) := T.gl 43 _ rfl
theorem g_hands_of (T : Tx K mg) : mg "hands_of" = some (.ref 647) := T.gl 44 _ rfl
theorem g_run (T : Tx K mg) : mg "run" = some (.ref 654) := T.gl 45 _ rfl
theorem g__law_mixed (T : Tx K mg) : mg "_law_mixed" = some (.ref 661) := T.gl 46 _ rfl
theorem g__law_deck (T : Tx K mg) : mg "_law_deck" = some (.ref 666) := T.gl 47 _ rfl
theorem g__law_next (T : Tx K mg) : mg "_law_next" = some (.ref 673) := T.gl 48 _ rfl
theorem g__law_deeds (T : Tx K mg) : mg "_law_deeds" = some (.ref 680) := T.gl 49 _ rfl
theorem g__law_most (T : Tx K mg) : mg "_law_most" = some (.ref 687) := T.gl 50 _ rfl
theorem g__law_long (T : Tx K mg) : mg "_law_long" = some (.ref 694) := T.gl 51 _ rfl
theorem g__law_beats (T : Tx K mg) : mg "_law_beats" = some (.ref 701) := T.gl 52 _ rfl
theorem g__law_name (T : Tx K mg) : mg "_law_name" = some (.ref 708) := T.gl 53 _ rfl
theorem g__law_value (T : Tx K mg) : mg "_law_value" = some (.ref 715) := T.gl 54 _ rfl
theorem g__law_straight (T : Tx K mg) : mg "_law_straight" = some (.ref 722) := T.gl 55 _ rfl
theorem g__law_block (T : Tx K mg) : mg "_law_block" = some (.ref 729) := T.gl 56 _ rfl
theorem g__law_running (T : Tx K mg) : mg "_law_running" = some (.ref 736) := T.gl 57 _ rfl
theorem g__law_tale (T : Tx K mg) : mg "_law_tale" = some (.ref 741) := T.gl 58 _ rfl
theorem g__law_places (T : Tx K mg) : mg "_law_places" = some (.ref 748) := T.gl 59 _ rfl
theorem g__law_whole_long (T : Tx K mg) : mg "_law_whole_long" = some (.ref 753) := T.gl 60 _ rfl
theorem g__law_end (T : Tx K mg) : mg "_law_end" = some (.ref 758) := T.gl 61 _ rfl
theorem g__law_base (T : Tx K mg) : mg "_law_base" = some (.ref 765) := T.gl 62 _ rfl
theorem g__law_steps (T : Tx K mg) : mg "_law_steps" = some (.ref 772) := T.gl 63 _ rfl
theorem g__law_sum (T : Tx K mg) : mg "_law_sum" = some (.ref 777) := T.gl 64 _ rfl
theorem g__law_is_way (T : Tx K mg) : mg "_law_is_way" = some (.ref 782) := T.gl 65 _ rfl
theorem g__law_begun (T : Tx K mg) : mg "_law_begun" = some (.ref 789) := T.gl 66 _ rfl
theorem g__law_behind_one (T : Tx K mg) : mg "_law_behind_one" = some (.ref 796) := T.gl 67 _ rfl
theorem g__law_holds (T : Tx K mg) : mg "_law_holds" = some (.ref 803) := T.gl 68 _ rfl
theorem g__law_turning (T : Tx K mg) : mg "_law_turning" = some (.ref 810) := T.gl 69 _ rfl
theorem g_law (T : Tx K mg) : mg "law" = some (.ref 815) := T.gl 70 _ rfl
theorem g_Seeker (T : Tx K mg) : mg "Seeker" = some (.ref 276) := T.gl 71 _ rfl
theorem g_Registers (T : Tx K mg) : mg "Registers" = some (.ref 478) := T.gl 72 _ rfl
theorem g_Playing (T : Tx K mg) : mg "Playing" = some (.ref 628) := T.gl 73 _ rfl
theorem g_NoFrame (T : Tx K mg) : mg "NoFrame" = some (.ref 49) := T.gl 74 _ rfl
theorem g_NoRoom (T : Tx K mg) : mg "NoRoom" = some (.ref 37) := T.gl 75 _ rfl
theorem g_NoSpan (T : Tx K mg) : mg "NoSpan" = some (.ref 61) := T.gl 76 _ rfl
theorem g_BYTE_DEEDS (T : Tx K mg) : mg "BYTE_DEEDS" = some (.ref 64) := T.gl 77 _ rfl
theorem g_MEMORY_DEEDS (T : Tx K mg) : mg "MEMORY_DEEDS" = some (.ref 65) := T.gl 78 _ rfl
theorem g_PLAIN_DEEDS (T : Tx K mg) : mg "PLAIN_DEEDS" = some (.ref 66) := T.gl 79 _ rfl
theorem g_MARK_DEEDS (T : Tx K mg) : mg "MARK_DEEDS" = some (.ref 67) := T.gl 80 _ rfl
theorem g_THREE_BEATS (T : Tx K mg) : mg "THREE_BEATS" = some (.ref 68) := T.gl 81 _ rfl
theorem g_FOUR_BEATS (T : Tx K mg) : mg "FOUR_BEATS" = some (.ref 69) := T.gl 82 _ rfl
theorem g_IF_DEEDS (T : Tx K mg) : mg "IF_DEEDS" = some (.ref 103) := T.gl 83 _ rfl
theorem g_SAME_FLAG (T : Tx K mg) : mg "SAME_FLAG" = some (.ref 140) := T.gl 84 _ rfl
theorem g_BITS (T : Tx K mg) : mg "BITS" = some (.ref 321) := T.gl 85 _ rfl
theorem g_STILL (T : Tx K mg) : mg "STILL" = some (.ref 640) := T.gl 86 _ rfl
theorem i_ROOM (T : Tx K mg) : ∃ t, mg "ROOM" = some (.int 256 t) := T.gi 0 _ rfl
theorem i_PAGE (T : Tx K mg) : ∃ t, mg "PAGE" = some (.int 32 t) := T.gi 1 _ rfl
theorem i_MOST_BYTE_cells (T : Tx K mg) : ∃ t, mg "MOST_BYTE_cells" = some (.int 255 t) := T.gi 2 _ rfl
theorem i_MOST_BYTE_spans (T : Tx K mg) : ∃ t, mg "MOST_BYTE_spans" = some (.int 255 t) := T.gi 3 _ rfl
theorem i_LEAST (T : Tx K mg) : ∃ t, mg "LEAST" = some (.int 0 t) := T.gi 4 _ rfl
theorem i_MOST (T : Tx K mg) : ∃ t, mg "MOST" = some (.int 1 t) := T.gi 5 _ rfl
theorem i_PLACES (T : Tx K mg) : ∃ t, mg "PLACES" = some (.int 48 t) := T.gi 6 _ rfl
theorem i_HALF (T : Tx K mg) : ∃ t, mg "HALF" = some (.int 24 t) := T.gi 7 _ rfl
theorem i_WIDTH (T : Tx K mg) : ∃ t, mg "WIDTH" = some (.int 8 t) := T.gi 8 _ rfl
theorem i_APART (T : Tx K mg) : ∃ t, mg "APART" = some (.int 16 t) := T.gi 9 _ rfl
theorem i_MEMORY_states (T : Tx K mg) : ∃ t, mg "MEMORY_states" = some (.int 16 t) := T.gi 10 _ rfl
theorem i_DOORS (T : Tx K mg) : ∃ t, mg "DOORS" = some (.int 20 t) := T.gi 11 _ rfl
theorem i_BEATS (T : Tx K mg) : ∃ t, mg "BEATS" = some (.int 32 t) := T.gi 12 _ rfl
theorem i_DARK (T : Tx K mg) : ∃ t, mg "DARK" = some (.int 8 t) := T.gi 13 _ rfl
theorem i_MOST_LINES (T : Tx K mg) : ∃ t, mg "MOST_LINES" = some (.int 40 t) := T.gi 14 _ rfl
theorem i_BYTES (T : Tx K mg) : ∃ t, mg "BYTES" = some (.int 256 t) := T.gi 15 _ rfl
theorem i_MEMORY_steps (T : Tx K mg) : ∃ t, mg "MEMORY_steps" = some (.int 16 t) := T.gi 16 _ rfl
theorem i_LAST_BEAT (T : Tx K mg) : ∃ t, mg "LAST_BEAT" = some (.int 31 t) := T.gi 17 _ rfl
theorem i_ASK (T : Tx K mg) : ∃ t, mg "ASK" = some (.int 0 t) := T.gi 18 _ rfl
theorem i_CLEAR (T : Tx K mg) : ∃ t, mg "CLEAR" = some (.int 18 t) := T.gi 19 _ rfl
theorem i_TIMER (T : Tx K mg) : ∃ t, mg "TIMER" = some (.int 19 t) := T.gi 20 _ rfl
theorem i_TICKS (T : Tx K mg) : ∃ t, mg "TICKS" = some (.int 16 t) := T.gi 21 _ rfl
theorem n_len (T : Tx K mg) : mg "len" = none := T.gf 0 _ rfl
theorem n_sum (T : Tx K mg) : mg "sum" = none := T.gf 1 _ rfl
theorem n_range (T : Tx K mg) : mg "range" = none := T.gf 2 _ rfl
theorem n_max (T : Tx K mg) : mg "max" = none := T.gf 3 _ rfl
theorem n_min (T : Tx K mg) : mg "min" = none := T.gf 4 _ rfl
theorem n_int (T : Tx K mg) : mg "int" = none := T.gf 5 _ rfl
theorem n_list (T : Tx K mg) : mg "list" = none := T.gf 6 _ rfl
theorem n_sorted (T : Tx K mg) : mg "sorted" = none := T.gf 7 _ rfl
theorem n_reversed (T : Tx K mg) : mg "reversed" = none := T.gf 8 _ rfl
theorem n_tuple (T : Tx K mg) : mg "tuple" = none := T.gf 9 _ rfl
theorem n_enumerate (T : Tx K mg) : mg "enumerate" = none := T.gf 10 _ rfl
theorem n_zip (T : Tx K mg) : mg "zip" = none := T.gf 11 _ rfl
theorem m_Seeker_behind (T : Tx K mg) : Meth K 276 "behind" 226 := T.me 0 _ rfl
theorem m_Seeker_met_from (T : Tx K mg) : Meth K 276 "met_from" 233 := T.me 1 _ rfl
theorem m_Seeker_way (T : Tx K mg) : Meth K 276 "way" 240 := T.me 2 _ rfl
theorem m_Seeker_least (T : Tx K mg) : Meth K 276 "least" 247 := T.me 3 _ rfl
theorem m_Seeker_most (T : Tx K mg) : Meth K 276 "most" 254 := T.me 4 _ rfl
theorem m_Seeker_in_order (T : Tx K mg) : Meth K 276 "in_order" 259 := T.me 5 _ rfl
theorem m_Seeker_round_of (T : Tx K mg) : Meth K 276 "round_of" 266 := T.me 6 _ rfl
theorem m_Seeker_turning (T : Tx K mg) : Meth K 276 "turning" 273 := T.me 7 _ rfl
theorem m_Registers_set_a (T : Tx K mg) : Meth K 478 "set_a" 412 := T.me 8 _ rfl
theorem m_Registers_set_x (T : Tx K mg) : Meth K 478 "set_x" 419 := T.me 9 _ rfl
theorem m_Registers_store (T : Tx K mg) : Meth K 478 "store" 426 := T.me 10 _ rfl
theorem m_Registers_do_byte (T : Tx K mg) : Meth K 478 "do_byte" 433 := T.me 11 _ rfl
theorem m_Registers_do_sum (T : Tx K mg) : Meth K 478 "do_sum" 440 := T.me 12 _ rfl
theorem m_Registers_do_bits (T : Tx K mg) : Meth K 478 "do_bits" 447 := T.me 13 _ rfl
theorem m_Registers_do_store (T : Tx K mg) : Meth K 478 "do_store" 454 := T.me 14 _ rfl
theorem m_Registers_do_memory (T : Tx K mg) : Meth K 478 "do_memory" 461 := T.me 15 _ rfl
theorem m_Registers_do_plain (T : Tx K mg) : Meth K 478 "do_plain" 468 := T.me 16 _ rfl
theorem m_Registers_goes (T : Tx K mg) : Meth K 478 "goes" 475 := T.me 17 _ rfl
theorem m_Playing_line_beat (T : Tx K mg) : Meth K 628 "line_beat" 538 := T.me 18 _ rfl
theorem m_Playing_draw (T : Tx K mg) : Meth K 628 "draw" 545 := T.me 19 _ rfl
theorem m_Playing_end_beat (T : Tx K mg) : Meth K 628 "end_beat" 552 := T.me 20 _ rfl
theorem m_Playing_next_beat (T : Tx K mg) : Meth K 628 "next_beat" 559 := T.me 21 _ rfl
theorem m_Playing_pass_beats (T : Tx K mg) : Meth K 628 "pass_beats" 566 := T.me 22 _ rfl
theorem m_Playing_pass_line (T : Tx K mg) : Meth K 628 "pass_line" 573 := T.me 23 _ rfl
theorem m_Playing_eye (T : Tx K mg) : Meth K 628 "eye" 580 := T.me 24 _ rfl
theorem m_Playing_write (T : Tx K mg) : Meth K 628 "write" 587 := T.me 25 _ rfl
theorem m_Playing_do_row (T : Tx K mg) : Meth K 628 "do_row" 594 := T.me 26 _ rfl
theorem m_Playing_wait_on (T : Tx K mg) : Meth K 628 "wait_on" 601 := T.me 27 _ rfl
theorem m_Playing_play (T : Tx K mg) : Meth K 628 "play" 608 := T.me 28 _ rfl
theorem m_Playing_picture (T : Tx K mg) : Meth K 628 "picture" 613 := T.me 29 _ rfl
theorem m_Playing_log (T : Tx K mg) : Meth K 628 "log" 618 := T.me 30 _ rfl
theorem m_Playing_state (T : Tx K mg) : Meth K 628 "state" 625 := T.me 31 _ rfl
theorem na_Seeker_one (T : Tx K mg) : NoAttr K 276 "one" := T.na 0 _ rfl
theorem na_Seeker_other (T : Tx K mg) : NoAttr K 276 "other" := T.na 1 _ rfl
theorem na_Seeker_steps (T : Tx K mg) : NoAttr K 276 "steps" := T.na 2 _ rfl
theorem na_Seeker_waits (T : Tx K mg) : NoAttr K 276 "waits" := T.na 3 _ rfl
theorem na_Seeker_met (T : Tx K mg) : NoAttr K 276 "met" := T.na 4 _ rfl
theorem na_Seeker_kept (T : Tx K mg) : NoAttr K 276 "kept" := T.na 5 _ rfl
theorem na_Registers_a (T : Tx K mg) : NoAttr K 478 "a" := T.na 6 _ rfl
theorem na_Registers_x (T : Tx K mg) : NoAttr K 478 "x" := T.na 7 _ rfl
theorem na_Registers_zero (T : Tx K mg) : NoAttr K 478 "zero" := T.na 8 _ rfl
theorem na_Registers_carry (T : Tx K mg) : NoAttr K 478 "carry" := T.na 9 _ rfl
theorem na_Registers_memory (T : Tx K mg) : NoAttr K 478 "memory" := T.na 10 _ rfl
theorem na_Playing_program (T : Tx K mg) : NoAttr K 628 "program" := T.na 11 _ rfl
theorem na_Playing_base (T : Tx K mg) : NoAttr K 628 "base" := T.na 12 _ rfl
theorem na_Playing_hands (T : Tx K mg) : NoAttr K 628 "hands" := T.na 13 _ rfl
theorem na_Playing_held (T : Tx K mg) : NoAttr K 628 "held" := T.na 14 _ rfl
theorem na_Playing_first_doors (T : Tx K mg) : NoAttr K 628 "first_doors" := T.na 15 _ rfl
theorem na_Playing_doors (T : Tx K mg) : NoAttr K 628 "doors" := T.na 16 _ rfl
theorem na_Playing_met (T : Tx K mg) : NoAttr K 628 "met" := T.na 17 _ rfl
theorem na_Playing_timer (T : Tx K mg) : NoAttr K 628 "timer" := T.na 18 _ rfl
theorem na_Playing_moment (T : Tx K mg) : NoAttr K 628 "moment" := T.na 19 _ rfl
theorem na_Playing_waiting (T : Tx K mg) : NoAttr K 628 "waiting" := T.na 20 _ rfl
theorem na_Playing_asked (T : Tx K mg) : NoAttr K 628 "asked" := T.na 21 _ rfl
theorem na_Playing_drawn (T : Tx K mg) : NoAttr K 628 "drawn" := T.na 22 _ rfl
theorem na_Playing_writes (T : Tx K mg) : NoAttr K 628 "writes" := T.na 23 _ rfl
theorem na_Playing_rows (T : Tx K mg) : NoAttr K 628 "rows" := T.na 24 _ rfl
theorem na_Playing_lines (T : Tx K mg) : NoAttr K 628 "lines" := T.na 25 _ rfl
theorem c_Seeker (T : Tx K mg) : Cls K 276 := (T.cl 0 _ rfl).1
theorem k_Seeker (T : Tx K mg) : Mk K 276 221 := (T.cl 0 _ rfl).2
theorem c_Registers (T : Tx K mg) : Cls K 478 := (T.cl 1 _ rfl).1
theorem k_Registers (T : Tx K mg) : Mk K 478 405 := (T.cl 1 _ rfl).2
theorem c_Playing (T : Tx K mg) : Cls K 628 := (T.cl 2 _ rfl).1
theorem k_Playing (T : Tx K mg) : Mk K 628 531 := (T.cl 2 _ rfl).2
theorem t_BYTE_DEEDS (T : Tx K mg) (H : Hp) : SqT K H 64 tv_BYTE_DEEDS := T.tp 0 _ rfl H
theorem t_MEMORY_DEEDS (T : Tx K mg) (H : Hp) : SqT K H 65 tv_MEMORY_DEEDS := T.tp 1 _ rfl H
theorem t_PLAIN_DEEDS (T : Tx K mg) (H : Hp) : SqT K H 66 tv_PLAIN_DEEDS := T.tp 2 _ rfl H
theorem t_MARK_DEEDS (T : Tx K mg) (H : Hp) : SqT K H 67 tv_MARK_DEEDS := T.tp 3 _ rfl H
theorem t_THREE_BEATS (T : Tx K mg) (H : Hp) : SqT K H 68 tv_THREE_BEATS := T.tp 4 _ rfl H
theorem t_FOUR_BEATS (T : Tx K mg) (H : Hp) : SqT K H 69 tv_FOUR_BEATS := T.tp 5 _ rfl H
theorem t_IF_DEEDS (T : Tx K mg) (H : Hp) : SqT K H 103 tv_IF_DEEDS := T.tp 6 _ rfl H
theorem t_SAME_FLAG (T : Tx K mg) (H : Hp) : SqT K H 140 tv_SAME_FLAG := T.tp 7 _ rfl H
theorem t_BITS (T : Tx K mg) (H : Hp) : SqT K H 321 tv_BITS := T.tp 8 _ rfl H
theorem t_STILL (T : Tx K mg) (H : Hp) : SqT K H 640 tv_STILL := T.tp 9 _ rfl H
theorem f_kind (T : Tx K mg) : ∃ fd, FunD K "kind" "kind" (defArgs s_kind) (defBody s_kind) (defScope s_kind) [] [] 76 fd := T.fn 0 d_kind rfl
theorem f_byte_count (T : Tx K mg) : ∃ fd, FunD K "byte_count" "byte_count" (defArgs s_byte_count) (defBody s_byte_count) (defScope s_byte_count) [] [] 83 fd := T.fn 1 d_byte_count rfl
theorem f_beat_count (T : Tx K mg) : ∃ fd, FunD K "beat_count" "beat_count" (defArgs s_beat_count) (defBody s_beat_count) (defScope s_beat_count) [] [] 90 fd := T.fn 2 d_beat_count rfl
theorem f_is_table (T : Tx K mg) : ∃ fd, FunD K "is_table" "is_table" (defArgs s_is_table) (defBody s_is_table) (defScope s_is_table) [] [] 97 fd := T.fn 3 d_is_table rfl
theorem f_row_of (T : Tx K mg) : ∃ fd, FunD K "row_of" "row_of" (defArgs s_row_of) (defBody s_row_of) (defScope s_row_of) [] [] 102 fd := T.fn 4 d_row_of rfl
theorem f_long_of (T : Tx K mg) : ∃ fd, FunD K "long_of" "long_of" (defArgs s_long_of) (defBody s_long_of) (defScope s_long_of) [] [] 108 fd := T.fn 5 d_long_of rfl
theorem f_want_room (T : Tx K mg) : ∃ fd, FunD K "want_room" "want_room" (defArgs s_want_room) (defBody s_want_room) (defScope s_want_room) [] [] 115 fd := T.fn 6 d_want_room rfl
theorem f_addresses (T : Tx K mg) : ∃ fd, FunD K "addresses" "addresses" (defArgs s_addresses) (defBody s_addresses) (defScope s_addresses) [] [] 122 fd := T.fn 7 d_addresses rfl
theorem f_is_crossed (T : Tx K mg) : ∃ fd, FunD K "is_crossed" "is_crossed" (defArgs s_is_crossed) (defBody s_is_crossed) (defScope s_is_crossed) [] [] 129 fd := T.fn 8 d_is_crossed rfl
theorem f_page_sign (T : Tx K mg) : ∃ fd, FunD K "page_sign" "page_sign" (defArgs s_page_sign) (defBody s_page_sign) (defScope s_page_sign) [] [] 134 fd := T.fn 9 d_page_sign rfl
theorem f_page_signs (T : Tx K mg) : ∃ fd, FunD K "page_signs" "page_signs" (defArgs s_page_signs) (defBody s_page_signs) (defScope s_page_signs) [] [] 139 fd := T.fn 10 d_page_signs rfl
theorem f_more_parts (T : Tx K mg) : ∃ fd, FunD K "more_parts" "more_parts" (defArgs s_more_parts) (defBody s_more_parts) (defScope s_more_parts) [] [] 147 fd := T.fn 11 d_more_parts rfl
theorem f_less_parts (T : Tx K mg) : ∃ fd, FunD K "less_parts" "less_parts" (defArgs s_less_parts) (defBody s_less_parts) (defScope s_less_parts) [] [] 154 fd := T.fn 12 d_less_parts rfl
theorem f_x_behind (T : Tx K mg) : ∃ fd, FunD K "x_behind" "x_behind" (defArgs s_x_behind) (defBody s_x_behind) (defScope s_x_behind) [] [] 159 fd := T.fn 13 d_x_behind rfl
theorem f_x_where (T : Tx K mg) : ∃ fd, FunD K "x_where" "x_where" (defArgs s_x_where) (defBody s_x_where) (defScope s_x_where) [] [] 166 fd := T.fn 14 d_x_where rfl
theorem f_x_gone (T : Tx K mg) : ∃ fd, FunD K "x_gone" "x_gone" (defArgs s_x_gone) (defBody s_x_gone) (defScope s_x_gone) [] [] 173 fd := T.fn 15 d_x_gone rfl
theorem f_if_comes (T : Tx K mg) : ∃ fd, FunD K "if_comes" "if_comes" (defArgs s_if_comes) (defBody s_if_comes) (defScope s_if_comes) [] [] 180 fd := T.fn 16 d_if_comes rfl
theorem f_comes_of (T : Tx K mg) : ∃ fd, FunD K "comes_of" "comes_of" (defArgs s_comes_of) (defBody s_comes_of) (defScope s_comes_of) [] [] 185 fd := T.fn 17 d_comes_of rfl
theorem f_is_wait (T : Tx K mg) : ∃ fd, FunD K "is_wait" "is_wait" (defArgs s_is_wait) (defBody s_is_wait) (defScope s_is_wait) [] [] 192 fd := T.fn 18 d_is_wait rfl
theorem f_steps_of (T : Tx K mg) : ∃ fd, FunD K "steps_of" "steps_of" (defArgs s_steps_of) (defBody s_steps_of) (defScope s_steps_of) [] [] 199 fd := T.fn 19 d_steps_of rfl
theorem f_all_steps (T : Tx K mg) : ∃ fd, FunD K "all_steps" "all_steps" (defArgs s_all_steps) (defBody s_all_steps) (defScope s_all_steps) [] [] 204 fd := T.fn 20 d_all_steps rfl
theorem f_are_ends (T : Tx K mg) : ∃ fd, FunD K "are_ends" "are_ends" (defArgs s_are_ends) (defBody s_are_ends) (defScope s_are_ends) [] [] 209 fd := T.fn 21 d_are_ends rfl
theorem f_Seeker_init (T : Tx K mg) : ∃ fd, FunD K "__init__" "Seeker.__init__" (defArgs s_Seeker_init) (defBody s_Seeker_init) (defScope s_Seeker_init) [] [] 221 fd := T.fn 22 d_Seeker_init rfl
theorem f_Seeker_behind (T : Tx K mg) : ∃ fd, FunD K "behind" "Seeker.behind" (defArgs s_Seeker_behind) (defBody s_Seeker_behind) (defScope s_Seeker_behind) [] [] 226 fd := T.fn 23 d_Seeker_behind rfl
theorem f_Seeker_met_from (T : Tx K mg) : ∃ fd, FunD K "met_from" "Seeker.met_from" (defArgs s_Seeker_met_from) (defBody s_Seeker_met_from) (defScope s_Seeker_met_from) [] [] 233 fd := T.fn 24 d_Seeker_met_from rfl
theorem f_Seeker_way (T : Tx K mg) : ∃ fd, FunD K "way" "Seeker.way" (defArgs s_Seeker_way) (defBody s_Seeker_way) (defScope s_Seeker_way) [] [] 240 fd := T.fn 25 d_Seeker_way rfl
theorem f_Seeker_least (T : Tx K mg) : ∃ fd, FunD K "least" "Seeker.least" (defArgs s_Seeker_least) (defBody s_Seeker_least) (defScope s_Seeker_least) [] [] 247 fd := T.fn 26 d_Seeker_least rfl
theorem f_Seeker_most (T : Tx K mg) : ∃ fd, FunD K "most" "Seeker.most" (defArgs s_Seeker_most) (defBody s_Seeker_most) (defScope s_Seeker_most) [] [] 254 fd := T.fn 27 d_Seeker_most rfl
theorem f_Seeker_in_order (T : Tx K mg) : ∃ fd, FunD K "in_order" "Seeker.in_order" (defArgs s_Seeker_in_order) (defBody s_Seeker_in_order) (defScope s_Seeker_in_order) [] [] 259 fd := T.fn 28 d_Seeker_in_order rfl
theorem f_Seeker_round_of (T : Tx K mg) : ∃ fd, FunD K "round_of" "Seeker.round_of" (defArgs s_Seeker_round_of) (defBody s_Seeker_round_of) (defScope s_Seeker_round_of) [] [] 266 fd := T.fn 29 d_Seeker_round_of rfl
theorem f_Seeker_turning (T : Tx K mg) : ∃ fd, FunD K "turning" "Seeker.turning" (defArgs s_Seeker_turning) (defBody s_Seeker_turning) (defScope s_Seeker_turning) [] [] 273 fd := T.fn 30 d_Seeker_turning rfl
theorem f_shortened (T : Tx K mg) : ∃ fd, FunD K "shortened" "shortened" (defArgs s_shortened) (defBody s_shortened) (defScope s_shortened) [] [] 287 fd := T.fn 31 d_shortened rfl
theorem f_way_back (T : Tx K mg) : ∃ fd, FunD K "way_back" "way_back" (defArgs s_way_back) (defBody s_way_back) (defScope s_way_back) [] [] 294 fd := T.fn 32 d_way_back rfl
theorem f_low_paper (T : Tx K mg) : ∃ fd, FunD K "low_paper" "low_paper" (defArgs s_low_paper) (defBody s_low_paper) (defScope s_low_paper) [] [] 299 fd := T.fn 33 d_low_paper rfl
theorem f_round_paper (T : Tx K mg) : ∃ fd, FunD K "round_paper" "round_paper" (defArgs s_round_paper) (defBody s_round_paper) (defScope s_round_paper) [] [] 306 fd := T.fn 34 d_round_paper rfl
theorem f_high_paper (T : Tx K mg) : ∃ fd, FunD K "high_paper" "high_paper" (defArgs s_high_paper) (defBody s_high_paper) (defScope s_high_paper) [] [] 313 fd := T.fn 35 d_high_paper rfl
theorem f_span (T : Tx K mg) : ∃ fd, FunD K "span" "span" (defArgs s_span) (defBody s_span) (defScope s_span) [] [] 320 fd := T.fn 36 d_span rfl
theorem f_column_bit (T : Tx K mg) : ∃ fd, FunD K "column_bit" "column_bit" (defArgs s_column_bit) (defBody s_column_bit) (defScope s_column_bit) [] [] 328 fd := T.fn 37 d_column_bit rfl
theorem f_thing_shows (T : Tx K mg) : ∃ fd, FunD K "thing_shows" "thing_shows" (defArgs s_thing_shows) (defBody s_thing_shows) (defScope s_thing_shows) [] [] 335 fd := T.fn 38 d_thing_shows rfl
theorem f_ball_shows (T : Tx K mg) : ∃ fd, FunD K "ball_shows" "ball_shows" (defArgs s_ball_shows) (defBody s_ball_shows) (defScope s_ball_shows) [] [] 342 fd := T.fn 39 d_ball_shows rfl
theorem f_shows (T : Tx K mg) : ∃ fd, FunD K "shows" "shows" (defArgs s_shows) (defBody s_shows) (defScope s_shows) [] [] 349 fd := T.fn 40 d_shows rfl
theorem f_wall_colour (T : Tx K mg) : ∃ fd, FunD K "wall_colour" "wall_colour" (defArgs s_wall_colour) (defBody s_wall_colour) (defScope s_wall_colour) [] [] 356 fd := T.fn 41 d_wall_colour rfl
theorem f_colour (T : Tx K mg) : ∃ fd, FunD K "colour" "colour" (defArgs s_colour) (defBody s_colour) (defScope s_colour) [] [] 363 fd := T.fn 42 d_colour rfl
theorem f_meetings (T : Tx K mg) : ∃ fd, FunD K "meetings" "meetings" (defArgs s_meetings) (defBody s_meetings) (defScope s_meetings) [] [] 370 fd := T.fn 43 d_meetings rfl
theorem f_start (T : Tx K mg) : ∃ fd, FunD K "start" "start" (defArgs s_start) (defBody s_start) (defScope s_start) [] [] 377 fd := T.fn 44 d_start rfl
theorem f_with_door (T : Tx K mg) : ∃ fd, FunD K "with_door" "with_door" (defArgs s_with_door) (defBody s_with_door) (defScope s_with_door) [] [] 384 fd := T.fn 45 d_with_door rfl
theorem f_drawn_in (T : Tx K mg) : ∃ fd, FunD K "drawn_in" "drawn_in" (defArgs s_drawn_in) (defBody s_drawn_in) (defScope s_drawn_in) [] [] 391 fd := T.fn 46 d_drawn_in rfl
theorem f_Registers_init (T : Tx K mg) : ∃ fd, FunD K "__init__" "Registers.__init__" (defArgs s_Registers_init) (defBody s_Registers_init) (defScope s_Registers_init) [] [] 405 fd := T.fn 47 d_Registers_init rfl
theorem f_Registers_set_a (T : Tx K mg) : ∃ fd, FunD K "set_a" "Registers.set_a" (defArgs s_Registers_set_a) (defBody s_Registers_set_a) (defScope s_Registers_set_a) [] [] 412 fd := T.fn 48 d_Registers_set_a rfl
theorem f_Registers_set_x (T : Tx K mg) : ∃ fd, FunD K "set_x" "Registers.set_x" (defArgs s_Registers_set_x) (defBody s_Registers_set_x) (defScope s_Registers_set_x) [] [] 419 fd := T.fn 49 d_Registers_set_x rfl
theorem f_Registers_store (T : Tx K mg) : ∃ fd, FunD K "store" "Registers.store" (defArgs s_Registers_store) (defBody s_Registers_store) (defScope s_Registers_store) [] [] 426 fd := T.fn 50 d_Registers_store rfl
theorem f_Registers_do_byte (T : Tx K mg) : ∃ fd, FunD K "do_byte" "Registers.do_byte" (defArgs s_Registers_do_byte) (defBody s_Registers_do_byte) (defScope s_Registers_do_byte) [] [] 433 fd := T.fn 51 d_Registers_do_byte rfl
theorem f_Registers_do_sum (T : Tx K mg) : ∃ fd, FunD K "do_sum" "Registers.do_sum" (defArgs s_Registers_do_sum) (defBody s_Registers_do_sum) (defScope s_Registers_do_sum) [] [] 440 fd := T.fn 52 d_Registers_do_sum rfl
theorem f_Registers_do_bits (T : Tx K mg) : ∃ fd, FunD K "do_bits" "Registers.do_bits" (defArgs s_Registers_do_bits) (defBody s_Registers_do_bits) (defScope s_Registers_do_bits) [] [] 447 fd := T.fn 53 d_Registers_do_bits rfl
theorem f_Registers_do_store (T : Tx K mg) : ∃ fd, FunD K "do_store" "Registers.do_store" (defArgs s_Registers_do_store) (defBody s_Registers_do_store) (defScope s_Registers_do_store) [] [] 454 fd := T.fn 54 d_Registers_do_store rfl
theorem f_Registers_do_memory (T : Tx K mg) : ∃ fd, FunD K "do_memory" "Registers.do_memory" (defArgs s_Registers_do_memory) (defBody s_Registers_do_memory) (defScope s_Registers_do_memory) [] [] 461 fd := T.fn 55 d_Registers_do_memory rfl
theorem f_Registers_do_plain (T : Tx K mg) : ∃ fd, FunD K "do_plain" "Registers.do_plain" (defArgs s_Registers_do_plain) (defBody s_Registers_do_plain) (defScope s_Registers_do_plain) [] [] 468 fd := T.fn 56 d_Registers_do_plain rfl
theorem f_Registers_goes (T : Tx K mg) : ∃ fd, FunD K "goes" "Registers.goes" (defArgs s_Registers_goes) (defBody s_Registers_goes) (defScope s_Registers_goes) [] [] 475 fd := T.fn 57 d_Registers_goes rfl
theorem f_table_byte (T : Tx K mg) : ∃ fd, FunD K "table_byte" "table_byte" (defArgs s_table_byte) (defBody s_table_byte) (defScope s_table_byte) [] [] 489 fd := T.fn 58 d_table_byte rfl
theorem f_way_sign (T : Tx K mg) : ∃ fd, FunD K "way_sign" "way_sign" (defArgs s_way_sign) (defBody s_way_sign) (defScope s_way_sign) [] [] 496 fd := T.fn 59 d_way_sign rfl
theorem f_at_sign (T : Tx K mg) : ∃ fd, FunD K "at_sign" "at_sign" (defArgs s_at_sign) (defBody s_at_sign) (defScope s_at_sign) [] [] 503 fd := T.fn 60 d_at_sign rfl
theorem f_beats_of (T : Tx K mg) : ∃ fd, FunD K "beats_of" "beats_of" (defArgs s_beats_of) (defBody s_beats_of) (defScope s_beats_of) [] [] 510 fd := T.fn 61 d_beats_of rfl
theorem f_deed_done (T : Tx K mg) : ∃ fd, FunD K "deed_done" "deed_done" (defArgs s_deed_done) (defBody s_deed_done) (defScope s_deed_done) [] [] 517 fd := T.fn 62 d_deed_done rfl
theorem f_Playing_init (T : Tx K mg) : ∃ fd, FunD K "__init__" "Playing.__init__" (defArgs s_Playing_init) (defBody s_Playing_init) (defScope s_Playing_init) [] [] 531 fd := T.fn 63 d_Playing_init rfl
theorem f_Playing_line_beat (T : Tx K mg) : ∃ fd, FunD K "line_beat" "Playing.line_beat" (defArgs s_Playing_line_beat) (defBody s_Playing_line_beat) (defScope s_Playing_line_beat) [] [] 538 fd := T.fn 64 d_Playing_line_beat rfl
theorem f_Playing_draw (T : Tx K mg) : ∃ fd, FunD K "draw" "Playing.draw" (defArgs s_Playing_draw) (defBody s_Playing_draw) (defScope s_Playing_draw) [] [] 545 fd := T.fn 65 d_Playing_draw rfl
theorem f_Playing_end_beat (T : Tx K mg) : ∃ fd, FunD K "end_beat" "Playing.end_beat" (defArgs s_Playing_end_beat) (defBody s_Playing_end_beat) (defScope s_Playing_end_beat) [] [] 552 fd := T.fn 66 d_Playing_end_beat rfl
theorem f_Playing_next_beat (T : Tx K mg) : ∃ fd, FunD K "next_beat" "Playing.next_beat" (defArgs s_Playing_next_beat) (defBody s_Playing_next_beat) (defScope s_Playing_next_beat) [] [] 559 fd := T.fn 67 d_Playing_next_beat rfl
theorem f_Playing_pass_beats (T : Tx K mg) : ∃ fd, FunD K "pass_beats" "Playing.pass_beats" (defArgs s_Playing_pass_beats) (defBody s_Playing_pass_beats) (defScope s_Playing_pass_beats) [] [] 566 fd := T.fn 68 d_Playing_pass_beats rfl
theorem f_Playing_pass_line (T : Tx K mg) : ∃ fd, FunD K "pass_line" "Playing.pass_line" (defArgs s_Playing_pass_line) (defBody s_Playing_pass_line) (defScope s_Playing_pass_line) [] [] 573 fd := T.fn 69 d_Playing_pass_line rfl
theorem f_Playing_eye (T : Tx K mg) : ∃ fd, FunD K "eye" "Playing.eye" (defArgs s_Playing_eye) (defBody s_Playing_eye) (defScope s_Playing_eye) [] [] 580 fd := T.fn 70 d_Playing_eye rfl
theorem f_Playing_write (T : Tx K mg) : ∃ fd, FunD K "write" "Playing.write" (defArgs s_Playing_write) (defBody s_Playing_write) (defScope s_Playing_write) [] [] 587 fd := T.fn 71 d_Playing_write rfl
theorem f_Playing_do_row (T : Tx K mg) : ∃ fd, FunD K "do_row" "Playing.do_row" (defArgs s_Playing_do_row) (defBody s_Playing_do_row) (defScope s_Playing_do_row) [] [] 594 fd := T.fn 72 d_Playing_do_row rfl
theorem f_Playing_wait_on (T : Tx K mg) : ∃ fd, FunD K "wait_on" "Playing.wait_on" (defArgs s_Playing_wait_on) (defBody s_Playing_wait_on) (defScope s_Playing_wait_on) [] [] 601 fd := T.fn 73 d_Playing_wait_on rfl
theorem f_Playing_play (T : Tx K mg) : ∃ fd, FunD K "play" "Playing.play" (defArgs s_Playing_play) (defBody s_Playing_play) (defScope s_Playing_play) [] [] 608 fd := T.fn 74 d_Playing_play rfl
theorem f_Playing_picture (T : Tx K mg) : ∃ fd, FunD K "picture" "Playing.picture" (defArgs s_Playing_picture) (defBody s_Playing_picture) (defScope s_Playing_picture) [] [] 613 fd := T.fn 75 d_Playing_picture rfl
theorem f_Playing_log (T : Tx K mg) : ∃ fd, FunD K "log" "Playing.log" (defArgs s_Playing_log) (defBody s_Playing_log) (defScope s_Playing_log) [] [] 618 fd := T.fn 76 d_Playing_log rfl
theorem f_Playing_state (T : Tx K mg) : ∃ fd, FunD K "state" "Playing.state" (defArgs s_Playing_state) (defBody s_Playing_state) (defScope s_Playing_state) [] [] 625 fd := T.fn 77 d_Playing_state rfl
theorem f_frame (T : Tx K mg) : ∃ fd, FunD K "frame" "frame" (defArgs s_frame) (defBody s_frame) (defScope s_frame) [] [] 639 fd := T.fn 78 d_frame rfl
theorem f_hands_of (T : Tx K mg) : ∃ fd, FunD K "hands_of" "hands_of" (defArgs s_hands_of) (defBody s_hands_of) (defScope s_hands_of) [] [] 647 fd := T.fn 79 d_hands_of rfl
theorem f_run (T : Tx K mg) : ∃ fd, FunD K "run" "run" (defArgs s_run) (defBody s_run) (defScope s_run) [] [] 654 fd := T.fn 80 d_run rfl
theorem f_l_mixed (T : Tx K mg) : ∃ fd, FunD K "_law_mixed" "_law_mixed" (defArgs s_l_mixed) (defBody s_l_mixed) (defScope s_l_mixed) [] [] 661 fd := T.fn 81 d_l_mixed rfl
theorem f_l_deck (T : Tx K mg) : ∃ fd, FunD K "_law_deck" "_law_deck" (defArgs s_l_deck) (defBody s_l_deck) (defScope s_l_deck) [] [] 666 fd := T.fn 82 d_l_deck rfl
theorem f_l_next (T : Tx K mg) : ∃ fd, FunD K "_law_next" "_law_next" (defArgs s_l_next) (defBody s_l_next) (defScope s_l_next) [] [] 673 fd := T.fn 83 d_l_next rfl
theorem f_l_deeds (T : Tx K mg) : ∃ fd, FunD K "_law_deeds" "_law_deeds" (defArgs s_l_deeds) (defBody s_l_deeds) (defScope s_l_deeds) [] [] 680 fd := T.fn 84 d_l_deeds rfl
theorem f_l_most (T : Tx K mg) : ∃ fd, FunD K "_law_most" "_law_most" (defArgs s_l_most) (defBody s_l_most) (defScope s_l_most) [] [] 687 fd := T.fn 85 d_l_most rfl
theorem f_l_long (T : Tx K mg) : ∃ fd, FunD K "_law_long" "_law_long" (defArgs s_l_long) (defBody s_l_long) (defScope s_l_long) [] [] 694 fd := T.fn 86 d_l_long rfl
theorem f_l_beats (T : Tx K mg) : ∃ fd, FunD K "_law_beats" "_law_beats" (defArgs s_l_beats) (defBody s_l_beats) (defScope s_l_beats) [] [] 701 fd := T.fn 87 d_l_beats rfl
theorem f_l_name (T : Tx K mg) : ∃ fd, FunD K "_law_name" "_law_name" (defArgs s_l_name) (defBody s_l_name) (defScope s_l_name) [] [] 708 fd := T.fn 88 d_l_name rfl
theorem f_l_value (T : Tx K mg) : ∃ fd, FunD K "_law_value" "_law_value" (defArgs s_l_value) (defBody s_l_value) (defScope s_l_value) [] [] 715 fd := T.fn 89 d_l_value rfl
theorem f_l_straight (T : Tx K mg) : ∃ fd, FunD K "_law_straight" "_law_straight" (defArgs s_l_straight) (defBody s_l_straight) (defScope s_l_straight) [] [] 722 fd := T.fn 90 d_l_straight rfl
theorem f_l_block (T : Tx K mg) : ∃ fd, FunD K "_law_block" "_law_block" (defArgs s_l_block) (defBody s_l_block) (defScope s_l_block) [] [] 729 fd := T.fn 91 d_l_block rfl
theorem f_l_running (T : Tx K mg) : ∃ fd, FunD K "_law_running" "_law_running" (defArgs s_l_running) (defBody s_l_running) (defScope s_l_running) [] [] 736 fd := T.fn 92 d_l_running rfl
theorem f_l_tale (T : Tx K mg) : ∃ fd, FunD K "_law_tale" "_law_tale" (defArgs s_l_tale) (defBody s_l_tale) (defScope s_l_tale) [] [] 741 fd := T.fn 93 d_l_tale rfl
theorem f_l_places (T : Tx K mg) : ∃ fd, FunD K "_law_places" "_law_places" (defArgs s_l_places) (defBody s_l_places) (defScope s_l_places) [] [] 748 fd := T.fn 94 d_l_places rfl
theorem f_l_whole_long (T : Tx K mg) : ∃ fd, FunD K "_law_whole_long" "_law_whole_long" (defArgs s_l_whole_long) (defBody s_l_whole_long) (defScope s_l_whole_long) [] [] 753 fd := T.fn 95 d_l_whole_long rfl
theorem f_l_end (T : Tx K mg) : ∃ fd, FunD K "_law_end" "_law_end" (defArgs s_l_end) (defBody s_l_end) (defScope s_l_end) [] [] 758 fd := T.fn 96 d_l_end rfl
theorem f_l_base (T : Tx K mg) : ∃ fd, FunD K "_law_base" "_law_base" (defArgs s_l_base) (defBody s_l_base) (defScope s_l_base) [] [] 765 fd := T.fn 97 d_l_base rfl
theorem f_l_steps (T : Tx K mg) : ∃ fd, FunD K "_law_steps" "_law_steps" (defArgs s_l_steps) (defBody s_l_steps) (defScope s_l_steps) [] [] 772 fd := T.fn 98 d_l_steps rfl
theorem f_l_sum (T : Tx K mg) : ∃ fd, FunD K "_law_sum" "_law_sum" (defArgs s_l_sum) (defBody s_l_sum) (defScope s_l_sum) [] [] 777 fd := T.fn 99 d_l_sum rfl
theorem f_l_is_way (T : Tx K mg) : ∃ fd, FunD K "_law_is_way" "_law_is_way" (defArgs s_l_is_way) (defBody s_l_is_way) (defScope s_l_is_way) [] [] 782 fd := T.fn 100 d_l_is_way rfl
theorem f_l_begun (T : Tx K mg) : ∃ fd, FunD K "_law_begun" "_law_begun" (defArgs s_l_begun) (defBody s_l_begun) (defScope s_l_begun) [] [] 789 fd := T.fn 101 d_l_begun rfl
theorem f_l_behind_one (T : Tx K mg) : ∃ fd, FunD K "_law_behind_one" "_law_behind_one" (defArgs s_l_behind_one) (defBody s_l_behind_one) (defScope s_l_behind_one) [] [] 796 fd := T.fn 102 d_l_behind_one rfl
theorem f_l_holds (T : Tx K mg) : ∃ fd, FunD K "_law_holds" "_law_holds" (defArgs s_l_holds) (defBody s_l_holds) (defScope s_l_holds) [] [] 803 fd := T.fn 103 d_l_holds rfl
theorem f_l_turning (T : Tx K mg) : ∃ fd, FunD K "_law_turning" "_law_turning" (defArgs s_l_turning) (defBody s_l_turning) (defScope s_l_turning) [] [] 810 fd := T.fn 104 d_l_turning rfl
theorem f_law (T : Tx K mg) : ∃ fd, FunD K "law" "law" (defArgs s_law) (defBody s_law) (defScope s_law) [] [] 815 fd := T.fn 105 d_law rfl
end

end Bm
set_option Elab.async false
set_option linter.all false
set_option maxRecDepth 100000
set_option maxHeartbeats 0
namespace Bm
open PySem PySem.Spec PyProof.Rows L2
/-! ### the head's run, the end -/
abbrev hk : PySem.W.Hook := hookY asL fn exv
def ob (s : PySem.W.SharedT) : AlY := obsYG asL fn exv (HandSHeadRun.getT s)
theorem ob_eq (s : PySem.W.SharedT) : ob s = hk.obs s.abs := obsYG_eq (HandSHeadRun.getT_eq s)
theorem run_top (w : World) : HandSHeadRun.RunEq R (PySem.W.view R.prog [123]) hk ob 20000 loose w := by
  intro os
  kernel_rfl
def lawLevel : Nat := 14
def spLaw (K : PySem.W.Frag) : Sp := fun vs H Q _ => ∃ (a : Addr) (ns : List Int), vs = [.ref a] ∧ SqL K H a (ns.map V.int) ∧ ns.length ≤ 63 ∧ ∀ H', Q (.bl true) H'
end Bm
section
open PySem PySem.W PySem.Calls PyProof.Rows
theorem Bm.holds_of (facts : ∀ (P : PySem.Program) (w : PySem.World) (K : PySem.W.Frag) (h : PySem.Heap) (mg : PySem.Str → Option PySem.Value) (f : PySem.Addr), K.In h → h.Ns PySem.mainGlobals mg → mg ("law" : PySem.Str) = some (.ref f) → Bm.SaysY Bm.fn Bm.exv K →
    ∃ fd : PySem.FuncData, (∀ (s : PySem.Shared) (v : PySem.Value), BindsTo s fd ⟨[v], []⟩ [("_law_script", v)]) ∧ ∀ base : PySem.Heap, K.In base → base.Ns PySem.mainGlobals mg → L2.FnOk P w K mg base L2.CX0 Bm.lawLevel f fd ["_law_script"] (Bm.spLaw K)) :
    PySem.Challenge.rw_beamrows_k93_whole_spans_and_runs.Holds := by
  w_on; o_law
  refine HandSHeadRun.head_any (r := OpenLaw.row PySem.Challenge.rw_beamrows_k93_whole_spans_and_runs) (q := view (OpenLaw.row PySem.Challenge.rw_beamrows_k93_whole_spans_and_runs).prog [123]) (H := Bm.hk) (ob := Bm.ob) (M := 20000) (loose := Bm.loose) (d := HandSHeadRun.topDef (OpenLaw.row PySem.Challenge.rw_beamrows_k93_whole_spans_and_runs).prog 123) (kwd := []) Bm.ob_eq
    (by kernel_rfl) (fun s => by kernel_rfl) Bm.run_top (by kernel_rfl) (by kernel_rfl) (by kernel_rfl) (by rfl) (by first | assumption | decide +kernel) (by decide +kernel) ⟨rfl, rfl, rfl, rfl, rfl, by decide +kernel⟩ ?hw ?hc
  case hw => w_witness2
  case hc =>
    refine L2.walk_ofE (l := PySem.Challenge.rw_beamrows_k93_whole_spans_and_runs) (n := 63) (k := Bm.lawLevel) (x := "_law_script") (CX := L2.CX0) rfl (by decide) (by kernel_rfl) ⟨rfl, by decide, by decide⟩ ?F (fun _ _ _ _ z => z)
    intro w mg fa h Y G hmg0
    obtain ⟨K, KX, c⟩ := Y
    have hmg : mg ("law" : PySem.Str) = some (.ref fa) := by
      have e : (HandSHeadRun.topDef (OpenLaw.row PySem.Challenge.rw_beamrows_k93_whole_spans_and_runs).prog 123).name = ("law" : PySem.Str) := by kernel_rfl
      rw [← e]
      exact hmg0
    obtain ⟨fd, hb, hF⟩ := facts (PySem.Challenge.rw_beamrows_k93_whole_spans_and_runs).prog w K h mg fa KX G hmg c
    exact ⟨K, fd, Bm.spLaw K, KX, hb, fun H a ns hl _ hS => ⟨a, ns, rfl, hS, hl, fun _ => rfl⟩, hF⟩
end
set_option Elab.async false
set_option linter.all false
set_option maxRecDepth 100000
set_option maxHeartbeats 1000000
namespace Bm
open PySem PySem.Spec PyProof.Rows L2
open Evl (given given_yes given_no given_len rMax2 rLenS)
/-! ### a def that keeps a promise, with all that a caller asks -/
def Ok (P : Program) (w : World) (K : PySem.W.Frag) (mg : Str → Option Value) (base : Heap) (CX : CXT) (k : Nat) (f : Addr) (ps : List Str) (sp : Sp) : Prop :=
  ∃ fd : FuncData, FnOk P w K mg base CX k f fd ps sp ∧ Binds K fd ps [] ∧ PySem.W.keepIn K (.ref f) = true
section
variable {P : Program} {w : World} {K : PySem.W.Frag} {mg : Str → Option Value} {base : Heap} {name qual : Str} {params : Arguments} {body : List Stmt} {scope : Scope} {f : Addr} {N ps : List Str} {sp : Sp}
abbrev BindOk (name qual : Str) (params : Arguments) (body : List Stmt) (scope : Scope) (ps : List Str) : Prop :=
  ∀ (kV doc pm : Value) (an : Option Addr) (cdv ct : Value) (us : List Value), us.length = ps.length → bindArgs (PySem.W.fnOf name qual params body scope .none kV doc pm an cdv ct) ⟨us, []⟩ = pure (ps.zip us)
theorem ok0 (k : Nat) (F : ∃ fd, FunD K name qual params body scope [] [] f fd) (S : FnScope N ps scope) (hb : BindOk name qual params body scope ps) (len : ∀ vs H Q E, sp vs H Q E → vs.length = ps.length)
    (hbody : ∀ (cdv : Value) (A : Around) (outer : List Env) (s : Shared) (H : Hp) (vs : List V) (Q : VK) (E : XK), Room k (A.deeper (envOfC qual scope s.heap.objs.size f cdv)) → sp vs H Q E →
      ∃ t, PSs (cxOf CX0 P w K mg base N qual scope f cdv A outer s H E).nox body t ∧ t { nx := fun _ H' => Q .non H', rt := Q } (L2.start N vs) H) : Ok P w K mg base CX0 (k + 1) f ps sp := by
  obtain ⟨fd, F⟩ := F
  refine ⟨fd, F.ok S len fun cdv A outer s H vs Q E hr h => ?_, F.bindsN hb, F.kp⟩
  obtain ⟨t, h1, h2⟩ := hbody cdv A outer s H vs Q E hr h
  exact ⟨t, h1.nox, h2⟩
theorem okX (k : Nat) (F : ∃ fd, FunD K name qual params body scope [] [] f fd) (S : FnScope N ps scope) (hb : BindOk name qual params body scope ps) (len : ∀ vs H Q E, sp vs H Q E → vs.length = ps.length)
    (hbody : ∀ (cdv : Value) (A : Around) (outer : List Env) (s : Shared) (H : Hp) (vs : List V) (Q : VK) (E : XK), Room k (A.deeper (envOfC qual scope s.heap.objs.size f cdv)) → sp vs H Q E →
      ∃ t, PSs (cxOf (L2.CX P w) P w K mg base N qual scope f cdv A outer s H E) body t ∧ t { nx := fun _ H' => Q .non H', rt := Q } (L2.start N vs) H) : Ok P w K mg base (L2.CX P w) (k + 1) f ps sp := by
  obtain ⟨fd, F⟩ := F
  exact ⟨fd, F.ok S len fun cdv A outer s H vs Q E hr h => hbody cdv A outer s H vs Q E hr h, F.bindsN hb, F.kp⟩
theorem Ok.imp {CX : CXT} {k : Nat} {sp sp' : Sp} (h : Ok P w K mg base CX k f ps sp) (i : ∀ vs H Q E, sp' vs H Q E → sp vs H Q E) : Ok P w K mg base CX k f ps sp' := by
  obtain ⟨fd, F, b, kp⟩ := h
  exact ⟨fd, F.imp i, b, kp⟩
end
section
variable {X : Cx} {CX : CXT} {k : Nat} {f C : Addr} {ps : List Str} {sp : Sp} {x m : Str} {e o : Expr} {es : List Expr} {p pos apos : Pos} {t : TA} {ta : TE} {E : XK}
theorem pc (h : Ok X.prog X.w X.K X.mg X.base CX k f ps sp) (hr : Room k X.A) (hg : Gl X x) (hm : X.mg x = some (.ref f)) (hx : Passes CX X E) (ha : PA X (e :: es) t) (hdb : (x == ("__debug__" : Str)) = false := by decide)
    (he : starEach (e :: es) X.env = (false, eval e X.env) :: starEach es X.env := by rfl) (hpl : (backTo pos (starEach es X.env)).any (·.1) = false := by rfl) : PE X (.Call (.Name x p) (e :: es) [] pos) (tCall sp [] E t) := by
  obtain ⟨fd, F, b, kp⟩ := h
  exact pe_call F hr hg hm kp b .nil hx ha hdb he hpl
theorem pc0 (h : Ok X.prog X.w X.K X.mg X.base CX k f ps sp) (hr : Room k X.A) (hg : Gl X x) (hm : X.mg x = some (.ref f)) (hx : Passes CX X E) (hdb : (x == ("__debug__" : Str)) = false := by decide) : PE X (.Call (.Name x p) [] [] pos) (tCall sp [] E tNil) := by
  obtain ⟨fd, F, b, kp⟩ := h
  exact pe_call0 F hr hg hm kp b .nil hx hdb
end
section
variable {X : Cx} {CX : CXT} {k : Nat} {f C : Addr} {ps : List Str} {sp : Sp} {x m : Str} {e o : Expr} {es : List Expr} {p pos apos : Pos} {t : TA} {ta : TE} {E : XK} {pl : Sem Bool}
theorem pm (h : Ok X.prog X.w X.K X.mg X.base CX k f ps sp) (hr : Room k X.A) (c : Cls X.K C) (hm : Meth X.K C m f) (hx : Passes CX X E) (he : PE X o ta) (ha : PA X (e :: es) t)
    (hst : starEach (e :: es) X.env = (false, eval e X.env) :: starEach es X.env := by rfl) (hpl : (backTo pos (starEach es X.env)).any (·.1) = false := by rfl)
    (ht : eval (.Call (.Attribute o m apos) (e :: es) [] pos) X.env = (do
      let ov ← eval o X.env
      standAt apos.atName
      let (f, first) ← holding [ov] (getMethod ov m pl)
      callWith pos f first (backTo pos (starEach (e :: es) X.env)) (backToKw pos (keywordEach [] X.env))) := by rfl) : PE X (.Call (.Attribute o m apos) (e :: es) [] pos) (tMeth C m sp [] E ta t) := by
  obtain ⟨fd, F, b, kp⟩ := h
  exact pe_meth he c hm F hr b .nil hx ha hst hpl ht
theorem pm0 (h : Ok X.prog X.w X.K X.mg X.base CX k f ps sp) (hr : Room k X.A) (c : Cls X.K C) (hm : Meth X.K C m f) (hx : Passes CX X E) (he : PE X o ta)
    (ht : eval (.Call (.Attribute o m apos) [] [] pos) X.env = (do
      let ov ← eval o X.env
      standAt apos.atName
      let (f, first) ← holding [ov] (getMethod ov m pl)
      callWith pos f first (backTo pos (starEach [] X.env)) (backToKw pos (keywordEach [] X.env))) := by rfl) : PE X (.Call (.Attribute o m apos) [] [] pos) (tMeth C m sp [] E ta tNil) := by
  obtain ⟨fd, F, b, kp⟩ := h
  exact pe_meth0 he c hm F hr b .nil hx ht
theorem pmk (h : Ok X.prog X.w X.K X.mg X.base CX k f ps sp) (hr : Room (k + 1) X.A) (M : Mk X.K C f) (hg : Gl X x) (hm : X.mg x = some (.ref C)) (hx : Passes CX X E) (ha : PA X (e :: es) t) (hdb : (x == ("__debug__" : Str)) = false := by decide)
    (he : starEach (e :: es) X.env = (false, eval e X.env) :: starEach es X.env := by rfl) (hpl : (backTo pos (starEach es X.env)).any (·.1) = false := by rfl) : PE X (.Call (.Name x p) (e :: es) [] pos) (tMake C sp [] E t) := by
  obtain ⟨fd, F, b, kp⟩ := h
  exact pe_make M F hr hg hm b .nil hx ha hdb he hpl
theorem pgi {i : Int} (hm : ∃ t, X.mg x = some (.int i t)) (hg : Gl X x) (hd : (x == ("__debug__" : Str)) = false := by decide) : PE X (.Name x pos) (tC (.int i)) := by
  obtain ⟨t, hm⟩ := hm
  exact pe_glob hg hm ⟨t, rfl⟩ hd
theorem pgr {a : Addr} (hm : X.mg x = some (.ref a)) (hg : Gl X x) (hd : (x == ("__debug__" : Str)) = false := by decide) : PE X (.Name x pos) (tC (.ref a)) := pe_glob hg hm rfl hd
end
/-! ### heaps -/
section
variable {H H' H1 H2 : Hp} {a l p b : Addr} {o o' u u' : HO} {K : PySem.W.Frag} {xs ys : List V}
theorem gS (s : Same H H') (h : H a = some u) : H' a = some u := s a u h
theorem gN (hp : H p = none) (h : H a = some u) : upd H p o a = some u := by rw [upd_ne (ne_of_none h hp)]; exact h
theorem gD (n : a ≠ l) (h : H a = some u) : upd H l o a = some u := by rw [upd_ne n]; exact h
theorem gM (hl : H l = some o') (h : H a = some u) (d : u ≠ o') : upd H l o a = some u := gD (ne_of h hl d) h
theorem none_upd (h : upd H l o p = none) : H p = none := by
  unfold upd at h
  split at h
  · cases h
  · exact h
theorem ne_upd (h : upd H l o p = none) : p ≠ l := fun e => by rw [e, upd_same] at h; cases h
theorem same_new (hp : H p = none) : Same H (upd H p o) := fun _ _ h => gN hp h
theorem same_mut (s : Same H H') (hp : H p = none) : Same H (upd H' p o) := fun b u h => by rw [upd_ne (ne_of_none h hp)]; exact s b u h
/-- what can't be written stands -/
def Im (H H' : Hp) : Prop := ∀ b o, H b = some o → ¬ Mut (some o) → H' b = some o
theorem Im.refl (H : Hp) : Im H H := fun _ _ h _ => h
theorem Im.trans (a : Im H H1) (b : Im H1 H2) : Im H H2 := fun c o h n => b c o (a c o h n) n
theorem im_of (s : Same H H') : Im H H' := fun b o h _ => s b o h
theorem Im.new (hp : H p = none) : Im H (upd H p o) := im_of (same_new hp)
theorem Im.mut (hl : H l = some o') (m : Mut (some o')) : Im H (upd H l o) := fun b u h n => by
  rw [upd_ne fun e => n (by rw [e, hl] at h; cases h; exact m)]
  exact h
theorem Im.sqT (i : Im H H') (h : SqT K H a xs) : SqT K H' a xs := by
  rcases h with (h | ⟨ob, h⟩) | h
  · exact .inl (.inl (i _ _ h id))
  · exact .inl (.inr ⟨ob, i _ _ h id⟩)
  · exact .inr h
theorem sqT_same (s : Same H H') (h : SqT K H a xs) : SqT K H' a xs := (im_of s).sqT h
theorem sqT_new (hp : H p = none) (h : SqT K H a xs) : SqT K (upd H p o) a xs := sqT_same (same_new hp) h
theorem sqT_im (i : Im H H') (h : SqT K H a xs) : SqT K H' a xs := i.sqT h
theorem sqL_same (s : Same H H') (h : SqL K H a xs) : SqL K H' a xs := s.seq h
theorem sqL_new (hp : H p = none) (h : SqL K H a xs) : SqL K (upd H p o) a xs := sqL_same (same_new hp) h
theorem im_mk (s : Same H1 H') (m : Mut (some o)) : Im (upd H1 l o) H' := fun c u h n => by
  by_cases e : c = l
  · subst e
    rw [upd_same] at h
    cases h
    exact absurd m n
  · rw [upd_ne e] at h
    exact s c u h
/-- all but some stand -/
def Kept (S : List Addr) (H H' : Hp) : Prop := ∀ b o, b ∉ S → H b = some o → H' b = some o
theorem Kept.same {S : List Addr} (k : Kept S H1 H2) (s : Same H H1) (hS : ∀ b ∈ S, H b = none) : Same H H2 := fun b o h => k b o (fun m => by rw [hS b m] at h; cases h) (s b o h)
theorem Kept.refl {S : List Addr} : Kept S H H := fun _ _ _ h => h
theorem Kept.trans {S : List Addr} (a : Kept S H H1) (b : Kept S H1 H2) : Kept S H H2 := fun c o n h => b c o n (a c o n h)
theorem Kept.of (s : Same H H') {S : List Addr} : Kept S H H' := fun b o _ h => s b o h
theorem Kept.mut {S : List Addr} (hl : l ∈ S) : Kept S H (upd H l o) := fun b u n h => by
  rw [upd_ne fun e => n (by rw [e]; exact hl)]
  exact h
theorem Kept.mono {S S' : List Addr} (k : Kept S H H') (h : ∀ b ∈ S, b ∈ S') : Kept S' H H' := fun b o n e => k b o (fun m => n (h b m)) e
end
theorem tx_tup {K : PySem.W.Frag} {mg : Str → Option Value} (T : Tx K mg) {a : Addr} {xs : List V} (h : tp.lookup a = some xs) (H : Hp) : SqT K H a xs := by
  have hm : ∀ (l : List (Addr × List V)), l.lookup a = some xs → (a, xs) ∈ l := by
    intro l
    induction l with
    | nil => intro h; cases h
    | cons q r ih =>
      intro h
      obtain ⟨b, ys⟩ := q
      rw [List.lookup_cons] at h
      by_cases e : a = b
      · subst e
        simp at h
        rw [h]
        exact List.mem_cons_self
      · have e' : (a == b) = false := by simpa using e
        simp only [e'] at h
        exact List.mem_cons_of_mem _ (ih h)
  obtain ⟨i, hi⟩ := List.getElem?_of_mem (hm tp h)
  exact T.tp i _ hi H
theorem sz {n : Nat} (h : n ≤ 100000) : n ≤ sizeLine := Nat.le_trans h (by decide)
theorem szl {n : Nat} (h : n < 100000) : n < sizeLine := Nat.lt_of_lt_of_le h (by decide)
/-! ### readings, step by step -/
section
variable {σ : L2.St} {H : Hp} {Q : VK} {QL : List V → Hp → Prop} {QB : Bool → Hp → Prop} {QO : Option Int → Hp → Prop} {D : Ends} {ta tb tc : TE} {tr : TA} {r : R2} {t u : TT} {ts tu : TS} {K : PySem.W.Frag} {x y v : V} {i j : Int} {a C dx : Addr} {fs : List (Str × V)} {f : Str} {g : TG}
theorem r_var {i : Nat} (h : σ[i]? = some (some v)) (q : Q v H) : tVar i σ H Q := ⟨v, h, q⟩
theorem r_c (q : Q v H) : tC v σ H Q := q
theorem r_op (h : ta σ H fun x H1 => tb σ H1 fun y H2 => r x y H2 Q) : tOp r ta tb σ H Q := h
theorem r_un {r : V → Hp → VK → Prop} (h : ta σ H fun x H1 => r x H1 Q) : tUn r ta σ H Q := h
theorem r_cb {r : List V → Hp → VK → Prop} (h : tr σ H fun vs H1 => r vs H1 Q) : tCB r tr σ H Q := h
theorem r_call {sp : Sp} {E : XK} (h : tr σ H fun vs H1 => sp vs H1 Q E) : tCall sp [] E tr σ H Q := by
  unfold tCall
  simp only [List.append_nil]
  exact h
theorem r_nil (q : QL [] H) : tNil σ H QL := q
theorem r_cons (h : ta σ H fun x H1 => tr σ H1 fun xs H2 => QL (x :: xs) H2) : tCons ta tr σ H QL := h
theorem r_tup (h : tr σ H fun xs H1 => xs.length ≤ sizeLine ∧ ∀ p, H1 p = none → Q (.ref p) (upd H1 p (.tup xs))) : tTup tr σ H Q := h
theorem r_lst (h : tr σ H fun xs H1 => xs.length ≤ sizeLine ∧ ∀ p, H1 p = none → Q (.ref p) (upd H1 p (.lst xs))) : tLst tr σ H Q := h
theorem r_I0 {g : Int → Int → V} (q : Q (g i j) H) : rI0 g (.int i) (.int j) H Q := ⟨i, j, rfl, rfl, q⟩
theorem r_I {c : Int → Int → Prop} {g : Int → Int → V} (hc : c i j) (q : Q (g i j) H) : rI c g (.int i) (.int j) H Q := ⟨i, j, rfl, rfl, hc, q⟩
theorem r_eq (s : scal x y = true) (q : Q (.bl (decide (x = y))) H) : rEq x y H Q := ⟨s, q⟩
theorem r_ne (s : scal x y = true) (q : Q (.bl (!decide (x = y))) H) : rNe x y H Q := ⟨s, q⟩
theorem r_ixT {p : Addr} {xs : List V} (h : SqT K H p xs) (l : atI xs i = some v) (q : Q v H) : rIxT K (.ref p) (.int i) H Q := ⟨p, xs, i, v, rfl, rfl, h, l, q⟩
theorem r_ixL {p : Addr} {xs : List V} (h : SqL K H p xs) (l : atI xs i = some v) (q : Q v H) : rIxL K (.ref p) (.int i) H Q := ⟨p, xs, i, v, rfl, rfl, h, l, q⟩
theorem r_inT {p : Addr} {xs : List V} (h : SqT K H p xs) (h1 : flatV x = true) (h2 : xs.all flatV = true) (q : Q (.bl (inV x xs)) H) : rIn K false x (.ref p) H Q := ⟨p, xs, rfl, .inr h, h1, h2, q⟩
theorem r_inL {p : Addr} {xs : List V} (h : SqL K H p xs) (h1 : flatV x = true) (h2 : xs.all flatV = true) (q : Q (.bl (inV x xs)) H) : rIn K false x (.ref p) H Q := ⟨p, xs, rfl, .inl h, h1, h2, q⟩
theorem r_fld (h : ta σ H fun x H1 => ∃ a C dx fs v, x = .ref a ∧ H1 a = some (.ins C dx fs) ∧ Cls K C ∧ NoAttr K C f ∧ fs.lookup f = some v ∧ Q v H1) : tFld K ta f σ H Q := h
theorem r_fldE (ea : H a = some (.ins C dx fs)) (c : Cls K C) (n : NoAttr K C f) (l : fs.lookup f = some v) {q : V → Prop} (h : q v) : ∃ a' C dx fs v, V.ref a = .ref a' ∧ H a' = some (.ins C dx fs) ∧ Cls K C ∧ NoAttr K C f ∧ fs.lookup f = some v ∧ q v := ⟨a, C, dx, fs, v, rfl, ea, c, n, l, h⟩
theorem r_test (h : ta σ H fun x H' => ∃ k, x = .bl k ∧ QB k H') : tTest ta σ H QB := h
theorem r_B (h : ta σ H fun x H' => ∃ k, x = .bl k ∧ QB k H') : tB ta σ H QB := h
theorem r_bl {b : Bool} {q : Bool → Prop} (h : q b) : ∃ k, V.bl b = .bl k ∧ q k := ⟨b, rfl, h⟩
theorem r_and (h : t σ H fun c H1 => if c = true then u σ H1 QB else QB false H1) : tAnd t u σ H QB := h
theorem r_or (h : t σ H fun c H1 => if c = true then QB true H1 else u σ H1 QB) : tOr t u σ H QB := h
theorem r_not (h : t σ H fun c H1 => QB (!c) H1) : tNot t σ H QB := h
theorem r_andV (h : ta σ H fun x H1 => ∃ c, x = .bl c ∧ if c = true then tb σ H1 Q else Q (.bl false) H1) : tAndV ta tb σ H Q := h
theorem r_notV (h : ta σ H fun x H1 => ∃ c, x = .bl c ∧ Q (.bl (!c)) H1) : tNotV ta σ H Q := h
theorem r_if (h : t σ H fun c H1 => if c = true then ta σ H1 Q else tb σ H1 Q) : tIf t ta tb σ H Q := h
theorem r_sl {r : V → Option Int → Option Int → Hp → VK → Prop} {tl th : TO} (h : ta σ H fun x H1 => tl σ H1 fun l H2 => th σ H2 fun u H3 => r x l u H3 Q) : tSl r ta tl th σ H Q := h
theorem r_nop (q : QO none H) : tNoPart σ H QO := q
theorem r_part (h : ta σ H fun x H1 => ∃ i, x = .int i ∧ QO (some i) H1) : tPart ta σ H QO := h
theorem r_int {q : Int → Prop} (h : q i) : ∃ k, V.int i = .int k ∧ q k := ⟨i, rfl, h⟩
theorem r_seq (h : ts { D with nx := tu D } σ H) : tSeq ts tu D σ H := h
theorem r_asg (h : ta σ H fun x H1 => g x σ H1 D.nx) : tAsg ta g D σ H := h
theorem r_name {i : Nat} {QS : L2.St → Hp → Prop} (q : QS (σ.set i (some v)) H) : gName i v σ H QS := q
theorem r_nameE {i : Nat} {σ' : L2.St} {QS : L2.St → Hp → Prop} (e : σ.set i (some v) = σ') (q : QS σ' H) : gName i v σ H QS := by
  subst e
  exact q
theorem r_gtup {n : Nat} {tg : TGs} {p : Addr} {xs : List V} {QS : L2.St → Hp → Prop} (h : SqT K H p xs) (l : xs.length = n) (q : tg xs σ H QS) : gTup K n tg (.ref p) σ H QS := ⟨p, xs, rfl, h, l, q⟩
theorem r_gcons {g : TG} {gs : TGs} {xs : List V} {QS : L2.St → Hp → Prop} (h : g x σ H fun σ' H' => gs xs σ' H' QS) : gCons g gs (x :: xs) σ H QS := ⟨x, xs, rfl, h⟩
theorem r_gnil {QS : L2.St → Hp → Prop} (q : QS σ H) : gNil [] σ H QS := ⟨rfl, q⟩
theorem r_drop (h : ta σ H fun _ H1 => D.nx σ H1) : tDrop ta D σ H := h
theorem r_ret (h : ta σ H D.rt) : tRet ta D σ H := h
theorem r_retN (h : D.rt .non H) : tRetN D σ H := h
theorem r_next (h : D.nx σ H) : tNext D σ H := h
theorem r_ifS (h : t σ H fun b H1 => if b = true then ts D σ H1 else tu D σ H1) : tIfS t ts tu D σ H := h
theorem r_ifT {b : Bool} {A B : Prop} (e : b = true) (h : A) : if b = true then A else B := by rw [if_pos e]; exact h
theorem r_ifF {b : Bool} {A B : Prop} (e : b = false) (h : B) : if b = true then A else B := by rw [e]; exact iteF h
theorem r_ifD {p : Prop} [Decidable p] {A B : Prop} (h1 : p → A) (h2 : ¬ p → B) : if decide p = true then A else B := by
  by_cases h : p
  · exact r_ifT (decide_eq_true h) (h1 h)
  · exact r_ifF (decide_eq_false h) (h2 h)
theorem r_ifN {p : Prop} [Decidable p] {A B : Prop} (h1 : ¬ p → A) (h2 : p → B) : if (!decide p) = true then A else B := by
  by_cases h : p
  · exact r_ifF (by rw [decide_eq_true h]; rfl) (h2 h)
  · exact r_ifT (by rw [decide_eq_false h]; rfl) (h1 h)
theorem r_ifB {b : Bool} {A B : Prop} (h1 : b = true → A) (h2 : b = false → B) : if b = true then A else B := by
  cases b with
  | true => exact iteT (h1 rfl)
  | false => exact iteF (h2 rfl)
theorem r_aug {i : Nat} {ti : TIp} (e : σ[i]? = some (some x)) (h : ta σ H fun y H1 => ti x y H1 fun z H2 => gName i z σ H2 D.nx) : tAug i ta ti D σ H := ⟨x, e, h⟩
theorem r_ipI {f : Int → Int → Int} (q : Q (.int (f i j)) H) : ipI f (.int i) (.int j) H Q := ⟨i, j, rfl, rfl, q⟩
theorem r_sfld {tv : TE} (h : tv σ H fun y H1 => ta σ H1 fun x H2 => ∃ a C dx fs, x = .ref a ∧ H2 a = some (.ins C dx fs) ∧ Cls K C ∧ NoAttr K C f ∧ fs.length < 1000 ∧ D.nx σ (upd H2 a (.ins C dx (putF f y fs)))) : sFld K ta tv f D σ H := h
theorem r_sfldE {y : V} {fs' : List (Str × V)} (ea : H a = some (.ins C dx fs)) (c : Cls K C) (n : NoAttr K C f) (hl : fs.length < 1000) (e : putF f y fs = fs') (q : D.nx σ (upd H a (.ins C dx fs'))) :
    ∃ a' C dx fs, V.ref a = .ref a' ∧ H a' = some (.ins C dx fs) ∧ Cls K C ∧ NoAttr K C f ∧ fs.length < 1000 ∧ D.nx σ (upd H a' (.ins C dx (putF f y fs))) := ⟨a, C, dx, fs, rfl, ea, c, n, hl, by rw [e]; exact q⟩
theorem r_meth {m : Str} {sp : Sp} {E : XK} (h : ta σ H fun x H1 => ∃ a dx fs, x = .ref a ∧ H1 a = some (.ins C dx fs) ∧ fs.lookup m = none ∧ tr σ H1 fun vs H2 => sp (x :: vs) H2 Q E) : tMeth C m sp [] E ta tr σ H Q := by
  unfold tMeth
  simp only [List.append_nil]
  exact h
theorem r_methE {m : Str} {q : Prop} (ea : H a = some (.ins C dx fs)) (l : fs.lookup m = none) (h : q) : ∃ a' dx fs, V.ref a = .ref a' ∧ H a' = some (.ins C dx fs) ∧ fs.lookup m = none ∧ q := ⟨a, dx, fs, rfl, ea, l, h⟩
theorem r_bm {T : String} {r : V → List V → Hp → VK → Prop} (h : ta σ H fun x H1 => tyV K T x H1 ∧ tr σ H1 fun xs H2 => r x xs H2 Q) : tBM K T r ta tr σ H Q := h
theorem r_app {l : Addr} {xs : List V} (hl : H l = some (.lst xs)) (z : xs.length < sizeLine) (q : Q .non (upd H l (.lst (xs ++ [y])))) : rAppend (.ref l) [y] H Q := ⟨l, xs, y, rfl, rfl, hl, z, q⟩
theorem ty_lst {l : Addr} {xs : List V} (h : SqL K H l xs) : tyV K "list" (.ref l) H := .inl ⟨rfl, _, h⟩
/-! named readings -/
def rInt1 : List V → Hp → VK → Prop := fun xs H Q => (∃ i, xs = [.int i] ∧ Q (.int i) H) ∨ ∃ k, xs = [.bl k] ∧ Q (.int (if k then 1 else 0)) H
theorem call_intN {X : Cx} : CallR X (.type "int") rInt1 := call_int1
theorem r_intB {b : Bool} (q : Q (.int (if b then 1 else 0)) H) : rInt1 [.bl b] H Q := .inr ⟨b, rfl, q⟩
theorem call_maxN {X : Cx} (hc : X.calm = true) : CallR X (.builtin "max") rMax2 := call_max2 hc
theorem r_max (q : Q (.int (if j > i then j else i)) H) : rMax2 [.int i, .int j] H Q := ⟨i, j, rfl, q⟩
def rMin2 : List V → Hp → VK → Prop := fun xs H Q => ∃ i j, xs = [.int i, .int j] ∧ Q (.int (if j < i then j else i)) H
theorem call_minN {X : Cx} (hc : X.calm = true) : CallR X (.builtin "min") rMin2 := call_min2 hc
theorem r_min (q : Q (.int (if j < i then j else i)) H) : rMin2 [.int i, .int j] H Q := ⟨i, j, rfl, q⟩
theorem call_lenS {X : Cx} : CallR X (.builtin "len") (rLenS X.K) := call_len_seq
theorem r_lenL {p : Addr} {ys : List V} (h : SqL K H p ys) (q : Q (.int ys.length) H) : rLenS K [.ref p] H Q := ⟨p, ys, rfl, .inl h, q⟩
theorem r_lenT {p : Addr} {ys : List V} (h : SqT K H p ys) (q : Q (.int ys.length) H) : rLenS K [.ref p] H Q := ⟨p, ys, rfl, .inr h, q⟩
def rLstS (K : PySem.W.Frag) : List V → Hp → VK → Prop := fun xs H Q => ∃ p ys, xs = [.ref p] ∧ (SqL K H p ys ∨ SqT K H p ys) ∧ ∀ l, H l = none → Q (.ref l) (upd H l (.lst ys))
theorem call_lstS {X : Cx} : CallR X (.type "list") (rLstS X.K) := call_list_of
def rTupS (K : PySem.W.Frag) : List V → Hp → VK → Prop := fun xs H Q => ∃ p ys, xs = [.ref p] ∧ ((SqL K H p ys ∧ ∀ l, H l = none → Q (.ref l) (upd H l (.tup ys))) ∨ (SqT K H p ys ∧ Q (.ref p) H))
theorem call_tupS {X : Cx} : CallR X (.type "tuple") (rTupS X.K) := call_tuple_of
theorem r_tupL {p : Addr} {ys : List V} (h : SqL K H p ys) (q : ∀ l, H l = none → Q (.ref l) (upd H l (.tup ys))) : rTupS K [.ref p] H Q := ⟨p, ys, rfl, .inl ⟨h, q⟩⟩
theorem op_isN' {X : Cx} : OpR X (compareOp .Is) rIsN := op_isN
theorem r_isN (q : Q (.bl (decide (x = .non))) H) : rIsN x .non H Q := ⟨rfl, q⟩
theorem op_notN' {X : Cx} : OpR X (compareOp .IsNot) rNotN := op_notN
theorem r_notN (q : Q (.bl (!decide (x = .non))) H) : rNotN x .non H Q := ⟨rfl, q⟩
end
/-! ### comprehensions and loops, by what each turn gives -/
theorem given_all (n : Nat) (v : Nat → V) : given n (fun _ => true) v = (List.range n).map v := by
  unfold given
  rw [List.filter_eq_self.mpr (fun _ _ => rfl)]
theorem given_map {α : Type} (xs : List α) (f : α → V) (d : α) : given xs.length (fun _ => true) (fun i => f (xs.getD i d)) = xs.map f := by
  rw [given_all]
  apply List.ext_getElem?
  intro i
  rw [List.getElem?_map, List.getElem?_map]
  by_cases h : i < xs.length
  · rw [List.getElem?_range h, List.getElem?_eq_getElem h]
    simp [List.getD_eq_getElem?_getD, List.getElem?_eq_getElem h]
  · rw [List.getElem?_eq_none_iff.mpr (by rw [List.length_range]; omega), List.getElem?_eq_none_iff.mpr (by omega)]
    rfl
/-- a turn of a comprehension: what it makes of its test and its element -/
abbrev LcTurn (g : TG) (tt : TT) (te : TE) (vs : List Nat) (σ : L2.St) (x : V) (H : Hp) (b : Bool) (y : V) : Prop :=
  ∀ (R : V → Hp → Prop) (R0 : Hp → Prop), (b = true → ∀ H2, Same H H2 → R y H2) → (b = false → ∀ H2, Same H H2 → R0 H2) →
    g x (wipe σ vs) H fun σ2 H2 => wipe σ2 vs = wipe σ vs ∧ tt σ2 H2 fun c H3 => if c = true then te σ2 H3 R else R0 H3
/-! where a comprehension, a loop stands behind its source -/
abbrev LcB (J : It) (g : TG) (tt : TT) (te : TE) (vs : List Nat) (σ : L2.St) (Q : VK) (H1 : Hp) : Prop := ∀ D, H1 D = none → ∃ W : Nat → Nat → Hp → Prop, (∃ m, W 0 m (upd H1 D (.lst []))) ∧ ∀ i m H, W i m H →
  (J.stop i H ∧ Q (.ref D) H) ∨ (J.go i H ∧ ∃ Nx : Hp → Prop, (∀ H', Nx H' → ∃ m', m' < m ∧ W (i + 1) m' H') ∧ ∀ x H', J.yld i H x H' → g x (wipe σ vs) H' fun σ2 H2 => wipe σ2 vs = wipe σ vs ∧ tt σ2 H2 fun b H3 =>
    if b = true then te σ2 H3 fun y H4 => ∃ acc, H4 D = some (.lst acc) ∧ acc.length < sizeLine ∧ Nx (upd H4 D (.lst (acc ++ [y]))) else Nx H3)
def LcL (K : PySem.W.Frag) (g : TG) (tt : TT) (te : TE) (vs : List Nat) (σ : L2.St) (Q : VK) : VK := fun x H1 => ∃ a, x = .ref a ∧ (∃ xs, SqL K H1 a xs) ∧ LcB (Itl K a) g tt te vs σ Q H1
def LcT (K : PySem.W.Frag) (g : TG) (tt : TT) (te : TE) (vs : List Nat) (σ : L2.St) (Q : VK) : VK := fun x H1 => ∃ a, x = .ref a ∧ (∃ xs, SqT K H1 a xs) ∧ LcB (Itt K a) g tt te vs σ Q H1
def LcN (g : TG) (tt : TT) (te : TE) (vs : List Nat) (σ : L2.St) (Q : VK) : List V → Hp → Prop := fun ws H1 => ∃ j : Int, ws = [.int j] ∧ -(2 ^ 62) ≤ j ∧ j < 2 ^ 62 ∧ LcB (Itr 0 j.toNat) g tt te vs σ Q H1
abbrev ForB (J : It) (g : TG) (tb : TS) (D : Ends) (σ : L2.St) (H1 : Hp) : Prop := ∃ W : Nat → Nat → L2.St → Hp → Prop, (∃ m, W 0 m σ H1) ∧ ∀ i m σ H, W i m σ H →
  (J.stop i H ∧ D.nx σ H) ∨ (J.go i H ∧ ∃ N : L2.St → Hp → Prop, (∀ σ' H', N σ' H' → ∃ m', m' < m ∧ W (i + 1) m' σ' H') ∧ ∀ x H', J.yld i H x H' → g x σ H' fun σ2 H2 => tb { D with nx := N, ct := N, bk := D.nx } σ2 H2)
def ForL (K : PySem.W.Frag) (g : TG) (tb : TS) (D : Ends) (σ : L2.St) : VK := fun x H1 => ∃ a, x = .ref a ∧ (∃ xs, SqL K H1 a xs) ∧ ForB (Itl K a) g tb D σ H1
def ForT (K : PySem.W.Frag) (g : TG) (tb : TS) (D : Ends) (σ : L2.St) : VK := fun x H1 => ∃ a, x = .ref a ∧ (∃ xs, SqT K H1 a xs) ∧ ForB (Itt K a) g tb D σ H1
def ForN (g : TG) (tb : TS) (D : Ends) (σ : L2.St) : List V → Hp → Prop := fun ws H1 => ∃ j : Int, ws = [.int j] ∧ -(2 ^ 62) ≤ j ∧ j < 2 ^ 62 ∧ ForB (Itr 0 j.toNat) g tb D σ H1
section
variable {K : PySem.W.Frag} {σ : L2.St} {H : Hp} {Q : VK} {g : TG} {tt : TT} {te tl : TE} {vs : List Nat} {a : Addr} {xs : List V} {ta : TA} {tb : TS} {D : Ends}
theorem r_lcl (h : tl σ H (LcL K g tt te vs σ Q)) : tLc (iList K tl) g tt te vs σ H Q := h
theorem r_lct (h : tl σ H (LcT K g tt te vs σ Q)) : tLc (iTup K tl) g tt te vs σ H Q := h
theorem r_lcn (h : ta σ H (LcN g tt te vs σ Q)) : tLc (iRng1 ta) g tt te vs σ H Q := h
theorem r_forl (h : tl σ H (ForL K g tb D σ)) : tFor (iList K tl) g tb D σ H := h
theorem r_fort (h : tl σ H (ForT K g tb D σ)) : tFor (iTup K tl) g tb D σ H := h
theorem r_forn (h : ta σ H (ForN g tb D σ)) : tFor (iRng1 ta) g tb D σ H := h
/-- comprehensions whose elements are told by a relation that lists' changes leave -/
structure LcR (R : Nat → V → Hp → Prop) : Prop where
  same : ∀ {i v H H'}, R i v H → Same H H' → R i v H'
  put : ∀ {i v H D xs ys}, R i v H → H D = some (.lst xs) → R i v (upd H D (.lst ys))
abbrev LcTurnR (g : TG) (tt : TT) (te : TE) (vs : List Nat) (σ : L2.St) (x : V) (H : Hp) (R : V → Hp → Prop) : Prop :=
  ∀ (Rk : V → Hp → Prop) (R0 : Hp → Prop), (∀ v H2, Same H H2 → R v H2 → Rk v H2) → g x (wipe σ vs) H fun σ2 H2 => wipe σ2 vs = wipe σ vs ∧ tt σ2 H2 fun c H3 => if c = true then te σ2 H3 Rk else R0 H3
def LcAcc (R : Nat → V → Hp → Prop) (D : Addr) (n : Nat) (H : Hp) : Prop := ∃ ws : List V, H D = some (.lst ws) ∧ ws.length = n ∧ ∀ i v, ws[i]? = some v → R i v H
theorem LcAcc.put {R : Nat → V → Hp → Prop} (L : LcR R) {D : Addr} {n : Nat} {H H2 : Hp} {v : V} (h : LcAcc R D n H) (s : Same H H2) (hv : R n v H2) (hn : n < 50000) :
    ∃ acc, H2 D = some (.lst acc) ∧ acc.length < sizeLine ∧ LcAcc R D (n + 1) (upd H2 D (.lst (acc ++ [v]))) := by
  obtain ⟨ws, h1, h2, h3⟩ := h
  refine ⟨ws, s _ _ h1, szl (by omega), ws ++ [v], upd_same, by rw [List.length_append, h2]; rfl, fun i u hi => ?_⟩
  refine L.put ?_ (s _ _ h1)
  by_cases hl : i < ws.length
  · rw [List.getElem?_append_left hl] at hi
    exact L.same (h3 i u hi) s
  · have hz := (List.getElem?_eq_some_iff.mp hi).1
    rw [List.length_append] at hz
    have e : i = ws.length := by simp at hz; omega
    subst e
    rw [List.getElem?_append_right (Nat.le_refl _)] at hi
    simp at hi
    rw [← hi, h2]
    exact hv
theorem lcT_r {R : Nat → V → Hp → Prop} (L : LcR R) (hx : SqT K H a xs) (hz : xs.length ≤ 10000)
    (turn : ∀ (i : Nat) (x : V) (H' : Hp), xs[i]? = some x → Same H H' → LcTurnR g tt te vs σ x H' (R i)) (k : ∀ D H' ws, H D = none → Same H H' → H' D = some (.lst ws) → ws.length = xs.length → (∀ i v, ws[i]? = some v → R i v H') → Q (.ref D) H') : LcT K g tt te vs σ Q (.ref a) H := by
  refine ⟨a, rfl, ⟨xs, hx⟩, fun D hD => ?_⟩
  refine lc_tup (xs := xs) (fun i H' => Same H H' ∧ LcAcc R D i H') ⟨same_new hD, [], upd_same, rfl, fun i v hi => by simp at hi⟩ (fun i H' _ p => sqT_same p.1 hx) ?_ (fun H' p => ?_)
  · rintro i x H' hi ⟨s, hd⟩
    have hi' := (List.getElem?_eq_some_iff.mp hi).1
    refine turn i x H' hi s _ _ fun v H2 s2 hv => ?_
    obtain ⟨acc, e1, e2, e3⟩ := hd.put L s2 hv (by omega)
    exact ⟨acc, e1, e2, same_mut (s.trans s2) hD, e3⟩
  · obtain ⟨s, ws, e1, e2, e3⟩ := p
    exact k D H' ws hD s e1 e2 e3
theorem lcL_r {R : Nat → V → Hp → Prop} (L : LcR R) (hx : SqL K H a xs) (hz : xs.length ≤ 10000)
    (turn : ∀ (i : Nat) (x : V) (H' : Hp), xs[i]? = some x → Same H H' → LcTurnR g tt te vs σ x H' (R i)) (k : ∀ D H' ws, H D = none → Same H H' → H' D = some (.lst ws) → ws.length = xs.length → (∀ i v, ws[i]? = some v → R i v H') → Q (.ref D) H') : LcL K g tt te vs σ Q (.ref a) H := by
  refine ⟨a, rfl, ⟨xs, hx⟩, fun D hD => ?_⟩
  refine lc_list (xs := xs) (fun i H' => Same H H' ∧ LcAcc R D i H') ⟨same_new hD, [], upd_same, rfl, fun i v hi => by simp at hi⟩ (fun i H' _ p => Same.seq p.1 hx) ?_ (fun H' p => ?_)
  · rintro i x H' hi ⟨s, hd⟩
    have hi' := (List.getElem?_eq_some_iff.mp hi).1
    refine turn i x H' hi s _ _ fun v H2 s2 hv => ?_
    obtain ⟨acc, e1, e2, e3⟩ := hd.put L s2 hv (by omega)
    exact ⟨acc, e1, e2, same_mut (s.trans s2) hD, e3⟩
  · obtain ⟨s, ws, e1, e2, e3⟩ := p
    exact k D H' ws hD s e1 e2 e3
theorem lcN_r {R : Nat → V → Hp → Prop} (L : LcR R) {n : Int} (hn : n ≤ 10000) (hn0 : -10000 ≤ n)
    (turn : ∀ (i : Nat) (H' : Hp), (i : Int) < n → Same H H' → LcTurnR g tt te vs σ (.int (i : Int)) H' (R i)) (k : ∀ D H' ws, H D = none → Same H H' → H' D = some (.lst ws) → ws.length = n.toNat → (∀ i v, ws[i]? = some v → R i v H') → Q (.ref D) H') : LcN g tt te vs σ Q [.int n] H := by
  refine ⟨n, rfl, by omega, by omega, fun D hD => ?_⟩
  refine lc_range (lo := 0) (n := n.toNat) (fun i H' => Same H H' ∧ LcAcc R D i H') ⟨same_new hD, [], upd_same, rfl, fun i v hi => by simp at hi⟩ ?_ (fun H' p => ?_)
  · rintro i H' hi ⟨s, hd⟩
    have e0 : (0 : Int) + (i : Int) = (i : Int) := Int.zero_add _
    rw [e0]
    refine turn i H' (by omega) s _ _ fun v H2 s2 hv => ?_
    obtain ⟨acc, e1, e2, e3⟩ := hd.put L s2 hv (by omega)
    exact ⟨acc, e1, e2, same_mut (s.trans s2) hD, e3⟩
  · obtain ⟨s, ws, e1, e2, e3⟩ := p
    exact k D H' ws hD s e1 e2 e3
/-- elements that are plain values of the turn -/
theorem lcR_val (f : Nat → V) : LcR (fun i v _ => v = f i) := ⟨fun h _ => h, fun h _ => h⟩
theorem vals_map {α : Type} {ws : List V} {ys : List α} {f : α → V} (hl : ws.length = ys.length) (h : ∀ (i : Nat) (v : V), ws[i]? = some v → ∀ y, ys[i]? = some y → v = f y) : ws = ys.map f := by
  apply List.ext_getElem?
  intro i
  rw [List.getElem?_map]
  by_cases hi : i < ys.length
  · have hw : i < ws.length := by omega
    rw [List.getElem?_eq_getElem hw, List.getElem?_eq_getElem hi]
    exact congrArg some (h i _ (List.getElem?_eq_getElem hw) _ (List.getElem?_eq_getElem hi))
  · rw [List.getElem?_eq_none_iff.mpr (by omega), List.getElem?_eq_none_iff.mpr (by omega)]
    rfl
theorem lcT_m {α : Type} (ys : List α) (f : α → V) (hx : SqT K H a xs) (hl : xs.length = ys.length) (hz : ys.length ≤ 10000)
    (turn : ∀ (i : Nat) (x : V) (y : α) (H' : Hp), xs[i]? = some x → ys[i]? = some y → Same H H' → LcTurn g tt te vs σ x H' true (f y)) (k : ∀ D H', H D = none → Same H H' → H' D = some (.lst (ys.map f)) → Q (.ref D) H') : LcT K g tt te vs σ Q (.ref a) H := by
  refine lcT_r (R := fun i v _ => ∀ y, ys[i]? = some y → v = f y) ⟨fun h _ => h, fun h _ => h⟩ hx (by omega) (fun i x H' hi s Rk R0 q => ?_) fun D H' ws hD s hd hw hr => k D H' hD s (by rw [hd, vals_map (hw.trans hl) hr])
  have hi' : i < ys.length := by rw [← hl]; exact (List.getElem?_eq_some_iff.mp hi).1
  have hy := List.getElem?_eq_getElem hi'
  exact turn i x _ H' hi hy s _ _ (fun _ H2 s2 => q _ H2 s2 fun y e => by rw [hy] at e; cases e; rfl) (fun z => nomatch z)
theorem lcL_m {α : Type} (ys : List α) (f : α → V) (hx : SqL K H a xs) (hl : xs.length = ys.length) (hz : ys.length ≤ 10000)
    (turn : ∀ (i : Nat) (x : V) (y : α) (H' : Hp), xs[i]? = some x → ys[i]? = some y → Same H H' → LcTurn g tt te vs σ x H' true (f y)) (k : ∀ D H', H D = none → Same H H' → H' D = some (.lst (ys.map f)) → Q (.ref D) H') : LcL K g tt te vs σ Q (.ref a) H := by
  refine lcL_r (R := fun i v _ => ∀ y, ys[i]? = some y → v = f y) ⟨fun h _ => h, fun h _ => h⟩ hx (by omega) (fun i x H' hi s Rk R0 q => ?_) fun D H' ws hD s hd hw hr => k D H' hD s (by rw [hd, vals_map (hw.trans hl) hr])
  have hi' : i < ys.length := by rw [← hl]; exact (List.getElem?_eq_some_iff.mp hi).1
  have hy := List.getElem?_eq_getElem hi'
  exact turn i x _ H' hi hy s _ _ (fun _ H2 s2 => q _ H2 s2 fun y e => by rw [hy] at e; cases e; rfl) (fun z => nomatch z)
theorem lcN_m {n : Int} (f : Nat → V) (hn : n ≤ 10000) (hn0 : -10000 ≤ n)
    (turn : ∀ (i : Nat) (H' : Hp), (i : Int) < n → Same H H' → LcTurn g tt te vs σ (.int (i : Int)) H' true (f i)) (k : ∀ D H', H D = none → Same H H' → H' D = some (.lst ((List.range n.toNat).map f)) → Q (.ref D) H') : LcN g tt te vs σ Q [.int n] H :=
  lcN_r (R := fun i v _ => v = f i) (lcR_val f) hn hn0 (fun i H' hi s Rk R0 q => turn i H' hi s _ _ (fun _ H2 s2 => q _ H2 s2 rfl) (fun z => nomatch z)) fun D H' ws hD s hd hw hr => by
    have e : ws = (List.range n.toNat).map f := vals_map (by rw [hw, List.length_range]) fun i v hv y hy => by
      rw [hr i v hv]
      obtain ⟨h1, h2⟩ := List.getElem?_eq_some_iff.mp hy
      rw [← h2, List.getElem_range]
    exact k D H' hD s (by rw [hd, e])
/-- with a test: the list is the kept ones' values -/
theorem lcL_f (f : Nat → Bool) (v : Nat → V) (hx : SqL K H a xs) (hz : xs.length ≤ 10000)
    (turn : ∀ (i : Nat) (x : V) (H' : Hp), xs[i]? = some x → Same H H' → LcTurn g tt te vs σ x H' (f i) (v i)) (k : ∀ D H', H D = none → Same H H' → H' D = some (.lst (given xs.length f v)) → Q (.ref D) H') : LcL K g tt te vs σ Q (.ref a) H := by
  refine ⟨a, rfl, ⟨xs, hx⟩, fun D hD => ?_⟩
  refine lc_list (xs := xs) (fun i H' => Same H H' ∧ H' D = some (.lst (given i f v))) ⟨same_new hD, upd_same⟩ (fun i H' _ p => Same.seq p.1 hx) ?_ (fun H' p => k D H' hD p.1 p.2)
  rintro i x H' hi ⟨s, hd⟩
  have hi' := (List.getElem?_eq_some_iff.mp hi).1
  refine turn i x H' hi s _ _ (fun hb H2 s2 => ⟨given i f v, s2 _ _ hd, szl (Nat.lt_of_le_of_lt (given_len _ _ _) (by omega)), same_mut (s.trans s2) hD, by rw [given_yes hb]; exact upd_same⟩) (fun hb H2 s2 => ⟨s.trans s2, by rw [given_no hb]; exact s2 _ _ hd⟩)
theorem lcT_f (f : Nat → Bool) (v : Nat → V) (hx : SqT K H a xs) (hz : xs.length ≤ 10000)
    (turn : ∀ (i : Nat) (x : V) (H' : Hp), xs[i]? = some x → Same H H' → LcTurn g tt te vs σ x H' (f i) (v i)) (k : ∀ D H', H D = none → Same H H' → H' D = some (.lst (given xs.length f v)) → Q (.ref D) H') : LcT K g tt te vs σ Q (.ref a) H := by
  refine ⟨a, rfl, ⟨xs, hx⟩, fun D hD => ?_⟩
  refine lc_tup (xs := xs) (fun i H' => Same H H' ∧ H' D = some (.lst (given i f v))) ⟨same_new hD, upd_same⟩ (fun i H' _ p => sqT_same p.1 hx) ?_ (fun H' p => k D H' hD p.1 p.2)
  rintro i x H' hi ⟨s, hd⟩
  have hi' := (List.getElem?_eq_some_iff.mp hi).1
  refine turn i x H' hi s _ _ (fun hb H2 s2 => ⟨given i f v, s2 _ _ hd, szl (Nat.lt_of_le_of_lt (given_len _ _ _) (by omega)), same_mut (s.trans s2) hD, by rw [given_yes hb]; exact upd_same⟩) (fun hb H2 s2 => ⟨s.trans s2, by rw [given_no hb]; exact s2 _ _ hd⟩)
/-- for over a tuple, a list, a range -/
theorem forT (Pv : Nat → L2.St → Hp → Prop) (hx : SqT K H a xs) (h0 : Pv 0 σ H) (hl : ∀ i σ' H', Pv i σ' H' → Im H H')
    (hs : ∀ i x σ' H', xs[i]? = some x → Pv i σ' H' → g x σ' H' fun σ2 H2 => tb { D with nx := Pv (i + 1), ct := Pv (i + 1), bk := D.nx } σ2 H2) (hd : ∀ σ' H', Pv xs.length σ' H' → D.nx σ' H') : ForT K g tb D σ (.ref a) H :=
  ⟨a, rfl, ⟨xs, hx⟩, for_tup (xs := xs) Pv h0 (fun i σ' H' _ p => (hl i σ' H' p).sqT hx) hs hd⟩
theorem forL (Pv : Nat → L2.St → Hp → Prop) (hx : SqL K H a xs) (h0 : Pv 0 σ H) (hl : ∀ i σ' H', i ≤ xs.length → Pv i σ' H' → SqL K H' a xs)
    (hs : ∀ i x σ' H', xs[i]? = some x → Pv i σ' H' → g x σ' H' fun σ2 H2 => tb { D with nx := Pv (i + 1), ct := Pv (i + 1), bk := D.nx } σ2 H2) (hd : ∀ σ' H', Pv xs.length σ' H' → D.nx σ' H') : ForL K g tb D σ (.ref a) H :=
  ⟨a, rfl, ⟨xs, hx⟩, for_list (xs := xs) Pv h0 hl hs hd⟩
theorem forN {n : Int} (Pv : Nat → L2.St → Hp → Prop) (hn : n ≤ 100000) (hn0 : -100000 ≤ n) (h0 : Pv 0 σ H)
    (hs : ∀ (i : Nat) σ' H', (i : Int) < n → Pv i σ' H' → g (.int (i : Int)) σ' H' fun σ2 H2 => tb { D with nx := Pv (i + 1), ct := Pv (i + 1), bk := D.nx } σ2 H2) (hd : ∀ σ' H', Pv n.toNat σ' H' → D.nx σ' H') : ForN g tb D σ [.int n] H :=
  ⟨n, rfl, by omega, by omega, for_range (lo := 0) (n := n.toNat) Pv h0 (fun i σ' H' hi p => by
    have e0 : (0 : Int) + (i : Int) = (i : Int) := Int.zero_add _
    rw [e0]
    exact hs i σ' H' (by omega) p) hd⟩
theorem r_index {l : Addr} {ys : List V} {y z : V} {j : Nat} (h : SqL K H l ys) (h1 : flatV y = true) (h2 : ys.all flatV = true) (h3 : ys[j]? = some z) (h4 : eqV z y = true) (h5 : ∀ m z', m < j → ys[m]? = some z' → eqV z' y = false) (q : Q (.int j) H) : rIndex K (.ref l) [y] H Q :=
  ⟨l, ys, y, j, z, rfl, rfl, h, h1, h2, h3, h4, h5, q⟩
end
theorem r_wipe {s1 s2 : L2.St} {q : Prop} (h : s1 = s2) (hq : q) : s1 = s2 ∧ q := ⟨h, hq⟩
theorem r_yes {σ : L2.St} {H : Hp} {QB : Bool → Hp → Prop} (h : QB true H) : tYes σ H QB := h
theorem r_ty {K : PySem.W.Frag} {l : Addr} {H : Hp} {xs : List V} {q : Prop} (h : SqL K H l xs) (hq : q) : tyV K "list" (.ref l) H ∧ q := ⟨ty_lst h, hq⟩
theorem r_new {n : Nat} {q : Prop} (h : n ≤ 100000) (hq : q) : n ≤ sizeLine ∧ q := ⟨sz h, hq⟩
/-! ### the rules with the written part said -/
section
variable (K : PySem.W.Frag) {X : Cx}
theorem ix_tupK (hK : X.K = K := by rfl) : IxR X (rIxT K) := hK ▸ ix_tup
theorem ix_listK (hK : X.K = K := by rfl) : IxR X (rIxL K) := hK ▸ ix_list
theorem op_inK (hK : X.K = K := by rfl) : OpR X (compareOp .In) (rIn K false) := hK ▸ op_in_seq
theorem op_niK (hK : X.K = K := by rfl) : OpR X (compareOp .NotIn) (rIn K true) := hK ▸ op_notIn_seq
theorem call_lenK (hK : X.K = K := by rfl) : CallR X (.builtin "len") (rLenS K) := hK ▸ call_lenS
theorem call_lstK (hK : X.K = K := by rfl) : CallR X (.type "list") (rLstS K) := hK ▸ call_lstS
theorem call_tupK (hK : X.K = K := by rfl) : CallR X (.type "tuple") (rTupS K) := hK ▸ call_tupS
theorem cr_sumK (hc : X.calm = true) (hK : X.K = K := by rfl) : CallR X (.builtin "sum") (rSum K) := hK ▸ cr_sum hc
theorem cr_srtI (hK : X.K = K := by rfl) : CallR X (.builtin "sorted") (rSortedI K) := hK ▸ cr_sortedI
theorem cr_srtT {d : Nat} {B : Int} (hd : 1 ≤ d) (hK : X.K = K := by rfl) : CallR X (.builtin "sorted") (rSortU K d B) := hK ▸ cr_sortT hd
theorem sl_listK (hK : X.K = K := by rfl) : SlR X (rSlL K) := hK ▸ sl_list
theorem sl_tupK (hK : X.K = K := by rfl) : SlR X (rSlA K) := hK ▸ sl_tupA
theorem op_repK (hK : X.K = K := by rfl) : OpR X (binaryOp .Mult) (rRepT K) := hK ▸ op_repT
theorem op_catK (hK : X.K = K := by rfl) : OpR X (binaryOp .Add) (rCatA K) := hK ▸ op_catA
theorem op_eqK (hu : X.A.units + 64 < cLine) (hK : X.K = K := by rfl) : OpR X (compareOp .Eq) (rEqD K) := hK ▸ op_eqD hu
theorem mt_indexK (hK : X.K = K := by rfl) : MtR X "list.index" (rIndex K) := hK ▸ mt_index
variable {o e value : Expr} {f : Str} {pos pos' tpos : Pos} {ta tv : TE}
theorem pe_fldK (he : PE X e ta) (hb : attributeBase e f X.env (eval e X.env) = eval e X.env) (hK : X.K = K := by rfl) : PE X (.Attribute e f pos) (tFld K ta f) := hK ▸ pe_fld he hb
theorem ps_fldK (ha : PE X o ta) (hv : PE X value tv) (hs : swapsWith value (some (.Attribute o f pos')) pos.line X.env = pure false) (hK : X.K = K := by rfl) : PS X (.Assign [.Attribute o f pos'] value pos) (sFld K ta tv f) := hK ▸ ps_fld ha hv hs
theorem ps_fldaugK {op : Operator} {rd : V → V → Hp → VK → Prop} (ha : PE X o ta) (hv : PE X value tv) (hop : InOp X op rd) (hK : X.K = K := by rfl) : PS X (.AugAssign (.Attribute o f tpos) op value pos) (sFldAug K ta tv rd f) := hK ▸ ps_fldaug ha hv hop
theorem pg_tupK {es : List Expr} {k : Nat} {t : TGs} {n : Nat} (hc : X.calm = true) (h : PGs X es t)
    (hn : (assignEach es X.env).length = n := by rfl) (hst : (assignEach es X.env).findIdx? (·.1) = none := by rfl) (hK : X.K = K := by rfl) : PG X (.Tuple es k pos) (gTup K n t) := hK ▸ pg_tup hc h hn hst
theorem pi_listK {tg l : Expr} {tl : TE} (hl : PE X l tl) (hK : X.K = K := by rfl) : PI X tg l (iList K tl) := hK ▸ pi_list hl
theorem pi_tupK {tg l : Expr} {tl : TE} (hl : PE X l tl) (hK : X.K = K := by rfl) : PI X tg l (iTup K tl) := hK ▸ pi_tup hl
variable {es : List Expr} {to : TE} {t : TA} {name : Str} {apos cpos : Pos} {Ty id : String} {r : V → List V → Hp → VK → Prop}
theorem pe_bm0K (pa : PlainAttrs Ty) (slot : Slot Ty name id) (hty : typeOf (.builtin id) = pure (.type "method_descriptor")) (hm : MtR X id r) (ho : PE X o to)
    (hbase : attributeBase o name X.env (eval o X.env) = eval o X.env := by rfl) (hline : (apos.endLine == cpos.line) = true := by rfl) (hK : X.K = K := by rfl) : PE X (.Call (.Attribute o name apos) [] [] cpos) (tBM0 K Ty r to) := hK ▸ pe_bm0 pa slot hty hm ho hbase hline
theorem pe_bmK (pa : PlainAttrs Ty) (slot : Slot Ty name id) (hty : typeOf (.builtin id) = pure (.type "method_descriptor")) (hm : MtR X id r) (ho : PE X o to) (ha : PA X (e :: es) t)
    (hbase : attributeBase o name X.env (eval o X.env) = eval o X.env := by rfl)
    (hfew : ((backTo cpos (starEach (e :: es) X.env)).all (fun x => !x.1) && (backToKw cpos (keywordEach [] X.env)).all (fun x => x.1.isSome)
      && decide ((e :: es).length + ([] : List Keyword).length + (if ([] : List Keyword).isEmpty then 0 else 1) < 30)) = true := by rfl)
    (hline : (apos.endLine == cpos.line) = true := by rfl) (hs : starEach (e :: es) X.env = (false, eval e X.env) :: starEach es X.env := by rfl) (hplain : (backTo cpos (starEach es X.env)).any (·.1) = false := by rfl) (hK : X.K = K := by rfl) :
    PE X (.Call (.Attribute o name apos) (e :: es) [] cpos) (tBM K Ty r to t) := hK ▸ pe_bm pa slot hty hm ho ha hbase hfew hline hs hplain
end
theorem r_rep {K : PySem.W.Frag} {l : Addr} {k : Int} {xs : List V} {H : Hp} {Q : VK} (h : SqT K H l xs) (n : xs ≠ []) (h1 : 2 ≤ k) (h2 : k ≤ 1000) (h3 : xs.length ≤ 1000) (q : ∀ p, H p = none → Q (.ref p) (upd H p (.tup (List.replicate k.toNat xs).flatten))) : rRepT K (.ref l) (.int k) H Q :=
  ⟨l, k, xs, rfl, rfl, h, n, h1, h2, h3, q⟩
end Bm
set_option Elab.async false
set_option linter.all false
set_option maxRecDepth 100000
set_option maxHeartbeats 1000000
namespace Bm
open PySem PySem.Spec PyProof.Rows L2
open Evl (given given_yes given_no given_len rMax2 rLenS)
/-! ## the data: rows, programs -/
structure Row where
  m : Str
  d : Str
  v : V
def rowV (r : Row) : List V := [.str r.m, .str r.d, r.v]
instance : Inhabited Row := ⟨⟨"", "", .non⟩⟩
/-- a program P stands at p -/
def PAt (K : PySem.W.Frag) (H : Hp) (p : Addr) (P : List Row) : Prop :=
  ∃ as : List Addr, SqT K H p (as.map V.ref) ∧ as.length = P.length ∧ ∀ (i : Nat) (a : Addr) (r : Row), as[i]? = some a → P[i]? = some r → SqT K H a (rowV r)
theorem PAt.im {K : PySem.W.Frag} {H H' : Hp} {p : Addr} {P : List Row} (h : PAt K H p P) (i : Im H H') : PAt K H' p P := by
  obtain ⟨as, h1, h2, h3⟩ := h
  exact ⟨as, i.sqT h1, h2, fun j a r ha hr => i.sqT (h3 j a r ha hr)⟩
theorem PAt.same {K : PySem.W.Frag} {H H' : Hp} {p : Addr} {P : List Row} (h : PAt K H p P) (s : Same H H') : PAt K H' p P := h.im (im_of s)
theorem PAt.at_ {K : PySem.W.Frag} {H : Hp} {p : Addr} {P : List Row} (h : PAt K H p P) {i : Nat} {r : Row} (hr : P[i]? = some r) : ∃ (xs : List V) (a : Addr), SqT K H p xs ∧ atI xs (i : Int) = some (.ref a) ∧ SqT K H a (rowV r) ∧ xs.length = P.length := by
  obtain ⟨as, h1, h2, h3⟩ := h
  have hi : i < as.length := by rw [h2]; exact (List.getElem?_eq_some_iff.mp hr).1
  refine ⟨_, as[i], h1, atI_nat ?_, h3 i _ r (List.getElem?_eq_getElem hi) hr, by rw [List.length_map, h2]⟩
  rw [List.getElem?_map, List.getElem?_eq_getElem hi]
  rfl
/-- its rows one by one -/
theorem PAt.each {K : PySem.W.Frag} {H : Hp} {p : Addr} {P : List Row} (h : PAt K H p P) : ∃ xs : List V, SqT K H p xs ∧ xs.length = P.length ∧ ∀ (i : Nat) (x : V), xs[i]? = some x → ∃ (a : Addr) (r : Row), x = .ref a ∧ P[i]? = some r ∧ SqT K H a (rowV r) := by
  obtain ⟨as, h1, h2, h3⟩ := h
  refine ⟨_, h1, by rw [List.length_map, h2], fun i x hx => ?_⟩
  rw [List.getElem?_map] at hx
  cases e : as[i]? with
  | none => rw [e] at hx; cases hx
  | some a =>
    rw [e] at hx
    have hi : i < P.length := by rw [← h2]; exact (List.getElem?_eq_some_iff.mp e).1
    exact ⟨a, P[i], (Option.some.inj hx).symm, List.getElem?_eq_getElem hi, h3 i a _ e (List.getElem?_eq_getElem hi)⟩
def isIf (d : Str) : Bool := inV (.str d) tv_IF_DEEDS
def kindOf (s : Str) : Str := if inV (.str s) tv_BYTE_DEEDS = true then "byte" else if inV (.str s) tv_MEMORY_DEEDS = true then "memory" else if inV (.str s) tv_PLAIN_DEEDS = true then "plain" else if inV (.str s) tv_MARK_DEEDS = true then "mark" else if V.str s = V.str "data" then "table" else s
def byteCnt (s : Str) : Int := if inV (.str s) tv_PLAIN_DEEDS = true then 1 else if V.str s = V.str "data" then 1 else 2
def beatCnt (s : Str) : Int := if V.str s = V.str "data" then 0 else if inV (.str s) tv_FOUR_BEATS = true then 4 else if inV (.str s) tv_THREE_BEATS = true then 3 else 2
theorem byteCnt_le (s : Str) : 1 ≤ byteCnt s ∧ byteCnt s ≤ 2 := by
  unfold byteCnt
  split
  · omega
  · split <;> omega
def longOf (P : List Row) : Int := (P.map fun r => byteCnt r.d).sum
def addrs : Int → List Row → List Int
  | _, [] => []
  | b, r :: P => b :: addrs (b + byteCnt r.d) P
theorem addrs_length : ∀ (b : Int) (P : List Row), (addrs b P).length = P.length
  | _, [] => rfl
  | b, r :: P => by simp [addrs, addrs_length]
theorem addrs_get : ∀ (b : Int) (P : List Row) (i : Nat), i < P.length → (addrs b P)[i]? = some (b + longOf (P.take i))
  | b, [], i, h => absurd h (by simp)
  | b, r :: P, 0, _ => by simp [addrs, longOf]
  | b, r :: P, i + 1, h => by
    have h' : i < P.length := by simpa using h
    rw [addrs, List.getElem?_cons_succ, addrs_get _ P i h']
    simp [longOf]
    omega
theorem addrs_take_succ (b : Int) (P : List Row) (i : Nat) (h : i < P.length) : (addrs b P).take (i + 1) = (addrs b P).take i ++ [b + longOf (P.take i)] := by
  rw [List.take_add_one, addrs_get b P i h]
  rfl
def adr (b : Int) (P : List Row) (i : Nat) : Int := b + longOf (P.take i)
theorem longOf_take_succ {P : List Row} {i : Nat} {r : Row} (h : P[i]? = some r) : longOf (P.take (i + 1)) = longOf (P.take i) + byteCnt r.d := by
  unfold longOf
  rw [List.take_add_one, h]
  simp
def crossed (i j : Int) : Int := if i / 32 ≠ j / 32 then 1 else 0
theorem crossed_le (i j : Int) : 0 ≤ crossed i j ∧ crossed i j ≤ 1 := by unfold crossed; split <;> omega
/-- the first row that bears a mark -/
def markIx (P : List Row) (m : Str) : Option Nat := P.findIdx? fun r => decide (r.m = m)
theorem markIx_lt {P : List Row} {m : Str} {j : Nat} (h : markIx P m = some j) : j < P.length := by
  unfold markIx at h
  exact (List.findIdx?_eq_some_iff_getElem.mp h).1
/-- a row's page sign -/
def pSign (P : List Row) (b : Int) (i : Nat) : V := match P[i]? with
  | some r => (match isIf r.d, r.v with
    | true, .str m => (match markIx P m with
      | some j => .int (crossed (adr b P j) (adr b P (i + 1)))
      | none => .non)
    | _, _ => .non)
  | none => .non
/-! ### programs as the law makes them -/
def byteDs : List Str := ["set", "test", "setx"]
def memDs : List Str := ["get", "put", "add", "sub", "mask", "flip", "putx", "lay", "take"]
def plainDs : List Str := ["half", "twice", "down", "toa", "rest", "idle", "wait"]
def ifDs : List Str := ["ifz", "ifn", "ifc", "ifd"]
inductive RowOk (P : List Row) : Row → Prop where
  | byte (m d : Str) (n : Int) (h : d ∈ byteDs) : RowOk P ⟨m, d, .int n⟩
  | mem (m d : Str) (n : Nat) (h : d ∈ memDs) (hn : n < 16) : RowOk P ⟨m, d, .int (n : Int)⟩
  | plain (m d : Str) (h : d ∈ plainDs) : RowOk P ⟨m, d, .non⟩
  | door (m : Str) (n : Nat) (hn : n < 20) : RowOk P ⟨m, "door", .int (n : Int)⟩
  | eye (m : Str) (n : Nat) (hn : n < 6) : RowOk P ⟨m, "eye", .int (n : Int)⟩
  | go (m k : Str) (j : Nat) (h : markIx P k = some j) : RowOk P ⟨m, "go", .str k⟩
  | iff (m d k : Str) (j : Nat) (hd : d ∈ ifDs) (h : markIx P k = some j) : RowOk P ⟨m, d, .str k⟩
structure WF (P : List Row) : Prop where
  ne : 0 < P.length
  len : P.length ≤ 100
  ok : ∀ (i : Nat) (r : Row), P[i]? = some r → RowOk P r
  last : ∀ (i : Nat) (r : Row), P[i]? = some r → r.d ≠ "go" → i + 1 < P.length
theorem mem_cases {α : Type} {a : α} {l : List α} {p : α → Prop} (h : a ∈ l) (hp : ∀ x ∈ l, p x) : p a := hp a h
def allDs : List Str := byteDs ++ (memDs ++ (plainDs ++ ((["door", "eye", "go"] : List Str) ++ ifDs)))
theorem RowOk.d_mem {P : List Row} {r : Row} (h : RowOk P r) : r.d ∈ allDs := by
  unfold allDs
  simp only [List.mem_append]
  cases h with
  | byte m d n h => exact .inl h
  | mem m d n h hn => exact .inr (.inl h)
  | plain m d h => exact .inr (.inr (.inl h))
  | door m n hn => exact .inr (.inr (.inr (.inl (by simp))))
  | eye m n hn => exact .inr (.inr (.inr (.inl (by simp))))
  | go m k j h => exact .inr (.inr (.inr (.inl (by simp))))
  | iff m d k j hd h => exact .inr (.inr (.inr (.inr hd)))
theorem ds_facts : ∀ x ∈ allDs, decide (V.str x = V.str "at") = false ∧ decide (V.str x = V.str "data") = false ∧ decide (V.str x = V.str "up") = false ∧ 2 ≤ beatCnt x ∧ beatCnt x ≤ 4 := by decide +kernel
theorem RowOk.ne_at {P : List Row} {r : Row} (h : RowOk P r) : decide (V.str r.d = V.str "at") = false := (ds_facts _ h.d_mem).1
theorem RowOk.ne_data {P : List Row} {r : Row} (h : RowOk P r) : decide (V.str r.d = V.str "data") = false := (ds_facts _ h.d_mem).2.1
theorem RowOk.ne_up {P : List Row} {r : Row} (h : RowOk P r) : decide (V.str r.d = V.str "up") = false := (ds_facts _ h.d_mem).2.2.1
theorem RowOk.cnt {P : List Row} {r : Row} (h : RowOk P r) : 2 ≤ beatCnt r.d ∧ beatCnt r.d ≤ 4 := (ds_facts _ h.d_mem).2.2.2
theorem ifDs_facts : ∀ x ∈ ifDs, isIf x = true ∧ x ≠ "go" := by decide +kernel
theorem noif_facts : ∀ x ∈ byteDs ++ (memDs ++ (plainDs ++ (["door", "eye"] : List Str))), isIf x = false ∧ decide (V.str x = V.str "go") = false ∧ x ≠ "go" := by decide +kernel
theorem go_facts : isIf "go" = false := by decide +kernel
/-- an if-row, a go, another -/
theorem RowOk.cases3 {P : List Row} {r : Row} (h : RowOk P r) : (isIf r.d = true ∧ r.d ≠ "go" ∧ ∃ m j, r.v = .str m ∧ markIx P m = some j) ∨ (isIf r.d = false ∧ r.d = "go" ∧ ∃ m j, r.v = .str m ∧ markIx P m = some j) ∨
    (isIf r.d = false ∧ decide (V.str r.d = V.str "go") = false ∧ r.d ≠ "go") := by
  cases h with
  | byte m d n h => exact .inr (.inr (noif_facts d (by simp [h])))
  | mem m d n h hn => exact .inr (.inr (noif_facts d (by simp [h])))
  | plain m d h => exact .inr (.inr (noif_facts d (by simp [h])))
  | door m n hn => exact .inr (.inr (noif_facts "door" (by simp)))
  | eye m n hn => exact .inr (.inr (noif_facts "eye" (by simp)))
  | go m k j h => exact .inr (.inl ⟨go_facts, rfl, k, j, rfl, h⟩)
  | iff m d k j hd h => exact .inl ⟨(ifDs_facts d hd).1, (ifDs_facts d hd).2, k, j, rfl, h⟩
theorem pSign_if {P : List Row} {b : Int} {i j : Nat} {r : Row} {m : Str} (h : P[i]? = some r) (h1 : isIf r.d = true) (h2 : r.v = .str m) (h3 : markIx P m = some j) : pSign P b i = .int (crossed (adr b P j) (adr b P (i + 1))) := by
  unfold pSign
  simp only [h, h1, h2, h3]
theorem pSign_no {P : List Row} {b : Int} {i : Nat} {r : Row} (h : P[i]? = some r) (h1 : isIf r.d = false) : pSign P b i = .non := by
  unfold pSign
  simp only [h, h1]
/-! ## dicts with int keys -/
theorem valV_none_iff : ∀ (kvs : List (Key × V)) (k : Key), valV kvs k = none ↔ k ∉ kvs.map (·.1)
  | [], k => by simp [valV_nil]
  | p :: r, k => by
    by_cases e : p.1 = k
    · rw [valV_pos e]
      simp [e]
    · rw [valV_neg e, valV_none_iff r k]
      simp only [List.map_cons, List.mem_cons, not_or]
      exact ⟨fun h => ⟨fun q => e q.symm, h⟩, fun h => h.2⟩
/-- the pairs kvs: the keys ks in order, the values f -/
structure DI (kvs : List (Key × V)) (ks : List Int) (f : Int → Option V) : Prop where
  keys : kvs.map (·.1) = ks.map Sum.inl
  nd : ks.Nodup
  val : ∀ i, valV kvs (.inl i) = f i
theorem DI.nil : DI [] [] (fun _ => none) := ⟨rfl, List.nodup_nil, fun _ => rfl⟩
theorem DI.len {kvs : List (Key × V)} {ks : List Int} {f : Int → Option V} (h : DI kvs ks f) : kvs.length = ks.length := by
  have := congrArg List.length h.keys
  simpa using this
theorem DI.mem {kvs : List (Key × V)} {ks : List Int} {f : Int → Option V} (h : DI kvs ks f) (i : Int) : i ∈ ks ↔ f i ≠ none := by
  rw [← h.val i]
  constructor
  · intro hm hn
    rw [valV_none_iff, h.keys] at hn
    exact hn (List.mem_map_of_mem hm)
  · intro hn
    refine Classical.byContradiction fun hm => hn ?_
    rw [valV_none_iff, h.keys]
    intro hx
    obtain ⟨j, hj, e⟩ := List.mem_map.mp hx
    cases e
    exact hm hj
theorem DI.mem_of {kvs : List (Key × V)} {ks : List Int} {f : Int → Option V} (h : DI kvs ks f) {i : Int} {v : V} (e : f i = some v) : i ∈ ks := (h.mem i).mpr (by rw [e]; exact nofun)
theorem DI.listed {kvs : List (Key × V)} {ks : List Int} {f : Int → Option V} (h : DI kvs ks f) : (kvs.map fun kv => kV kv.1) = ks.map V.int := by
  have : (kvs.map fun kv => kV kv.1) = (kvs.map (·.1)).map kV := by rw [List.map_map]; rfl
  rw [this, h.keys, List.map_map]
  rfl
theorem DI.put {kvs : List (Key × V)} {ks : List Int} {f : Int → Option V} (h : DI kvs ks f) (k : Int) (v : V) : DI (putK kvs (.inl k) v) (if k ∈ ks then ks else ks ++ [k]) (fun i => if i = k then some v else f i) := by
  have hv : ∀ i, valV (putK kvs (.inl k) v) (.inl i) = if i = k then some v else f i := fun i => by
    rw [valV_put, h.val]
    by_cases e : i = k
    · rw [if_pos e, if_pos (by rw [e])]
    · rw [if_neg e, if_neg (fun q => e (Sum.inl.inj q))]
  by_cases hk : k ∈ ks
  · rw [if_pos hk]
    refine ⟨?_, h.nd, hv⟩
    unfold putK
    rw [if_pos (by rw [valV_any, h.val]; exact Option.isSome_iff_ne_none.mpr ((h.mem k).mp hk)), List.map_map]
    rw [← h.keys]
    apply List.map_congr_left
    intro p _
    show (if p.1 = Sum.inl k then (p.1, v) else p).1 = p.1
    split <;> rfl
  · rw [if_neg hk]
    refine ⟨?_, ?_, hv⟩
    · unfold putK
      have hn : valV kvs (.inl k) = none := by
        rw [h.val]
        exact Classical.byContradiction fun q => hk ((h.mem k).mpr q)
      rw [if_neg (by rw [valV_any, hn]; exact Bool.false_ne_true), List.map_append, h.keys, List.map_append]
      rfl
    · rw [List.nodup_append]
      exact ⟨h.nd, List.nodup_cons.mpr ⟨List.not_mem_nil, List.nodup_nil⟩, fun a ha b hb e => hk (by rw [← (List.mem_singleton.mp hb : b = k), ← e]; exact ha)⟩
section
variable {σ : L2.St} {H : Hp} {Q : VK} {D : Ends} {td ty tx tv : TE} {a : Addr} {kvs : List (Key × V)} {ks : List Int} {f : Int → Option V} {i : Int} {v : V} {K : PySem.W.Frag}
theorem r_dnew (h : ∀ p, H p = none → Q (.ref p) (upd H p (.dK []))) : tDNewK σ H Q := h
theorem r_dget (h : td σ H fun x H1 => ty σ H1 fun y H2 => ∃ a v, x = .ref a ∧ DGet H2 a y (some v) ∧ Q v H2) : tDGet td ty σ H Q := h
theorem r_dgetE (h : Rd H a (.dK kvs)) (d : DI kvs ks f) (l : f i = some v) {q : V → Prop} (hq : q v) : ∃ a' v, V.ref a = .ref a' ∧ DGet H a' (.int i) (some v) ∧ q v :=
  ⟨a, v, rfl, .inl ⟨kvs, .inl i, h, rfl, by rw [d.val, l]⟩, hq⟩
theorem r_din (h : ty σ H fun y H1 => td σ H1 fun x H2 => ∃ a o, x = .ref a ∧ DGet H2 a y o ∧ Q (.bl o.isSome) H2) : tDIn ty td σ H Q := h
theorem r_dnotin (h : ty σ H fun y H1 => td σ H1 fun x H2 => ∃ a o, x = .ref a ∧ DGet H2 a y o ∧ Q (.bl (!o.isSome)) H2) : tDNotIn ty td σ H Q := h
theorem r_dinE (h : Rd H a (.dK kvs)) (d : DI kvs ks f) {q : Option V → Prop} (hq : q (f i)) : ∃ a' o, V.ref a = .ref a' ∧ DGet H a' (.int i) o ∧ q o :=
  ⟨a, _, rfl, .inl ⟨kvs, .inl i, h, rfl, rfl⟩, by rw [d.val]; exact hq⟩
theorem r_dput (h : tv σ H fun v H1 => td σ H1 fun x H2 => ty σ H2 fun y H3 => ∃ a H4, x = .ref a ∧ DPut H3 a y v H4 ∧ D.nx σ H4) : sDPut td ty tv D σ H := h
theorem r_dputE (h : H a = some (.dK kvs)) (hl : kvs.length < sizeLine) {q : Hp → Prop} (hq : q (upd H a (.dK (putK kvs (.inl i) v)))) : ∃ a' H4, V.ref a = .ref a' ∧ DPut H a' (.int i) v H4 ∧ q H4 :=
  ⟨a, _, rfl, DPut.k (k := .inl i) h hl, hq⟩
theorem r_dget2 (h : td σ H fun x H1 => ∃ a, x = .ref a ∧ IsD H1 a ∧ ty σ H1 fun y H2 => tx σ H2 fun z H3 => ∃ o, DGet H3 a y o ∧ Q (o.getD z) H3) : tDGet2 td ty tx σ H Q := h
theorem r_dget2E (h : Rd H a (.dK kvs)) {q : Addr → Prop} (hq : q a) : ∃ a', V.ref a = .ref a' ∧ IsD H a' ∧ q a' := ⟨a, rfl, .inl ⟨kvs, h⟩, hq⟩
theorem r_dgetO (h : Rd H a (.dK kvs)) (d : DI kvs ks f) {q : Option V → Prop} (hq : q (f i)) : ∃ o, DGet H a (.int i) o ∧ q o := ⟨_, .inl ⟨kvs, .inl i, h, rfl, rfl⟩, by rw [d.val]; exact hq⟩
end
/-- one object alone changes (d), all that can't be written stands -/
structure Chg (d : Addr) (H H' : Hp) : Prop where
  kp : ∀ b o, b ≠ d → H b = some o → H' b = some o
  im : Im H H'
section
variable {d a p : Addr} {H H0 H' H'' : Hp} {o o' u : HO} {K : PySem.W.Frag} {xs : List V}
theorem Chg.refl : Chg d H H := ⟨fun _ _ _ h => h, Im.refl _⟩
theorem Chg.step (c : Chg d H H') (s : Same H' H'') : Chg d H H'' := ⟨fun b o n h => s b o (c.kp b o n h), c.im.trans (im_of s)⟩
theorem Chg.of (s : Same H H') : Chg d H H' := Chg.refl.step s
theorem Chg.put (c : Chg d H H') (h : H' d = some o') (m : Mut (some o')) : Chg d H (upd H' d o) := ⟨fun b u n e => by rw [upd_ne n]; exact c.kp b u n e, c.im.trans (Im.mut h m)⟩
theorem Chg.out (c : Chg d H H') (s : Same H0 H) (n : H0 d = none) : Same H0 H' := fun b u e => c.kp b u (fun q => by rw [q, n] at e; cases e) (s b u e)
theorem Chg.trans (c : Chg d H H') (c' : Chg d H' H'') : Chg d H H'' := ⟨fun b o n h => c'.kp b o n (c.kp b o n h), c.im.trans c'.im⟩
theorem gC (c : Chg d H H') (n : a ≠ d) (h : H a = some u) : H' a = some u := c.kp a u n h
theorem sqT_chg (c : Chg d H H') (h : SqT K H a xs) : SqT K H' a xs := c.im.sqT h
theorem sqL_chg (c : Chg d H H') (n : a ≠ d) (h : SqL K H a xs) : SqL K H' a xs := by
  rcases h with (h | ⟨ob, h⟩) | h
  · exact .inl (.inl (c.kp _ _ n h))
  · exact .inl (.inr ⟨ob, c.kp _ _ n h⟩)
  · exact .inr h
end
theorem PAt.chg {K : PySem.W.Frag} {H H' : Hp} {d p : Addr} {P : List Row} (h : PAt K H p P) (c : Chg d H H') : PAt K H' p P := h.im c.im
/-! loops that change one object alone -/
section
variable {K : PySem.W.Frag} {σ : L2.St} {H : Hp} {g : TG} {tb : TS} {D : Ends} {a : Addr} {xs : List V} (d : Addr)
theorem forL_c (Pv : Nat → L2.St → Hp → Prop) (hx : SqL K H a xs) (nd : a ≠ d) (h0 : Pv 0 σ H)
    (hs : ∀ (i : Nat) (x : V) (σ' : L2.St) (H' : Hp), xs[i]? = some x → Chg d H H' → Pv i σ' H' → g x σ' H' fun σ2 H2 => tb { D with nx := fun σ3 H3 => Chg d H H3 ∧ Pv (i + 1) σ3 H3, ct := fun σ3 H3 => Chg d H H3 ∧ Pv (i + 1) σ3 H3, bk := D.nx } σ2 H2)
    (hd : ∀ σ' H', Chg d H H' → Pv xs.length σ' H' → D.nx σ' H') : ForL K g tb D σ (.ref a) H :=
  forL (fun i σ' H' => Chg d H H' ∧ Pv i σ' H') hx ⟨Chg.refl, h0⟩ (fun i σ' H' _ p => sqL_chg p.1 nd hx) (fun i x σ' H' hi p => hs i x σ' H' hi p.1 p.2) (fun σ' H' p => hd σ' H' p.1 p.2)
theorem forT_c (Pv : Nat → L2.St → Hp → Prop) (hx : SqT K H a xs) (h0 : Pv 0 σ H)
    (hs : ∀ (i : Nat) (x : V) (σ' : L2.St) (H' : Hp), xs[i]? = some x → Chg d H H' → Pv i σ' H' → g x σ' H' fun σ2 H2 => tb { D with nx := fun σ3 H3 => Chg d H H3 ∧ Pv (i + 1) σ3 H3, ct := fun σ3 H3 => Chg d H H3 ∧ Pv (i + 1) σ3 H3, bk := D.nx } σ2 H2)
    (hd : ∀ σ' H', Chg d H H' → Pv xs.length σ' H' → D.nx σ' H') : ForT K g tb D σ (.ref a) H :=
  forT (fun i σ' H' => Chg d H H' ∧ Pv i σ' H') hx ⟨Chg.refl, h0⟩ (fun i σ' H' p => p.1.im) (fun i x σ' H' hi p => hs i x σ' H' hi p.1 p.2) (fun σ' H' p => hd σ' H' p.1 p.2)
theorem forN_c {n : Int} (Pv : Nat → L2.St → Hp → Prop) (hn : n ≤ 100000) (hn0 : -100000 ≤ n) (h0 : Pv 0 σ H)
    (hs : ∀ (i : Nat) (σ' : L2.St) (H' : Hp), (i : Int) < n → Chg d H H' → Pv i σ' H' → g (.int (i : Int)) σ' H' fun σ2 H2 => tb { D with nx := fun σ3 H3 => Chg d H H3 ∧ Pv (i + 1) σ3 H3, ct := fun σ3 H3 => Chg d H H3 ∧ Pv (i + 1) σ3 H3, bk := D.nx } σ2 H2)
    (hd : ∀ σ' H', Chg d H H' → Pv n.toNat σ' H' → D.nx σ' H') : ForN g tb D σ [.int n] H :=
  forN (fun i σ' H' => Chg d H H' ∧ Pv i σ' H') hn hn0 ⟨Chg.refl, h0⟩ (fun i σ' H' hi p => hs i σ' H' hi p.1 p.2) (fun σ' H' p => hd σ' H' p.1 p.2)
end
theorem lcAcc_nil {R : Nat → V → Hp → Prop} {D : Addr} {H : Hp} (h : H D = some (.lst [])) : LcAcc R D 0 H := ⟨[], h, rfl, fun i v hi => by simp at hi⟩
theorem LcAcc.chg {R : Nat → V → Hp → Prop} (L : LcR R) {D : Addr} {n : Nat} {H H' : Hp} (h : LcAcc R D n H) (s : Same H H') : LcAcc R D n H' := by
  obtain ⟨ws, h1, h2, h3⟩ := h
  exact ⟨ws, s _ _ h1, h2, fun i v hi => L.same (h3 i v hi) s⟩
/-! tuples of ints -/
theorem atI_ints {ds : List Int} {i : Int} (h0 : 0 ≤ i) (h1 : i < ds.length) : ∃ d, atI (ds.map V.int) i = some (.int d) := by
  obtain ⟨n, rfl⟩ := Int.eq_ofNat_of_zero_le h0
  have hn : n < ds.length := by omega
  exact ⟨ds[n], atI_nat (by rw [List.getElem?_map, List.getElem?_eq_getElem hn]; rfl)⟩
def IntT (K : PySem.W.Frag) (H : Hp) (t : Addr) (n : Nat) : Prop := ∃ ds : List Int, ds.length = n ∧ SqT K H t (ds.map V.int)
theorem IntT.im {K : PySem.W.Frag} {H H' : Hp} {t : Addr} {n : Nat} (h : IntT K H t n) (s : Im H H') : IntT K H' t n := by
  obtain ⟨ds, h1, h2⟩ := h
  exact ⟨ds, h1, s.sqT h2⟩
theorem bits_at {i : Int} (h0 : 0 ≤ i) (h1 : i < 8) : ∃ c : Int, atI tv_BITS i = some (.int c) ∧ 0 < c ∧ c < 1000 := by
  obtain ⟨n, rfl⟩ := Int.eq_ofNat_of_zero_le h0
  have hn : n < 8 := by omega
  have all : ∀ n : Fin 8, ∃ c : Int, tv_BITS[n.val]? = some (.int c) ∧ 0 < c ∧ c < 1000 := fun n => by
    match n with
    | 0 => exact ⟨128, rfl, by omega, by omega⟩
    | 1 => exact ⟨64, rfl, by omega, by omega⟩
    | 2 => exact ⟨32, rfl, by omega, by omega⟩
    | 3 => exact ⟨16, rfl, by omega, by omega⟩
    | 4 => exact ⟨8, rfl, by omega, by omega⟩
    | 5 => exact ⟨4, rfl, by omega, by omega⟩
    | 6 => exact ⟨2, rfl, by omega, by omega⟩
    | 7 => exact ⟨1, rfl, by omega, by omega⟩
  obtain ⟨c, h, h2⟩ := all ⟨n, hn⟩
  exact ⟨c, atI_nat h, h2⟩
theorem r_catA {K : PySem.W.Frag} {a b : Addr} {xs ys : List V} {H : Hp} {Q : VK} (hx : SqT K H a xs) (hy : SqT K H b ys) (hl : xs.length + ys.length ≤ 100000) (nx : xs ≠ []) (ny : ys ≠ []) (q : ∀ p, H p = none → Q (.ref p) (upd H p (.tup (xs ++ ys)))) : rCatA K (.ref a) (.ref b) H Q :=
  ⟨a, b, xs, ys, rfl, rfl, hx, hy, sz hl, fun e => absurd e nx, fun _ e => absurd e ny, fun _ _ => q⟩
theorem r_andE {b : Bool} {q : Bool → Prop} (h : q b) : ∃ c, V.bl b = .bl c ∧ q c := ⟨b, rfl, h⟩
section
variable {K : PySem.W.Frag} {a C dx : Addr} {fs : List (Str × V)} {f : Str} {v y : V} {H : Hp} {σ : L2.St} {D : Ends} {ta tv : TE} {Q : VK}
theorem r_faug {rd : V → V → Hp → VK → Prop} (h : ta σ H fun x H1 => ∃ a C dx fs v, x = .ref a ∧ H1 a = some (.ins C dx fs) ∧ Cls K C ∧ NoAttr K C f ∧ fs.lookup f = some v ∧
  tv σ H1 fun y H2 => rd v y H2 fun z H3 => ∃ dx' fs', H3 a = some (.ins C dx' fs') ∧ fs'.length < 1000 ∧ D.nx σ (upd H3 a (.ins C dx' (putF f z fs')))) : sFldAug K ta tv rd f D σ H := h
theorem r_faugE {q : Addr → Addr → V → Prop} (ea : H a = some (.ins C dx fs)) (c : Cls K C) (n : NoAttr K C f) (l : fs.lookup f = some v) (h : q a C v) : ∃ a' C dx fs v, V.ref a = .ref a' ∧ H a' = some (.ins C dx fs) ∧ Cls K C ∧ NoAttr K C f ∧ fs.lookup f = some v ∧ q a' C v := ⟨a, C, dx, fs, v, rfl, ea, c, n, l, h⟩
theorem r_faugP {C : Addr} {fs' : List (Str × V)} (ea : H a = some (.ins C dx fs)) (hl : fs.length < 1000) (e : putF f y fs = fs') {q : Hp → Prop} (h : q (upd H a (.ins C dx fs'))) : ∃ dx' gs, H a = some (.ins C dx' gs) ∧ gs.length < 1000 ∧ q (upd H a (.ins C dx' (putF f y gs))) := ⟨dx, fs, ea, hl, by rw [e]; exact h⟩
theorem r_addA {i j : Int} (q : Q (.int (i + j)) H) : rAdd (.int i) (.int j) H Q := ⟨i, j, rfl, rfl, q⟩
theorem r_make {C : Addr} {sp : Sp} {E : XK} {tr : TA} (h : tr σ H fun vs H1 => ∀ x dx, H1 x = none → H1 dx = none → dx ≠ x → sp (.ref x :: vs) (upd (upd H1 dx (.own x)) x (.ins C dx [])) (fun v H2 => v = .non ∧ Q (.ref x) H2) E) : tMake C sp [] E tr σ H Q := by
  unfold tMake
  simp only [List.append_nil]
  exact h
end
def rgf (v_a : Int) (v_x : Int) (v_zero : Int) (v_carry : Int) (v_memory : Addr) : List (Str × V) := [("a", .int v_a), ("x", .int v_x), ("zero", .int v_zero), ("carry", .int v_carry), ("memory", .ref v_memory)]
theorem rgf_a {v_a : Int} {v_x : Int} {v_zero : Int} {v_carry : Int} {v_memory : Addr} : (rgf v_a v_x v_zero v_carry v_memory).lookup ("a" : Str) = some (.int v_a) := by kernel_rfl
theorem rgp_a {v_a : Int} {v_x : Int} {v_zero : Int} {v_carry : Int} {v_memory : Addr} {u : Int} : putF "a" (.int u) (rgf v_a v_x v_zero v_carry v_memory) = rgf u v_x v_zero v_carry v_memory := by kernel_rfl
theorem rgf_x {v_a : Int} {v_x : Int} {v_zero : Int} {v_carry : Int} {v_memory : Addr} : (rgf v_a v_x v_zero v_carry v_memory).lookup ("x" : Str) = some (.int v_x) := by kernel_rfl
theorem rgp_x {v_a : Int} {v_x : Int} {v_zero : Int} {v_carry : Int} {v_memory : Addr} {u : Int} : putF "x" (.int u) (rgf v_a v_x v_zero v_carry v_memory) = rgf v_a u v_zero v_carry v_memory := by kernel_rfl
theorem rgf_zero {v_a : Int} {v_x : Int} {v_zero : Int} {v_carry : Int} {v_memory : Addr} : (rgf v_a v_x v_zero v_carry v_memory).lookup ("zero" : Str) = some (.int v_zero) := by kernel_rfl
theorem rgp_zero {v_a : Int} {v_x : Int} {v_zero : Int} {v_carry : Int} {v_memory : Addr} {u : Int} : putF "zero" (.int u) (rgf v_a v_x v_zero v_carry v_memory) = rgf v_a v_x u v_carry v_memory := by kernel_rfl
theorem rgf_carry {v_a : Int} {v_x : Int} {v_zero : Int} {v_carry : Int} {v_memory : Addr} : (rgf v_a v_x v_zero v_carry v_memory).lookup ("carry" : Str) = some (.int v_carry) := by kernel_rfl
theorem rgp_carry {v_a : Int} {v_x : Int} {v_zero : Int} {v_carry : Int} {v_memory : Addr} {u : Int} : putF "carry" (.int u) (rgf v_a v_x v_zero v_carry v_memory) = rgf v_a v_x v_zero u v_memory := by kernel_rfl
theorem rgf_memory {v_a : Int} {v_x : Int} {v_zero : Int} {v_carry : Int} {v_memory : Addr} : (rgf v_a v_x v_zero v_carry v_memory).lookup ("memory" : Str) = some (.ref v_memory) := by kernel_rfl
theorem rgp_memory {v_a : Int} {v_x : Int} {v_zero : Int} {v_carry : Int} {v_memory : Addr} {u : Addr} : putF "memory" (.ref u) (rgf v_a v_x v_zero v_carry v_memory) = rgf v_a v_x v_zero v_carry u := by kernel_rfl
theorem rgf_len {v_a : Int} {v_x : Int} {v_zero : Int} {v_carry : Int} {v_memory : Addr} : (rgf v_a v_x v_zero v_carry v_memory).length < 1000 := by show 5 < 1000; decide
def plf (v_program : Addr) (v_base : Int) (v_hands : Addr) (v_held : Addr) (v_first_doors : Addr) (v_doors : Addr) (v_met : Int) (v_timer : Int) (v_moment : Int) (v_waiting : Int) (v_asked : Int) (v_drawn : Addr) (v_writes : Addr) (v_rows : Addr) (v_lines : Int) : List (Str × V) := [("program", .ref v_program), ("base", .int v_base), ("hands", .ref v_hands), ("held", .ref v_held), ("first_doors", .ref v_first_doors), ("doors", .ref v_doors), ("met", .int v_met), ("timer", .int v_timer), ("moment", .int v_moment), ("waiting", .int v_waiting), ("asked", .int v_asked), ("drawn", .ref v_drawn), ("writes", .ref v_writes), ("rows", .ref v_rows), ("lines", .int v_lines)]
theorem plf_program {v_program : Addr} {v_base : Int} {v_hands : Addr} {v_held : Addr} {v_first_doors : Addr} {v_doors : Addr} {v_met : Int} {v_timer : Int} {v_moment : Int} {v_waiting : Int} {v_asked : Int} {v_drawn : Addr} {v_writes : Addr} {v_rows : Addr} {v_lines : Int} : (plf v_program v_base v_hands v_held v_first_doors v_doors v_met v_timer v_moment v_waiting v_asked v_drawn v_writes v_rows v_lines).lookup ("program" : Str) = some (.ref v_program) := by kernel_rfl
theorem plp_program {v_program : Addr} {v_base : Int} {v_hands : Addr} {v_held : Addr} {v_first_doors : Addr} {v_doors : Addr} {v_met : Int} {v_timer : Int} {v_moment : Int} {v_waiting : Int} {v_asked : Int} {v_drawn : Addr} {v_writes : Addr} {v_rows : Addr} {v_lines : Int} {u : Addr} : putF "program" (.ref u) (plf v_program v_base v_hands v_held v_first_doors v_doors v_met v_timer v_moment v_waiting v_asked v_drawn v_writes v_rows v_lines) = plf u v_base v_hands v_held v_first_doors v_doors v_met v_timer v_moment v_waiting v_asked v_drawn v_writes v_rows v_lines := by kernel_rfl
theorem plf_base {v_program : Addr} {v_base : Int} {v_hands : Addr} {v_held : Addr} {v_first_doors : Addr} {v_doors : Addr} {v_met : Int} {v_timer : Int} {v_moment : Int} {v_waiting : Int} {v_asked : Int} {v_drawn : Addr} {v_writes : Addr} {v_rows : Addr} {v_lines : Int} : (plf v_program v_base v_hands v_held v_first_doors v_doors v_met v_timer v_moment v_waiting v_asked v_drawn v_writes v_rows v_lines).lookup ("base" : Str) = some (.int v_base) := by kernel_rfl
theorem plp_base {v_program : Addr} {v_base : Int} {v_hands : Addr} {v_held : Addr} {v_first_doors : Addr} {v_doors : Addr} {v_met : Int} {v_timer : Int} {v_moment : Int} {v_waiting : Int} {v_asked : Int} {v_drawn : Addr} {v_writes : Addr} {v_rows : Addr} {v_lines : Int} {u : Int} : putF "base" (.int u) (plf v_program v_base v_hands v_held v_first_doors v_doors v_met v_timer v_moment v_waiting v_asked v_drawn v_writes v_rows v_lines) = plf v_program u v_hands v_held v_first_doors v_doors v_met v_timer v_moment v_waiting v_asked v_drawn v_writes v_rows v_lines := by kernel_rfl
theorem plf_hands {v_program : Addr} {v_base : Int} {v_hands : Addr} {v_held : Addr} {v_first_doors : Addr} {v_doors : Addr} {v_met : Int} {v_timer : Int} {v_moment : Int} {v_waiting : Int} {v_asked : Int} {v_drawn : Addr} {v_writes : Addr} {v_rows : Addr} {v_lines : Int} : (plf v_program v_base v_hands v_held v_first_doors v_doors v_met v_timer v_moment v_waiting v_asked v_drawn v_writes v_rows v_lines).lookup ("hands" : Str) = some (.ref v_hands) := by kernel_rfl
theorem plp_hands {v_program : Addr} {v_base : Int} {v_hands : Addr} {v_held : Addr} {v_first_doors : Addr} {v_doors : Addr} {v_met : Int} {v_timer : Int} {v_moment : Int} {v_waiting : Int} {v_asked : Int} {v_drawn : Addr} {v_writes : Addr} {v_rows : Addr} {v_lines : Int} {u : Addr} : putF "hands" (.ref u) (plf v_program v_base v_hands v_held v_first_doors v_doors v_met v_timer v_moment v_waiting v_asked v_drawn v_writes v_rows v_lines) = plf v_program v_base u v_held v_first_doors v_doors v_met v_timer v_moment v_waiting v_asked v_drawn v_writes v_rows v_lines := by kernel_rfl
theorem plf_held {v_program : Addr} {v_base : Int} {v_hands : Addr} {v_held : Addr} {v_first_doors : Addr} {v_doors : Addr} {v_met : Int} {v_timer : Int} {v_moment : Int} {v_waiting : Int} {v_asked : Int} {v_drawn : Addr} {v_writes : Addr} {v_rows : Addr} {v_lines : Int} : (plf v_program v_base v_hands v_held v_first_doors v_doors v_met v_timer v_moment v_waiting v_asked v_drawn v_writes v_rows v_lines).lookup ("held" : Str) = some (.ref v_held) := by kernel_rfl
theorem plp_held {v_program : Addr} {v_base : Int} {v_hands : Addr} {v_held : Addr} {v_first_doors : Addr} {v_doors : Addr} {v_met : Int} {v_timer : Int} {v_moment : Int} {v_waiting : Int} {v_asked : Int} {v_drawn : Addr} {v_writes : Addr} {v_rows : Addr} {v_lines : Int} {u : Addr} : putF "held" (.ref u) (plf v_program v_base v_hands v_held v_first_doors v_doors v_met v_timer v_moment v_waiting v_asked v_drawn v_writes v_rows v_lines) = plf v_program v_base v_hands u v_first_doors v_doors v_met v_timer v_moment v_waiting v_asked v_drawn v_writes v_rows v_lines := by kernel_rfl
theorem plf_first_doors {v_program : Addr} {v_base : Int} {v_hands : Addr} {v_held : Addr} {v_first_doors : Addr} {v_doors : Addr} {v_met : Int} {v_timer : Int} {v_moment : Int} {v_waiting : Int} {v_asked : Int} {v_drawn : Addr} {v_writes : Addr} {v_rows : Addr} {v_lines : Int} : (plf v_program v_base v_hands v_held v_first_doors v_doors v_met v_timer v_moment v_waiting v_asked v_drawn v_writes v_rows v_lines).lookup ("first_doors" : Str) = some (.ref v_first_doors) := by kernel_rfl
theorem plp_first_doors {v_program : Addr} {v_base : Int} {v_hands : Addr} {v_held : Addr} {v_first_doors : Addr} {v_doors : Addr} {v_met : Int} {v_timer : Int} {v_moment : Int} {v_waiting : Int} {v_asked : Int} {v_drawn : Addr} {v_writes : Addr} {v_rows : Addr} {v_lines : Int} {u : Addr} : putF "first_doors" (.ref u) (plf v_program v_base v_hands v_held v_first_doors v_doors v_met v_timer v_moment v_waiting v_asked v_drawn v_writes v_rows v_lines) = plf v_program v_base v_hands v_held u v_doors v_met v_timer v_moment v_waiting v_asked v_drawn v_writes v_rows v_lines := by kernel_rfl
theorem plf_doors {v_program : Addr} {v_base : Int} {v_hands : Addr} {v_held : Addr} {v_first_doors : Addr} {v_doors : Addr} {v_met : Int} {v_timer : Int} {v_moment : Int} {v_waiting : Int} {v_asked : Int} {v_drawn : Addr} {v_writes : Addr} {v_rows : Addr} {v_lines : Int} : (plf v_program v_base v_hands v_held v_first_doors v_doors v_met v_timer v_moment v_waiting v_asked v_drawn v_writes v_rows v_lines).lookup ("doors" : Str) = some (.ref v_doors) := by kernel_rfl
theorem plp_doors {v_program : Addr} {v_base : Int} {v_hands : Addr} {v_held : Addr} {v_first_doors : Addr} {v_doors : Addr} {v_met : Int} {v_timer : Int} {v_moment : Int} {v_waiting : Int} {v_asked : Int} {v_drawn : Addr} {v_writes : Addr} {v_rows : Addr} {v_lines : Int} {u : Addr} : putF "doors" (.ref u) (plf v_program v_base v_hands v_held v_first_doors v_doors v_met v_timer v_moment v_waiting v_asked v_drawn v_writes v_rows v_lines) = plf v_program v_base v_hands v_held v_first_doors u v_met v_timer v_moment v_waiting v_asked v_drawn v_writes v_rows v_lines := by kernel_rfl
theorem plf_met {v_program : Addr} {v_base : Int} {v_hands : Addr} {v_held : Addr} {v_first_doors : Addr} {v_doors : Addr} {v_met : Int} {v_timer : Int} {v_moment : Int} {v_waiting : Int} {v_asked : Int} {v_drawn : Addr} {v_writes : Addr} {v_rows : Addr} {v_lines : Int} : (plf v_program v_base v_hands v_held v_first_doors v_doors v_met v_timer v_moment v_waiting v_asked v_drawn v_writes v_rows v_lines).lookup ("met" : Str) = some (.int v_met) := by kernel_rfl
theorem plp_met {v_program : Addr} {v_base : Int} {v_hands : Addr} {v_held : Addr} {v_first_doors : Addr} {v_doors : Addr} {v_met : Int} {v_timer : Int} {v_moment : Int} {v_waiting : Int} {v_asked : Int} {v_drawn : Addr} {v_writes : Addr} {v_rows : Addr} {v_lines : Int} {u : Int} : putF "met" (.int u) (plf v_program v_base v_hands v_held v_first_doors v_doors v_met v_timer v_moment v_waiting v_asked v_drawn v_writes v_rows v_lines) = plf v_program v_base v_hands v_held v_first_doors v_doors u v_timer v_moment v_waiting v_asked v_drawn v_writes v_rows v_lines := by kernel_rfl
theorem plf_timer {v_program : Addr} {v_base : Int} {v_hands : Addr} {v_held : Addr} {v_first_doors : Addr} {v_doors : Addr} {v_met : Int} {v_timer : Int} {v_moment : Int} {v_waiting : Int} {v_asked : Int} {v_drawn : Addr} {v_writes : Addr} {v_rows : Addr} {v_lines : Int} : (plf v_program v_base v_hands v_held v_first_doors v_doors v_met v_timer v_moment v_waiting v_asked v_drawn v_writes v_rows v_lines).lookup ("timer" : Str) = some (.int v_timer) := by kernel_rfl
theorem plp_timer {v_program : Addr} {v_base : Int} {v_hands : Addr} {v_held : Addr} {v_first_doors : Addr} {v_doors : Addr} {v_met : Int} {v_timer : Int} {v_moment : Int} {v_waiting : Int} {v_asked : Int} {v_drawn : Addr} {v_writes : Addr} {v_rows : Addr} {v_lines : Int} {u : Int} : putF "timer" (.int u) (plf v_program v_base v_hands v_held v_first_doors v_doors v_met v_timer v_moment v_waiting v_asked v_drawn v_writes v_rows v_lines) = plf v_program v_base v_hands v_held v_first_doors v_doors v_met u v_moment v_waiting v_asked v_drawn v_writes v_rows v_lines := by kernel_rfl
theorem plf_moment {v_program : Addr} {v_base : Int} {v_hands : Addr} {v_held : Addr} {v_first_doors : Addr} {v_doors : Addr} {v_met : Int} {v_timer : Int} {v_moment : Int} {v_waiting : Int} {v_asked : Int} {v_drawn : Addr} {v_writes : Addr} {v_rows : Addr} {v_lines : Int} : (plf v_program v_base v_hands v_held v_first_doors v_doors v_met v_timer v_moment v_waiting v_asked v_drawn v_writes v_rows v_lines).lookup ("moment" : Str) = some (.int v_moment) := by kernel_rfl
theorem plp_moment {v_program : Addr} {v_base : Int} {v_hands : Addr} {v_held : Addr} {v_first_doors : Addr} {v_doors : Addr} {v_met : Int} {v_timer : Int} {v_moment : Int} {v_waiting : Int} {v_asked : Int} {v_drawn : Addr} {v_writes : Addr} {v_rows : Addr} {v_lines : Int} {u : Int} : putF "moment" (.int u) (plf v_program v_base v_hands v_held v_first_doors v_doors v_met v_timer v_moment v_waiting v_asked v_drawn v_writes v_rows v_lines) = plf v_program v_base v_hands v_held v_first_doors v_doors v_met v_timer u v_waiting v_asked v_drawn v_writes v_rows v_lines := by kernel_rfl
theorem plf_waiting {v_program : Addr} {v_base : Int} {v_hands : Addr} {v_held : Addr} {v_first_doors : Addr} {v_doors : Addr} {v_met : Int} {v_timer : Int} {v_moment : Int} {v_waiting : Int} {v_asked : Int} {v_drawn : Addr} {v_writes : Addr} {v_rows : Addr} {v_lines : Int} : (plf v_program v_base v_hands v_held v_first_doors v_doors v_met v_timer v_moment v_waiting v_asked v_drawn v_writes v_rows v_lines).lookup ("waiting" : Str) = some (.int v_waiting) := by kernel_rfl
theorem plp_waiting {v_program : Addr} {v_base : Int} {v_hands : Addr} {v_held : Addr} {v_first_doors : Addr} {v_doors : Addr} {v_met : Int} {v_timer : Int} {v_moment : Int} {v_waiting : Int} {v_asked : Int} {v_drawn : Addr} {v_writes : Addr} {v_rows : Addr} {v_lines : Int} {u : Int} : putF "waiting" (.int u) (plf v_program v_base v_hands v_held v_first_doors v_doors v_met v_timer v_moment v_waiting v_asked v_drawn v_writes v_rows v_lines) = plf v_program v_base v_hands v_held v_first_doors v_doors v_met v_timer v_moment u v_asked v_drawn v_writes v_rows v_lines := by kernel_rfl
theorem plf_asked {v_program : Addr} {v_base : Int} {v_hands : Addr} {v_held : Addr} {v_first_doors : Addr} {v_doors : Addr} {v_met : Int} {v_timer : Int} {v_moment : Int} {v_waiting : Int} {v_asked : Int} {v_drawn : Addr} {v_writes : Addr} {v_rows : Addr} {v_lines : Int} : (plf v_program v_base v_hands v_held v_first_doors v_doors v_met v_timer v_moment v_waiting v_asked v_drawn v_writes v_rows v_lines).lookup ("asked" : Str) = some (.int v_asked) := by kernel_rfl
theorem plp_asked {v_program : Addr} {v_base : Int} {v_hands : Addr} {v_held : Addr} {v_first_doors : Addr} {v_doors : Addr} {v_met : Int} {v_timer : Int} {v_moment : Int} {v_waiting : Int} {v_asked : Int} {v_drawn : Addr} {v_writes : Addr} {v_rows : Addr} {v_lines : Int} {u : Int} : putF "asked" (.int u) (plf v_program v_base v_hands v_held v_first_doors v_doors v_met v_timer v_moment v_waiting v_asked v_drawn v_writes v_rows v_lines) = plf v_program v_base v_hands v_held v_first_doors v_doors v_met v_timer v_moment v_waiting u v_drawn v_writes v_rows v_lines := by kernel_rfl
theorem plf_drawn {v_program : Addr} {v_base : Int} {v_hands : Addr} {v_held : Addr} {v_first_doors : Addr} {v_doors : Addr} {v_met : Int} {v_timer : Int} {v_moment : Int} {v_waiting : Int} {v_asked : Int} {v_drawn : Addr} {v_writes : Addr} {v_rows : Addr} {v_lines : Int} : (plf v_program v_base v_hands v_held v_first_doors v_doors v_met v_timer v_moment v_waiting v_asked v_drawn v_writes v_rows v_lines).lookup ("drawn" : Str) = some (.ref v_drawn) := by kernel_rfl
theorem plp_drawn {v_program : Addr} {v_base : Int} {v_hands : Addr} {v_held : Addr} {v_first_doors : Addr} {v_doors : Addr} {v_met : Int} {v_timer : Int} {v_moment : Int} {v_waiting : Int} {v_asked : Int} {v_drawn : Addr} {v_writes : Addr} {v_rows : Addr} {v_lines : Int} {u : Addr} : putF "drawn" (.ref u) (plf v_program v_base v_hands v_held v_first_doors v_doors v_met v_timer v_moment v_waiting v_asked v_drawn v_writes v_rows v_lines) = plf v_program v_base v_hands v_held v_first_doors v_doors v_met v_timer v_moment v_waiting v_asked u v_writes v_rows v_lines := by kernel_rfl
theorem plf_writes {v_program : Addr} {v_base : Int} {v_hands : Addr} {v_held : Addr} {v_first_doors : Addr} {v_doors : Addr} {v_met : Int} {v_timer : Int} {v_moment : Int} {v_waiting : Int} {v_asked : Int} {v_drawn : Addr} {v_writes : Addr} {v_rows : Addr} {v_lines : Int} : (plf v_program v_base v_hands v_held v_first_doors v_doors v_met v_timer v_moment v_waiting v_asked v_drawn v_writes v_rows v_lines).lookup ("writes" : Str) = some (.ref v_writes) := by kernel_rfl
theorem plp_writes {v_program : Addr} {v_base : Int} {v_hands : Addr} {v_held : Addr} {v_first_doors : Addr} {v_doors : Addr} {v_met : Int} {v_timer : Int} {v_moment : Int} {v_waiting : Int} {v_asked : Int} {v_drawn : Addr} {v_writes : Addr} {v_rows : Addr} {v_lines : Int} {u : Addr} : putF "writes" (.ref u) (plf v_program v_base v_hands v_held v_first_doors v_doors v_met v_timer v_moment v_waiting v_asked v_drawn v_writes v_rows v_lines) = plf v_program v_base v_hands v_held v_first_doors v_doors v_met v_timer v_moment v_waiting v_asked v_drawn u v_rows v_lines := by kernel_rfl
theorem plf_rows {v_program : Addr} {v_base : Int} {v_hands : Addr} {v_held : Addr} {v_first_doors : Addr} {v_doors : Addr} {v_met : Int} {v_timer : Int} {v_moment : Int} {v_waiting : Int} {v_asked : Int} {v_drawn : Addr} {v_writes : Addr} {v_rows : Addr} {v_lines : Int} : (plf v_program v_base v_hands v_held v_first_doors v_doors v_met v_timer v_moment v_waiting v_asked v_drawn v_writes v_rows v_lines).lookup ("rows" : Str) = some (.ref v_rows) := by kernel_rfl
theorem plp_rows {v_program : Addr} {v_base : Int} {v_hands : Addr} {v_held : Addr} {v_first_doors : Addr} {v_doors : Addr} {v_met : Int} {v_timer : Int} {v_moment : Int} {v_waiting : Int} {v_asked : Int} {v_drawn : Addr} {v_writes : Addr} {v_rows : Addr} {v_lines : Int} {u : Addr} : putF "rows" (.ref u) (plf v_program v_base v_hands v_held v_first_doors v_doors v_met v_timer v_moment v_waiting v_asked v_drawn v_writes v_rows v_lines) = plf v_program v_base v_hands v_held v_first_doors v_doors v_met v_timer v_moment v_waiting v_asked v_drawn v_writes u v_lines := by kernel_rfl
theorem plf_lines {v_program : Addr} {v_base : Int} {v_hands : Addr} {v_held : Addr} {v_first_doors : Addr} {v_doors : Addr} {v_met : Int} {v_timer : Int} {v_moment : Int} {v_waiting : Int} {v_asked : Int} {v_drawn : Addr} {v_writes : Addr} {v_rows : Addr} {v_lines : Int} : (plf v_program v_base v_hands v_held v_first_doors v_doors v_met v_timer v_moment v_waiting v_asked v_drawn v_writes v_rows v_lines).lookup ("lines" : Str) = some (.int v_lines) := by kernel_rfl
theorem plp_lines {v_program : Addr} {v_base : Int} {v_hands : Addr} {v_held : Addr} {v_first_doors : Addr} {v_doors : Addr} {v_met : Int} {v_timer : Int} {v_moment : Int} {v_waiting : Int} {v_asked : Int} {v_drawn : Addr} {v_writes : Addr} {v_rows : Addr} {v_lines : Int} {u : Int} : putF "lines" (.int u) (plf v_program v_base v_hands v_held v_first_doors v_doors v_met v_timer v_moment v_waiting v_asked v_drawn v_writes v_rows v_lines) = plf v_program v_base v_hands v_held v_first_doors v_doors v_met v_timer v_moment v_waiting v_asked v_drawn v_writes v_rows u := by kernel_rfl
theorem plf_len {v_program : Addr} {v_base : Int} {v_hands : Addr} {v_held : Addr} {v_first_doors : Addr} {v_doors : Addr} {v_met : Int} {v_timer : Int} {v_moment : Int} {v_waiting : Int} {v_asked : Int} {v_drawn : Addr} {v_writes : Addr} {v_rows : Addr} {v_lines : Int} : (plf v_program v_base v_hands v_held v_first_doors v_doors v_met v_timer v_moment v_waiting v_asked v_drawn v_writes v_rows v_lines).length < 1000 := by show 15 < 1000; decide
def skf (v_one : Int) (v_other : Int) (v_steps : Addr) (v_waits : Addr) (v_met : Addr) (v_kept : Addr) : List (Str × V) := [("one", .int v_one), ("other", .int v_other), ("steps", .ref v_steps), ("waits", .ref v_waits), ("met", .ref v_met), ("kept", .ref v_kept)]
theorem skf_one {v_one : Int} {v_other : Int} {v_steps : Addr} {v_waits : Addr} {v_met : Addr} {v_kept : Addr} : (skf v_one v_other v_steps v_waits v_met v_kept).lookup ("one" : Str) = some (.int v_one) := by kernel_rfl
theorem skp_one {v_one : Int} {v_other : Int} {v_steps : Addr} {v_waits : Addr} {v_met : Addr} {v_kept : Addr} {u : Int} : putF "one" (.int u) (skf v_one v_other v_steps v_waits v_met v_kept) = skf u v_other v_steps v_waits v_met v_kept := by kernel_rfl
theorem skf_other {v_one : Int} {v_other : Int} {v_steps : Addr} {v_waits : Addr} {v_met : Addr} {v_kept : Addr} : (skf v_one v_other v_steps v_waits v_met v_kept).lookup ("other" : Str) = some (.int v_other) := by kernel_rfl
theorem skp_other {v_one : Int} {v_other : Int} {v_steps : Addr} {v_waits : Addr} {v_met : Addr} {v_kept : Addr} {u : Int} : putF "other" (.int u) (skf v_one v_other v_steps v_waits v_met v_kept) = skf v_one u v_steps v_waits v_met v_kept := by kernel_rfl
theorem skf_steps {v_one : Int} {v_other : Int} {v_steps : Addr} {v_waits : Addr} {v_met : Addr} {v_kept : Addr} : (skf v_one v_other v_steps v_waits v_met v_kept).lookup ("steps" : Str) = some (.ref v_steps) := by kernel_rfl
theorem skp_steps {v_one : Int} {v_other : Int} {v_steps : Addr} {v_waits : Addr} {v_met : Addr} {v_kept : Addr} {u : Addr} : putF "steps" (.ref u) (skf v_one v_other v_steps v_waits v_met v_kept) = skf v_one v_other u v_waits v_met v_kept := by kernel_rfl
theorem skf_waits {v_one : Int} {v_other : Int} {v_steps : Addr} {v_waits : Addr} {v_met : Addr} {v_kept : Addr} : (skf v_one v_other v_steps v_waits v_met v_kept).lookup ("waits" : Str) = some (.ref v_waits) := by kernel_rfl
theorem skp_waits {v_one : Int} {v_other : Int} {v_steps : Addr} {v_waits : Addr} {v_met : Addr} {v_kept : Addr} {u : Addr} : putF "waits" (.ref u) (skf v_one v_other v_steps v_waits v_met v_kept) = skf v_one v_other v_steps u v_met v_kept := by kernel_rfl
theorem skf_met {v_one : Int} {v_other : Int} {v_steps : Addr} {v_waits : Addr} {v_met : Addr} {v_kept : Addr} : (skf v_one v_other v_steps v_waits v_met v_kept).lookup ("met" : Str) = some (.ref v_met) := by kernel_rfl
theorem skp_met {v_one : Int} {v_other : Int} {v_steps : Addr} {v_waits : Addr} {v_met : Addr} {v_kept : Addr} {u : Addr} : putF "met" (.ref u) (skf v_one v_other v_steps v_waits v_met v_kept) = skf v_one v_other v_steps v_waits u v_kept := by kernel_rfl
theorem skf_kept {v_one : Int} {v_other : Int} {v_steps : Addr} {v_waits : Addr} {v_met : Addr} {v_kept : Addr} : (skf v_one v_other v_steps v_waits v_met v_kept).lookup ("kept" : Str) = some (.ref v_kept) := by kernel_rfl
theorem skp_kept {v_one : Int} {v_other : Int} {v_steps : Addr} {v_waits : Addr} {v_met : Addr} {v_kept : Addr} {u : Addr} : putF "kept" (.ref u) (skf v_one v_other v_steps v_waits v_met v_kept) = skf v_one v_other v_steps v_waits v_met u := by kernel_rfl
theorem skf_len {v_one : Int} {v_other : Int} {v_steps : Addr} {v_waits : Addr} {v_met : Addr} {v_kept : Addr} : (skf v_one v_other v_steps v_waits v_met v_kept).length < 1000 := by show 6 < 1000; decide
theorem tx_na {K : PySem.W.Frag} {mg : Str → Option Value} (T : Tx K mg) {C : Addr} {f : Str} (h : (na.any fun q => decide (q = (C, f))) = true) : NoAttr K C f := by
  obtain ⟨q, hq, e⟩ := List.any_eq_true.mp h
  obtain ⟨i, hi⟩ := List.getElem?_of_mem hq
  have := T.na i q hi
  rw [of_decide_eq_true e] at this
  exact this
end Bm
set_option maxHeartbeats 1000000
namespace Bm
open PySem PySem.Spec PyProof.Rows L2
open Evl (given given_yes given_no given_len rMax2 rLenS)
local macro_rules | `(tactic| fail "bm_lk") => `(tactic| first | with_reducible exact rgf_a | with_reducible exact rgf_x | with_reducible exact rgf_zero | with_reducible exact rgf_carry | with_reducible exact rgf_memory | with_reducible exact plf_program | with_reducible exact plf_base | with_reducible exact plf_hands | with_reducible exact plf_held | with_reducible exact plf_first_doors | with_reducible exact plf_doors | with_reducible exact plf_met | with_reducible exact plf_timer | with_reducible exact plf_moment | with_reducible exact plf_waiting | with_reducible exact plf_asked | with_reducible exact plf_drawn | with_reducible exact plf_writes | with_reducible exact plf_rows | with_reducible exact plf_lines | with_reducible exact skf_one | with_reducible exact skf_other | with_reducible exact skf_steps | with_reducible exact skf_waits | with_reducible exact skf_met | with_reducible exact skf_kept)
local macro_rules | `(tactic| fail "bm_put") => `(tactic| first | with_reducible exact rgp_a | with_reducible exact rgp_x | with_reducible exact rgp_zero | with_reducible exact rgp_carry | with_reducible exact rgp_memory | with_reducible exact plp_program | with_reducible exact plp_base | with_reducible exact plp_hands | with_reducible exact plp_held | with_reducible exact plp_first_doors | with_reducible exact plp_doors | with_reducible exact plp_met | with_reducible exact plp_timer | with_reducible exact plp_moment | with_reducible exact plp_waiting | with_reducible exact plp_asked | with_reducible exact plp_drawn | with_reducible exact plp_writes | with_reducible exact plp_rows | with_reducible exact plp_lines | with_reducible exact skp_one | with_reducible exact skp_other | with_reducible exact skp_steps | with_reducible exact skp_waits | with_reducible exact skp_met | with_reducible exact skp_kept)
local macro_rules | `(tactic| fail "bm_len") => `(tactic| first | exact rgf_len | exact plf_len | exact skf_len)
local macro_rules | `(tactic| fail "bm_cls") => `(tactic| first | exact c_Playing (by assumption) | exact c_Registers (by assumption) | exact c_Seeker (by assumption))
local macro_rules | `(tactic| fail "bm_na") => `(tactic| exact tx_na (by assumption) (by decide +kernel))
local macro_rules | `(tactic| fail "bm_hp") => `(tactic| first
  | assumption
  | exact upd_same
  | (apply gN; assumption; fail "bm_hp")
  | (apply gD; assumption; fail "bm_hp")
  | (apply gD; (exact Ne.symm (by assumption)); fail "bm_hp")
  | (apply gM; assumption; fail "bm_hp"; (intro q; cases q))
  | (apply gM; exact upd_same; fail "bm_hp"; (intro q; cases q))
  | (apply gS; assumption; fail "bm_hp")
  | (apply gC; assumption; (first | assumption | exact Ne.symm (by assumption)); fail "bm_hp"))
local macro_rules | `(tactic| fail "bm_sq") => `(tactic| first
  | assumption
  | (apply SqT.of; fail "bm_hp")
  | (apply sqT_new; assumption; fail "bm_sq")
  | (apply sqT_same; assumption; fail "bm_sq")
  | (apply sqT_im; assumption; fail "bm_sq")
  | (apply sqT_chg; assumption; fail "bm_sq")
  | (apply tx_tup; assumption; rfl))
local macro_rules | `(tactic| fail "bm_ls") => `(tactic| first
  | assumption
  | (apply SqL.of; fail "bm_hp")
  | (apply sqL_new; assumption; fail "bm_ls")
  | (apply sqL_same; assumption; fail "bm_ls"))
local macro_rules | `(tactic| fail "bm_sd") => `(tactic| first
  | omega
  | decide
  | (show (0 : Int) < _; omega)
  | exact (show CDiv _ _ from ⟨by omega, by omega⟩)
  | exact Or.inl ⟨by omega, by omega⟩
  | exact Or.inr ⟨by omega, by omega⟩)
local macro_rules | `(tactic| fail "bm_set") => `(tactic| ((try simp only [List.set_cons_zero, List.set_cons_succ]) <;> rfl))
local macro_rules | `(tactic| fail "bm_turn") => `(tactic| simp only [wipe, List.map_cons, List.map_nil, List.set_cons_zero, List.set_cons_succ])
local macro_rules | `(tactic| fail "bm_at") => `(tactic| first | assumption | rfl)
local macro_rules | `(tactic| fail "bm_go1") => `(tactic| first
  | with_reducible refine r_seq ?_
  | with_reducible refine r_asg ?_
  | with_reducible refine r_ret ?_
  | ((with_reducible apply r_nameE); fail "bm_set")
  | with_reducible refine r_op ?_
  | ((with_reducible apply r_var); rfl)
  | with_reducible refine r_c ?_
  | with_reducible refine r_I0 ?_
  | ((with_reducible apply r_I); fail "bm_sd")
  | ((with_reducible apply r_eq); rfl)
  | ((with_reducible apply r_ne); rfl)
  | with_reducible refine r_test ?_
  | with_reducible refine r_B ?_
  | with_reducible refine r_bl ?_
  | with_reducible refine r_int ?_
  | with_reducible refine r_call ?_
  | with_reducible refine r_cb ?_
  | with_reducible refine r_cons ?_
  | with_reducible refine r_nil ?_
  | with_reducible refine r_ifS ?_
  | with_reducible refine r_next ?_
  | with_reducible refine r_drop ?_
  | with_reducible refine r_and ?_
  | with_reducible refine r_or ?_
  | with_reducible refine r_not ?_
  | with_reducible refine r_andV ?_
  | with_reducible refine r_notV ?_
  | with_reducible refine r_if ?_
  | with_reducible refine r_tup ?_
  | with_reducible refine r_lst ?_
  | with_reducible refine r_sl ?_
  | with_reducible refine r_nop ?_
  | with_reducible refine r_part ?_
  | with_reducible refine r_fld ?_
  | with_reducible refine r_sfld ?_
  | with_reducible refine r_intB ?_
  | with_reducible refine r_max ?_
  | with_reducible refine r_min ?_
  | with_reducible refine r_isN ?_
  | with_reducible refine r_notN ?_
  | with_reducible refine r_gcons ?_
  | with_reducible refine r_gnil ?_
  | ((with_reducible apply r_ixT); fail "bm_sq"; fail "bm_at")
  | ((with_reducible apply r_ixL); fail "bm_ls"; fail "bm_at")
  | ((with_reducible apply r_inT); fail "bm_sq"; rfl; rfl)
  | ((with_reducible apply r_gtup); fail "bm_sq"; rfl)
  | ((with_reducible apply r_lenL); fail "bm_ls")
  | ((with_reducible apply r_lenT); fail "bm_sq")
  | with_reducible refine r_retN ?_
  | with_reducible refine r_lcl ?_
  | with_reducible refine r_lct ?_
  | with_reducible refine r_lcn ?_
  | with_reducible refine r_forl ?_
  | with_reducible refine r_fort ?_
  | with_reducible refine r_forn ?_
  | ((with_reducible apply r_catA); fail "bm_sq"; fail "bm_sq"; (exact Nat.le_of_ble_eq_true rfl); (exact List.cons_ne_nil _ _); (exact List.cons_ne_nil _ _))
  | ((with_reducible apply r_fldE); fail "bm_hp"; fail "bm_cls"; fail "bm_na"; fail "bm_lk")
  | ((with_reducible apply r_sfldE); fail "bm_hp"; fail "bm_cls"; fail "bm_na"; fail "bm_len"; fail "bm_put")
  | ((with_reducible apply r_methE); fail "bm_hp"; kernel_rfl)
  | with_reducible refine r_faug ?_
  | ((with_reducible apply r_faugE); fail "bm_hp"; fail "bm_cls"; fail "bm_na"; fail "bm_lk")
  | with_reducible refine r_addA ?_
  | ((with_reducible apply r_faugP); fail "bm_hp"; fail "bm_len"; fail "bm_put")
  | with_reducible refine r_make ?_
  | with_reducible refine r_dnew ?_
  | with_reducible refine r_dget ?_
  | with_reducible refine r_din ?_
  | with_reducible refine r_dnotin ?_
  | with_reducible refine r_dput ?_
  | with_reducible refine r_dget2 ?_
  | with_reducible refine r_bm ?_
  | with_reducible refine r_wipe (by kernel_rfl) ?_
  | with_reducible refine r_yes ?_
  | ((with_reducible apply r_ty); fail "bm_ls")
  | ((with_reducible apply r_new); exact Nat.le_of_ble_eq_true rfl)
  | with_reducible refine r_ifT rfl ?_
  | with_reducible refine r_ifF rfl ?_
  | with_reducible refine r_meth ?_
  | ((with_reducible apply r_aug); rfl)
  | with_reducible refine r_ipI ?_
  | dsimp only)
local macro_rules | `(tactic| fail "bm_go") => `(tactic| repeat fail "bm_go1")
/-! splitting a test: by its truth; known ones first -/
local macro_rules | `(tactic| fail "bm_split") => `(tactic| first
  | refine r_ifT (by assumption) ?_
  | refine r_ifF (by assumption) ?_
  | refine r_ifT (by decide +kernel) ?_
  | refine r_ifF (by decide +kernel) ?_
  | refine r_ifD (fun _ => ?_) (fun _ => ?_)
  | refine r_ifN (fun _ => ?_) (fun _ => ?_)
  | refine r_ifB (fun _ => ?_) (fun _ => ?_))
local macro_rules | `(tactic| fail "bm_all") => `(tactic| (repeat' (first | fail "bm_go1" | fail "bm_split")))
local macro_rules | `(tactic| fail "bm_sm") => `(tactic| first
  | exact Same.refl _
  | assumption
  | (refine same_mut ?_ (by fail "bm_fr"); fail "bm_sm")
  | (refine Same.trans ?_ (by assumption); fail "bm_sm"))
local macro_rules | `(tactic| fail "bm_fr") => `(tactic| first
  | assumption
  | exact none_upd (by assumption)
  | (refine Same.free ?_ (by assumption); fail "bm_sm")
  | (refine Same.free ?_ (none_upd (by assumption)); fail "bm_sm"))
section
/-! ## A1: deeds, rows, addresses -/
def sp_kind : Sp := fun vs H Q _ => ∃ s : Str, vs = [.str s] ∧ Q (.str (kindOf s)) H
theorem sc_kind : FnScope ["deed"] ["deed"] (defScope s_kind) := ⟨rfl, rfl, rfl, by decide +kernel, rfl, by decide +kernel, by decide +kernel⟩
theorem ok_kind {P : Program} {w : World} {K : PySem.W.Frag} {mg : Str → Option Value} {base : Heap} (T : Tx K mg) : Ok P w K mg base CX0 1 76 ["deed"] (sp_kind) := by
  refine ok0 0 (f_kind T) sc_kind (fun _ _ _ _ _ _ us hl => match us, hl with | [_], _ => rfl) (fun vs H Q E h => ?_) (fun cdv A outer sh H vs Q E room h => ?_)
  · obtain ⟨s, rfl, k⟩ := h
    rfl
  · obtain ⟨s, rfl, k⟩ := h
    refine ⟨_,     (pss_cons (ps_if (pt_cmpR (op_inK K) (pv 0) (pgr (g_BYTE_DEEDS T) rfl) (by rfl))
          (pss_one (ps_ret pe_str)) pss_nil)
        (pss_cons (ps_if (pt_cmpR (op_inK K) (pv 0) (pgr (g_MEMORY_DEEDS T) rfl) (by rfl))
          (pss_one (ps_ret pe_str)) pss_nil)
        (pss_cons (ps_if (pt_cmpR (op_inK K) (pv 0) (pgr (g_PLAIN_DEEDS T) rfl) (by rfl))
          (pss_one (ps_ret pe_str)) pss_nil)
        (pss_cons (ps_if (pt_cmpR (op_inK K) (pv 0) (pgr (g_MARK_DEEDS T) rfl) (by rfl))
          (pss_one (ps_ret pe_str)) pss_nil)
        (pss_cons (ps_if (pt_cmpR op_eq (pv 0) pe_str (nomark _))
          (pss_one (ps_ret pe_str)) pss_nil)
        (pss_one (ps_ret (pv 0)))))))), ?_⟩
    show (_ : TS) _ [_] _
    unfold kindOf at k
    fail "bm_all"
    all_goals (simp only [*, if_true, if_false, Bool.false_eq_true] at k; exact k)
def sp_byte_count : Sp := fun vs H Q _ => ∃ s : Str, vs = [.str s] ∧ Q (.int (byteCnt s)) H
theorem sc_byte_count : FnScope ["deed"] ["deed"] (defScope s_byte_count) := ⟨rfl, rfl, rfl, by decide +kernel, rfl, by decide +kernel, by decide +kernel⟩
theorem ok_byte_count {P : Program} {w : World} {K : PySem.W.Frag} {mg : Str → Option Value} {base : Heap} (T : Tx K mg) : Ok P w K mg base CX0 1 83 ["deed"] (sp_byte_count) := by
  refine ok0 0 (f_byte_count T) sc_byte_count (fun _ _ _ _ _ _ us hl => match us, hl with | [_], _ => rfl) (fun vs H Q E h => ?_) (fun cdv A outer sh H vs Q E room h => ?_)
  · obtain ⟨s, rfl, k⟩ := h
    rfl
  · obtain ⟨s, rfl, k⟩ := h
    refine ⟨_,     (pss_cons (ps_if (PW.pt (pw_or (pt_cmpR (op_inK K) (pv 0) (pgr (g_PLAIN_DEEDS T) rfl) (by rfl)) (pw_or1 (pt_cmpR op_eq (pv 0) pe_str (nomark _)))))
          (pss_one (ps_ret pe_int)) pss_nil)
        (pss_one (ps_ret pe_int))), ?_⟩
    show (_ : TS) _ [_] _
    unfold byteCnt at k
    fail "bm_all"
    all_goals (simp only [*, if_true, if_false, Bool.false_eq_true] at k; exact k)
def sp_beat_count : Sp := fun vs H Q _ => ∃ s : Str, vs = [.str s] ∧ Q (.int (beatCnt s)) H
theorem sc_beat_count : FnScope ["deed"] ["deed"] (defScope s_beat_count) := ⟨rfl, rfl, rfl, by decide +kernel, rfl, by decide +kernel, by decide +kernel⟩
theorem ok_beat_count {P : Program} {w : World} {K : PySem.W.Frag} {mg : Str → Option Value} {base : Heap} (T : Tx K mg) : Ok P w K mg base CX0 1 90 ["deed"] (sp_beat_count) := by
  refine ok0 0 (f_beat_count T) sc_beat_count (fun _ _ _ _ _ _ us hl => match us, hl with | [_], _ => rfl) (fun vs H Q E h => ?_) (fun cdv A outer sh H vs Q E room h => ?_)
  · obtain ⟨s, rfl, k⟩ := h
    rfl
  · obtain ⟨s, rfl, k⟩ := h
    refine ⟨_,     (pss_cons (ps_if (pt_cmpR op_eq (pv 0) pe_str (nomark _))
          (pss_one (ps_ret pe_int)) pss_nil)
        (pss_cons (ps_if (pt_cmpR (op_inK K) (pv 0) (pgr (g_FOUR_BEATS T) rfl) (by rfl))
          (pss_one (ps_ret pe_int)) pss_nil)
        (pss_cons (ps_if (pt_cmpR (op_inK K) (pv 0) (pgr (g_THREE_BEATS T) rfl) (by rfl))
          (pss_one (ps_ret pe_int)) pss_nil)
        (pss_one (ps_ret pe_int))))), ?_⟩
    show (_ : TS) _ [_] _
    unfold beatCnt at k
    fail "bm_all"
    all_goals (simp only [*, if_true, if_false, Bool.false_eq_true] at k; exact k)
def sp_is_table (K : PySem.W.Frag) : Sp := fun vs H Q _ => ∃ (a : Addr) (r : Row), vs = [.ref a] ∧ SqT K H a (rowV r) ∧ Q (.bl (decide (V.str r.d = V.str "data"))) H
theorem sc_is_table : FnScope ["row"] ["row"] (defScope s_is_table) := ⟨rfl, rfl, rfl, by decide +kernel, rfl, by decide +kernel, by decide +kernel⟩
theorem ok_is_table {P : Program} {w : World} {K : PySem.W.Frag} {mg : Str → Option Value} {base : Heap} (T : Tx K mg) : Ok P w K mg base CX0 1 97 ["row"] (sp_is_table K) := by
  refine ok0 0 (f_is_table T) sc_is_table (fun _ _ _ _ _ _ us hl => match us, hl with | [_], _ => rfl) (fun vs H Q E h => ?_) (fun cdv A outer sh H vs Q E room h => ?_)
  · obtain ⟨a, r, rfl, h, k⟩ := h
    rfl
  · obtain ⟨a, r, rfl, h, k⟩ := h
    refine ⟨_,     (pss_one (ps_ret (pe_cmpR op_eq (pe_ix (ix_tupK K) (pv 0) pe_int (fun _ _ => rfl)) pe_str (nomark _)))), ?_⟩
    show (_ : TS) _ [_] _
    unfold rowV at h
    fail "bm_go"
    exact k
def sp_is_crossed : Sp := fun vs H Q _ => ∃ i j : Int, vs = [.int i, .int j] ∧ Q (.int (crossed i j)) H
theorem sc_is_crossed : FnScope ["one", "other"] ["one", "other"] (defScope s_is_crossed) := ⟨rfl, rfl, rfl, by decide +kernel, rfl, by decide +kernel, by decide +kernel⟩
theorem ok_is_crossed {P : Program} {w : World} {K : PySem.W.Frag} {mg : Str → Option Value} {base : Heap} (T : Tx K mg) : Ok P w K mg base CX0 1 129 ["one", "other"] (sp_is_crossed) := by
  refine ok0 0 (f_is_crossed T) sc_is_crossed (fun _ _ _ _ _ _ us hl => match us, hl with | [_, _], _ => rfl) (fun vs H Q E h => ?_) (fun cdv A outer sh H vs Q E room h => ?_)
  · obtain ⟨i, j, rfl, k⟩ := h
    rfl
  · obtain ⟨i, j, rfl, k⟩ := h
    refine ⟨_,     (pss_one (ps_ret (pe_callTy call_intN (by rfl) (n_int T) (by decide +kernel) (pa_cons (pe_cmpR op_ne (pe_op op_fdiv (pv 0) (pgi (i_PAGE T) rfl)) (pe_op op_fdiv (pv 1) (pgi (i_PAGE T) rfl)) (nomark _)) pa_nil)))), ?_⟩
    show (_ : TS) _ [_, _] _
    fail "bm_go"
    unfold crossed at k
    by_cases e : i / 32 = j / 32
    · rw [if_neg (by simpa using e)] at k
      simpa [e] using k
    · rw [if_pos e] at k
      simpa [e] using k
def sp_row_of (K : PySem.W.Frag) : Sp := fun vs H Q _ => ∃ (p : Addr) (P : List Row) (m : Str) (j : Nat), vs = [.ref p, .str m] ∧ PAt K H p P ∧ P.length ≤ 1000 ∧ markIx P m = some j ∧ ∀ H', Same H H' → Q (.int (j : Int)) H'
theorem sc_row_of : FnScope ["program", "mark", "own", "deed", "value"] ["program", "mark"] (defScope s_row_of) := ⟨rfl, rfl, rfl, by decide +kernel, rfl, by decide +kernel, by decide +kernel⟩
theorem ok_row_of {P : Program} {w : World} {K : PySem.W.Frag} {mg : Str → Option Value} {base : Heap} (T : Tx K mg) : Ok P w K mg base CX0 1 102 ["program", "mark"] (sp_row_of K) := by
  refine ok0 0 (f_row_of T) sc_row_of (fun _ _ _ _ _ _ us hl => match us, hl with | [_, _], _ => rfl) (fun vs H Q E h => ?_) (fun cdv A outer sh H vs Q E room h => ?_)
  · obtain ⟨p, P, m, j, rfl, hP, hz, hj, k⟩ := h
    rfl
  · obtain ⟨p, P, m, j, rfl, hP, hz, hj, k⟩ := h
    refine ⟨_,     (pss_one (ps_ret (pe_bmK K PySem.F.plainAttrs_list PySem.F.slot_list_index PySem.F.type_list_index (mt_indexK K) (pe_lc (own := [("own", 2), ("deed", 3), ("value", 4)]) rfl sc_row_of.nd (pi_tupK K (pv 0)) (blkOk_by (N := ["program", "mark", "own", "deed", "value"]) (sc := defScope s_row_of) (by decide +kernel)) (fun _ _ _ _ _ => (pg_tupK K (n := 3) rfl (pgs_cons (pg_name (i := 2) sc_row_of.nd rfl (Or.inl rfl)) (pgs_cons (pg_name (i := 3) sc_row_of.nd rfl (Or.inl rfl)) (pgs_cons (pg_name (i := 4) sc_row_of.nd rfl (Or.inl rfl)) pgs_nil))))) (fun _ _ _ _ _ => pts_nil) (fun _ _ _ _ _ => (pv 2))) (pa_cons (pv 1) pa_nil)))), ?_⟩
    show (_ : TS) _ [_, _, none, none, none] _
    obtain ⟨xs, h1, h2, h3⟩ := hP.each
    fail "bm_go"
    refine lcT_m (xs := xs) P (fun r => V.str r.m) h1 h2 (by omega) (fun i x r H' hx hr s R R0 q1 q0 => ?_) (fun D H' hD s hD' => ?_)
    · obtain ⟨a, r', rfl, hr', h4⟩ := h3 i x hx
      cases hr.symm.trans hr'
      unfold rowV at h4
      fail "bm_turn"
      fail "bm_go"
      exact q1 rfl _ (Same.refl _)
    · fail "bm_go"
      obtain ⟨e1, e2, e3⟩ := List.findIdx?_eq_some_iff_getElem.mp hj
      refine r_index (z := V.str P[j].m) (SqL.of hD') rfl (by simp [flatV]) (by rw [List.getElem?_map, List.getElem?_eq_getElem e1]; rfl) ?_ (fun n z' hn hz' => ?_) (k _ s)
      · have := of_decide_eq_true e2
        rw [this]
        simp [eqV]
      · rw [List.getElem?_map, List.getElem?_eq_getElem (by omega)] at hz'
        have := e3 n hn
        cases hz'
        simp [eqV] at this ⊢
        exact this
def sp_long_of (K : PySem.W.Frag) : Sp := fun vs H Q _ => ∃ (p : Addr) (P : List Row), vs = [.ref p] ∧ PAt K H p P ∧ P.length ≤ 1000 ∧ ∀ H', Same H H' → Q (.int (longOf P)) H'
theorem sc_long_of : FnScope ["program", "row"] ["program"] (defScope s_long_of) := ⟨rfl, rfl, rfl, by decide +kernel, rfl, by decide +kernel, by decide +kernel⟩
theorem ok_long_of {P : Program} {w : World} {K : PySem.W.Frag} {mg : Str → Option Value} {base : Heap} (T : Tx K mg) : Ok P w K mg base CX0 2 108 ["program"] (sp_long_of K) := by
  refine ok0 1 (f_long_of T) sc_long_of (fun _ _ _ _ _ _ us hl => match us, hl with | [_], _ => rfl) (fun vs H Q E h => ?_) (fun cdv A outer sh H vs Q E room h => ?_)
  · obtain ⟨p, P, rfl, hP, hz, k⟩ := h
    rfl
  · obtain ⟨p, P, rfl, hP, hz, k⟩ := h
    refine ⟨_,     (pss_one (ps_ret (pe_callB (cr_sumK K rfl) (by rfl) (n_sum T) (by decide +kernel) (pa_cons (pe_lc (own := [("row", 1)]) rfl sc_long_of.nd (pi_tupK K (pv 0)) (blkOk_by (N := ["program", "row"]) (sc := defScope s_long_of) (by decide +kernel)) (fun _ _ _ _ _ => (pg_name (i := 1) sc_long_of.nd rfl (Or.inl rfl))) (fun _ _ _ _ _ => pts_nil) (fun _ _ _ _ _ => (pc (ok_byte_count (K := K) T) (room.mono (by decide)) rfl (g_byte_count T) pass0 (pa_cons (pe_ix (ix_tupK K) (pv 1) pe_int (fun _ _ => rfl)) pa_nil)))) pa_nil)))), ?_⟩
    show (_ : TS) _ [_, none] _
    obtain ⟨xs, h1, h2, h3⟩ := hP.each
    fail "bm_go"
    refine lcT_m (xs := xs) P (fun r => V.int (byteCnt r.d)) h1 h2 (by omega) (fun i x r H' hx hr s R R0 q1 q0 => ?_) (fun D H' hD s hD' => ?_)
    · obtain ⟨a, r', rfl, hr', h4⟩ := h3 i x hx
      cases hr.symm.trans hr'
      unfold rowV at h4
      fail "bm_turn"
      fail "bm_go"
      exact ⟨_, rfl, q1 rfl _ (Same.refl _)⟩
    · fail "bm_go"
      refine ⟨D, P.map fun r => byteCnt r.d, rfl, SqL.of (by rw [List.map_map]; exact hD'), ?_⟩
      exact k _ s
def sp_want_room (K : PySem.W.Frag) : Sp := fun vs H Q _ => ∃ (p : Addr) (P : List Row) (b : Int), vs = [.ref p, .int b] ∧ PAt K H p P ∧ P.length ≤ 1000 ∧ b + longOf P ≤ 256 ∧ ∀ H', Same H H' → Q .non H'
theorem sc_want_room : FnScope ["program", "base"] ["program", "base"] (defScope s_want_room) := ⟨rfl, rfl, rfl, by decide +kernel, rfl, by decide +kernel, by decide +kernel⟩
theorem ok_want_room {P : Program} {w : World} {K : PySem.W.Frag} {mg : Str → Option Value} {base : Heap} (T : Tx K mg) : Ok P w K mg base CX0 3 115 ["program", "base"] (sp_want_room K) := by
  refine ok0 2 (f_want_room T) sc_want_room (fun _ _ _ _ _ _ us hl => match us, hl with | [_, _], _ => rfl) (fun vs H Q E h => ?_) (fun cdv A outer sh H vs Q E room h => ?_)
  · obtain ⟨p, P, b, rfl, hP, hz, hb, k⟩ := h
    rfl
  · obtain ⟨p, P, b, rfl, hP, hz, hb, k⟩ := h
    refine ⟨_,     (pss_one (ps_if (pt_cmpR op_gt (pe_op op_add (pv 1) (pc (ok_long_of (K := K) T) (room.mono (by decide)) rfl (g_long_of T) pass0 (pa_cons (pv 0) pa_nil))) (pgi (i_ROOM T) rfl) (nomark _))
          (pss_one ps_never) pss_nil)), ?_⟩
    show (_ : TS) _ [_, _] _
    fail "bm_go"
    refine ⟨p, P, rfl, hP, hz, fun H' s => ?_⟩
    fail "bm_go"
    refine r_ifF (decide_eq_false (by omega)) ?_
    fail "bm_go"
    exact k _ s
def sp_addresses (K : PySem.W.Frag) : Sp := fun vs H Q _ => ∃ (p : Addr) (P : List Row) (b : Int), vs = [.ref p, .int b] ∧ PAt K H p P ∧ P.length ≤ 1000 ∧ b + longOf P ≤ 256 ∧ ∀ l H', Same H H' → H l = none → H' l = some (.lst ((addrs b P).map V.int)) → Q (.ref l) H'
theorem sc_addresses : FnScope ["program", "base", "found", "row"] ["program", "base"] (defScope s_addresses) := ⟨rfl, rfl, rfl, by decide +kernel, rfl, by decide +kernel, by decide +kernel⟩
theorem ok_addresses {P : Program} {w : World} {K : PySem.W.Frag} {mg : Str → Option Value} {base : Heap} (T : Tx K mg) : Ok P w K mg base CX0 4 122 ["program", "base"] (sp_addresses K) := by
  refine ok0 3 (f_addresses T) sc_addresses (fun _ _ _ _ _ _ us hl => match us, hl with | [_, _], _ => rfl) (fun vs H Q E h => ?_) (fun cdv A outer sh H vs Q E room h => ?_)
  · obtain ⟨p, P, b, rfl, hP, hz, hb, k⟩ := h
    rfl
  · obtain ⟨p, P, b, rfl, hP, hz, hb, k⟩ := h
    refine ⟨_,     (pss_cons (ps_expr (pc (ok_want_room (K := K) T) (room.mono (by decide)) rfl (g_want_room T) pass0 (pa_cons (pv 0) (pa_cons (pv 1) pa_nil))))
        (pss_cons (ps_set (i := 2) sc_addresses.nd rfl (Or.inl rfl) (pe_lst pa_nil))
        (pss_cons (ps_for PassesOwn.never rfl (pi_tupK K (pv 0)) (pg_name (i := 3) sc_addresses.nd rfl (Or.inl rfl))
          (pss_cons (ps_expr (pe_bmK K PySem.F.plainAttrs_list PySem.F.slot_list_append PySem.F.type_list_append mt_append (pv 2) (pa_cons (pv 1) pa_nil)))
          (pss_one (ps_aug (i := 1) sc_addresses.nd rfl (Or.inl rfl) (pc (ok_byte_count (K := K) T) (room.mono (by decide)) rfl (g_byte_count T) pass0 (pa_cons (pe_ix (ix_tupK K) (pv 3) pe_int (fun _ _ => rfl)) pa_nil)) ip_add))))
        (pss_one (ps_ret (pv 2)))))), ?_⟩
    show (_ : TS) _ [_, _, none, none] _
    fail "bm_go"
    refine ⟨p, P, b, rfl, hP, hz, hb, fun H1 s1 => ?_⟩
    fail "bm_go"
    intro l hl
    fail "bm_go"
    have hl0 : H l = none := s1.free hl
    obtain ⟨xs, h1, h2, h3⟩ := hP.each
    refine forT (xs := xs) (fun i σ H' => ∃ v, σ = [some (.ref p), some (.int (b + longOf (P.take i))), some (.ref l), v] ∧ Same H1 H' ∧ H' l = some (.lst (((addrs b P).take i).map V.int))) (sqT_same (same_mut s1 hl0) h1) ⟨none, ?_, same_new hl, upd_same⟩
      (fun i σ H' q => ?_) (fun i x σ H' hx q => ?_) (fun σ H' q => ?_)
    · simp [longOf]
    · obtain ⟨v, rfl, q1, q2⟩ := q
      exact im_mk q1 trivial
    · obtain ⟨v, rfl, q1, q2⟩ := q
      obtain ⟨a, r, rfl, hr, h4⟩ := h3 i x hx
      have hi := (List.getElem?_eq_some_iff.mp hr).1
      have h5 := sqT_same (s1.trans q1) h4
      unfold rowV at h5
      fail "bm_go"
      refine r_app q2 (szl ?_) ?_
      · simp [addrs_length]
        omega
      · fail "bm_go"
        have h6 := Im.sqT (Im.mut (o := .lst ((((addrs b P).take i).map V.int) ++ [V.int (b + longOf (P.take i))])) q2 trivial) h5
        fail "bm_go"
        refine ⟨_, rfl, ?_⟩
        fail "bm_go"
        refine ⟨some (.ref a), ?_, same_mut q1 hl, ?_⟩
        · rw [longOf_take_succ hr, ← Int.add_assoc]
        · rw [upd_same, addrs_take_succ b P i hi, List.map_append]
          rfl
    · obtain ⟨v, rfl, q1, q2⟩ := q
      fail "bm_go"
      refine k l H' (s1.trans q1) hl0 ?_
      rw [h2, ← addrs_length b P, List.take_length] at q2
      exact q2
end
section
/-! ## Ru: list(reversed(a list)) -/
namespace LR
open PySem PySem.Spec PyProof.Rows L2
section
variable {prog : Program} {w : World} {A : Around} {E : Value → Shared → Prop} {s : Shared}
theorem ext_rev {R : Result → Shared → Prop} {S ir l : Addr} {its : Array Value} {c₀ : Nat} (hh : A.handled = none) (hi : s.heap.IsRevIter ir l ((its.size : Int) - 1)) (hl : s.heap.IsList l its) (n1 : l ≠ ir) (n2 : S ≠ ir) (n3 : S ≠ l)
    (hn : its.size ≤ sizeLine) (hS : s.heap.get? S = some { cls := .type "list", dict := none, data := .seq #[] c₀, slots := #[] })
    (hR : ∀ (h' : Heap) (tk : Nat) (got : Array Value) (c' : Nat), (∀ b o, b ≠ S → b ≠ ir → s.heap.get? b = some o → h'.get? b = some o) → h'.get? S = some { cls := .type "list", dict := none, data := .seq got c', slots := #[] } →
      ItemsOf (fun i v => its[its.size - 1 - i]? = some v) got its.size → R (.ok (.ret .none)) { s with heap := h', toks := tk }) :
    wpAny (model prog w) A.in1 (Builtin.List.listExtendWith (.ref S) (.ref ir) .none)
      (fun fin s' => match fin with | .done f => R (.ok f) s' | .again c' => c'.quiet = true ∧ codeAny (model prog w) A c' R s') (fun e s' => R (.error e) s') s := by
  have Wk := (Walks.listRev (prog := prog) (w := w) (A := A.in1) hh ir l n1 its).toS
  have out : S ∉ [ir, l] := by simp only [List.mem_cons, List.not_mem_nil, or_false, not_or]; exact ⟨n2, n3⟩
  have ty : s.TypeIs (.ref ir) "list_reverseiterator" := hi.typeIs
  have nsame : Builtin.List.listSameRef (.ref S) (.ref ir) = false := by simp [Builtin.List.listSameRef, n2]
  unfold Builtin.List.listExtendWith
  refine wpAny_bind (wpAny_typeOf ty ?_)
  rw [if_neg (by rw [nsame]; decide)]
  refine wpAny_bind (wpAny_pyIter_revIter hi ?_)
  refine wpAny_bind (wpAny_holding ?_)
  unfold Builtin.List.listLengthHint
  refine wpAny_bind (wpAny_specialOf ty RT.nolen_lri ?_)
  show wpAny _ A.in1 (specialOf (Value.ref ir) (Str.ofString "__length_hint__") >>= _) _ _ _
  refine wpAny_bind (wpAny_specialOf ty RT.hint_lri ?_)
  generalize hid : ("list_reverseiterator.__length_hint__" : String) = idn
  wp_delta
  rw [show splitId idn = some ("list_reverseiterator", "__length_hint__") from by subst hid; decide +kernel]
  subst hid
  refine wpAny_bind (wpAny_isInstance (b := true) ty (by rw [isSubtype_type]; kernel_rfl) ?_)
  refine wpAny_pure ?_
  rw [if_neg (by decide)]
  have z0 : ((its.size : Nat) : Int) - 1 - ((0 : Nat) : Int) = (its.size : Int) - 1 := by omega
  refine wpAny_pure ⟨plainId_quiet F.plain_extend_loop _, codeAny_extend_loopS Wk hn _ out _ its.size 0 _ _ _ rfl (Nat.zero_le _) ⟨Nat.zero_le _, by rw [z0]; exact hi, hl⟩ hS (ItemsOf.nil _) fun s' got c' mv hS' hg => ?_⟩
  rw [Moved.eq_with mv]
  refine hR s'.heap s'.toks got c' (fun b o hb hb2 e => mv.heap b o (fun hm => ?_) e) hS' hg
  rcases List.mem_cons.mp hm with e' | hm
  · exact hb e'
  · exact hb2 (List.mem_singleton.mp hm)
theorem call_lrev {Q : Value → Shared → Prop} {ir l : Addr} {its : Array Value} (hh : A.handled = none) (hi : s.heap.IsRevIter ir l ((its.size : Int) - 1)) (hl : s.heap.IsList l its) (n1 : l ≠ ir) (hn : its.size ≤ sizeLine)
    (hQ : ∀ (h' : Heap) (tk : Nat) (got : Array Value) (c' : Nat), (∀ b o, b ≠ ir → s.heap.get? b = some o → h'.get? b = some o) → h'.get? s.heap.objs.size = some { cls := .type "list", dict := none, data := .seq got c', slots := #[] } →
      ItemsOf (fun i v => its[its.size - 1 - i]? = some v) got its.size → Q (.ref s.heap.objs.size) { s with heap := h', toks := tk }) : wpAny (model prog w) A (call (.type "list") [.ref ir]) Q E s := by
  obtain ⟨oi, hoi, _⟩ := id hi
  obtain ⟨ol, hol, _⟩ := id hl
  have m1 : s.heap.objs.size ≠ ir := Nat.ne_of_gt (Heap.lt_size hoi)
  have m2 : s.heap.objs.size ≠ l := Nat.ne_of_gt (Heap.lt_size hol)
  refine callType_codes (Q₁ := fun obj s₁ => obj = .ref s.heap.objs.size ∧ s₁ = { s with heap := s.heap.push { cls := .type "list", data := .seq #[] } }) F.called_list (F.typeCall_list_1 _) F.entry_list_init (code_list_new _ ⟨rfl, rfl⟩) fun ob s1 hs => ?_
  obtain ⟨rfl, rfl⟩ := hs
  have g0 : (s.heap.push { cls := .type "list", data := .seq #[] }).get? s.heap.objs.size = some { cls := .type "list", data := .seq #[] } := Heap.get?_push_size _ rfl
  refine ⟨⟨_, g0, rfl⟩, F.args_list_init_2 _ _, ?_⟩
  show wpAny _ _ (do let old ← Builtin.List.listItems (.ref s.heap.objs.size); Builtin.List.listUpdate (.ref s.heap.objs.size) (fun _ => #[]); letGo old.toList.reverse; Builtin.List.listExtendWith (.ref s.heap.objs.size) (.ref ir) .none) _ _ _
  refine wpAny_bind ?_
  unfold Builtin.List.listItems
  refine wpAny_bind (wpAny_seqItems g0 rfl (wpAny_pure ?_))
  show wpAny _ _ (updateSeq s.heap.objs.size (fun _ => #[]) >>= fun _ => letGo (#[] : Array Value).toList.reverse >>= fun _ => Builtin.List.listExtendWith (.ref s.heap.objs.size) (.ref ir) .none) _ _ _
  refine wpAny_bind (wpAny_updateSeq g0 rfl ?_)
  have g1 := Heap.get?_update_self (Obj.mapSeq (fun _ => (#[] : Array Value))) g0 rfl
  have oth : ∀ b o, b ≠ s.heap.objs.size → s.heap.get? b = some o → ((s.heap.push { cls := .type "list", data := .seq #[] }).update s.heap.objs.size (Obj.mapSeq (fun _ => (#[] : Array Value)))).get? b = some o :=
    fun b o hb e => (Heap.get?_update_other _ _ (Ne.symm hb)).trans (Heap.get?_push_of_some _ e)
  refine wpAny_bind (wpAny_letGo ?_)
  refine ext_rev (its := its) hh (hi.at fun o e => oth _ o m1.symm e) ?_ n1 m1 m2 hn g1 fun h' tk got c' hk hS' hg => ?_
  · obtain ⟨o, e1, e2, e3⟩ := hl
    exact ⟨o, oth _ o m2.symm e1, e2, e3⟩
  · exact ⟨rfl, hQ h' tk got c' (fun b o hb e => hk b o (Nat.ne_of_lt (Heap.lt_size e)) hb (oth b o (Nat.ne_of_lt (Heap.lt_size e)) e)) hS' hg⟩
end
end LR
/-- list(reversed(x)), x a list: a new list -/
def tLstRev (K : PySem.W.Frag) (te : TE) : TE := fun σ H Q => te σ H fun v H1 => ∃ (a : Addr) (xs : List V), v = .ref a ∧ SqL K H1 a xs ∧ ∀ q, H1 q = none → Q (.ref q) (upd H1 q (.lst xs.reverse))
section
open PySem PySem.Spec PyProof.Rows L2
variable {X : Cx}
theorem pe_lstRev {e : Expr} {te : TE} {p p2 pos pos2 : Pos} (hc : X.calm = true) (hg : Gl X "list") (hm : X.mg "list" = none) (hg2 : Gl X "reversed") (hm2 : X.mg "reversed" = none) (he : PE X e te)
    (hs : starEach [e] X.env = (false, eval e X.env) :: starEach [] X.env := by rfl)
    (hs2 : starEach [.Call (.Name "reversed" p2) [e] [] pos2] X.env = (false, eval (.Call (.Name "reversed" p2) [e] [] pos2) X.env) :: starEach [] X.env := by rfl) :
    PE X (.Call (.Name "list" p) [.Call (.Name "reversed" p2) [e] [] pos2] [] pos) (tLstRev X.K te) := by
  refine ⟨fun pins s σ H Q J h => ?_⟩
  refine Call_ (ld_blt J hg hm boot_list (PyProof.Rows.callWith_type1 (args_cons (Call_ (ld_blt J hg2 hm2 PyProof.Rows.boot_reversed (PyProof.Rows.callWith_type1 (args_cons (thn (he.run pins s σ H _ J h) fun u t1 ⟨v, G1, J1, rv1, w1⟩ => args_nil ?_) hs) hs rfl))) hs2) hs2 rfl))
  obtain ⟨a, xs, ev, hq, fin⟩ := w1
  subst ev
  obtain rfl : u = Value.ref a := rv1
  obtain ⟨its, rv, pl, hz⟩ := J1.list hq
  have ml := pl.isList
  refine call_reversed_list ml (args_nil ?_)
  have k0 : ∀ b o, t1.heap.get? b = some o → (t1.heap.push (revObj a ((its.toArray.size : Int) - 1))).get? b = some o := fun b o z => Heap.get?_push_of_some _ z
  have J2 : Inv X pins σ G1 { t1 with heap := t1.heap.push (revObj a ((its.toArray.size : Int) - 1)) } := J1.kept (t' := t1.toks) k0
  obtain ⟨f0, f1, f2, f3, f4, f5⟩ := J1.fpOk (H' := G1) (b := t1.heap.objs.size) (Nat.le_refl _) (J1.hok.fresh (Nat.le_refl _))
  obtain ⟨ol, hol, _⟩ := id ml
  have na : a ≠ t1.heap.objs.size := Nat.ne_of_lt (Heap.lt_size hol)
  have few : its.toArray.size ≤ sizeLine := by rw [List.size_toArray, ← rv.length]; exact hz
  refine LR.call_lrev (s := { t1 with heap := t1.heap.push (revObj a ((its.toArray.size : Int) - 1)) }) (J1.ok.hd hc) ⟨_, Heap.get?_push_size _ rfl, rfl, rfl⟩ (ml.push _) na few fun h' tk got c' hk hS' hg => ?_
  have new : ObjOk X.prog X.w (upd G1 (t1.heap.push (revObj a ((its.toArray.size : Int) - 1))).objs.size (.lst xs.reverse)) h' (t1.heap.push (revObj a ((its.toArray.size : Int) - 1))).objs.size (.lst xs.reverse) :=
    ⟨by rw [List.length_reverse]; exact hz, got.toList, c', RT.vals_rev rv hg, by rw [Array.toArray_toList]; exact hS'⟩
  refine ⟨.ref (t1.heap.push (revObj a ((its.toArray.size : Int) - 1))).objs.size, _, J2.turnedNew (t' := tk) (ch := [t1.heap.objs.size]) (fun b o hb z => hk b o (fun y => hb (by simp [y])) z) (fun b hb => ?_) (Nat.le_refl _) new, rfl, fin _ (J2.hok.fresh (Nat.le_refl _))⟩
  rw [List.mem_singleton.mp hb]
  exact ⟨f0, f1, f2, f3, f4, f5⟩
end
section
variable {K : PySem.W.Frag} {σ : L2.St} {H : Hp} {Q : VK} {te : TE} {a : Addr} {xs : List V}
theorem r_lrev (h : te σ H fun v H1 => ∃ (a : Addr) (xs : List V), v = .ref a ∧ SqL K H1 a xs ∧ ∀ q, H1 q = none → Q (.ref q) (upd H1 q (.lst xs.reverse))) : tLstRev K te σ H Q := h
theorem r_trev (h : te σ H fun v H1 => ∃ (a : Addr) (xs : List V), v = .ref a ∧ SqL K H1 a xs ∧ ∀ q, H1 q = none → Q (.ref q) (upd H1 q (.tup xs.reverse))) : RT.tTupRev K te σ H Q := h
theorem r_revE (h : SqL K H a xs) {q : List V → Prop} (k : q xs) : ∃ (a' : Addr) (ys : List V), V.ref a = .ref a' ∧ SqL K H a' ys ∧ q ys := ⟨a, xs, rfl, h, k⟩
end
section
open PySem PySem.Spec PyProof.Rows L2
variable {X : Cx} (K : PySem.W.Frag)
theorem pe_lstRevK {e : Expr} {te : TE} {p p2 pos pos2 : Pos} (hc : X.calm = true) (hg : Gl X "list") (hm : X.mg "list" = none) (hg2 : Gl X "reversed") (hm2 : X.mg "reversed" = none) (he : PE X e te)
    (hs : starEach [e] X.env = (false, eval e X.env) :: starEach [] X.env := by rfl)
    (hs2 : starEach [.Call (.Name "reversed" p2) [e] [] pos2] X.env = (false, eval (.Call (.Name "reversed" p2) [e] [] pos2) X.env) :: starEach [] X.env := by rfl) (hK : X.K = K := by rfl) :
    PE X (.Call (.Name "list" p) [.Call (.Name "reversed" p2) [e] [] pos2] [] pos) (tLstRev K te) := hK ▸ pe_lstRev hc hg hm hg2 hm2 he hs hs2
theorem pe_tupRevK {e : Expr} {te : TE} {p p2 pos pos2 : Pos} (hc : X.calm = true) (hg : Gl X "tuple") (hm : X.mg "tuple" = none) (hg2 : Gl X "reversed") (hm2 : X.mg "reversed" = none) (he : PE X e te)
    (hs : starEach [e] X.env = (false, eval e X.env) :: starEach [] X.env := by rfl)
    (hs2 : starEach [.Call (.Name "reversed" p2) [e] [] pos2] X.env = (false, eval (.Call (.Name "reversed" p2) [e] [] pos2) X.env) :: starEach [] X.env := by rfl) (hK : X.K = K := by rfl) :
    PE X (.Call (.Name "tuple" p) [.Call (.Name "reversed" p2) [e] [] pos2] [] pos) (RT.tTupRev K te) := hK ▸ RT.pe_tupRev hc hg hm hg2 hm2 he hs hs2
end
theorem r_uI {i : Int} {g : Int → V} {H : Hp} {Q : VK} (q : Q (g i) H) : rU g (.int i) H Q := ⟨i, rfl, q⟩
theorem r_catL {l b : Addr} {xs ys : List V} {H : Hp} {Q : VK} (hl : H l = some (.lst xs)) (hb : H b = some (.lst ys)) (hz : xs.length + ys.length ≤ 100000) (q : ∀ p, H p = none → Q (.ref p) (upd H p (.lst (xs ++ ys)))) : rCat (.ref l) (.ref b) H Q := ⟨l, b, xs, ys, rfl, rfl, hl, hb, sz hz, q⟩
end
section
/-! ## Rv: a text once, a tuple once or not at all -/
section
open PySem PySem.Spec PyProof.Rows L2
variable {X : Cx}
def rMulS : R2 := fun x y H Q => ∃ z, x = .str z ∧ y = .int 1 ∧ Q (.str z) H
theorem op_mulS : OpR X (binaryOp .Mult) rMulS := by
  intro pins s σ H x y v u Q J rx ry h
  obtain ⟨z, rfl, rfl, fin⟩ := h
  obtain ⟨t, rfl⟩ := rx
  obtain ⟨t2, rfl⟩ := ry
  refine PySem.P.mul_str (by decide) (fun _ e => by simp at e) (fun _ e => by simp at e) ?_
  rw [if_neg (by decide), if_pos (by simp)]
  exact ⟨.str z, H, J, ⟨t, rfl⟩, fin⟩
theorem tup_once (l : Addr) (its : Array Value) (n : Nat) (dd : Option Addr) (sl : Array (Option Value)) (u : Tok) :
    Meets (Builtin.«tuple.__mul__» ⟨[.ref l, .int 1 u], []⟩) (fun _ R s => s.heap.get? l = some { cls := .type "tuple", dict := dd, data := .seq its n, slots := sl } ∧ R (.ok (.ret (Value.ref l))) s) :=
  .of_wp fun prog w A R s h => by
    obtain ⟨hp, g, d, tk, os⟩ := s
    obtain ⟨hl, h⟩ := h
    have f1 := AutoSeq1.idx_int
    have c1 : (its.isEmpty || (1 : Int) == 1) = true := by simp
    wp_walk using wpAny_loadPart' hl
    exact ⟨_, rfl, h⟩
theorem tup_none (l : Addr) (its : Array Value) (n : Nat) (dd : Option Addr) (sl : Array (Option Value)) (u : Tok) (hne : its.isEmpty = false) :
    Meets (Builtin.«tuple.__mul__» ⟨[.ref l, .int 0 u], []⟩) (fun _ R s => s.heap.get? l = some { cls := .type "tuple", dict := dd, data := .seq its n, slots := sl } ∧
      R (.ok (.ret (Value.ref s.heap.objs.size))) { s with heap := s.heap.push { cls := Value.type "tuple", data := Data.seq #[] }, toks := s.toks }) :=
  .of_wp fun prog w A R s h => by
    obtain ⟨hp, g, d, tk, os⟩ := s
    obtain ⟨hl, h⟩ := h
    have f1 := AutoSeq1.idx_int
    wp_walk using wpAny_loadPart' hl
    exact ⟨_, rfl, h⟩
/-- t * k with k 0 or 1 -/
def rRep01 (K : PySem.W.Frag) : R2 := fun x y H Q => ∃ l k xs, x = .ref l ∧ y = .int k ∧ SqT K H l xs ∧ xs ≠ [] ∧ ((k = 1 ∧ Q (.ref l) H) ∨ (k = 0 ∧ ∀ p, H p = none → Q (.ref p) (upd H p (.tup []))))
theorem op_rep01' : OpR X (binaryOp .Mult) (rRep01 X.K) := by
  intro pins s σ H x y v u Q J rx ry h
  obtain ⟨l, k, xs, rfl, rfl, hT, hne, hq⟩ := h
  cases rx
  obtain ⟨t, rfl⟩ := ry
  obtain ⟨its, rv, ⟨⟨cls, dd, data, sl⟩, ho, hc, n, hd⟩, hs⟩ := J.tuple hT
  simp only at hc hd
  subst hc hd
  have full : its.toArray.isEmpty = false := by
    cases its with
    | nil =>
      have hl := rv.length
      exact absurd (List.length_eq_zero_iff.mp hl) hne
    | cons a b => rfl
  rcases hq with ⟨rfl, fin⟩ | ⟨rfl, fin⟩
  · refine wpAny_binaryOp_repeat_ref (T := "tuple") (U := "int") (by decide) ⟨_, ho, rfl⟩ (fun s' => typeIs_int s' 1 t) noFill_tuple_mul F.fills_int_mul F.slot_int_rmul repeat_tuple F.slot_int_index.lookup
      (call_meets F.slot_int_rmul (typeIs_int s 1 t) F.entry_int_rmul (F.args_int_rmul_2 _ _) (int_rmul_tuple 1 t l its.toArray n dd sl)
        ⟨ho, rfl, ⟨_, ho, rfl⟩, call_meets F.slot_tuple_mul ⟨_, ho, rfl⟩ F.entry_tuple_mul (F.args_tuple_mul_2 _ _) (tup_once l its.toArray n dd sl t) ⟨ho, ?_⟩⟩)
    exact ⟨.ref l, H, J, rfl, fin⟩
  · refine wpAny_binaryOp_repeat_ref (T := "tuple") (U := "int") (by decide) ⟨_, ho, rfl⟩ (fun s' => typeIs_int s' 0 t) noFill_tuple_mul F.fills_int_mul F.slot_int_rmul repeat_tuple F.slot_int_index.lookup
      (call_meets F.slot_int_rmul (typeIs_int s 0 t) F.entry_int_rmul (F.args_int_rmul_2 _ _) (int_rmul_tuple 0 t l its.toArray n dd sl)
        ⟨ho, rfl, ⟨_, ho, rfl⟩, call_meets F.slot_tuple_mul ⟨_, ho, rfl⟩ F.entry_tuple_mul (F.args_tuple_mul_2 _ _) (tup_none l its.toArray n dd sl t full) ⟨ho, ?_⟩⟩)
    refine ⟨.ref s.heap.objs.size, _, J.laid (t' := s.toks) (o := .tup []) (fun b ob q => Heap.get?_push_of_some _ q) (Nat.le_refl _) ?_, rfl, fin _ (J.hok.fresh (Nat.le_refl _))⟩
    exact ⟨Nat.zero_le _, [], .nil, IsTup.new _ _⟩
end
section
open PySem PySem.Spec PyProof.Rows L2
variable {X : Cx}
theorem op_rep01 (K : PySem.W.Frag) (hK : X.K = K := by rfl) : OpR X (binaryOp .Mult) (rRep01 K) := hK ▸ op_rep01'
end
end
section
/-! ## En: enumerate of a tuple; walks over zips and enumerations -/
namespace EnT
open PySem PySem.Spec PyProof.Rows L2
theorem meets_enum1B {v : Value} {o : Obj} {H : Heap → Prop} (B : Begins v o H) :
    Meets (Builtin.«enumerate.__new__» ⟨[.type "enumerate", v], []⟩) (fun _ R s => H s.heap ∧
      R (.ok (.ret (.ref (s.heap.push o).objs.size))) { s with heap := (s.heap.push o).push { cls := .type "enumerate", data := .fields #[.none, .bool false, .ref s.heap.objs.size, rawInt 0, .none, .none] } }) :=
  .of_wp fun prog w A R s h => by
    obtain ⟨hp, g, d, tk, os⟩ := s
    obtain ⟨h1, h⟩ := h
    have hsub := sub_enumerate
    have q1 : ∀ {A' : Around} {E : Value → Shared → Prop} {Q : Value → Shared → Prop}, Q (.ref hp.objs.size) ⟨hp.push o, g, d, tk, os⟩ → wpAny (model prog w) A' (pyIter v) Q E ⟨hp, g, d, tk, os⟩ :=
      fun q => B.iter prog w _ _ ⟨hp, g, d, tk, os⟩ _ h1 q
    wp_walk using q1
    refine wpAny_stack_any fun st => wpAny_pure ?_
    split
    · rename_i c _ _ _ _ _
      cases (c == Value.type "enumerate")
      · wp_walk using q1
        exact ⟨_, rfl, h⟩
      · wp_walk using q1
        exact ⟨_, rfl, h⟩
    · wp_walk using q1
      exact ⟨_, rfl, h⟩
section
variable {prog : Program} {w : World} {A : Around} {E : Value → Shared → Prop} {s : Shared}
theorem call_enumB {v : Value} {o : Obj} {H : Heap → Prop} {Q : Value → Shared → Prop} (B : Begins v o H) (h1 : H s.heap)
    (h : ∀ h', IsEnum h' (s.heap.objs.size + 1) s.heap.objs.size 0 .none → h'.get? s.heap.objs.size = some o → h'.objs.size = s.heap.objs.size + 2 →
      (∀ b o, s.heap.get? b = some o → h'.get? b = some o) → Q (.ref (s.heap.objs.size + 1)) { s with heap := h' }) :
    wpAny (model prog w) A (call (.type "enumerate") [v]) Q E s := by
  refine callType_new F.called_enumerate (by decide) (F.typeCall_enumerate_1 _) (F.newCall_enumerate_1 _) (fun obj => F.args_object_init_2 obj _) F.entry_enumerate_new
    (meets_enum1B B) ⟨h1, ?_⟩
  have hz : (s.heap.push o).objs.size = s.heap.objs.size + 1 := Heap.size_push ..
  show _ ∧ _
  rw [hz]
  have he : IsEnum ((s.heap.push o).push { cls := .type "enumerate", data := .fields #[.none, .bool false, .ref s.heap.objs.size, rawInt 0, .none, .none] }) (s.heap.objs.size + 1) s.heap.objs.size 0 .none := by
    have := Heap.get?_push_size (s.heap.push o) (o := { cls := .type "enumerate", data := .fields #[.none, .bool false, .ref s.heap.objs.size, rawInt 0, .none, .none] }) rfl
    rw [hz] at this
    exact this
  exact ⟨⟨_, he, rfl⟩, h _ he (Heap.get?_push_of_some _ (Heap.get?_push_size _ B.free)) (by rw [Heap.size_push, hz]) fun b o x => Heap.get?_push_of_some _ (Heap.get?_push_of_some _ x)⟩
end
end EnT
section
open PySem PySem.Spec PyProof.Rows L2
/-- the tuple at a, each item in a new pair with its number -/
def IteT (K : PySem.W.Frag) (a : Addr) : It :=
  ⟨fun i H => ∃ (xs : List V) (x : V), SqT K H a xs ∧ xs[i]? = some x, fun i H v H' => ∃ T x, v = .ref T ∧ H T = none ∧ H' = upd H T (.tup [.int (i : Nat), x]) ∧ ∀ xs, SqT K H a xs → xs[i]? = some x, fun i H => ∃ xs : List V, SqT K H a xs ∧ xs.length ≤ i⟩
theorem turn_enumT {P : Program} {w : World} {K : PySem.W.Frag} {elts : List Expr} {kk : Nat} {tpos : Pos} (a e it : Addr) (hai : a ≠ it) (hea : e ≠ a) :
    Turn P w K (.Tuple elts kk tpos) (IteT K a) [e, it] e (fun i h => (∃ old, IsEnum h e it ((i : Nat) : Int) old) ∧ h.IsTupleIter it a i ∧ e ≠ it) where
  mem := List.mem_cons_self
  obj := fun i h st b hb => by
    obtain ⟨⟨x, z⟩, ⟨u, z1, _, z2⟩, _⟩ := st
    rcases List.mem_cons.mp hb with rfl | hb
    · exact ⟨_, z, fun _ c => nomatch c⟩
    · obtain rfl := List.mem_singleton.mp hb
      exact ⟨u, z1, fun _ c => by rw [z2] at c; cases c⟩
  keep := fun i h h' st kp => ⟨st.1.imp fun _ z => kp e List.mem_cons_self _ z, st.2.1.at fun u z => kp it (by simp) u z, st.2.2⟩
  item := by
    intro X eP ew eK calm n pn sh sl Hp0 Ex J free st go
    subst eP ew eK
    obtain ⟨⟨x0, z⟩, tit, ne⟩ := st
    obtain ⟨ys, y, tup, aty⟩ := go
    obtain ⟨vals, par, isT, _⟩ := J.tuple tup
    obtain ⟨v, vat, vy⟩ := par.get aty
    have few : n < vals.toArray.size := by simpa using (List.getElem?_eq_some_iff.mp vat).1
    have out : e ∉ [it, a] := by simp [ne, hea]
    have wk := WalksT.enumerateD (prog := X.prog) (w := X.w) (A := X.A) (Draws.tuple (show X.A.in1.handled = none from J.ok.hd calm) it a hai vals.toArray) e ne out List.mem_cons_self
    refine wk.item n sh _ _ few ⟨⟨x0, z⟩, tit, isT⟩ fun T row h1 tk pt big isRow mid kept => ?_
    obtain ⟨tok, v', at', rfl⟩ := pt
    obtain rfl : v' = v := by
      have : vals[n]? = some v' := by simpa using at'
      exact Option.some.inj (this.symm.trans vat)
    have apart := wk.apart n T h1 mid
    refine ⟨_, rfl, wk.go elts kk tpos n T { sh with heap := h1, toks := tk } _ _ mid fun h2 st2 kept2 => ?_⟩
    obtain ⟨⟨x2, z2⟩, tit2, _⟩ := st2
    obtain ⟨ob, g1, g2, c2, g3⟩ := isRow
    obtain ⟨ocls, odd, odata, oslots⟩ := ob
    simp only at g2 g3
    subst g2 g3
    have row2 := kept2 T _ apart g1
    have J2 : Inv X pn sl (upd Hp0 T (.tup [.int (n : Int), y])) { sh with heap := h2, toks := tk } :=
      J.turnedNew (ch := [e, it]) (fun b o nb q => kept2 b o nb (kept b o nb q)) free big
        ⟨show 2 ≤ sizeLine by decide, [_, v'], .cons ⟨tok, rfl⟩ (.cons vy .nil), ⟨_, row2, rfl, _, rfl⟩⟩
    exact ⟨.ref T, _, J2, rfl, ⟨T, y, rfl, J.hok.fresh big, rfl, fun zs hz => by rw [J.tuple_inj hz tup]; exact aty⟩, ⟨⟨x2, z2⟩, tit2, ne⟩, fun b hb => by
      rw [upd_ne fun q => apart (by rw [← q]; exact hb)]
      exact (free b hb).1⟩
  done := by
    intro X eP ew eK calm n pn sh sl Hp0 Ex J free st stop
    subst eP ew eK
    obtain ⟨⟨x0, z⟩, tit, ne⟩ := st
    obtain ⟨ys, tup, past⟩ := stop
    obtain ⟨vals, par, isT, _⟩ := J.tuple tup
    have len := par.length
    have out : e ∉ [it, a] := by simp [ne, hea]
    obtain ⟨g0, g1, g2, g3, g4, g5⟩ := free it (by simp)
    have ty : sh.TypeIs (.ref e) "enumerate" := ⟨_, z, rfl⟩
    unfold pyNext
    refine wpAny_bind (wpAny_attempt (wpAny_callSpecial?_slot (name := Str.ofString "__next__") ty F.slot_enumerate_next (wpAny_call_entry F.slot_enumerate_next ty F.entry_enumerate_next ?_ (F.args_enumerate_next_1 _))))
    show wpAny _ _ (field (.ref e) 2 >>= _) _ _ sh
    refine wpAny_bind (wpAny_field z rfl (x := .ref it) rfl (wpAny_bind (wpAny_nextOf_tuple_end (J.ok.hd calm) tit isT (by simp; omega) fun h1 x ext stp => ?_)))
    obtain ⟨o, go, gc⟩ := stp
    refine wpAny_bind (wpAny_isInstance (T := "StopIteration") (b := true) ⟨o, go, gc⟩ isSubtype_stop (wpAny_pure ⟨rfl, ?_⟩))
    exact J.turned (t' := sh.toks) (fun b u nb q => ext b u nb q) g0 g1 g3 g4 g5
  self := fun A n sh Q Ex st k => st.1.elim fun _ z => wpAny_pyIter_enum z k
def iEnumT (K : PySem.W.Frag) (ta : TA) : TI := fun σ H R => ta σ H fun vs H1 => ∃ a xs, vs = [.ref a] ∧ SqT K H1 a xs ∧ R (IteT K a) H1
theorem pi_enumT {X : Cx} {e : Expr} {ta : TA} {p pos tpos : Pos} {elts : List Expr} {kk : Nat} (hg : Gl X "enumerate") (hm : X.mg "enumerate" = none) (ha : PA X [e] ta) (hs : starEach [e] X.env = [(false, eval e X.env)] := by rfl) :
    PI X (.Tuple elts kk tpos) (.Call (.Name "enumerate" p) [e] [] pos) (iEnumT X.K ta) := by
  refine ⟨fun pins s σ H R I h => ?_⟩
  refine Call_ (ld_blt I hg hm boot_enumerate (PyProof.Rows.callWith_type1 (thn (ha.run pos pins s σ H _ I h) fun us s1 ⟨vs, H1, I1, r1, q1⟩ => ?_) hs rfl))
  obtain ⟨a, xs, ex, hq, q⟩ := q1
  subst ex
  cases r1 with
  | cons r rr =>
    cases rr
    cases r
    obtain ⟨its, rv, p', hz⟩ := I1.tuple hq
    obtain ⟨oa, hoa, _⟩ := id p'
    have hal : a < s1.heap.objs.size := Heap.lt_size hoa
    refine EnT.call_enumB (begins_tuple a its.toArray) p' fun h' he hit hsz hk => wpAny_pyIter_enum he ?_
    have I2 : Inv X pins σ H1 { s1 with heap := h' } := I1.kept (t' := s1.toks) hk
    refine ⟨s1.heap.objs.size + 1, [s1.heap.objs.size + 1, s1.heap.objs.size], _, _, H1, rfl, I2, turn_enumT a (s1.heap.objs.size + 1) s1.heap.objs.size (Nat.ne_of_lt hal) (Nat.ne_of_gt (Nat.lt_succ_of_lt hal)), ⟨⟨.none, he⟩, ⟨_, hit, rfl, rfl⟩, Nat.succ_ne_self _⟩, fun b hb => ?_, q⟩
    have e' : b = s1.heap.objs.size + 1 ∨ b = s1.heap.objs.size := by simpa using hb
    have hle : s1.heap.objs.size ≤ b := by
      rcases e' with z | z
      · rw [z]; exact Nat.le_add_right _ _
      · rw [z]; exact Nat.le_refl _
    exact I1.fpOk hle (I1.hok.fresh hle)
theorem walk_enumT {K : PySem.W.Frag} {a : Addr} {xs : List V} : Walk (IteT K a) xs.length (fun H => SqT K H a xs) (YPair (fun i => some (.int (i : Nat))) (fun i => xs[i]?)) := by
  refine ⟨fun i _ hi q => ⟨xs, xs[i], q, by simp [hi]⟩, fun _ q => ⟨xs, q, Nat.le_refl _⟩, fun i H v H' _ q y => ?_⟩
  obtain ⟨T, x, h1, h2, h3, h4⟩ := y
  exact ⟨T, .int (i : Nat), x, h1, h2, h3, rfl, h4 xs q⟩
theorem walk_zipT {K : PySem.W.Frag} {a b : Addr} {xs ys : List V} (hl : xs.length = ys.length) : Walk (RZ.ItzT K a b) xs.length (fun H => SqT K H a xs ∧ SqT K H b ys) (YPair (fun i => xs[i]?) (fun i => ys[i]?)) := by
  refine ⟨fun i _ hi q => ?_, fun _ q => ⟨xs, ys, q.1, q.2, .inl (Nat.le_refl _)⟩, fun i H v H' _ q y => ?_⟩
  · have h2 : i < ys.length := by omega
    exact ⟨xs, ys, xs[i], ys[i], q.1, q.2, by simp [hi], by simp [h2]⟩
  · obtain ⟨T, x, z, h1, h2, h3, h4, h5⟩ := y
    exact ⟨T, x, z, h1, h2, h3, h4 xs q.1, h5 ys q.2⟩
end
/-! readings -/
def ForE (K : PySem.W.Frag) (g : TG) (tb : TS) (D : Ends) (σ : L2.St) : List V → Hp → Prop := fun ws H1 => ∃ a xs, ws = [.ref a] ∧ SqT K H1 a xs ∧ ForB (IteT K a) g tb D σ H1
def ForZ (K : PySem.W.Frag) (g : TG) (tb : TS) (D : Ends) (σ : L2.St) : List V → Hp → Prop := fun ws H1 => ∃ a b xs ys, ws = [.ref a, .ref b] ∧ ((SqL K H1 a xs ∧ SqL K H1 b ys ∧ ForB (Itz K a b) g tb D σ H1) ∨ (SqT K H1 a xs ∧ SqT K H1 b ys ∧ ForB (RZ.ItzT K a b) g tb D σ H1))
def LcE (K : PySem.W.Frag) (g : TG) (tt : TT) (te : TE) (vs : List Nat) (σ : L2.St) (Q : VK) : List V → Hp → Prop := fun ws H1 => ∃ a xs, ws = [.ref a] ∧ SqL K H1 a xs ∧ LcB (Ite K a) g tt te vs σ Q H1
def LcZ (K : PySem.W.Frag) (g : TG) (tt : TT) (te : TE) (vs : List Nat) (σ : L2.St) (Q : VK) : List V → Hp → Prop := fun ws H1 => ∃ a b xs ys, ws = [.ref a, .ref b] ∧ ((SqL K H1 a xs ∧ SqL K H1 b ys ∧ LcB (Itz K a b) g tt te vs σ Q H1) ∨ (SqT K H1 a xs ∧ SqT K H1 b ys ∧ LcB (RZ.ItzT K a b) g tt te vs σ Q H1))
section
variable {K : PySem.W.Frag} {σ : L2.St} {H : Hp} {Q : VK} {g : TG} {tt : TT} {te tl : TE} {vs : List Nat} {a b : Addr} {xs ys : List V} {ta : TA} {tb : TS} {D : Ends} {J : It} {n : Nat} {G : Hp → Prop}
theorem r_fore (h : ta σ H (ForE K g tb D σ)) : tFor (iEnumT K ta) g tb D σ H := h
theorem r_forz (h : ta σ H (ForZ K g tb D σ)) : tFor (RZ.iZipA K ta) g tb D σ H := h
theorem r_lce (h : ta σ H (LcE K g tt te vs σ Q)) : tLc (iEnum K ta) g tt te vs σ H Q := h
theorem r_lcz (h : ta σ H (LcZ K g tt te vs σ Q)) : tLc (RZ.iZipA K ta) g tt te vs σ H Q := h
theorem forE (Pv : Nat → L2.St → Hp → Prop) (hx : SqT K H a xs) (h0 : Pv 0 σ H) (hl : ∀ i σ' H', Pv i σ' H' → Im H H')
    (hs : ∀ i x T σ' H', xs[i]? = some x → Pv i σ' H' → H' T = none → g (.ref T) σ' (upd H' T (.tup [.int (i : Nat), x])) fun σ2 H2 => tb { D with nx := Pv (i + 1), ct := Pv (i + 1), bk := D.nx } σ2 H2) (hd : ∀ σ' H', Pv xs.length σ' H' → D.nx σ' H') : ForE K g tb D σ [.ref a] H :=
  ⟨a, xs, rfl, hx, for_it walk_enumT Pv h0 (fun i σ' H' _ p => (hl i σ' H' p).sqT hx) (fun i v σ' H' H'' hi p y => by
    obtain ⟨T, x, z, rfl, hT, rfl, e1, e2⟩ := y
    cases e1
    exact hs i z T σ' H' e2 p hT) hd⟩
theorem forZ (Pv : Nat → L2.St → Hp → Prop) (hx : SqT K H a xs) (hy : SqT K H b ys) (hn : xs.length = ys.length) (h0 : Pv 0 σ H) (hl : ∀ i σ' H', Pv i σ' H' → Im H H')
    (hs : ∀ i x y T σ' H', xs[i]? = some x → ys[i]? = some y → Pv i σ' H' → H' T = none → g (.ref T) σ' (upd H' T (.tup [x, y])) fun σ2 H2 => tb { D with nx := Pv (i + 1), ct := Pv (i + 1), bk := D.nx } σ2 H2) (hd : ∀ σ' H', Pv xs.length σ' H' → D.nx σ' H') : ForZ K g tb D σ [.ref a, .ref b] H :=
  ⟨a, b, xs, ys, rfl, .inr ⟨hx, hy, for_it (walk_zipT hn) Pv h0 (fun i σ' H' _ p => ⟨(hl i σ' H' p).sqT hx, (hl i σ' H' p).sqT hy⟩) (fun i v σ' H' H'' hi p y => by
    obtain ⟨T, x, z, rfl, hT, rfl, e1, e2⟩ := y
    exact hs i x z T σ' H' e1 e2 p hT) hd⟩⟩
/-- a comprehension over new pairs: the kept turns' values -/
theorem lcW_f {px py : Nat → Option V} (w : Walk J n G (YPair px py)) (f : Nat → Bool) (v : Nat → V) (hG : ∀ H', Same H H' → G H') (hz : n ≤ 10000)
    (turn : ∀ (i : Nat) (x y : V) (T : Addr) (H' : Hp), i < n → px i = some x → py i = some y → Same H H' → H' T = none → LcTurn g tt te vs σ (.ref T) (upd H' T (.tup [x, y])) (f i) (v i))
    (k : ∀ D H', H D = none → Same H H' → H' D = some (.lst (given n f v)) → Q (.ref D) H') : LcB J g tt te vs σ Q H := by
  intro D hD
  refine lc_it w (fun i H' => Same H H' ∧ H' D = some (.lst (given i f v))) ⟨same_new hD, upd_same⟩ (fun i H' _ p => hG H' p.1) ?_ (fun H' p => k D H' hD p.1 p.2)
  rintro i u H' H'' hi ⟨s, hd⟩ ⟨T, x, y, rfl, hT, rfl, hx, hy⟩
  have s1 := same_new (o := .tup [x, y]) hT
  exact turn i x y T H' hi hx hy s hT _ _ (fun hb H2 s2 => ⟨given i f v, (s1.trans s2) _ _ hd, szl (Nat.lt_of_le_of_lt (given_len _ _ _) (by omega)), same_mut ((s.trans s1).trans s2) hD, by rw [given_yes hb]; exact upd_same⟩) (fun hb H2 s2 => ⟨(s.trans s1).trans s2, by rw [given_no hb]; exact (s1.trans s2) _ _ hd⟩)
end
section
open PySem PySem.Spec PyProof.Rows L2
variable (K : PySem.W.Frag) {X : Cx}
theorem pi_enumTK {e : Expr} {ta : TA} {p pos tpos : Pos} {elts : List Expr} {kk : Nat} (hg : Gl X "enumerate") (hm : X.mg "enumerate" = none) (ha : PA X [e] ta) (hs : starEach [e] X.env = [(false, eval e X.env)] := by rfl) (hK : X.K = K := by rfl) :
    PI X (.Tuple elts kk tpos) (.Call (.Name "enumerate" p) [e] [] pos) (iEnumT K ta) := hK ▸ pi_enumT hg hm ha hs
theorem pi_enumK {e : Expr} {ta : TA} {p pos tpos : Pos} {elts : List Expr} {kk : Nat} (hg : Gl X "enumerate") (hm : X.mg "enumerate" = none) (ha : PA X [e] ta) (hs : starEach [e] X.env = [(false, eval e X.env)] := by rfl) (hK : X.K = K := by rfl) :
    PI X (.Tuple elts kk tpos) (.Call (.Name "enumerate" p) [e] [] pos) (iEnum K ta) := hK ▸ pi_enum hg hm ha hs
theorem pi_zipAK {e e2 : Expr} {ta : TA} {p pos tpos : Pos} {elts : List Expr} {kk : Nat} (hg : Gl X "zip") (hm : X.mg "zip" = none) (ha : PA X [e, e2] ta)
    (hs : starEach [e, e2] X.env = (false, eval e X.env) :: starEach [e2] X.env := by rfl) (hpl : (backTo pos (starEach [e2] X.env)).any (·.1) = false := by rfl) (hK : X.K = K := by rfl) :
    PI X (.Tuple elts kk tpos) (.Call (.Name "zip" p) [e, e2] [] pos) (RZ.iZipA K ta) := hK ▸ RZ.pi_zipA hg hm ha hs hpl
end
end
section
/-! ## A2: what comes of a row, steps -/
/-- the ways on of a row: next row and beats -/
def far (P : List Row) (b : Int) (i k : Nat) : Int := 3 + crossed (adr b P k) (adr b P (i + 1))
def ent (P : List Row) (b : Int) (i : Nat) : List (Nat × Int) := match P[i]? with
  | none => []
  | some r => if isIf r.d = true then (match r.v with
      | .str m => (match markIx P m with
        | some k => [(i + 1, 2), (k, far P b i k)]
        | none => [])
      | _ => [])
    else if decide (V.str r.d = V.str "go") = true then (match r.v with
      | .str m => (match markIx P m with
        | some k => [(k, 3)]
        | none => [])
      | _ => [])
    else [(i + 1, beatCnt r.d)]
section
variable {P : List Row} {b : Int} {i j : Nat} {r : Row} {m : Str}
theorem ent_if (h : P[i]? = some r) (h1 : isIf r.d = true) (h2 : r.v = .str m) (h3 : markIx P m = some j) : ent P b i = [(i + 1, 2), (j, far P b i j)] := by
  unfold ent
  simp only [h, h1, h2, h3, if_true]
theorem ent_go (h : P[i]? = some r) (h1 : isIf r.d = false) (h0 : r.d = "go") (h2 : r.v = .str m) (h3 : markIx P m = some j) : ent P b i = [(j, 3)] := by
  unfold ent
  rw [h0] at h1
  simp only [h, h1, h2, h3, h0, decide_true, if_true, Bool.false_eq_true, if_false]
theorem ent_no (h : P[i]? = some r) (h1 : isIf r.d = false) (h0 : decide (V.str r.d = V.str "go") = false) : ent P b i = [(i + 1, beatCnt r.d)] := by
  unfold ent
  simp only [h, h1, h0, Bool.false_eq_true, if_false]
end
/-- an edge with its least and its most beats -/
def Edge (P : List Row) (b : Int) (i j : Nat) (lo hi : Int) : Prop := (j, lo) ∈ ent P b i ∧ (j, hi) ∈ ent P b i ∧ ∀ bt, (j, bt) ∈ ent P b i → lo ≤ bt ∧ bt ≤ hi
/-- a dict of steps, of these ways -/
def StepIs (K : PySem.W.Frag) (H : Hp) (f : Int → Option V) (E : List (Nat × Int)) : Prop :=
  ∀ j : Nat, (f j = none ∧ ∀ bt, (j, bt) ∉ E) ∨ ∃ t lo hi, f j = some (.ref t) ∧ SqT K H t [.int lo, .int hi] ∧ (j, lo) ∈ E ∧ (j, hi) ∈ E ∧ ∀ bt, (j, bt) ∈ E → lo ≤ bt ∧ bt ≤ hi
theorem StepIs.im {K : PySem.W.Frag} {H H' : Hp} {f : Int → Option V} {E : List (Nat × Int)} (h : StepIs K H f E) (s : Im H H') : StepIs K H' f E := fun j => by
  rcases h j with h | ⟨t, lo, hi, h1, h2, h3⟩
  · exact .inl h
  · exact .inr ⟨t, lo, hi, h1, s.sqT h2, h3⟩
def StepAt (K : PySem.W.Frag) (H : Hp) (d : Addr) (P : List Row) (b : Int) (i : Nat) : Prop :=
  ∃ (kvs : List (Key × V)) (ks : List Int) (f : Int → Option V), H d = some (.dK kvs) ∧ DI kvs ks f ∧ ks.length ≤ 2 ∧ (∀ k, k ∈ ks → ∃ j : Nat, k = (j : Int)) ∧ StepIs K H f (ent P b i)
theorem StepAt.same {K : PySem.W.Frag} {H H' : Hp} {d : Addr} {P : List Row} {b : Int} {i : Nat} (h : StepAt K H d P b i) (s : Same H H') : StepAt K H' d P b i := by
  obtain ⟨kvs, ks, f, h1, h2, h3, h4, h5⟩ := h
  exact ⟨kvs, ks, f, s _ _ h1, h2, h3, h4, h5.im (im_of s)⟩
theorem StepAt.put {K : PySem.W.Frag} {H : Hp} {d l : Addr} {P : List Row} {b : Int} {i : Nat} {xs ys : List V} (h : StepAt K H d P b i) (hl : H l = some (.lst xs)) : StepAt K (upd H l (.lst ys)) d P b i := by
  obtain ⟨kvs, ks, f, h1, h2, h3, h4, h5⟩ := h
  exact ⟨kvs, ks, f, gM hl h1 (by intro q; cases q), h2, h3, h4, h5.im (Im.mut hl trivial)⟩
def StepsAt (K : PySem.W.Frag) (H : Hp) (l : Addr) (P : List Row) (b : Int) : Prop :=
  ∃ ds : List Addr, SqL K H l (ds.map V.ref) ∧ ds.length = P.length ∧ ∀ (i : Nat) (d : Addr), ds[i]? = some d → StepAt K H d P b i
theorem StepsAt.same {K : PySem.W.Frag} {H H' : Hp} {l : Addr} {P : List Row} {b : Int} (h : StepsAt K H l P b) (s : Same H H') : StepsAt K H' l P b := by
  obtain ⟨ds, h1, h2, h3⟩ := h
  exact ⟨ds, s.seq h1, h2, fun i d e => (h3 i d e).same s⟩
/-- the page signs -/
def SgAt (K : PySem.W.Frag) (H : Hp) (t : Addr) (P : List Row) (b : Int) : Prop := SqT K H t ((List.range P.length).map (pSign P b))
def sp_is_wait (K : PySem.W.Frag) : Sp := fun vs H Q _ => ∃ (p : Addr) (P : List Row) (i : Nat) (r : Row), vs = [.ref p, .int i] ∧ PAt K H p P ∧ P[i]? = some r ∧ Q (.bl (decide (V.str r.d = V.str "wait"))) H
theorem sc_is_wait : FnScope ["program", "row"] ["program", "row"] (defScope s_is_wait) := ⟨rfl, rfl, rfl, by decide +kernel, rfl, by decide +kernel, by decide +kernel⟩
theorem ok_is_wait {P : Program} {w : World} {K : PySem.W.Frag} {mg : Str → Option Value} {base : Heap} (T : Tx K mg) : Ok P w K mg base CX0 1 192 ["program", "row"] (sp_is_wait K) := by
  refine ok0 0 (f_is_wait T) sc_is_wait (fun _ _ _ _ _ _ us hl => match us, hl with | [_, _], _ => rfl) (fun vs H Q E h => ?_) (fun cdv A outer sh H vs Q E room h => ?_)
  · obtain ⟨p, P, i, r, rfl, hP, hr, k⟩ := h
    rfl
  · obtain ⟨p, P, i, r, rfl, hP, hr, k⟩ := h
    refine ⟨_,     (pss_one (ps_ret (pe_cmpR op_eq (pe_ix (ix_tupK K) (pe_ix (ix_tupK K) (pv 0) (pv 1) (fun _ _ => rfl)) pe_int (fun _ _ => rfl)) pe_str (nomark _)))), ?_⟩
    show (_ : TS) _ [_, _] _
    obtain ⟨xs, a, h1, h2, h3, _⟩ := hP.at_ hr
    unfold rowV at h3
    fail "bm_go"
    exact k
def sp_page_sign (K : PySem.W.Frag) : Sp := fun vs H Q _ => ∃ (p l : Addr) (P : List Row) (b : Int) (i : Nat) (r : Row), vs = [.ref p, .ref l, .int i] ∧ PAt K H p P ∧ WF P ∧ P[i]? = some r ∧ SqL K H l ((addrs b P).map V.int) ∧ ∀ H', Same H H' → Q (pSign P b i) H'
theorem sc_page_sign : FnScope ["program", "places", "number", "mark", "deed", "value", "place", "x"] ["program", "places", "number"] (defScope s_page_sign) := ⟨rfl, rfl, rfl, by decide +kernel, rfl, by decide +kernel, by decide +kernel⟩
theorem ok_page_sign {P : Program} {w : World} {K : PySem.W.Frag} {mg : Str → Option Value} {base : Heap} (T : Tx K mg) : Ok P w K mg base CX0 2 134 ["program", "places", "number"] (sp_page_sign K) := by
  refine ok0 1 (f_page_sign T) sc_page_sign (fun _ _ _ _ _ _ us hl => match us, hl with | [_, _, _], _ => rfl) (fun vs H Q E h => ?_) (fun cdv A outer sh H vs Q E room h => ?_)
  · obtain ⟨p, l, P, b, i, r, rfl, hP, W, hr, hl, k⟩ := h
    rfl
  · obtain ⟨p, l, P, b, i, r, rfl, hP, W, hr, hl, k⟩ := h
    refine ⟨_,     (pss_cons (ps_asg (pe_ix (ix_tupK K) (pv 0) (pv 2) (fun _ _ => rfl)) (pg_tupK K (n := 3) rfl (pgs_cons (pg_name (i := 3) sc_page_sign.nd rfl (Or.inl rfl)) (pgs_cons (pg_name (i := 4) sc_page_sign.nd rfl (Or.inl rfl)) (pgs_cons (pg_name (i := 5) sc_page_sign.nd rfl (Or.inl rfl)) pgs_nil)))))
        (pss_cons (ps_if (pt_cmpR (op_inK K) (pv 4) (pgr (g_IF_DEEDS T) rfl) (by rfl))
          (pss_one (ps_ret (pc (ok_is_crossed (K := K) T) (room.mono (by decide)) rfl (g_is_crossed T) pass0 (pa_cons (pe_ix (ix_listK K) (pv 1) (pc (ok_row_of (K := K) T) (room.mono (by decide)) rfl (g_row_of T) pass0 (pa_cons (pv 0) (pa_cons (pv 5) pa_nil))) (fun _ _ => rfl)) (pa_cons (pe_ix (ix_listK K) (pv 1) (pe_op op_add (pv 2) pe_int) (fun _ _ => rfl)) pa_nil))))) pss_nil)
        (pss_cons (ps_if (pt_cmpR op_eq (pv 4) pe_str (nomark _))
          pss_never pss_nil)
        (pss_one (ps_ret pe_non))))), ?_⟩
    show (_ : TS) _ [_, _, _, none, none, none, none, none] _
    obtain ⟨xs, a, h1, h2, h3, _⟩ := hP.at_ hr
    have hz := W.len
    have hok := W.ok i r hr
    have hat := hok.ne_at
    unfold rowV at h3
    rcases hok.cases3 with ⟨e1, e2, mk, j, e3, hj⟩ | ⟨e1, _⟩ | ⟨e1, _⟩
    · have hlt := W.last i r hr e2
      have hj' := markIx_lt hj
      rw [e3] at h3
      fail "bm_go"
      refine r_ifT e1 ?_
      fail "bm_go"
      refine ⟨p, P, mk, j, rfl, hP, by omega, hj, fun H1 s1 => ?_⟩
      have l1 : atI ((addrs b P).map V.int) (j : Int) = some (.int (adr b P j)) := atI_nat (by rw [List.getElem?_map, addrs_get b P j hj']; rfl)
      have l2 : atI ((addrs b P).map V.int) ((i : Int) + 1) = some (.int (adr b P (i + 1))) := atI_nat (j := i + 1) (by rw [List.getElem?_map, addrs_get b P (i + 1) hlt]; rfl)
      fail "bm_go"
      refine ⟨_, _, rfl, ?_⟩
      rw [pSign_if hr e1 e3 hj] at k
      exact k _ s1
    all_goals
      fail "bm_go"
      refine r_ifF e1 ?_
      fail "bm_go"
      refine r_ifF hat ?_
      fail "bm_go"
      rw [pSign_no hr e1] at k
      exact k _ (Same.refl _)
def sp_page_signs (K : PySem.W.Frag) : Sp := fun vs H Q _ => ∃ (p : Addr) (P : List Row) (b : Int), vs = [.ref p, .int b] ∧ PAt K H p P ∧ WF P ∧ b + longOf P ≤ 256 ∧ ∀ t H', Same H H' → H t = none → SgAt K H' t P b → Q (.ref t) H'
theorem sc_page_signs : FnScope ["program", "base", "places", "number"] ["program", "base"] (defScope s_page_signs) := ⟨rfl, rfl, rfl, by decide +kernel, rfl, by decide +kernel, by decide +kernel⟩
theorem ok_page_signs {P : Program} {w : World} {K : PySem.W.Frag} {mg : Str → Option Value} {base : Heap} (T : Tx K mg) : Ok P w K mg base CX0 5 139 ["program", "base"] (sp_page_signs K) := by
  refine ok0 4 (f_page_signs T) sc_page_signs (fun _ _ _ _ _ _ us hl => match us, hl with | [_, _], _ => rfl) (fun vs H Q E h => ?_) (fun cdv A outer sh H vs Q E room h => ?_)
  · obtain ⟨p, P, b, rfl, hP, W, hb, k⟩ := h
    rfl
  · obtain ⟨p, P, b, rfl, hP, W, hb, k⟩ := h
    refine ⟨_,     (pss_cons (ps_set (i := 2) sc_page_signs.nd rfl (Or.inr rfl) (pc (ok_addresses (K := K) T) (room.mono (by decide)) rfl (g_addresses T) pass0 (pa_cons (pv 0) (pa_cons (pv 1) pa_nil))))
        (pss_one (ps_ret (pe_callTy (call_tupK K) (by rfl) (n_tuple T) (by decide +kernel) (pa_cons (pe_lc (own := [("number", 3)]) rfl sc_page_signs.nd (pi_range1 rfl (n_range T) (pa_cons (pe_callB (call_lenK K) (by rfl) (n_len T) (by decide +kernel) (pa_cons (pv 0) pa_nil)) pa_nil)) (blkOk_by (N := ["program", "base", "places", "number"]) (sc := defScope s_page_signs) (by decide +kernel)) (fun _ _ _ _ _ => (pg_name (i := 3) sc_page_signs.nd rfl (Or.inl rfl))) (fun _ _ _ _ _ => pts_nil) (fun _ _ _ _ _ => (pc (ok_page_sign (K := K) T) (room.mono (by decide)) rfl (g_page_sign T) pass0 (pa_cons (pv 0) (pa_cons (pv 2) (pa_cons (pv 3) pa_nil)))))) pa_nil))))), ?_⟩
    show (_ : TS) _ [_, _, none, none] _
    have hz := W.len
    fail "bm_go"
    refine ⟨p, P, b, rfl, hP, by omega, hb, fun l H1 s1 hl0 hl => ?_⟩
    obtain ⟨xs, h1, h2, _⟩ := hP.each
    fail "bm_go"
    rw [h2]
    refine lcN_m (n := (P.length : Int)) (pSign P b) (by omega) (by omega) (fun i H2 hi s2 R R0 q1 q0 => ?_) (fun D H2 hD s2 hD' => ?_)
    · have hi' : i < P.length := by omega
      fail "bm_turn"
      fail "bm_go"
      exact ⟨p, l, P, b, i, P[i], rfl, (hP.same s1).same s2, W, List.getElem?_eq_getElem hi', .inl (.inl (s2 _ _ hl)), fun H3 s3 => q1 rfl _ s3⟩
    · fail "bm_go"
      refine r_tupL (SqL.of hD') fun t ht => ?_
      refine k t _ (same_mut (s1.trans s2) ((s1.trans s2).free ht)) ((s1.trans s2).free ht) (SqT.of ?_)
      rw [Int.toNat_natCast]
      exact upd_same
/-- a value that is a new tuple of just these -/
def TupV (K : PySem.W.Frag) (xs : List V) (v : V) (H : Hp) : Prop := ∃ t, v = .ref t ∧ SqT K H t xs
theorem tupV_same {K : PySem.W.Frag} {xs : List V} {v : V} {H H' : Hp} (h : TupV K xs v H) (s : Same H H') : TupV K xs v H' := by
  obtain ⟨t, e, h⟩ := h
  exact ⟨t, e, sqT_same s h⟩
theorem tupV_im {K : PySem.W.Frag} {xs : List V} {v : V} {H H' : Hp} (h : TupV K xs v H) (s : Im H H') : TupV K xs v H' := by
  obtain ⟨t, e, h⟩ := h
  exact ⟨t, e, s.sqT h⟩
def sp_less_parts (K : PySem.W.Frag) : Sp := fun vs H Q _ => vs = [.int 0, .int 255] ∧ ∀ l v1 v2 H', Same H H' → H l = none → H' l = some (.lst [v1, v2]) → TupV K [.int 0, .int 254] v1 H' → TupV K [.int 255, .int 255] v2 H' → Q (.ref l) H'
theorem sc_less_parts : FnScope ["low", "high"] ["low", "high"] (defScope s_less_parts) := ⟨rfl, rfl, rfl, by decide +kernel, rfl, by decide +kernel, by decide +kernel⟩
theorem ok_less_parts {P : Program} {w : World} {K : PySem.W.Frag} {mg : Str → Option Value} {base : Heap} (T : Tx K mg) : Ok P w K mg base CX0 1 154 ["low", "high"] (sp_less_parts K) := by
  refine ok0 0 (f_less_parts T) sc_less_parts (fun _ _ _ _ _ _ us hl => match us, hl with | [_, _], _ => rfl) (fun vs H Q E h => ?_) (fun cdv A outer sh H vs Q E room h => ?_)
  · obtain ⟨rfl, k⟩ := h
    rfl
  · obtain ⟨rfl, k⟩ := h
    refine ⟨_,     (pss_cons (ps_if (pt_cmpR op_gt (pv 0) pe_int (nomark _))
          (pss_one (ps_ret (pe_lst (pa_cons (pe_tup (pa_cons (pe_op op_sub (pv 0) pe_int) (pa_cons (pe_op op_sub (pv 1) pe_int) pa_nil))) pa_nil)))) pss_nil)
        (pss_cons (ps_if (pt_cmpR op_eq (pv 1) pe_int (nomark _))
          (pss_one (ps_ret (pe_lst (pa_cons (pe_tup (pa_cons (pgi (i_MOST_BYTE_cells T) rfl) (pa_cons (pgi (i_MOST_BYTE_cells T) rfl) pa_nil))) pa_nil)))) pss_nil)
        (pss_one (ps_ret (pe_lst (pa_cons (pe_tup (pa_cons pe_int (pa_cons (pe_op op_sub (pv 1) pe_int) pa_nil))) (pa_cons (pe_tup (pa_cons (pgi (i_MOST_BYTE_cells T) rfl) (pa_cons (pgi (i_MOST_BYTE_cells T) rfl) pa_nil))) pa_nil))))))), ?_⟩
    show (_ : TS) _ [_, _] _
    fail "bm_all"
    intro t1 n1
    fail "bm_go"
    intro t2 n2
    fail "bm_go"
    intro l n3
    have e2 := none_upd n3
    have e3 := none_upd e2
    refine k l _ _ _ (same_mut (same_mut (same_new n1) (none_upd n2)) e3) e3 upd_same ⟨t1, rfl, ?_⟩ ⟨t2, rfl, ?_⟩
    · fail "bm_sq"
    · fail "bm_sq"
/-- what x_behind, comes_of tell: every item a tuple of ints that begins as told -/
def sp_x_behind (K : PySem.W.Frag) : Sp := fun vs H Q _ => ∃ (d : Str) (v : V), vs = [.str d, v, .int 0, .int 255, .int 0] ∧ decide (V.str d = V.str "up") = false ∧ (V.str d = V.str "setx" → ∃ n : Int, v = .int n) ∧
  ∀ l ws H', Same H H' → H l = none → H' l = some (.lst ws) → ws ≠ [] → ws.length ≤ 2 → (∀ w ∈ ws, ∃ i j k : Int, TupV K [.int i, .int j, .int k] w H') → Q (.ref l) H'
theorem sc_x_behind : FnScope ["deed", "value", "low", "high", "zero", "least", "most"] ["deed", "value", "low", "high", "zero"] (defScope s_x_behind) := ⟨rfl, rfl, rfl, by decide +kernel, rfl, by decide +kernel, by decide +kernel⟩
theorem ok_x_behind {P : Program} {w : World} {K : PySem.W.Frag} {mg : Str → Option Value} {base : Heap} (T : Tx K mg) : Ok P w K mg base CX0 2 159 ["deed", "value", "low", "high", "zero"] (sp_x_behind K) := by
  refine ok0 1 (f_x_behind T) sc_x_behind (fun _ _ _ _ _ _ us hl => match us, hl with | [_, _, _, _, _], _ => rfl) (fun vs H Q E h => ?_) (fun cdv A outer sh H vs Q E room h => ?_)
  · obtain ⟨d, v, rfl, hu, hv, k⟩ := h
    rfl
  · obtain ⟨d, v, rfl, hu, hv, k⟩ := h
    refine ⟨_,     (pss_cons (ps_if (pt_cmpR op_eq (pv 0) pe_str (nomark _))
          (pss_one (ps_ret (pe_lst (pa_cons (pe_tup (pa_cons (pv 1) (pa_cons (pv 1) (pa_cons pe_int pa_nil)))) pa_nil)))) pss_nil)
        (pss_cons (ps_if (PW.pt (pw_or (pt_cmpR op_eq (pv 0) pe_str (nomark _)) (pw_or1 (pt_cmpR op_eq (pv 0) pe_str (nomark _)))))
          (pss_one (ps_ret (pe_lst (pa_cons (pe_tup (pa_cons pe_int (pa_cons (pgi (i_MOST_BYTE_cells T) rfl) (pa_cons pe_int pa_nil)))) pa_nil)))) pss_nil)
        (pss_cons (ps_if (pt_cmpR op_eq (pv 0) pe_str (nomark _))
          pss_never pss_nil)
        (pss_cons (ps_if (pt_cmpR op_eq (pv 0) pe_str (nomark _))
          (pss_one (ps_ret (pe_lc (own := [("least", 5), ("most", 6)]) rfl sc_x_behind.nd (pi_listK K (pc (ok_less_parts (K := K) T) (room.mono (by decide)) rfl (g_less_parts T) pass0 (pa_cons (pv 2) (pa_cons (pv 3) pa_nil)))) (blkOk_by (N := ["deed", "value", "low", "high", "zero", "least", "most"]) (sc := defScope s_x_behind) (by decide +kernel)) (fun _ _ _ _ _ => (pg_tupK K (n := 2) rfl (pgs_cons (pg_name (i := 5) sc_x_behind.nd rfl (Or.inl rfl)) (pgs_cons (pg_name (i := 6) sc_x_behind.nd rfl (Or.inl rfl)) pgs_nil)))) (fun _ _ _ _ _ => pts_nil) (fun _ _ _ _ _ => (pe_tup (pa_cons (pv 5) (pa_cons (pv 6) (pa_cons pe_int pa_nil)))))))) pss_nil)
        (pss_cons (ps_if (pt_cmpR op_eq (pv 0) pe_str (nomark _))
          (pss_one (ps_ret (pe_lst (pa_cons (pe_tup (pa_cons (pv 2) (pa_cons (pv 3) (pa_cons pe_int pa_nil)))) pa_nil)))) pss_nil)
        (pss_one (ps_ret (pe_lst (pa_cons (pe_tup (pa_cons (pv 2) (pa_cons (pv 3) (pa_cons (pe_op op_mul (pv 4) (pe_callTy call_intN (by rfl) (n_int T) (by decide +kernel) (pa_cons (pe_cmpR (op_inK K) (pv 0) (pgr (g_SAME_FLAG T) rfl) (by rfl)) pa_nil))) pa_nil)))) pa_nil))))))))), ?_⟩
    show (_ : TS) _ [_, _, _, _, _, none, none] _
    fail "bm_go"
    refine r_ifD (fun e => ?_) (fun e => ?_)
    · obtain ⟨n, rfl⟩ := hv e
      fail "bm_go"
      intro t n1
      fail "bm_go"
      intro l n2
      refine k l _ _ (same_mut (same_new n1) (none_upd n2)) (none_upd n2) upd_same (by simp) (by simp) (fun w hw => ?_)
      rw [List.mem_singleton.mp hw]
      exact ⟨n, n, 1, t, rfl, by fail "bm_sq"⟩
    fail "bm_go"
    have hx : ∀ (t l : Addr) (a b c : Int), H t = none → upd H t (.tup [.int a, .int b, .int c]) l = none → Q (.ref l) (upd (upd H t (.tup [.int a, .int b, .int c])) l (.lst [.ref t])) := fun t l a b c n1 n2 =>
      k l _ _ (same_mut (same_new n1) (none_upd n2)) (none_upd n2) upd_same (by simp) (by simp) (fun w hw => by
        rw [List.mem_singleton.mp hw]
        exact ⟨a, b, c, t, rfl, by fail "bm_sq"⟩)
    refine r_ifD (fun e2 => ?_) (fun e2 => ?_)
    · fail "bm_go"
      intro t n1
      fail "bm_go"
      intro l n2
      exact hx _ _ _ _ _ n1 n2
    fail "bm_go"
    refine r_ifD (fun e2 => ?_) (fun e2 => ?_)
    · fail "bm_go"
      intro t n1
      fail "bm_go"
      intro l n2
      exact hx _ _ _ _ _ n1 n2
    fail "bm_go"
    refine r_ifF hu ?_
    fail "bm_go"
    refine r_ifD (fun e3 => ?_) (fun e3 => ?_)
    · fail "bm_go"
      refine ⟨rfl, fun l v1 v2 H1 s1 hl0 hl h1 h2 => ?_⟩
      refine lcL_r (xs := [v1, v2]) (R := fun _ v H => ∃ i j k : Int, TupV K [.int i, .int j, .int k] v H) ⟨?_, ?_⟩ (SqL.of hl) (by simp) (fun i x H2 hx s2 Rk R0 q => ?_) (fun D H2 ws hD s2 hd hw hr => ?_)
      · rintro _ v H H' ⟨i, j, k, h⟩ s
        exact ⟨i, j, k, tupV_same h s⟩
      · rintro _ v H D xs ys ⟨i, j, k, h⟩ hD
        exact ⟨i, j, k, tupV_im h (Im.mut hD trivial)⟩
      · have hx2 : ∃ i j : Int, TupV K [.int i, .int j] x H2 := by
          rcases List.mem_cons.mp (List.mem_of_getElem? hx) with rfl | hm
          · exact ⟨_, _, tupV_same h1 s2⟩
          · rw [List.mem_singleton.mp hm]
            exact ⟨_, _, tupV_same h2 s2⟩
        obtain ⟨z1, z2, t, rfl, ht⟩ := hx2
        fail "bm_turn"
        fail "bm_go"
        intro u hu
        exact q _ _ (same_new hu) ⟨z1, z2, 1, u, rfl, SqT.of upd_same⟩
      · refine k D ws _ (s1.trans s2) (s1.free hD) hd (by intro z; rw [z] at hw; simp at hw) (by rw [hw]; simp) (fun w hw' => ?_)
        obtain ⟨i, hi⟩ := List.getElem?_of_mem hw'
        exact hr i w hi
    fail "bm_all"
    all_goals
      intro t n1
      fail "bm_go"
      intro l n2
      exact hx _ _ _ _ _ n1 n2
def sp_x_where (K : PySem.W.Frag) : Sp := fun vs H Q _ => ∃ (lo hi : Int) (g : Bool), vs = [.int lo, .int hi, .int 0, .bl g] ∧ ∀ v H', Same H H' → TupV K [.int lo, .int hi] v H' → Q v H'
theorem sc_x_where : FnScope ["low", "high", "zero", "is_set"] ["low", "high", "zero", "is_set"] (defScope s_x_where) := ⟨rfl, rfl, rfl, by decide +kernel, rfl, by decide +kernel, by decide +kernel⟩
theorem ok_x_where {P : Program} {w : World} {K : PySem.W.Frag} {mg : Str → Option Value} {base : Heap} (T : Tx K mg) : Ok P w K mg base CX0 1 166 ["low", "high", "zero", "is_set"] (sp_x_where K) := by
  refine ok0 0 (f_x_where T) sc_x_where (fun _ _ _ _ _ _ us hl => match us, hl with | [_, _, _, _], _ => rfl) (fun vs H Q E h => ?_) (fun cdv A outer sh H vs Q E room h => ?_)
  · obtain ⟨lo, hi, g, rfl, k⟩ := h
    rfl
  · obtain ⟨lo, hi, g, rfl, k⟩ := h
    refine ⟨_,     (pss_cons (ps_if (pt_cmpR op_eq (pv 2) pe_int (nomark _))
          (pss_one (ps_ret (pe_tup (pa_cons (pv 0) (pa_cons (pv 1) pa_nil))))) pss_nil)
        (pss_cons (ps_if (PW.pt (pw_and (pt_val (pv 3)) (pw_and1 (pt_cmpR op_eq (pv 0) pe_int (nomark _)))))
          (pss_one (ps_ret (pe_tup (pa_cons pe_int (pa_cons pe_int pa_nil))))) pss_nil)
        (pss_cons (ps_if (PW.pt (pw_and (pt_not (pt_val (pv 3))) (pw_and1 (pt_cmpR op_gt (pv 1) pe_int (nomark _)))))
          (pss_one (ps_ret (pe_tup (pa_cons (pe_callB (call_maxN rfl) (by rfl) (n_max T) (by decide +kernel) (pa_cons pe_int (pa_cons (pv 0) pa_nil))) (pa_cons (pv 1) pa_nil))))) pss_nil)
        (pss_one (ps_ret pe_non))))), ?_⟩
    show (_ : TS) _ [_, _, _, _] _
    fail "bm_go"
    intro t n1
    exact k _ _ (same_new n1) ⟨t, rfl, SqT.of upd_same⟩
def sp_x_gone (K : PySem.W.Frag) : Sp := fun vs H Q _ => ∃ (d : Str) (lo hi : Int) (g : Bool), vs = [.str d, .int lo, .int hi, .int 0, .bl g] ∧ ∀ v H', Same H H' → TupV K [.int lo, .int hi] v H' → Q v H'
theorem sc_x_gone : FnScope ["deed", "low", "high", "zero", "is_gone"] ["deed", "low", "high", "zero", "is_gone"] (defScope s_x_gone) := ⟨rfl, rfl, rfl, by decide +kernel, rfl, by decide +kernel, by decide +kernel⟩
theorem ok_x_gone {P : Program} {w : World} {K : PySem.W.Frag} {mg : Str → Option Value} {base : Heap} (T : Tx K mg) : Ok P w K mg base CX0 2 173 ["deed", "low", "high", "zero", "is_gone"] (sp_x_gone K) := by
  refine ok0 1 (f_x_gone T) sc_x_gone (fun _ _ _ _ _ _ us hl => match us, hl with | [_, _, _, _, _], _ => rfl) (fun vs H Q E h => ?_) (fun cdv A outer sh H vs Q E room h => ?_)
  · obtain ⟨d, lo, hi, g, rfl, k⟩ := h
    rfl
  · obtain ⟨d, lo, hi, g, rfl, k⟩ := h
    refine ⟨_,     (pss_cons (ps_if (pt_cmpR op_eq (pv 0) pe_str (nomark _))
          (pss_one (ps_ret (pc (ok_x_where (K := K) T) (room.mono (by decide)) rfl (g_x_where T) pass0 (pa_cons (pv 1) (pa_cons (pv 2) (pa_cons (pv 3) (pa_cons (pv 4) pa_nil))))))) pss_nil)
        (pss_cons (ps_if (pt_cmpR op_eq (pv 0) pe_str (nomark _))
          (pss_one (ps_ret (pc (ok_x_where (K := K) T) (room.mono (by decide)) rfl (g_x_where T) pass0 (pa_cons (pv 1) (pa_cons (pv 2) (pa_cons (pv 3) (pa_cons (pe_not (pv 4)) pa_nil))))))) pss_nil)
        (pss_one (ps_ret (pe_tup (pa_cons (pv 1) (pa_cons (pv 2) pa_nil))))))), ?_⟩
    show (_ : TS) _ [_, _, _, _, _] _
    fail "bm_go"
    refine r_ifD (fun e => ?_) (fun e => ?_)
    · fail "bm_go"
      exact ⟨lo, hi, g, rfl, k⟩
    fail "bm_go"
    refine r_ifD (fun e => ?_) (fun e => ?_)
    · fail "bm_go"
      exact ⟨lo, hi, !g, rfl, k⟩
    fail "bm_go"
    intro t n1
    exact k _ _ (same_new n1) ⟨t, rfl, SqT.of upd_same⟩
def Tup6 (K : PySem.W.Frag) (e : Nat × Int) (v : V) (H : Hp) : Prop := ∃ i j k : Nat, i ≤ 255 ∧ j ≤ 255 ∧ k ≤ 255 ∧ TupV K [.int (e.1 : Int), .int (i : Int), .int (j : Int), .int (k : Int), .int e.2, .int e.2] v H
theorem tup6_im {K : PySem.W.Frag} {e : Nat × Int} {v : V} {H H' : Hp} (h : Tup6 K e v H) (s : Im H H') : Tup6 K e v H' := by
  obtain ⟨i, j, k, h1, h2, h3, h⟩ := h
  exact ⟨i, j, k, h1, h2, h3, tupV_im h s⟩
def Tup6w (K : PySem.W.Frag) (e : Nat × Int) (v : V) (H : Hp) : Prop := ∃ i j k : Int, TupV K [.int (e.1 : Int), .int i, .int j, .int k, .int e.2, .int e.2] v H
theorem tup6w_im {K : PySem.W.Frag} {e : Nat × Int} {v : V} {H H' : Hp} (h : Tup6w K e v H) (s : Im H H') : Tup6w K e v H' := by
  obtain ⟨i, j, k, h⟩ := h
  exact ⟨i, j, k, tupV_im h s⟩
theorem tup6_w {K : PySem.W.Frag} {e : Nat × Int} {v : V} {H : Hp} (h : Tup6 K e v H) : Tup6w K e v H := by
  obtain ⟨i, j, k, h1, h2, h3, h⟩ := h
  exact ⟨i, j, k, h⟩
/-- values and their entries, one by one -/
inductive Mt (K : PySem.W.Frag) (H : Hp) : List V → List (Nat × Int) → Prop where
  | nil : Mt K H [] []
  | cons {w : V} {e : Nat × Int} {ws : List V} {es : List (Nat × Int)} (h : Tup6w K e w H) (t : Mt K H ws es) : Mt K H (w :: ws) (e :: es)
theorem Mt.im {K : PySem.W.Frag} {H H' : Hp} (s : Im H H') : ∀ {ws : List V} {es : List (Nat × Int)}, Mt K H ws es → Mt K H' ws es
  | _, _, .nil => .nil
  | _, _, .cons h t => .cons (tup6w_im h s) (t.im s)
theorem Mt.len {K : PySem.W.Frag} {H : Hp} : ∀ {ws : List V} {es : List (Nat × Int)}, Mt K H ws es → es.length = ws.length
  | _, _, .nil => rfl
  | _, _, .cons _ t => congrArg Nat.succ t.len
theorem Mt.get {K : PySem.W.Frag} {H : Hp} : ∀ {ws : List V} {es : List (Nat × Int)}, Mt K H ws es → ∀ {i : Nat} {w : V}, ws[i]? = some w → ∃ e, es[i]? = some e ∧ Tup6w K e w H
  | _, _, .nil, i, w, h => by simp at h
  | _, _, .cons (e := e) h t, 0, w, q => by cases q; exact ⟨e, rfl, h⟩
  | _, _, .cons h t, i + 1, w, q => by
    obtain ⟨e, h1, h2⟩ := t.get (i := i) (w := w) (by simpa using q)
    exact ⟨e, by simpa using h1, h2⟩
theorem Mt.perm {K : PySem.W.Frag} {H : Hp} {ws ys : List V} (p : ys.Perm ws) : ∀ {es : List (Nat × Int)}, Mt K H ws es → ∃ es' : List (Nat × Int), es'.Perm es ∧ Mt K H ys es' := by
  induction p with
  | nil => intro es h; exact ⟨es, .refl _, h⟩
  | cons x p ih =>
    intro es h
    cases h with
    | cons h t =>
      obtain ⟨es', p', h'⟩ := ih t
      exact ⟨_, p'.cons _, .cons h h'⟩
  | swap x y l =>
    intro es h
    cases h with
    | cons h t =>
      cases t with
      | cons h2 t => exact ⟨_, .swap _ _ _, .cons h2 (.cons h t)⟩
  | trans p1 p2 ih1 ih2 =>
    intro es h
    obtain ⟨e2, q2, h2⟩ := ih2 h
    obtain ⟨e1, q1, h1⟩ := ih1 h2
    exact ⟨e1, q1.trans q2, h1⟩
theorem Mt.all {K : PySem.W.Frag} {H : Hp} {e : Nat × Int} : ∀ {ws : List V}, (∀ w ∈ ws, Tup6w K e w H) → Mt K H ws (List.replicate ws.length e)
  | [], _ => .nil
  | w :: ws, h => .cons (h w List.mem_cons_self) (Mt.all fun u hu => h u (List.mem_cons_of_mem _ hu))
theorem tup6_R {K : PySem.W.Frag} (L : List (Nat × Int)) : LcR (fun k v H => ∀ e, L[k]? = some e → Tup6 K e v H) :=
  ⟨fun h s => fun e he => tup6_im (h e he) (im_of s), fun h hD => fun e he => tup6_im (h e he) (Im.mut hD trivial)⟩
theorem tup6_ints {K : PySem.W.Frag} {e : Nat × Int} {v : V} {H : Hp} (h : Tup6 K e v H) (h1 : e.1 < 1000) (h2 : 0 ≤ e.2 ∧ e.2 < 1000) : ∃ ns, TupI K H v ns ∧ ns.length = 6 ∧ TS.Bd 1000 ns := by
  obtain ⟨i, j, k, hi, hj, hk, t, rfl, ht⟩ := h
  refine ⟨[(e.1 : Int), i, j, k, e.2, e.2], ⟨t, rfl, ht⟩, rfl, fun m hm => ?_⟩
  simp only [List.mem_cons, List.not_mem_nil, or_false] at hm
  omega
def sp_if_comes (K : PySem.W.Frag) : Sp := fun vs H Q _ => ∃ (p t u : Addr) (P : List Row) (b : Int) (i : Nat) (r : Row), vs = [.ref p, .ref t, .int i, .ref u] ∧ PAt K H p P ∧ WF P ∧ P[i]? = some r ∧ isIf r.d = true ∧ SgAt K H t P b ∧ SqT K H u [.int 0, .int 255, .int 0] ∧
  ∀ l ws H', Same H H' → H l = none → H' l = some (.lst ws) → ws.length ≤ 2 → (∃ es, Mt K H' ws es ∧ ∀ x, x ∈ es ↔ x ∈ ent P b i) → Q (.ref l) H'
theorem sc_if_comes : FnScope ["program", "signs", "row", "x", "mark", "deed", "value", "low", "high", "zero", "ways", "found", "other", "is_gone", "beats", "some"] ["program", "signs", "row", "x"] (defScope s_if_comes) := ⟨rfl, rfl, rfl, by decide +kernel, rfl, by decide +kernel, by decide +kernel⟩
theorem ok_if_comes {P : Program} {w : World} {K : PySem.W.Frag} {mg : Str → Option Value} {base : Heap} (T : Tx K mg) : Ok P w K mg base CX0 3 180 ["program", "signs", "row", "x"] (sp_if_comes K) := by
  refine ok0 2 (f_if_comes T) sc_if_comes (fun _ _ _ _ _ _ us hl => match us, hl with | [_, _, _, _], _ => rfl) (fun vs H Q E h => ?_) (fun cdv A outer sh H vs Q E room h => ?_)
  · obtain ⟨p, t, u, P, b, i, r, rfl, hP, W, hr, hif, ht, hu, k⟩ := h
    rfl
  · obtain ⟨p, t, u, P, b, i, r, rfl, hP, W, hr, hif, ht, hu, k⟩ := h
    refine ⟨_,     (pss_cons (ps_asg (pe_ix (ix_tupK K) (pv 0) (pv 2) (fun _ _ => rfl)) (pg_tupK K (n := 3) rfl (pgs_cons (pg_name (i := 4) sc_if_comes.nd rfl (Or.inl rfl)) (pgs_cons (pg_name (i := 5) sc_if_comes.nd rfl (Or.inl rfl)) (pgs_cons (pg_name (i := 6) sc_if_comes.nd rfl (Or.inl rfl)) pgs_nil)))))
        (pss_cons (ps_asg (pv 3) (pg_tupK K (n := 3) rfl (pgs_cons (pg_name (i := 7) sc_if_comes.nd rfl (Or.inl rfl)) (pgs_cons (pg_name (i := 8) sc_if_comes.nd rfl (Or.inl rfl)) (pgs_cons (pg_name (i := 9) sc_if_comes.nd rfl (Or.inl rfl)) pgs_nil)))))
        (pss_cons (ps_set (i := 10) sc_if_comes.nd rfl (Or.inl rfl) (pe_lst (pa_cons (pe_tup (pa_cons (pe_op op_add (pv 2) pe_int) (pa_cons pe_bl (pa_cons pe_int pa_nil)))) (pa_cons (pe_tup (pa_cons (pc (ok_row_of (K := K) T) (room.mono (by decide)) rfl (g_row_of T) pass0 (pa_cons (pv 0) (pa_cons (pv 6) pa_nil))) (pa_cons pe_bl (pa_cons (pe_op op_add pe_int (pe_ix (ix_tupK K) (pv 1) (pv 2) (fun _ _ => rfl))) pa_nil)))) pa_nil))))
        (pss_cons (ps_set (i := 11) sc_if_comes.nd rfl (Or.inl rfl) (pe_lst pa_nil))
        (pss_cons (ps_for PassesOwn.never rfl (pi_listK K (pv 10)) (pg_tupK K (n := 3) rfl (pgs_cons (pg_name (i := 12) sc_if_comes.nd rfl (Or.inl rfl)) (pgs_cons (pg_name (i := 13) sc_if_comes.nd rfl (Or.inl rfl)) (pgs_cons (pg_name (i := 14) sc_if_comes.nd rfl (Or.inl rfl)) pgs_nil))))
          (pss_cons (ps_set (i := 15) sc_if_comes.nd rfl (Or.inl rfl) (pc (ok_x_gone (K := K) T) (room.mono (by decide)) rfl (g_x_gone T) pass0 (pa_cons (pv 5) (pa_cons (pv 7) (pa_cons (pv 8) (pa_cons (pv 9) (pa_cons (pv 13) pa_nil)))))))
          (pss_one (ps_if (pt_cmpR op_notN' (pv 15) pe_non (nomark _))
            (pss_one (ps_expr (pe_bmK K PySem.F.plainAttrs_list PySem.F.slot_list_append PySem.F.type_list_append mt_append (pv 11) (pa_cons (pe_tup (pa_cons (pv 12) (pa_cons (pe_ix (ix_tupK K) (pv 15) pe_int (fun _ _ => rfl)) (pa_cons (pe_ix (ix_tupK K) (pv 15) pe_int (fun _ _ => rfl)) (pa_cons (pv 9) (pa_cons (pv 14) (pa_cons (pv 14) pa_nil))))))) pa_nil)))) pss_nil))))
        (pss_one (ps_ret (pe_callB (cr_srtT K (d := 6) (B := 1000) (by decide)) (by rfl) (n_sorted T) (by decide +kernel) (pa_cons (pv 11) pa_nil))))))))), ?_⟩
    show (_ : TS) _ [_, _, _, _, none, none, none, none, none, none, none, none, none, none, none, none] _
    obtain ⟨xs, a, h1, h2, h3, h4⟩ := hP.at_ hr
    have hz := W.len
    have hlt := (List.getElem?_eq_some_iff.mp hr).1
    rcases (W.ok i r hr).cases3 with ⟨e1, e2, mk, j, e3, hj⟩ | ⟨e1, _⟩ | ⟨e1, _⟩
    · unfold rowV at h3
      rw [e3] at h3
      have hj' := markIx_lt hj
      have l1 : atI ((List.range P.length).map (pSign P b)) (i : Int) = some (.int (crossed (adr b P j) (adr b P (i + 1)))) := atI_nat (by rw [List.getElem?_map, List.getElem?_range hlt]; exact congrArg some (pSign_if hr e1 e3 hj))
      rw [ent_if hr e1 e3 hj] at k
      have ht' : SqT K H t ((List.range P.length).map (pSign P b)) := ht
      fail "bm_go"
      intro t1 n1
      fail "bm_go"
      refine ⟨p, P, mk, j, rfl, hP.im (Im.new n1), by omega, hj, fun H1 s1 => ?_⟩
      fail "bm_go"
      intro t2 n2
      fail "bm_go"
      intro w n3
      fail "bm_go"
      intro f n4
      fail "bm_go"
      have m4 := none_upd n4
      refine forL_c f (xs := [.ref t1, .ref t2]) (fun n σ H' => (∃ o1 o2 o3 o4, σ = [some (.ref p), some (.ref t), some (.int i), some (.ref u), some (.str r.m), some (.str r.d), some (.str mk), some (.int 0), some (.int 255), some (.int 0), some (.ref w), some (.ref f), o1, o2, o3, o4])
          ∧ LcAcc (fun k v H => ∀ e, [(i + 1, (2 : Int)), (j, far P b i j)][k]? = some e → Tup6 K e v H) f n H') (by fail "bm_ls") (Ne.symm (ne_upd n4)) ⟨⟨none, none, none, none, rfl⟩, lcAcc_nil upd_same⟩ (fun n x σ' H' hx c q => ?_) (fun σ' H' c q => ?_)
      · obtain ⟨⟨o1, o2, o3, o4, rfl⟩, hacc⟩ := q
        have hx2 : ∃ (o : Nat) (g : Bool) (bt : Int) (tt : Addr), x = .ref tt ∧ [(i + 1, (2 : Int)), (j, far P b i j)][n]? = some (o, bt) ∧ SqT K H' tt [.int (o : Int), .bl g, .int bt] := by
          rcases n with _ | _ | n
          · cases hx
            exact ⟨i + 1, false, 2, t1, rfl, rfl, by fail "bm_sq"⟩
          · cases hx
            exact ⟨j, true, far P b i j, t2, rfl, rfl, by fail "bm_sq"⟩
          · simp at hx
        obtain ⟨o, g, bt, tt, rfl, hL, htt⟩ := hx2
        fail "bm_go"
        refine ⟨r.d, 0, 255, g, rfl, fun v H2 s2 hv => ?_⟩
        obtain ⟨z, rfl, hz2⟩ := hv
        have hacc2 := hacc.chg (tup6_R _) s2
        obtain ⟨acc, ha1, _, _⟩ := id hacc2
        fail "bm_go"
        intro y ny
        have s3 := same_new (o := .tup [.int (o : Int), .int 0, .int 255, .int 0, .int bt, .int bt]) ny
        obtain ⟨acc2, b1, b2, b3⟩ := LcAcc.put (v := .ref y) (tup6_R _) hacc2 s3 (fun e he => by
          rw [hL] at he
          cases he
          exact ⟨0, 255, 0, by omega, by omega, by omega, y, rfl, SqT.of upd_same⟩) (by have := (List.getElem?_eq_some_iff.mp hx).1; simp at this; omega)
        fail "bm_go"
        refine r_app b1 b2 ?_
        fail "bm_go"
        exact ⟨((c.step s2).step s3).put b1 trivial, ⟨_, _, _, _, rfl⟩, b3⟩
      · obtain ⟨⟨o1, o2, o3, o4, rfl⟩, ws, hw1, hw2, hw3⟩ := q
        fail "bm_go"
        have hf := crossed_le (adr b P j) (adr b P (i + 1))
        have hfar : far P b i j = 3 + crossed (adr b P j) (adr b P (i + 1)) := rfl
        have hjz : j < 1000 ∧ i < 1000 := by omega
        have hall : ∀ x ∈ ws, ∃ e ∈ [(i + 1, (2 : Int)), (j, far P b i j)], Tup6 K e x H' := fun x hx => by
          obtain ⟨n, hn⟩ := List.getElem?_of_mem hx
          have hn2 : n < 2 := by rw [← show ws.length = 2 from hw2]; exact (List.getElem?_eq_some_iff.mp hn).1
          obtain ⟨e, he⟩ : ∃ e, [(i + 1, (2 : Int)), (j, far P b i j)][n]? = some e := ⟨_, List.getElem?_eq_getElem (by simpa using hn2)⟩
          exact ⟨e, List.mem_of_getElem? he, hw3 n x hn e he⟩
        have hmt : Mt K H' ws [(i + 1, (2 : Int)), (j, far P b i j)] := by
          match ws, hw2, hw3 with
          | [w1, w2], _, hw3 => exact .cons (tup6_w (hw3 0 _ rfl _ rfl)) (.cons (tup6_w (hw3 1 _ rfl _ rfl)) .nil)
        refine ⟨f, ws, rfl, SqL.of hw1, by rw [hw2]; simp, fun x hx => ?_, fun ys l hperm _ hl => ?_⟩
        · obtain ⟨e, he, h6⟩ := hall x hx
          simp only [List.mem_cons, List.not_mem_nil, or_false] at he
          rcases he with rfl | rfl
          · exact tup6_ints h6 (by simp; omega) (by simp)
          · exact tup6_ints h6 (by simp; omega) (by simp; omega)
        · have s1' : Same H H1 := (same_new n1).trans s1
          have sH : Same H H' := c.out (same_mut (same_mut (same_mut s1' (s1'.free n2)) (s1'.free (none_upd n3))) (s1'.free (none_upd (none_upd n4)))) (s1'.free (none_upd (none_upd n4)))
          have hl2 := sH.free hl
          refine k l ys _ (same_mut sH hl2) hl2 upd_same (by rw [hperm.length_eq, hw2]; simp) ?_
          obtain ⟨es, he1, he2⟩ := Mt.perm hperm hmt
          exact ⟨es, he2.im (Im.new hl), fun x => he1.mem_iff⟩
    all_goals (rw [e1] at hif; cases hif)
end
section
/-! ## A3: comes_of, steps -/
theorem nosetx_facts : ∀ x ∈ memDs ++ (plainDs ++ ((["door", "eye", "go"] : List Str) ++ ifDs)), decide (V.str x = V.str "setx") = false := by decide +kernel
theorem RowOk.setx {P : List Row} {r : Row} (h : RowOk P r) (e : V.str r.d = V.str "setx") : ∃ n : Int, r.v = .int n := by
  have no : ∀ x ∈ memDs ++ (plainDs ++ ((["door", "eye", "go"] : List Str) ++ ifDs)), V.str x = V.str "setx" → ∃ n : Int, r.v = .int n := fun x hx e => absurd e (of_decide_eq_false (nosetx_facts x hx))
  cases h with
  | byte m d n h => exact ⟨n, rfl⟩
  | mem m d n h hn => exact no d (by simp [h]) e
  | plain m d h => exact no d (by simp [h]) e
  | door m n hn => exact no "door" (by simp) e
  | eye m n hn => exact no "eye" (by simp) e
  | go m k j h => exact no "go" (by simp) e
  | iff m d k j hd h => exact no d (by simp [hd]) e
def sp_comes_of (K : PySem.W.Frag) : Sp := fun vs H Q _ => ∃ (p t : Addr) (P : List Row) (b : Int) (i : Nat) (r : Row), vs = [.ref p, .ref t, .int i, .int 0, .int 255, .int 0] ∧ PAt K H p P ∧ WF P ∧ P[i]? = some r ∧ SgAt K H t P b ∧
  ∀ l ws H', Same H H' → H l = none → H' l = some (.lst ws) → ws.length ≤ 2 → (∃ es, Mt K H' ws es ∧ ∀ x, x ∈ es ↔ x ∈ ent P b i) → Q (.ref l) H'
theorem sc_comes_of : FnScope ["program", "signs", "row", "low", "high", "zero", "mark", "deed", "value", "least", "most", "other", "begin", "end", "flag"] ["program", "signs", "row", "low", "high", "zero"] (defScope s_comes_of) := ⟨rfl, rfl, rfl, by decide +kernel, rfl, by decide +kernel, by decide +kernel⟩
theorem ok_comes_of {P : Program} {w : World} {K : PySem.W.Frag} {mg : Str → Option Value} {base : Heap} (T : Tx K mg) : Ok P w K mg base CX0 4 185 ["program", "signs", "row", "low", "high", "zero"] (sp_comes_of K) := by
  refine ok0 3 (f_comes_of T) sc_comes_of (fun _ _ _ _ _ _ us hl => match us, hl with | [_, _, _, _, _, _], _ => rfl) (fun vs H Q E h => ?_) (fun cdv A outer sh H vs Q E room h => ?_)
  · obtain ⟨p, t, P, b, i, r, rfl, hP, W, hr, ht, k⟩ := h
    rfl
  · obtain ⟨p, t, P, b, i, r, rfl, hP, W, hr, ht, k⟩ := h
    refine ⟨_,     (pss_cons (ps_asg (pe_ix (ix_tupK K) (pv 0) (pv 2) (fun _ _ => rfl)) (pg_tupK K (n := 3) rfl (pgs_cons (pg_name (i := 6) sc_comes_of.nd rfl (Or.inl rfl)) (pgs_cons (pg_name (i := 7) sc_comes_of.nd rfl (Or.inl rfl)) (pgs_cons (pg_name (i := 8) sc_comes_of.nd rfl (Or.inl rfl)) pgs_nil)))))
        (pss_cons (ps_if (pt_cmpR (op_inK K) (pv 7) (pe_tup (pa_cons pe_str (pa_cons pe_str (pa_cons pe_str (pa_cons pe_str pa_nil))))) (by rfl))
          (pss_one (ps_ret (pc (ok_if_comes (K := K) T) (room.mono (by decide)) rfl (g_if_comes T) pass0 (pa_cons (pv 0) (pa_cons (pv 1) (pa_cons (pv 2) (pa_cons (pe_tup (pa_cons (pv 3) (pa_cons (pv 4) (pa_cons (pv 5) pa_nil)))) pa_nil))))))) pss_nil)
        (pss_cons (ps_set (i := 9) sc_comes_of.nd rfl (Or.inr rfl) (pc (ok_beat_count (K := K) T) (room.mono (by decide)) rfl (g_beat_count T) pass0 (pa_cons (pv 7) pa_nil)))
        (pss_cons (ps_set (i := 10) sc_comes_of.nd rfl (Or.inr rfl) (pv 9))
        (pss_cons (ps_set (i := 11) sc_comes_of.nd rfl (Or.inr rfl) (pe_op op_add (pv 2) pe_int))
        (pss_cons (ps_if (pt_cmpR op_eq (pv 7) pe_str (nomark _))
          pss_never pss_nil)
        (pss_cons (ps_if (pt_cmpR op_eq (pv 7) pe_str (nomark _))
          (pss_one (ps_set (i := 11) sc_comes_of.nd rfl (Or.inr rfl) (pc (ok_row_of (K := K) T) (room.mono (by decide)) rfl (g_row_of T) pass0 (pa_cons (pv 0) (pa_cons (pv 8) pa_nil))))) pss_nil)
        (pss_one (ps_ret (pe_lc (own := [("begin", 12), ("end", 13), ("flag", 14)]) rfl sc_comes_of.nd (pi_listK K (pc (ok_x_behind (K := K) T) (room.mono (by decide)) rfl (g_x_behind T) pass0 (pa_cons (pv 7) (pa_cons (pv 8) (pa_cons (pv 3) (pa_cons (pv 4) (pa_cons (pv 5) pa_nil))))))) (blkOk_by (N := ["program", "signs", "row", "low", "high", "zero", "mark", "deed", "value", "least", "most", "other", "begin", "end", "flag"]) (sc := defScope s_comes_of) (by decide +kernel)) (fun _ _ _ _ _ => (pg_tupK K (n := 3) rfl (pgs_cons (pg_name (i := 12) sc_comes_of.nd rfl (Or.inl rfl)) (pgs_cons (pg_name (i := 13) sc_comes_of.nd rfl (Or.inl rfl)) (pgs_cons (pg_name (i := 14) sc_comes_of.nd rfl (Or.inl rfl)) pgs_nil))))) (fun _ _ _ _ _ => pts_nil) (fun _ _ _ _ _ => (pe_tup (pa_cons (pv 11) (pa_cons (pv 12) (pa_cons (pv 13) (pa_cons (pv 14) (pa_cons (pv 9) (pa_cons (pv 10) pa_nil)))))))))))))))))), ?_⟩
    show (_ : TS) _ [_, _, _, _, _, _, none, none, none, none, none, none, none, none, none] _
    obtain ⟨xs, a, h1, h2, h3, h4⟩ := hP.at_ hr
    have hz := W.len
    have hok := W.ok i r hr
    have hlt := (List.getElem?_eq_some_iff.mp hr).1
    unfold rowV at h3
    fail "bm_go"
    intro u nu
    fail "bm_go"
    have s1 := same_new (o := .tup [.str "ifz", .str "ifn", .str "ifc", .str "ifd"]) nu
    rcases hok.cases3 with ⟨e1, _⟩ | ⟨e1, e2, mk, j, e3, hj⟩ | ⟨e1, e2, _⟩
    · refine r_ifT e1 ?_
      fail "bm_go"
      intro u2 nu2
      fail "bm_go"
      have s2 := same_new (o := .tup [.int 0, .int 255, .int 0]) nu2
      refine ⟨p, t, u2, P, b, i, r, rfl, (hP.same s1).same s2, W, hr, e1, sqT_same s2 (sqT_same s1 ht), SqT.of upd_same, fun l ws H' s hl h5 h6 h7 => k l ws H' ((s1.trans s2).trans s) ((s1.trans s2).free hl) h5 h6 h7⟩
    all_goals
      refine r_ifF e1 ?_
      fail "bm_go"
      refine ⟨r.d, rfl, ?_⟩
      fail "bm_go"
      refine r_ifF hok.ne_at ?_
      fail "bm_go"
    · have hb : beatCnt r.d = 3 := by rw [e2]; decide +kernel
      refine r_ifT (by rw [e2]; rfl) ?_
      rw [e3]
      fail "bm_go"
      refine ⟨p, P, mk, j, rfl, hP.same s1, by omega, hj, fun H1 s2 => ?_⟩
      fail "bm_go"
      refine ⟨r.d, .str mk, rfl, hok.ne_up, by rw [← e3]; exact hok.setx, fun l ws H2 s3 hl hl2 hne hle hws => ?_⟩
      refine lcL_r (xs := ws) (R := fun _ v H => Tup6w K (j, beatCnt r.d) v H) ⟨fun h s => tup6w_im h (im_of s), fun h hD => tup6w_im h (Im.mut hD trivial)⟩ (SqL.of hl2) (by omega) (fun n x H3 hx s4 Rk R0 q => ?_) (fun D H3 ws2 hD s4 hd hw hr2 => ?_)
      · obtain ⟨z1, z2, z3, t2, rfl, ht2⟩ := hws x (List.mem_of_getElem? hx)
        fail "bm_turn"
        fail "bm_go"
        intro y ny
        exact q _ _ (same_new ny) ⟨z1, z2, z3, y, rfl, SqT.of upd_same⟩
      · rw [ent_go hr e1 e2 e3 hj] at k
        rw [hb] at hr2
        have hne2 : ws2 ≠ [] := by intro z; rw [z] at hw; exact hne (List.length_eq_zero_iff.mp hw.symm)
        refine k D ws2 H3 (((s1.trans s2).trans s3).trans s4) (((s1.trans s2).trans s3).free hD) hd (by omega) ⟨_, Mt.all (e := (j, 3)) fun w hw' => ?_, fun x => ?_⟩
        · obtain ⟨n, hn⟩ := List.getElem?_of_mem hw'
          exact hr2 n w hn
        · rw [List.mem_replicate, List.mem_singleton]
          exact ⟨fun h => h.2, fun h => ⟨fun z => hne2 (List.length_eq_zero_iff.mp z), h⟩⟩
    · refine r_ifF e2 ?_
      fail "bm_go"
      refine ⟨r.d, r.v, rfl, hok.ne_up, hok.setx, fun l ws H1 s2 hl hl2 hne hle hws => ?_⟩
      refine lcL_r (xs := ws) (R := fun _ v H => Tup6w K (i + 1, beatCnt r.d) v H) ⟨fun h s => tup6w_im h (im_of s), fun h hD => tup6w_im h (Im.mut hD trivial)⟩ (SqL.of hl2) (by omega) (fun n x H2 hx s3 Rk R0 q => ?_) (fun D H2 ws2 hD s3 hd hw hr2 => ?_)
      · obtain ⟨z1, z2, z3, t2, rfl, ht2⟩ := hws x (List.mem_of_getElem? hx)
        fail "bm_turn"
        fail "bm_go"
        intro y ny
        exact q _ _ (same_new ny) ⟨z1, z2, z3, y, rfl, SqT.of upd_same⟩
      · rw [ent_no hr e1 e2] at k
        have hne2 : ws2 ≠ [] := by intro z; rw [z] at hw; exact hne (List.length_eq_zero_iff.mp hw.symm)
        refine k D ws2 H2 ((s1.trans s2).trans s3) ((s1.trans s2).free hD) hd (by omega) ⟨_, Mt.all (e := (i + 1, beatCnt r.d)) fun w hw' => ?_, fun x => ?_⟩
        · obtain ⟨n, hn⟩ := List.getElem?_of_mem hw'
          exact hr2 n w hn
        · rw [List.mem_replicate, List.mem_singleton]
          exact ⟨fun h => h.2, fun h => ⟨fun z => hne2 (List.length_eq_zero_iff.mp z), h⟩⟩
theorem StepIs.nil {K : PySem.W.Frag} {H : Hp} : StepIs K H (fun _ => none) [] := fun j => .inl ⟨rfl, fun bt h => nomatch h⟩
/-- one more way told -/
theorem StepIs.snoc {K : PySem.W.Frag} {H H' : Hp} {f : Int → Option V} {E : List (Nat × Int)} {o : Nat} {bt lo hi : Int} {t : Addr} (h : StepIs K H f E) (s : Im H H') (ht : SqT K H' t [.int lo, .int hi])
    (hl : (f o = none ∧ lo = bt ∧ hi = bt) ∨ ∃ t0 lo0 hi0, f o = some (.ref t0) ∧ SqT K H t0 [.int lo0, .int hi0] ∧ lo = (if bt < lo0 then bt else lo0) ∧ hi = (if bt > hi0 then bt else hi0) ∧ (o, lo0) ∈ E ∧ (o, hi0) ∈ E ∧ ∀ b, (o, b) ∈ E → lo0 ≤ b ∧ b ≤ hi0) :
    StepIs K H' (fun i => if i = (o : Int) then some (.ref t) else f i) (E ++ [(o, bt)]) := fun j => by
  by_cases e : j = o
  · subst e
    refine .inr ⟨t, lo, hi, if_pos rfl, ht, ?_⟩
    rcases hl with ⟨h0, e1, e2⟩ | ⟨t0, lo0, hi0, h0, _, rfl, rfl, m1, m2, m3⟩
    · subst e1 e2
      refine ⟨by simp, by simp, fun b hb => ?_⟩
      rcases List.mem_append.mp hb with hb | hb
      · rcases h j with ⟨_, hn⟩ | ⟨_, _, _, h1, _⟩
        · exact absurd hb (hn b)
        · rw [h0] at h1
          cases h1
      · simp at hb
        omega
    · refine ⟨?_, ?_, fun b hb => ?_⟩
      · split
        · simp
        · simp [m1]
      · split
        · simp
        · simp [m2]
      · rcases List.mem_append.mp hb with hb | hb
        · have := m3 b hb
          split <;> split <;> omega
        · simp at hb
          split <;> split <;> omega
  · have e' : ¬ ((j : Int) = (o : Int)) := fun q => e (by omega)
    rcases h j with ⟨h1, h2⟩ | ⟨t', lo', hi', h1, h2, h3, h4, h5⟩
    · refine .inl ⟨(if_neg e').trans h1, fun b hb => ?_⟩
      rcases List.mem_append.mp hb with hb | hb
      · exact h2 b hb
      · simp at hb
        exact e hb.1
    · refine .inr ⟨t', lo', hi', (if_neg e').trans h1, s.sqT h2, List.mem_append_left _ h3, List.mem_append_left _ h4, fun b hb => ?_⟩
      rcases List.mem_append.mp hb with hb | hb
      · exact h5 b hb
      · simp at hb
        exact absurd hb.1 e
theorem StepIs.congr {K : PySem.W.Frag} {H : Hp} {f : Int → Option V} {E E' : List (Nat × Int)} (h : StepIs K H f E) (e : ∀ x, x ∈ E ↔ x ∈ E') : StepIs K H f E' := fun j => by
  rcases h j with ⟨h1, h2⟩ | ⟨t, lo, hi, h1, h2, h3, h4, h5⟩
  · exact .inl ⟨h1, fun b hb => h2 b ((e _).mpr hb)⟩
  · exact .inr ⟨t, lo, hi, h1, h2, (e _).mp h3, (e _).mp h4, fun b hb => h5 b ((e _).mpr hb)⟩
def sp_steps_of (K : PySem.W.Frag) : Sp := fun vs H Q _ => ∃ (p t : Addr) (P : List Row) (b : Int) (i : Nat) (r : Row), vs = [.ref p, .ref t, .int i] ∧ PAt K H p P ∧ WF P ∧ P[i]? = some r ∧ SgAt K H t P b ∧
  ∀ d H', Same H H' → H d = none → StepAt K H' d P b i → Q (.ref d) H'
theorem sc_steps_of : FnScope ["program", "signs", "row", "found", "come", "least", "most"] ["program", "signs", "row"] (defScope s_steps_of) := ⟨rfl, rfl, rfl, by decide +kernel, rfl, by decide +kernel, by decide +kernel⟩
theorem ok_steps_of {P : Program} {w : World} {K : PySem.W.Frag} {mg : Str → Option Value} {base : Heap} (T : Tx K mg) : Ok P w K mg base CX0 5 199 ["program", "signs", "row"] (sp_steps_of K) := by
  refine ok0 4 (f_steps_of T) sc_steps_of (fun _ _ _ _ _ _ us hl => match us, hl with | [_, _, _], _ => rfl) (fun vs H Q E h => ?_) (fun cdv A outer sh H vs Q E room h => ?_)
  · obtain ⟨p, t, P, b, i, r, rfl, hP, W, hr, ht, k⟩ := h
    rfl
  · obtain ⟨p, t, P, b, i, r, rfl, hP, W, hr, ht, k⟩ := h
    refine ⟨_,     (pss_cons (ps_set (i := 3) sc_steps_of.nd rfl (Or.inl rfl) pe_dnewK)
        (pss_cons (ps_if (pt_val (pc (ok_is_table (K := K) T) (room.mono (by decide)) rfl (g_is_table T) pass0 (pa_cons (pe_ix (ix_tupK K) (pv 0) (pv 2) (fun _ _ => rfl)) pa_nil)))
          (pss_one (ps_ret (pv 3))) pss_nil)
        (pss_cons (ps_for PassesOwn.never rfl (pi_listK K (pc (ok_comes_of (K := K) T) (room.mono (by decide)) rfl (g_comes_of T) pass0 (pa_cons (pv 0) (pa_cons (pv 1) (pa_cons (pv 2) (pa_cons pe_int (pa_cons (pgi (i_MOST_BYTE_spans T) rfl) (pa_cons pe_int pa_nil)))))))) (pg_name (i := 4) sc_steps_of.nd rfl (Or.inl rfl))
          (pss_cons (ps_asg (pe_dget2 (hu_of room) (pv 3) (pe_ix (ix_tupK K) (pv 4) pe_int (fun _ _ => rfl)) (pe_tup (pa_cons (pe_ix (ix_tupK K) (pv 4) pe_int (fun _ _ => rfl)) (pa_cons (pe_ix (ix_tupK K) (pv 4) pe_int (fun _ _ => rfl)) pa_nil))) ⟨rfl, rfl, rfl, rfl⟩) (pg_tupK K (n := 2) rfl (pgs_cons (pg_name (i := 5) sc_steps_of.nd rfl (Or.inl rfl)) (pgs_cons (pg_name (i := 6) sc_steps_of.nd rfl (Or.inl rfl)) pgs_nil))))
          (pss_one (ps_dput (hu_of room) (pv 3) (pe_ix (ix_tupK K) (pv 4) pe_int (fun _ _ => rfl)) (pe_tup (pa_cons (pe_callB (call_minN rfl) (by rfl) (n_min T) (by decide +kernel) (pa_cons (pv 5) (pa_cons (pe_ix (ix_tupK K) (pv 4) pe_int (fun _ _ => rfl)) pa_nil))) (pa_cons (pe_callB (call_maxN rfl) (by rfl) (n_max T) (by decide +kernel) (pa_cons (pv 6) (pa_cons (pe_ix (ix_tupK K) (pv 4) pe_int (fun _ _ => rfl)) pa_nil))) pa_nil))) rfl))))
        (pss_one (ps_ret (pv 3)))))), ?_⟩
    show (_ : TS) _ [_, _, _, none, none, none, none] _
    obtain ⟨xs, a, h1, h2, h3, h4⟩ := hP.at_ hr
    have hok := W.ok i r hr
    fail "bm_go"
    intro d hd
    fail "bm_go"
    have s1 := same_new (o := .dK []) hd
    refine ⟨a, r, rfl, sqT_same s1 h3, ?_⟩
    fail "bm_go"
    refine r_ifF hok.ne_data ?_
    fail "bm_go"
    refine ⟨p, t, P, b, i, r, rfl, hP.same s1, W, hr, sqT_same s1 ht, fun l ws H1 s2 hl hl2 hle hE => ?_⟩
    obtain ⟨es, hM, hEs⟩ := hE
    have hlen := hM.len
    refine forL_c d (xs := ws) (fun n σ H' => (∃ o1 o2 o3, σ = [some (.ref p), some (.ref t), some (.int i), some (.ref d), o1, o2, o3]) ∧ ∃ kvs ks f, H' d = some (.dK kvs) ∧ DI kvs ks f ∧ ks.length ≤ n ∧ (∀ k, k ∈ ks → ∃ j : Nat, k = (j : Int)) ∧ StepIs K H' f (es.take n))
      (SqL.of hl2) (ne_upd hl) ⟨⟨none, none, none, rfl⟩, [], [], _, s2 _ _ upd_same, DI.nil, by simp, by intro k hk; simp at hk, StepIs.nil⟩ (fun n x σ' H' hx c q => ?_) (fun σ' H' c q => ?_)
    · obtain ⟨⟨o1, o2, o3, rfl⟩, kvs, ks, f, hd', hD, hkl, hkn, hS⟩ := q
      obtain ⟨e, he, z1, z2, z3, tt, rfl, htt⟩ := hM.get hx
      obtain ⟨o, bt⟩ := e
      have htt' : SqT K H' tt [.int (o : Int), .int z1, .int z2, .int z3, .int bt, .int bt] := sqT_chg c htt
      have hn2 : n < ws.length := (List.getElem?_eq_some_iff.mp hx).1
      fail "bm_go"
      refine r_dget2E (.inl hd') ?_
      fail "bm_go"
      intro u nu
      have s3 := same_new (o := .tup [.int bt, .int bt]) nu
      fail "bm_go"
      refine r_dgetO (kvs := kvs) (ks := ks) (f := f) (.inl (s3 _ _ hd')) hD ?_
      have fin : ∀ (lo hi : Int) (y : Addr), (f o = none ∧ lo = bt ∧ hi = bt) ∨ (∃ t0 lo0 hi0, f o = some (.ref t0) ∧ SqT K H' t0 [.int lo0, .int hi0] ∧ lo = (if bt < lo0 then bt else lo0) ∧ hi = (if bt > hi0 then bt else hi0) ∧ (o, lo0) ∈ es.take n ∧ (o, hi0) ∈ es.take n ∧ ∀ b, (o, b) ∈ es.take n → lo0 ≤ b ∧ b ≤ hi0) →
          (ny : upd H' u (.tup [.int bt, .int bt]) y = none) → ∃ kvs' ks' f', (upd (upd (upd H' u (.tup [.int bt, .int bt])) y (.tup [.int lo, .int hi])) d (.dK (putK kvs (.inl (o : Int)) (.ref y)))) d = some (.dK kvs') ∧ DI kvs' ks' f' ∧ ks'.length ≤ n + 1 ∧ (∀ k, k ∈ ks' → ∃ j : Nat, k = (j : Int)) ∧
            StepIs K (upd (upd (upd H' u (.tup [.int bt, .int bt])) y (.tup [.int lo, .int hi])) d (.dK (putK kvs (.inl (o : Int)) (.ref y)))) f' (es.take (n + 1)) := fun lo hi y hc ny => by
        have hdy : upd (upd H' u (.tup [.int bt, .int bt])) y (.tup [.int lo, .int hi]) d = some (.dK kvs) := gN ny (s3 _ _ hd')
        refine ⟨_, _, _, upd_same, hD.put (o : Int) (.ref y), ?_, fun k hk => ?_, ?_⟩
        · split
          · omega
          · rw [List.length_append]
            simp
            omega
        · split at hk
          · exact hkn k hk
          · rcases List.mem_append.mp hk with hk | hk
            · exact hkn k hk
            · exact ⟨o, by simpa using hk⟩
        · rw [List.take_add_one, he]
          refine hS.snoc (((Im.new nu).trans (Im.new ny)).trans (Im.mut hdy trivial)) ?_ hc
          exact sqT_im (Im.mut hdy trivial) (SqT.of upd_same)
      rcases hS o with ⟨h0, _⟩ | ⟨t0, lo0, hi0, h0, ht0, m1, m2, m3⟩
      · rw [h0]
        simp only [Option.getD_none]
        fail "bm_go"
        intro y ny
        fail "bm_go"
        refine r_dputE (gN ny (s3 _ _ hd')) (szl (by rw [hD.len]; omega)) ?_
        refine ⟨((c.step s3).step (same_new ny)).put (gN ny (s3 _ _ hd')) trivial, ⟨_, _, _, rfl⟩, fin _ _ y (.inl ⟨h0, by simp, by simp⟩) ny⟩
      · rw [h0]
        simp only [Option.getD_some]
        have ht0' := sqT_same s3 ht0
        fail "bm_go"
        intro y ny
        fail "bm_go"
        refine r_dputE (gN ny (s3 _ _ hd')) (szl (by rw [hD.len]; omega)) ?_
        refine ⟨((c.step s3).step (same_new ny)).put (gN ny (s3 _ _ hd')) trivial, ⟨_, _, _, rfl⟩, fin _ _ y (.inr ⟨t0, lo0, hi0, h0, ht0, rfl, rfl, m1, m2, m3⟩) ny⟩
    · obtain ⟨⟨o1, o2, o3, rfl⟩, kvs, ks, f, hd', hD, hkl, hkn, hS⟩ := q
      fail "bm_go"
      refine k d H' (c.out ((same_new hd).trans s2) hd) hd ⟨kvs, ks, f, hd', hD, by omega, hkn, ?_⟩
      rw [← hlen, List.take_length] at hS
      exact hS.congr hEs
def sp_all_steps (K : PySem.W.Frag) : Sp := fun vs H Q _ => ∃ (p : Addr) (P : List Row) (b : Int), vs = [.ref p, .int b] ∧ PAt K H p P ∧ WF P ∧ b + longOf P ≤ 256 ∧ ∀ l H', Same H H' → H l = none → StepsAt K H' l P b → Q (.ref l) H'
theorem sc_all_steps : FnScope ["program", "base", "signs", "row"] ["program", "base"] (defScope s_all_steps) := ⟨rfl, rfl, rfl, by decide +kernel, rfl, by decide +kernel, by decide +kernel⟩
theorem ok_all_steps {P : Program} {w : World} {K : PySem.W.Frag} {mg : Str → Option Value} {base : Heap} (T : Tx K mg) : Ok P w K mg base CX0 6 204 ["program", "base"] (sp_all_steps K) := by
  refine ok0 5 (f_all_steps T) sc_all_steps (fun _ _ _ _ _ _ us hl => match us, hl with | [_, _], _ => rfl) (fun vs H Q E h => ?_) (fun cdv A outer sh H vs Q E room h => ?_)
  · obtain ⟨p, P, b, rfl, hP, W, hb, k⟩ := h
    rfl
  · obtain ⟨p, P, b, rfl, hP, W, hb, k⟩ := h
    refine ⟨_,     (pss_cons (ps_set (i := 2) sc_all_steps.nd rfl (Or.inr rfl) (pc (ok_page_signs (K := K) T) (room.mono (by decide)) rfl (g_page_signs T) pass0 (pa_cons (pv 0) (pa_cons (pv 1) pa_nil))))
        (pss_one (ps_ret (pe_lc (own := [("row", 3)]) rfl sc_all_steps.nd (pi_range1 rfl (n_range T) (pa_cons (pe_callB (call_lenK K) (by rfl) (n_len T) (by decide +kernel) (pa_cons (pv 0) pa_nil)) pa_nil)) (blkOk_by (N := ["program", "base", "signs", "row"]) (sc := defScope s_all_steps) (by decide +kernel)) (fun _ _ _ _ _ => (pg_name (i := 3) sc_all_steps.nd rfl (Or.inl rfl))) (fun _ _ _ _ _ => pts_nil) (fun _ _ _ _ _ => (pc (ok_steps_of (K := K) T) (room.mono (by decide)) rfl (g_steps_of T) pass0 (pa_cons (pv 0) (pa_cons (pv 2) (pa_cons (pv 3) pa_nil))))))))), ?_⟩
    show (_ : TS) _ [_, _, none, none] _
    have hz := W.len
    obtain ⟨xs, h1, h2, _⟩ := hP.each
    fail "bm_go"
    refine ⟨p, P, b, rfl, hP, W, hb, fun t H1 s1 ht hSg => ?_⟩
    fail "bm_go"
    rw [h2]
    refine lcN_r (n := (P.length : Int)) (R := fun i v H => ∃ d, v = .ref d ∧ StepAt K H d P b i) ⟨?_, ?_⟩ (by omega) (by omega) (fun i H2 hi s2 Rk R0 q => ?_) (fun D H2 ws hD s2 hd hw hr => ?_)
    · rintro i v H H' ⟨d, rfl, h⟩ s
      exact ⟨d, rfl, h.same s⟩
    · rintro i v H D xs ys ⟨d, rfl, h⟩ hD
      exact ⟨d, rfl, h.put hD⟩
    · have hi' : i < P.length := by omega
      fail "bm_turn"
      fail "bm_go"
      exact ⟨p, t, P, b, i, P[i], rfl, (hP.same s1).same s2, W, List.getElem?_eq_getElem hi', sqT_same s2 hSg, fun d H3 s3 _ hd => q _ _ s3 ⟨d, rfl, hd⟩⟩
    · refine k D H2 (s1.trans s2) (s1.free hD) ?_
      have hall : ∀ (n : Nat) (v : V), ws[n]? = some v → ∃ d, v = .ref d := fun n v h => by
        obtain ⟨d, e, _⟩ := hr n v h
        exact ⟨d, e⟩
      obtain ⟨ds, rfl⟩ : ∃ ds : List Addr, ws = ds.map V.ref := by
        clear hd hw hr
        induction ws with
        | nil => exact ⟨[], rfl⟩
        | cons w ws ih =>
          obtain ⟨d, rfl⟩ := hall 0 w rfl
          obtain ⟨ds, rfl⟩ := ih fun n v h => hall (n + 1) v (by simpa using h)
          exact ⟨d :: ds, rfl⟩
      refine ⟨ds, SqL.of hd, by rw [List.length_map] at hw; omega, fun i d hi => ?_⟩
      obtain ⟨d', e, h⟩ := hr i (.ref d) (by rw [List.getElem?_map, hi]; rfl)
      cases e
      exact h
def sp_are_ends (K : PySem.W.Frag) : Sp := fun vs H Q _ => ∃ (p : Addr) (P : List Row) (i j : Nat) (r q : Row), vs = [.ref p, .int i, .int j] ∧ PAt K H p P ∧ WF P ∧ P[i]? = some r ∧ P[j]? = some q ∧ decide (V.str r.d = V.str "wait") = false ∧ decide (V.str q.d = V.str "wait") = false ∧ i ≠ j ∧
  ∀ H', Same H H' → Q (.bl true) H'
theorem sc_are_ends : FnScope ["program", "one", "other", "bad", "row"] ["program", "one", "other"] (defScope s_are_ends) := ⟨rfl, rfl, rfl, by decide +kernel, rfl, by decide +kernel, by decide +kernel⟩
theorem ok_are_ends {P : Program} {w : World} {K : PySem.W.Frag} {mg : Str → Option Value} {base : Heap} (T : Tx K mg) : Ok P w K mg base CX0 2 209 ["program", "one", "other"] (sp_are_ends K) := by
  refine ok0 1 (f_are_ends T) sc_are_ends (fun _ _ _ _ _ _ us hl => match us, hl with | [_, _, _], _ => rfl) (fun vs H Q E h => ?_) (fun cdv A outer sh H vs Q E room h => ?_)
  · obtain ⟨p, P, i, j, r, q, rfl, hP, W, hr, hq, hrw, hqw, hij, k⟩ := h
    rfl
  · obtain ⟨p, P, i, j, r, q, rfl, hP, W, hr, hq, hrw, hqw, hij, k⟩ := h
    refine ⟨_,     (pss_cons (ps_setLc (i := 3) (own := [("row", 4)]) rfl sc_are_ends.nd rfl rfl (sw_true rfl rfl rfl (by decide +kernel)) (pi_tupK K (pe_tup (pa_cons (pv 1) (pa_cons (pv 2) pa_nil)))) (blkOk_by (N := ["program", "one", "other", "bad", "row"]) (sc := defScope s_are_ends) (by decide +kernel)) (fun _ _ _ _ _ => (pg_name (i := 4) sc_are_ends.nd rfl (Or.inl rfl))) (fun _ _ _ _ _ => (pts_one (PW.pt (pw_or (pt_val (pc (ok_is_wait (K := K) T) (room.mono (by decide)) rfl (g_is_wait T) pass0 (pa_cons (pv 0) (pa_cons (pv 4) pa_nil)))) (pw_or1 (pt_val (pc (ok_is_table (K := K) T) (room.mono (by decide)) rfl (g_is_table T) pass0 (pa_cons (pe_ix (ix_tupK K) (pv 0) (pv 4) (fun _ _ => rfl)) pa_nil)))))))) (fun _ _ _ _ _ => (pv 4)))
        (pss_one (ps_ret (pe_and (pe_cmpR op_ne (pv 1) (pv 2) (nomark _)) (pe_one (pe_cmpR op_eq (pe_callB (call_lenK K) (by rfl) (n_len T) (by decide +kernel) (pa_cons (pv 3) pa_nil)) pe_int (nomark _))))))), ?_⟩
    show (_ : TS) _ [_, _, _, none, none] _
    obtain ⟨xs, a, h1, h2, h3, h4⟩ := hP.at_ hr
    obtain ⟨xs', a', h1', h2', h3', h4'⟩ := hP.at_ hq
    fail "bm_go"
    intro u nu
    have s1 := same_new (o := .tup [.int (i : Int), .int (j : Int)]) nu
    refine lcT_f (xs := [.int (i : Int), .int (j : Int)]) (fun _ => false) (fun _ => .non) (SqT.of upd_same) (by simp) (fun n x H2 hx s2 R R0 q1 q0 => ?_) (fun D H2 hD s2 hD' => ?_)
    · have hx2 : ∃ (m : Nat) (rr : Row), x = .int (m : Int) ∧ P[m]? = some rr ∧ decide (V.str rr.d = V.str "wait") = false := by
        rcases List.mem_cons.mp (List.mem_of_getElem? hx) with rfl | hm
        · exact ⟨i, r, rfl, hr, hrw⟩
        · rw [List.mem_singleton.mp hm]
          exact ⟨j, q, rfl, hq, hqw⟩
      obtain ⟨m, rr, rfl, hm, hmw⟩ := hx2
      obtain ⟨ys, c, g1, g2, g3, _⟩ := ((hP.same s1).same s2).at_ hm
      fail "bm_turn"
      fail "bm_go"
      refine ⟨p, P, m, rr, rfl, (hP.same s1).same s2, hm, ?_⟩
      fail "bm_go"
      refine r_ifF hmw ?_
      fail "bm_go"
      refine ⟨c, rr, rfl, g3, ?_⟩
      fail "bm_go"
      refine r_ifF (W.ok m rr hm).ne_data ?_
      exact q0 rfl _ (Same.refl _)
    · fail "bm_go"
      refine r_ifT (by simp; omega) ?_
      fail "bm_go"
      exact k _ (s1.trans s2)
end
section
/-! ## C1: what shows at a place -/
def spPl (K : PySem.W.Frag) (R : (V → Hp → Prop) → Hp → Prop) : Sp := fun vs H Q _ => ∃ (t : Addr) (n : Nat), vs = [.ref t, .int n] ∧ IntT K H t 20 ∧ n < 48 ∧ R Q H
def anyB : (V → Hp → Prop) → Hp → Prop := fun Q H => ∀ b : Bool, Q (.bl b) H
def anyI : (V → Hp → Prop) → Hp → Prop := fun Q H => ∀ i : Int, Q (.int i) H
def anyIS : (V → Hp → Prop) → Hp → Prop := fun Q H => ∀ (i : Int) (H' : Hp), Same H H' → Q (.int i) H'
theorem sc_column_bit : FnScope ["doors", "place", "column"] ["doors", "place"] (defScope s_column_bit) := ⟨rfl, rfl, rfl, by decide +kernel, rfl, by decide +kernel, by decide +kernel⟩
theorem ok_column_bit {P : Program} {w : World} {K : PySem.W.Frag} {mg : Str → Option Value} {base : Heap} (T : Tx K mg) : Ok P w K mg base CX0 1 328 ["doors", "place"] (spPl K anyB) := by
  refine ok0 0 (f_column_bit T) sc_column_bit (fun _ _ _ _ _ _ us hl => match us, hl with | [_, _], _ => rfl) (fun vs H Q E h => ?_) (fun cdv A outer sh H vs Q E room h => ?_)
  · obtain ⟨t, n, rfl, ⟨ds, hl, hd⟩, hn, k⟩ := h
    rfl
  · obtain ⟨t, n, rfl, ⟨ds, hl, hd⟩, hn, k⟩ := h
    refine ⟨_,     (pss_cons (ps_set (i := 2) sc_column_bit.nd rfl (Or.inl rfl) (pe_op op_fdiv (pv 1) pe_int))
        (pss_one (ps_ret (pe_cmpR op_eq (pe_op op_mod (pe_op op_fdiv (pe_ix (ix_tupK K) (pv 0) (pe_op op_add pe_int (pe_op op_fdiv (pv 2) pe_int)) (fun _ _ => rfl)) (pe_ix (ix_tupK K) (pgr (g_BITS T) rfl) (pe_op op_mod (pv 2) pe_int) (fun _ _ => rfl))) pe_int) pe_int (nomark _))))), ?_⟩
    show (_ : TS) _ [_, _, none] _
    obtain ⟨d, h1⟩ := atI_ints (ds := ds) (i := 4 + (n : Int) / 2 / 8) (by omega) (by omega)
    obtain ⟨c, h2, h3, h4⟩ := bits_at (i := (n : Int) / 2 % 8) (by omega) (by omega)
    fail "bm_go"
    exact k _
def sp_thing_shows (K : PySem.W.Frag) : Sp := fun vs H Q _ => ∃ (t : Addr) (w n : Nat), vs = [.ref t, .int w, .int n] ∧ IntT K H t 20 ∧ w < 2 ∧ n < 48 ∧ anyB Q H
theorem sc_thing_shows : FnScope ["doors", "which", "place", "k", "number"] ["doors", "which", "place"] (defScope s_thing_shows) := ⟨rfl, rfl, rfl, by decide +kernel, rfl, by decide +kernel, by decide +kernel⟩
theorem ok_thing_shows {P : Program} {w : World} {K : PySem.W.Frag} {mg : Str → Option Value} {base : Heap} (T : Tx K mg) : Ok P w K mg base CX0 1 335 ["doors", "which", "place"] (sp_thing_shows K) := by
  refine ok0 0 (f_thing_shows T) sc_thing_shows (fun _ _ _ _ _ _ us hl => match us, hl with | [_, _, _], _ => rfl) (fun vs H Q E h => ?_) (fun cdv A outer sh H vs Q E room h => ?_)
  · obtain ⟨t, w, n, rfl, ⟨ds, hl, hd⟩, hw, hn, k⟩ := h
    rfl
  · obtain ⟨t, w, n, rfl, ⟨ds, hl, hd⟩, hw, hn, k⟩ := h
    refine ⟨_,     (pss_cons (ps_for PassesOwn.never rfl (pi_range1 rfl (n_range T) (pa_cons (pe_op op_add (pe_op op_mod (pe_ix (ix_tupK K) (pv 0) (pe_op op_add pe_int (pv 1)) (fun _ _ => rfl)) pe_int) pe_int) pa_nil)) (pg_name (i := 3) sc_thing_shows.nd rfl (Or.inl rfl))
          (pss_cons (ps_set (i := 4) sc_thing_shows.nd rfl (Or.inl rfl) (pe_op op_mod (pe_op op_sub (pe_op op_sub (pv 2) (pe_ix (ix_tupK K) (pv 0) (pe_op op_add pe_int (pv 1)) (fun _ _ => rfl))) (pe_op op_mul (pgi (i_APART T) rfl) (pv 3))) (pgi (i_PLACES T) rfl)))
          (pss_one (ps_if (PW.pt (pw_and (pt_cmpR op_lt (pv 4) (pgi (i_WIDTH T) rfl) (nomark _)) (pw_and1 (pt_cmpR op_eq (pe_op op_mod (pe_op op_fdiv (pe_ix (ix_tupK K) (pv 0) (pe_op op_add pe_int (pv 1)) (fun _ _ => rfl)) (pe_ix (ix_tupK K) (pgr (g_BITS T) rfl) (pv 4) (fun _ _ => rfl))) pe_int) pe_int (nomark _)))))
            (pss_one (ps_ret pe_bl)) pss_nil))))
        (pss_one (ps_ret pe_bl))), ?_⟩
    show (_ : TS) _ [_, _, _, none, none] _
    obtain ⟨d1, h1⟩ := atI_ints (ds := ds) (i := 14 + (w : Int)) (by omega) (by omega)
    obtain ⟨d2, h2⟩ := atI_ints (ds := ds) (i := 8 + (w : Int)) (by omega) (by omega)
    obtain ⟨d3, h3⟩ := atI_ints (ds := ds) (i := 10 + (w : Int)) (by omega) (by omega)
    fail "bm_go"
    have hm := Int.emod_lt_of_pos d1 (show (0 : Int) < 4 by omega)
    have hm0 := Int.emod_nonneg d1 (show (4 : Int) ≠ 0 by omega)
    refine forN (fun i σ H' => H' = H ∧ ∃ o1 o2, σ = [some (.ref t), some (.int w), some (.int n), o1, o2]) (by omega) (by omega) ⟨rfl, none, none, rfl⟩ (fun i σ H' hi q => ?_) (fun σ H' q => ?_)
    · obtain ⟨rfl, o1, o2, rfl⟩ := q
      fail "bm_go"
      refine r_ifD (fun hlt => ?_) (fun hlt => ?_)
      · obtain ⟨c, g2, g3, g4⟩ := bits_at (i := ((n : Int) - d2 - 16 * (i : Int)) % 48) (Int.emod_nonneg _ (by omega)) hlt
        fail "bm_go"
        refine r_ifD (fun _ => ?_) (fun _ => ?_)
        · fail "bm_go"
          exact k _
        · fail "bm_go"
          exact ⟨rfl, _, _, rfl⟩
      · fail "bm_go"
        exact ⟨rfl, _, _, rfl⟩
    · obtain ⟨rfl, o1, o2, rfl⟩ := q
      fail "bm_go"
      exact k _
theorem sc_ball_shows : FnScope ["doors", "place"] ["doors", "place"] (defScope s_ball_shows) := ⟨rfl, rfl, rfl, by decide +kernel, rfl, by decide +kernel, by decide +kernel⟩
theorem ok_ball_shows {P : Program} {w : World} {K : PySem.W.Frag} {mg : Str → Option Value} {base : Heap} (T : Tx K mg) : Ok P w K mg base CX0 1 342 ["doors", "place"] (spPl K anyB) := by
  refine ok0 0 (f_ball_shows T) sc_ball_shows (fun _ _ _ _ _ _ us hl => match us, hl with | [_, _], _ => rfl) (fun vs H Q E h => ?_) (fun cdv A outer sh H vs Q E room h => ?_)
  · obtain ⟨t, n, rfl, ⟨ds, hl, hd⟩, hn, k⟩ := h
    rfl
  · obtain ⟨t, n, rfl, ⟨ds, hl, hd⟩, hn, k⟩ := h
    refine ⟨_,     (pss_one (ps_ret (pe_cmpR op_lt (pe_op op_mod (pe_op op_sub (pv 1) (pe_ix (ix_tupK K) (pv 0) pe_int (fun _ _ => rfl))) (pgi (i_PLACES T) rfl)) (pe_callB (call_minN rfl) (by rfl) (n_min T) (by decide +kernel) (pa_cons (pe_ix (ix_tupK K) (pv 0) pe_int (fun _ _ => rfl)) (pa_cons (pgi (i_WIDTH T) rfl) pa_nil))) (nomark _)))), ?_⟩
    show (_ : TS) _ [_, _] _
    obtain ⟨d1, h1⟩ := atI_ints (ds := ds) (i := 16) (by omega) (by omega)
    obtain ⟨d2, h2⟩ := atI_ints (ds := ds) (i := 17) (by omega) (by omega)
    fail "bm_go"
    exact k _
theorem sc_shows : FnScope ["doors", "place", "things"] ["doors", "place"] (defScope s_shows) := ⟨rfl, rfl, rfl, by decide +kernel, rfl, by decide +kernel, by decide +kernel⟩
theorem ok_shows {P : Program} {w : World} {K : PySem.W.Frag} {mg : Str → Option Value} {base : Heap} (T : Tx K mg) : Ok P w K mg base CX0 2 349 ["doors", "place"] (spPl K (fun Q H => ∀ (t : Addr) (H' : Hp) (b1 b2 b3 b4 : Bool), Same H H' → SqT K H' t [.bl b1, .bl b2, .bl b3, .bl b4] → Q (.ref t) H')) := by
  refine ok0 1 (f_shows T) sc_shows (fun _ _ _ _ _ _ us hl => match us, hl with | [_, _], _ => rfl) (fun vs H Q E h => ?_) (fun cdv A outer sh H vs Q E room h => ?_)
  · obtain ⟨t, n, rfl, hd, hn, k⟩ := h
    rfl
  · obtain ⟨t, n, rfl, hd, hn, k⟩ := h
    refine ⟨_,     (pss_cons (ps_set (i := 2) sc_shows.nd rfl (Or.inl rfl) (pe_tup (pa_cons (pc (ok_thing_shows (K := K) T) (room.mono (by decide)) rfl (g_thing_shows T) pass0 (pa_cons (pv 0) (pa_cons pe_int (pa_cons (pv 1) pa_nil)))) (pa_cons (pc (ok_thing_shows (K := K) T) (room.mono (by decide)) rfl (g_thing_shows T) pass0 (pa_cons (pv 0) (pa_cons pe_int (pa_cons (pv 1) pa_nil)))) pa_nil))))
        (pss_one (ps_ret (pe_op (op_catK K) (pv 2) (pe_tup (pa_cons (pc (ok_ball_shows (K := K) T) (room.mono (by decide)) rfl (g_ball_shows T) pass0 (pa_cons (pv 0) (pa_cons (pv 1) pa_nil))) (pa_cons (pc (ok_column_bit (K := K) T) (room.mono (by decide)) rfl (g_column_bit T) pass0 (pa_cons (pv 0) (pa_cons (pv 1) pa_nil))) pa_nil))))))), ?_⟩
    show (_ : TS) _ [_, _, none] _
    fail "bm_go"
    refine ⟨t, 0, n, rfl, hd, by omega, hn, fun b1 => ?_⟩
    fail "bm_go"
    refine ⟨t, 1, n, rfl, hd, by omega, hn, fun b2 => ?_⟩
    fail "bm_go"
    intro u nu
    have hd2 := hd.im (Im.new (o := .tup [.bl b1, .bl b2]) nu)
    fail "bm_go"
    refine ⟨t, n, rfl, hd2, hn, fun b3 => ?_⟩
    fail "bm_go"
    refine ⟨t, n, rfl, hd2, hn, fun b4 => ?_⟩
    fail "bm_go"
    intro u2 nu2
    fail "bm_go"
    intro u3 nu3
    exact k u3 _ b1 b2 b3 b4 (same_mut (same_mut (same_new nu) (none_upd nu2)) (none_upd (none_upd nu3))) (SqT.of upd_same)
theorem sc_wall_colour : FnScope ["doors", "place"] ["doors", "place"] (defScope s_wall_colour) := ⟨rfl, rfl, rfl, by decide +kernel, rfl, by decide +kernel, by decide +kernel⟩
theorem ok_wall_colour {P : Program} {w : World} {K : PySem.W.Frag} {mg : Str → Option Value} {base : Heap} (T : Tx K mg) : Ok P w K mg base CX0 1 356 ["doors", "place"] (spPl K anyI) := by
  refine ok0 0 (f_wall_colour T) sc_wall_colour (fun _ _ _ _ _ _ us hl => match us, hl with | [_, _], _ => rfl) (fun vs H Q E h => ?_) (fun cdv A outer sh H vs Q E room h => ?_)
  · obtain ⟨t, n, rfl, ⟨ds, hl, hd⟩, hn, k⟩ := h
    rfl
  · obtain ⟨t, n, rfl, ⟨ds, hl, hd⟩, hn, k⟩ := h
    refine ⟨_,     (pss_cons (ps_if (pt_cmpR op_eq (pe_op op_mod (pe_ix (ix_tupK K) (pv 0) pe_int (fun _ _ => rfl)) pe_int) pe_int (nomark _))
          (pss_one (ps_ret (pe_ix (ix_tupK K) (pv 0) pe_int (fun _ _ => rfl)))) pss_nil)
        (pss_cons (ps_if (pt_cmpR op_lt (pv 1) (pgi (i_HALF T) rfl) (nomark _))
          (pss_one (ps_ret (pe_ix (ix_tupK K) (pv 0) pe_int (fun _ _ => rfl)))) pss_nil)
        (pss_one (ps_ret (pe_ix (ix_tupK K) (pv 0) pe_int (fun _ _ => rfl)))))), ?_⟩
    show (_ : TS) _ [_, _] _
    obtain ⟨d1, h1⟩ := atI_ints (ds := ds) (i := 7) (by omega) (by omega)
    obtain ⟨d2, h2⟩ := atI_ints (ds := ds) (i := 3) (by omega) (by omega)
    obtain ⟨d3, h3⟩ := atI_ints (ds := ds) (i := 12) (by omega) (by omega)
    obtain ⟨d4, h4⟩ := atI_ints (ds := ds) (i := 13) (by omega) (by omega)
    fail "bm_all"
    all_goals exact k _
theorem sc_colour : FnScope ["doors", "place", "one", "two", "ball", "wall", "side", "parts", "is_seen", "tint"] ["doors", "place"] (defScope s_colour) := ⟨rfl, rfl, rfl, by decide +kernel, rfl, by decide +kernel, by decide +kernel⟩
theorem ok_colour {P : Program} {w : World} {K : PySem.W.Frag} {mg : Str → Option Value} {base : Heap} (T : Tx K mg) : Ok P w K mg base CX0 3 363 ["doors", "place"] (spPl K anyIS) := by
  refine ok0 2 (f_colour T) sc_colour (fun _ _ _ _ _ _ us hl => match us, hl with | [_, _], _ => rfl) (fun vs H Q E h => ?_) (fun cdv A outer sh H vs Q E room h => ?_)
  · obtain ⟨t, n, rfl, hT, hn, k⟩ := h
    rfl
  · obtain ⟨t, n, rfl, hT, hn, k⟩ := h
    refine ⟨_,     (pss_cons (ps_if (pt_cmpR op_ne (pe_ix (ix_tupK K) (pv 0) pe_int (fun _ _ => rfl)) pe_int (nomark _))
          (pss_one (ps_ret pe_int)) pss_nil)
        (pss_cons (ps_asg (pc (ok_shows (K := K) T) (room.mono (by decide)) rfl (g_shows T) pass0 (pa_cons (pv 0) (pa_cons (pv 1) pa_nil))) (pg_tupK K (n := 4) rfl (pgs_cons (pg_name (i := 2) sc_colour.nd rfl (Or.inl rfl)) (pgs_cons (pg_name (i := 3) sc_colour.nd rfl (Or.inl rfl)) (pgs_cons (pg_name (i := 4) sc_colour.nd rfl (Or.inl rfl)) (pgs_cons (pg_name (i := 5) sc_colour.nd rfl (Or.inl rfl)) pgs_nil))))))
        (pss_cons (ps_set (i := 6) sc_colour.nd rfl (Or.inl rfl) (pc (ok_wall_colour (K := K) T) (room.mono (by decide)) rfl (g_wall_colour T) pass0 (pa_cons (pv 0) (pa_cons (pv 1) pa_nil))))
        (pss_cons (ps_set (i := 7) sc_colour.nd rfl (Or.inl rfl) (pe_lst (pa_cons (pe_tup (pa_cons (pv 2) (pa_cons (pe_ix (ix_tupK K) (pv 0) pe_int (fun _ _ => rfl)) pa_nil))) (pa_cons (pe_tup (pa_cons (pv 3) (pa_cons (pe_ix (ix_tupK K) (pv 0) pe_int (fun _ _ => rfl)) pa_nil))) (pa_cons (pe_tup (pa_cons (pv 4) (pa_cons (pv 6) pa_nil))) (pa_cons (pe_tup (pa_cons (pv 5) (pa_cons (pv 6) pa_nil))) pa_nil))))))
        (pss_cons (ps_if (pt_cmpR op_eq (pe_op op_mod (pe_op op_fdiv (pe_ix (ix_tupK K) (pv 0) pe_int (fun _ _ => rfl)) pe_int) pe_int) pe_int (nomark _))
          (pss_one (ps_set (i := 7) sc_colour.nd rfl (Or.inl rfl) (pe_lst (pa_cons (pe_ix (ix_listK K) (pv 7) pe_int (fun _ _ => rfl)) (pa_cons (pe_ix (ix_listK K) (pv 7) pe_int (fun _ _ => rfl)) (pa_cons (pe_ix (ix_listK K) (pv 7) pe_int (fun _ _ => rfl)) (pa_cons (pe_ix (ix_listK K) (pv 7) pe_int (fun _ _ => rfl)) pa_nil))))))) pss_nil)
        (pss_cons (ps_for PassesOwn.never rfl (pi_listK K (pv 7)) (pg_tupK K (n := 2) rfl (pgs_cons (pg_name (i := 8) sc_colour.nd rfl (Or.inl rfl)) (pgs_cons (pg_name (i := 9) sc_colour.nd rfl (Or.inl rfl)) pgs_nil)))
          (pss_one (ps_if (pt_val (pv 8))
            (pss_one (ps_ret (pv 9))) pss_nil)))
        (pss_one (ps_ret (pe_ix (ix_tupK K) (pv 0) pe_int (fun _ _ => rfl)))))))))), ?_⟩
    show (_ : TS) _ [_, _, none, none, none, none, none, none, none, none] _
    obtain ⟨ds, hl, hd⟩ := id hT
    obtain ⟨d1, h1⟩ := atI_ints (ds := ds) (i := 1) (by omega) (by omega)
    obtain ⟨d2, h2⟩ := atI_ints (ds := ds) (i := 2) (by omega) (by omega)
    obtain ⟨d7, h7⟩ := atI_ints (ds := ds) (i := 7) (by omega) (by omega)
    obtain ⟨d12, h12⟩ := atI_ints (ds := ds) (i := 12) (by omega) (by omega)
    obtain ⟨d13, h13⟩ := atI_ints (ds := ds) (i := 13) (by omega) (by omega)
    fail "bm_go"
    refine r_ifN (fun _ => ?_) (fun _ => ?_)
    · fail "bm_go"
      exact k _ _ (Same.refl _)
    fail "bm_go"
    refine ⟨t, n, rfl, hT, hn, fun u H1 b1 b2 b3 b4 s1 hu => ?_⟩
    have hd1 := sqT_same s1 hd
    fail "bm_go"
    refine ⟨t, n, rfl, hT.im (im_of s1), hn, fun side => ?_⟩
    fail "bm_go"
    intro t1 n1
    fail "bm_go"
    intro t2 n2
    fail "bm_go"
    intro t3 n3
    fail "bm_go"
    intro t4 n4
    fail "bm_go"
    intro l n5
    fail "bm_go"
    have loop : ∀ (l : Addr) (ws : List V) (H2 : Hp) (D : Ends), Same H H2 → H2 l = some (.lst ws) → (∀ w ∈ ws, ∃ (b : Bool) (c : Int), TupV K [.bl b, .int c] w H2) → D.rt = Q → (∀ o1 o2, D.nx [some (.ref t), some (.int n), some (.bl b1), some (.bl b2), some (.bl b3), some (.bl b4), some (.int side), some (.ref l), o1, o2] H2) →
        ForL K (gTup K 2 (gCons (gName 8) (gCons (gName 9) gNil))) (tIfS (tB (tVar 8)) (tRet (tVar 9)) tNext) D [some (.ref t), some (.int n), some (.bl b1), some (.bl b2), some (.bl b3), some (.bl b4), some (.int side), some (.ref l), none, none] (.ref l) H2 := fun l ws H2 D s hl hw hQ hD => by
      refine forL (xs := ws) (fun i σ H' => H' = H2 ∧ ∃ o1 o2, σ = [some (.ref t), some (.int n), some (.bl b1), some (.bl b2), some (.bl b3), some (.bl b4), some (.int side), some (.ref l), o1, o2]) (SqL.of hl) ⟨rfl, none, none, rfl⟩ (fun i σ H' _ q => by rw [q.1]; exact SqL.of hl) (fun i x σ H' hx q => ?_) (fun σ H' q => ?_)
      · obtain ⟨rfl, o1, o2, rfl⟩ := q
        obtain ⟨b, c, y, rfl, hy⟩ := hw x (List.mem_of_getElem? hx)
        fail "bm_go"
        refine r_ifB (fun _ => ?_) (fun _ => ?_)
        · fail "bm_go"
          rw [hQ]
          exact k _ _ s
        · fail "bm_go"
          exact ⟨rfl, _, _, rfl⟩
      · obtain ⟨rfl, o1, o2, rfl⟩ := q
        exact hD _ _
    have e1 := none_upd n5
    have e2 := none_upd e1
    have e3 := none_upd e2
    have e4 := none_upd e3
    have sA := same_mut (o := .lst [V.ref t1, V.ref t2, V.ref t3, V.ref t4]) (same_mut (o := .tup [.bl b4, .int side]) (same_mut (o := .tup [.bl b3, .int side]) (same_mut (o := .tup [.bl b2, .int d13]) (same_mut (o := .tup [.bl b1, .int d12]) s1 (s1.free n1)) (s1.free (none_upd n2))) (s1.free (none_upd (none_upd n3)))) (s1.free (none_upd (none_upd (none_upd n4))))) (s1.free e4)
    refine r_ifD (fun _ => ?_) (fun _ => ?_)
    · fail "bm_go"
      intro l2 n6
      fail "bm_go"
      have f1 : SqT K H1 t (ds.map V.int) := hd1
      refine loop l2 [.ref t4, .ref t3, .ref t1, .ref t2] _ _ (same_mut sA (sA.free n6)) upd_same ?_ ?_ ?_
      · intro w hw
        simp only [List.mem_cons, List.not_mem_nil, or_false] at hw
        rcases hw with rfl | rfl | rfl | rfl
        · exact ⟨_, _, _, rfl, by fail "bm_sq"⟩
        · exact ⟨_, _, _, rfl, by fail "bm_sq"⟩
        · exact ⟨_, _, _, rfl, by fail "bm_sq"⟩
        · exact ⟨_, _, _, rfl, by fail "bm_sq"⟩
      · rfl
      · intro o1 o2
        fail "bm_go"
        exact k _ _ (same_mut sA (sA.free n6))
    · fail "bm_go"
      refine loop l [.ref t1, .ref t2, .ref t3, .ref t4] _ _ sA upd_same ?_ ?_ ?_
      · intro w hw
        simp only [List.mem_cons, List.not_mem_nil, or_false] at hw
        rcases hw with rfl | rfl | rfl | rfl
        · exact ⟨_, _, _, rfl, by fail "bm_sq"⟩
        · exact ⟨_, _, _, rfl, by fail "bm_sq"⟩
        · exact ⟨_, _, _, rfl, by fail "bm_sq"⟩
        · exact ⟨_, _, _, rfl, by fail "bm_sq"⟩
      · rfl
      · intro o1 o2
        fail "bm_go"
        exact k _ _ sA
theorem sc_meetings : FnScope ["doors", "place", "one", "two", "ball", "wall", "found"] ["doors", "place"] (defScope s_meetings) := ⟨rfl, rfl, rfl, by decide +kernel, rfl, by decide +kernel, by decide +kernel⟩
theorem ok_meetings {P : Program} {w : World} {K : PySem.W.Frag} {mg : Str → Option Value} {base : Heap} (T : Tx K mg) : Ok P w K mg base CX0 3 370 ["doors", "place"] (spPl K anyIS) := by
  refine ok0 2 (f_meetings T) sc_meetings (fun _ _ _ _ _ _ us hl => match us, hl with | [_, _], _ => rfl) (fun vs H Q E h => ?_) (fun cdv A outer sh H vs Q E room h => ?_)
  · obtain ⟨t, n, rfl, hT, hn, k⟩ := h
    rfl
  · obtain ⟨t, n, rfl, hT, hn, k⟩ := h
    refine ⟨_,     (pss_cons (ps_if (pt_cmpR op_ne (pe_ix (ix_tupK K) (pv 0) pe_int (fun _ _ => rfl)) pe_int (nomark _))
          (pss_one (ps_ret pe_int)) pss_nil)
        (pss_cons (ps_asg (pc (ok_shows (K := K) T) (room.mono (by decide)) rfl (g_shows T) pass0 (pa_cons (pv 0) (pa_cons (pv 1) pa_nil))) (pg_tupK K (n := 4) rfl (pgs_cons (pg_name (i := 2) sc_meetings.nd rfl (Or.inl rfl)) (pgs_cons (pg_name (i := 3) sc_meetings.nd rfl (Or.inl rfl)) (pgs_cons (pg_name (i := 4) sc_meetings.nd rfl (Or.inl rfl)) (pgs_cons (pg_name (i := 5) sc_meetings.nd rfl (Or.inl rfl)) pgs_nil))))))
        (pss_cons (ps_set (i := 6) sc_meetings.nd rfl (Or.inl rfl) (pe_op op_add (pe_op op_add (pe_callTy call_intN (by rfl) (n_int T) (by decide +kernel) (pa_cons (pe_and (pv 2) (pe_one (pv 3))) pa_nil)) (pe_op op_mul pe_int (pe_callTy call_intN (by rfl) (n_int T) (by decide +kernel) (pa_cons (pe_and (pv 2) (pe_one (pv 5))) pa_nil)))) (pe_op op_mul pe_int (pe_callTy call_intN (by rfl) (n_int T) (by decide +kernel) (pa_cons (pe_and (pv 3) (pe_one (pv 5))) pa_nil)))))
        (pss_one (ps_ret (pe_op op_add (pe_op op_add (pe_op op_add (pv 6) (pe_op op_mul pe_int (pe_callTy call_intN (by rfl) (n_int T) (by decide +kernel) (pa_cons (pe_and (pv 2) (pe_one (pv 4))) pa_nil)))) (pe_op op_mul pe_int (pe_callTy call_intN (by rfl) (n_int T) (by decide +kernel) (pa_cons (pe_and (pv 3) (pe_one (pv 4))) pa_nil)))) (pe_op op_mul pe_int (pe_callTy call_intN (by rfl) (n_int T) (by decide +kernel) (pa_cons (pe_and (pv 4) (pe_one (pv 5))) pa_nil))))))))), ?_⟩
    show (_ : TS) _ [_, _, none, none, none, none, none] _
    obtain ⟨ds, hl, hd⟩ := id hT
    obtain ⟨d1, h1⟩ := atI_ints (ds := ds) (i := 1) (by omega) (by omega)
    fail "bm_go"
    refine r_ifN (fun _ => ?_) (fun _ => ?_)
    · fail "bm_go"
      exact k _ _ (Same.refl _)
    fail "bm_go"
    refine ⟨t, n, rfl, hT, hn, fun u H1 b1 b2 b3 b4 s1 hu => ?_⟩
    fail "bm_go"
    cases b1 <;> cases b2 <;> cases b3 <;> cases b4
    all_goals
      fail "bm_go"
      exact k _ _ s1
def sp_start (K : PySem.W.Frag) : Sp := fun vs H Q _ => ∃ v, vs = [v] ∧ ∀ (t m d : Addr) (H' : Hp), Same H H' → IntT K H' m 16 → IntT K H' d 20 → SqT K H' t [.int 0, .int 0, .int 0, .int 1, .int 0, .ref m, .ref d, .int 0, .int 0, .int 0, .int 0, .int 0] → Q (.ref t) H'
theorem sc_start : FnScope ["program"] ["program"] (defScope s_start) := ⟨rfl, rfl, rfl, by decide +kernel, rfl, by decide +kernel, by decide +kernel⟩
theorem ok_start {P : Program} {w : World} {K : PySem.W.Frag} {mg : Str → Option Value} {base : Heap} (T : Tx K mg) : Ok P w K mg base CX0 1 377 ["program"] (sp_start K) := by
  refine ok0 0 (f_start T) sc_start (fun _ _ _ _ _ _ us hl => match us, hl with | [_], _ => rfl) (fun vs H Q E h => ?_) (fun cdv A outer sh H vs Q E room h => ?_)
  · obtain ⟨v, rfl, k⟩ := h
    rfl
  · obtain ⟨v, rfl, k⟩ := h
    refine ⟨_,     (pss_one (ps_ret (pe_tup (pa_cons pe_int (pa_cons pe_int (pa_cons pe_int (pa_cons pe_int (pa_cons pe_int (pa_cons (pe_op (op_repK K) (pe_tup (pa_cons pe_int pa_nil)) (pgi (i_MEMORY_states T) rfl)) (pa_cons (pe_op (op_repK K) (pe_tup (pa_cons pe_int pa_nil)) (pgi (i_DOORS T) rfl)) (pa_cons pe_int (pa_cons pe_int (pa_cons pe_int (pa_cons pe_int (pa_cons pe_int pa_nil))))))))))))))), ?_⟩
    show (_ : TS) _ [_] _
    fail "bm_go"
    intro t1 n1
    fail "bm_go"
    refine r_rep (SqT.of upd_same) (by simp) (by omega) (by omega) (by simp) fun m n2 => ?_
    fail "bm_go"
    intro t2 n3
    fail "bm_go"
    refine r_rep (SqT.of upd_same) (by simp) (by omega) (by omega) (by simp) fun d n4 => ?_
    fail "bm_go"
    intro t n5
    have e4 := none_upd n5
    have e3 := none_upd e4
    refine k t m d _ (same_mut (same_mut (same_mut (same_mut (same_new n1) (none_upd n2)) (none_upd (none_upd n3))) (none_upd (none_upd (none_upd n4)))) (none_upd (none_upd e3))) ⟨List.replicate 16 0, rfl, ?_⟩ ⟨List.replicate 20 0, rfl, ?_⟩ (SqT.of upd_same)
    · exact SqT.of (gN n5 (gN n4 (gN n3 upd_same)))
    · exact SqT.of (gN n5 upd_same)
def sp_drawn_in (K : PySem.W.Frag) : Sp := fun vs H Q _ => ∃ n : Nat, vs = [.int n] ∧ n < 32 ∧ ∀ (v : V) (ns : List Nat) (H' : Hp), Same H H' → ns.length ≤ 2 → (∀ m ∈ ns, m < 48) → TupV K (ns.map fun (m : Nat) => V.int (m : Int)) v H' → Q v H'
theorem sc_drawn_in : FnScope ["beat"] ["beat"] (defScope s_drawn_in) := ⟨rfl, rfl, rfl, by decide +kernel, rfl, by decide +kernel, by decide +kernel⟩
theorem ok_drawn_in {P : Program} {w : World} {K : PySem.W.Frag} {mg : Str → Option Value} {base : Heap} (T : Tx K mg) : Ok P w K mg base CX0 1 391 ["beat"] (sp_drawn_in K) := by
  refine ok0 0 (f_drawn_in T) sc_drawn_in (fun _ _ _ _ _ _ us hl => match us, hl with | [_], _ => rfl) (fun vs H Q E h => ?_) (fun cdv A outer sh H vs Q E room h => ?_)
  · obtain ⟨n, rfl, hn, k⟩ := h
    rfl
  · obtain ⟨n, rfl, hn, k⟩ := h
    refine ⟨_,     (pss_cons (ps_if (pt_cmpR op_lt (pv 0) (pgi (i_DARK T) rfl) (nomark _))
          (pss_one (ps_ret (pe_tup pa_nil))) pss_nil)
        (pss_one (ps_ret (pe_tup (pa_cons (pe_op op_mul pe_int (pe_op op_sub (pv 0) (pgi (i_DARK T) rfl))) (pa_cons (pe_op op_add (pe_op op_mul pe_int (pe_op op_sub (pv 0) (pgi (i_DARK T) rfl))) pe_int) pa_nil)))))), ?_⟩
    show (_ : TS) _ [_] _
    fail "bm_go"
    refine r_ifD (fun h => ?_) (fun h => ?_)
    · fail "bm_go"
      intro t nt
      exact k _ [] _ (same_new nt) (by simp) (by simp) ⟨t, rfl, SqT.of upd_same⟩
    · fail "bm_go"
      intro t nt
      refine k _ [2 * (n - 8), 2 * (n - 8) + 1] _ (same_new nt) (by simp) (by simp; omega) ⟨t, rfl, SqT.of ?_⟩
      rw [upd_same]
      have : ((n - 8 : Nat) : Int) = (n : Int) - 8 := by omega
      simp [this]
def sp_hands_of (K : PySem.W.Frag) : Sp := fun vs H Q _ => ∃ (t : Addr) (n : Nat) (xs : List V), vs = [.ref t, .int n] ∧ SqT K H t xs ∧ (∀ x ∈ xs, ∃ u, x = .ref u ∧ IntT K H u 3) ∧ ∀ u, IntT K H u 3 → Q (.ref u) H
theorem sc_hands_of : FnScope ["tale", "number"] ["tale", "number"] (defScope s_hands_of) := ⟨rfl, rfl, rfl, by decide +kernel, rfl, by decide +kernel, by decide +kernel⟩
theorem ok_hands_of {P : Program} {w : World} {K : PySem.W.Frag} {mg : Str → Option Value} {base : Heap} (T : Tx K mg) : Ok P w K mg base CX0 1 647 ["tale", "number"] (sp_hands_of K) := by
  refine ok0 0 (f_hands_of T) sc_hands_of (fun _ _ _ _ _ _ us hl => match us, hl with | [_, _], _ => rfl) (fun vs H Q E h => ?_) (fun cdv A outer sh H vs Q E room h => ?_)
  · obtain ⟨t, n, xs, rfl, ht, hx, k⟩ := h
    rfl
  · obtain ⟨t, n, xs, rfl, ht, hx, k⟩ := h
    refine ⟨_,     (pss_cons (ps_if (pt_cmpR op_lt (pv 1) (pe_callB (call_lenK K) (by rfl) (n_len T) (by decide +kernel) (pa_cons (pv 0) pa_nil)) (nomark _))
          (pss_one (ps_ret (pe_ix (ix_tupK K) (pv 0) (pv 1) (fun _ _ => rfl)))) pss_nil)
        (pss_one (ps_ret (pgr (g_STILL T) rfl)))), ?_⟩
    show (_ : TS) _ [_, _] _
    fail "bm_go"
    refine r_ifD (fun h => ?_) (fun h => ?_)
    · have hn : n < xs.length := by omega
      obtain ⟨u, hu, h3⟩ := hx xs[n] (List.getElem_mem _)
      have l1 : atI xs (n : Int) = some (.ref u) := atI_nat (by rw [List.getElem?_eq_getElem hn, hu])
      fail "bm_go"
      exact k _ h3
    · fail "bm_go"
      exact k _ ⟨[0, 0, 0], rfl, tx_tup T rfl _⟩
end
section
/-! ## D1: Registers -/
/-! slices and joins, whatever the parts -/
section
variable {K : PySem.W.Frag} {a b : Addr} {xs ys : List V} {lo hi : Option Int} {H : Hp} {Q : VK}
theorem cutV_whole (h : HT.sIx xs.length 0 lo = 0 ∧ HT.sIx xs.length xs.length hi = xs.length) : cutV xs lo hi = xs := by
  unfold cutV
  rw [h.1, h.2]
  simp
theorem r_slG (h : SqT K H a xs) (q : ∀ p H', Same H H' → SqT K H' p (cutV xs lo hi) → Q (.ref p) H') : rSlA K (.ref a) lo hi H Q :=
  ⟨a, xs, rfl, h, fun w => q a H (Same.refl _) (by rw [cutV_whole w]; exact h), fun _ p np => q p _ (same_new np) (SqT.of upd_same)⟩
theorem r_catG (hx : SqT K H a xs) (hy : SqT K H b ys) (hl : xs.length + ys.length ≤ 100000) (q : ∀ p H', Same H H' → SqT K H' p (xs ++ ys) → Q (.ref p) H') : rCatA K (.ref a) (.ref b) H Q :=
  ⟨a, b, xs, ys, rfl, rfl, hx, hy, sz hl, fun e => q b H (Same.refl _) (by rw [e]; exact hy), fun _ e => q a H (Same.refl _) (by rw [e, List.append_nil]; exact hx), fun _ _ p np => q p _ (same_new np) (SqT.of upd_same)⟩
theorem cutV_to (n : Nat) : cutV xs none (some (n : Int)) = xs.take n := by
  unfold cutV
  rw [HT.sIx_none, HT.sIx_nat]
  simp only [List.drop_zero, Nat.sub_zero]
  rw [List.take_eq_take_iff]
  omega
theorem cutV_from (n : Nat) : cutV xs (some (n : Int)) none = xs.drop n := by
  unfold cutV
  rw [HT.sIx_none, HT.sIx_nat]
  by_cases h : n ≤ xs.length
  · rw [Nat.min_eq_left h, List.take_of_length_le (by rw [List.length_drop]; omega)]
  · rw [Nat.min_eq_right (by omega), List.drop_eq_nil_of_le (Nat.le_refl _), List.drop_eq_nil_of_le (by omega)]
    simp
end
def RgAt (K : PySem.W.Frag) (H : Hp) (p : Addr) (a x z c : Int) (m : Addr) : Prop := (∃ dx, H p = some (.ins 478 dx (rgf a x z c m))) ∧ IntT K H m 16
/-- what most methods leave: the registers hold some numbers -/
def RgOut (K : PySem.W.Frag) (H : Hp) (p : Addr) (Q : VK) : Prop := ∀ (a x z c : Int) (m : Addr) (H' : Hp), Chg p H H' → RgAt K H' p a x z c m → Q .non H'
def sp_rg (K : PySem.W.Frag) (R : List V → Prop) : Sp := fun vs H Q _ => ∃ (p : Addr) (a x z c : Int) (m : Addr) (ws : List V), vs = .ref p :: ws ∧ R ws ∧ RgAt K H p a x z c m ∧ RgOut K H p Q
theorem chg_at {d : Addr} {H : Hp} {o o' : HO} (h : H d = some o') (m : Mut (some o')) : Chg d H (upd H d o) := Chg.refl.put h m
def sp_rg_init (K : PySem.W.Frag) : Sp := fun vs H Q _ => ∃ (p s dx : Addr) (r a x z c : Int) (m : Addr), vs = [.ref p, .ref s] ∧ H p = some (.ins 478 dx []) ∧ SqT K H s [.int r, .int a, .int x, .int z, .int c, .ref m] ∧ IntT K H m 16 ∧
  ∀ H', Chg p H H' → RgAt K H' p a x z c m → Q .non H'
theorem sc_Registers_init : FnScope ["self", "state"] ["self", "state"] (defScope s_Registers_init) := ⟨rfl, rfl, rfl, by decide +kernel, rfl, by decide +kernel, by decide +kernel⟩
theorem ok_Registers_init {P : Program} {w : World} {K : PySem.W.Frag} {mg : Str → Option Value} {base : Heap} (T : Tx K mg) : Ok P w K mg base CX0 1 405 ["self", "state"] (sp_rg_init K) := by
  refine ok0 0 (f_Registers_init T) sc_Registers_init (fun _ _ _ _ _ _ us hl => match us, hl with | [_, _], _ => rfl) (fun vs H Q E h => ?_) (fun cdv A outer sh H vs Q E room h => ?_)
  · obtain ⟨p, s, dx, r, a, x, z, c, m, rfl, hp, hs, hm, k⟩ := h
    rfl
  · obtain ⟨p, s, dx, r, a, x, z, c, m, rfl, hp, hs, hm, k⟩ := h
    refine ⟨_,     (pss_cons (ps_fldK K (pv 0) (pe_ix (ix_tupK K) (pv 1) pe_int (fun _ _ => rfl)) rfl)
        (pss_cons (ps_fldK K (pv 0) (pe_ix (ix_tupK K) (pv 1) pe_int (fun _ _ => rfl)) rfl)
        (pss_cons (ps_fldK K (pv 0) (pe_ix (ix_tupK K) (pv 1) pe_int (fun _ _ => rfl)) rfl)
        (pss_cons (ps_fldK K (pv 0) (pe_ix (ix_tupK K) (pv 1) pe_int (fun _ _ => rfl)) rfl)
        (pss_one (ps_fldK K (pv 0) (pe_ix (ix_tupK K) (pv 1) pe_int (fun _ _ => rfl)) rfl)))))), ?_⟩
    show (_ : TS) _ [_, _] _
    have c1 := chg_at (o := .ins 478 dx (putF "a" (.int a) [])) hp trivial
    have c2 := c1.put (o := .ins 478 dx (putF "x" (.int x) (putF "a" (.int a) []))) upd_same trivial
    have c3 := c2.put (o := .ins 478 dx (putF "zero" (.int z) (putF "x" (.int x) (putF "a" (.int a) [])))) upd_same trivial
    have c4 := c3.put (o := .ins 478 dx (putF "carry" (.int c) (putF "zero" (.int z) (putF "x" (.int x) (putF "a" (.int a) []))))) upd_same trivial
    have c5 := c4.put (o := .ins 478 dx (rgf a x z c m)) upd_same trivial
    have h1 := sqT_chg c1 hs
    have h2 := sqT_chg c2 hs
    have h3 := sqT_chg c3 hs
    have h4 := sqT_chg c4 hs
    fail "bm_go"
    refine ⟨p, 478, dx, [], rfl, hp, c_Registers T, na_Registers_a T, by show 0 < 1000; decide, ?_⟩
    fail "bm_go"
    refine ⟨p, 478, dx, _, rfl, upd_same, c_Registers T, na_Registers_x T, by show 1 < 1000; decide, ?_⟩
    fail "bm_go"
    refine ⟨p, 478, dx, _, rfl, upd_same, c_Registers T, na_Registers_zero T, by show 2 < 1000; decide, ?_⟩
    fail "bm_go"
    refine ⟨p, 478, dx, _, rfl, upd_same, c_Registers T, na_Registers_carry T, by show 3 < 1000; decide, ?_⟩
    fail "bm_go"
    refine ⟨p, 478, dx, _, rfl, upd_same, c_Registers T, na_Registers_memory T, by show 4 < 1000; decide, ?_⟩
    exact k _ c5 ⟨⟨dx, upd_same⟩, hm.im c5.im⟩
theorem sc_Registers_set_a : FnScope ["self", "number"] ["self", "number"] (defScope s_Registers_set_a) := ⟨rfl, rfl, rfl, by decide +kernel, rfl, by decide +kernel, by decide +kernel⟩
theorem ok_Registers_set_a {P : Program} {w : World} {K : PySem.W.Frag} {mg : Str → Option Value} {base : Heap} (T : Tx K mg) : Ok P w K mg base CX0 1 412 ["self", "number"] (sp_rg K (fun ws => ∃ n : Int, ws = [.int n])) := by
  refine ok0 0 (f_Registers_set_a T) sc_Registers_set_a (fun _ _ _ _ _ _ us hl => match us, hl with | [_, _], _ => rfl) (fun vs H Q E h => ?_) (fun cdv A outer sh H vs Q E room h => ?_)
  · obtain ⟨p, a, x, z, c, m, ws, rfl, ⟨n, rfl⟩, ⟨⟨dx, hp⟩, hm⟩, k⟩ := h
    rfl
  · obtain ⟨p, a, x, z, c, m, ws, rfl, ⟨n, rfl⟩, ⟨⟨dx, hp⟩, hm⟩, k⟩ := h
    refine ⟨_,     (pss_cons (ps_fldK K (pv 0) (pv 1) rfl)
        (pss_one (ps_fldK K (pv 0) (pe_callTy call_intN (by rfl) (n_int T) (by decide +kernel) (pa_cons (pe_cmpR op_eq (pv 1) pe_int (nomark _)) pa_nil)) rfl))), ?_⟩
    show (_ : TS) _ [_, _] _
    fail "bm_go"
    rw [upd_upd]
    exact k _ _ _ _ _ _ (chg_at hp trivial) ⟨⟨dx, upd_same⟩, hm.im (Im.mut hp trivial)⟩
theorem sc_Registers_set_x : FnScope ["self", "number"] ["self", "number"] (defScope s_Registers_set_x) := ⟨rfl, rfl, rfl, by decide +kernel, rfl, by decide +kernel, by decide +kernel⟩
theorem ok_Registers_set_x {P : Program} {w : World} {K : PySem.W.Frag} {mg : Str → Option Value} {base : Heap} (T : Tx K mg) : Ok P w K mg base CX0 1 419 ["self", "number"] (sp_rg K (fun ws => ∃ n : Int, ws = [.int n])) := by
  refine ok0 0 (f_Registers_set_x T) sc_Registers_set_x (fun _ _ _ _ _ _ us hl => match us, hl with | [_, _], _ => rfl) (fun vs H Q E h => ?_) (fun cdv A outer sh H vs Q E room h => ?_)
  · obtain ⟨p, a, x, z, c, m, ws, rfl, ⟨n, rfl⟩, ⟨⟨dx, hp⟩, hm⟩, k⟩ := h
    rfl
  · obtain ⟨p, a, x, z, c, m, ws, rfl, ⟨n, rfl⟩, ⟨⟨dx, hp⟩, hm⟩, k⟩ := h
    refine ⟨_,     (pss_cons (ps_fldK K (pv 0) (pv 1) rfl)
        (pss_one (ps_fldK K (pv 0) (pe_callTy call_intN (by rfl) (n_int T) (by decide +kernel) (pa_cons (pe_cmpR op_eq (pv 1) pe_int (nomark _)) pa_nil)) rfl))), ?_⟩
    show (_ : TS) _ [_, _] _
    fail "bm_go"
    rw [upd_upd]
    exact k _ _ _ _ _ _ (chg_at hp trivial) ⟨⟨dx, upd_same⟩, hm.im (Im.mut hp trivial)⟩
theorem sc_Registers_store : FnScope ["self", "place", "number"] ["self", "place", "number"] (defScope s_Registers_store) := ⟨rfl, rfl, rfl, by decide +kernel, rfl, by decide +kernel, by decide +kernel⟩
theorem ok_Registers_store {P : Program} {w : World} {K : PySem.W.Frag} {mg : Str → Option Value} {base : Heap} (T : Tx K mg) : Ok P w K mg base CX0 1 426 ["self", "place", "number"] (sp_rg K (fun ws => ∃ (i : Nat) (n : Int), ws = [.int i, .int n] ∧ i < 16)) := by
  refine ok0 0 (f_Registers_store T) sc_Registers_store (fun _ _ _ _ _ _ us hl => match us, hl with | [_, _, _], _ => rfl) (fun vs H Q E h => ?_) (fun cdv A outer sh H vs Q E room h => ?_)
  · obtain ⟨p, a, x, z, c, m, ws, rfl, ⟨i, n, rfl, hi⟩, ⟨⟨dx, hp⟩, ⟨ms, hl, hm⟩⟩, k⟩ := h
    rfl
  · obtain ⟨p, a, x, z, c, m, ws, rfl, ⟨i, n, rfl, hi⟩, ⟨⟨dx, hp⟩, ⟨ms, hl, hm⟩⟩, k⟩ := h
    refine ⟨_,     (pss_one (ps_fldK K (pv 0) (pe_op (op_catK K) (pe_op (op_catK K) (pe_slice (sl_tupK K) (pe_fldK K (pv 0) rfl) po_none (po_some (pv 1))) (pe_tup (pa_cons (pv 2) pa_nil))) (pe_slice (sl_tupK K) (pe_fldK K (pv 0) rfl) (po_some (pe_op op_add (pv 1) pe_int)) po_none)) rfl)), ?_⟩
    show (_ : TS) _ [_, _, _] _
    fail "bm_go"
    refine r_slG hm fun t1 H1 s1 h1 => ?_
    fail "bm_go"
    intro t2 n2
    have s2 := same_new (o := .tup [.int n]) n2
    refine r_catG (sqT_same s2 h1) (SqT.of upd_same) (by rw [cutV_to, List.length_take, List.length_map]; simp; omega) fun t3 H3 s3 h3 => ?_
    have s13 := (s1.trans s2).trans s3
    have hp3 := s13 _ _ hp
    have hm3 := sqT_same s13 hm
    fail "bm_go"
    refine r_slG hm3 fun t4 H4 s4 h4 => ?_
    refine r_catG (sqT_same s4 h3) h4 (by rw [cutV_to, List.length_append, List.length_take, List.length_map]; have := cutV_length (ms.map V.int) (some ((i : Int) + 1)) none; rw [List.length_map] at this; simp at this ⊢; omega) fun t5 H5 s5 h5 => ?_
    have s15 := (s13.trans s4).trans s5
    have hp5 := s15 _ _ hp
    fail "bm_go"
    refine ⟨p, 478, dx, _, rfl, hp5, c_Registers T, na_Registers_memory T, rgf_len, ?_⟩
    rw [rgp_memory]
    refine k _ _ _ _ t5 _ ((Chg.of s15).put hp5 trivial) ⟨⟨dx, upd_same⟩, ms.take i ++ n :: ms.drop (i + 1), by simp; omega, ?_⟩
    refine sqT_im (Im.mut hp5 trivial) ?_
    have e : ((i : Int) + 1) = ((i + 1 : Nat) : Int) := by omega
    rw [e, cutV_to, cutV_from] at h5
    simpa [List.map_take, List.map_drop] using h5
theorem sc_Registers_do_byte : FnScope ["self", "deed", "value"] ["self", "deed", "value"] (defScope s_Registers_do_byte) := ⟨rfl, rfl, rfl, by decide +kernel, rfl, by decide +kernel, by decide +kernel⟩
theorem ok_Registers_do_byte {P : Program} {w : World} {K : PySem.W.Frag} {mg : Str → Option Value} {base : Heap} (T : Tx K mg) : Ok P w K mg base CX0 2 433 ["self", "deed", "value"] (sp_rg K (fun ws => ∃ (d : Str) (n : Int), ws = [.str d, .int n])) := by
  refine ok0 1 (f_Registers_do_byte T) sc_Registers_do_byte (fun _ _ _ _ _ _ us hl => match us, hl with | [_, _, _], _ => rfl) (fun vs H Q E h => ?_) (fun cdv A outer sh H vs Q E room h => ?_)
  · obtain ⟨p, a, x, z, c, m, ws, rfl, ⟨d, n, rfl⟩, ⟨⟨dx, hp⟩, hm⟩, k⟩ := h
    rfl
  · obtain ⟨p, a, x, z, c, m, ws, rfl, ⟨d, n, rfl⟩, ⟨⟨dx, hp⟩, hm⟩, k⟩ := h
    refine ⟨_,     (pss_one (ps_if (pt_cmpR op_eq (pv 1) pe_str (nomark _))
          (pss_one (ps_expr (pm (ok_Registers_set_a (K := K) T) (room.mono (by decide)) (c_Registers T) (m_Registers_set_a T) pass0 (pv 0) (pa_cons (pv 2) pa_nil))))
          (pss_one (ps_if (pt_cmpR op_eq (pv 1) pe_str (nomark _))
            (pss_one (ps_expr (pm (ok_Registers_set_x (K := K) T) (room.mono (by decide)) (c_Registers T) (m_Registers_set_x T) pass0 (pv 0) (pa_cons (pv 2) pa_nil))))
            (pss_cons (ps_fldK K (pv 0) (pe_callTy call_intN (by rfl) (n_int T) (by decide +kernel) (pa_cons (pe_cmpR op_eq (pe_fldK K (pv 0) rfl) (pv 2) (nomark _)) pa_nil)) rfl)
            (pss_one (ps_fldK K (pv 0) (pe_callTy call_intN (by rfl) (n_int T) (by decide +kernel) (pa_cons (pe_cmpR op_ge (pe_fldK K (pv 0) rfl) (pv 2) (nomark _)) pa_nil)) rfl))))))), ?_⟩
    show (_ : TS) _ [_, _, _] _
    fail "bm_go"
    refine r_ifD (fun _ => ?_) (fun _ => ?_)
    · fail "bm_go"
      exact ⟨p, a, x, z, c, m, _, rfl, ⟨n, rfl⟩, ⟨⟨dx, hp⟩, hm⟩, k⟩
    fail "bm_go"
    refine r_ifD (fun _ => ?_) (fun _ => ?_)
    · fail "bm_go"
      exact ⟨p, a, x, z, c, m, _, rfl, ⟨n, rfl⟩, ⟨⟨dx, hp⟩, hm⟩, k⟩
    fail "bm_go"
    rw [upd_upd]
    exact k _ _ _ _ _ _ (chg_at hp trivial) ⟨⟨dx, upd_same⟩, hm.im (Im.mut hp trivial)⟩
theorem sc_Registers_do_sum : FnScope ["self", "deed", "held", "found"] ["self", "deed", "held"] (defScope s_Registers_do_sum) := ⟨rfl, rfl, rfl, by decide +kernel, rfl, by decide +kernel, by decide +kernel⟩
theorem ok_Registers_do_sum {P : Program} {w : World} {K : PySem.W.Frag} {mg : Str → Option Value} {base : Heap} (T : Tx K mg) : Ok P w K mg base CX0 2 440 ["self", "deed", "held"] (sp_rg K (fun ws => ∃ (d : Str) (n : Int), ws = [.str d, .int n])) := by
  refine ok0 1 (f_Registers_do_sum T) sc_Registers_do_sum (fun _ _ _ _ _ _ us hl => match us, hl with | [_, _, _], _ => rfl) (fun vs H Q E h => ?_) (fun cdv A outer sh H vs Q E room h => ?_)
  · obtain ⟨p, a, x, z, c, m, ws, rfl, ⟨d, n, rfl⟩, ⟨⟨dx, hp⟩, hm⟩, k⟩ := h
    rfl
  · obtain ⟨p, a, x, z, c, m, ws, rfl, ⟨d, n, rfl⟩, ⟨⟨dx, hp⟩, hm⟩, k⟩ := h
    refine ⟨_,     (pss_cons (ps_if (pt_cmpR op_eq (pv 1) pe_str (nomark _))
          (pss_cons (ps_set (i := 3) sc_Registers_do_sum.nd rfl (Or.inl rfl) (pe_op op_add (pe_fldK K (pv 0) rfl) (pv 2)))
          (pss_one (ps_fldK K (pv 0) (pe_callTy call_intN (by rfl) (n_int T) (by decide +kernel) (pa_cons (pe_cmpR op_ge (pv 3) (pgi (i_BYTES T) rfl) (nomark _)) pa_nil)) rfl)))
          (pss_cons (ps_set (i := 3) sc_Registers_do_sum.nd rfl (Or.inl rfl) (pe_op op_sub (pe_fldK K (pv 0) rfl) (pv 2)))
          (pss_one (ps_fldK K (pv 0) (pe_callTy call_intN (by rfl) (n_int T) (by decide +kernel) (pa_cons (pe_cmpR op_ge (pv 3) pe_int (nomark _)) pa_nil)) rfl))))
        (pss_one (ps_expr (pm (ok_Registers_set_a (K := K) T) (room.mono (by decide)) (c_Registers T) (m_Registers_set_a T) pass0 (pv 0) (pa_cons (pe_op op_mod (pv 3) (pgi (i_BYTES T) rfl)) pa_nil))))), ?_⟩
    show (_ : TS) _ [_, _, _, none] _
    fail "bm_go"
    refine r_ifD (fun _ => ?_) (fun _ => ?_)
    all_goals
      fail "bm_go"
      exact ⟨p, _, _, _, _, _, _, rfl, ⟨_, rfl⟩, ⟨⟨dx, upd_same⟩, hm.im (Im.mut hp trivial)⟩, fun a x z c m H' h1 h2 => k _ _ _ _ _ H' ((chg_at hp trivial).trans h1) h2⟩
theorem sc_Registers_do_bits : FnScope ["self", "deed", "held"] ["self", "deed", "held"] (defScope s_Registers_do_bits) := ⟨rfl, rfl, rfl, by decide +kernel, rfl, by decide +kernel, by decide +kernel⟩
theorem ok_Registers_do_bits {P : Program} {w : World} {K : PySem.W.Frag} {mg : Str → Option Value} {base : Heap} (T : Tx K mg) : Ok P w K mg base CX0 2 447 ["self", "deed", "held"] (sp_rg K (fun ws => ∃ (d : Str) (n : Int), ws = [.str d, .int n])) := by
  refine ok0 1 (f_Registers_do_bits T) sc_Registers_do_bits (fun _ _ _ _ _ _ us hl => match us, hl with | [_, _, _], _ => rfl) (fun vs H Q E h => ?_) (fun cdv A outer sh H vs Q E room h => ?_)
  · obtain ⟨p, a, x, z, c, m, ws, rfl, ⟨d, n, rfl⟩, ⟨⟨dx, hp⟩, hm⟩, k⟩ := h
    rfl
  · obtain ⟨p, a, x, z, c, m, ws, rfl, ⟨d, n, rfl⟩, ⟨⟨dx, hp⟩, hm⟩, k⟩ := h
    refine ⟨_,     (pss_one (ps_if (pt_cmpR op_eq (pv 1) pe_str (nomark _))
          (pss_one (ps_expr (pm (ok_Registers_set_a (K := K) T) (room.mono (by decide)) (c_Registers T) (m_Registers_set_a T) pass0 (pv 0) (pa_cons (pe_op op_and (pe_fldK K (pv 0) rfl) (pv 2)) pa_nil))))
          (pss_one (ps_expr (pm (ok_Registers_set_a (K := K) T) (room.mono (by decide)) (c_Registers T) (m_Registers_set_a T) pass0 (pv 0) (pa_cons (pe_op op_xor (pe_fldK K (pv 0) rfl) (pv 2)) pa_nil)))))), ?_⟩
    show (_ : TS) _ [_, _, _] _
    fail "bm_go"
    refine r_ifD (fun _ => ?_) (fun _ => ?_)
    all_goals
      fail "bm_go"
      exact ⟨p, a, x, z, c, m, _, rfl, ⟨_, rfl⟩, ⟨⟨dx, hp⟩, hm⟩, k⟩
theorem sc_Registers_do_store : FnScope ["self", "deed", "value"] ["self", "deed", "value"] (defScope s_Registers_do_store) := ⟨rfl, rfl, rfl, by decide +kernel, rfl, by decide +kernel, by decide +kernel⟩
theorem ok_Registers_do_store {P : Program} {w : World} {K : PySem.W.Frag} {mg : Str → Option Value} {base : Heap} (T : Tx K mg) : Ok P w K mg base CX0 2 454 ["self", "deed", "value"] (sp_rg K (fun ws => ∃ (d : Str) (i : Nat), ws = [.str d, .int i] ∧ i < 16)) := by
  refine ok0 1 (f_Registers_do_store T) sc_Registers_do_store (fun _ _ _ _ _ _ us hl => match us, hl with | [_, _, _], _ => rfl) (fun vs H Q E h => ?_) (fun cdv A outer sh H vs Q E room h => ?_)
  · obtain ⟨p, a, x, z, c, m, ws, rfl, ⟨d, i, rfl, hi⟩, ⟨⟨dx, hp⟩, hm⟩, k⟩ := h
    rfl
  · obtain ⟨p, a, x, z, c, m, ws, rfl, ⟨d, i, rfl, hi⟩, ⟨⟨dx, hp⟩, hm⟩, k⟩ := h
    refine ⟨_,     (pss_one (ps_if (pt_cmpR op_eq (pv 1) pe_str (nomark _))
          (pss_one (ps_expr (pm (ok_Registers_store (K := K) T) (room.mono (by decide)) (c_Registers T) (m_Registers_store T) pass0 (pv 0) (pa_cons (pv 2) (pa_cons (pe_fldK K (pv 0) rfl) pa_nil)))))
          (pss_one (ps_if (pt_cmpR op_eq (pv 1) pe_str (nomark _))
            (pss_one (ps_expr (pm (ok_Registers_store (K := K) T) (room.mono (by decide)) (c_Registers T) (m_Registers_store T) pass0 (pv 0) (pa_cons (pv 2) (pa_cons (pe_fldK K (pv 0) rfl) pa_nil)))))
            (pss_one (ps_expr (pm (ok_Registers_store (K := K) T) (room.mono (by decide)) (c_Registers T) (m_Registers_store T) pass0 (pv 0) (pa_cons (pe_op op_mod (pe_op op_add (pv 2) (pe_fldK K (pv 0) rfl)) (pgi (i_MEMORY_steps T) rfl)) (pa_cons (pe_fldK K (pv 0) rfl) pa_nil))))))))), ?_⟩
    show (_ : TS) _ [_, _, _] _
    fail "bm_go"
    refine r_ifD (fun _ => ?_) (fun _ => ?_)
    · fail "bm_go"
      exact ⟨p, a, x, z, c, m, _, rfl, ⟨i, _, rfl, hi⟩, ⟨⟨dx, hp⟩, hm⟩, k⟩
    fail "bm_go"
    refine r_ifD (fun _ => ?_) (fun _ => ?_)
    · fail "bm_go"
      exact ⟨p, a, x, z, c, m, _, rfl, ⟨i, _, rfl, hi⟩, ⟨⟨dx, hp⟩, hm⟩, k⟩
    fail "bm_go"
    have h0 := Int.emod_nonneg ((i : Int) + x) (show (16 : Int) ≠ 0 by omega)
    have h1 := Int.emod_lt_of_pos ((i : Int) + x) (show (0 : Int) < 16 by omega)
    obtain ⟨j, hj⟩ := Int.eq_ofNat_of_zero_le h0
    rw [hj]
    exact ⟨p, a, x, z, c, m, _, rfl, ⟨j, _, rfl, by omega⟩, ⟨⟨dx, hp⟩, hm⟩, k⟩
theorem sc_Registers_do_memory : FnScope ["self", "deed", "value", "held"] ["self", "deed", "value"] (defScope s_Registers_do_memory) := ⟨rfl, rfl, rfl, by decide +kernel, rfl, by decide +kernel, by decide +kernel⟩
theorem ok_Registers_do_memory {P : Program} {w : World} {K : PySem.W.Frag} {mg : Str → Option Value} {base : Heap} (T : Tx K mg) : Ok P w K mg base CX0 3 461 ["self", "deed", "value"] (sp_rg K (fun ws => ∃ (d : Str) (i : Nat), ws = [.str d, .int i] ∧ i < 16)) := by
  refine ok0 2 (f_Registers_do_memory T) sc_Registers_do_memory (fun _ _ _ _ _ _ us hl => match us, hl with | [_, _, _], _ => rfl) (fun vs H Q E h => ?_) (fun cdv A outer sh H vs Q E room h => ?_)
  · obtain ⟨p, a, x, z, c, m, ws, rfl, ⟨d, i, rfl, hi⟩, ⟨⟨dx, hp⟩, hm⟩, k⟩ := h
    rfl
  · obtain ⟨p, a, x, z, c, m, ws, rfl, ⟨d, i, rfl, hi⟩, ⟨⟨dx, hp⟩, hm⟩, k⟩ := h
    refine ⟨_,     (pss_cons (ps_set (i := 3) sc_Registers_do_memory.nd rfl (Or.inl rfl) (pe_ix (ix_tupK K) (pe_fldK K (pv 0) rfl) (pv 2) (fun _ _ => rfl)))
        (pss_one (ps_if (pt_cmpR op_eq (pv 1) pe_str (nomark _))
          (pss_one (ps_expr (pm (ok_Registers_set_a (K := K) T) (room.mono (by decide)) (c_Registers T) (m_Registers_set_a T) pass0 (pv 0) (pa_cons (pv 3) pa_nil))))
          (pss_one (ps_if (pt_cmpR op_eq (pv 1) pe_str (nomark _))
            (pss_one (ps_expr (pm (ok_Registers_set_x (K := K) T) (room.mono (by decide)) (c_Registers T) (m_Registers_set_x T) pass0 (pv 0) (pa_cons (pv 3) pa_nil))))
            (pss_one (ps_if (pt_cmpR op_eq (pv 1) pe_str (nomark _))
              (pss_one (ps_expr (pm (ok_Registers_set_a (K := K) T) (room.mono (by decide)) (c_Registers T) (m_Registers_set_a T) pass0 (pv 0) (pa_cons (pe_ix (ix_tupK K) (pe_fldK K (pv 0) rfl) (pe_op op_mod (pe_op op_add (pv 2) (pe_fldK K (pv 0) rfl)) (pgi (i_MEMORY_steps T) rfl)) (fun _ _ => rfl)) pa_nil))))
              (pss_one (ps_if (pt_cmpR (op_inK K) (pv 1) (pe_tup (pa_cons pe_str (pa_cons pe_str pa_nil))) (by rfl))
                (pss_one (ps_expr (pm (ok_Registers_do_sum (K := K) T) (room.mono (by decide)) (c_Registers T) (m_Registers_do_sum T) pass0 (pv 0) (pa_cons (pv 1) (pa_cons (pv 3) pa_nil)))))
                (pss_one (ps_if (pt_cmpR (op_inK K) (pv 1) (pe_tup (pa_cons pe_str (pa_cons pe_str pa_nil))) (by rfl))
                  (pss_one (ps_expr (pm (ok_Registers_do_bits (K := K) T) (room.mono (by decide)) (c_Registers T) (m_Registers_do_bits T) pass0 (pv 0) (pa_cons (pv 1) (pa_cons (pv 3) pa_nil)))))
                  (pss_one (ps_expr (pm (ok_Registers_do_store (K := K) T) (room.mono (by decide)) (c_Registers T) (m_Registers_do_store T) pass0 (pv 0) (pa_cons (pv 1) (pa_cons (pv 2) pa_nil)))))))))))))))), ?_⟩
    show (_ : TS) _ [_, _, _, none] _
    obtain ⟨ms, hl, hms⟩ := id hm
    obtain ⟨v, hv⟩ := atI_ints (ds := ms) (i := (i : Int)) (by omega) (by omega)
    have h0 := Int.emod_nonneg ((i : Int) + x) (show (16 : Int) ≠ 0 by omega)
    have h1 := Int.emod_lt_of_pos ((i : Int) + x) (show (0 : Int) < 16 by omega)
    obtain ⟨v2, hv2⟩ := atI_ints (ds := ms) (i := ((i : Int) + x) % 16) h0 (by omega)
    fail "bm_go"
    refine r_ifD (fun _ => ?_) (fun _ => ?_)
    · fail "bm_go"
      exact ⟨p, a, x, z, c, m, _, rfl, ⟨_, rfl⟩, ⟨⟨dx, hp⟩, hm⟩, k⟩
    fail "bm_go"
    refine r_ifD (fun _ => ?_) (fun _ => ?_)
    · fail "bm_go"
      exact ⟨p, a, x, z, c, m, _, rfl, ⟨_, rfl⟩, ⟨⟨dx, hp⟩, hm⟩, k⟩
    fail "bm_go"
    refine r_ifD (fun _ => ?_) (fun _ => ?_)
    · fail "bm_go"
      exact ⟨p, a, x, z, c, m, _, rfl, ⟨_, rfl⟩, ⟨⟨dx, hp⟩, hm⟩, k⟩
    fail "bm_go"
    intro t1 n1
    have s1 := same_new (o := .tup [.str "add", .str "sub"]) n1
    have hp1 := s1 _ _ hp
    have hm1 := hm.im (im_of s1)
    have k1 : RgOut K _ p Q := fun a x z c m H' h1 h2 => k _ _ _ _ _ H' ((Chg.of s1).trans h1) h2
    fail "bm_go"
    refine r_ifB (fun _ => ?_) (fun _ => ?_)
    · fail "bm_go"
      exact ⟨p, a, x, z, c, m, _, rfl, ⟨d, _, rfl⟩, ⟨⟨dx, hp1⟩, hm1⟩, k1⟩
    fail "bm_go"
    intro t2 n2
    have s2 := same_new (o := .tup [.str "mask", .str "flip"]) n2
    have hp2 := s2 _ _ hp1
    have hm2 := hm1.im (im_of s2)
    have k2 : RgOut K _ p Q := fun a x z c m H' h1 h2 => k1 _ _ _ _ _ H' ((Chg.of s2).trans h1) h2
    fail "bm_go"
    refine r_ifB (fun _ => ?_) (fun _ => ?_)
    · fail "bm_go"
      exact ⟨p, a, x, z, c, m, _, rfl, ⟨d, _, rfl⟩, ⟨⟨dx, hp2⟩, hm2⟩, k2⟩
    fail "bm_go"
    exact ⟨p, a, x, z, c, m, _, rfl, ⟨d, i, rfl, hi⟩, ⟨⟨dx, hp2⟩, hm2⟩, k2⟩
theorem sc_Registers_do_plain : FnScope ["self", "deed"] ["self", "deed"] (defScope s_Registers_do_plain) := ⟨rfl, rfl, rfl, by decide +kernel, rfl, by decide +kernel, by decide +kernel⟩
theorem ok_Registers_do_plain {P : Program} {w : World} {K : PySem.W.Frag} {mg : Str → Option Value} {base : Heap} (T : Tx K mg) : Ok P w K mg base CX0 2 468 ["self", "deed"] (sp_rg K (fun ws => ∃ d : Str, ws = [.str d])) := by
  refine ok0 1 (f_Registers_do_plain T) sc_Registers_do_plain (fun _ _ _ _ _ _ us hl => match us, hl with | [_, _], _ => rfl) (fun vs H Q E h => ?_) (fun cdv A outer sh H vs Q E room h => ?_)
  · obtain ⟨p, a, x, z, c, m, ws, rfl, ⟨d, rfl⟩, ⟨⟨dx, hp⟩, hm⟩, k⟩ := h
    rfl
  · obtain ⟨p, a, x, z, c, m, ws, rfl, ⟨d, rfl⟩, ⟨⟨dx, hp⟩, hm⟩, k⟩ := h
    refine ⟨_,     (pss_one (ps_if (pt_cmpR op_eq (pv 1) pe_str (nomark _))
          (pss_cons (ps_fldK K (pv 0) (pe_op op_mod (pe_fldK K (pv 0) rfl) pe_int) rfl)
          (pss_one (ps_expr (pm (ok_Registers_set_a (K := K) T) (room.mono (by decide)) (c_Registers T) (m_Registers_set_a T) pass0 (pv 0) (pa_cons (pe_op op_fdiv (pe_fldK K (pv 0) rfl) pe_int) pa_nil)))))
          (pss_one (ps_if (pt_cmpR op_eq (pv 1) pe_str (nomark _))
            (pss_cons (ps_fldK K (pv 0) (pe_callTy call_intN (by rfl) (n_int T) (by decide +kernel) (pa_cons (pe_cmpR op_ge (pe_op op_mul pe_int (pe_fldK K (pv 0) rfl)) (pgi (i_BYTES T) rfl) (nomark _)) pa_nil)) rfl)
            (pss_one (ps_expr (pm (ok_Registers_set_a (K := K) T) (room.mono (by decide)) (c_Registers T) (m_Registers_set_a T) pass0 (pv 0) (pa_cons (pe_op op_mod (pe_op op_mul pe_int (pe_fldK K (pv 0) rfl)) (pgi (i_BYTES T) rfl)) pa_nil)))))
            (pss_one (ps_if (pt_cmpR op_eq (pv 1) pe_str (nomark _))
              (pss_one (ps_expr (pm (ok_Registers_set_x (K := K) T) (room.mono (by decide)) (c_Registers T) (m_Registers_set_x T) pass0 (pv 0) (pa_cons (pe_op op_mod (pe_op op_add (pe_fldK K (pv 0) rfl) pe_int) (pgi (i_BYTES T) rfl)) pa_nil))))
              (pss_one (ps_if (pt_cmpR op_eq (pv 1) pe_str (nomark _))
                (pss_one (ps_expr (pm (ok_Registers_set_x (K := K) T) (room.mono (by decide)) (c_Registers T) (m_Registers_set_x T) pass0 (pv 0) (pa_cons (pe_op op_mod (pe_op op_sub (pe_fldK K (pv 0) rfl) pe_int) (pgi (i_BYTES T) rfl)) pa_nil))))
                (pss_one (ps_if (pt_cmpR op_eq (pv 1) pe_str (nomark _))
                  (pss_one (ps_expr (pm (ok_Registers_set_x (K := K) T) (room.mono (by decide)) (c_Registers T) (m_Registers_set_x T) pass0 (pv 0) (pa_cons (pe_fldK K (pv 0) rfl) pa_nil))))
                  (pss_one (ps_if (pt_cmpR op_eq (pv 1) pe_str (nomark _))
                    (pss_one (ps_expr (pm (ok_Registers_set_a (K := K) T) (room.mono (by decide)) (c_Registers T) (m_Registers_set_a T) pass0 (pv 0) (pa_cons (pe_fldK K (pv 0) rfl) pa_nil)))) pss_nil)))))))))))), ?_⟩
    show (_ : TS) _ [_, _] _
    have k1 : ∀ c', RgOut K (upd H p (.ins 478 dx (rgf a x z c' m))) p Q := fun c' a x z c m H' h1 h2 => k _ _ _ _ _ H' ((chg_at hp trivial).trans h1) h2
    have h1 : ∀ c', IntT K (upd H p (.ins 478 dx (rgf a x z c' m))) m 16 := fun c' => hm.im (Im.mut hp trivial)
    fail "bm_all"
    all_goals first
      | exact k _ _ _ _ _ _ Chg.refl ⟨⟨dx, hp⟩, hm⟩
      | exact ⟨p, a, x, z, c, m, _, rfl, ⟨_, rfl⟩, ⟨⟨dx, hp⟩, hm⟩, k⟩
      | exact ⟨p, a, x, z, _, m, _, rfl, ⟨_, rfl⟩, ⟨⟨dx, upd_same⟩, h1 _⟩, k1 _⟩
/-- whether a deed of kind mark goes to its mark -/
def goesB (d : Str) (z c : Int) : Bool := if V.str d = V.str "ifz" then decide (V.int z = V.int 1) else if V.str d = V.str "ifn" then decide (V.int z = V.int 0) else if V.str d = V.str "ifc" then decide (V.int c = V.int 1) else if V.str d = V.str "ifd" then decide (V.int c = V.int 0) else true
def sp_rg_goes (K : PySem.W.Frag) : Sp := fun vs H Q _ => ∃ (p : Addr) (a x z c : Int) (m : Addr) (d : Str), vs = [.ref p, .str d] ∧ RgAt K H p a x z c m ∧ Q (.bl (goesB d z c)) H
theorem sc_Registers_goes : FnScope ["self", "deed"] ["self", "deed"] (defScope s_Registers_goes) := ⟨rfl, rfl, rfl, by decide +kernel, rfl, by decide +kernel, by decide +kernel⟩
theorem ok_Registers_goes {P : Program} {w : World} {K : PySem.W.Frag} {mg : Str → Option Value} {base : Heap} (T : Tx K mg) : Ok P w K mg base CX0 1 475 ["self", "deed"] (sp_rg_goes K) := by
  refine ok0 0 (f_Registers_goes T) sc_Registers_goes (fun _ _ _ _ _ _ us hl => match us, hl with | [_, _], _ => rfl) (fun vs H Q E h => ?_) (fun cdv A outer sh H vs Q E room h => ?_)
  · obtain ⟨p, a, x, z, c, m, d, rfl, ⟨⟨dx, hp⟩, hm⟩, k⟩ := h
    rfl
  · obtain ⟨p, a, x, z, c, m, d, rfl, ⟨⟨dx, hp⟩, hm⟩, k⟩ := h
    refine ⟨_,     (pss_cons (ps_if (pt_cmpR op_eq (pv 1) pe_str (nomark _))
          (pss_one (ps_ret (pe_cmpR op_eq (pe_fldK K (pv 0) rfl) pe_int (nomark _)))) pss_nil)
        (pss_cons (ps_if (pt_cmpR op_eq (pv 1) pe_str (nomark _))
          (pss_one (ps_ret (pe_cmpR op_eq (pe_fldK K (pv 0) rfl) pe_int (nomark _)))) pss_nil)
        (pss_cons (ps_if (pt_cmpR op_eq (pv 1) pe_str (nomark _))
          (pss_one (ps_ret (pe_cmpR op_eq (pe_fldK K (pv 0) rfl) pe_int (nomark _)))) pss_nil)
        (pss_cons (ps_if (pt_cmpR op_eq (pv 1) pe_str (nomark _))
          (pss_one (ps_ret (pe_cmpR op_eq (pe_fldK K (pv 0) rfl) pe_int (nomark _)))) pss_nil)
        (pss_one (ps_ret pe_bl)))))), ?_⟩
    show (_ : TS) _ [_, _] _
    unfold goesB at k
    fail "bm_all"
    all_goals (simp only [*, if_true, if_false] at k; exact k)
end
section
/-! ## D2: deed_done -/
def sp_with_door (K : PySem.W.Frag) : Sp := fun vs H Q _ => ∃ (t : Addr) (i : Nat) (n : Int), vs = [.ref t, .int i, .int n] ∧ IntT K H t 20 ∧ i < 20 ∧ ∀ (u : Addr) (H' : Hp), Same H H' → IntT K H' u 20 → Q (.ref u) H'
theorem sc_with_door : FnScope ["doors", "door", "number"] ["doors", "door", "number"] (defScope s_with_door) := ⟨rfl, rfl, rfl, by decide +kernel, rfl, by decide +kernel, by decide +kernel⟩
theorem ok_with_door {P : Program} {w : World} {K : PySem.W.Frag} {mg : Str → Option Value} {base : Heap} (T : Tx K mg) : Ok P w K mg base CX0 1 384 ["doors", "door", "number"] (sp_with_door K) := by
  refine ok0 0 (f_with_door T) sc_with_door (fun _ _ _ _ _ _ us hl => match us, hl with | [_, _, _], _ => rfl) (fun vs H Q E h => ?_) (fun cdv A outer sh H vs Q E room h => ?_)
  · obtain ⟨t, i, n, rfl, ⟨ms, hl, hm⟩, hi, k⟩ := h
    rfl
  · obtain ⟨t, i, n, rfl, ⟨ms, hl, hm⟩, hi, k⟩ := h
    refine ⟨_,     (pss_one (ps_ret (pe_op (op_catK K) (pe_op (op_catK K) (pe_slice (sl_tupK K) (pv 0) po_none (po_some (pv 1))) (pe_tup (pa_cons (pv 2) pa_nil))) (pe_slice (sl_tupK K) (pv 0) (po_some (pe_op op_add (pv 1) pe_int)) po_none)))), ?_⟩
    show (_ : TS) _ [_, _, _] _
    fail "bm_go"
    refine r_slG hm fun t1 H1 s1 h1 => ?_
    fail "bm_go"
    intro t2 n2
    have s2 := same_new (o := .tup [.int n]) n2
    refine r_catG (sqT_same s2 h1) (SqT.of upd_same) (by rw [cutV_to, List.length_take, List.length_map]; simp; omega) fun t3 H3 s3 h3 => ?_
    have s13 := (s1.trans s2).trans s3
    have hm3 := sqT_same s13 hm
    fail "bm_go"
    refine r_slG hm3 fun t4 H4 s4 h4 => ?_
    refine r_catG (sqT_same s4 h3) h4 (by rw [cutV_to, List.length_append, List.length_take, List.length_map]; have := cutV_length (ms.map V.int) (some ((i : Int) + 1)) none; rw [List.length_map] at this; simp at this ⊢; omega) fun t5 H5 s5 h5 => ?_
    refine k t5 _ ((s13.trans s4).trans s5) ⟨ms.take i ++ n :: ms.drop (i + 1), by simp; omega, ?_⟩
    have e : ((i : Int) + 1) = ((i + 1 : Nat) : Int) := by omega
    rw [e, cutV_to, cutV_from] at h5
    simpa [List.map_take, List.map_drop] using h5
def sp_way_sign (K : PySem.W.Frag) : Sp := fun vs H Q _ => ∃ (p : Addr) (P : List Row) (b : Int) (i j : Nat) (r : Row) (mk : Str), vs = [.ref p, .int b, .int i] ∧ PAt K H p P ∧ WF P ∧ b + longOf P ≤ 256 ∧ P[i]? = some r ∧ r.d ≠ "go" ∧ r.v = .str mk ∧ markIx P mk = some j ∧
  ∀ H', Same H H' → Q (.int (crossed (adr b P j) (adr b P (i + 1)))) H'
theorem sc_way_sign : FnScope ["program", "base", "row", "places"] ["program", "base", "row"] (defScope s_way_sign) := ⟨rfl, rfl, rfl, by decide +kernel, rfl, by decide +kernel, by decide +kernel⟩
theorem ok_way_sign {P : Program} {w : World} {K : PySem.W.Frag} {mg : Str → Option Value} {base : Heap} (T : Tx K mg) : Ok P w K mg base CX0 5 496 ["program", "base", "row"] (sp_way_sign K) := by
  refine ok0 4 (f_way_sign T) sc_way_sign (fun _ _ _ _ _ _ us hl => match us, hl with | [_, _, _], _ => rfl) (fun vs H Q E h => ?_) (fun cdv A outer sh H vs Q E room h => ?_)
  · obtain ⟨p, P, b, i, j, r, mk, rfl, hP, W, hb, hr, hg, hv, hj, k⟩ := h
    rfl
  · obtain ⟨p, P, b, i, j, r, mk, rfl, hP, W, hb, hr, hg, hv, hj, k⟩ := h
    refine ⟨_,     (pss_cons (ps_set (i := 3) sc_way_sign.nd rfl (Or.inl rfl) (pc (ok_addresses (K := K) T) (room.mono (by decide)) rfl (g_addresses T) pass0 (pa_cons (pv 0) (pa_cons (pv 1) pa_nil))))
        (pss_one (ps_ret (pc (ok_is_crossed (K := K) T) (room.mono (by decide)) rfl (g_is_crossed T) pass0 (pa_cons (pe_ix (ix_listK K) (pv 3) (pc (ok_row_of (K := K) T) (room.mono (by decide)) rfl (g_row_of T) pass0 (pa_cons (pv 0) (pa_cons (pe_ix (ix_tupK K) (pe_ix (ix_tupK K) (pv 0) (pv 2) (fun _ _ => rfl)) pe_int (fun _ _ => rfl)) pa_nil))) (fun _ _ => rfl)) (pa_cons (pe_ix (ix_listK K) (pv 3) (pe_op op_add (pv 2) pe_int) (fun _ _ => rfl)) pa_nil)))))), ?_⟩
    show (_ : TS) _ [_, _, _, none] _
    have hz := W.len
    have hlt := W.last i r hr hg
    have hj' := markIx_lt hj
    obtain ⟨xs, ra, h1, h2, h3, h4⟩ := hP.at_ hr
    unfold rowV at h3
    rw [hv] at h3
    have l1 : atI ((addrs b P).map V.int) (j : Int) = some (.int (adr b P j)) := atI_nat (by rw [List.getElem?_map, addrs_get b P j hj']; rfl)
    have l2 : atI ((addrs b P).map V.int) ((i : Int) + 1) = some (.int (adr b P (i + 1))) := atI_nat (j := i + 1) (by rw [List.getElem?_map, addrs_get b P (i + 1) hlt]; rfl)
    fail "bm_go"
    refine ⟨p, P, b, rfl, hP, by omega, hb, fun l H1 s1 _ hl => ?_⟩
    have h1' := sqT_same s1 h1
    have h3' := sqT_same s1 h3
    fail "bm_go"
    refine ⟨p, P, mk, j, rfl, hP.same s1, by omega, hj, fun H2 s2 => ?_⟩
    have hl2 := s2 _ _ hl
    fail "bm_go"
    exact ⟨_, _, rfl, k _ (s1.trans s2)⟩
def nextF (P : List Row) (i : Nat) (r : Row) (go : Bool) : Nat := if go = true then (match r.v with | .str m => (markIx P m).getD 0 | _ => 0) else i + 1
def beatsF (P : List Row) (b : Int) (i : Nat) (r : Row) (go : Bool) : Int := if (isIf r.d && go) = true then far P b i (nextF P i r true) else beatCnt r.d
theorem nextF_go {P : List Row} {i j : Nat} {r : Row} {m : Str} (h : r.v = .str m) (hj : markIx P m = some j) : nextF P i r true = j := by
  unfold nextF
  simp only [h, hj, if_true, Option.getD_some]
def sp_beats_of (K : PySem.W.Frag) : Sp := fun vs H Q _ => ∃ (p : Addr) (P : List Row) (b : Int) (i : Nat) (r : Row) (x : Int) (go : Bool), vs = [.ref p, .int b, .int i, .int x, .bl go] ∧ PAt K H p P ∧ WF P ∧ b + longOf P ≤ 256 ∧ P[i]? = some r ∧ ∀ H', Same H H' → Q (.int (beatsF P b i r go)) H'
theorem beat_if : ∀ x ∈ ifDs, beatCnt x = 2 := by decide +kernel
theorem isIf_ds {P : List Row} {r : Row} (h : RowOk P r) (e : isIf r.d = true) : r.d ∈ ifDs := by
  have no : ∀ x ∈ byteDs ++ (memDs ++ (plainDs ++ (["door", "eye"] : List Str))), isIf x = true → x ∈ ifDs := fun x hx e => by
    rw [(noif_facts x hx).1] at e
    cases e
  cases h with
  | byte m d n h => exact no d (by simp [h]) e
  | mem m d n h hn => exact no d (by simp [h]) e
  | plain m d h => exact no d (by simp [h]) e
  | door m n hn => exact no "door" (by simp) e
  | eye m n hn => exact no "eye" (by simp) e
  | go m k j h => rw [go_facts] at e; cases e
  | iff m d k j hd h => exact hd
theorem sc_beats_of : FnScope ["program", "base", "row", "x", "does_go", "deed", "found"] ["program", "base", "row", "x", "does_go"] (defScope s_beats_of) := ⟨rfl, rfl, rfl, by decide +kernel, rfl, by decide +kernel, by decide +kernel⟩
theorem ok_beats_of {P : Program} {w : World} {K : PySem.W.Frag} {mg : Str → Option Value} {base : Heap} (T : Tx K mg) : Ok P w K mg base CX0 6 510 ["program", "base", "row", "x", "does_go"] (sp_beats_of K) := by
  refine ok0 5 (f_beats_of T) sc_beats_of (fun _ _ _ _ _ _ us hl => match us, hl with | [_, _, _, _, _], _ => rfl) (fun vs H Q E h => ?_) (fun cdv A outer sh H vs Q E room h => ?_)
  · obtain ⟨p, P, b, i, r, x, go, rfl, hP, W, hb, hr, k⟩ := h
    rfl
  · obtain ⟨p, P, b, i, r, x, go, rfl, hP, W, hb, hr, k⟩ := h
    refine ⟨_,     (pss_cons (ps_set (i := 5) sc_beats_of.nd rfl (Or.inl rfl) (pe_ix (ix_tupK K) (pe_ix (ix_tupK K) (pv 0) (pv 2) (fun _ _ => rfl)) pe_int (fun _ _ => rfl)))
        (pss_cons (ps_set (i := 6) sc_beats_of.nd rfl (Or.inl rfl) (pc (ok_beat_count (K := K) T) (room.mono (by decide)) rfl (g_beat_count T) pass0 (pa_cons (pv 5) pa_nil)))
        (pss_cons (ps_if (pt_cmpR op_eq (pv 5) pe_str (nomark _))
          pss_never pss_nil)
        (pss_cons (ps_if (PW.pt (pw_and (pt_cmpR (op_inK K) (pv 5) (pe_tup (pa_cons pe_str (pa_cons pe_str (pa_cons pe_str (pa_cons pe_str pa_nil))))) (by rfl)) (pw_and1 (pt_val (pv 4)))))
          (pss_one (ps_ret (pe_op op_add (pe_op op_add (pv 6) pe_int) (pc (ok_way_sign (K := K) T) (room.mono (by decide)) rfl (g_way_sign T) pass0 (pa_cons (pv 0) (pa_cons (pv 1) (pa_cons (pv 2) pa_nil))))))) pss_nil)
        (pss_one (ps_ret (pv 6))))))), ?_⟩
    show (_ : TS) _ [_, _, _, _, _, none, none] _
    obtain ⟨xs, ra, h1, h2, h3, h4⟩ := hP.at_ hr
    have hok := W.ok i r hr
    unfold rowV at h3
    fail "bm_go"
    refine ⟨r.d, rfl, ?_⟩
    fail "bm_go"
    refine r_ifF hok.ne_at ?_
    fail "bm_go"
    intro u nu
    have s1 := same_new (o := .tup [.str "ifz", .str "ifn", .str "ifc", .str "ifd"]) nu
    fail "bm_go"
    have fin0 : ¬ (isIf r.d = true ∧ go = true) → beatsF P b i r go = beatCnt r.d := fun h => by
      unfold beatsF
      rw [if_neg (by rw [Bool.and_eq_true]; exact h)]
    rcases hok.cases3 with ⟨e1, e2, mk, j, e3, hj⟩ | ⟨e1, _⟩ | ⟨e1, _⟩
    · refine r_ifT e1 ?_
      fail "bm_go"
      refine r_ifB (fun hg => ?_) (fun hg => ?_)
      · fail "bm_go"
        refine ⟨p, P, b, i, j, r, mk, rfl, hP.same s1, W, hb, hr, e2, e3, hj, fun H2 s2 => ?_⟩
        have e : beatsF P b i r go = beatCnt r.d + 1 + crossed (adr b P j) (adr b P (i + 1)) := by
          unfold beatsF
          rw [hg, if_pos (by rw [e1]; rfl), nextF_go e3 hj, beat_if _ (isIf_ds hok e1)]
          rfl
        have := k H2 (s1.trans s2)
        rw [e] at this
        fail "bm_go"
        exact this
      · fail "bm_go"
        have := k _ s1
        rw [fin0 (by rw [hg]; simp)] at this
        exact this
    all_goals
      refine r_ifF e1 ?_
      fail "bm_go"
      have := k _ s1
      rw [fin0 (by rw [e1]; simp)] at this
      exact this
def goB (d : Str) (z c : Int) : Bool := if V.str (kindOf d) = V.str "mark" then goesB d z c else false
theorem kind_byte : ∀ x ∈ byteDs, kindOf x = "byte" := by decide +kernel
theorem kind_mem : ∀ x ∈ memDs, kindOf x = "memory" := by decide +kernel
theorem kind_plain : ∀ x ∈ plainDs, kindOf x = "plain" := by decide +kernel
theorem kind_if : ∀ x ∈ ifDs, kindOf x = "mark" := by decide +kernel
theorem kind_go : kindOf "go" = "mark" := by decide +kernel
theorem kind_door : kindOf "door" = "door" := by decide +kernel
theorem kind_eye : kindOf "eye" = "eye" := by decide +kernel
def sp_deed_done (K : PySem.W.Frag) : Sp := fun vs H Q _ => ∃ (p s : Addr) (P : List Row) (b : Int) (i : Nat) (r : Row) (a x z c told : Int) (m : Addr), vs = [.ref p, .int b, .ref s, .int told] ∧ PAt K H p P ∧ WF P ∧ b + longOf P ≤ 256 ∧ P[i]? = some r ∧
  SqT K H s [.int i, .int a, .int x, .int z, .int c, .ref m] ∧ IntT K H m 16 ∧
  ∀ (t : Addr) (H' : Hp) (a' x' z' c' : Int) (m' : Addr), Same H H' → SqT K H' t [.int (nextF P i r (goB r.d z c) : Nat), .int a', .int x', .int z', .int c', .ref m', .int (beatsF P b i r (goB r.d z c))] → IntT K H' m' 16 → Q (.ref t) H'
theorem RgAt.same {K : PySem.W.Frag} {H H' : Hp} {q m : Addr} {a x z c : Int} (h : RgAt K H q a x z c m) (s : Same H H') : RgAt K H' q a x z c m := by
  obtain ⟨⟨dx, h1⟩, h2⟩ := h
  exact ⟨⟨dx, s _ _ h1⟩, h2.im (im_of s)⟩
theorem sc_deed_done : FnScope ["program", "base", "state", "told", "row", "mark", "deed", "value", "registers", "sort_text", "does_go", "beats", "behind"] ["program", "base", "state", "told"] (defScope s_deed_done) := ⟨rfl, rfl, rfl, by decide +kernel, rfl, by decide +kernel, by decide +kernel⟩
theorem ok_deed_done {P : Program} {w : World} {K : PySem.W.Frag} {mg : Str → Option Value} {base : Heap} (T : Tx K mg) : Ok P w K mg base CX0 7 517 ["program", "base", "state", "told"] (sp_deed_done K) := by
  refine ok0 6 (f_deed_done T) sc_deed_done (fun _ _ _ _ _ _ us hl => match us, hl with | [_, _, _, _], _ => rfl) (fun vs H Q E h => ?_) (fun cdv A outer sh H vs Q E room h => ?_)
  · obtain ⟨p, s, P, b, i, r, a, x, z, c, told, m, rfl, hP, W, hb, hr, hs, hm, k⟩ := h
    rfl
  · obtain ⟨p, s, P, b, i, r, a, x, z, c, told, m, rfl, hP, W, hb, hr, hs, hm, k⟩ := h
    refine ⟨_,     (pss_cons (ps_expr (pc (ok_want_room (K := K) T) (room.mono (by decide)) rfl (g_want_room T) pass0 (pa_cons (pv 0) (pa_cons (pv 1) pa_nil))))
        (pss_cons (ps_set (i := 4) sc_deed_done.nd rfl (Or.inl rfl) (pe_ix (ix_tupK K) (pv 2) pe_int (fun _ _ => rfl)))
        (pss_cons (ps_asg (pe_ix (ix_tupK K) (pv 0) (pv 4) (fun _ _ => rfl)) (pg_tupK K (n := 3) rfl (pgs_cons (pg_name (i := 5) sc_deed_done.nd rfl (Or.inl rfl)) (pgs_cons (pg_name (i := 6) sc_deed_done.nd rfl (Or.inl rfl)) (pgs_cons (pg_name (i := 7) sc_deed_done.nd rfl (Or.inl rfl)) pgs_nil)))))
        (pss_cons (ps_set (i := 8) sc_deed_done.nd rfl (Or.inl rfl) (pmk (ok_Registers_init (K := K) T) (room.mono (by decide)) (k_Registers T) rfl (g_Registers T) pass0 (pa_cons (pv 2) pa_nil)))
        (pss_cons (ps_set (i := 9) sc_deed_done.nd rfl (Or.inl rfl) (pc (ok_kind (K := K) T) (room.mono (by decide)) rfl (g_kind T) pass0 (pa_cons (pv 6) pa_nil)))
        (pss_cons (ps_set (i := 10) sc_deed_done.nd rfl (Or.inl rfl) (pe_and (pe_cmpR op_eq (pv 9) pe_str (nomark _)) (pe_and (pe_cmpR op_ne (pv 6) pe_str (nomark _)) (pe_one (pm (ok_Registers_goes (K := K) T) (room.mono (by decide)) (c_Registers T) (m_Registers_goes T) pass0 (pv 8) (pa_cons (pv 6) pa_nil))))))
        (pss_cons (ps_set (i := 11) sc_deed_done.nd rfl (Or.inl rfl) (pc (ok_beats_of (K := K) T) (room.mono (by decide)) rfl (g_beats_of T) pass0 (pa_cons (pv 0) (pa_cons (pv 1) (pa_cons (pv 4) (pa_cons (pe_fldK K (pv 8) rfl) (pa_cons (pv 10) pa_nil)))))))
        (pss_cons (ps_set (i := 12) sc_deed_done.nd rfl (Or.inl rfl) (pe_op op_add (pv 4) pe_int))
        (pss_cons (ps_if (pt_val (pv 10))
          (pss_one (ps_set (i := 12) sc_deed_done.nd rfl (Or.inl rfl) (pc (ok_row_of (K := K) T) (room.mono (by decide)) rfl (g_row_of T) pass0 (pa_cons (pv 0) (pa_cons (pv 7) pa_nil))))) pss_nil)
        (pss_cons (ps_if (pt_cmpR op_eq (pv 9) pe_str (nomark _))
          (pss_one (ps_expr (pm (ok_Registers_do_byte (K := K) T) (room.mono (by decide)) (c_Registers T) (m_Registers_do_byte T) pass0 (pv 8) (pa_cons (pv 6) (pa_cons (pv 7) pa_nil)))))
          (pss_one (ps_if (pt_cmpR op_eq (pv 9) pe_str (nomark _))
            (pss_one (ps_expr (pm (ok_Registers_do_memory (K := K) T) (room.mono (by decide)) (c_Registers T) (m_Registers_do_memory T) pass0 (pv 8) (pa_cons (pv 6) (pa_cons (pv 7) pa_nil)))))
            (pss_one (ps_if (pt_cmpR op_eq (pv 9) pe_str (nomark _))
              (pss_one (ps_expr (pm (ok_Registers_do_plain (K := K) T) (room.mono (by decide)) (c_Registers T) (m_Registers_do_plain T) pass0 (pv 8) (pa_cons (pv 6) pa_nil))))
              (pss_one (ps_if (pt_cmpR op_eq (pv 9) pe_str (nomark _))
                (pss_one (ps_expr (pm (ok_Registers_set_a (K := K) T) (room.mono (by decide)) (c_Registers T) (m_Registers_set_a T) pass0 (pv 8) (pa_cons (pv 3) pa_nil))))
                (pss_one (ps_if (pt_cmpR op_eq (pv 6) pe_str (nomark _))
                  pss_never pss_nil)))))))))
        (pss_one (ps_ret (pe_tup (pa_cons (pv 12) (pa_cons (pe_fldK K (pv 8) rfl) (pa_cons (pe_fldK K (pv 8) rfl) (pa_cons (pe_fldK K (pv 8) rfl) (pa_cons (pe_fldK K (pv 8) rfl) (pa_cons (pe_fldK K (pv 8) rfl) (pa_cons (pv 11) pa_nil)))))))))))))))))))), ?_⟩
    show (_ : TS) _ [_, _, _, _, none, none, none, none, none, none, none, none, none] _
    have hz := W.len
    have hok := W.ok i r hr
    obtain ⟨xs, ra, h1, h2, h3, h4⟩ := hP.at_ hr
    unfold rowV at h3
    fail "bm_go"
    refine ⟨p, P, b, rfl, hP, by omega, hb, fun H1 s1 => ?_⟩
    have h1' := sqT_same s1 h1
    have h3' := sqT_same s1 h3
    have hs' := sqT_same s1 hs
    fail "bm_go"
    intro q dq n1 n2 n3
    have s2 : Same H1 (upd (upd H1 dq (.own q)) q (.ins 478 dq [])) := same_mut (same_new n2) n1
    have n1' : H q = none := s1.free n1
    refine ⟨q, s, dq, (i : Int), a, x, z, c, m, rfl, upd_same, sqT_same s2 hs', hm.im ((im_of s1).trans (im_of s2)), fun H2 c2 hR => ?_⟩
    have s02 : Same H H2 := c2.out (s1.trans s2) n1'
    have hP2 := hP.same s02
    have hm2 := hm.im (im_of s02)
    refine ⟨rfl, ?_⟩
    fail "bm_go"
    refine ⟨r.d, rfl, ?_⟩
    fail "bm_go"
    have hret : ∀ (H3 : Hp) (a' x' z' c' : Int) (m' : Addr), Same H H3 → IntT K H3 m' 16 → ∀ t, H3 t = none → Q (.ref t) (upd H3 t (.tup [.int (nextF P i r (goB r.d z c) : Nat), .int a', .int x', .int z', .int c', .ref m', .int (beatsF P b i r (goB r.d z c))])) :=
      fun H3 a' x' z' c' m' s3 hm3 t nt => k t _ a' x' z' c' m' (same_mut s3 (s3.free nt)) (SqT.of upd_same) (hm3.im (Im.new nt))
    rcases hok with ⟨mm, d, n, hd⟩ | ⟨mm, d, n, hd, hn⟩ | ⟨mm, d, hd⟩ | ⟨mm, n, hn⟩ | ⟨mm, n, hn⟩ | ⟨mm, kk, j, hj⟩ | ⟨mm, d, kk, j, hd, hj⟩
    · have hk := kind_byte d hd
      have hg : goB d z c = false := by unfold goB; rw [hk]; exact if_neg (by decide)
      simp only [hk, hg] at hret ⊢
      refine r_ifF (by decide) ?_
      obtain ⟨⟨dx2, hp2⟩, _⟩ := id hR
      fail "bm_go"
      refine ⟨p, P, b, i, _, x, false, rfl, hP2, W, hb, hr, fun H3 s3 => ?_⟩
      have c3 := c2.step s3
      have hR3 := hR.same s3
      obtain ⟨⟨dx3, hp3⟩, hm3⟩ := hR3
      fail "bm_all"
      refine ⟨q, _, _, _, _, _, _, rfl, ⟨_, _, rfl⟩, hR.same s3, fun a' x' z' c' m' H4 c4 hR4 => ?_⟩
      obtain ⟨⟨dx4, hp4⟩, hm4⟩ := hR4
      fail "bm_go"
      intro t nt
      exact hret _ _ _ _ _ _ ((c3.trans c4).out (s1.trans s2) n1') hm4 t nt
    · have hk := kind_mem d hd
      have hg : goB d z c = false := by unfold goB; rw [hk]; exact if_neg (by decide)
      simp only [hk, hg] at hret ⊢
      refine r_ifF (by decide) ?_
      obtain ⟨⟨dx2, hp2⟩, _⟩ := id hR
      fail "bm_go"
      refine ⟨p, P, b, i, _, x, false, rfl, hP2, W, hb, hr, fun H3 s3 => ?_⟩
      have c3 := c2.step s3
      have hR3 := hR.same s3
      obtain ⟨⟨dx3, hp3⟩, hm3⟩ := hR3
      fail "bm_all"
      refine ⟨q, _, _, _, _, _, _, rfl, ⟨_, n, rfl, hn⟩, hR.same s3, fun a' x' z' c' m' H4 c4 hR4 => ?_⟩
      obtain ⟨⟨dx4, hp4⟩, hm4⟩ := hR4
      fail "bm_go"
      intro t nt
      exact hret _ _ _ _ _ _ ((c3.trans c4).out (s1.trans s2) n1') hm4 t nt
    · have hk := kind_plain d hd
      have hg : goB d z c = false := by unfold goB; rw [hk]; exact if_neg (by decide)
      simp only [hk, hg] at hret ⊢
      refine r_ifF (by decide) ?_
      obtain ⟨⟨dx2, hp2⟩, _⟩ := id hR
      fail "bm_go"
      refine ⟨p, P, b, i, _, x, false, rfl, hP2, W, hb, hr, fun H3 s3 => ?_⟩
      have c3 := c2.step s3
      have hR3 := hR.same s3
      obtain ⟨⟨dx3, hp3⟩, hm3⟩ := hR3
      fail "bm_all"
      refine ⟨q, _, _, _, _, _, _, rfl, ⟨_, rfl⟩, hR.same s3, fun a' x' z' c' m' H4 c4 hR4 => ?_⟩
      obtain ⟨⟨dx4, hp4⟩, hm4⟩ := hR4
      fail "bm_go"
      intro t nt
      exact hret _ _ _ _ _ _ ((c3.trans c4).out (s1.trans s2) n1') hm4 t nt
    · have hk := kind_door
      have hg : goB "door" z c = false := by unfold goB; rw [hk]; exact if_neg (by decide)
      simp only [hk, hg] at hret ⊢
      refine r_ifF (by decide) ?_
      obtain ⟨⟨dx2, hp2⟩, _⟩ := id hR
      fail "bm_go"
      refine ⟨p, P, b, i, _, x, false, rfl, hP2, W, hb, hr, fun H3 s3 => ?_⟩
      have c3 := c2.step s3
      have hR3 := hR.same s3
      obtain ⟨⟨dx3, hp3⟩, hm3⟩ := hR3
      fail "bm_all"
      have c4 : Chg q H3 H3 := Chg.refl
      have hm4 := hm3
      fail "bm_go"
      intro t nt
      exact hret _ _ _ _ _ _ ((c3.trans c4).out (s1.trans s2) n1') hm4 t nt
    · have hk := kind_eye
      have hg : goB "eye" z c = false := by unfold goB; rw [hk]; exact if_neg (by decide)
      simp only [hk, hg] at hret ⊢
      refine r_ifF (by decide) ?_
      obtain ⟨⟨dx2, hp2⟩, _⟩ := id hR
      fail "bm_go"
      refine ⟨p, P, b, i, _, x, false, rfl, hP2, W, hb, hr, fun H3 s3 => ?_⟩
      have c3 := c2.step s3
      have hR3 := hR.same s3
      obtain ⟨⟨dx3, hp3⟩, hm3⟩ := hR3
      fail "bm_all"
      refine ⟨q, _, _, _, _, _, _, rfl, ⟨_, rfl⟩, hR.same s3, fun a' x' z' c' m' H4 c4 hR4 => ?_⟩
      obtain ⟨⟨dx4, hp4⟩, hm4⟩ := hR4
      fail "bm_go"
      intro t nt
      exact hret _ _ _ _ _ _ ((c3.trans c4).out (s1.trans s2) n1') hm4 t nt
    · have hk := kind_go
      have hg : goB "go" z c = goesB "go" z c := by unfold goB; rw [hk]; exact if_pos rfl
      simp only [hk, hg] at hret ⊢
      refine r_ifT (by decide) ?_
      fail "bm_go"
      obtain ⟨⟨dx2, hp2⟩, _⟩ := id hR
      fail "bm_go"
      refine ⟨q, a, x, z, c, m, "go", rfl, hR, ?_⟩
      fail "bm_go"
      refine ⟨p, P, b, i, _, x, goesB "go" z c, rfl, hP2, W, hb, hr, fun H3 s3 => ?_⟩
      have c3 := c2.step s3
      have hR3 := hR.same s3
      obtain ⟨⟨dx3, hp3⟩, hm3⟩ := hR3
      fail "bm_go"
      have hv : goesB "go" z c = true := by unfold goesB; rw [if_neg (by decide), if_neg (by decide), if_neg (by decide), if_neg (by decide)]
      rw [hv, nextF_go (r := ⟨mm, _, .str kk⟩) rfl hj] at hret
      refine ⟨p, P, kk, j, rfl, hP2.same s3, by omega, hj, fun H4 s4 => ?_⟩
      have c4 := Chg.of (d := q) s4
      obtain ⟨⟨dx4, hp4⟩, hm4⟩ := (hR.same s3).same s4
      fail "bm_all"
      intro t nt
      rw [hv]
      exact hret _ _ _ _ _ _ ((c3.trans c4).out (s1.trans s2) n1') hm4 t nt
    · have hk := kind_if d hd
      have hg : goB d z c = goesB d z c := by unfold goB; rw [hk]; exact if_pos rfl
      simp only [hk, hg] at hret ⊢
      refine r_ifT (by decide) ?_
      fail "bm_go"
      have hat := RowOk.ne_at (.iff mm d kk j hd hj)
      dsimp only at hat
      refine r_ifT (by rw [hat]; rfl) ?_
      obtain ⟨⟨dx2, hp2⟩, _⟩ := id hR
      fail "bm_go"
      refine ⟨q, a, x, z, c, m, d, rfl, hR, ?_⟩
      fail "bm_go"
      refine ⟨p, P, b, i, _, x, goesB d z c, rfl, hP2, W, hb, hr, fun H3 s3 => ?_⟩
      have c3 := c2.step s3
      have hR3 := hR.same s3
      obtain ⟨⟨dx3, hp3⟩, hm3⟩ := hR3
      fail "bm_go"
      refine r_ifB (fun hv => ?_) (fun hv => ?_)
      · rw [hv, nextF_go (r := ⟨mm, _, .str kk⟩) rfl hj] at hret
        fail "bm_go"
        refine ⟨p, P, kk, j, rfl, hP2.same s3, by omega, hj, fun H4 s4 => ?_⟩
        have c4 := Chg.of (d := q) s4
        obtain ⟨⟨dx4, hp4⟩, hm4⟩ := (hR.same s3).same s4
        fail "bm_all"
        intro t nt
        rw [hv]
        exact hret _ _ _ _ _ _ ((c3.trans c4).out (s1.trans s2) n1') hm4 t nt
      · rw [hv] at hret
        fail "bm_all"
        intro t nt
        rw [hv]
        exact hret _ _ _ _ _ _ (c3.out (s1.trans s2) n1') hm3 t nt
end
section
/-! ## E1: the playing object -/
theorem ne_of_none' {H : Hp} {a b : Addr} {o : HO} (h : H a = some o) (n : H b = none) : b ≠ a := fun e => by rw [e, h] at n; cases n
theorem Chg.free {d b : Addr} {H H' : Hp} (c : Chg d H H') (n : H' b = none) (h : b ≠ d) : H b = none := by
  cases e : H b with
  | none => rfl
  | some o => rw [c.kp b o h e] at n; cases n
theorem r_abs {f : Hp → Prop} {d : Addr} {H1 : Hp} {o o' : HO} (h : H1 d = some o') (m : Mut (some o')) (k : ∀ H2, Chg d H1 H2 → H2 d = some o → f H2) : f (upd H1 d o) := k _ (chg_at h m) upd_same
theorem r_absN {f : Hp → Prop} {p : Addr} {H1 : Hp} {o : HO} (n : H1 p = none) (k : ∀ H2, Same H1 H2 → H2 p = some o → f H2) : f (upd H1 p o) := k _ (same_new n) upd_same
theorem r_absV {γ : Type} {f : Hp → γ → Prop} {c : γ} {p : Addr} {H1 : Hp} {o : HO} (n : H1 p = none) (k : ∀ H2, Same H1 H2 → H2 p = some o → f H2 c) : f (upd H1 p o) c := k _ (same_new n) upd_same
/-- only some change -/
structure Chs (L : List Addr) (H H' : Hp) : Prop where
  kp : ∀ b o, b ∉ L → H b = some o → H' b = some o
  im : Im H H'
section
variable {L : List Addr} {H H0 H1 H2 : Hp} {d : Addr} {o o' : HO}
theorem Chs.refl : Chs L H H := ⟨fun _ _ _ h => h, Im.refl _⟩
theorem Chs.trans (a : Chs L H H1) (b : Chs L H1 H2) : Chs L H H2 := ⟨fun x o n h => b.kp x o n (a.kp x o n h), a.im.trans b.im⟩
theorem Chs.of (s : Same H H1) : Chs L H H1 := ⟨fun b o _ h => s b o h, im_of s⟩
theorem Chs.step (a : Chs L H H1) (s : Same H1 H2) : Chs L H H2 := a.trans (Chs.of s)
theorem Chs.put (a : Chs L H H1) (m : d ∈ L) (h : H1 d = some o') (mu : Mut (some o')) : Chs L H (upd H1 d o) :=
  a.trans ⟨fun b u n e => by rw [upd_ne fun q => n (by rw [q]; exact m)]; exact e, Im.mut h mu⟩
theorem Chs.chg (a : Chs L H H1) (m : d ∈ L) (c : Chg d H1 H2) : Chs L H H2 := a.trans ⟨fun b o n h => c.kp b o (fun q => n (by rw [q]; exact m)) h, c.im⟩
theorem Chs.out (c : Chs L H H1) (s : Same H0 H) (n : ∀ b ∈ L, H0 b = none) : Same H0 H1 := fun b u e => c.kp b u (fun m => by rw [n b m] at e; cases e) (s b u e)
end
structure PlS where
  pg : Addr
  base : Int
  hands : Addr
  held : Addr
  fdo : Addr
  doors : Addr
  met : Int
  timer : Int
  moment : Int
  waiting : Int
  asked : Int
  dl : Addr
  wl : Addr
  rl : Addr
  lines : Int
  P : List Row
  i : Nat
  dn : Nat
  wn : Nat
  tr : List (Nat × Int)
abbrev PlS.fs (S : PlS) : List (Str × V) := plf S.pg S.base S.hands S.held S.fdo S.doors S.met S.timer S.moment S.waiting S.asked S.dl S.wl S.rl S.lines
abbrev PlS.os (S : PlS) (q : Addr) : List Addr := [q, S.dl, S.wl, S.rl]
def TrL (K : PySem.W.Frag) (H : Hp) (rs : List V) (tr : List (Nat × Int)) : Prop := rs.length = tr.length ∧ ∀ (k : Nat) (v : V) (e : Nat × Int), rs[k]? = some v → tr[k]? = some e → TupV K [.int (e.1 : Int), .int (e.2 / 32), .int (e.2 % 32)] v H
structure PlIm (K : PySem.W.Frag) (H : Hp) (S : PlS) : Prop where
  p : PAt K H S.pg S.P
  hands : IntT K H S.hands 3
  fdo : IntT K H S.fdo 20
  doors : IntT K H S.doors 20
  held : ∃ (a x z c : Int) (m : Addr), SqT K H S.held [.int S.i, .int a, .int x, .int z, .int c, .ref m] ∧ IntT K H m 16
theorem PlIm.im {K : PySem.W.Frag} {H H' : Hp} {S : PlS} (h : PlIm K H S) (i : Im H H') : PlIm K H' S := by
  obtain ⟨a, x, z, c, m, h1, h2⟩ := h.held
  exact ⟨h.p.im i, h.hands.im i, h.fdo.im i, h.doors.im i, a, x, z, c, m, i.sqT h1, h2.im i⟩
structure PlAt (K : PySem.W.Frag) (H : Hp) (q : Addr) (S : PlS) : Prop where
  ob : ∃ dx, H q = some (.ins 628 dx S.fs)
  im : PlIm K H S
  dr : ∃ ds : List Int, H S.dl = some (.lst (ds.map V.int)) ∧ ds.length ≤ S.dn
  wr : ∃ ws, H S.wl = some (.lst ws) ∧ ws.length ≤ S.wn ∧ ∀ w ∈ ws, ∃ i j k : Int, TupV K [.int i, .int j, .int k] w H
  rw : ∃ rs, H S.rl = some (.lst rs) ∧ TrL K H rs S.tr
  n1 : S.dl ≠ S.wl
  n2 : S.dl ≠ S.rl
  n3 : S.wl ≠ S.rl
theorem TrL.im {K : PySem.W.Frag} {H H' : Hp} {rs : List V} {tr : List (Nat × Int)} (h : TrL K H rs tr) (i : Im H H') : TrL K H' rs tr := ⟨h.1, fun k v e a b => tupV_im (h.2 k v e a b) i⟩
theorem wr_im {K : PySem.W.Frag} {H H' : Hp} {ws : List V} (h : ∀ w ∈ ws, ∃ i j k : Int, TupV K [.int i, .int j, .int k] w H) (s : Im H H') : ∀ w ∈ ws, ∃ i j k : Int, TupV K [.int i, .int j, .int k] w H' := fun w hw => by
  obtain ⟨i, j, k, z⟩ := h w hw
  exact ⟨i, j, k, tupV_im z s⟩
theorem PlAt.same {K : PySem.W.Frag} {H H' : Hp} {q : Addr} {S : PlS} (h : PlAt K H q S) (s : Same H H') : PlAt K H' q S := by
  obtain ⟨⟨dx, h1⟩, h2, ⟨ds, h3, h4⟩, ⟨ws, h5, h6, h7⟩, ⟨rs, h8, h9⟩, n1, n2, n3⟩ := h
  exact ⟨⟨dx, s _ _ h1⟩, h2.im (im_of s), ⟨ds, s _ _ h3, h4⟩, ⟨ws, s _ _ h5, h6, wr_im h7 (im_of s)⟩, ⟨rs, s _ _ h8, h9.im (im_of s)⟩, n1, n2, n3⟩
/-- the object's own numbers change -/
theorem PlAt.ints {K : PySem.W.Frag} {H : Hp} {q dx : Addr} {S : PlS} (h : PlAt K H q S) (me ti mo wa ak li : Int) :
    PlAt K (upd H q (.ins 628 dx { S with met := me, timer := ti, moment := mo, waiting := wa, asked := ak, lines := li }.fs)) q { S with met := me, timer := ti, moment := mo, waiting := wa, asked := ak, lines := li } := by
  obtain ⟨⟨dx0, h1⟩, h2, ⟨ds, h3, h4⟩, ⟨ws, h5, h6, h7⟩, ⟨rs, h8, h9⟩, n1, n2, n3⟩ := h
  have i := Im.mut (o := .ins 628 dx { S with met := me, timer := ti, moment := mo, waiting := wa, asked := ak, lines := li }.fs) h1 trivial
  refine ⟨⟨_, upd_same⟩, ?_, ⟨ds, gM h1 h3 (by intro q; cases q), h4⟩, ⟨ws, gM h1 h5 (by intro q; cases q), h6, wr_im h7 (Im.mut h1 trivial)⟩, ⟨rs, gM h1 h8 (by intro q; cases q), h9.im (Im.mut h1 trivial)⟩, n1, n2, n3⟩
  have j := h2.im i
  exact ⟨j.p, j.hands, j.fdo, j.doors, j.held⟩
def St12 (K : PySem.W.Frag) (H : Hp) (s : Addr) (i : Nat) (mo wa : Int) (ds : Addr) : Prop := ∃ (a x z c me ti ak : Int) (m : Addr), SqT K H s [.int i, .int a, .int x, .int z, .int c, .ref m, .ref ds, .int me, .int ti, .int mo, .int wa, .int ak] ∧ IntT K H m 16 ∧ IntT K H ds 20
def sp_pl_init (K : PySem.W.Frag) : Sp := fun vs H Q _ => ∃ (q pg s hd dx ds : Addr) (P : List Row) (b mo wa : Int) (i : Nat), vs = [.ref q, .ref pg, .int b, .ref s, .ref hd] ∧ H q = some (.ins 628 dx []) ∧ PAt K H pg P ∧ IntT K H hd 3 ∧ St12 K H s i mo wa ds ∧
  ∀ (H' : Hp) (S : PlS), Chg q H H' → PlAt K H' q S → S.pg = pg → S.P = P → S.base = b → S.moment = mo → S.waiting = wa → S.lines = 0 → S.dn = 0 → S.wn = 0 → S.tr = [] → S.i = i → H S.dl = none → H S.wl = none → H S.rl = none → Q .non H'
theorem sc_Playing_init : FnScope ["self", "program", "base", "state", "hands"] ["self", "program", "base", "state", "hands"] (defScope s_Playing_init) := ⟨rfl, rfl, rfl, by decide +kernel, rfl, by decide +kernel, by decide +kernel⟩
theorem ok_Playing_init {P : Program} {w : World} {K : PySem.W.Frag} {mg : Str → Option Value} {base : Heap} (T : Tx K mg) : Ok P w K mg base CX0 1 531 ["self", "program", "base", "state", "hands"] (sp_pl_init K) := by
  refine ok0 0 (f_Playing_init T) sc_Playing_init (fun _ _ _ _ _ _ us hl => match us, hl with | [_, _, _, _, _], _ => rfl) (fun vs H Q E h => ?_) (fun cdv A outer sh H vs Q E room h => ?_)
  · obtain ⟨q, pg, s, hd, dx, ds, P, b, mo, wa, i, rfl, hp, hP, hh, ⟨a, x, z, c, me, ti, ak, m, hs, hm, hds⟩, k⟩ := h
    rfl
  · obtain ⟨q, pg, s, hd, dx, ds, P, b, mo, wa, i, rfl, hp, hP, hh, ⟨a, x, z, c, me, ti, ak, m, hs, hm, hds⟩, k⟩ := h
    refine ⟨_,     (pss_cons (ps_fldK K (pv 0) (pv 1) rfl)
        (pss_cons (ps_fldK K (pv 0) (pv 2) rfl)
        (pss_cons (ps_fldK K (pv 0) (pv 4) rfl)
        (pss_cons (ps_fldK K (pv 0) (pe_slice (sl_tupK K) (pv 3) po_none (po_some pe_int)) rfl)
        (pss_cons (ps_fldK K (pv 0) (pe_ix (ix_tupK K) (pv 3) pe_int (fun _ _ => rfl)) rfl)
        (pss_cons (ps_fldK K (pv 0) (pe_ix (ix_tupK K) (pv 3) pe_int (fun _ _ => rfl)) rfl)
        (pss_cons (ps_fldK K (pv 0) (pe_ix (ix_tupK K) (pv 3) pe_int (fun _ _ => rfl)) rfl)
        (pss_cons (ps_fldK K (pv 0) (pe_ix (ix_tupK K) (pv 3) pe_int (fun _ _ => rfl)) rfl)
        (pss_cons (ps_fldK K (pv 0) (pe_ix (ix_tupK K) (pv 3) pe_int (fun _ _ => rfl)) rfl)
        (pss_cons (ps_fldK K (pv 0) (pe_ix (ix_tupK K) (pv 3) pe_int (fun _ _ => rfl)) rfl)
        (pss_cons (ps_fldK K (pv 0) (pe_ix (ix_tupK K) (pv 3) pe_int (fun _ _ => rfl)) rfl)
        (pss_cons (ps_fldK K (pv 0) (pe_lst pa_nil) rfl)
        (pss_cons (ps_fldK K (pv 0) (pe_lst pa_nil) rfl)
        (pss_cons (ps_fldK K (pv 0) (pe_lst pa_nil) rfl)
        (pss_one (ps_fldK K (pv 0) pe_int rfl)))))))))))))))), ?_⟩
    show (_ : TS) _ [_, _, _, _, _] _
    have c0 : Chg q H H := Chg.refl
    fail "bm_go"
    refine ⟨q, 628, dx, [], rfl, hp, c_Playing T, tx_na T (by decide +kernel), by show 0 < 1000; decide, ?_⟩
    rw [show putF "program" (.ref pg) ([] : List (Str × V)) = ([("program", .ref pg)] : List (Str × V)) from by kernel_rfl]
    refine r_abs (d := q) hp trivial fun H1 d1 hp => ?_
    replace hs := sqT_chg d1 hs
    replace c0 := c0.trans d1
    fail "bm_go"
    refine ⟨q, 628, dx, [("program", .ref pg)], rfl, hp, c_Playing T, tx_na T (by decide +kernel), by show 1 < 1000; decide, ?_⟩
    rw [show putF "base" (.int b) ([("program", .ref pg)] : List (Str × V)) = ([("program", .ref pg), ("base", .int b)] : List (Str × V)) from by kernel_rfl]
    refine r_abs (d := q) hp trivial fun H2 d2 hp => ?_
    replace hs := sqT_chg d2 hs
    replace c0 := c0.trans d2
    fail "bm_go"
    refine ⟨q, 628, dx, [("program", .ref pg), ("base", .int b)], rfl, hp, c_Playing T, tx_na T (by decide +kernel), by show 2 < 1000; decide, ?_⟩
    rw [show putF "hands" (.ref hd) ([("program", .ref pg), ("base", .int b)] : List (Str × V)) = ([("program", .ref pg), ("base", .int b), ("hands", .ref hd)] : List (Str × V)) from by kernel_rfl]
    refine r_abs (d := q) hp trivial fun H3 d3 hp => ?_
    replace hs := sqT_chg d3 hs
    replace c0 := c0.trans d3
    fail "bm_go"
    refine r_slG hs fun th Hh sh2 hth => ?_
    replace hp := sh2 _ _ hp
    replace hs := sqT_same sh2 hs
    replace c0 := c0.step sh2
    fail "bm_go"
    refine ⟨q, 628, dx, [("program", .ref pg), ("base", .int b), ("hands", .ref hd)], rfl, hp, c_Playing T, tx_na T (by decide +kernel), by show 3 < 1000; decide, ?_⟩
    rw [show putF "held" (.ref th) ([("program", .ref pg), ("base", .int b), ("hands", .ref hd)] : List (Str × V)) = ([("program", .ref pg), ("base", .int b), ("hands", .ref hd), ("held", .ref th)] : List (Str × V)) from by kernel_rfl]
    refine r_abs (d := q) hp trivial fun H4 d4 hp => ?_
    replace hs := sqT_chg d4 hs
    replace c0 := c0.trans d4
    replace hth := sqT_chg d4 hth
    fail "bm_go"
    refine ⟨q, 628, dx, [("program", .ref pg), ("base", .int b), ("hands", .ref hd), ("held", .ref th)], rfl, hp, c_Playing T, tx_na T (by decide +kernel), by show 4 < 1000; decide, ?_⟩
    rw [show putF "first_doors" (.ref ds) ([("program", .ref pg), ("base", .int b), ("hands", .ref hd), ("held", .ref th)] : List (Str × V)) = ([("program", .ref pg), ("base", .int b), ("hands", .ref hd), ("held", .ref th), ("first_doors", .ref ds)] : List (Str × V)) from by kernel_rfl]
    refine r_abs (d := q) hp trivial fun H5 d5 hp => ?_
    replace hs := sqT_chg d5 hs
    replace c0 := c0.trans d5
    replace hth := sqT_chg d5 hth
    fail "bm_go"
    refine ⟨q, 628, dx, [("program", .ref pg), ("base", .int b), ("hands", .ref hd), ("held", .ref th), ("first_doors", .ref ds)], rfl, hp, c_Playing T, tx_na T (by decide +kernel), by show 5 < 1000; decide, ?_⟩
    rw [show putF "doors" (.ref ds) ([("program", .ref pg), ("base", .int b), ("hands", .ref hd), ("held", .ref th), ("first_doors", .ref ds)] : List (Str × V)) = ([("program", .ref pg), ("base", .int b), ("hands", .ref hd), ("held", .ref th), ("first_doors", .ref ds), ("doors", .ref ds)] : List (Str × V)) from by kernel_rfl]
    refine r_abs (d := q) hp trivial fun H6 d6 hp => ?_
    replace hs := sqT_chg d6 hs
    replace c0 := c0.trans d6
    replace hth := sqT_chg d6 hth
    fail "bm_go"
    refine ⟨q, 628, dx, [("program", .ref pg), ("base", .int b), ("hands", .ref hd), ("held", .ref th), ("first_doors", .ref ds), ("doors", .ref ds)], rfl, hp, c_Playing T, tx_na T (by decide +kernel), by show 6 < 1000; decide, ?_⟩
    rw [show putF "met" (.int me) ([("program", .ref pg), ("base", .int b), ("hands", .ref hd), ("held", .ref th), ("first_doors", .ref ds), ("doors", .ref ds)] : List (Str × V)) = ([("program", .ref pg), ("base", .int b), ("hands", .ref hd), ("held", .ref th), ("first_doors", .ref ds), ("doors", .ref ds), ("met", .int me)] : List (Str × V)) from by kernel_rfl]
    refine r_abs (d := q) hp trivial fun H7 d7 hp => ?_
    replace hs := sqT_chg d7 hs
    replace c0 := c0.trans d7
    replace hth := sqT_chg d7 hth
    fail "bm_go"
    refine ⟨q, 628, dx, [("program", .ref pg), ("base", .int b), ("hands", .ref hd), ("held", .ref th), ("first_doors", .ref ds), ("doors", .ref ds), ("met", .int me)], rfl, hp, c_Playing T, tx_na T (by decide +kernel), by show 7 < 1000; decide, ?_⟩
    rw [show putF "timer" (.int ti) ([("program", .ref pg), ("base", .int b), ("hands", .ref hd), ("held", .ref th), ("first_doors", .ref ds), ("doors", .ref ds), ("met", .int me)] : List (Str × V)) = ([("program", .ref pg), ("base", .int b), ("hands", .ref hd), ("held", .ref th), ("first_doors", .ref ds), ("doors", .ref ds), ("met", .int me), ("timer", .int ti)] : List (Str × V)) from by kernel_rfl]
    refine r_abs (d := q) hp trivial fun H8 d8 hp => ?_
    replace hs := sqT_chg d8 hs
    replace c0 := c0.trans d8
    replace hth := sqT_chg d8 hth
    fail "bm_go"
    refine ⟨q, 628, dx, [("program", .ref pg), ("base", .int b), ("hands", .ref hd), ("held", .ref th), ("first_doors", .ref ds), ("doors", .ref ds), ("met", .int me), ("timer", .int ti)], rfl, hp, c_Playing T, tx_na T (by decide +kernel), by show 8 < 1000; decide, ?_⟩
    rw [show putF "moment" (.int mo) ([("program", .ref pg), ("base", .int b), ("hands", .ref hd), ("held", .ref th), ("first_doors", .ref ds), ("doors", .ref ds), ("met", .int me), ("timer", .int ti)] : List (Str × V)) = ([("program", .ref pg), ("base", .int b), ("hands", .ref hd), ("held", .ref th), ("first_doors", .ref ds), ("doors", .ref ds), ("met", .int me), ("timer", .int ti), ("moment", .int mo)] : List (Str × V)) from by kernel_rfl]
    refine r_abs (d := q) hp trivial fun H9 d9 hp => ?_
    replace hs := sqT_chg d9 hs
    replace c0 := c0.trans d9
    replace hth := sqT_chg d9 hth
    fail "bm_go"
    refine ⟨q, 628, dx, [("program", .ref pg), ("base", .int b), ("hands", .ref hd), ("held", .ref th), ("first_doors", .ref ds), ("doors", .ref ds), ("met", .int me), ("timer", .int ti), ("moment", .int mo)], rfl, hp, c_Playing T, tx_na T (by decide +kernel), by show 9 < 1000; decide, ?_⟩
    rw [show putF "waiting" (.int wa) ([("program", .ref pg), ("base", .int b), ("hands", .ref hd), ("held", .ref th), ("first_doors", .ref ds), ("doors", .ref ds), ("met", .int me), ("timer", .int ti), ("moment", .int mo)] : List (Str × V)) = ([("program", .ref pg), ("base", .int b), ("hands", .ref hd), ("held", .ref th), ("first_doors", .ref ds), ("doors", .ref ds), ("met", .int me), ("timer", .int ti), ("moment", .int mo), ("waiting", .int wa)] : List (Str × V)) from by kernel_rfl]
    refine r_abs (d := q) hp trivial fun H10 d10 hp => ?_
    replace hs := sqT_chg d10 hs
    replace c0 := c0.trans d10
    replace hth := sqT_chg d10 hth
    fail "bm_go"
    refine ⟨q, 628, dx, [("program", .ref pg), ("base", .int b), ("hands", .ref hd), ("held", .ref th), ("first_doors", .ref ds), ("doors", .ref ds), ("met", .int me), ("timer", .int ti), ("moment", .int mo), ("waiting", .int wa)], rfl, hp, c_Playing T, tx_na T (by decide +kernel), by show 10 < 1000; decide, ?_⟩
    rw [show putF "asked" (.int ak) ([("program", .ref pg), ("base", .int b), ("hands", .ref hd), ("held", .ref th), ("first_doors", .ref ds), ("doors", .ref ds), ("met", .int me), ("timer", .int ti), ("moment", .int mo), ("waiting", .int wa)] : List (Str × V)) = ([("program", .ref pg), ("base", .int b), ("hands", .ref hd), ("held", .ref th), ("first_doors", .ref ds), ("doors", .ref ds), ("met", .int me), ("timer", .int ti), ("moment", .int mo), ("waiting", .int wa), ("asked", .int ak)] : List (Str × V)) from by kernel_rfl]
    refine r_abs (d := q) hp trivial fun H11 d11 hp => ?_
    replace hs := sqT_chg d11 hs
    replace c0 := c0.trans d11
    replace hth := sqT_chg d11 hth
    fail "bm_go"
    intro dl ndl
    have fdl := c0.free ndl
    refine r_absV ndl fun Hdl sdl hdl => ?_
    have nedl : dl ≠ q := ne_of_none' hp ndl
    replace hp := sdl _ _ hp
    replace hs := sqT_same sdl hs
    replace c0 := c0.step sdl
    replace hth := sqT_same sdl hth
    fail "bm_go"
    refine ⟨q, 628, dx, [("program", .ref pg), ("base", .int b), ("hands", .ref hd), ("held", .ref th), ("first_doors", .ref ds), ("doors", .ref ds), ("met", .int me), ("timer", .int ti), ("moment", .int mo), ("waiting", .int wa), ("asked", .int ak)], rfl, hp, c_Playing T, tx_na T (by decide +kernel), by show 11 < 1000; decide, ?_⟩
    rw [show putF "drawn" (.ref dl) ([("program", .ref pg), ("base", .int b), ("hands", .ref hd), ("held", .ref th), ("first_doors", .ref ds), ("doors", .ref ds), ("met", .int me), ("timer", .int ti), ("moment", .int mo), ("waiting", .int wa), ("asked", .int ak)] : List (Str × V)) = ([("program", .ref pg), ("base", .int b), ("hands", .ref hd), ("held", .ref th), ("first_doors", .ref ds), ("doors", .ref ds), ("met", .int me), ("timer", .int ti), ("moment", .int mo), ("waiting", .int wa), ("asked", .int ak), ("drawn", .ref dl)] : List (Str × V)) from by kernel_rfl]
    refine r_abs (d := q) hp trivial fun H12 d12 hp => ?_
    replace hs := sqT_chg d12 hs
    replace c0 := c0.trans d12
    replace hth := sqT_chg d12 hth
    replace hdl := d12.kp _ _ nedl hdl
    fail "bm_go"
    intro wl nwl
    have fwl := c0.free nwl
    refine r_absV nwl fun Hwl swl hwl => ?_
    have newl : wl ≠ q := ne_of_none' hp nwl
    replace hp := swl _ _ hp
    replace hs := sqT_same swl hs
    replace c0 := c0.step swl
    replace hth := sqT_same swl hth
    have nedlwl := ne_of_none' hdl nwl
    replace hdl := swl _ _ hdl
    fail "bm_go"
    refine ⟨q, 628, dx, [("program", .ref pg), ("base", .int b), ("hands", .ref hd), ("held", .ref th), ("first_doors", .ref ds), ("doors", .ref ds), ("met", .int me), ("timer", .int ti), ("moment", .int mo), ("waiting", .int wa), ("asked", .int ak), ("drawn", .ref dl)], rfl, hp, c_Playing T, tx_na T (by decide +kernel), by show 12 < 1000; decide, ?_⟩
    rw [show putF "writes" (.ref wl) ([("program", .ref pg), ("base", .int b), ("hands", .ref hd), ("held", .ref th), ("first_doors", .ref ds), ("doors", .ref ds), ("met", .int me), ("timer", .int ti), ("moment", .int mo), ("waiting", .int wa), ("asked", .int ak), ("drawn", .ref dl)] : List (Str × V)) = ([("program", .ref pg), ("base", .int b), ("hands", .ref hd), ("held", .ref th), ("first_doors", .ref ds), ("doors", .ref ds), ("met", .int me), ("timer", .int ti), ("moment", .int mo), ("waiting", .int wa), ("asked", .int ak), ("drawn", .ref dl), ("writes", .ref wl)] : List (Str × V)) from by kernel_rfl]
    refine r_abs (d := q) hp trivial fun H13 d13 hp => ?_
    replace hs := sqT_chg d13 hs
    replace c0 := c0.trans d13
    replace hth := sqT_chg d13 hth
    replace hdl := d13.kp _ _ nedl hdl
    replace hwl := d13.kp _ _ newl hwl
    fail "bm_go"
    intro rl nrl
    have frl := c0.free nrl
    refine r_absV nrl fun Hrl srl hrl => ?_
    have nerl : rl ≠ q := ne_of_none' hp nrl
    replace hp := srl _ _ hp
    replace hs := sqT_same srl hs
    replace c0 := c0.step srl
    replace hth := sqT_same srl hth
    have nedlrl := ne_of_none' hdl nrl
    replace hdl := srl _ _ hdl
    have newlrl := ne_of_none' hwl nrl
    replace hwl := srl _ _ hwl
    fail "bm_go"
    refine ⟨q, 628, dx, [("program", .ref pg), ("base", .int b), ("hands", .ref hd), ("held", .ref th), ("first_doors", .ref ds), ("doors", .ref ds), ("met", .int me), ("timer", .int ti), ("moment", .int mo), ("waiting", .int wa), ("asked", .int ak), ("drawn", .ref dl), ("writes", .ref wl)], rfl, hp, c_Playing T, tx_na T (by decide +kernel), by show 13 < 1000; decide, ?_⟩
    rw [show putF "rows" (.ref rl) ([("program", .ref pg), ("base", .int b), ("hands", .ref hd), ("held", .ref th), ("first_doors", .ref ds), ("doors", .ref ds), ("met", .int me), ("timer", .int ti), ("moment", .int mo), ("waiting", .int wa), ("asked", .int ak), ("drawn", .ref dl), ("writes", .ref wl)] : List (Str × V)) = ([("program", .ref pg), ("base", .int b), ("hands", .ref hd), ("held", .ref th), ("first_doors", .ref ds), ("doors", .ref ds), ("met", .int me), ("timer", .int ti), ("moment", .int mo), ("waiting", .int wa), ("asked", .int ak), ("drawn", .ref dl), ("writes", .ref wl), ("rows", .ref rl)] : List (Str × V)) from by kernel_rfl]
    refine r_abs (d := q) hp trivial fun H14 d14 hp => ?_
    replace hs := sqT_chg d14 hs
    replace c0 := c0.trans d14
    replace hth := sqT_chg d14 hth
    replace hdl := d14.kp _ _ nedl hdl
    replace hwl := d14.kp _ _ newl hwl
    replace hrl := d14.kp _ _ nerl hrl
    fail "bm_go"
    refine ⟨q, 628, dx, [("program", .ref pg), ("base", .int b), ("hands", .ref hd), ("held", .ref th), ("first_doors", .ref ds), ("doors", .ref ds), ("met", .int me), ("timer", .int ti), ("moment", .int mo), ("waiting", .int wa), ("asked", .int ak), ("drawn", .ref dl), ("writes", .ref wl), ("rows", .ref rl)], rfl, hp, c_Playing T, tx_na T (by decide +kernel), by show 14 < 1000; decide, ?_⟩
    rw [show putF "lines" (.int 0) ([("program", .ref pg), ("base", .int b), ("hands", .ref hd), ("held", .ref th), ("first_doors", .ref ds), ("doors", .ref ds), ("met", .int me), ("timer", .int ti), ("moment", .int mo), ("waiting", .int wa), ("asked", .int ak), ("drawn", .ref dl), ("writes", .ref wl), ("rows", .ref rl)] : List (Str × V)) = ([("program", .ref pg), ("base", .int b), ("hands", .ref hd), ("held", .ref th), ("first_doors", .ref ds), ("doors", .ref ds), ("met", .int me), ("timer", .int ti), ("moment", .int mo), ("waiting", .int wa), ("asked", .int ak), ("drawn", .ref dl), ("writes", .ref wl), ("rows", .ref rl), ("lines", .int 0)] : List (Str × V)) from by kernel_rfl]
    refine r_abs (d := q) hp trivial fun H15 d15 hp => ?_
    replace hs := sqT_chg d15 hs
    replace c0 := c0.trans d15
    replace hth := sqT_chg d15 hth
    replace hdl := d15.kp _ _ nedl hdl
    replace hwl := d15.kp _ _ newl hwl
    replace hrl := d15.kp _ _ nerl hrl
    have j := c0.im
    refine k H15 ⟨pg, b, hd, th, ds, ds, me, ti, mo, wa, ak, dl, wl, rl, 0, P, i, 0, 0, []⟩ c0 ⟨⟨dx, hp⟩, ⟨hP.im j, hh.im j, hds.im j, hds.im j, a, x, z, c, m, hth, hm.im j⟩, ⟨[], hdl, Nat.le_refl _⟩, ⟨[], hwl, Nat.le_refl _, by simp⟩, ⟨[], hrl, rfl, by simp⟩, nedlwl.symm, nedlrl.symm, newlrl.symm⟩ rfl rfl rfl rfl rfl rfl rfl rfl rfl rfl (fdl nedl) (fwl newl) (frl nerl)
end
section
/-! ## E2: beats -/
def sp_pl_lb (K : PySem.W.Frag) : Sp := fun vs H Q _ => ∃ (q : Addr) (S : PlS), vs = [.ref q] ∧ PlAt K H q S ∧ ∀ (t : Addr) (H' : Hp), Same H H' → SqT K H' t [.int (S.moment / 32), .int (S.moment % 32)] → Q (.ref t) H'
theorem sc_Playing_line_beat : FnScope ["self"] ["self"] (defScope s_Playing_line_beat) := ⟨rfl, rfl, rfl, by decide +kernel, rfl, by decide +kernel, by decide +kernel⟩
theorem ok_Playing_line_beat {P : Program} {w : World} {K : PySem.W.Frag} {mg : Str → Option Value} {base : Heap} (T : Tx K mg) : Ok P w K mg base CX0 1 538 ["self"] (sp_pl_lb K) := by
  refine ok0 0 (f_Playing_line_beat T) sc_Playing_line_beat (fun _ _ _ _ _ _ us hl => match us, hl with | [_], _ => rfl) (fun vs H Q E h => ?_) (fun cdv A outer sh H vs Q E room h => ?_)
  · obtain ⟨q, S, rfl, hq, k⟩ := h
    rfl
  · obtain ⟨q, S, rfl, hq, k⟩ := h
    refine ⟨_,     (pss_one (ps_ret (pe_tup (pa_cons (pe_op op_fdiv (pe_fldK K (pv 0) rfl) (pgi (i_BEATS T) rfl)) (pa_cons (pe_op op_mod (pe_fldK K (pv 0) rfl) (pgi (i_BEATS T) rfl)) pa_nil))))), ?_⟩
    show (_ : TS) _ [_] _
    obtain ⟨dx, hp⟩ := hq.ob
    fail "bm_go"
    intro t nt
    exact k t _ (same_new nt) (SqT.of upd_same)
theorem PlAt.list {K : PySem.W.Frag} {H : Hp} {q : Addr} {S : PlS} (h : PlAt K H q S) {ds : List Int} (n : Nat) (hl : ds.length ≤ n) : PlAt K (upd H S.dl (.lst (ds.map V.int))) q { S with dn := n } := by
  obtain ⟨⟨dx, h1⟩, h2, ⟨ds', h3, h4⟩, ⟨ws, h5, h6, h7⟩, ⟨rs, h8, h9⟩, n1, n2, n3⟩ := h
  have i := Im.mut (o := .lst (ds.map V.int)) h3 trivial
  have j := h2.im i
  exact ⟨⟨dx, gM h3 h1 (by intro q; cases q)⟩, ⟨j.p, j.hands, j.fdo, j.doors, j.held⟩, ⟨ds, upd_same, hl⟩, ⟨ws, gD n1.symm h5, h6, wr_im h7 i⟩, ⟨rs, gD n2.symm h8, h9.im i⟩, n1, n2, n3⟩
theorem PlAt.dn_le {K : PySem.W.Frag} {H : Hp} {q : Addr} {S : PlS} (h : PlAt K H q S) (n : Nat) (hn : S.dn ≤ n) : PlAt K H q { S with dn := n } := by
  obtain ⟨h1, h2, ⟨ds', h3, h4⟩, h5, h6, n1, n2, n3⟩ := h
  exact ⟨h1, ⟨h2.p, h2.hands, h2.fdo, h2.doors, h2.held⟩, ⟨ds', h3, by show _ ≤ n; omega⟩, h5, h6, n1, n2, n3⟩
def sp_pl_draw (K : PySem.W.Frag) : Sp := fun vs H Q _ => ∃ (q : Addr) (S : PlS), vs = [.ref q] ∧ PlAt K H q S ∧ S.dn ≤ 5000 ∧ ∀ (me : Int) (H' : Hp), Chs (S.os q) H H' → PlAt K H' q { S with met := me, dn := S.dn + 2 } → Q .non H'
theorem sc_Playing_draw : FnScope ["self", "place"] ["self"] (defScope s_Playing_draw) := ⟨rfl, rfl, rfl, by decide +kernel, rfl, by decide +kernel, by decide +kernel⟩
theorem ok_Playing_draw {P : Program} {w : World} {K : PySem.W.Frag} {mg : Str → Option Value} {base : Heap} (T : Tx K mg) : Ok P w K mg base CX0 4 545 ["self"] (sp_pl_draw K) := by
  refine ok0 3 (f_Playing_draw T) sc_Playing_draw (fun _ _ _ _ _ _ us hl => match us, hl with | [_], _ => rfl) (fun vs H Q E h => ?_) (fun cdv A outer sh H vs Q E room h => ?_)
  · obtain ⟨q, S, rfl, hq, hn, k⟩ := h
    rfl
  · obtain ⟨q, S, rfl, hq, hn, k⟩ := h
    refine ⟨_,     (pss_cons (ps_if (pt_cmpR op_gt (pe_fldK K (pv 0) rfl) pe_int (nomark _))
          (pss_one ps_retN) pss_nil)
        (pss_one (ps_for PassesOwn.never rfl (pi_tupK K (pc (ok_drawn_in (K := K) T) (room.mono (by decide)) rfl (g_drawn_in T) pass0 (pa_cons (pe_op op_mod (pe_fldK K (pv 0) rfl) (pgi (i_BEATS T) rfl)) pa_nil))) (pg_name (i := 1) sc_Playing_draw.nd rfl (Or.inl rfl))
          (pss_cons (ps_expr (pe_bmK K PySem.F.plainAttrs_list PySem.F.slot_list_append PySem.F.type_list_append mt_append (pe_fldK K (pv 0) rfl) (pa_cons (pc (ok_colour (K := K) T) (room.mono (by decide)) rfl (g_colour T) pass0 (pa_cons (pe_fldK K (pv 0) rfl) (pa_cons (pv 1) pa_nil))) pa_nil)))
          (pss_one (ps_fldK K (pv 0) (pe_op op_or (pe_fldK K (pv 0) rfl) (pc (ok_meetings (K := K) T) (room.mono (by decide)) rfl (g_meetings T) pass0 (pa_cons (pe_fldK K (pv 0) rfl) (pa_cons (pv 1) pa_nil)))) rfl)))))), ?_⟩
    show (_ : TS) _ [_, none] _
    obtain ⟨dx, hp⟩ := hq.ob
    fail "bm_go"
    refine r_ifD (fun _ => ?_) (fun _ => ?_)
    · fail "bm_go"
      exact k S.met H Chs.refl (hq.dn_le _ (by omega))
    fail "bm_go"
    have h0 := Int.emod_nonneg S.moment (show (32 : Int) ≠ 0 by omega)
    have h1 := Int.emod_lt_of_pos S.moment (show (0 : Int) < 32 by omega)
    obtain ⟨n, hn2⟩ := Int.eq_ofNat_of_zero_le h0
    rw [hn2] at h1 ⊢
    refine ⟨n, rfl, by omega, fun v ns H1 s1 hl hns hv => ?_⟩
    obtain ⟨t, rfl, ht⟩ := hv
    have hq1 := hq.same s1
    refine forT (xs := ns.map fun (m : Nat) => V.int (m : Int)) (fun i σ H' => (∃ o, σ = [some (.ref q), o]) ∧ Chs (S.os q) H1 H' ∧ ∃ me, PlAt K H' q { S with met := me, dn := S.dn + i }) ht ⟨⟨none, rfl⟩, Chs.refl, S.met, hq1⟩ (fun i σ H' p => p.2.1.im) (fun i x σ H' hx p => ?_) (fun σ H' p => ?_)
    · obtain ⟨⟨o, rfl⟩, c, me, hS⟩ := p
      have hi := (List.getElem?_eq_some_iff.mp hx).1
      rw [List.length_map] at hi
      obtain ⟨m, rfl, hm⟩ : ∃ m : Nat, x = .int (m : Int) ∧ m < 48 := by
        rw [List.getElem?_map, List.getElem?_eq_getElem hi] at hx
        exact ⟨ns[i], (Option.some.inj hx).symm, hns _ (List.getElem_mem _)⟩
      obtain ⟨dx2, hp2⟩ := hS.ob
      dsimp only [PlS.fs] at hp2
      obtain ⟨ds, hd, hdl⟩ := hS.dr
      dsimp only at hd hdl
      have hdo := hS.im.doors
      fail "bm_go"
      refine ⟨S.doors, m, rfl, hdo, hm, fun cl H2 s2 => ?_⟩
      fail "bm_go"
      have hS2 := hS.same s2
      have hd2 := s2 _ _ hd
      refine r_app hd2 (szl (by rw [List.length_map]; omega)) ?_
      have e : ds.map V.int ++ [V.int cl] = (ds ++ [cl]).map V.int := by simp
      rw [e]
      have hS3 := hS2.list (ds := ds ++ [cl]) (S.dn + (i + 1)) (by simp; omega)
      have c3 := (c.step s2).put (d := S.dl) (o := .lst ((ds ++ [cl]).map V.int)) (by simp) hd2 trivial
      dsimp only at hS3 ⊢
      revert hS3 c3
      generalize upd H2 S.dl (.lst ((ds ++ [cl]).map V.int)) = H3
      intro hS3 c3
      obtain ⟨dx3, hp3⟩ := hS3.ob
      dsimp only [PlS.fs] at hp3
      have hdo3 := hS3.im.doors
      fail "bm_go"
      refine ⟨S.doors, m, rfl, hdo3, hm, fun mt H4 s4 => ?_⟩
      have hS4 := hS3.same s4
      obtain ⟨dx4, hp4⟩ := hS4.ob
      dsimp only [PlS.fs] at hp4
      fail "bm_go"
      refine ⟨q, 628, dx4, _, rfl, hp4, c_Playing T, tx_na T (by decide +kernel), plf_len, ?_⟩
      rw [plp_met]
      exact ⟨⟨_, rfl⟩, (c3.step s4).put (by simp) hp4 trivial, _, hS4.ints (dx := dx4) _ S.timer S.moment S.waiting S.asked S.lines⟩
    · obtain ⟨⟨o, rfl⟩, c, me, hS⟩ := p
      fail "bm_go"
      rw [List.length_map] at hS
      refine k me H' ((Chs.of s1).trans c) (hS.dn_le (S.dn + 2) (by show S.dn + ns.length ≤ _; omega))
def sp_pl_end (K : PySem.W.Frag) : Sp := fun vs H Q _ => ∃ (q : Addr) (S : PlS), vs = [.ref q] ∧ PlAt K H q S ∧ S.dn ≤ 5000 ∧ ∀ (me ti : Int) (H' : Hp), Chs (S.os q) H H' → PlAt K H' q { S with met := me, timer := ti, dn := S.dn + 2 } → Q .non H'
theorem sc_Playing_end_beat : FnScope ["self"] ["self"] (defScope s_Playing_end_beat) := ⟨rfl, rfl, rfl, by decide +kernel, rfl, by decide +kernel, by decide +kernel⟩
theorem ok_Playing_end_beat {P : Program} {w : World} {K : PySem.W.Frag} {mg : Str → Option Value} {base : Heap} (T : Tx K mg) : Ok P w K mg base CX0 5 552 ["self"] (sp_pl_end K) := by
  refine ok0 4 (f_Playing_end_beat T) sc_Playing_end_beat (fun _ _ _ _ _ _ us hl => match us, hl with | [_], _ => rfl) (fun vs H Q E h => ?_) (fun cdv A outer sh H vs Q E room h => ?_)
  · obtain ⟨q, S, rfl, hq, hn, k⟩ := h
    rfl
  · obtain ⟨q, S, rfl, hq, hn, k⟩ := h
    refine ⟨_,     (pss_cons (ps_expr (pm0 (ok_Playing_draw (K := K) T) (room.mono (by decide)) (c_Playing T) (m_Playing_draw T) pass0 (pv 0)))
        (pss_one (ps_fldK K (pv 0) (pe_callB (call_maxN rfl) (by rfl) (n_max T) (by decide +kernel) (pa_cons pe_int (pa_cons (pe_op op_sub (pe_fldK K (pv 0) rfl) pe_int) pa_nil))) rfl))), ?_⟩
    show (_ : TS) _ [_] _
    obtain ⟨dx, hp⟩ := hq.ob
    fail "bm_go"
    refine ⟨q, S, rfl, hq, hn, fun me H1 c1 h1 => ?_⟩
    obtain ⟨dx1, hp1⟩ := h1.ob
    dsimp only [PlS.fs] at hp1
    fail "bm_go"
    exact k _ _ _ (c1.put (by simp) hp1 trivial) (h1.ints (dx := dx1) me _ S.moment S.waiting S.asked S.lines)
/-- how the lines may change -/
def Ln (l m l' m' : Int) : Prop := m ≤ m' ∧ ((l' = l ∧ (l = 0 → m' < 1280)) ∨ (l = 0 ∧ m < 32 * l' ∧ 32 * l' ≤ m' ∧ 0 < l' ∧ l' ≤ 40))
theorem Ln.trans {l m l' m' l'' m'' : Int} (a : Ln l m l' m') (b : Ln l' m' l'' m'') : Ln l m l'' m'' := by
  unfold Ln at a b ⊢
  omega
/-- the way out by an exception -/
def Outs (L : List Addr) (H : Hp) (E : XK) : Prop := ∀ H', Chs L H H' → E (.ref aNoFrame) none H'
theorem Outs.chs {L : List Addr} {H H1 : Hp} {E : XK} (h : Outs L H E) (c : Chs L H H1) : Outs L H1 E := fun H' c' => h H' (c.trans c')
structure Bt (S S' : PlS) (n : Int) : Prop where
  mo : S'.moment = S.moment + n
  ln : Ln S.lines S.moment S'.lines S'.moment
  eq : S' = { S with met := S'.met, timer := S'.timer, moment := S'.moment, asked := S'.asked, lines := S'.lines, dn := S'.dn }
def sp_pl_next (K : PySem.W.Frag) : Sp := fun vs H Q E => ∃ (q : Addr) (S : PlS), vs = [.ref q] ∧ PlAt K H q S ∧ 0 ≤ S.moment ∧ (S.lines = 0 → S.moment < 1280) ∧ Outs (S.os q) H E ∧
  ∀ (ak li : Int) (H' : Hp), Chs (S.os q) H H' → Ln S.lines S.moment li (S.moment + 1) → PlAt K H' q { S with moment := S.moment + 1, asked := ak, lines := li } → Q .non H'
theorem sc_Playing_next_beat : FnScope ["self", "line", "beat"] ["self"] (defScope s_Playing_next_beat) := ⟨rfl, rfl, rfl, by decide +kernel, rfl, by decide +kernel, by decide +kernel⟩
theorem ok_Playing_next_beat {P : Program} {w : World} {K : PySem.W.Frag} {mg : Str → Option Value} {base : Heap} (T : Tx K mg) : Ok P w K mg base (L2.CX P w) 2 559 ["self"] (sp_pl_next K) := by
  refine okX 1 (f_Playing_next_beat T) sc_Playing_next_beat (fun _ _ _ _ _ _ us hl => match us, hl with | [_], _ => rfl) (fun vs H Q E h => ?_) (fun cdv A outer sh H vs Q E room h => ?_)
  · obtain ⟨q, S, rfl, hq, h0, hlt, ho, k⟩ := h
    rfl
  · obtain ⟨q, S, rfl, hq, h0, hlt, ho, k⟩ := h
    refine ⟨_,     (pss_cons (ps_asg (pm0 (ok_Playing_line_beat (K := K) T) (room.mono (by decide)) (c_Playing T) (m_Playing_line_beat T) pass0 (pv 0)) (pg_tupK K (n := 2) rfl (pgs_cons (pg_name (i := 1) sc_Playing_next_beat.nd rfl (Or.inl rfl)) (pgs_cons (pg_name (i := 2) sc_Playing_next_beat.nd rfl (Or.inl rfl)) pgs_nil))))
        (pss_cons (ps_fldaugK K (pv 0) pe_int in_add)
        (pss_one (ps_if (PW.pt (pw_and (pt_cmpR op_eq (pv 2) (pgi (i_LAST_BEAT T) rfl) (nomark _)) (pw_and1 (pt_cmpR op_eq (pe_fldK K (pv 0) rfl) pe_int (nomark _)))))
          (pss_one (ps_if (pt_cmpR op_eq (pe_fldK K (pv 0) rfl) pe_int (nomark _))
            (pss_cons (ps_fldK K (pv 0) (pe_op op_add (pv 1) pe_int) rfl)
            (pss_one (ps_fldK K (pv 0) pe_int rfl)))
            (pss_one (ps_if (pt_cmpR op_eq (pe_op op_add (pv 1) pe_int) (pgi (i_MOST_LINES T) rfl) (nomark _))
              (pss_one (ps_raise rfl (takes_of rfl rfl rfl rfl) (pmk_own PySem.F.excBase_ValueError T.exc.1 (g_NoFrame T) T.exc.2.1 (raises_own T.exc.2.2.1 T.exc.2.2.2.1) rfl))) pss_nil)))) pss_nil)))), ?_⟩
    show (_ : TS) _ [_, none, none] _
    obtain ⟨dx, hp⟩ := hq.ob
    fail "bm_go"
    refine ⟨q, S, rfl, hq, fun t H1 s1 ht => ?_⟩
    have hq1 := hq.same s1
    have hp1 := s1 _ _ hp
    fail "bm_go"
    have c1 : Chs (S.os q) H H1 := Chs.of s1
    have put : ∀ ak li : Int, Chs (S.os q) H (upd H1 q (.ins 628 dx (plf S.pg S.base S.hands S.held S.fdo S.doors S.met S.timer (S.moment + 1) S.waiting ak S.dl S.wl S.rl li))) := fun ak li => c1.put (by simp) hp1 trivial
    have fin : ∀ ak li : Int, Ln S.lines S.moment li (S.moment + 1) → Q .non (upd H1 q (.ins 628 dx (plf S.pg S.base S.hands S.held S.fdo S.doors S.met S.timer (S.moment + 1) S.waiting ak S.dl S.wl S.rl li))) := fun ak li hl =>
      k ak li _ (put ak li) hl (hq1.ints (dx := dx) S.met S.timer (S.moment + 1) S.waiting ak li)
    have dm := Int.emod_add_mul_ediv S.moment 32
    refine r_ifD (fun e1 => ?_) (fun e1 => ?_)
    · have e1 : S.moment % 32 = 31 := by simpa using e1
      fail "bm_go"
      refine r_ifD (fun e2 => ?_) (fun e2 => ?_)
      · have e2 : S.lines = 0 := by simpa using e2
        fail "bm_go"
        refine r_ifD (fun e3 => ?_) (fun e3 => ?_)
        · fail "bm_go"
          simp only [upd_upd]
          exact fin _ _ (by unfold Ln; have := hlt e2; omega)
        fail "bm_go"
        refine r_ifD (fun e4 => ?_) (fun e4 => ?_)
        · exact ho _ (put _ _)
        · have e4 : ¬ (S.moment / 32 + 1 = 40) := by simpa using e4
          fail "bm_go"
          exact fin _ _ (by unfold Ln; have := hlt e2; omega)
      · have e2 : ¬ (S.lines = 0) := by simpa using e2
        fail "bm_go"
        exact fin _ _ (by unfold Ln; omega)
    · have e1 : ¬ (S.moment % 32 = 31) := by simpa using e1
      fail "bm_go"
      exact fin _ _ (by unfold Ln; have := hlt; omega)
def sp_pl_beats (K : PySem.W.Frag) : Sp := fun vs H Q E => ∃ (q : Addr) (S : PlS) (n : Nat), vs = [.ref q, .int n] ∧ PlAt K H q S ∧ S.dn + 2 * n ≤ 5000 ∧ 0 ≤ S.moment ∧ (S.lines = 0 → S.moment < 1280) ∧ Outs (S.os q) H E ∧
  ∀ (me ti ak li : Int) (H' : Hp), Chs (S.os q) H H' → Ln S.lines S.moment li (S.moment + n) → PlAt K H' q { S with met := me, timer := ti, moment := S.moment + n, asked := ak, lines := li, dn := S.dn + 2 * n } → Q .non H'
theorem Ln.lt {l m l' m' : Int} (h : Ln l m l' m') : l' = 0 → m' < 1280 := by
  unfold Ln at h
  omega
theorem sc_Playing_pass_beats : FnScope ["self", "many", "turn"] ["self", "many"] (defScope s_Playing_pass_beats) := ⟨rfl, rfl, rfl, by decide +kernel, rfl, by decide +kernel, by decide +kernel⟩
theorem ok_Playing_pass_beats {P : Program} {w : World} {K : PySem.W.Frag} {mg : Str → Option Value} {base : Heap} (T : Tx K mg) : Ok P w K mg base (L2.CX P w) 6 566 ["self", "many"] (sp_pl_beats K) := by
  refine okX 5 (f_Playing_pass_beats T) sc_Playing_pass_beats (fun _ _ _ _ _ _ us hl => match us, hl with | [_, _], _ => rfl) (fun vs H Q E h => ?_) (fun cdv A outer sh H vs Q E room h => ?_)
  · obtain ⟨q, S, n, rfl, hq, hn, h0, hlt, ho, k⟩ := h
    rfl
  · obtain ⟨q, S, n, rfl, hq, hn, h0, hlt, ho, k⟩ := h
    refine ⟨_,     (pss_one (ps_for (passes_of rfl) rfl (pi_range1 rfl (n_range T) (pa_cons (pv 1) pa_nil)) (pg_name (i := 2) sc_Playing_pass_beats.nd rfl (Or.inl rfl))
          (pss_cons (ps_expr (pm0 (ok_Playing_end_beat (K := K) T) (room.mono (by decide)) (c_Playing T) (m_Playing_end_beat T) pass0 (pv 0)))
          (pss_one (ps_expr (pm0 (ok_Playing_next_beat (K := K) T) (room.mono (by decide)) (c_Playing T) (m_Playing_next_beat T) (passes_call (takes_of rfl rfl rfl rfl) (fun _ _ _ _ h => h)) (pv 0))))))), ?_⟩
    show (_ : TS) _ [_, _, none] _
    fail "bm_go"
    refine forN (fun i σ H' => i ≤ n ∧ (∃ o, σ = [some (.ref q), some (.int n), o]) ∧ Chs (S.os q) H H' ∧ ∃ me ti ak li : Int, Ln S.lines S.moment li (S.moment + i) ∧ PlAt K H' q { S with met := me, timer := ti, moment := S.moment + i, asked := ak, lines := li, dn := S.dn + 2 * i })
      (by omega) (by omega) ⟨Nat.zero_le _, ⟨none, rfl⟩, Chs.refl, S.met, S.timer, S.asked, S.lines, by unfold Ln; have := hlt; constructor <;> simp <;> omega, ?_⟩ (fun i σ H' hi p => ?_) (fun σ H' p => ?_)
    · simpa using hq
    · obtain ⟨hi2, ⟨o, rfl⟩, c, me, ti, ak, li, hl, hS⟩ := p
      obtain ⟨dx1, hp1⟩ := hS.ob
      fail "bm_go"
      refine ⟨q, _, rfl, hS, by show S.dn + 2 * i ≤ 5000; omega, fun me2 ti2 H1 c1 hS1 => ?_⟩
      obtain ⟨dx2, hp2⟩ := hS1.ob
      fail "bm_go"
      refine ⟨q, _, rfl, hS1, by show 0 ≤ S.moment + (i : Int); omega, hl.lt, (ho.chs c).chs c1, fun ak2 li2 H2 c2 hl2 hS2 => ?_⟩
      fail "bm_go"
      have e : S.moment + ((i + 1 : Nat) : Int) = S.moment + (i : Int) + 1 := by omega
      refine ⟨by omega, ⟨_, rfl⟩, (c.trans c1).trans c2, me2, ti2, ak2, li2, ?_, ?_⟩
      · rw [e]
        exact hl.trans hl2
      · rw [e, show S.dn + 2 * (i + 1) = S.dn + 2 * i + 2 by omega]
        exact hS2
    · obtain ⟨hi2, ⟨o, rfl⟩, c, me, ti, ak, li, hl, hS⟩ := p
      rw [Int.toNat_natCast] at hl hS
      exact k me ti ak li H' c hl hS
def sp_pl_line (K : PySem.W.Frag) : Sp := fun vs H Q E => ∃ (q : Addr) (S : PlS), vs = [.ref q] ∧ PlAt K H q S ∧ S.dn ≤ 4800 ∧ 0 ≤ S.moment ∧ (S.lines = 0 → S.moment < 1280) ∧ Outs (S.os q) H E ∧
  ∀ (me ti ak li : Int) (n : Nat) (H' : Hp), Chs (S.os q) H H' → Ln S.lines S.moment li (S.moment + n) → (S.moment + n) % 32 = 0 → n ≤ 31 → PlAt K H' q { S with met := me, timer := ti, moment := S.moment + n, asked := ak, lines := li, dn := S.dn + 2 * n } → Q .non H'
theorem sc_Playing_pass_line : FnScope ["self"] ["self"] (defScope s_Playing_pass_line) := ⟨rfl, rfl, rfl, by decide +kernel, rfl, by decide +kernel, by decide +kernel⟩
theorem ok_Playing_pass_line {P : Program} {w : World} {K : PySem.W.Frag} {mg : Str → Option Value} {base : Heap} (T : Tx K mg) : Ok P w K mg base (L2.CX P w) 7 573 ["self"] (sp_pl_line K) := by
  refine okX 6 (f_Playing_pass_line T) sc_Playing_pass_line (fun _ _ _ _ _ _ us hl => match us, hl with | [_], _ => rfl) (fun vs H Q E h => ?_) (fun cdv A outer sh H vs Q E room h => ?_)
  · obtain ⟨q, S, rfl, hq, hn, h0, hlt, ho, k⟩ := h
    rfl
  · obtain ⟨q, S, rfl, hq, hn, h0, hlt, ho, k⟩ := h
    refine ⟨_,     (pss_one (ps_while (passes_of rfl) (pt_cmpR op_gt (pe_op op_mod (pe_fldK K (pv 0) rfl) (pgi (i_BEATS T) rfl)) pe_int (nomark _))
          (pss_one (ps_expr (pm (ok_Playing_pass_beats (K := K) T) (room.mono (by decide)) (c_Playing T) (m_Playing_pass_beats T) (passes_call (takes_of rfl rfl rfl rfl) (fun _ _ _ _ h => h)) (pv 0) (pa_cons pe_int pa_nil)))))), ?_⟩
    show (_ : TS) _ [_] _
    refine ⟨fun m σ H' => σ = [some (.ref q)] ∧ Chs (S.os q) H H' ∧ ∃ (n : Nat) (me ti ak li : Int), (m : Int) = (- (S.moment + n)) % 32 ∧ n + m ≤ 31 ∧ Ln S.lines S.moment li (S.moment + n) ∧ PlAt K H' q { S with met := me, timer := ti, moment := S.moment + n, asked := ak, lines := li, dn := S.dn + 2 * n },
      ⟨((-S.moment) % 32).toNat, rfl, Chs.refl, 0, S.met, S.timer, S.asked, S.lines, ?_, ?_, ?_, ?_⟩, fun m σ H' p => ?_⟩
    · simp
      omega
    · omega
    · unfold Ln
      have := hlt
      constructor <;> simp <;> omega
    · simpa using hq
    · obtain ⟨rfl, c, n, me, ti, ak, li, e1, e2, hl, hS⟩ := p
      obtain ⟨dx1, hp1⟩ := hS.ob
      dsimp only [PlS.fs] at hp1
      fail "bm_go"
      refine r_ifD (fun hc => ?_) (fun hc => ?_)
      · refine ⟨fun σ' H' => ∃ m', m' < m ∧ _, fun _ _ h => h, ?_⟩
        fail "bm_go"
        refine ⟨q, _, 1, rfl, hS, by show S.dn + 2 * n + 2 * 1 ≤ 5000; omega, by show 0 ≤ S.moment + (n : Int); omega, hl.lt, ho.chs c, fun me2 ti2 ak2 li2 H2 c2 hl2 hS2 => ?_⟩
        have e : S.moment + ((n + 1 : Nat) : Int) = S.moment + (n : Int) + 1 := by omega
        refine ⟨m - 1, by omega, rfl, c.trans c2, n + 1, me2, ti2, ak2, li2, ?_, ?_, ?_, ?_⟩
        · omega
        · omega
        · rw [e]
          exact hl.trans hl2
        · rw [e, show S.dn + 2 * (n + 1) = S.dn + 2 * n + 2 by omega]
          exact hS2
      · fail "bm_go"
        exact k me ti ak li n H' c hl (by omega) (by omega) hS
end
section
/-! ## E3: rows -/
theorem r_stE {K : PySem.W.Frag} {a C dx : Addr} {fs fs' : List (Str × V)} {f : Str} {y : V} {H : Hp} {g : Hp → Prop} (ea : H a = some (.ins C dx fs)) (c : Cls K C) (n : NoAttr K C f) (hl : fs.length < 1000) (e : putF f y fs = fs') (q : g (upd H a (.ins C dx fs'))) :
    ∃ a' C dx fs, V.ref a = .ref a' ∧ H a' = some (.ins C dx fs) ∧ Cls K C ∧ NoAttr K C f ∧ fs.length < 1000 ∧ g (upd H a' (.ins C dx (putF f y fs))) := ⟨a, C, dx, fs, rfl, ea, c, n, hl, by rw [e]; exact q⟩
local macro_rules | `(tactic| fail "bm_go1") => `(tactic| ((with_reducible apply r_stE); fail "bm_hp"; fail "bm_cls"; fail "bm_na"; fail "bm_len"; fail "bm_put"))
def sp_pl_eye (K : PySem.W.Frag) : Sp := fun vs H Q _ => ∃ (q : Addr) (S : PlS) (n : Nat) (l : Int), vs = [.ref q, .int n, .int l] ∧ PlAt K H q S ∧ n < 6 ∧ ∀ (k : Int) (H' : Hp), Same H H' → Q (.int k) H'
theorem sc_Playing_eye : FnScope ["self", "number", "line"] ["self", "number", "line"] (defScope s_Playing_eye) := ⟨rfl, rfl, rfl, by decide +kernel, rfl, by decide +kernel, by decide +kernel⟩
theorem ok_Playing_eye {P : Program} {w : World} {K : PySem.W.Frag} {mg : Str → Option Value} {base : Heap} (T : Tx K mg) : Ok P w K mg base CX0 1 580 ["self", "number", "line"] (sp_pl_eye K) := by
  refine ok0 0 (f_Playing_eye T) sc_Playing_eye (fun _ _ _ _ _ _ us hl => match us, hl with | [_, _, _], _ => rfl) (fun vs H Q E h => ?_) (fun cdv A outer sh H vs Q E room h => ?_)
  · obtain ⟨q, S, n, l, rfl, hq, hn, k⟩ := h
    rfl
  · obtain ⟨q, S, n, l, rfl, hq, hn, k⟩ := h
    refine ⟨_,     (pss_cons (ps_if (pt_cmpR op_lt (pv 1) pe_int (nomark _))
          (pss_one (ps_ret (pe_ix (ix_tupK K) (pe_fldK K (pv 0) rfl) (pv 1) (fun _ _ => rfl)))) pss_nil)
        (pss_one (ps_ret (pe_ix (ix_tupK K) (pe_tup (pa_cons (pe_fldK K (pv 0) rfl) (pa_cons (pe_op op_fdiv (pe_op op_sub (pe_op op_add (pe_fldK K (pv 0) rfl) (pgi (i_TICKS T) rfl)) pe_int) (pgi (i_TICKS T) rfl)) (pa_cons (pv 2) pa_nil)))) (pe_op op_sub (pv 1) pe_int) (fun _ _ => rfl))))), ?_⟩
    show (_ : TS) _ [_, _, _] _
    obtain ⟨dx, hp⟩ := hq.ob
    obtain ⟨hs, hl, hh⟩ := hq.im.hands
    fail "bm_go"
    refine r_ifD (fun h => ?_) (fun h => ?_)
    · obtain ⟨d, hd⟩ := atI_ints (ds := hs) (i := (n : Int)) (by omega) (by omega)
      fail "bm_go"
      exact k _ _ (Same.refl _)
    · obtain rfl | rfl | rfl : n = 3 ∨ n = 4 ∨ n = 5 := by omega
      all_goals
        fail "bm_go"
        intro t nt
        fail "bm_go"
        exact k _ _ (same_new nt)
theorem PlAt.put {K : PySem.W.Frag} {H : Hp} {q dx : Addr} {S : PlS} (h : PlAt K H q S) (S' : PlS) (e1 : S'.dl = S.dl) (e2 : S'.wl = S.wl) (e3 : S'.rl = S.rl) (e4 : S'.dn = S.dn) (e5 : S'.wn = S.wn) (e6 : S'.tr = S.tr) (im : PlIm K H S') : PlAt K (upd H q (.ins 628 dx S'.fs)) q S' := by
  obtain ⟨⟨dx0, h1⟩, h2, ⟨ds, h3, h4⟩, ⟨ws, h5, h6, h7⟩, ⟨rs, h8, h9⟩, n1, n2, n3⟩ := h
  have i := Im.mut (o := .ins 628 dx S'.fs) h1 trivial
  refine ⟨⟨_, upd_same⟩, im.im i, ⟨ds, ?_, by rw [e4]; exact h4⟩, ⟨ws, ?_, by rw [e5]; exact h6, wr_im h7 i⟩, ⟨rs, ?_, by rw [e6]; exact h9.im i⟩, by rw [e1, e2]; exact n1, by rw [e1, e3]; exact n2, by rw [e2, e3]; exact n3⟩
  · rw [e1]
    exact gM h1 h3 (by intro q; cases q)
  · rw [e2]
    exact gM h1 h5 (by intro q; cases q)
  · rw [e3]
    exact gM h1 h8 (by intro q; cases q)
theorem PlAt.wapp {K : PySem.W.Frag} {H : Hp} {q : Addr} {S : PlS} (h : PlAt K H q S) {ws : List V} {t : Addr} {i j k : Int} (hw : H S.wl = some (.lst ws)) (ht : SqT K H t [.int i, .int j, .int k]) : PlAt K (upd H S.wl (.lst (ws ++ [.ref t]))) q { S with wn := S.wn + 1 } := by
  obtain ⟨⟨dx0, h1⟩, h2, ⟨ds, h3, h4⟩, ⟨ws', h5, h6, h7⟩, ⟨rs, h8, h9⟩, n1, n2, n3⟩ := h
  rw [hw] at h5
  cases h5
  have im := Im.mut (o := .lst (ws ++ [.ref t])) hw trivial
  have j' := h2.im im
  refine ⟨⟨dx0, gM hw h1 (by intro q; cases q)⟩, ⟨j'.p, j'.hands, j'.fdo, j'.doors, j'.held⟩, ⟨ds, gD n1 h3, h4⟩, ⟨_, upd_same, by simp; omega, fun w hw' => ?_⟩, ⟨rs, gD n3.symm h8, h9.im im⟩, n1, n2, n3⟩
  rcases List.mem_append.mp hw' with hw' | hw'
  · exact wr_im h7 im w hw'
  · rw [List.mem_singleton.mp hw']
    exact ⟨i, j, k, t, rfl, sqT_im im ht⟩
theorem PlAt.rapp {K : PySem.W.Frag} {H : Hp} {q : Addr} {S : PlS} (h : PlAt K H q S) {rs : List V} {t : Addr} {n : Nat} {m : Int} (hw : H S.rl = some (.lst rs)) (ht : SqT K H t [.int n, .int (m / 32), .int (m % 32)]) : PlAt K (upd H S.rl (.lst (rs ++ [.ref t]))) q { S with tr := S.tr ++ [(n, m)] } := by
  obtain ⟨⟨dx0, h1⟩, h2, ⟨ds, h3, h4⟩, ⟨ws, h5, h6, h7⟩, ⟨rs', h8, h9⟩, n1, n2, n3⟩ := h
  rw [hw] at h8
  cases h8
  have im := Im.mut (o := .lst (rs ++ [.ref t])) hw trivial
  have j' := h2.im im
  refine ⟨⟨dx0, gM hw h1 (by intro q; cases q)⟩, ⟨j'.p, j'.hands, j'.fdo, j'.doors, j'.held⟩, ⟨ds, gD n2 h3, h4⟩, ⟨ws, gD n3 h5, h6, wr_im h7 im⟩, ⟨_, upd_same, by simp [h9.1], fun k v e a b => ?_⟩, n1, n2, n3⟩
  by_cases hk : k < rs.length
  · rw [List.getElem?_append_left hk] at a
    rw [List.getElem?_append_left (by rw [← h9.1]; exact hk)] at b
    exact tupV_im (h9.2 k v e a b) im
  · have hk2 := (List.getElem?_eq_some_iff.mp a).1
    have hk3 : k = rs.length := by simp at hk2; omega
    subst hk3
    have a' : (V.ref t) = v := by simpa using a
    have b' : (n, m) = e := by
      rw [h9.1] at b
      simpa using b
    subst a' b'
    exact ⟨t, rfl, sqT_im im ht⟩
def sp_pl_write (K : PySem.W.Frag) : Sp := fun vs H Q _ => ∃ (q : Addr) (S : PlS) (d : Nat), vs = [.ref q, .int d] ∧ PlAt K H q S ∧ d < 20 ∧ S.wn ≤ 5000 ∧
  ∀ (ds : Addr) (me ti ak : Int) (H' : Hp), Chs (S.os q) H H' → PlAt K H' q { S with doors := ds, met := me, timer := ti, asked := ak, wn := S.wn + 1 } → Q .non H'
theorem sc_Playing_write : FnScope ["self", "door", "a"] ["self", "door"] (defScope s_Playing_write) := ⟨rfl, rfl, rfl, by decide +kernel, rfl, by decide +kernel, by decide +kernel⟩
theorem ok_Playing_write {P : Program} {w : World} {K : PySem.W.Frag} {mg : Str → Option Value} {base : Heap} (T : Tx K mg) : Ok P w K mg base CX0 2 587 ["self", "door"] (sp_pl_write K) := by
  refine ok0 1 (f_Playing_write T) sc_Playing_write (fun _ _ _ _ _ _ us hl => match us, hl with | [_, _], _ => rfl) (fun vs H Q E h => ?_) (fun cdv A outer sh H vs Q E room h => ?_)
  · obtain ⟨q, S, d, rfl, hq, hd, hwn, k⟩ := h
    rfl
  · obtain ⟨q, S, d, rfl, hq, hd, hwn, k⟩ := h
    refine ⟨_,     (pss_cons (ps_set (i := 2) sc_Playing_write.nd rfl (Or.inl rfl) (pe_ix (ix_tupK K) (pe_fldK K (pv 0) rfl) pe_int (fun _ _ => rfl)))
        (pss_cons (ps_fldK K (pv 0) (pc (ok_with_door (K := K) T) (room.mono (by decide)) rfl (g_with_door T) pass0 (pa_cons (pe_fldK K (pv 0) rfl) (pa_cons (pv 1) (pa_cons (pv 2) pa_nil)))) rfl)
        (pss_cons (ps_expr (pe_bmK K PySem.F.plainAttrs_list PySem.F.slot_list_append PySem.F.type_list_append mt_append (pe_fldK K (pv 0) rfl) (pa_cons (pe_tup (pa_cons (pe_op op_add (pe_fldK K (pv 0) rfl) pe_int) (pa_cons (pv 1) (pa_cons (pv 2) pa_nil)))) pa_nil)))
        (pss_one (ps_if (pt_cmpR op_eq (pv 1) (pgi (i_ASK T) rfl) (nomark _))
          (pss_one (ps_fldK K (pv 0) pe_int rfl))
          (pss_one (ps_if (pt_cmpR op_eq (pv 1) (pgi (i_CLEAR T) rfl) (nomark _))
            (pss_one (ps_fldK K (pv 0) pe_int rfl))
            (pss_one (ps_if (pt_cmpR op_eq (pv 1) (pgi (i_TIMER T) rfl) (nomark _))
              (pss_one (ps_fldK K (pv 0) (pe_op op_mul (pgi (i_TICKS T) rfl) (pv 2)) rfl)) pss_nil))))))))), ?_⟩
    show (_ : TS) _ [_, _, none] _
    obtain ⟨dx, hp⟩ := hq.ob
    obtain ⟨a, x, z, c, m, hh, hm⟩ := hq.im.held
    have hdo := hq.im.doors
    fail "bm_go"
    refine ⟨S.doors, d, a, rfl, hdo, hd, fun u H1 s1 hu => ?_⟩
    have hq1 := hq.same s1
    obtain ⟨dx1, hp1⟩ := hq1.ob
    fail "bm_go"
    have hq2 := hq1.put (dx := dx1) { S with doors := u } rfl rfl rfl rfl rfl rfl ⟨hq1.im.p, hq1.im.hands, hq1.im.fdo, hu, hq1.im.held⟩
    have c2 := (Chs.of (L := S.os q) s1).put (o := .ins 628 dx1 { S with doors := u }.fs) (by simp) hp1 trivial
    dsimp only [PlS.fs] at hq2 c2
    revert hq2 c2
    generalize upd H1 q (.ins 628 dx1 (plf S.pg S.base S.hands S.held S.fdo u S.met S.timer S.moment S.waiting S.asked S.dl S.wl S.rl S.lines)) = H2
    intro hq2 c2
    obtain ⟨dx2, hp2⟩ := hq2.ob
    dsimp only [PlS.fs] at hp2
    obtain ⟨ws, hw, hwl, hwt⟩ := hq2.wr
    dsimp only at hw hwl
    fail "bm_go"
    intro t nt
    have s3 := same_new (o := .tup [.int (S.moment + 1), .int (d : Int), .int a]) nt
    have hq3 := (hq2.same s3).wapp (s3 _ _ hw) (SqT.of upd_same)
    have c3 := (c2.step s3).put (d := S.wl) (o := .lst (ws ++ [.ref t])) (by simp) (s3 _ _ hw) trivial
    dsimp only at hq3
    fail "bm_go"
    refine r_app (s3 _ _ hw) (szl (by omega)) ?_
    revert hq3 c3
    generalize upd (upd H2 t (.tup [.int (S.moment + 1), .int (d : Int), .int a])) S.wl (.lst (ws ++ [.ref t])) = H3
    intro hq3 c3
    obtain ⟨dx3, hp3⟩ := hq3.ob
    dsimp only [PlS.fs] at hp3
    have fin : ∀ me ti ak, Q .non (upd H3 q (.ins 628 dx3 (plf S.pg S.base S.hands S.held S.fdo u me ti S.moment S.waiting ak S.dl S.wl S.rl S.lines))) := fun me ti ak =>
      k u me ti ak _ (c3.put (by simp) hp3 trivial) (hq3.ints (dx := dx3) me ti S.moment S.waiting ak S.lines)
    fail "bm_all"
    · exact fin _ _ _
    · exact fin _ _ _
    · exact fin _ _ _
    · exact k u _ _ _ _ c3 hq3
def sp_pl_wait (K : PySem.W.Frag) : Sp := fun vs H Q E => ∃ (q : Addr) (S : PlS), vs = [.ref q] ∧ PlAt K H q S ∧ S.dn ≤ 4800 ∧ 0 ≤ S.moment ∧ (S.lines = 0 → S.moment < 1280) ∧ Outs (S.os q) H E ∧
  ∀ (me ti wa ak li : Int) (n : Nat) (H' : Hp), Chs (S.os q) H H' → Ln S.lines S.moment li (S.moment + n) → ((S.lines = 0 ∧ (S.moment + n) % 32 = 0) ∨ n = 0) → n ≤ 31 → (wa = S.waiting ∨ li ≠ 0) → PlAt K H' q { S with met := me, timer := ti, moment := S.moment + n, waiting := wa, asked := ak, lines := li, dn := S.dn + 2 * n } → Q .non H'
theorem sc_Playing_wait_on : FnScope ["self"] ["self"] (defScope s_Playing_wait_on) := ⟨rfl, rfl, rfl, by decide +kernel, rfl, by decide +kernel, by decide +kernel⟩
theorem ok_Playing_wait_on {P : Program} {w : World} {K : PySem.W.Frag} {mg : Str → Option Value} {base : Heap} (T : Tx K mg) : Ok P w K mg base (L2.CX P w) 8 601 ["self"] (sp_pl_wait K) := by
  refine okX 7 (f_Playing_wait_on T) sc_Playing_wait_on (fun _ _ _ _ _ _ us hl => match us, hl with | [_], _ => rfl) (fun vs H Q E h => ?_) (fun cdv A outer sh H vs Q E room h => ?_)
  · obtain ⟨q, S, rfl, hq, hn, h0, hlt, ho, k⟩ := h
    rfl
  · obtain ⟨q, S, rfl, hq, hn, h0, hlt, ho, k⟩ := h
    refine ⟨_,     (pss_one (ps_if (pt_cmpR op_eq (pe_fldK K (pv 0) rfl) pe_int (nomark _))
          (pss_one (ps_expr (pm0 (ok_Playing_pass_line (K := K) T) (room.mono (by decide)) (c_Playing T) (m_Playing_pass_line T) (passes_call (takes_of rfl rfl rfl rfl) (fun _ _ _ _ h => h)) (pv 0))))
          (pss_one (ps_if (pt_cmpR op_gt (pe_op op_mod (pe_fldK K (pv 0) rfl) (pgi (i_BEATS T) rfl)) pe_int (nomark _))
            (pss_one (ps_fldK K (pv 0) pe_int rfl)) pss_nil)))), ?_⟩
    show (_ : TS) _ [_] _
    obtain ⟨dx, hp⟩ := hq.ob
    have stay : Ln S.lines S.moment S.lines (S.moment + ((0 : Nat) : Int)) := by
      unfold Ln
      have := hlt
      constructor <;> simp <;> omega
    have fin : ∀ wa : Int, (hw : ∀ z : PlAt K (upd H q (.ins 628 dx { S with waiting := wa }.fs)) q { S with waiting := wa }, Q .non (upd H q (.ins 628 dx { S with waiting := wa }.fs))) → Q .non (upd H q (.ins 628 dx (plf S.pg S.base S.hands S.held S.fdo S.doors S.met S.timer S.moment wa S.asked S.dl S.wl S.rl S.lines))) := fun wa hw =>
      hw (hq.ints (dx := dx) S.met S.timer S.moment wa S.asked S.lines)
    fail "bm_go"
    refine r_ifD (fun e => ?_) (fun e => ?_)
    · fail "bm_go"
      exact ⟨q, S, rfl, hq, hn, h0, hlt, ho, fun me ti ak li n H' c hl hm hn31 h => k me ti S.waiting ak li n H' c hl (.inl ⟨by simpa using e, hm⟩) hn31 (.inl rfl) h⟩
    · fail "bm_go"
      refine r_ifD (fun e2 => ?_) (fun e2 => ?_)
      · fail "bm_go"
        refine fin 1 fun z => k S.met S.timer 1 S.asked S.lines 0 _ (Chs.refl.put (by simp) hp trivial) stay (.inr rfl) (by omega) (.inr (by simpa using e)) ?_
        simpa using z
      · fail "bm_go"
        refine k S.met S.timer S.waiting S.asked S.lines 0 _ Chs.refl stay (.inr rfl) (by omega) (.inl rfl) ?_
        simpa using hq
theorem notmark : ∀ x ∈ byteDs ++ (memDs ++ (plainDs ++ (["door", "eye"] : List Str))), decide (V.str (kindOf x) = V.str "mark") = false ∧ 2 ≤ beatCnt x ∧ beatCnt x ≤ 4 := by decide +kernel
theorem ent_next {P : List Row} {b z c : Int} {i : Nat} {r : Row} (W : WF P) (hr : P[i]? = some r) :
    (nextF P i r (goB r.d z c), beatsF P b i r (goB r.d z c)) ∈ ent P b i ∧ nextF P i r (goB r.d z c) < P.length ∧ 2 ≤ beatsF P b i r (goB r.d z c) ∧ beatsF P b i r (goB r.d z c) ≤ 4 := by
  have hok := W.ok i r hr
  have far_le : ∀ k, 3 ≤ far P b i k ∧ far P b i k ≤ 4 := fun k => by
    unfold far
    have := crossed_le (adr b P k) (adr b P (i + 1))
    omega
  rcases hok.cases3 with ⟨e1, e2, mk, j, e3, hj⟩ | ⟨e1, e2, mk, j, e3, hj⟩ | ⟨e1, e2, e4⟩
  · rw [ent_if hr e1 e3 hj]
    have hb := beat_if _ (isIf_ds hok e1)
    cases hg : goB r.d z c with
    | true =>
      have e : beatsF P b i r true = far P b i j := by
        unfold beatsF
        rw [if_pos (by rw [e1]; rfl), nextF_go e3 hj]
      rw [nextF_go e3 hj, e]
      exact ⟨by simp, markIx_lt hj, by have := far_le j; omega, (far_le j).2⟩
    | false =>
      have e : beatsF P b i r false = 2 := by
        unfold beatsF
        rw [if_neg (by simp), hb]
      have e' : nextF P i r false = i + 1 := rfl
      rw [e, e']
      exact ⟨by simp, W.last i r hr e2, by omega, by omega⟩
  · rw [ent_go hr e1 e2 e3 hj]
    have hg : goB r.d z c = true := by
      rw [e2]
      unfold goB
      rw [kind_go, if_pos rfl]
      unfold goesB
      rw [if_neg (by decide), if_neg (by decide), if_neg (by decide), if_neg (by decide)]
    have e : beatsF P b i r true = 3 := by
      unfold beatsF
      rw [if_neg (by rw [e1]; simp), e2]
      decide +kernel
    rw [hg, nextF_go e3 hj, e]
    exact ⟨by simp, markIx_lt hj, by omega, by omega⟩
  · rw [ent_no hr e1 e2]
    have hc := hok.cnt
    have hg : goB r.d z c = false := by
      have no : ∀ x ∈ byteDs ++ (memDs ++ (plainDs ++ (["door", "eye"] : List Str))), goB x z c = false := fun x hx => by
        unfold goB
        exact if_neg (of_decide_eq_false (notmark x hx).1)
      cases hok with
      | byte m d n h => exact no d (by simp [h])
      | mem m d n h hn => exact no d (by simp [h])
      | plain m d h => exact no d (by simp [h])
      | door m n hn => exact no "door" (by simp)
      | eye m n hn => exact no "eye" (by simp)
      | go m k j h => exact absurd rfl e4
      | iff m d k j hd h => rw [(ifDs_facts d hd).1] at e1; cases e1
    have e : beatsF P b i r false = beatCnt r.d := by
      unfold beatsF
      rw [if_neg (by simp)]
    have e' : nextF P i r false = i + 1 := rfl
    rw [hg, e, e']
    exact ⟨by simp, W.last i r hr e4, hc.1, hc.2⟩
def isWaitR (P : List Row) (i : Nat) : Prop := ∃ r, P[i]? = some r ∧ r.d = "wait"
structure RowStep (S S' : PlS) : Prop where
  pg : S'.pg = S.pg
  base : S'.base = S.base
  P : S'.P = S.P
  dl : S'.dl = S.dl
  wl : S'.wl = S.wl
  rl : S'.rl = S.rl
  i : S'.i < S.P.length
  tr : S'.tr = S.tr ++ [(S.i, S.moment)]
  mo : S.moment + 2 ≤ S'.moment
  dn : (S'.dn : Int) ≤ S.dn + 2 * (S'.moment - S.moment)
  wn : S'.wn ≤ S.wn + 1
  ln : S'.lines = 0 ∧ S'.moment < 1280 ∨ 0 < S'.lines ∧ S'.lines ≤ 40 ∧ S.moment < 32 * S'.lines ∧ 32 * S'.lines ≤ S'.moment ∧ S'.moment ≤ 32 * S'.lines + 8
  way : ¬ isWaitR S.P S.i → (S'.i, S'.moment - S.moment) ∈ ent S.P S.base S.i ∧ S'.waiting = S.waiting
  wz : S'.lines = 0 → S'.waiting = S.waiting
structure RowMid (S : PlS) (n : Nat) (S' : PlS) : Prop where
  pg : S'.pg = S.pg
  base : S'.base = S.base
  P : S'.P = S.P
  dl : S'.dl = S.dl
  wl : S'.wl = S.wl
  rl : S'.rl = S.rl
  held : S'.held = S.held
  i : S'.i = S.i
  tr : S'.tr = S.tr ++ [(S.i, S.moment)]
  mo : S'.moment = S.moment + n
  ln : Ln S.lines S.moment S'.lines (S.moment + n)
  dn : S'.dn = S.dn + 2 * n + 2
  wn : S'.wn ≤ S.wn + 1
  wa : S'.waiting = S.waiting
theorem RowMid.os {S S' : PlS} {n : Nat} (h : RowMid S n S') (q : Addr) : S'.os q = S.os q := by
  show [q, S'.dl, S'.wl, S'.rl] = [q, S.dl, S.wl, S.rl]
  rw [h.dl, h.wl, h.rl]
theorem door_only : ∀ x ∈ byteDs ++ (memDs ++ (plainDs ++ (("eye" : Str) :: (("go" : Str) :: ifDs)))), decide (V.str x = V.str "door") = false := by decide +kernel
theorem eye_only : ∀ x ∈ byteDs ++ (memDs ++ (plainDs ++ (("door" : Str) :: (("go" : Str) :: ifDs)))), decide (V.str x = V.str "eye") = false := by decide +kernel
theorem RowOk.doorV {P : List Row} {r : Row} (h : RowOk P r) (e : V.str r.d = V.str "door") : ∃ n : Nat, r.v = .int (n : Int) ∧ n < 20 := by
  have no : ∀ x ∈ byteDs ++ (memDs ++ (plainDs ++ (("eye" : Str) :: (("go" : Str) :: ifDs)))), V.str x = V.str "door" → False := fun x hx e => of_decide_eq_false (door_only x hx) e
  cases h with
  | byte m d n h => exact (no d (by simp [h]) e).elim
  | mem m d n h hn => exact (no d (by simp [h]) e).elim
  | plain m d h => exact (no d (by simp [h]) e).elim
  | door m n hn => exact ⟨n, rfl, hn⟩
  | eye m n hn => exact (no "eye" (by simp) e).elim
  | go m k j h => exact (no "go" (by simp) e).elim
  | iff m d k j hd h => exact (no d (by simp [hd]) e).elim
theorem RowOk.eyeV {P : List Row} {r : Row} (h : RowOk P r) (e : V.str r.d = V.str "eye") : ∃ n : Nat, r.v = .int (n : Int) ∧ n < 6 := by
  have no : ∀ x ∈ byteDs ++ (memDs ++ (plainDs ++ (("door" : Str) :: (("go" : Str) :: ifDs)))), V.str x = V.str "eye" → False := fun x hx e => of_decide_eq_false (eye_only x hx) e
  cases h with
  | byte m d n h => exact (no d (by simp [h]) e).elim
  | mem m d n h hn => exact (no d (by simp [h]) e).elim
  | plain m d h => exact (no d (by simp [h]) e).elim
  | door m n hn => exact (no "door" (by simp) e).elim
  | eye m n hn => exact ⟨n, rfl, hn⟩
  | go m k j h => exact (no "go" (by simp) e).elim
  | iff m d k j hd h => exact (no d (by simp [hd]) e).elim
structure RowPre (S : PlS) : Prop where
  W : WF S.P
  b : S.base + longOf S.P ≤ 256
  i : S.i < S.P.length
  l : S.lines = 0
  m0 : 0 ≤ S.moment
  m1 : S.moment < 1280
  dn : S.dn ≤ 4000
  wn : S.wn ≤ 4000
  tr : S.tr.length ≤ 4000
def sp_pl_row (K : PySem.W.Frag) : Sp := fun vs H Q E => ∃ (q : Addr) (S : PlS), vs = [.ref q] ∧ PlAt K H q S ∧ RowPre S ∧ Outs (S.os q) H E ∧ ∀ (S' : PlS) (H' : Hp), Chs (S.os q) H H' → PlAt K H' q S' → RowStep S S' → Q .non H'
theorem sc_Playing_do_row : FnScope ["self", "mark", "deed", "value", "line", "beat", "beats", "told"] ["self"] (defScope s_Playing_do_row) := ⟨rfl, rfl, rfl, by decide +kernel, rfl, by decide +kernel, by decide +kernel⟩
theorem ok_Playing_do_row {P : Program} {w : World} {K : PySem.W.Frag} {mg : Str → Option Value} {base : Heap} (T : Tx K mg) : Ok P w K mg base (L2.CX P w) 9 594 ["self"] (sp_pl_row K) := by
  refine okX 8 (f_Playing_do_row T) sc_Playing_do_row (fun _ _ _ _ _ _ us hl => match us, hl with | [_], _ => rfl) (fun vs H Q E h => ?_) (fun cdv A outer sh H vs Q E room h => ?_)
  · obtain ⟨q, S, rfl, hq, R, ho, k⟩ := h
    rfl
  · obtain ⟨q, S, rfl, hq, R, ho, k⟩ := h
    refine ⟨_,     (pss_cons (ps_asg (pe_ix (ix_tupK K) (pe_fldK K (pv 0) rfl) (pe_ix (ix_tupK K) (pe_fldK K (pv 0) rfl) pe_int (fun _ _ => rfl)) (fun _ _ => rfl)) (pg_tupK K (n := 3) rfl (pgs_cons (pg_name (i := 1) sc_Playing_do_row.nd rfl (Or.inl rfl)) (pgs_cons (pg_name (i := 2) sc_Playing_do_row.nd rfl (Or.inl rfl)) (pgs_cons (pg_name (i := 3) sc_Playing_do_row.nd rfl (Or.inl rfl)) pgs_nil)))))
        (pss_cons (ps_asg (pm0 (ok_Playing_line_beat (K := K) T) (room.mono (by decide)) (c_Playing T) (m_Playing_line_beat T) pass0 (pv 0)) (pg_tupK K (n := 2) rfl (pgs_cons (pg_name (i := 4) sc_Playing_do_row.nd rfl (Or.inl rfl)) (pgs_cons (pg_name (i := 5) sc_Playing_do_row.nd rfl (Or.inl rfl)) pgs_nil))))
        (pss_cons (ps_expr (pe_bmK K PySem.F.plainAttrs_list PySem.F.slot_list_append PySem.F.type_list_append mt_append (pe_fldK K (pv 0) rfl) (pa_cons (pe_tup (pa_cons (pe_ix (ix_tupK K) (pe_fldK K (pv 0) rfl) pe_int (fun _ _ => rfl)) (pa_cons (pv 4) (pa_cons (pv 5) pa_nil)))) pa_nil)))
        (pss_cons (ps_set (i := 6) sc_Playing_do_row.nd rfl (Or.inl rfl) (pe_ix (ix_tupK K) (pc (ok_deed_done (K := K) T) (room.mono (by decide)) rfl (g_deed_done T) pass0 (pa_cons (pe_fldK K (pv 0) rfl) (pa_cons (pe_fldK K (pv 0) rfl) (pa_cons (pe_fldK K (pv 0) rfl) (pa_cons pe_int pa_nil))))) pe_int (fun _ _ => rfl)))
        (pss_cons (ps_expr (pm (ok_Playing_pass_beats (K := K) T) (room.mono (by decide)) (c_Playing T) (m_Playing_pass_beats T) (passes_call (takes_of rfl rfl rfl rfl) (fun _ _ _ _ h => h)) (pv 0) (pa_cons (pe_op op_sub (pv 6) pe_int) pa_nil)))
        (pss_cons (ps_expr (pm0 (ok_Playing_end_beat (K := K) T) (room.mono (by decide)) (c_Playing T) (m_Playing_end_beat T) pass0 (pv 0)))
        (pss_cons (ps_if (pt_cmpR op_eq (pv 2) pe_str (nomark _))
          (pss_one (ps_expr (pm (ok_Playing_write (K := K) T) (room.mono (by decide)) (c_Playing T) (m_Playing_write T) pass0 (pv 0) (pa_cons (pv 3) pa_nil)))) pss_nil)
        (pss_cons (ps_set (i := 7) sc_Playing_do_row.nd rfl (Or.inl rfl) pe_int)
        (pss_cons (ps_if (pt_cmpR op_eq (pv 2) pe_str (nomark _))
          (pss_one (ps_set (i := 7) sc_Playing_do_row.nd rfl (Or.inl rfl) (pm (ok_Playing_eye (K := K) T) (room.mono (by decide)) (c_Playing T) (m_Playing_eye T) pass0 (pv 0) (pa_cons (pv 3) (pa_cons (pv 4) pa_nil))))) pss_nil)
        (pss_cons (ps_fldK K (pv 0) (pe_slice (sl_tupK K) (pc (ok_deed_done (K := K) T) (room.mono (by decide)) rfl (g_deed_done T) pass0 (pa_cons (pe_fldK K (pv 0) rfl) (pa_cons (pe_fldK K (pv 0) rfl) (pa_cons (pe_fldK K (pv 0) rfl) (pa_cons (pv 7) pa_nil))))) po_none (po_some pe_int)) rfl)
        (pss_cons (ps_expr (pm0 (ok_Playing_next_beat (K := K) T) (room.mono (by decide)) (c_Playing T) (m_Playing_next_beat T) (passes_call (takes_of rfl rfl rfl rfl) (fun _ _ _ _ h => h)) (pv 0)))
        (pss_one (ps_if (pt_cmpR op_eq (pv 2) pe_str (nomark _))
          (pss_one (ps_expr (pm0 (ok_Playing_wait_on (K := K) T) (room.mono (by decide)) (c_Playing T) (m_Playing_wait_on T) (passes_call (takes_of rfl rfl rfl rfl) (fun _ _ _ _ h => h)) (pv 0)))) pss_nil))))))))))))), ?_⟩
    show (_ : TS) _ [_, none, none, none, none, none, none, none] _
    obtain ⟨dx, hp⟩ := hq.ob
    have hP := hq.im.p
    have hr := List.getElem?_eq_getElem R.i
    generalize hrr : S.P[S.i]'R.i = r at hr
    have hok := R.W.ok _ _ hr
    obtain ⟨xs, ra, g1, g2, g3, g4⟩ := hP.at_ hr
    unfold rowV at g3
    obtain ⟨a, x, z, c, m, hh, hm⟩ := hq.im.held
    obtain ⟨en, hlt, hb2, hb4⟩ := ent_next (b := S.base) (z := z) (c := c) R.W hr
    have hR1 := R.m0
    have hR2 := R.m1
    have hRl := R.l
    have hRd := R.dn
    have hRw := R.wn
    have hRt := R.tr
    fail "bm_go"
    refine ⟨q, S, rfl, hq, fun t H1 s1 ht => ?_⟩
    have hq1 := hq.same s1
    have hp1 := s1 _ _ hp
    have hh1 := sqT_same s1 hh
    obtain ⟨rs, hrl, hrt⟩ := hq1.rw
    fail "bm_go"
    intro u nu
    have s2 := same_new (o := .tup [.int (S.i : Int), .int (S.moment / 32), .int (S.moment % 32)]) nu
    have hq2 := (hq1.same s2).rapp (s2 _ _ hrl) (SqT.of upd_same)
    have c2 := ((Chs.of (L := S.os q) s1).step s2).put (d := S.rl) (o := .lst (rs ++ [.ref u])) (by simp) (s2 _ _ hrl) trivial
    fail "bm_go"
    refine r_app (s2 _ _ hrl) (szl (by rw [hrt.1]; omega)) ?_
    revert hq2 c2
    generalize upd (upd H1 u (.tup [.int (S.i : Int), .int (S.moment / 32), .int (S.moment % 32)])) S.rl (.lst (rs ++ [.ref u])) = H2
    intro hq2 c2
    obtain ⟨dx2, hp2⟩ := hq2.ob
    dsimp only [PlS.fs] at hp2
    have hP2 := hq2.im.p
    have hh2 := sqT_im c2.im hh
    have hm2 := hm.im c2.im
    fail "bm_go"
    refine ⟨S.pg, S.held, S.P, S.base, S.i, r, a, x, z, c, 0, m, rfl, hP2, R.W, R.b, hr, hh2, hm2, fun t3 H3 a' x' z' c' m' s3 ht3 hm3 => ?_⟩
    generalize hbt : beatsF S.P S.base S.i r (goB r.d z c) = bt at ht3 en hb2 hb4
    generalize hnx : nextF S.P S.i r (goB r.d z c) = nx at ht3 en hlt
    obtain ⟨n, hn⟩ : ∃ n : Nat, bt = (n : Int) + 1 := ⟨(bt - 1).toNat, by omega⟩
    have hq3 := hq2.same s3
    have hp3 := s3 _ _ hp2
    have c3 := c2.step s3
    fail "bm_go"
    rw [show bt - 1 = (n : Int) by omega]
    refine ⟨q, _, n, rfl, hq3, by show S.dn + 2 * n ≤ 5000; omega, hR1, fun _ => hR2, ho.chs c3, fun me ti ak li H4 c4 hl4 hS4 => ?_⟩
    have c4' := c3.trans c4
    obtain ⟨dx4, hp4⟩ := hS4.ob
    dsimp only at hl4
    fail "bm_go"
    refine ⟨q, _, rfl, hS4, by show S.dn + 2 * n ≤ 5000; omega, fun me5 ti5 H5 c5 hS5 => ?_⟩
    have c5' := c4'.trans c5
    obtain ⟨dx5, hp5⟩ := hS5.ob
    have mid : RowMid S n { S with met := me5, timer := ti5, moment := S.moment + n, asked := ak, lines := li, dn := S.dn + 2 * n + 2, tr := S.tr ++ [(S.i, S.moment)] } :=
      ⟨rfl, rfl, rfl, rfl, rfl, rfl, rfl, rfl, rfl, rfl, hl4, rfl, Nat.le_succ _, rfl⟩
    revert hS5 mid
    generalize hS5e : { S with met := me5, timer := ti5, moment := S.moment + n, asked := ak, lines := li, dn := S.dn + 2 * n + 2, tr := S.tr ++ [(S.i, S.moment)] } = S5
    intro hS5 mid
    have hwn5 : S5.wn = S.wn := by rw [← hS5e]
    clear hS5e hS4 hp4 hp5 c4 c5 hp3 hq3 hq2 hp2 hp1 hq1
    obtain ⟨dx5, hp5⟩ := hS5.ob
    have os5 : S5.os q = S.os q := mid.os q
    have wn5 : S5.wn = S.wn := hwn5
    fail "bm_go"
    refine r_ifD (fun e => ?_) (fun e => ?_)
    · obtain ⟨d, hv, hd⟩ := hok.doorV e
      rw [hv]
      fail "bm_go"
      refine ⟨q, S5, d, rfl, hS5, hd, by omega, fun ds6 me6 ti6 ak6 H6 c6 hS6 => ?_⟩
      rw [os5] at c6
      have c6' := c5'.trans c6
      have mid6 : RowMid S n { S5 with doors := ds6, met := me6, timer := ti6, asked := ak6, wn := S5.wn + 1 } :=
        ⟨mid.pg, mid.base, mid.P, mid.dl, mid.wl, mid.rl, mid.held, mid.i, mid.tr, mid.mo, mid.ln, mid.dn, by show S5.wn + 1 ≤ _; omega, mid.wa⟩
      revert hS6 mid6
      generalize { S5 with doors := ds6, met := me6, timer := ti6, asked := ak6, wn := S5.wn + 1 } = S6
      intro hS6 mid6
      obtain ⟨dx6, hp6⟩ := hS6.ob
      fail "bm_go"
      refine r_ifF (by rw [e]; decide) ?_
      fail "bm_go"
      have hP6 : PAt K H6 S6.pg S.P := by
        have := hS6.im.p
        rw [mid6.P] at this
        exact this
      have hh6 : SqT K H6 S6.held [.int S.i, .int a, .int x, .int z, .int c, .ref m] := by
        rw [mid6.held]
        exact sqT_im c6'.im hh
      have hm6 := hm.im c6'.im
      have os6 : S6.os q = S.os q := mid6.os q
      have mo6 := mid6.mo
      have wn6 := mid6.wn
      have dn6 := mid6.dn
      have ln6 := mid6.ln
      refine ⟨S6.pg, S6.held, S.P, S6.base, S.i, r, a, x, z, c, _, m, rfl, hP6, R.W, by rw [mid6.base]; exact R.b, hr, hh6, hm6, fun t7 H7 a7 x7 z7 c7 m7 s7 ht7 hm7 => ?_⟩
      rw [mid6.base, hbt, hnx] at ht7
      have hp7 := s7 _ _ hp6
      fail "bm_go"
      refine r_slG ht7 fun t8 H8 s8 ht8 => ?_
      rw [show (6 : Int) = ((6 : Nat) : Int) from rfl, cutV_to] at ht8
      simp only [List.take_succ_cons, List.take_zero] at ht8
      have hq8 := (hS6.same s7).same s8
      have hp8 := s8 _ _ hp7
      fail "bm_go"
      have hq9 := hq8.put (dx := dx6) { S6 with held := t8, i := nx } rfl rfl rfl rfl rfl rfl ⟨hq8.im.p, hq8.im.hands, hq8.im.fdo, hq8.im.doors, a7, x7, z7, c7, m7, ht8, hm7.im (im_of s8)⟩
      have c9 := ((c6'.step s7).step s8).put (o := .ins 628 dx6 { S6 with held := t8, i := nx }.fs) (by simp) hp8 trivial
      dsimp only [PlS.fs] at c9 hq9
      revert hq9 c9
      generalize upd H8 q _ = H9
      intro hq9 c9
      obtain ⟨dx9, hp9⟩ := hq9.ob
      dsimp only [PlS.fs] at hp9
      fail "bm_go"
      refine ⟨q, _, rfl, hq9, by show 0 ≤ S6.moment; omega, by show S6.lines = 0 → S6.moment < 1280; rw [mo6]; exact ln6.lt, by rw [show PlS.os _ q = S.os q from os6]; exact ho.chs c9, fun ak9 li9 H10 c10 ln10 hS10 => ?_⟩
      rw [show PlS.os _ q = S.os q from os6] at c10
      have c10' := c9.trans c10
      dsimp only at ln10 hS10
      rw [← mo6] at ln6
      have ln11 := ln6.trans ln10
      have way : (nx, S6.moment + 1 - S.moment) ∈ ent S.P S.base S.i := by
        rw [show S6.moment + 1 - S.moment = bt by omega]
        exact en
      fail "bm_go"
      refine r_ifD (fun ew => ?_) (fun ew => ?_)
      · have hw : isWaitR S.P S.i := ⟨r, hr, V.str.inj ew⟩
        obtain ⟨dx10, hp10⟩ := hS10.ob
        fail "bm_go"
        refine ⟨q, _, rfl, hS10, by show S6.dn ≤ 4800; omega, by show 0 ≤ S6.moment + 1; omega, ln11.lt, by rw [show PlS.os _ q = S.os q from os6]; exact ho.chs c10', fun me ti wa ak li n2 H11 c11 ln12 hmod hn31 hwa hS11 => ?_⟩
        rw [show PlS.os _ q = S.os q from os6] at c11
        refine k _ _ (c10'.trans c11) hS11 ⟨mid6.pg, mid6.base, mid6.P, mid6.dl, mid6.wl, mid6.rl, hlt, mid6.tr, ?_, ?_, wn6, ?_, fun h => absurd hw h, fun h => (hwa.resolve_right (fun z => z h)).trans mid6.wa⟩
        · show S.moment + 2 ≤ S6.moment + 1 + (n2 : Int)
          omega
        · show ((S6.dn + 2 * n2 : Nat) : Int) ≤ S.dn + 2 * (S6.moment + 1 + (n2 : Int) - S.moment)
          omega
        · show li = 0 ∧ S6.moment + 1 + (n2 : Int) < 1280 ∨ 0 < li ∧ li ≤ 40 ∧ S.moment < 32 * li ∧ 32 * li ≤ S6.moment + 1 + (n2 : Int) ∧ S6.moment + 1 + (n2 : Int) ≤ 32 * li + 8
          unfold Ln at ln11 ln12
          dsimp only at ln12 hmod
          omega
      · fail "bm_go"
        refine k _ _ c10' hS10 ⟨mid6.pg, mid6.base, mid6.P, mid6.dl, mid6.wl, mid6.rl, hlt, mid6.tr, ?_, ?_, wn6, ?_, fun h => ⟨way, mid6.wa⟩, fun _ => mid6.wa⟩
        · show S.moment + 2 ≤ S6.moment + 1
          omega
        · show ((S6.dn : Nat) : Int) ≤ S.dn + 2 * (S6.moment + 1 - S.moment)
          omega
        · show li9 = 0 ∧ S6.moment + 1 < 1280 ∨ 0 < li9 ∧ li9 ≤ 40 ∧ S.moment < 32 * li9 ∧ 32 * li9 ≤ S6.moment + 1 ∧ S6.moment + 1 ≤ 32 * li9 + 8
          unfold Ln at ln11
          omega
    · fail "bm_go"
      refine r_ifD (fun e' => ?_) (fun e' => ?_)
      · obtain ⟨d, hv, hd⟩ := hok.eyeV e'
        rw [hv]
        fail "bm_go"
        refine ⟨q, S5, d, _, rfl, hS5, hd, fun tv H6 s6 => ?_⟩
        have c6' := c5'.step s6
        have hS6 := hS5.same s6
        have mid6 := mid
        revert hS6 mid6
        generalize S5 = S6 at *
        intro hS6 mid6
        obtain ⟨dx6, hp6⟩ := hS6.ob
        fail "bm_go"
        have hP6 : PAt K H6 S6.pg S.P := by
          have := hS6.im.p
          rw [mid6.P] at this
          exact this
        have hh6 : SqT K H6 S6.held [.int S.i, .int a, .int x, .int z, .int c, .ref m] := by
          rw [mid6.held]
          exact sqT_im c6'.im hh
        have hm6 := hm.im c6'.im
        have os6 : S6.os q = S.os q := mid6.os q
        have mo6 := mid6.mo
        have wn6 := mid6.wn
        have dn6 := mid6.dn
        have ln6 := mid6.ln
        refine ⟨S6.pg, S6.held, S.P, S6.base, S.i, r, a, x, z, c, _, m, rfl, hP6, R.W, by rw [mid6.base]; exact R.b, hr, hh6, hm6, fun t7 H7 a7 x7 z7 c7 m7 s7 ht7 hm7 => ?_⟩
        rw [mid6.base, hbt, hnx] at ht7
        have hp7 := s7 _ _ hp6
        fail "bm_go"
        refine r_slG ht7 fun t8 H8 s8 ht8 => ?_
        rw [show (6 : Int) = ((6 : Nat) : Int) from rfl, cutV_to] at ht8
        simp only [List.take_succ_cons, List.take_zero] at ht8
        have hq8 := (hS6.same s7).same s8
        have hp8 := s8 _ _ hp7
        fail "bm_go"
        have hq9 := hq8.put (dx := dx6) { S6 with held := t8, i := nx } rfl rfl rfl rfl rfl rfl ⟨hq8.im.p, hq8.im.hands, hq8.im.fdo, hq8.im.doors, a7, x7, z7, c7, m7, ht8, hm7.im (im_of s8)⟩
        have c9 := ((c6'.step s7).step s8).put (o := .ins 628 dx6 { S6 with held := t8, i := nx }.fs) (by simp) hp8 trivial
        dsimp only [PlS.fs] at c9 hq9
        revert hq9 c9
        generalize upd H8 q _ = H9
        intro hq9 c9
        obtain ⟨dx9, hp9⟩ := hq9.ob
        dsimp only [PlS.fs] at hp9
        fail "bm_go"
        refine ⟨q, _, rfl, hq9, by show 0 ≤ S6.moment; omega, by show S6.lines = 0 → S6.moment < 1280; rw [mo6]; exact ln6.lt, by rw [show PlS.os _ q = S.os q from os6]; exact ho.chs c9, fun ak9 li9 H10 c10 ln10 hS10 => ?_⟩
        rw [show PlS.os _ q = S.os q from os6] at c10
        have c10' := c9.trans c10
        dsimp only at ln10 hS10
        rw [← mo6] at ln6
        have ln11 := ln6.trans ln10
        have way : (nx, S6.moment + 1 - S.moment) ∈ ent S.P S.base S.i := by
          rw [show S6.moment + 1 - S.moment = bt by omega]
          exact en
        fail "bm_go"
        refine r_ifD (fun ew => ?_) (fun ew => ?_)
        · have hw : isWaitR S.P S.i := ⟨r, hr, V.str.inj ew⟩
          obtain ⟨dx10, hp10⟩ := hS10.ob
          fail "bm_go"
          refine ⟨q, _, rfl, hS10, by show S6.dn ≤ 4800; omega, by show 0 ≤ S6.moment + 1; omega, ln11.lt, by rw [show PlS.os _ q = S.os q from os6]; exact ho.chs c10', fun me ti wa ak li n2 H11 c11 ln12 hmod hn31 hwa hS11 => ?_⟩
          rw [show PlS.os _ q = S.os q from os6] at c11
          refine k _ _ (c10'.trans c11) hS11 ⟨mid6.pg, mid6.base, mid6.P, mid6.dl, mid6.wl, mid6.rl, hlt, mid6.tr, ?_, ?_, wn6, ?_, fun h => absurd hw h, fun h => (hwa.resolve_right (fun z => z h)).trans mid6.wa⟩
          · show S.moment + 2 ≤ S6.moment + 1 + (n2 : Int)
            omega
          · show ((S6.dn + 2 * n2 : Nat) : Int) ≤ S.dn + 2 * (S6.moment + 1 + (n2 : Int) - S.moment)
            omega
          · show li = 0 ∧ S6.moment + 1 + (n2 : Int) < 1280 ∨ 0 < li ∧ li ≤ 40 ∧ S.moment < 32 * li ∧ 32 * li ≤ S6.moment + 1 + (n2 : Int) ∧ S6.moment + 1 + (n2 : Int) ≤ 32 * li + 8
            unfold Ln at ln11 ln12
            dsimp only at ln12 hmod
            omega
        · fail "bm_go"
          refine k _ _ c10' hS10 ⟨mid6.pg, mid6.base, mid6.P, mid6.dl, mid6.wl, mid6.rl, hlt, mid6.tr, ?_, ?_, wn6, ?_, fun h => ⟨way, mid6.wa⟩, fun _ => mid6.wa⟩
          · show S.moment + 2 ≤ S6.moment + 1
            omega
          · show ((S6.dn : Nat) : Int) ≤ S.dn + 2 * (S6.moment + 1 - S.moment)
            omega
          · show li9 = 0 ∧ S6.moment + 1 < 1280 ∨ 0 < li9 ∧ li9 ≤ 40 ∧ S.moment < 32 * li9 ∧ 32 * li9 ≤ S6.moment + 1 ∧ S6.moment + 1 ≤ 32 * li9 + 8
            unfold Ln at ln11
            omega
      · have c6' := c5'
        have hS6 := hS5
        have mid6 := mid
        generalize S5 = S6 at *
        generalize H5 = H6 at *
        obtain ⟨dx6, hp6⟩ := hS6.ob
        fail "bm_go"
        have hP6 : PAt K H6 S6.pg S.P := by
          have := hS6.im.p
          rw [mid6.P] at this
          exact this
        have hh6 : SqT K H6 S6.held [.int S.i, .int a, .int x, .int z, .int c, .ref m] := by
          rw [mid6.held]
          exact sqT_im c6'.im hh
        have hm6 := hm.im c6'.im
        have os6 : S6.os q = S.os q := mid6.os q
        have mo6 := mid6.mo
        have wn6 := mid6.wn
        have dn6 := mid6.dn
        have ln6 := mid6.ln
        refine ⟨S6.pg, S6.held, S.P, S6.base, S.i, r, a, x, z, c, _, m, rfl, hP6, R.W, by rw [mid6.base]; exact R.b, hr, hh6, hm6, fun t7 H7 a7 x7 z7 c7 m7 s7 ht7 hm7 => ?_⟩
        rw [mid6.base, hbt, hnx] at ht7
        have hp7 := s7 _ _ hp6
        fail "bm_go"
        refine r_slG ht7 fun t8 H8 s8 ht8 => ?_
        rw [show (6 : Int) = ((6 : Nat) : Int) from rfl, cutV_to] at ht8
        simp only [List.take_succ_cons, List.take_zero] at ht8
        have hq8 := (hS6.same s7).same s8
        have hp8 := s8 _ _ hp7
        fail "bm_go"
        have hq9 := hq8.put (dx := dx6) { S6 with held := t8, i := nx } rfl rfl rfl rfl rfl rfl ⟨hq8.im.p, hq8.im.hands, hq8.im.fdo, hq8.im.doors, a7, x7, z7, c7, m7, ht8, hm7.im (im_of s8)⟩
        have c9 := ((c6'.step s7).step s8).put (o := .ins 628 dx6 { S6 with held := t8, i := nx }.fs) (by simp) hp8 trivial
        dsimp only [PlS.fs] at c9 hq9
        revert hq9 c9
        generalize upd H8 q _ = H9
        intro hq9 c9
        obtain ⟨dx9, hp9⟩ := hq9.ob
        dsimp only [PlS.fs] at hp9
        fail "bm_go"
        refine ⟨q, _, rfl, hq9, by show 0 ≤ S6.moment; omega, by show S6.lines = 0 → S6.moment < 1280; rw [mo6]; exact ln6.lt, by rw [show PlS.os _ q = S.os q from os6]; exact ho.chs c9, fun ak9 li9 H10 c10 ln10 hS10 => ?_⟩
        rw [show PlS.os _ q = S.os q from os6] at c10
        have c10' := c9.trans c10
        dsimp only at ln10 hS10
        rw [← mo6] at ln6
        have ln11 := ln6.trans ln10
        have way : (nx, S6.moment + 1 - S.moment) ∈ ent S.P S.base S.i := by
          rw [show S6.moment + 1 - S.moment = bt by omega]
          exact en
        fail "bm_go"
        refine r_ifD (fun ew => ?_) (fun ew => ?_)
        · have hw : isWaitR S.P S.i := ⟨r, hr, V.str.inj ew⟩
          obtain ⟨dx10, hp10⟩ := hS10.ob
          fail "bm_go"
          refine ⟨q, _, rfl, hS10, by show S6.dn ≤ 4800; omega, by show 0 ≤ S6.moment + 1; omega, ln11.lt, by rw [show PlS.os _ q = S.os q from os6]; exact ho.chs c10', fun me ti wa ak li n2 H11 c11 ln12 hmod hn31 hwa hS11 => ?_⟩
          rw [show PlS.os _ q = S.os q from os6] at c11
          refine k _ _ (c10'.trans c11) hS11 ⟨mid6.pg, mid6.base, mid6.P, mid6.dl, mid6.wl, mid6.rl, hlt, mid6.tr, ?_, ?_, wn6, ?_, fun h => absurd hw h, fun h => (hwa.resolve_right (fun z => z h)).trans mid6.wa⟩
          · show S.moment + 2 ≤ S6.moment + 1 + (n2 : Int)
            omega
          · show ((S6.dn + 2 * n2 : Nat) : Int) ≤ S.dn + 2 * (S6.moment + 1 + (n2 : Int) - S.moment)
            omega
          · show li = 0 ∧ S6.moment + 1 + (n2 : Int) < 1280 ∨ 0 < li ∧ li ≤ 40 ∧ S.moment < 32 * li ∧ 32 * li ≤ S6.moment + 1 + (n2 : Int) ∧ S6.moment + 1 + (n2 : Int) ≤ 32 * li + 8
            unfold Ln at ln11 ln12
            dsimp only at ln12 hmod
            omega
        · fail "bm_go"
          refine k _ _ c10' hS10 ⟨mid6.pg, mid6.base, mid6.P, mid6.dl, mid6.wl, mid6.rl, hlt, mid6.tr, ?_, ?_, wn6, ?_, fun h => ⟨way, mid6.wa⟩, fun _ => mid6.wa⟩
          · show S.moment + 2 ≤ S6.moment + 1
            omega
          · show ((S6.dn : Nat) : Int) ≤ S.dn + 2 * (S6.moment + 1 - S.moment)
            omega
          · show li9 = 0 ∧ S6.moment + 1 < 1280 ∨ 0 < li9 ∧ li9 ≤ 40 ∧ S.moment < 32 * li9 ∧ 32 * li9 ≤ S6.moment + 1 ∧ S6.moment + 1 ≤ 32 * li9 + 8
            unfold Ln at ln11
            omega
end
section
/-! ## E4: frames -/
section
variable {K : PySem.W.Frag} {σ : L2.St} {H : Hp} {Q : VK} {g : TG} {tt : TT} {te : TE} {vs : List Nat} {a : Addr} {xs : List V}
/-- a list by a test, of which no more is asked than its length -/
theorem lcL_any (hx : SqL K H a xs) (hz : xs.length ≤ 10000)
    (turn : ∀ (i : Nat) (x : V) (H' : Hp), xs[i]? = some x → Same H H' → ∀ (Rk : V → Hp → Prop) (R0 : Hp → Prop), (∀ v H2, Same H' H2 → Rk v H2) → (∀ H2, Same H' H2 → R0 H2) → g x (wipe σ vs) H' fun σ2 H2 => wipe σ2 vs = wipe σ vs ∧ tt σ2 H2 fun c H3 => if c = true then te σ2 H3 Rk else R0 H3)
    (k : ∀ D H' ws, H D = none → Same H H' → H' D = some (.lst ws) → ws.length ≤ xs.length → Q (.ref D) H') : LcL K g tt te vs σ Q (.ref a) H := by
  refine ⟨a, rfl, ⟨xs, hx⟩, fun D hD => ?_⟩
  refine lc_list (xs := xs) (fun i H' => Same H H' ∧ ∃ ws, H' D = some (.lst ws) ∧ ws.length ≤ i) ⟨same_new hD, [], upd_same, Nat.le_refl _⟩ (fun i H' _ p => Same.seq p.1 hx) ?_ (fun H' p => ?_)
  · rintro i x H' hi ⟨s, ws, hd, hw⟩
    have hi' := (List.getElem?_eq_some_iff.mp hi).1
    exact turn i x H' hi s _ _ (fun v H2 s2 => ⟨ws, s2 _ _ hd, szl (by omega), same_mut (s.trans s2) hD, _, upd_same, by simp; omega⟩) (fun H2 s2 => ⟨s.trans s2, ws, s2 _ _ hd, by omega⟩)
  · obtain ⟨s, ws, e1, e2⟩ := p
    exact k D H' ws hD s e1 e2
end
def sp_pl_pic (K : PySem.W.Frag) : Sp := fun vs H Q _ => ∃ (q : Addr) (S : PlS), vs = [.ref q] ∧ PlAt K H q S ∧ 0 ≤ S.lines ∧ S.lines ≤ 40 ∧ ∀ (t : Addr) (H' : Hp), Same H H' → Q (.ref t) H'
theorem sc_Playing_picture : FnScope ["self", "line"] ["self"] (defScope s_Playing_picture) := ⟨rfl, rfl, rfl, by decide +kernel, rfl, by decide +kernel, by decide +kernel⟩
theorem ok_Playing_picture {P : Program} {w : World} {K : PySem.W.Frag} {mg : Str → Option Value} {base : Heap} (T : Tx K mg) : Ok P w K mg base CX0 1 613 ["self"] (sp_pl_pic K) := by
  refine ok0 0 (f_Playing_picture T) sc_Playing_picture (fun _ _ _ _ _ _ us hl => match us, hl with | [_], _ => rfl) (fun vs H Q E h => ?_) (fun cdv A outer sh H vs Q E room h => ?_)
  · obtain ⟨q, S, rfl, hq, h0, h1, k⟩ := h
    rfl
  · obtain ⟨q, S, rfl, hq, h0, h1, k⟩ := h
    refine ⟨_,     (pss_one (ps_ret (pe_callTy (call_tupK K) (by rfl) (n_tuple T) (by decide +kernel) (pa_cons (pe_lc (own := [("line", 1)]) rfl sc_Playing_picture.nd (pi_range1 rfl (n_range T) (pa_cons (pe_fldK K (pv 0) rfl) pa_nil)) (blkOk_by (N := ["self", "line"]) (sc := defScope s_Playing_picture) (by decide +kernel)) (fun _ _ _ _ _ => (pg_name (i := 1) sc_Playing_picture.nd rfl (Or.inl rfl))) (fun _ _ _ _ _ => pts_nil) (fun _ _ _ _ _ => (pe_callTy (call_tupK K) (by rfl) (n_tuple T) (by decide +kernel) (pa_cons (pe_slice (sl_listK K) (pe_fldK K (pv 0) rfl) (po_some (pe_op op_mul (pgi (i_PLACES T) rfl) (pv 1))) (po_some (pe_op op_add (pe_op op_mul (pgi (i_PLACES T) rfl) (pv 1)) (pgi (i_PLACES T) rfl)))) pa_nil)))) pa_nil)))), ?_⟩
    show (_ : TS) _ [_, none] _
    obtain ⟨dx, hp⟩ := hq.ob
    obtain ⟨ds, hd, hdl⟩ := hq.dr
    fail "bm_go"
    refine lcN_r (n := S.lines) (R := fun _ _ _ => True) ⟨fun _ _ => trivial, fun _ _ => trivial⟩ (by omega) (by omega) (fun i H2 hi s2 Rk R0 q1 => ?_) (fun D H2 ws hD s2 hd2 hw hr => ?_)
    · have hp2 := s2 _ _ hp
      have hd2 := s2 _ _ hd
      fail "bm_turn"
      fail "bm_go"
      refine ⟨_, _, rfl, SqL.of hd2, fun l hl => ?_⟩
      fail "bm_go"
      refine r_tupL (SqL.of upd_same) fun t ht => ?_
      exact q1 _ _ (same_mut (same_new hl) (none_upd ht)) trivial
    · fail "bm_go"
      refine r_tupL (SqL.of hd2) fun t ht => ?_
      exact k t _ (same_mut s2 (s2.free ht))
def sp_pl_log (K : PySem.W.Frag) : Sp := fun vs H Q _ => ∃ (q : Addr) (S : PlS), vs = [.ref q] ∧ PlAt K H q S ∧ 0 ≤ S.lines ∧ S.lines ≤ 40 ∧ S.wn ≤ 5000 ∧ ∀ (t : Addr) (v1 v2 : V) (H' : Hp), Same H H' → SqT K H' t [.int S.lines, v1, v2] → Q (.ref t) H'
theorem sc_Playing_log : FnScope ["self", "end", "writes", "at", "door", "a"] ["self"] (defScope s_Playing_log) := ⟨rfl, rfl, rfl, by decide +kernel, rfl, by decide +kernel, by decide +kernel⟩
theorem ok_Playing_log {P : Program} {w : World} {K : PySem.W.Frag} {mg : Str → Option Value} {base : Heap} (T : Tx K mg) : Ok P w K mg base CX0 1 618 ["self"] (sp_pl_log K) := by
  refine ok0 0 (f_Playing_log T) sc_Playing_log (fun _ _ _ _ _ _ us hl => match us, hl with | [_], _ => rfl) (fun vs H Q E h => ?_) (fun cdv A outer sh H vs Q E room h => ?_)
  · obtain ⟨q, S, rfl, hq, h0, h1, hwn, k⟩ := h
    rfl
  · obtain ⟨q, S, rfl, hq, h0, h1, hwn, k⟩ := h
    refine ⟨_,     (pss_cons (ps_set (i := 1) sc_Playing_log.nd rfl (Or.inr rfl) (pe_op op_mul (pgi (i_BEATS T) rfl) (pe_fldK K (pv 0) rfl)))
        (pss_cons (ps_setLc (i := 2) (own := [("at", 3), ("door", 4), ("a", 5)]) rfl sc_Playing_log.nd rfl rfl (sw_true rfl rfl rfl (by decide +kernel)) (pi_listK K (pe_fldK K (pv 0) rfl)) (blkOk_by (N := ["self", "end", "writes", "at", "door", "a"]) (sc := defScope s_Playing_log) (by decide +kernel)) (fun _ _ _ _ _ => (pg_tupK K (n := 3) rfl (pgs_cons (pg_name (i := 3) sc_Playing_log.nd rfl (Or.inl rfl)) (pgs_cons (pg_name (i := 4) sc_Playing_log.nd rfl (Or.inl rfl)) (pgs_cons (pg_name (i := 5) sc_Playing_log.nd rfl (Or.inl rfl)) pgs_nil))))) (fun _ _ _ _ _ => (pts_one (pt_cmpR op_lt (pv 3) (pv 1) (nomark _)))) (fun _ _ _ _ _ => (pe_tup (pa_cons (pe_op op_fdiv (pv 3) (pgi (i_BEATS T) rfl)) (pa_cons (pe_op op_mod (pv 3) (pgi (i_BEATS T) rfl)) (pa_cons (pv 4) (pa_cons (pv 5) pa_nil)))))))
        (pss_one (ps_ret (pe_tup (pa_cons (pe_fldK K (pv 0) rfl) (pa_cons (pe_fldK K (pv 0) rfl) (pa_cons (pe_callTy (call_tupK K) (by rfl) (n_tuple T) (by decide +kernel) (pa_cons (pv 2) pa_nil)) pa_nil)))))))), ?_⟩
    show (_ : TS) _ [_, none, none, none, none, none] _
    obtain ⟨dx, hp⟩ := hq.ob
    obtain ⟨ws, hw, hwl, hwt⟩ := hq.wr
    fail "bm_go"
    refine lcL_any (SqL.of hw) (by omega) (fun i x H2 hx s2 Rk R0 q1 q0 => ?_) (fun D H2 us hD s2 hd2 hul => ?_)
    · obtain ⟨i1, i2, i3, t, rfl, ht⟩ := hwt x (List.mem_of_getElem? hx)
      have ht2 := sqT_same s2 ht
      fail "bm_turn"
      fail "bm_go"
      refine r_ifD (fun _ => ?_) (fun _ => ?_)
      · fail "bm_go"
        intro u nu
        exact q1 _ _ (same_new nu)
      · exact q0 _ (Same.refl _)
    · have hp2 := s2 _ _ hp
      fail "bm_go"
      refine r_tupL (SqL.of hd2) fun t ht => ?_
      fail "bm_go"
      intro u nu
      exact k u _ _ _ (same_mut (same_mut s2 (s2.free ht)) (s2.free (none_upd nu))) (SqT.of upd_same)
def sp_pl_state (K : PySem.W.Frag) : Sp := fun vs H Q _ => ∃ (q : Addr) (S : PlS), vs = [.ref q] ∧ PlAt K H q S ∧ 0 ≤ S.lines ∧ S.lines ≤ 40 ∧ ∀ (t ds : Addr) (H' : Hp), Same H H' → St12 K H' t S.i (S.moment - 32 * S.lines) S.waiting ds → Q (.ref t) H'
theorem sc_Playing_state : FnScope ["self", "beat"] ["self"] (defScope s_Playing_state) := ⟨rfl, rfl, rfl, by decide +kernel, rfl, by decide +kernel, by decide +kernel⟩
theorem ok_Playing_state {P : Program} {w : World} {K : PySem.W.Frag} {mg : Str → Option Value} {base : Heap} (T : Tx K mg) : Ok P w K mg base CX0 1 625 ["self"] (sp_pl_state K) := by
  refine ok0 0 (f_Playing_state T) sc_Playing_state (fun _ _ _ _ _ _ us hl => match us, hl with | [_], _ => rfl) (fun vs H Q E h => ?_) (fun cdv A outer sh H vs Q E room h => ?_)
  · obtain ⟨q, S, rfl, hq, h0, h1, k⟩ := h
    rfl
  · obtain ⟨q, S, rfl, hq, h0, h1, k⟩ := h
    refine ⟨_,     (pss_cons (ps_set (i := 1) sc_Playing_state.nd rfl (Or.inl rfl) (pe_op op_sub (pe_fldK K (pv 0) rfl) (pe_op op_mul (pgi (i_BEATS T) rfl) (pe_fldK K (pv 0) rfl))))
        (pss_one (ps_ret (pe_op (op_catK K) (pe_fldK K (pv 0) rfl) (pe_tup (pa_cons (pe_fldK K (pv 0) rfl) (pa_cons (pe_fldK K (pv 0) rfl) (pa_cons (pe_fldK K (pv 0) rfl) (pa_cons (pv 1) (pa_cons (pe_fldK K (pv 0) rfl) (pa_cons (pe_fldK K (pv 0) rfl) pa_nil))))))))))), ?_⟩
    show (_ : TS) _ [_, none] _
    obtain ⟨dx, hp⟩ := hq.ob
    obtain ⟨a, x, z, c, m, hh, hm⟩ := hq.im.held
    fail "bm_go"
    intro t nt
    have s1 := same_new (o := .tup [.ref S.doors, .int S.met, .int S.timer, .int (S.moment - 32 * S.lines), .int S.waiting, .int S.asked]) nt
    refine r_catG (sqT_same s1 hh) (SqT.of upd_same) (by simp) fun u H2 s2 hu => ?_
    have s12 := s1.trans s2
    exact k u S.doors H2 s12 ⟨a, x, z, c, S.met, S.timer, S.asked, m, hu, hm.im (im_of s12), hq.im.doors.im (im_of s12)⟩
/-! ### the trace: rows with their moments -/
structure Tr (P : List Row) (b : Int) (l : List (Nat × Int)) : Prop where
  lt : ∀ e ∈ l, e.1 < P.length
  way : ∀ (k r r' : Nat) (t t' : Int), l[k]? = some (r, t) → l[k + 1]? = some (r', t') → ¬ isWaitR P r → (r', t' - t) ∈ ent P b r
/-- the next row is i at the moment n -/
def Aim (P : List Row) (b : Int) (l : List (Nat × Int)) (i : Nat) (n w : Int) : Prop := ∀ (r : Nat) (t : Int), l.getLast? = some (r, t) → ¬ isWaitR P r → (i, n - t) ∈ ent P b r ∧ w ≠ 1
def shift (T : Int) (l : List (Nat × Int)) : List (Nat × Int) := l.map fun e => (e.1, T + e.2)
theorem Tr.nil {P : List Row} {b : Int} : Tr P b [] := ⟨fun e h => by simp at h, fun k r r' t t' h => by simp at h⟩
theorem Tr.snoc {P : List Row} {b : Int} {l : List (Nat × Int)} {i : Nat} {n w : Int} (h : Tr P b l) (a : Aim P b l i n w) (hi : i < P.length) : Tr P b (l ++ [(i, n)]) := by
  refine ⟨fun e he => ?_, fun k r r' t t' h1 h2 hw => ?_⟩
  · rcases List.mem_append.mp he with he | he
    · exact h.lt e he
    · rw [List.mem_singleton.mp he]
      exact hi
  · by_cases hk : k + 1 < l.length
    · rw [List.getElem?_append_left (by omega)] at h1
      rw [List.getElem?_append_left hk] at h2
      exact h.way k r r' t t' h1 h2 hw
    · have hk2 := (List.getElem?_eq_some_iff.mp h2).1
      rw [List.length_append, List.length_singleton] at hk2
      have e : l.length = k + 1 := by omega
      rw [List.getElem?_append_left (by omega)] at h1
      rw [List.getElem?_append_right (by omega), e, Nat.sub_self] at h2
      simp at h2
      obtain ⟨rfl, rfl⟩ := h2
      exact (a r t (by rw [List.getLast?_eq_getElem?, e]; exact h1) hw).1
theorem shift_app (T : Int) (l l' : List (Nat × Int)) : shift T (l ++ l') = shift T l ++ shift T l' := by unfold shift; rw [List.map_append]
structure PlSame (S S' : PlS) : Prop where
  pg : S'.pg = S.pg
  base : S'.base = S.base
  P : S'.P = S.P
  dl : S'.dl = S.dl
  wl : S'.wl = S.wl
  rl : S'.rl = S.rl
theorem PlSame.os {S S' : PlS} (h : PlSame S S') (q : Addr) : S'.os q = S.os q := by
  show [q, S'.dl, S'.wl, S'.rl] = [q, S.dl, S.wl, S.rl]
  rw [h.dl, h.wl, h.rl]
theorem PlSame.trans {S S' S'' : PlS} (a : PlSame S S') (b : PlSame S' S'') : PlSame S S'' := ⟨b.pg.trans a.pg, b.base.trans a.base, b.P.trans a.P, b.dl.trans a.dl, b.wl.trans a.wl, b.rl.trans a.rl⟩
/-- where the playing stands between rows -/
structure Now (P : List Row) (b T0 : Int) (l0 : List (Nat × Int)) (S : PlS) : Prop where
  i : S.i < P.length
  m0 : 0 ≤ S.moment
  dn : (S.dn : Int) ≤ 2 * S.moment
  wn : S.wn ≤ S.tr.length
  tl : (2 * S.tr.length : Int) ≤ S.moment
  ln : S.lines = 0 ∧ S.moment < 1280 ∨ 0 < S.lines ∧ S.lines ≤ 40 ∧ 32 * S.lines ≤ S.moment ∧ S.moment ≤ 32 * S.lines + 8
  tr : Tr P b (l0 ++ shift T0 S.tr)
  aim : Aim P b (l0 ++ shift T0 S.tr) S.i (T0 + S.moment) S.waiting
def sp_pl_play (K : PySem.W.Frag) : Sp := fun vs H Q E => ∃ (q : Addr) (S : PlS) (T0 : Int) (l0 : List (Nat × Int)), vs = [.ref q] ∧ PlAt K H q S ∧ WF S.P ∧ S.base + longOf S.P ≤ 256 ∧ Now S.P S.base T0 l0 S ∧ S.lines = 0 ∧ S.moment < 1000 ∧ Outs (S.os q) H E ∧
  ∀ (S' : PlS) (H' : Hp), Chs (S.os q) H H' → PlAt K H' q S' → PlSame S S' → Now S.P S.base T0 l0 S' → 0 < S'.lines → Q .non H'
theorem Now.row {P : List Row} {b T0 : Int} {l0 : List (Nat × Int)} {S S' : PlS} (h : Now P b T0 l0 S) (eP : S.P = P) (eb : S.base = b) (r : RowStep S S') (hz : S.waiting ≠ 1) : Now P b T0 l0 S' := by
  subst eP eb
  have tr' : l0 ++ shift T0 S'.tr = (l0 ++ shift T0 S.tr) ++ [(S.i, T0 + S.moment)] := by
    rw [r.tr, shift_app, List.append_assoc]
    rfl
  have htr := h.tr.snoc h.aim h.i
  have h1 := h.dn
  have h2 := r.dn
  have h3 := r.mo
  have h4 := h.tl
  have h5 := h.wn
  have h6 := r.wn
  have h7 := r.ln
  have h8 := h.m0
  have hl : S'.tr.length = S.tr.length + 1 := by rw [r.tr]; simp
  refine ⟨r.i, by omega, by omega, by omega, by omega, by omega, by rw [tr']; exact htr, ?_⟩
  rw [tr']
  intro rr t ht hw
  rw [List.getLast?_append] at ht
  simp at ht
  obtain ⟨rfl, rfl⟩ := ht
  obtain ⟨g1, g2⟩ := r.way hw
  refine ⟨by rw [show T0 + S'.moment - (T0 + S.moment) = S'.moment - S.moment by omega]; exact g1, by rw [g2]; exact hz⟩
theorem sc_Playing_play : FnScope ["self"] ["self"] (defScope s_Playing_play) := ⟨rfl, rfl, rfl, by decide +kernel, rfl, by decide +kernel, by decide +kernel⟩
theorem ok_Playing_play {P : Program} {w : World} {K : PySem.W.Frag} {mg : Str → Option Value} {base : Heap} (T : Tx K mg) : Ok P w K mg base (L2.CX P w) 10 608 ["self"] (sp_pl_play K) := by
  refine okX 9 (f_Playing_play T) sc_Playing_play (fun _ _ _ _ _ _ us hl => match us, hl with | [_], _ => rfl) (fun vs H Q E h => ?_) (fun cdv A outer sh H vs Q E room h => ?_)
  · obtain ⟨q, S, T0, l0, rfl, hq, W, hb, N, hl0, hm, ho, k⟩ := h
    rfl
  · obtain ⟨q, S, T0, l0, rfl, hq, W, hb, N, hl0, hm, ho, k⟩ := h
    refine ⟨_,     (pss_cons (ps_if (pt_cmpR op_eq (pe_fldK K (pv 0) rfl) pe_int (nomark _))
          (pss_cons (ps_expr (pm0 (ok_Playing_pass_line (K := K) T) (room.mono (by decide)) (c_Playing T) (m_Playing_pass_line T) (passes_call (takes_of rfl rfl rfl rfl) (fun _ _ _ _ h => h)) (pv 0)))
          (pss_one (ps_fldK K (pv 0) pe_int rfl))) pss_nil)
        (pss_one (ps_while (passes_of rfl) (pt_cmpR op_eq (pe_fldK K (pv 0) rfl) pe_int (nomark _))
          (pss_one (ps_expr (pm0 (ok_Playing_do_row (K := K) T) (room.mono (by decide)) (c_Playing T) (m_Playing_do_row T) (passes_call (takes_of rfl rfl rfl rfl) (fun _ _ _ _ h => h)) (pv 0))))))), ?_⟩
    show (_ : TS) _ [_] _
    obtain ⟨dx, hp⟩ := hq.ob
    have loop : ∀ (S1 : PlS) (H1 : Hp) (D : Ends), Chs (S.os q) H H1 → PlAt K H1 q S1 → PlSame S S1 → Now S.P S.base T0 l0 S1 → (S1.lines = 0 → S1.waiting ≠ 1) → D.nx = (fun _ H' => Q .non H') →
        tWhile (tTest (tOp rEq (tFld K (tVar 0) "lines") (tC (.int 0)))) (tDrop (tMeth 628 "do_row" (sp_pl_row K) [] E (tVar 0) tNil)) D [some (.ref q)] H1 := fun S1 H1 D c1 h1 e1 n1 z1 eD => by
      refine ⟨fun m σ H' => σ = [some (.ref q)] ∧ Chs (S.os q) H H' ∧ ∃ S', PlAt K H' q S' ∧ PlSame S S' ∧ Now S.P S.base T0 l0 S' ∧ (S'.lines = 0 → S'.waiting ≠ 1) ∧ (S'.lines = 0 → (m : Int) = 1281 - S'.moment), ⟨(1281 - S1.moment).toNat, rfl, c1, S1, h1, e1, n1, z1, fun h => ?_⟩, fun m σ H' p => ?_⟩
      · have := n1.ln
        omega
      · obtain ⟨rfl, c, S', hS, es, n, hz, hme⟩ := p
        obtain ⟨dx1, hp1⟩ := hS.ob
        have g0 := n.ln
        have g1 := n.dn
        have g2 := n.wn
        have g3 := n.tl
        have g4 := n.m0
        fail "bm_go"
        refine r_ifD (fun hc => ?_) (fun hc => ?_)
        · have hc : S'.lines = 0 := by simpa using hc
          refine ⟨fun σ' H' => ∃ m', m' < m ∧ _, fun _ _ h => h, ?_⟩
          fail "bm_go"
          refine ⟨q, S', rfl, hS, ⟨by rw [es.P]; exact W, by rw [es.P, es.base]; exact hb, by rw [es.P]; exact n.i, hc, n.m0, by omega, by omega, by omega, by omega⟩, by rw [es.os]; exact ho.chs c, fun S2 H2 c2 hS2 r2 => ?_⟩
          rw [es.os] at c2
          have n2 := n.row es.P es.base r2 (hz hc)
          have h3 := r2.mo
          have h4 := hme hc
          have h5 := n2.ln
          refine ⟨(1281 - S2.moment).toNat, by omega, rfl, c.trans c2, S2, hS2, es.trans ⟨r2.pg, r2.base, r2.P, r2.dl, r2.wl, r2.rl⟩, n2, fun h => by rw [r2.wz h]; exact hz hc, fun h => by omega⟩
        · have hc : ¬ (S'.lines = 0) := by simpa using hc
          rw [eD]
          exact k S' H' c hS es n (by omega)
    fail "bm_go"
    refine r_ifD (fun hw => ?_) (fun hw => ?_)
    · have hw : S.waiting = 1 := by simpa using hw
      fail "bm_go"
      have g1 := N.dn
      have g4 := N.m0
      have g5 := N.tl
      refine ⟨q, S, rfl, hq, by omega, N.m0, fun _ => by omega, ho, fun me ti ak li n H1 c1 hln hmo hn31 h1 => ?_⟩
      obtain ⟨dx1, hp1⟩ := h1.ob
      dsimp only [PlS.fs] at hp1
      fail "bm_go"
      unfold Ln at hln
      refine loop { S with met := me, timer := ti, moment := S.moment + n, waiting := 0, asked := ak, lines := li, dn := S.dn + 2 * n } _ _ (c1.put (by simp) hp1 trivial) (h1.ints (dx := dx1) me ti (S.moment + n) 0 ak li) ⟨rfl, rfl, rfl, rfl, rfl, rfl⟩ ⟨N.i, ?_, ?_, N.wn, ?_, ?_, N.tr, ?_⟩ (fun _ => by show (0 : Int) ≠ 1; omega) rfl
      · show 0 ≤ S.moment + (n : Int)
        omega
      · show ((S.dn + 2 * n : Nat) : Int) ≤ 2 * (S.moment + n)
        omega
      · show (2 * S.tr.length : Int) ≤ S.moment + n
        omega
      · show li = 0 ∧ S.moment + (n : Int) < 1280 ∨ 0 < li ∧ li ≤ 40 ∧ 32 * li ≤ S.moment + (n : Int) ∧ S.moment + (n : Int) ≤ 32 * li + 8
        omega
      · intro r t ht hr
        exact absurd hw (N.aim r t ht hr).2
    · fail "bm_go"
      exact loop S H _ Chs.refl hq ⟨rfl, rfl, rfl, rfl, rfl, rfl⟩ N (fun _ => by simpa using hw) rfl
def frShow (K : PySem.W.Frag) (H : Hp) (v st : V) (e : Int × List (Nat × Int)) : Prop := ∃ (t lg rw : Addr) (pc v1 v2 : V) (rs : List V), v = .ref t ∧ SqT K H t [pc, .ref lg, .ref rw, st] ∧ SqT K H lg [.int e.1, v1, v2] ∧ SqT K H rw rs ∧ TrL K H rs e.2
theorem frShow.im {K : PySem.W.Frag} {H H' : Hp} {v st : V} {e : Int × List (Nat × Int)} (h : frShow K H v st e) (i : Im H H') : frShow K H' v st e := by
  obtain ⟨t, lg, rw, pc, v1, v2, rs, h1, h2, h3, h4, h5⟩ := h
  exact ⟨t, lg, rw, pc, v1, v2, rs, h1, i.sqT h2, i.sqT h3, i.sqT h4, h5.im i⟩
theorem St12.im {K : PySem.W.Frag} {H H' : Hp} {s ds : Addr} {i : Nat} {mo wa : Int} (h : St12 K H s i mo wa ds) (j : Im H H') : St12 K H' s i mo wa ds := by
  obtain ⟨a, x, z, c, me, ti, ak, m, h1, h2, h3⟩ := h
  exact ⟨a, x, z, c, me, ti, ak, m, j.sqT h1, h2.im j, h3.im j⟩
/-- a state between frames -/
structure Be (P : List Row) (b T0 : Int) (l : List (Nat × Int)) (i : Nat) (mo wa : Int) : Prop where
  il : i < P.length
  m0 : 0 ≤ mo
  m1 : mo ≤ 8
  tr : Tr P b l
  aim : Aim P b l i (T0 + mo) wa
def sp_frame (K : PySem.W.Frag) : Sp := fun vs H Q E => ∃ (pg s hd ds : Addr) (P : List Row) (b T0 mo wa : Int) (l0 : List (Nat × Int)) (i : Nat), vs = [.ref pg, .int b, .ref s, .ref hd] ∧ PAt K H pg P ∧ WF P ∧ b + longOf P ≤ 256 ∧ St12 K H s i mo wa ds ∧ IntT K H hd 3 ∧ Be P b T0 l0 i mo wa ∧
  (∀ H', Same H H' → E (.ref aNoFrame) none H') ∧ ∀ (t st ds' : Addr) (L mo' wa' : Int) (tr : List (Nat × Int)) (i' : Nat) (H' : Hp), Same H H' → frShow K H' (.ref t) (.ref st) (L, tr) → St12 K H' st i' mo' wa' ds' → tr.length ≤ 1000 → 0 < L → L ≤ 40 → Be P b (T0 + 32 * L) (l0 ++ shift T0 tr) i' mo' wa' → Q (.ref t) H'
theorem sc_frame : FnScope ["program", "base", "state", "hands", "playing"] ["program", "base", "state", "hands"] (defScope s_frame) := ⟨rfl, rfl, rfl, by decide +kernel, rfl, by decide +kernel, by decide +kernel⟩
theorem ok_frame {P : Program} {w : World} {K : PySem.W.Frag} {mg : Str → Option Value} {base : Heap} (T : Tx K mg) : Ok P w K mg base (L2.CX P w) 11 639 ["program", "base", "state", "hands"] (sp_frame K) := by
  refine okX 10 (f_frame T) sc_frame (fun _ _ _ _ _ _ us hl => match us, hl with | [_, _, _, _], _ => rfl) (fun vs H Q E h => ?_) (fun cdv A outer sh H vs Q E room h => ?_)
  · obtain ⟨pg, s, hd, ds, P, b, T0, mo, wa, l0, i, rfl, hP, W, hb, hs, hh, B, ho, k⟩ := h
    rfl
  · obtain ⟨pg, s, hd, ds, P, b, T0, mo, wa, l0, i, rfl, hP, W, hb, hs, hh, B, ho, k⟩ := h
    refine ⟨_,     (pss_cons (ps_expr (pc (ok_want_room (K := K) T) (room.mono (by decide)) rfl (g_want_room T) pass0 (pa_cons (pv 0) (pa_cons (pv 1) pa_nil))))
        (pss_cons (ps_set (i := 4) sc_frame.nd rfl (Or.inl rfl) (pmk (ok_Playing_init (K := K) T) (room.mono (by decide)) (k_Playing T) rfl (g_Playing T) pass0 (pa_cons (pv 0) (pa_cons (pv 1) (pa_cons (pv 2) (pa_cons (pv 3) pa_nil))))))
        (pss_cons (ps_expr (pm0 (ok_Playing_play (K := K) T) (room.mono (by decide)) (c_Playing T) (m_Playing_play T) (passes_call (takes_of rfl rfl rfl rfl) (fun _ _ _ _ h => h)) (pv 4)))
        (pss_one (ps_ret (pe_tup (pa_cons (pm0 (ok_Playing_picture (K := K) T) (room.mono (by decide)) (c_Playing T) (m_Playing_picture T) pass0 (pv 4)) (pa_cons (pm0 (ok_Playing_log (K := K) T) (room.mono (by decide)) (c_Playing T) (m_Playing_log T) pass0 (pv 4)) (pa_cons (pe_callTy (call_tupK K) (by rfl) (n_tuple T) (by decide +kernel) (pa_cons (pe_fldK K (pv 4) rfl) pa_nil)) (pa_cons (pm0 (ok_Playing_state (K := K) T) (room.mono (by decide)) (c_Playing T) (m_Playing_state T) pass0 (pv 4)) pa_nil)))))))))), ?_⟩
    show (_ : TS) _ [_, _, _, _, none] _
    have hz := W.len
    fail "bm_go"
    refine ⟨pg, P, b, rfl, hP, by omega, hb, fun H1 s1 => ?_⟩
    fail "bm_go"
    intro q dq nq ndq hne
    have nq0 : H q = none := s1.free nq
    have s2 : Same H (upd (upd H1 dq (.own q)) q (.ins 628 dq [])) := same_mut (same_mut s1 (s1.free ndq)) nq0
    have j2 := im_of s2
    refine ⟨q, pg, s, hd, dq, ds, P, b, mo, wa, i, rfl, upd_same, hP.im j2, hh.im j2, hs.im j2, fun H2 S c2 hS e1 e2 e3 e4 e5 e6 e7 e8 e9 e10 f1 f2 f3 => ?_⟩
    have s02 : Same H H2 := c2.out s2 nq0
    have g1 : H S.dl = none := s2.free f1
    have g2 : H S.wl = none := s2.free f2
    have g3 : H S.rl = none := s2.free f3
    have out : ∀ {H'}, Chs (S.os q) H2 H' → Same H H' := fun c => c.out s02 fun d hd' => by
      simp only [PlS.os, List.mem_cons, List.not_mem_nil, or_false] at hd'
      rcases hd' with rfl | rfl | rfl | rfl
      · exact nq0
      · exact g1
      · exact g2
      · exact g3
    refine ⟨rfl, ?_⟩
    fail "bm_go"
    obtain ⟨dx2, hp2⟩ := hS.ob
    fail "bm_go"
    have N : Now S.P S.base T0 l0 S := by
      have h1 := B.m0
      have h2 := B.m1
      refine ⟨by rw [e10, e2]; exact B.il, by omega, by rw [e7]; omega, by rw [e8]; omega, by rw [e9]; simp; omega, .inl ⟨e6, by omega⟩, ?_, ?_⟩
      · rw [e9, e2, e3]
        simpa [shift] using B.tr
      · rw [e9, e2, e3, e10, e4, e5]
        simpa [shift] using B.aim
    have h2 := B.m1
    refine ⟨q, S, T0, l0, rfl, hS, by rw [e2]; exact W, by rw [e2, e3]; exact hb, N, e6, by omega, fun H' c => ho H' (out c), fun S' H3 c3 hS' es N' hL => ?_⟩
    have s03 := out c3
    have hln : S'.lines ≤ 40 ∧ 32 * S'.lines ≤ S'.moment ∧ S'.moment ≤ 32 * S'.lines + 8 := by have := N'.ln; omega
    have tl := N'.tl
    have wn := N'.wn
    obtain ⟨dx3, hp3⟩ := hS'.ob
    fail "bm_go"
    refine ⟨q, S', rfl, hS', by omega, hln.1, fun t4 H4 s4 => ?_⟩
    have hS4 := hS'.same s4
    have hp4 := s4 _ _ hp3
    fail "bm_go"
    refine ⟨q, S', rfl, hS4, by omega, hln.1, by omega, fun t5 v1 v2 H5 s5 h5 => ?_⟩
    have hS5 := hS4.same s5
    have hp5 := s5 _ _ hp4
    obtain ⟨rs, hrl, hrt⟩ := hS5.rw
    fail "bm_go"
    refine r_tupL (SqL.of hrl) fun t6 n6 => ?_
    have s6 := same_new (o := .tup rs) n6
    have hS6 := hS5.same s6
    have hp6 := s6 _ _ hp5
    fail "bm_go"
    refine ⟨q, S', rfl, hS6, by omega, hln.1, fun t7 d7 H7 s7 h7 => ?_⟩
    fail "bm_go"
    intro t8 n8
    have s8 := same_new (o := .tup [V.ref t4, .ref t5, .ref t6, .ref t7]) n8
    have s68 := (s6.trans s7).trans s8
    have hrt6 : SqT K (upd H5 t6 (.tup rs)) t6 rs := SqT.of upd_same
    refine k t8 t7 d7 S'.lines _ _ S'.tr S'.i _ ((((s03.trans s4).trans s5).trans (s6.trans s7)).trans s8) ⟨t8, t5, t6, .ref t4, v1, v2, rs, rfl, SqT.of upd_same, sqT_same s68 h5, sqT_same (s7.trans s8) hrt6, hrt.im (im_of s68)⟩ (h7.im (im_of s8)) (by omega) hL hln.1 ⟨by rw [← e2]; exact N'.i, by omega, by omega, by rw [← e2, ← e3]; exact N'.tr, ?_⟩
    have := N'.aim
    rw [e2, e3] at this
    rw [show T0 + 32 * S'.lines + (S'.moment - 32 * S'.lines) = T0 + S'.moment by omega]
    exact this
def absOf : Int → List (Int × List (Nat × Int)) → List (Nat × Int)
  | _, [] => []
  | T, e :: fs => shift T e.2 ++ absOf (T + 32 * e.1) fs
def endOf : Int → List (Int × List (Nat × Int)) → Int
  | T, [] => T
  | T, e :: fs => endOf (T + 32 * e.1) fs
theorem absOf_snoc : ∀ (T : Int) (fs : List (Int × List (Nat × Int))) (e : Int × List (Nat × Int)), absOf T (fs ++ [e]) = absOf T fs ++ shift (endOf T fs) e.2
  | T, [], e => by simp [absOf, endOf]
  | T, f :: fs, e => by rw [List.cons_append, absOf, absOf, absOf_snoc, List.append_assoc]; rfl
theorem endOf_snoc : ∀ (T : Int) (fs : List (Int × List (Nat × Int))) (e : Int × List (Nat × Int)), endOf T (fs ++ [e]) = endOf T fs + 32 * e.1
  | T, [], e => by simp [endOf]
  | T, f :: fs, e => by rw [List.cons_append, endOf, endOf, endOf_snoc]
structure RunOk (P : List Row) (b : Int) (fs : List (Int × List (Nat × Int))) : Prop where
  tr : Tr P b (absOf 0 fs)
  len : ∀ e ∈ fs, e.2.length ≤ 1000 ∧ 0 < e.1 ∧ e.1 ≤ 40
def RunL (K : PySem.W.Frag) (H : Hp) (ws : List V) (fs : List (Int × List (Nat × Int))) : Prop := ws.length = fs.length ∧ ∀ (k : Nat) (v : V) (e : Int × List (Nat × Int)), ws[k]? = some v → fs[k]? = some e → ∃ st, frShow K H v st e
theorem RunL.im {K : PySem.W.Frag} {H H' : Hp} {ws : List V} {fs : List (Int × List (Nat × Int))} (h : RunL K H ws fs) (i : Im H H') : RunL K H' ws fs := ⟨h.1, fun k v e a b => by
  obtain ⟨st, z⟩ := h.2 k v e a b
  exact ⟨st, z.im i⟩⟩
theorem RunL.snoc {K : PySem.W.Frag} {H : Hp} {ws : List V} {fs : List (Int × List (Nat × Int))} {v st : V} {e : Int × List (Nat × Int)} (h : RunL K H ws fs) (z : frShow K H v st e) : RunL K H (ws ++ [v]) (fs ++ [e]) := by
  refine ⟨by simp [h.1], fun k w e' a b => ?_⟩
  by_cases hk : k < ws.length
  · rw [List.getElem?_append_left hk] at a
    rw [List.getElem?_append_left (by rw [← h.1]; exact hk)] at b
    exact h.2 k w e' a b
  · have hk2 := (List.getElem?_eq_some_iff.mp a).1
    have hk3 : k = ws.length := by simp at hk2; omega
    subst hk3
    have a' : v = w := by simpa using a
    have b' : e = e' := by
      rw [h.1] at b
      simpa using b
    subst a' b'
    exact ⟨st, z⟩
def sp_run (K : PySem.W.Frag) : Sp := fun vs H Q E => ∃ (pg tale : Addr) (P : List Row) (b : Int) (n : Nat) (xs : List V), vs = [.ref pg, .int b, .ref tale, .int n] ∧ PAt K H pg P ∧ WF P ∧ b + longOf P ≤ 256 ∧ n ≤ 10 ∧ SqT K H tale xs ∧ (∀ x ∈ xs, ∃ u, x = .ref u ∧ IntT K H u 3) ∧
  (∀ H', Same H H' → E (.ref aNoFrame) none H') ∧ ∀ (D : Addr) (ws : List V) (fs : List (Int × List (Nat × Int))) (H' : Hp), Same H H' → H' D = some (.lst ws) → H D = none → RunL K H' ws fs → RunOk P b fs → fs.length = n → Q (.ref D) H'
theorem sc_run : FnScope ["program", "base", "tale", "frames", "state", "found", "number", "told"] ["program", "base", "tale", "frames"] (defScope s_run) := ⟨rfl, rfl, rfl, by decide +kernel, rfl, by decide +kernel, by decide +kernel⟩
theorem ok_run {P : Program} {w : World} {K : PySem.W.Frag} {mg : Str → Option Value} {base : Heap} (T : Tx K mg) : Ok P w K mg base (L2.CX P w) 12 654 ["program", "base", "tale", "frames"] (sp_run K) := by
  refine okX 11 (f_run T) sc_run (fun _ _ _ _ _ _ us hl => match us, hl with | [_, _, _, _], _ => rfl) (fun vs H Q E h => ?_) (fun cdv A outer sh H vs Q E room h => ?_)
  · obtain ⟨pg, tale, P, b, n, xs, rfl, hP, W, hb, hn, ht, hx, ho, k⟩ := h
    rfl
  · obtain ⟨pg, tale, P, b, n, xs, rfl, hP, W, hb, hn, ht, hx, ho, k⟩ := h
    refine ⟨_,     (pss_cons (ps_set (i := 4) sc_run.nd rfl (Or.inl rfl) (pc (ok_start (K := K) T) (room.mono (by decide)) rfl (g_start T) pass0 (pa_cons (pv 0) pa_nil)))
        (pss_cons (ps_set (i := 5) sc_run.nd rfl (Or.inl rfl) (pe_lst pa_nil))
        (pss_cons (ps_for (passes_of rfl) rfl (pi_range1 rfl (n_range T) (pa_cons (pv 3) pa_nil)) (pg_name (i := 6) sc_run.nd rfl (Or.inl rfl))
          (pss_cons (ps_set (i := 7) sc_run.nd rfl (Or.inl rfl) (pc (ok_frame (K := K) T) (room.mono (by decide)) rfl (g_frame T) (passes_call (takes_of rfl rfl rfl rfl) (fun _ _ _ _ h => h)) (pa_cons (pv 0) (pa_cons (pv 1) (pa_cons (pv 4) (pa_cons (pc (ok_hands_of (K := K) T) (room.mono (by decide)) rfl (g_hands_of T) pass0 (pa_cons (pv 2) (pa_cons (pv 6) pa_nil))) pa_nil))))))
          (pss_cons (ps_expr (pe_bmK K PySem.F.plainAttrs_list PySem.F.slot_list_append PySem.F.type_list_append mt_append (pv 5) (pa_cons (pv 7) pa_nil)))
          (pss_one (ps_set (i := 4) sc_run.nd rfl (Or.inl rfl) (pe_ix (ix_tupK K) (pv 7) pe_int (fun _ _ => rfl)))))))
        (pss_one (ps_ret (pv 5)))))), ?_⟩
    show (_ : TS) _ [_, _, _, _, none, none, none, none] _
    fail "bm_go"
    refine ⟨_, rfl, fun s m d H1 s1 hm hd hs => ?_⟩
    fail "bm_go"
    intro D nD
    have nD0 : H D = none := s1.free nD
    have sD := same_new (o := .lst []) nD
    fail "bm_go"
    have sD2 := s1.trans sD
    have hs12 : St12 K (upd H1 D (.lst [])) s 0 0 0 d := ⟨0, 0, 1, 0, 0, 0, 0, m, sqT_same sD hs, hm.im (im_of sD), hd.im (im_of sD)⟩
    refine forN_c D (fun i σ H' => (∃ st o1 o2, σ = [some (.ref pg), some (.int b), some (.ref tale), some (.int n), some (.ref st), some (.ref D), o1, o2] ∧ ∃ ws fs ii mo wa ds, H' D = some (.lst ws) ∧ fs.length = i ∧ i ≤ n ∧ RunL K H' ws fs ∧ (∀ e ∈ fs, e.2.length ≤ 1000 ∧ 0 < e.1 ∧ e.1 ≤ 40) ∧ St12 K H' st ii mo wa ds ∧ Be P b (endOf 0 fs) (absOf 0 fs) ii mo wa))
      (by omega) (by omega) ⟨s, none, none, rfl, [], [], 0, 0, 0, d, upd_same, rfl, Nat.zero_le _, ⟨rfl, by simp⟩, by simp, hs12, ⟨W.ne, by omega, by omega, Tr.nil, fun r t h => by simp [absOf] at h⟩⟩ (fun i σ H' hi c p => ?_) (fun σ H' c p => ?_)
    · obtain ⟨st, o1, o2, rfl, ws, fs, ii, mo, wa, ds, hD, hfl, hin, hR, hlen, hst, B⟩ := p
      have s0 : Same H H' := c.out sD2 nD0
      fail "bm_go"
      refine ⟨tale, i, xs, rfl, sqT_same s0 ht, fun x hm => ?_, fun u hu => ?_⟩
      · obtain ⟨u, e, hu⟩ := hx x hm
        exact ⟨u, e, hu.im (im_of s0)⟩
      fail "bm_go"
      refine ⟨pg, st, u, ds, P, b, endOf 0 fs, mo, wa, absOf 0 fs, ii, rfl, hP.same s0, W, hb, hst, hu, B, fun H2 s2 => ho H2 (s0.trans s2), fun t st' ds' L mo' wa' tr i' H2 s2 hsh hst' htl hL hL2 B' => ?_⟩
      have hD2 := s2 _ _ hD
      obtain ⟨tt, lg, rw, pc, v1, v2, rs, ett, h1, h2, h3, h4⟩ := id hsh
      cases ett
      fail "bm_go"
      refine r_app hD2 (szl (by rw [hR.1]; omega)) ?_
      have hsh3 := hsh.im (Im.mut (o := .lst (ws ++ [.ref t])) hD2 trivial)
      have h13 := sqT_im (Im.mut (o := .lst (ws ++ [.ref t])) hD2 trivial) h1
      fail "bm_go"
      refine ⟨(c.step s2).put hD2 trivial, st', _, _, rfl, ws ++ [.ref t], fs ++ [(L, tr)], i', mo', wa', ds', upd_same, by simp [hfl], by omega, ?_, ?_, hst'.im (Im.mut hD2 trivial), ?_⟩
      · exact ((hR.im (im_of s2)).im (Im.mut hD2 trivial)).snoc hsh3
      · intro e he
        rcases List.mem_append.mp he with he | he
        · exact hlen e he
        · rw [List.mem_singleton.mp he]
          exact ⟨htl, hL, hL2⟩
      · rw [endOf_snoc, absOf_snoc]
        exact B'
    · obtain ⟨st, o1, o2, rfl, ws, fs, ii, mo, wa, ds, hD, hfl, hin, hR, hlen, hst, B⟩ := p
      fail "bm_go"
      exact k D ws fs H' (c.out sD2 nD0) hD nD0 hR ⟨B.tr, hlen⟩ (by rw [hfl]; simp)
end
section
/-! ## B1: seeking: behind, met_from -/
local macro_rules | `(tactic| fail "bm_go1") => `(tactic| first
  | ((with_reducible apply r_fldE); fail "bm_hp"; fail "bm_cls"; fail "bm_na"; assumption)
  | ((with_reducible apply r_methE); fail "bm_hp"; assumption))
/-- an edge of the seeker's graph -/
def Ed (P : List Row) (b : Int) (o i j : Nat) : Prop := i ≠ o ∧ (∃ bt, (j, bt) ∈ ent P b i) ∧ ¬ isWaitR P j
theorem ent_lt {P : List Row} {b bt : Int} {i j : Nat} (W : WF P) (h : (j, bt) ∈ ent P b i) : i < P.length ∧ j < P.length ∧ 2 ≤ bt ∧ bt ≤ 4 := by
  have far_le : ∀ k, 3 ≤ far P b i k ∧ far P b i k ≤ 4 := fun k => by
    unfold far
    have := crossed_le (adr b P k) (adr b P (i + 1))
    omega
  cases hr : P[i]? with
  | none => unfold ent at h; rw [hr] at h; simp at h
  | some r =>
    have hi := (List.getElem?_eq_some_iff.mp hr).1
    have hok := W.ok i r hr
    rcases hok.cases3 with ⟨e1, e2, mk, k, e3, hk⟩ | ⟨e1, e2, mk, k, e3, hk⟩ | ⟨e1, e2, e4⟩
    · rw [ent_if hr e1 e3 hk] at h
      have := W.last i r hr e2
      have := far_le k
      have hk' := markIx_lt hk
      simp at h
      rcases h with ⟨rfl, rfl⟩ | ⟨rfl, rfl⟩ <;> omega
    · rw [ent_go hr e1 e2 e3 hk] at h
      have hk' := markIx_lt hk
      simp at h
      omega
    · rw [ent_no hr e1 e2] at h
      have := W.last i r hr e4
      have := hok.cnt
      simp at h
      omega
theorem Ed.lt {P : List Row} {b : Int} {o i j : Nat} (W : WF P) (h : Ed P b o i j) : i < P.length ∧ j < P.length := by
  obtain ⟨_, ⟨bt, h⟩, _⟩ := h
  exact ⟨(ent_lt W h).1, (ent_lt W h).2.1⟩
def waitsOf (P : List Row) : List V := P.map fun r => .bl (decide (V.str r.d = V.str "wait"))
theorem waits_at {P : List Row} {j : Nat} (h : j < P.length) : ∃ b, atI (waitsOf P) (j : Int) = some (.bl b) ∧ (b = true ↔ isWaitR P j) := by
  refine ⟨_, atI_nat (by unfold waitsOf; rw [List.getElem?_map, List.getElem?_eq_getElem h]; rfl), ?_⟩
  rw [decide_eq_true_iff]
  constructor
  · intro e
    exact ⟨_, List.getElem?_eq_getElem h, V.str.inj e⟩
  · rintro ⟨r, hr, e⟩
    rw [List.getElem?_eq_getElem h] at hr
    cases hr
    rw [e]
/-- the seeker as its early methods need it -/
structure SkB (K : PySem.W.Frag) (H : Hp) (q : Addr) (P : List Row) (b : Int) (o : Nat) : Prop where
  ob : ∃ dx fs sl wl, H q = some (.ins 276 dx fs) ∧ fs.lookup ("other" : Str) = some (.int (o : Int)) ∧ fs.lookup ("steps" : Str) = some (.ref sl) ∧ fs.lookup ("waits" : Str) = some (.ref wl) ∧ fs.lookup ("behind" : Str) = none ∧ fs.lookup ("met_from" : Str) = none ∧
    fs.lookup ("way" : Str) = none ∧ StepsAt K H sl P b ∧ SqL K H wl (waitsOf P)
theorem SkB.same {K : PySem.W.Frag} {H H' : Hp} {q : Addr} {P : List Row} {b : Int} {o : Nat} (h : SkB K H q P b o) (s : Same H H') : SkB K H' q P b o := by
  obtain ⟨dx, fs, sl, wl, h1, h2, h3, h4, h5, h6, h7, h8, h9⟩ := h.ob
  exact ⟨dx, fs, sl, wl, s _ _ h1, h2, h3, h4, h5, h6, h7, h8.same s, s.seq h9⟩
def natsV (ws : List Nat) : List V := ws.map fun (n : Nat) => V.int (n : Int)
def sp_sk_behind (K : PySem.W.Frag) : Sp := fun vs H Q _ => ∃ (q : Addr) (P : List Row) (b : Int) (o i : Nat), vs = [.ref q, .int i] ∧ SkB K H q P b o ∧ WF P ∧ i < P.length ∧
  ∀ (l : Addr) (ws : List Nat) (H' : Hp), Same H H' → H l = none → H' l = some (.lst (natsV ws)) → (∀ j, j ∈ ws ↔ Ed P b o i j) → ws.Nodup → ws.length ≤ 2 → Q (.ref l) H'
theorem sc_Seeker_behind : FnScope ["self", "row", "following"] ["self", "row"] (defScope s_Seeker_behind) := ⟨rfl, rfl, rfl, by decide +kernel, rfl, by decide +kernel, by decide +kernel⟩
theorem ok_Seeker_behind {P : Program} {w : World} {K : PySem.W.Frag} {mg : Str → Option Value} {base : Heap} (T : Tx K mg) : Ok P w K mg base CX0 1 226 ["self", "row"] (sp_sk_behind K) := by
  refine ok0 0 (f_Seeker_behind T) sc_Seeker_behind (fun _ _ _ _ _ _ us hl => match us, hl with | [_, _], _ => rfl) (fun vs H Q E h => ?_) (fun cdv A outer sh H vs Q E room h => ?_)
  · obtain ⟨q, P, b, o, i, rfl, hq, W, hi, k⟩ := h
    rfl
  · obtain ⟨q, P, b, o, i, rfl, hq, W, hi, k⟩ := h
    refine ⟨_,     (pss_cons (ps_if (pt_cmpR op_eq (pv 1) (pe_fldK K (pv 0) rfl) (nomark _))
          (pss_one (ps_ret (pe_lst pa_nil))) pss_nil)
        (pss_one (ps_ret (pe_lc (own := [("following", 2)]) rfl sc_Seeker_behind.nd (pi_listK K (pe_callB (cr_srtI K) (by rfl) (n_sorted T) (by decide +kernel) (pa_cons (pe_callTy (call_list_dK rfl) (by rfl) (n_list T) (by decide +kernel) (pa_cons (pe_ix (ix_listK K) (pe_fldK K (pv 0) rfl) (pv 1) (fun _ _ => rfl)) pa_nil)) pa_nil))) (blkOk_by (N := ["self", "row", "following"]) (sc := defScope s_Seeker_behind) (by decide +kernel)) (fun _ _ _ _ _ => (pg_name (i := 2) sc_Seeker_behind.nd rfl (Or.inl rfl))) (fun _ _ _ _ _ => (pts_one (pt_not (pt_val (pe_ix (ix_listK K) (pe_fldK K (pv 0) rfl) (pv 2) (fun _ _ => rfl)))))) (fun _ _ _ _ _ => (pv 2)))))), ?_⟩
    show (_ : TS) _ [_, _, none] _
    obtain ⟨dx, fs, sl, wl, hp, l1, l2, l3, l4, l5, l6, hst, hwl⟩ := hq.ob
    fail "bm_go"
    refine r_ifD (fun e => ?_) (fun e => ?_)
    · have e : i = o := by
        have := V.int.inj e
        omega
      fail "bm_go"
      intro l nl
      exact k l [] _ (same_new nl) nl upd_same (fun j => ⟨fun h => by simp at h, fun h => absurd e h.1⟩) List.nodup_nil (by simp)
    have e : i ≠ o := fun z => e (by rw [z])
    obtain ⟨ds, hs1, hs2, hs3⟩ := hst
    obtain ⟨kvs, ks, f, hd, hD, hk2, hkn, hS⟩ := hs3 i ds[i] (List.getElem?_eq_getElem (by omega))
    have lx : atI (ds.map V.ref) (i : Int) = some (.ref ds[i]) := atI_nat (by rw [List.getElem?_map, List.getElem?_eq_getElem (by omega)]; rfl)
    fail "bm_go"
    refine ⟨ds[i], kvs, rfl, hd, fun p np => ?_⟩
    rw [hD.listed]
    have s1 := same_new (o := .lst (ks.map V.int)) np
    fail "bm_go"
    refine ⟨p, ks, rfl, SqL.of upd_same, fun ns' p2 hperm hsort np2 => ?_⟩
    have s2 := s1.trans (same_new (o := .lst (ns'.map V.int)) np2)
    have hnat : ∀ z ∈ ns', ∃ j : Nat, z = (j : Int) := fun z hz => hkn z (hperm.mem_iff.mp hz)
    obtain ⟨ns, rfl⟩ : ∃ ns : List Nat, ns' = ns.map (fun (n : Nat) => (n : Int)) := by
      clear hperm hsort np2 s2
      induction ns' with
      | nil => exact ⟨[], rfl⟩
      | cons z zs ih =>
        obtain ⟨j, rfl⟩ := hnat z (by simp)
        obtain ⟨ns, rfl⟩ := ih fun z hz => hnat z (by simp [hz])
        exact ⟨j :: ns, rfl⟩
    have hnd : ns.Nodup := by
      have := (hperm.nodup_iff).mpr hD.nd
      exact (List.pairwise_map.mp this).imp fun h e => h (by rw [e])
    have hmem : ∀ j : Nat, j ∈ ns ↔ ∃ bt, (j, bt) ∈ ent P b i := fun j => by
      have e1 : j ∈ ns ↔ (j : Int) ∈ ks := by
        rw [← hperm.mem_iff, List.mem_map]
        exact ⟨fun h => ⟨j, h, rfl⟩, fun ⟨j', h, e⟩ => by rw [show j = j' by omega]; exact h⟩
      rw [e1, hD.mem]
      rcases hS j with ⟨h0, h1⟩ | ⟨t, lo, hi', h0, _, h1, _, _⟩
      · exact ⟨fun h => absurd h0 h, fun ⟨bt, h⟩ => absurd h (h1 bt)⟩
      · exact ⟨fun _ => ⟨lo, h1⟩, fun _ => by rw [h0]; exact nofun⟩
    have hlen : ns.length ≤ 2 := by
      have := hperm.length_eq
      rw [List.length_map] at this
      omega
    rw [show List.map V.int (List.map (fun (n : Nat) => (n : Int)) ns) = natsV ns by unfold natsV; rw [List.map_map]; rfl] at s2 ⊢
    have isw : ∀ j : Nat, ∃ w : Bool, j < P.length → atI (waitsOf P) (j : Int) = some (.bl w) ∧ (w = true ↔ isWaitR P j) := fun j => by
      by_cases h : j < P.length
      · obtain ⟨w, h1, h2⟩ := waits_at h
        exact ⟨w, fun _ => ⟨h1, h2⟩⟩
      · exact ⟨true, fun z => absurd z h⟩
    obtain ⟨g, hg⟩ := Classical.axiomOfChoice isw
    refine lcL_f (xs := natsV ns) (fun k => !(g (ns.getD k 0))) (fun k => V.int ((ns.getD k 0 : Nat) : Int)) (SqL.of upd_same) (by unfold natsV; rw [List.length_map]; omega) (fun k x H2 hx s3 R R0 q1 q0 => ?_) (fun D H2 hD2 s3 hl => ?_)
    · unfold natsV at hx
      rw [List.getElem?_map] at hx
      cases ek : ns[k]? with
      | none => rw [ek] at hx; cases hx
      | some j =>
        rw [ek] at hx
        cases hx
        have ej : ns.getD k 0 = j := by rw [List.getD_eq_getElem?_getD, ek]; rfl
        rw [ej] at q1 q0
        obtain ⟨bt, hbt⟩ := (hmem j).mp (List.mem_of_getElem? ek)
        obtain ⟨g1, g2⟩ := hg j (ent_lt W hbt).2.1
        have hp3 := (s2.trans s3) _ _ hp
        have hwl3 := (s2.trans s3).seq hwl
        fail "bm_turn"
        fail "bm_go"
        refine r_ifB (fun h => ?_) (fun h => ?_)
        · fail "bm_go"
          exact q1 h _ (Same.refl _)
        · exact q0 h _ (Same.refl _)
    · have e1 : given (natsV ns).length (fun k => !(g (ns.getD k 0))) (fun k => V.int ((ns.getD k 0 : Nat) : Int)) = natsV (ns.filter fun j => !(g j)) := by
        have e0 : ns = (List.range ns.length).map fun k => ns.getD k 0 := by
          apply List.ext_getElem?
          intro n
          by_cases hn : n < ns.length
          · rw [List.getElem?_map, List.getElem?_eq_getElem hn, List.getElem?_range hn]
            simp [List.getD_eq_getElem?_getD, List.getElem?_eq_getElem hn]
          · rw [List.getElem?_eq_none_iff.mpr (by omega), List.getElem?_eq_none_iff.mpr (by simp; omega)]
        unfold given natsV
        rw [List.length_map]
        conv => rhs; rw [e0]
        rw [List.filter_map, List.map_map]
        rfl
      rw [e1] at hl
      refine k D _ H2 (s2.trans s3) (s2.free hD2) hl (fun j => ?_) (hnd.filter _) (Nat.le_trans (List.length_filter_le _ _) hlen)
      rw [List.mem_filter]
      constructor
      · rintro ⟨h1, h2⟩
        obtain ⟨bt, hbt⟩ := (hmem j).mp h1
        refine ⟨e, ⟨bt, hbt⟩, fun hw => ?_⟩
        rw [(hg j (ent_lt W hbt).2.1).2.mpr hw] at h2
        cases h2
      · rintro ⟨_, ⟨bt, hbt⟩, hw⟩
        refine ⟨(hmem j).mpr ⟨bt, hbt⟩, ?_⟩
        cases hgj : g j with
        | false => rfl
        | true => exact absurd ((hg j (ent_lt W hbt).2.1).2.mp hgj) hw
theorem nodup_len : ∀ (n : Nat) (l : List Nat), l.Nodup → (∀ x ∈ l, x < n) → l.length ≤ n
  | 0, l, _, h => by
    cases l with
    | nil => simp
    | cons x l => exact absurd (h x (by simp)) (by omega)
  | n + 1, l, nd, h => by
    have h1 := nodup_len n (l.erase n) (nd.erase n) fun x hx => by
      have h2 := (nd.mem_erase_iff).mp hx
      have h3 := h x h2.2
      omega
    have h4 := List.length_erase (l := l) (a := n)
    split at h4 <;> omega
theorem sqL_chs {K : PySem.W.Frag} {L : List Addr} {H H' : Hp} {a : Addr} {xs : List V} (c : Chs L H H') (n : a ∉ L) (h : SqL K H a xs) : SqL K H' a xs := by
  rcases h with (h | ⟨ob, h⟩) | h
  · exact .inl (.inl (c.kp _ _ n h))
  · exact .inl (.inr ⟨ob, c.kp _ _ n h⟩)
  · exact .inr h
/-- what a walk from start has met: each but the first has its parent before it -/
structure MetL (E : Nat → Nat → Prop) (start : Nat) (ms : List Nat) (par : Nat → Nat) : Prop where
  nd : ms.Nodup
  hd : ms[0]? = some start
  up : ∀ k j, ms[k]? = some j → 0 < k → ∃ k', k' < k ∧ ms[k']? = some (par j) ∧ E (par j) j
/-- a dict of ints, of naturals -/
def DN (H : Hp) (d : Addr) (ms : List Nat) (val : Nat → Int) : Prop := ∃ kvs f, H d = some (.dK kvs) ∧ DI kvs (ms.map fun (n : Nat) => (n : Int)) f ∧ ∀ j : Nat, f j = if j ∈ ms then some (.int (val j)) else none
theorem DN.same {H H' : Hp} {d : Addr} {ms : List Nat} {val : Nat → Int} (h : DN H d ms val) (s : Same H H') : DN H' d ms val := by
  obtain ⟨kvs, f, h1, h2, h3⟩ := h
  exact ⟨kvs, f, s _ _ h1, h2, h3⟩
theorem DN.at_ {H H' : Hp} {d : Addr} {ms : List Nat} {val : Nat → Int} (h : DN H d ms val) (e : ∀ u, H d = some u → H' d = some u) : DN H' d ms val := by
  obtain ⟨kvs, f, h1, h2, h3⟩ := h
  exact ⟨kvs, f, e _ h1, h2, h3⟩
theorem DN.new {H : Hp} {d : Addr} (n : Nat) (v : Int) (h : H d = some (.dK (putK [] (.inl (n : Int)) (.int v)))) : DN H d [n] (fun _ => v) := by
  refine ⟨_, _, h, DI.nil.put (n : Int) (.int v), fun j => ?_⟩
  by_cases e : j = n
  · subst e
    simp
  · rw [if_neg (by omega), if_neg (by simpa using e)]
/-- a key put -/
theorem DN.put {H : Hp} {d : Addr} {ms : List Nat} {val : Nat → Int} {kvs : List (Key × V)} {f : Int → Option V} (hD : DI kvs (ms.map fun (n : Nat) => (n : Int)) f) (hf : ∀ j : Nat, f j = if j ∈ ms then some (.int (val j)) else none) (n : Nat) (v : Int) (h : H d = some (.dK (putK kvs (.inl (n : Int)) (.int v)))) :
    DN H d (if n ∈ ms then ms else ms ++ [n]) (fun j => if j = n then v else val j) := by
  have hm : (n : Int) ∈ ms.map (fun (n : Nat) => (n : Int)) ↔ n ∈ ms := by
    rw [List.mem_map]
    exact ⟨fun ⟨j, h, e⟩ => by rw [show n = j by omega]; exact h, fun h => ⟨n, h, rfl⟩⟩
  refine ⟨_, (fun i => if i = (n : Int) then some (.int v) else f i), h, ?_, fun j => ?_⟩
  · have := hD.put (n : Int) (.int v)
    by_cases e : n ∈ ms
    · rw [if_pos (hm.mpr e)] at this
      rw [if_pos e]
      exact this
    · rw [if_neg (fun z => e (hm.mp z))] at this
      rw [if_neg e, List.map_append]
      exact this
  · by_cases e : j = n
    · subst e
      by_cases e2 : j ∈ ms <;> simp [e2]
    · show (if (j : Int) = (n : Int) then some (V.int v) else f j) = _
      rw [if_neg (show ¬ ((j : Int) = (n : Int)) by omega), hf]
      by_cases e2 : n ∈ ms <;> simp [e, e2]
section
variable {H : Hp} {d : Addr} {ms : List Nat} {val : Nat → Int} {j n : Nat} {v : Int} {ws : List Nat} {l : Addr}
theorem r_dnGet (h : DN H d ms val) (m : j ∈ ms) {q : V → Prop} (hq : q (.int (val j))) : ∃ a' v, V.ref d = .ref a' ∧ DGet H a' (.int (j : Int)) (some v) ∧ q v := by
  obtain ⟨kvs, f, h1, h2, h3⟩ := h
  refine r_dgetE (.inl h1) h2 ?_ hq
  rw [h3, if_pos m]
theorem r_dnIn (h : DN H d ms val) {q : Option V → Prop} (hq : q (if j ∈ ms then some (.int (val j)) else none)) : ∃ a' o, V.ref d = .ref a' ∧ DGet H a' (.int (j : Int)) o ∧ q o := by
  obtain ⟨kvs, f, h1, h2, h3⟩ := h
  refine r_dinE (.inl h1) h2 ?_
  rw [h3]
  exact hq
theorem r_dnPut (h : DN H d ms val) (hl : ms.length ≤ 1000) {q : Hp → Prop} (hq : ∀ H', Chg d H H' → DN H' d (if n ∈ ms then ms else ms ++ [n]) (fun j => if j = n then v else val j) → q H') : ∃ a' H4, V.ref d = .ref a' ∧ DPut H a' (.int (n : Int)) (.int v) H4 ∧ q H4 := by
  obtain ⟨kvs, f, h1, h2, h3⟩ := h
  have e := h2.len
  rw [List.length_map] at e
  exact r_dputE h1 (szl (by omega)) (hq _ (chg_at h1 trivial) (DN.put h2 h3 n v upd_same))
theorem r_appN (h : H l = some (.lst (natsV ws))) (hl : ws.length ≤ 10000) {Q : VK} (hq : ∀ H', Chg l H H' → H' l = some (.lst (natsV (ws ++ [n]))) → Q .non H') : rAppend (.ref l) [.int (n : Int)] H Q := by
  refine r_app h (szl (by unfold natsV; rw [List.length_map]; omega)) (hq _ (chg_at h trivial) ?_)
  rw [upd_same]
  unfold natsV
  rw [List.map_append]
  rfl
theorem nats_at (h : ws[j]? = some n) : atI (natsV ws) (j : Int) = some (.int (n : Int)) := atI_nat (by unfold natsV; rw [List.getElem?_map, h]; rfl)
theorem nats_len : (natsV ws).length = ws.length := by unfold natsV; rw [List.length_map]
end
def sp_sk_met (K : PySem.W.Frag) : Sp := fun vs H Q _ => ∃ (q : Addr) (P : List Row) (b : Int) (o st : Nat), vs = [.ref q, .int st] ∧ SkB K H q P b o ∧ WF P ∧ st < P.length ∧
  ∀ (d : Addr) (ms : List Nat) (par : Nat → Nat) (H' : Hp), Same H H' → H d = none → DN H' d ms (fun j => (par j : Int)) → MetL (Ed P b o) st ms par → (∀ j ∈ ms, j < P.length) → (∀ i ∈ ms, ∀ j, Ed P b o i j → j ∈ ms) → Q (.ref d) H'
/-- the walk under way: the first n are done, and of the next these -/
structure MetW (E : Nat → Nat → Prop) (N st : Nat) (ms : List Nat) (par : Nat → Nat) (n : Nat) : Prop where
  m : MetL E st ms par
  lt : ∀ j ∈ ms, j < N
  cl : ∀ i ∈ ms.take n, ∀ j, E i j → j ∈ ms
theorem MetW.len {E : Nat → Nat → Prop} {N st : Nat} {ms : List Nat} {par : Nat → Nat} {n : Nat} (h : MetW E N st ms par n) : ms.length ≤ N := nodup_len N ms h.m.nd h.lt
theorem MetW.add {E : Nat → Nat → Prop} {N st : Nat} {ms : List Nat} {par : Nat → Nat} {n j x : Nat} (h : MetW E N st ms par n) (hx : ms[n]? = some x) (hj : j ∉ ms) (hl : j < N) (he : E x j) :
    MetW E N st (ms ++ [j]) (fun y => if y = j then x else par y) n := by
  have hn := (List.getElem?_eq_some_iff.mp hx).1
  refine ⟨⟨?_, ?_, fun k y hk h0 => ?_⟩, fun y hy => ?_, fun i hi y hy => ?_⟩
  · rw [List.nodup_append]
    exact ⟨h.m.nd, List.nodup_cons.mpr ⟨List.not_mem_nil, List.nodup_nil⟩, fun a ha b hb e => hj (by rw [← (List.mem_singleton.mp hb : b = j), ← e]; exact ha)⟩
  · rw [List.getElem?_append_left (by omega)]
    exact h.m.hd
  · by_cases hk2 : k < ms.length
    · rw [List.getElem?_append_left hk2] at hk
      have hy : y ≠ j := fun e => hj (by rw [← e]; exact List.mem_of_getElem? hk)
      obtain ⟨k', h1, h2, h3⟩ := h.m.up k y hk h0
      refine ⟨k', h1, ?_, ?_⟩
      · rw [if_neg hy, List.getElem?_append_left (by omega)]
        exact h2
      · rw [if_neg hy]
        exact h3
    · have hk3 := (List.getElem?_eq_some_iff.mp hk).1
      have e : k = ms.length := by simp at hk3; omega
      subst e
      have e2 : j = y := by simpa using hk
      subst e2
      refine ⟨n, hn, ?_, ?_⟩
      · rw [if_pos rfl, List.getElem?_append_left hn]
        exact hx
      · rw [if_pos rfl]
        exact he
  · rcases List.mem_append.mp hy with hy | hy
    · exact h.lt y hy
    · rw [List.mem_singleton.mp hy]
      exact hl
  · rw [List.take_append_of_le_length (by omega)] at hi
    exact List.mem_append_left _ (h.cl i hi y hy)
theorem sc_Seeker_met_from : FnScope ["self", "start", "found", "waiting", "at", "following"] ["self", "start"] (defScope s_Seeker_met_from) := ⟨rfl, rfl, rfl, by decide +kernel, rfl, by decide +kernel, by decide +kernel⟩
theorem ok_Seeker_met_from {P : Program} {w : World} {K : PySem.W.Frag} {mg : Str → Option Value} {base : Heap} (T : Tx K mg) : Ok P w K mg base CX0 2 233 ["self", "start"] (sp_sk_met K) := by
  refine ok0 1 (f_Seeker_met_from T) sc_Seeker_met_from (fun _ _ _ _ _ _ us hl => match us, hl with | [_, _], _ => rfl) (fun vs H Q E h => ?_) (fun cdv A outer sh H vs Q E room h => ?_)
  · obtain ⟨q, P, b, o, st, rfl, hq, W, hst, k⟩ := h
    rfl
  · obtain ⟨q, P, b, o, st, rfl, hq, W, hst, k⟩ := h
    refine ⟨_,     (pss_cons (ps_set (i := 2) sc_Seeker_met_from.nd rfl (Or.inl rfl) (pe_disp (pps_cons (pv 1) (pv 1) pps_nil) (by rfl) (by rfl) (fun z => by cases z) (by decide)))
        (pss_cons (ps_set (i := 3) sc_Seeker_met_from.nd rfl (Or.inl rfl) (pe_lst (pa_cons (pv 1) pa_nil)))
        (pss_cons (ps_set (i := 4) sc_Seeker_met_from.nd rfl (Or.inl rfl) pe_int)
        (pss_cons (ps_while PassesOwn.never (pt_cmpR op_lt (pv 4) (pe_callB (call_lenK K) (by rfl) (n_len T) (by decide +kernel) (pa_cons (pv 3) pa_nil)) (nomark _))
          (pss_cons (ps_for PassesOwn.never rfl (pi_listK K (pm (ok_Seeker_behind (K := K) T) (room.mono (by decide)) (c_Seeker T) (m_Seeker_behind T) pass0 (pv 0) (pa_cons (pe_ix (ix_listK K) (pv 3) (pv 4) (fun _ _ => rfl)) pa_nil))) (pg_name (i := 5) sc_Seeker_met_from.nd rfl (Or.inl rfl))
            (pss_one (ps_if (pt_cmp (pc_dnotin (hu_of room) (pv 5) (pv 2)))
              (pss_cons (ps_dput (hu_of room) (pv 2) (pv 5) (pe_ix (ix_listK K) (pv 3) (pv 4) (fun _ _ => rfl)) rfl)
              (pss_one (ps_expr (pe_bmK K PySem.F.plainAttrs_list PySem.F.slot_list_append PySem.F.type_list_append mt_append (pv 3) (pa_cons (pv 5) pa_nil))))) pss_nil)))
          (pss_one (ps_set (i := 4) sc_Seeker_met_from.nd rfl (Or.inl rfl) (pe_op op_add (pv 4) pe_int)))))
        (pss_one (ps_ret (pv 2))))))), ?_⟩
    show (_ : TS) _ [_, _, none, none, none, none] _
    have hz := W.len
    fail "bm_go"
    intro d nd
    fail "bm_go"
    refine r_var rfl (r_var rfl ?_)
    refine ⟨upd_same, [(.inl (st : Int), .int st)], rfl, by simp, ?_⟩
    rw [upd_upd]
    fail "bm_go"
    intro wl nw
    have nw0 : H wl = none := none_upd nw
    have ndw : d ≠ wl := (ne_upd nw).symm
    fail "bm_go"
    have s0 : Same H (upd (upd H d (.dK (mergeK [] [(.inl (st : Int), V.int st)]))) wl (.lst [V.int (st : Int)])) := same_mut (same_new nd) nw0
    have h0 : DN (upd (upd H d (.dK (mergeK [] [(.inl (st : Int), V.int st)]))) wl (.lst [V.int (st : Int)])) d [st] (fun _ => (st : Int)) := DN.new st st (gD ndw upd_same)
    have w0 : upd (upd H d (.dK (mergeK [] [(.inl (st : Int), V.int st)]))) wl (.lst [V.int (st : Int)]) wl = some (.lst (natsV [st])) := upd_same
    revert s0 h0 w0
    generalize upd (upd H d (.dK (mergeK [] [(.inl (st : Int), V.int st)]))) wl (.lst [V.int (st : Int)]) = H0
    intro s0 h0 w0
    have out : ∀ {H'}, Chs [d, wl] H0 H' → Same H H' := fun c => c.out s0 fun x hx => by
      simp only [List.mem_cons, List.not_mem_nil, or_false] at hx
      rcases hx with rfl | rfl
      · exact nd
      · exact nw0
    refine ⟨fun m σ H' => ∃ o5 n ms par, σ = [some (.ref q), some (.int (st : Int)), some (.ref d), some (.ref wl), some (.int ((n : Nat) : Int)), o5] ∧ Chs [d, wl] H0 H' ∧ DN H' d ms (fun j => ((par j : Nat) : Int)) ∧ H' wl = some (.lst (natsV ms)) ∧ MetW (Ed P b o) P.length st ms par n ∧ n ≤ ms.length ∧ m + n = P.length,
      ⟨P.length, none, 0, [st], fun _ => st, rfl, Chs.refl, h0, w0, ⟨⟨by simp, rfl, fun k j hk h => ?_⟩, by simpa using hst, by simp⟩, by simp, rfl⟩, fun m σ H' p => ?_⟩
    · have := (List.getElem?_eq_some_iff.mp hk).1
      simp at this
      omega
    · obtain ⟨o5, n, ms, par, rfl, c, hD, hw, hM, hn, hmn⟩ := p
      have hml := hM.len
      have hq1 := hq.same (out c)
      fail "bm_go"
      rw [nats_len]
      refine r_ifD (fun hlt => ?_) (fun hlt => ?_)
      · have hlt : n < ms.length := by omega
        obtain ⟨x, hx⟩ : ∃ x, ms[n]? = some x := ⟨_, List.getElem?_eq_getElem hlt⟩
        have hxl := hM.lt x (List.mem_of_getElem? hx)
        have ix := nats_at hx
        refine ⟨fun σ' H' => ∃ m', m' < m ∧ _, fun _ _ h => h, ?_⟩
        obtain ⟨dx, fs, sl, wwl, hp, l1, l2, l3, l4, l5, l6, _, _⟩ := hq1.ob
        fail "bm_go"
        refine ⟨q, P, b, o, x, rfl, hq1, W, hxl, fun l ws H2 s2 nl hl hmem hnd hl2 => ?_⟩
        have nld : l ∉ [d, wl] := fun z => by
          simp only [List.mem_cons, List.not_mem_nil, or_false] at z
          rcases z with rfl | rfl
          · obtain ⟨kvs, f, h1, _⟩ := hD
            rw [h1] at nl
            cases nl
          · rw [hw] at nl
            cases nl
        refine forL (xs := natsV ws) (fun i σ H3 => ∃ o5 ms par, σ = [some (.ref q), some (.int (st : Int)), some (.ref d), some (.ref wl), some (.int ((n : Nat) : Int)), o5] ∧ Chs [d, wl] H0 H3 ∧ H3 l = some (.lst (natsV ws)) ∧ DN H3 d ms (fun j => ((par j : Nat) : Int)) ∧ H3 wl = some (.lst (natsV ms)) ∧ MetW (Ed P b o) P.length st ms par n ∧ ms[n]? = some x ∧ ∀ j ∈ ws.take i, j ∈ ms)
          (SqL.of hl) ⟨o5, ms, par, rfl, c.step s2, hl, hD.same s2, s2 _ _ hw, hM, hx, by simp⟩ (fun i σ' H' _ p => ?_) (fun i v σ' H3 hv p => ?_) (fun σ' H3 p => ?_)
        · obtain ⟨_, _, _, _, _, h, _⟩ := p
          exact SqL.of h
        · obtain ⟨o5, ms, par, rfl, c3, hl3, hD3, hw3, hM3, hx3, hin⟩ := p
          have hml3 := hM3.len
          obtain ⟨j, hj, rfl⟩ : ∃ j, ws[i]? = some j ∧ v = .int (j : Int) := by
            unfold natsV at hv
            rw [List.getElem?_map] at hv
            cases e : ws[i]? with
            | none => rw [e] at hv; cases hv
            | some j => rw [e] at hv; exact ⟨j, rfl, (Option.some.inj hv).symm⟩
          have hE := (hmem j).mp (List.mem_of_getElem? hj)
          have htake : ws.take (i + 1) = ws.take i ++ [j] := by rw [List.take_add_one, hj]; rfl
          have ix3 := nats_at hx3
          fail "bm_go"
          refine r_dnIn hD3 ?_
          by_cases hjm : j ∈ ms
          · rw [if_pos hjm]
            fail "bm_go"
            refine ⟨_, ms, par, rfl, c3, hl3, hD3, hw3, hM3, hx3, fun y hy => ?_⟩
            rw [htake] at hy
            rcases List.mem_append.mp hy with hy | hy
            · exact hin y hy
            · rw [List.mem_singleton.mp hy]
              exact hjm
          · rw [if_neg hjm]
            fail "bm_go"
            refine r_dnPut hD3 (by omega) fun H4 c4 hD4 => ?_
            rw [if_neg hjm] at hD4
            have hw4 : H4 wl = some (.lst (natsV ms)) := c4.kp _ _ ndw.symm hw3
            have hl4 : H4 l = some (.lst (natsV ws)) := c4.kp _ _ (fun z => nld (by rw [z]; simp)) hl3
            fail "bm_go"
            refine r_appN hw4 (by omega) fun H5 c5 hw5 => ?_
            have hD5 := hD4.at_ (H' := H5) (fun u h => c5.kp _ _ ndw h)
            have e5 : (fun y => if y = j then (x : Int) else ((par y : Nat) : Int)) = fun y => (((if y = j then x else par y) : Nat) : Int) := by
              funext y
              split <;> rfl
            rw [e5] at hD5
            fail "bm_go"
            refine ⟨_, ms ++ [j], _, rfl, (c3.chg (by simp) c4).chg (by simp) c5, c5.kp _ _ (fun z => nld (by rw [z]; simp)) hl4, hD5, hw5, hM3.add hx3 hjm (hE.lt W).2 hE, ?_, fun y hy => ?_⟩
            · rw [List.getElem?_append_left (List.getElem?_eq_some_iff.mp hx3).1]
              exact hx3
            · rw [htake] at hy
              rcases List.mem_append.mp hy with hy | hy
              · exact List.mem_append_left _ (hin y hy)
              · rw [List.mem_singleton.mp hy]
                simp
        · obtain ⟨o5, ms, par, rfl, c3, hl3, hD3, hw3, hM3, hx3, hin⟩ := p
          rw [nats_len, List.take_length] at hin
          have hx4 := (List.getElem?_eq_some_iff.mp hx3).1
          fail "bm_go"
          refine ⟨m - 1, by omega, _, n + 1, ms, par, rfl, c3, hD3, hw3, ⟨hM3.m, hM3.lt, fun y hy j hj => ?_⟩, by omega, by omega⟩
          rw [List.take_add_one, hx3] at hy
          rcases List.mem_append.mp hy with hy | hy
          · exact hM3.cl y hy j hj
          · have : y = x := by simpa using hy
            rw [this] at hj
            exact hin j ((hmem j).mpr hj)
      · have e : n = ms.length := by omega
        fail "bm_go"
        refine k d ms par H' (out c) nd hD hM.m hM.lt fun i hi j hj => hM.cl i ?_ j hj
        rw [e, List.take_length]
        exact hi
end
section
/-! ## B2: way, round_of, turning -/
local macro_rules | `(tactic| fail "bm_go1") => `(tactic| first
  | ((with_reducible apply r_fldE); fail "bm_hp"; fail "bm_cls"; fail "bm_na"; assumption)
  | ((with_reducible apply r_methE); fail "bm_hp"; assumption)
  | with_reducible refine r_un ?_
  | with_reducible refine r_uI ?_
  | with_reducible refine r_lrev ?_
  | with_reducible refine r_trev ?_)
theorem nats_last {ws : List Nat} {x : Nat} (h : ws.getLast? = some x) : atI (natsV ws) (-1) = some (.int (x : Int)) := by
  have hne : ws ≠ [] := by rintro rfl; simp at h
  have hl : 0 < ws.length := List.length_pos_iff.mpr hne
  rw [List.getLast?_eq_getElem?] at h
  unfold atI
  have e : ixN (natsV ws).length (-1) = some (ws.length - 1) := by
    unfold ixN
    rw [if_neg (by omega), nats_len]
    split
    · congr 1
      omega
    · omega
  rw [e]
  show (natsV ws)[ws.length - 1]? = _
  unfold natsV
  rw [List.getElem?_map, h]
  rfl
inductive Rch (E : Nat → Nat → Prop) : Nat → Nat → Prop where
  | refl (a : Nat) : Rch E a a
  | tail {a b c : Nat} : Rch E a b → E b c → Rch E a c
theorem Rch.mem {E : Nat → Nat → Prop} {a b : Nat} {ms : List Nat} (h : Rch E a b) (ha : a ∈ ms) (cl : ∀ i ∈ ms, ∀ j, E i j → j ∈ ms) : b ∈ ms := by
  induction h with
  | refl => exact ha
  | tail _ e ih => exact cl _ (ih) _ e
theorem Rch.trans {E : Nat → Nat → Prop} {a b c : Nat} (h : Rch E a b) (h2 : Rch E b c) : Rch E a c := by
  induction h2 with
  | refl => exact h
  | tail _ e ih => exact .tail ih e
theorem Rch.head {E : Nat → Nat → Prop} {a b c : Nat} (h : E a b) (h2 : Rch E b c) : Rch E a c := Rch.trans (.tail (.refl a) h) h2
theorem MetL.rch {E : Nat → Nat → Prop} {st : Nat} {ms : List Nat} {par : Nat → Nat} (h : MetL E st ms par) : ∀ (k j : Nat), ms[k]? = some j → Rch E st j := by
  intro k
  induction k using Nat.strongRecOn with
  | _ k ih =>
    intro j hj
    by_cases h0 : 0 < k
    · obtain ⟨k', h1, h2, h3⟩ := h.up k j hj h0
      exact .tail (ih k' h1 _ h2) h3
    · have e : k = 0 := by omega
      subst e
      rw [h.hd] at hj
      cases hj
      exact .refl _
theorem MetL.mem_iff {E : Nat → Nat → Prop} {st j : Nat} {ms : List Nat} {par : Nat → Nat} (h : MetL E st ms par) (cl : ∀ i ∈ ms, ∀ j, E i j → j ∈ ms) : j ∈ ms ↔ Rch E st j := by
  constructor
  · intro hj
    obtain ⟨k, hk⟩ := List.getElem?_of_mem hj
    exact h.rch k j hk
  · intro hr
    exact hr.mem (List.mem_of_getElem? h.hd) cl
def sp_sk_way (K : PySem.W.Frag) : Sp := fun vs H Q _ => ∃ (q : Addr) (P : List Row) (b : Int) (o st en : Nat), vs = [.ref q, .int st, .int en] ∧ SkB K H q P b o ∧ WF P ∧ st < P.length ∧ Rch (Ed P b o) st en ∧
  ∀ (l : Addr) (ws : List Nat) (H' : Hp), Same H H' → H l = none → H' l = some (.lst (natsV ws)) → ws.head? = some st → ws.getLast? = some en → (∀ x ∈ ws, x < P.length) → ws.length ≤ 100 → Q (.ref l) H'
theorem sc_Seeker_way : FnScope ["self", "start", "end", "ahead", "found"] ["self", "start", "end"] (defScope s_Seeker_way) := ⟨rfl, rfl, rfl, by decide +kernel, rfl, by decide +kernel, by decide +kernel⟩
theorem ok_Seeker_way {P : Program} {w : World} {K : PySem.W.Frag} {mg : Str → Option Value} {base : Heap} (T : Tx K mg) : Ok P w K mg base CX0 3 240 ["self", "start", "end"] (sp_sk_way K) := by
  refine ok0 2 (f_Seeker_way T) sc_Seeker_way (fun _ _ _ _ _ _ us hl => match us, hl with | [_, _, _], _ => rfl) (fun vs H Q E h => ?_) (fun cdv A outer sh H vs Q E room h => ?_)
  · obtain ⟨q, P, b, o, st, en, rfl, hq, W, hst, hr, k⟩ := h
    rfl
  · obtain ⟨q, P, b, o, st, en, rfl, hq, W, hst, hr, k⟩ := h
    refine ⟨_,     (pss_cons (ps_set (i := 3) sc_Seeker_way.nd rfl (Or.inl rfl) (pm (ok_Seeker_met_from (K := K) T) (room.mono (by decide)) (c_Seeker T) (m_Seeker_met_from T) pass0 (pv 0) (pa_cons (pv 1) pa_nil)))
        (pss_cons (ps_set (i := 4) sc_Seeker_way.nd rfl (Or.inl rfl) (pe_lst (pa_cons (pv 2) pa_nil)))
        (pss_cons (ps_while PassesOwn.never (pt_cmpR op_ne (pe_ix (ix_listK K) (pv 4) (pe_un un_neg pe_int) (fun _ _ => rfl)) (pv 1) (nomark _))
          (pss_one (ps_expr (pe_bmK K PySem.F.plainAttrs_list PySem.F.slot_list_append PySem.F.type_list_append mt_append (pv 4) (pa_cons (pe_dget (hu_of room) (pv 3) (pe_ix (ix_listK K) (pv 4) (pe_un un_neg pe_int) (fun _ _ => rfl)) (fun _ _ => rfl)) pa_nil)))))
        (pss_one (ps_ret (pe_lstRevK K rfl rfl (n_list T) rfl (n_reversed T) (pv 4))))))), ?_⟩
    show (_ : TS) _ [_, _, _, none, none] _
    have hz := W.len
    obtain ⟨dx, fs, sl, wwl, hp, l1, l2, l3, l4, l5, l6, _, _⟩ := hq.ob
    fail "bm_go"
    refine ⟨q, P, b, o, st, rfl, hq, W, hst, fun d ms par H1 s1 nd hD hM hlt hcl => ?_⟩
    have hml := nodup_len _ ms hM.nd hlt
    have hen := (hM.mem_iff hcl).mpr hr
    fail "bm_go"
    intro fl nf
    have s2 := same_new (o := .lst [V.int (en : Int)]) nf
    have nf0 : H fl = none := s1.free nf
    have ndf : d ≠ fl := fun z => by
      obtain ⟨kvs, f, h1, _⟩ := hD
      rw [z, nf] at h1
      cases h1
    fail "bm_go"
    obtain ⟨k0, hk0⟩ := List.getElem?_of_mem hen
    have hk0l := (List.getElem?_eq_some_iff.mp hk0).1
    refine ⟨fun m σ H' => σ = [some (.ref q), some (.int (st : Int)), some (.int (en : Int)), some (.ref d), some (.ref fl)] ∧ Chg fl (upd H1 fl (.lst [V.int (en : Int)])) H' ∧ ∃ (ws : List Nat) (x : Nat), H' fl = some (.lst (natsV ws)) ∧ ws.head? = some en ∧ ws.getLast? = some x ∧ ms[m]? = some x ∧ (∀ y ∈ ws, y < P.length) ∧ ws.length + m ≤ k0 + 1,
      ⟨k0, rfl, Chg.refl, [en], en, upd_same, rfl, rfl, hk0, fun y hy => by rw [List.mem_singleton.mp hy]; exact hlt _ hen, by simp; omega⟩, fun m σ H' p => ?_⟩
    obtain ⟨rfl, c, ws, x, hw, hhd, hla, hm, hwl, hwm⟩ := p
    have ila := nats_last hla
    have hD' : DN H' d ms (fun j => (par j : Int)) := (hD.same s2).at_ fun u h => c.kp _ _ ndf h
    have s3 : Same H H' := c.out (s1.trans s2) nf0
    fail "bm_go"
    refine r_ifN (fun hx => ?_) (fun hx => ?_)
    · have hx : x ≠ st := fun z => hx (by rw [z])
      have hm0 : 0 < m := by
        rcases Nat.eq_zero_or_pos m with rfl | h
        · rw [hM.hd] at hm
          exact absurd (Option.some.inj hm).symm hx
        · exact h
      obtain ⟨m', h1, h2, h3⟩ := hM.up m x hm hm0
      refine ⟨fun σ' H' => ∃ m', m' < m ∧ _, fun _ _ h => h, ?_⟩
      fail "bm_go"
      refine r_dnGet hD' (List.mem_of_getElem? hm) ?_
      fail "bm_go"
      refine r_appN hw (by omega) fun H4 c4 hw4 => ?_
      fail "bm_go"
      refine ⟨m', h1, rfl, c.trans c4, ws ++ [par x], par x, hw4, ?_, by simp, h2, fun y hy => ?_, by simp; omega⟩
      · rw [List.head?_append, hhd]
        rfl
      · rcases List.mem_append.mp hy with hy | hy
        · exact hwl y hy
        · rw [List.mem_singleton.mp hy]
          exact hlt _ (List.mem_of_getElem? h2)
    · have hx : x = st := by
        have := V.int.inj hx
        omega
      subst hx
      fail "bm_go"
      refine r_revE (SqL.of hw) fun l nl => ?_
      have e : (natsV ws).reverse = natsV ws.reverse := by
        unfold natsV
        rw [List.map_reverse]
      rw [e]
      exact k l ws.reverse _ (same_mut s3 (s3.free nl)) (s3.free nl) upd_same (by rw [List.head?_reverse, hla]) (by rw [List.getLast?_reverse, hhd]) (fun y hy => hwl y (List.mem_reverse.mp hy)) (by rw [List.length_reverse]; omega)
def sp_sk_round (K : PySem.W.Frag) : Sp := fun vs H Q _ => ∃ (q : Addr) (P : List Row) (b : Int) (o i : Nat), vs = [.ref q, .int i] ∧ SkB K H q P b o ∧ WF P ∧ i < P.length ∧
  ∀ (l : Addr) (ws : List Nat) (H' : Hp), Same H H' → H l = none → H' l = some (.lst (natsV ws)) → (ws = [] ↔ ∀ j, Ed P b o i j → ¬ Rch (Ed P b o) j i) → ws.length ≤ 101 → Q (.ref l) H'
theorem sc_Seeker_round_of : FnScope ["self", "row", "following"] ["self", "row"] (defScope s_Seeker_round_of) := ⟨rfl, rfl, rfl, by decide +kernel, rfl, by decide +kernel, by decide +kernel⟩
theorem ok_Seeker_round_of {P : Program} {w : World} {K : PySem.W.Frag} {mg : Str → Option Value} {base : Heap} (T : Tx K mg) : Ok P w K mg base CX0 4 266 ["self", "row"] (sp_sk_round K) := by
  refine ok0 3 (f_Seeker_round_of T) sc_Seeker_round_of (fun _ _ _ _ _ _ us hl => match us, hl with | [_, _], _ => rfl) (fun vs H Q E h => ?_) (fun cdv A outer sh H vs Q E room h => ?_)
  · obtain ⟨q, P, b, o, i, rfl, hq, W, hi, k⟩ := h
    rfl
  · obtain ⟨q, P, b, o, i, rfl, hq, W, hi, k⟩ := h
    refine ⟨_,     (pss_cons (ps_for PassesOwn.never rfl (pi_listK K (pm (ok_Seeker_behind (K := K) T) (room.mono (by decide)) (c_Seeker T) (m_Seeker_behind T) pass0 (pv 0) (pa_cons (pv 1) pa_nil))) (pg_name (i := 2) sc_Seeker_round_of.nd rfl (Or.inl rfl))
          (pss_one (ps_if (pt_cmp (pc_din (hu_of room) (pv 1) (pm (ok_Seeker_met_from (K := K) T) (room.mono (by decide)) (c_Seeker T) (m_Seeker_met_from T) pass0 (pv 0) (pa_cons (pv 2) pa_nil))))
            (pss_one (ps_ret (pe_op op_cat (pe_lst (pa_cons (pv 1) pa_nil)) (pm (ok_Seeker_way (K := K) T) (room.mono (by decide)) (c_Seeker T) (m_Seeker_way T) pass0 (pv 0) (pa_cons (pv 2) (pa_cons (pv 1) pa_nil)))))) pss_nil)))
        (pss_one (ps_ret (pe_lst pa_nil)))), ?_⟩
    show (_ : TS) _ [_, _, none] _
    obtain ⟨dx, fs, sl, wwl, hp, l1, l2, l3, l4, l5, l6, _, _⟩ := hq.ob
    fail "bm_go"
    refine ⟨q, P, b, o, i, rfl, hq, W, hi, fun l ws H1 s1 nl hl hmem hnd hl2 => ?_⟩
    refine forL (xs := natsV ws) (fun n σ H' => (∃ o2, σ = [some (.ref q), some (.int (i : Int)), o2]) ∧ Same H1 H' ∧ ∀ j ∈ ws.take n, ¬ Rch (Ed P b o) j i) (SqL.of hl) ⟨⟨none, rfl⟩, Same.refl _, by simp⟩ (fun n σ' H' _ p => p.2.1.seq (SqL.of hl)) (fun n v σ' H' hv p => ?_) (fun σ' H' p => ?_)
    · obtain ⟨⟨o2, rfl⟩, s2, hno⟩ := p
      obtain ⟨j, hj, rfl⟩ : ∃ j, ws[n]? = some j ∧ v = .int (j : Int) := by
        unfold natsV at hv
        rw [List.getElem?_map] at hv
        cases e : ws[n]? with
        | none => rw [e] at hv; cases hv
        | some j => rw [e] at hv; exact ⟨j, rfl, (Option.some.inj hv).symm⟩
      have hE := (hmem j).mp (List.mem_of_getElem? hj)
      have s12 := s1.trans s2
      have hp2 := s12 _ _ hp
      fail "bm_go"
      refine ⟨q, P, b, o, j, rfl, hq.same s12, W, (hE.lt W).2, fun d ms par H3 s3 nd hD hM hlt hcl => ?_⟩
      have hp3 := s3 _ _ hp2
      have hiff := hM.mem_iff (j := i) hcl
      fail "bm_go"
      refine r_dnIn hD ?_
      by_cases hm : i ∈ ms
      · rw [if_pos hm]
        fail "bm_go"
        intro t nt
        have s4 := same_new (o := .lst [V.int (i : Int)]) nt
        have hp4 := s4 _ _ hp3
        have s14 := (s12.trans s3).trans s4
        fail "bm_go"
        refine ⟨q, P, b, o, j, i, rfl, hq.same s14, W, (hE.lt W).2, hiff.mp hm, fun l5 us H5 s5 nl5 hl5 hh hla hus hul => ?_⟩
        dsimp only
        refine r_catL (xs := natsV [i]) (ys := natsV us) (s5 _ _ upd_same) hl5 (by simp [natsV]; omega) fun l6 nl6 => ?_
        have e : natsV [i] ++ natsV us = natsV (i :: us) := rfl
        rw [e]
        have s15 := s14.trans s5
        refine k l6 (i :: us) _ (same_mut s15 (s15.free nl6)) (s15.free nl6) upd_same ⟨fun z => absurd z (List.cons_ne_nil _ _), fun z => absurd (hiff.mp hm) (z j hE)⟩ (by simp; omega)
      · rw [if_neg hm]
        fail "bm_go"
        refine ⟨⟨_, rfl⟩, s2.trans s3, fun y hy => ?_⟩
        rw [List.take_add_one, hj] at hy
        rcases List.mem_append.mp hy with hy | hy
        · exact hno y hy
        · rw [show y = j by simpa using hy]
          exact fun z => hm (hiff.mpr z)
    · obtain ⟨⟨o2, rfl⟩, s2, hno⟩ := p
      rw [nats_len, List.take_length] at hno
      fail "bm_go"
      intro t nt
      have s12 := s1.trans s2
      exact k t [] _ (same_mut s12 (s12.free nt)) (s12.free nt) upd_same ⟨fun _ j hj => hno j ((hmem j).mpr hj), fun _ => rfl⟩ (by simp)
/-- the seeker, made -/
structure SkAt (K : PySem.W.Frag) (H : Hp) (q : Addr) (P : List Row) (b : Int) (i o : Nat) (ms ks : List Nat) (par : Nat → Nat) : Prop where
  ob : ∃ dx sl wl md kl, H q = some (.ins 276 dx (skf (i : Int) (o : Int) sl wl md kl)) ∧ StepsAt K H sl P b ∧ SqL K H wl (waitsOf P) ∧ DN H md ms (fun j => ((par j : Nat) : Int)) ∧ H kl = some (.lst (natsV ks))
  met : MetL (Ed P b o) i ms par
  mcl : ∀ x ∈ ms, ∀ y, Ed P b o x y → y ∈ ms
  mlt : ∀ x ∈ ms, x < P.length
  kp : ∀ x, x ∈ ks ↔ Rch (Ed P b o) i x ∧ Rch (Ed P b o) x o
  knd : ks.Nodup
theorem SkAt.same {K : PySem.W.Frag} {H H' : Hp} {q : Addr} {P : List Row} {b : Int} {i o : Nat} {ms ks : List Nat} {par : Nat → Nat} (h : SkAt K H q P b i o ms ks par) (s : Same H H') : SkAt K H' q P b i o ms ks par := by
  obtain ⟨dx, sl, wl, md, kl, h1, h2, h3, h4, h5⟩ := h.ob
  exact ⟨⟨dx, sl, wl, md, kl, s _ _ h1, h2.same s, s.seq h3, h4.same s, s _ _ h5⟩, h.met, h.mcl, h.mlt, h.kp, h.knd⟩
theorem SkAt.b {K : PySem.W.Frag} {H : Hp} {q : Addr} {P : List Row} {b : Int} {i o : Nat} {ms ks : List Nat} {par : Nat → Nat} (h : SkAt K H q P b i o ms ks par) : SkB K H q P b o := by
  obtain ⟨dx, sl, wl, md, kl, h1, h2, h3, h4, h5⟩ := h.ob
  exact ⟨dx, _, sl, wl, h1, skf_other, skf_steps, skf_waits, by kernel_rfl, by kernel_rfl, by kernel_rfl, h2, h3⟩
theorem SkAt.klt {K : PySem.W.Frag} {H : Hp} {q : Addr} {P : List Row} {b : Int} {i o : Nat} {ms ks : List Nat} {par : Nat → Nat} (h : SkAt K H q P b i o ms ks par) {x : Nat} (hx : x ∈ ks) : x < P.length :=
  h.mlt x ((h.met.mem_iff h.mcl).mpr ((h.kp x).mp hx).1)
/-- what lies on a round -/
def OnRound (P : List Row) (b : Int) (o x : Nat) : Prop := ∃ y, Ed P b o x y ∧ Rch (Ed P b o) y x
def sp_sk_turn (K : PySem.W.Frag) : Sp := fun vs H Q _ => ∃ (q : Addr) (P : List Row) (b : Int) (i o : Nat) (ms ks : List Nat) (par : Nat → Nat), vs = [.ref q] ∧ SkAt K H q P b i o ms ks par ∧ WF P ∧ ∀ H', Same H H' →
  ((∀ x ∈ ks, ¬ OnRound P b o x) → Q .non H') ∧ ∀ x ∈ ks, x ≠ o → OnRound P b o x → Q (.int (x : Int)) H'
theorem sc_Seeker_turning : FnScope ["self", "row"] ["self"] (defScope s_Seeker_turning) := ⟨rfl, rfl, rfl, by decide +kernel, rfl, by decide +kernel, by decide +kernel⟩
theorem ok_Seeker_turning {P : Program} {w : World} {K : PySem.W.Frag} {mg : Str → Option Value} {base : Heap} (T : Tx K mg) : Ok P w K mg base CX0 5 273 ["self"] (sp_sk_turn K) := by
  refine ok0 4 (f_Seeker_turning T) sc_Seeker_turning (fun _ _ _ _ _ _ us hl => match us, hl with | [_], _ => rfl) (fun vs H Q E h => ?_) (fun cdv A outer sh H vs Q E room h => ?_)
  · obtain ⟨q, P, b, i, o, ms, ks, par, rfl, hq, W, k⟩ := h
    rfl
  · obtain ⟨q, P, b, i, o, ms, ks, par, rfl, hq, W, k⟩ := h
    refine ⟨_,     (pss_cons (ps_for PassesOwn.never rfl (pi_listK K (pe_fldK K (pv 0) rfl)) (pg_name (i := 1) sc_Seeker_turning.nd rfl (Or.inl rfl))
          (pss_one (ps_if (PW.pt (pw_and (pt_cmpR op_ne (pv 1) (pe_fldK K (pv 0) rfl) (nomark _)) (pw_and1 (pt_cmpR op_gt (pe_callB (call_lenK K) (by rfl) (n_len T) (by decide +kernel) (pa_cons (pm (ok_Seeker_round_of (K := K) T) (room.mono (by decide)) (c_Seeker T) (m_Seeker_round_of T) pass0 (pv 0) (pa_cons (pv 1) pa_nil)) pa_nil)) pe_int (nomark _)))))
            (pss_one (ps_ret (pv 1))) pss_nil)))
        (pss_one (ps_ret pe_non))), ?_⟩
    show (_ : TS) _ [_, none] _
    obtain ⟨dx, sl, wl, md, kl, hp, _, _, _, hkl⟩ := hq.ob
    have hz := W.len
    have hkn := nodup_len _ ks hq.knd fun x hx => hq.klt hx
    fail "bm_go"
    refine forL (xs := natsV ks) (fun n σ H' => (∃ o2, σ = [some (.ref q), o2]) ∧ Same H H' ∧ ∀ j ∈ ks.take n, ¬ OnRound P b o j) (SqL.of hkl) ⟨⟨none, rfl⟩, Same.refl _, by simp⟩ (fun n σ' H' _ p => p.2.1.seq (SqL.of hkl)) (fun n v σ' H' hv p => ?_) (fun σ' H' p => ?_)
    · obtain ⟨⟨o2, rfl⟩, s2, hno⟩ := p
      obtain ⟨j, hj, rfl⟩ : ∃ j, ks[n]? = some j ∧ v = .int (j : Int) := by
        unfold natsV at hv
        rw [List.getElem?_map] at hv
        cases e : ks[n]? with
        | none => rw [e] at hv; cases hv
        | some j => rw [e] at hv; exact ⟨j, rfl, (Option.some.inj hv).symm⟩
      have hjm := List.mem_of_getElem? hj
      have hp2 := s2 _ _ hp
      have step : ¬ OnRound P b o j → ∀ y ∈ ks.take (n + 1), ¬ OnRound P b o y := fun h y hy => by
        rw [List.take_add_one, hj] at hy
        rcases List.mem_append.mp hy with hy | hy
        · exact hno y hy
        · rw [show y = j by simpa using hy]
          exact h
      fail "bm_go"
      refine r_ifN (fun hjo => ?_) (fun hjo => ?_)
      · have hjo : j ≠ o := fun z => hjo (by rw [z])
        fail "bm_go"
        refine ⟨q, P, b, o, j, rfl, (hq.same s2).b, W, hq.klt hjm, fun l ws H3 s3 nl hl hiff hws => ?_⟩
        fail "bm_go"
        rw [nats_len]
        refine r_ifD (fun hlen => ?_) (fun hlen => ?_)
        · fail "bm_go"
          refine (k H3 (s2.trans s3)).2 j hjm hjo (Classical.byContradiction fun z => ?_)
          have : ws = [] := hiff.mpr fun y hy hr => z ⟨y, hy, hr⟩
          rw [this] at hlen
          simp at hlen
        · fail "bm_go"
          have : ws = [] := List.length_eq_zero_iff.mp (by omega)
          exact ⟨⟨_, rfl⟩, s2.trans s3, step fun ⟨y, h1, h2⟩ => hiff.mp this y h1 h2⟩
      · have hjo : j = o := by
          have := V.int.inj hjo
          omega
        fail "bm_go"
        exact ⟨⟨_, rfl⟩, s2, step fun ⟨y, h1, h2⟩ => h1.1 hjo⟩
    · obtain ⟨⟨o2, rfl⟩, s2, hno⟩ := p
      rw [nats_len, List.take_length] at hno
      fail "bm_go"
      exact (k H' s2).1 hno
end
section
/-! ## B3: the seeker's making -/
local macro_rules | `(tactic| fail "bm_go1") => `(tactic| first
  | ((with_reducible apply r_fldE); fail "bm_hp"; fail "bm_cls"; fail "bm_na"; (first | assumption | kernel_rfl))
  | ((with_reducible apply r_methE); fail "bm_hp"; (first | assumption | kernel_rfl))
  | with_reducible refine r_un ?_
  | with_reducible refine r_uI ?_
  | with_reducible refine r_lrev ?_
  | with_reducible refine r_trev ?_)
theorem StepAt.chg {K : PySem.W.Frag} {H H' : Hp} {q C dx d : Addr} {fs : List (Str × V)} {P : List Row} {b : Int} {i : Nat} (h : StepAt K H d P b i) (hq : H q = some (.ins C dx fs)) (c : Chg q H H') : StepAt K H' d P b i := by
  obtain ⟨kvs, ks, f, h1, h2, h3, h4, h5⟩ := h
  exact ⟨kvs, ks, f, c.kp _ _ (fun z => by rw [z, hq] at h1; cases h1) h1, h2, h3, h4, h5.im c.im⟩
theorem sqL_chgI {K : PySem.W.Frag} {H H' : Hp} {q C dx a : Addr} {fs : List (Str × V)} {xs : List V} (h : SqL K H a xs) (hq : H q = some (.ins C dx fs)) (c : Chg q H H') : SqL K H' a xs := by
  rcases h with (h | ⟨ob, h⟩) | h
  · exact .inl (.inl (c.kp _ _ (fun z => by rw [z, hq] at h; cases h) h))
  · exact .inl (.inr ⟨ob, c.kp _ _ (fun z => by rw [z, hq] at h; cases h) h⟩)
  · exact .inr h
theorem StepsAt.chg {K : PySem.W.Frag} {H H' : Hp} {q C dx l : Addr} {fs : List (Str × V)} {P : List Row} {b : Int} (h : StepsAt K H l P b) (hq : H q = some (.ins C dx fs)) (c : Chg q H H') : StepsAt K H' l P b := by
  obtain ⟨ds, h1, h2, h3⟩ := h
  exact ⟨ds, sqL_chgI h1 hq c, h2, fun i d hi => (h3 i d hi).chg hq c⟩
theorem DN.chg {H H' : Hp} {q C dx d : Addr} {fs : List (Str × V)} {ms : List Nat} {val : Nat → Int} (h : DN H d ms val) (hq : H q = some (.ins C dx fs)) (c : Chg q H H') : DN H' d ms val :=
  h.at_ fun u hu => c.kp _ _ (fun z => by
    obtain ⟨kvs, f, h1, _⟩ := h
    rw [z, hq] at h1
    cases h1) hu
theorem nodup_take {ms : List Nat} {n j : Nat} (nd : ms.Nodup) (h : ms[n]? = some j) : j ∉ ms.take n := fun z => by
  rw [← List.take_append_drop n ms, List.nodup_append] at nd
  exact nd.2.2 j z j (List.mem_of_getElem? (i := 0) (by rw [List.getElem?_drop]; exact h)) rfl
theorem chg_kp {H H' : Hp} {q C dx : Addr} {fs : List (Str × V)} (hq : H q = some (.ins C dx fs)) (kp : ∀ a u, a ≠ q → H a = some u → H' a = some u) : Chg q H H' :=
  ⟨kp, fun a u h m => kp a u (fun z => by rw [z, hq] at h; cases h; exact m trivial) h⟩
def sp_sk_init (K : PySem.W.Frag) : Sp := fun vs H Q _ => ∃ (q p dx : Addr) (P : List Row) (b : Int) (i o : Nat), vs = [.ref q, .ref p, .int b, .int i, .int o] ∧ H q = some (.ins 276 dx []) ∧ PAt K H p P ∧ WF P ∧ b + longOf P ≤ 256 ∧ i < P.length ∧ o < P.length ∧
  ∀ (H' : Hp) (ms ks : List Nat) (par : Nat → Nat), Chg q H H' → SkAt K H' q P b i o ms ks par → Q .non H'
theorem sc_Seeker_init : FnScope ["self", "program", "base", "one", "other", "row"] ["self", "program", "base", "one", "other"] (defScope s_Seeker_init) := ⟨rfl, rfl, rfl, by decide +kernel, rfl, by decide +kernel, by decide +kernel⟩
theorem ok_Seeker_init {P : Program} {w : World} {K : PySem.W.Frag} {mg : Str → Option Value} {base : Heap} (T : Tx K mg) : Ok P w K mg base CX0 7 221 ["self", "program", "base", "one", "other"] (sp_sk_init K) := by
  refine ok0 6 (f_Seeker_init T) sc_Seeker_init (fun _ _ _ _ _ _ us hl => match us, hl with | [_, _, _, _, _], _ => rfl) (fun vs H Q E h => ?_) (fun cdv A outer sh H vs Q E room h => ?_)
  · obtain ⟨q, p, dx, P, b, i, o, rfl, hp, hP, W, hb, hi, ho, k⟩ := h
    rfl
  · obtain ⟨q, p, dx, P, b, i, o, rfl, hp, hP, W, hb, hi, ho, k⟩ := h
    refine ⟨_,     (pss_cons (ps_fldK K (pv 0) (pv 3) rfl)
        (pss_cons (ps_fldK K (pv 0) (pv 4) rfl)
        (pss_cons (ps_fldK K (pv 0) (pc (ok_all_steps (K := K) T) (room.mono (by decide)) rfl (g_all_steps T) pass0 (pa_cons (pv 1) (pa_cons (pv 2) pa_nil))) rfl)
        (pss_cons (ps_fldK K (pv 0) (pe_lc (own := [("row", 5)]) rfl sc_Seeker_init.nd (pi_range1 rfl (n_range T) (pa_cons (pe_callB (call_lenK K) (by rfl) (n_len T) (by decide +kernel) (pa_cons (pv 1) pa_nil)) pa_nil)) (blkOk_by (N := ["self", "program", "base", "one", "other", "row"]) (sc := defScope s_Seeker_init) (by decide +kernel)) (fun _ _ _ _ _ => (pg_name (i := 5) sc_Seeker_init.nd rfl (Or.inl rfl))) (fun _ _ _ _ _ => pts_nil) (fun _ _ _ _ _ => (pc (ok_is_wait (K := K) T) (room.mono (by decide)) rfl (g_is_wait T) pass0 (pa_cons (pv 1) (pa_cons (pv 5) pa_nil))))) rfl)
        (pss_cons (ps_fldK K (pv 0) (pm (ok_Seeker_met_from (K := K) T) (room.mono (by decide)) (c_Seeker T) (m_Seeker_met_from T) pass0 (pv 0) (pa_cons (pv 3) pa_nil)) rfl)
        (pss_one (ps_fldK K (pv 0) (pe_lock (pe_lc (own := [("row", 5)]) rfl sc_Seeker_init.nd (pi_keys (pe_fldK K (pv 0) rfl)) (blkOk_by (N := ["self", "program", "base", "one", "other", "row"]) (sc := defScope s_Seeker_init) (by decide +kernel)) (fun _ _ _ _ _ => (pg_name (i := 5) sc_Seeker_init.nd rfl (Or.inl rfl))) (fun _ _ _ _ _ => (pts_one (PW.pt (pw_or (pt_cmpR op_eq (pv 5) (pv 4) (nomark _)) (pw_or1 (pt_cmp (pc_din (hu_of room) (pv 4) (pm (ok_Seeker_met_from (K := K) T) (room.mono (by decide)) (c_Seeker T) (m_Seeker_met_from T) pass0 (pv 0) (pa_cons (pv 5) pa_nil))))))))) (fun _ _ _ _ _ => (pv 5)))) rfl))))))), ?_⟩
    show (_ : TS) _ [_, _, _, _, _, none] _
    have hz := W.len
    have c0 : Chg q H H := Chg.refl
    fail "bm_go"
    refine ⟨q, 276, dx, [], rfl, hp, c_Seeker T, tx_na T (by decide +kernel), by show 0 < 1000; decide, ?_⟩
    rw [show putF "one" (.int (i : Int)) ([] : List (Str × V)) = ([("one", .int (i : Int))] : List (Str × V)) from by kernel_rfl]
    refine r_abs (d := q) hp trivial fun H1 c1 hp1 => ?_
    fail "bm_go"
    refine ⟨q, 276, dx, _, rfl, hp1, c_Seeker T, tx_na T (by decide +kernel), by show 1 < 1000; decide, ?_⟩
    rw [show putF "other" (.int (o : Int)) ([("one", .int (i : Int))] : List (Str × V)) = ([("one", .int (i : Int)), ("other", .int (o : Int))] : List (Str × V)) from by kernel_rfl]
    refine r_abs (d := q) hp1 trivial fun H2 c2 hp2 => ?_
    have c02 := (c0.trans c1).trans c2
    have hP2 := hP.chg c02
    fail "bm_go"
    refine ⟨p, P, b, rfl, hP2, W, hb, fun sl H3 s3 nsl hst => ?_⟩
    have hp3 := s3 _ _ hp2
    have c03 := c02.step s3
    fail "bm_go"
    refine ⟨q, 276, dx, _, rfl, hp3, c_Seeker T, tx_na T (by decide +kernel), by show 2 < 1000; decide, ?_⟩
    rw [show putF "steps" (.ref sl) ([("one", .int (i : Int)), ("other", .int (o : Int))] : List (Str × V)) = ([("one", .int (i : Int)), ("other", .int (o : Int)), ("steps", .ref sl)] : List (Str × V)) from by kernel_rfl]
    refine r_abs (d := q) hp3 trivial fun H4 c4 hp4 => ?_
    have hst4 := hst.chg hp3 c4
    have c04 := c03.trans c4
    have hP4 := hP.chg c04
    obtain ⟨xs, hx1, hx2, _⟩ := hP4.each
    fail "bm_go"
    rw [hx2]
    refine lcN_m (n := (P.length : Int)) (fun j => V.bl (decide (V.str (P.getD j default).d = V.str "wait"))) (by omega) (by omega) (fun j H5 hj s5 R R0 q1 q0 => ?_) (fun wl H5 nwl s5 hwl => ?_)
    · have hj' : j < P.length := by omega
      have ej : P.getD j default = P[j] := by simp [List.getD_eq_getElem?_getD, List.getElem?_eq_getElem hj']
      rw [ej] at q1
      fail "bm_turn"
      fail "bm_go"
      exact ⟨p, P, j, P[j], rfl, hP4.same s5, List.getElem?_eq_getElem hj', q1 rfl _ (Same.refl _)⟩
    have ew : (List.range (P.length : Int).toNat).map (fun j => V.bl (decide (V.str (P.getD j default).d = V.str "wait"))) = waitsOf P := by
      unfold waitsOf
      rw [Int.toNat_natCast]
      apply List.ext_getElem?
      intro n
      by_cases hn : n < P.length
      · rw [List.getElem?_map, List.getElem?_map, List.getElem?_range hn, List.getElem?_eq_getElem hn]
        simp [List.getD_eq_getElem?_getD, List.getElem?_eq_getElem hn]
      · rw [List.getElem?_eq_none_iff.mpr (by simp; omega), List.getElem?_eq_none_iff.mpr (by simp; omega)]
    rw [ew] at hwl
    have hp5 := s5 _ _ hp4
    have hst5 := hst4.same s5
    have c05 := c04.step s5
    fail "bm_go"
    refine ⟨q, 276, dx, _, rfl, hp5, c_Seeker T, tx_na T (by decide +kernel), by show 3 < 1000; decide, ?_⟩
    rw [show putF "waits" (.ref wl) ([("one", .int (i : Int)), ("other", .int (o : Int)), ("steps", .ref sl)] : List (Str × V)) = ([("one", .int (i : Int)), ("other", .int (o : Int)), ("steps", .ref sl), ("waits", .ref wl)] : List (Str × V)) from by kernel_rfl]
    refine r_abs (d := q) hp5 trivial fun H6 c6 hp6 => ?_
    have hst6 := hst5.chg hp5 c6
    have hwl6 := sqL_chgI (K := K) (SqL.of hwl) hp5 c6
    have c06 := c05.trans c6
    have hB6 : SkB K H6 q P b o := ⟨dx, _, sl, wl, hp6, by kernel_rfl, by kernel_rfl, by kernel_rfl, by kernel_rfl, by kernel_rfl, by kernel_rfl, hst6, hwl6⟩
    fail "bm_go"
    refine ⟨q, P, b, o, i, rfl, hB6, W, hi, fun md ms par H7 s7 nmd hD hM hlt hcl => ?_⟩
    have hp7 := s7 _ _ hp6
    have c07 := c06.step s7
    fail "bm_go"
    refine ⟨q, 276, dx, _, rfl, hp7, c_Seeker T, tx_na T (by decide +kernel), by show 4 < 1000; decide, ?_⟩
    rw [show putF "met" (.ref md) ([("one", .int (i : Int)), ("other", .int (o : Int)), ("steps", .ref sl), ("waits", .ref wl)] : List (Str × V)) = ([("one", .int (i : Int)), ("other", .int (o : Int)), ("steps", .ref sl), ("waits", .ref wl), ("met", .ref md)] : List (Str × V)) from by kernel_rfl]
    refine r_abs (d := q) hp7 trivial fun H8 c8 hp8 => ?_
    have hst8 := (hst6.same s7).chg hp7 c8
    have hwl8 := sqL_chgI (s7.seq hwl6) hp7 c8
    have hD8 := hD.chg hp7 c8
    have c08 := c07.trans c8
    have hml := nodup_len _ ms hM.nd hlt
    have hB8 : SkB K H8 q P b o := ⟨dx, _, sl, wl, hp8, by kernel_rfl, by kernel_rfl, by kernel_rfl, by kernel_rfl, by kernel_rfl, by kernel_rfl, hst8, hwl8⟩
    obtain ⟨kvs, f, hd8, hDI, hf⟩ := id hD8
    fail "bm_go"
    refine ⟨md, _, hd8, trivial, fun od => ?_⟩
    have nmq : md ≠ q := fun z => by rw [z, hp8] at hd8; cases hd8
    have kpF : ∀ a u, a ≠ q → H6 a = some u → upd H8 md (.frz od (.dK kvs)) a = some u := fun a u n h => by
      rw [upd_ne (ne_of_none' h nmd).symm]
      exact c8.kp _ _ n (s7 _ _ h)
    have hpF : upd H8 md (.frz od (.dK kvs)) q = some (.ins 276 dx [("one", .int (i : Int)), ("other", .int (o : Int)), ("steps", .ref sl), ("waits", .ref wl), ("met", .ref md)]) := gD nmq.symm hp8
    have hdF : upd H8 md (.frz od (.dK kvs)) md = some (.frz od (.dK kvs)) := upd_same
    have cF := chg_kp hp6 kpF
    have hBF : SkB K (upd H8 md (.frz od (.dK kvs))) q P b o := ⟨dx, _, sl, wl, hpF, by kernel_rfl, by kernel_rfl, by kernel_rfl, by kernel_rfl, by kernel_rfl, by kernel_rfl, hst6.chg hp6 cF, sqL_chgI hwl6 hp6 cF⟩
    revert kpF hpF hdF cF hBF
    generalize upd H8 md (.frz od (.dK kvs)) = HF
    intro kpF hpF hdF cF hBF
    show iKeys _ _ _ _
    unfold iKeys
    fail "bm_go"
    refine ⟨md, od, rfl, .inl ⟨kvs, hdF, fun D nD => ?_⟩⟩
    have hkl : kvs.length = ms.length := by rw [hDI.len, List.length_map]
    refine lc_it walk_keys (fun n H' => Same HF H' ∧ ∃ ks : List Nat, H' D = some (.lst (natsV ks)) ∧ ks.length ≤ n ∧ ks.Nodup ∧ ∀ j, j ∈ ks ↔ j ∈ ms.take n ∧ Rch (Ed P b o) j o) ⟨same_new nD, [], upd_same, by simp, List.nodup_nil, by simp⟩ (fun n H' _ p => p.1 _ _ hdF) (fun n x H' H'' hn p y => ?_) (fun H' p => ?_)
    · obtain ⟨sF, ks, hks, hkl2, hnd, hmem⟩ := p
      obtain ⟨rfl, kk, v, hkv, rfl⟩ := y
      obtain ⟨j, hj⟩ : ∃ j, ms[n]? = some j := ⟨_, List.getElem?_eq_getElem (by omega)⟩
      have ekk : kk = .inl (j : Int) := by
        have h1 : (kvs.map (·.1))[n]? = some kk := by rw [List.getElem?_map, hkv]; rfl
        rw [hDI.keys, List.getElem?_map, List.getElem?_map, hj] at h1
        exact (Option.some.inj h1).symm
      subst ekk
      have hjl := hlt j (List.mem_of_getElem? hj)
      have hjn : j ∉ ms.take n := nodup_take hM.nd hj
      have htake : ms.take (n + 1) = ms.take n ++ [j] := by rw [List.take_add_one, hj]; rfl
      have yes : ∀ H2, Same HF H2 → H2 D = some (.lst (natsV ks)) → Rch (Ed P b o) j o → ∃ acc, H2 D = some (.lst acc) ∧ acc.length < sizeLine ∧ (Same HF (upd H2 D (.lst (acc ++ [V.int (j : Int)]))) ∧ ∃ ks : List Nat, upd H2 D (.lst (acc ++ [V.int (j : Int)])) D = some (.lst (natsV ks)) ∧ ks.length ≤ n + 1 ∧ ks.Nodup ∧ ∀ j, j ∈ ks ↔ j ∈ ms.take (n + 1) ∧ Rch (Ed P b o) j o) := fun H2 s2 h2 hr => by
        refine ⟨natsV ks, h2, szl (by rw [nats_len]; omega), same_mut s2 nD, ks ++ [j], ?_, by simp; omega, ?_, fun y => ?_⟩
        · rw [upd_same]
          unfold natsV
          rw [List.map_append]
          rfl
        · rw [List.nodup_append]
          exact ⟨hnd, List.nodup_cons.mpr ⟨List.not_mem_nil, List.nodup_nil⟩, fun a ha c hc e => hjn (by rw [← (List.mem_singleton.mp hc : c = j), ← e]; exact ((hmem a).mp ha).1)⟩
        · rw [htake, List.mem_append, List.mem_append, hmem]
          constructor
          · rintro (⟨h1, h2⟩ | h)
            · exact ⟨.inl h1, h2⟩
            · rw [List.mem_singleton.mp h]
              exact ⟨.inr (by simp), hr⟩
          · rintro ⟨h1 | h1, h2⟩
            · exact .inl ⟨h1, h2⟩
            · exact .inr h1
      have no : ¬ Rch (Ed P b o) j o → ∀ y, y ∈ ks ↔ y ∈ ms.take (n + 1) ∧ Rch (Ed P b o) y o := fun hr y => by
        rw [htake, List.mem_append, hmem]
        constructor
        · rintro ⟨h1, h2⟩
          exact ⟨.inl h1, h2⟩
        · rintro ⟨h1 | h1, h2⟩
          · exact ⟨h1, h2⟩
          · rw [List.mem_singleton.mp h1] at h2
            exact absurd h2 hr
      have hpH := sF _ _ hpF
      show gName 5 (V.int (j : Int)) _ _ _
      fail "bm_turn"
      fail "bm_go"
      refine r_ifD (fun hjo => ?_) (fun hjo => ?_)
      · have hjo : j = o := by
          have := V.int.inj hjo
          omega
        refine r_ifT rfl ?_
        fail "bm_go"
        exact yes _ sF hks (by rw [hjo]; exact .refl _)
      · fail "bm_go"
        refine ⟨q, P, b, o, j, rfl, hBF.same sF, W, hjl, fun d2 ms2 par2 H2 s2 nd2 hD2 hM2 hlt2 hcl2 => ?_⟩
        have hiff := hM2.mem_iff (j := o) hcl2
        fail "bm_go"
        refine r_dnIn hD2 ?_
        by_cases hm : o ∈ ms2
        · rw [if_pos hm]
          fail "bm_go"
          exact yes _ (sF.trans s2) (s2 _ _ hks) (hiff.mp hm)
        · rw [if_neg hm]
          fail "bm_go"
          exact ⟨sF.trans s2, ks, s2 _ _ hks, by omega, hnd, no fun z => hm (hiff.mpr z)⟩
    · obtain ⟨sF, ks, hks, hkl2, hnd, hmem⟩ := p
      rw [hkl, List.take_length] at hmem
      refine ⟨sF _ _ hdF, ?_⟩
      have nDm : D ≠ md := fun z => by rw [z, hdF] at nD; cases nD
      have kpE : ∀ a u, a ≠ q → H6 a = some u → upd H' md (.dK kvs) a = some u := fun a u n h => by
        rw [upd_ne (ne_of_none' h nmd).symm]
        exact sF _ _ (kpF a u n h)
      have cE := chg_kp hp6 kpE
      have hpE : upd H' md (.dK kvs) q = some (.ins 276 dx [("one", .int (i : Int)), ("other", .int (o : Int)), ("steps", .ref sl), ("waits", .ref wl), ("met", .ref md)]) := gD nmq.symm (sF _ _ hpF)
      have hDE : DN (upd H' md (.dK kvs)) md ms (fun j => ((par j : Nat) : Int)) := ⟨kvs, f, upd_same, hDI, hf⟩
      have hkE : upd H' md (.dK kvs) D = some (.lst (natsV ks)) := gD nDm hks
      have hstE := hst6.chg hp6 cE
      have hwlE := sqL_chgI hwl6 hp6 cE
      revert cE hpE hDE hkE hstE hwlE
      generalize upd H' md (.dK kvs) = HE
      intro cE hpE hDE hkE hstE hwlE
      fail "bm_go"
      refine ⟨q, 276, dx, _, rfl, hpE, c_Seeker T, tx_na T (by decide +kernel), by show 5 < 1000; decide, ?_⟩
      rw [show putF "kept" (.ref D) ([("one", .int (i : Int)), ("other", .int (o : Int)), ("steps", .ref sl), ("waits", .ref wl), ("met", .ref md)] : List (Str × V)) = skf (i : Int) (o : Int) sl wl md D from by kernel_rfl]
      have cU := chg_at (o := .ins 276 dx (skf (i : Int) (o : Int) sl wl md D)) hpE trivial
      refine k _ ms ks par ((c06.trans cE).trans cU) ⟨⟨dx, sl, wl, md, D, upd_same, hstE.chg hpE cU, sqL_chgI hwlE hpE cU, hDE.chg hpE cU, cU.kp _ _ (fun z => by rw [z, hpE] at hkE; cases hkE) hkE⟩, hM, hcl, hlt, fun x => ?_, hnd⟩
      rw [hmem, hM.mem_iff hcl]
end
section
/-! ## B4: least -/
local macro_rules | `(tactic| fail "bm_go1") => `(tactic| first
  | ((with_reducible apply r_fldE); fail "bm_hp"; fail "bm_cls"; fail "bm_na"; (first | assumption | fail "bm_lk" | kernel_rfl))
  | ((with_reducible apply r_methE); fail "bm_hp"; (first | assumption | kernel_rfl))
  | with_reducible refine r_un ?_
  | with_reducible refine r_uI ?_
  | with_reducible refine r_lrev ?_
  | with_reducible refine r_trev ?_)
theorem edge_at {K : PySem.W.Frag} {H : Hp} {sl : Addr} {P : List Row} {b : Int} {o i j : Nat} (h : StepsAt K H sl P b) (W : WF P) (e : Ed P b o i j) :
    ∃ (xs : List V) (a t : Addr) (lo hi : Int) (kvs : List (Key × V)) (ks : List Int) (f : Int → Option V), SqL K H sl xs ∧ atI xs (i : Int) = some (.ref a) ∧ H a = some (.dK kvs) ∧ DI kvs ks f ∧ f (j : Int) = some (.ref t) ∧ SqT K H t [.int lo, .int hi] ∧ Edge P b i j lo hi := by
  obtain ⟨ds, h1, h2, h3⟩ := h
  obtain ⟨_, ⟨bt, hb⟩, _⟩ := e
  have hi := (ent_lt W hb).1
  obtain ⟨kvs, ks, f, g1, g2, _, _, g5⟩ := h3 i ds[i] (List.getElem?_eq_getElem (by omega))
  rcases g5 j with ⟨_, z⟩ | ⟨t, lo, hi', e1, e2, e3, e4, e5⟩
  · exact absurd hb (z bt)
  · exact ⟨_, ds[i], t, lo, hi', kvs, ks, f, h1, atI_nat (by rw [List.getElem?_map, List.getElem?_eq_getElem (by omega)]; rfl), g1, g2, e1, e2, e3, e4, e5⟩
theorem Edge.bd {P : List Row} {b lo hi : Int} {i j : Nat} (W : WF P) (h : Edge P b i j lo hi) : 2 ≤ lo ∧ lo ≤ hi ∧ hi ≤ 4 := ⟨(ent_lt W h.1).2.2.1, (h.2.2 hi h.2.1).1, (ent_lt W h.2.1).2.2.2⟩
theorem Edge.inj {P : List Row} {b lo hi lo' hi' : Int} {i j : Nat} (h : Edge P b i j lo hi) (h' : Edge P b i j lo' hi') : lo' = lo ∧ hi' = hi := by
  have h1 := (h.2.2 _ h'.1).1
  have h2 := (h'.2.2 _ h.1).1
  have h3 := (h.2.2 _ h'.2.1).2
  have h4 := (h'.2.2 _ h.2.1).2
  omega
structure LB (P : List Row) (b : Int) (o one : Nat) (ks : List Nat) (val : Nat → Int) (as : List Nat) (par : Nat → Nat) : Prop where
  nd : ks.Nodup
  lt : ∀ x ∈ ks, x < P.length
  om : one ∈ ks
  v0 : val one = 0
  nn : ∀ x ∈ ks, 0 ≤ val x ∧ val x ≤ 5 * (ks.length : Int)
  am : ∀ x, x ∈ as ↔ x ∈ ks ∧ x ≠ one
  asnd : as.Nodup
  up : ∀ x ∈ as, par x ∈ ks ∧ Ed P b o (par x) x ∧ ∃ lo hi, Edge P b (par x) x lo hi ∧ val (par x) + lo ≤ val x
def addK (ks : List Nat) (y : Nat) : List Nat := if y ∈ ks then ks else ks ++ [y]
theorem mem_addK {ks : List Nat} {x y : Nat} : x ∈ addK ks y ↔ x ∈ ks ∨ x = y := by
  unfold addK
  split
  · constructor
    · exact .inl
    · rintro (h | rfl)
      · exact h
      · assumption
  · simp
theorem nd_addK {ks : List Nat} {y : Nat} (h : ks.Nodup) : (addK ks y).Nodup := by
  unfold addK
  split
  · exact h
  · rename_i hy
    rw [List.nodup_append]
    exact ⟨h, List.nodup_cons.mpr ⟨List.not_mem_nil, List.nodup_nil⟩, fun a ha c hc e => hy (by rw [← (List.mem_singleton.mp hc : c = y), ← e]; exact ha)⟩
theorem LB.set {P : List Row} {b : Int} {o one : Nat} {ks : List Nat} {val : Nat → Int} {as : List Nat} {par : Nat → Nat} (h : LB P b o one ks val as par) (W : WF P) {x y : Nat} {lo hi : Int} (hx : x ∈ ks) (e : Ed P b o x y) (g : Edge P b x y lo hi) (hv : y ∉ ks ∨ val x + lo < val y) :
    LB P b o one (addK ks y) (fun j => if j = y then val x + lo else val j) (addK as y) (fun j => if j = y then x else par j) := by
  have hlo := g.bd W
  have hx0 := h.nn x hx
  have hyo : y ≠ one := fun z => by
    rcases hv with hv | hv
    · exact hv (by rw [z]; exact h.om)
    · rw [z, h.v0] at hv
      omega
  have hxy : x ≠ y := fun z => by
    rcases hv with hv | hv
    · exact hv (by rw [← z]; exact hx)
    · rw [← z] at hv
      omega
  have hlen : (ks.length : Int) ≤ (addK ks y).length := by
    unfold addK
    split <;> simp <;> omega
  refine ⟨nd_addK h.nd, fun z hz => ?_, mem_addK.mpr (.inl h.om), ?_, fun z hz => ?_, fun z => ?_, nd_addK h.asnd, fun z hz => ?_⟩
  · rcases mem_addK.mp hz with hz | rfl
    · exact h.lt z hz
    · exact (e.lt W).2
  · show (if one = y then val x + lo else val one) = 0
    rw [if_neg hyo.symm]
    exact h.v0
  · show 0 ≤ (if z = y then val x + lo else val z) ∧ (if z = y then val x + lo else val z) ≤ 5 * ((addK ks y).length : Int)
    by_cases hzy : z = y
    · rw [if_pos hzy]
      refine ⟨by omega, ?_⟩
      rcases hv with hv | hv
      · have : (addK ks y).length = ks.length + 1 := by unfold addK; rw [if_neg hv]; simp
        omega
      · by_cases hy : y ∈ ks
        · have := (h.nn y hy).2
          omega
        · have : (addK ks y).length = ks.length + 1 := by unfold addK; rw [if_neg hy]; simp
          omega
    · rw [if_neg hzy]
      rcases mem_addK.mp hz with hz | hz
      · have := h.nn z hz
        omega
      · exact absurd hz hzy
  · rw [mem_addK, mem_addK, h.am]
    constructor
    · rintro (⟨h1, h2⟩ | rfl)
      · exact ⟨.inl h1, h2⟩
      · exact ⟨.inr rfl, hyo⟩
    · rintro ⟨h1 | h1, h2⟩
      · exact .inl ⟨h1, h2⟩
      · exact .inr h1
  · by_cases hzy : z = y
    · subst hzy
      simp only [if_true]
      refine ⟨mem_addK.mpr (.inl hx), e, lo, hi, g, ?_⟩
      rw [if_neg hxy]
      exact Int.le_refl _
    · simp only [if_neg hzy]
      rcases mem_addK.mp hz with hz | hz
      · obtain ⟨h1, h2, lo', hi', h3, h4⟩ := h.up z hz
        refine ⟨mem_addK.mpr (.inl h1), h2, lo', hi', h3, ?_⟩
        split
        · rename_i hp
          rcases hv with hv | hv
          · exact absurd (by rw [← hp]; exact h1) hv
          · rw [hp] at h4
            omega
        · exact h4
      · exact absurd hz hzy
/-- nothing is to be bettered over the edges of x -/
def Sat (P : List Row) (b : Int) (o : Nat) (ks : List Nat) (val : Nat → Int) (x y : Nat) : Prop := Ed P b o x y → y ∈ ks ∧ ∀ lo hi, Edge P b x y lo hi → val y ≤ val x + lo
def msr (N : Nat) (ks : List Nat) (val : Nat → Int) : Nat := ((List.range N).map fun x => if x ∈ ks then (val x).toNat else 5 * N + 10).sum
theorem sum_lt {f g : Nat → Nat} : ∀ (l : List Nat), (∀ x ∈ l, g x ≤ f x) → (∃ y ∈ l, g y < f y) → (l.map g).sum < (l.map f).sum
  | [], _, h => by obtain ⟨y, hy, _⟩ := h; simp at hy
  | x :: l, h1, h2 => by
    have le : ∀ l : List Nat, (∀ x ∈ l, g x ≤ f x) → (l.map g).sum ≤ (l.map f).sum := fun l => by
      induction l with
      | nil => intro _; simp
      | cons z l ih =>
        intro h
        have h3 := h z (by simp)
        have h4 := ih fun x hx => h x (by simp [hx])
        simp only [List.map_cons, List.sum_cons]
        omega
    have h3 := h1 x (by simp)
    simp only [List.map_cons, List.sum_cons]
    obtain ⟨y, hy, hlt⟩ := h2
    rcases List.mem_cons.mp hy with rfl | hy
    · have := le l fun x hx => h1 x (by simp [hx])
      omega
    · have := sum_lt l (fun x hx => h1 x (by simp [hx])) ⟨y, hy, hlt⟩
      omega
theorem LB.msr_lt {P : List Row} {b : Int} {o one : Nat} {ks : List Nat} {val : Nat → Int} {as : List Nat} {par : Nat → Nat} (h : LB P b o one ks val as par) (W : WF P) {x y : Nat} {lo hi : Int} (hx : x ∈ ks) (e : Ed P b o x y) (g : Edge P b x y lo hi) (hv : y ∉ ks ∨ val x + lo < val y) :
    msr P.length (addK ks y) (fun j => if j = y then val x + lo else val j) < msr P.length ks val := by
  have hlo := g.bd W
  have hx0 := h.nn x hx
  have hkl := nodup_len _ ks h.nd h.lt
  have hy := (e.lt W).2
  unfold msr
  refine sum_lt _ (fun z hz => ?_) ⟨y, List.mem_range.mpr hy, ?_⟩
  · show (if z ∈ addK ks y then (if z = y then val x + lo else val z).toNat else 5 * P.length + 10) ≤ if z ∈ ks then (val z).toNat else 5 * P.length + 10
    by_cases hzy : z = y
    · subst hzy
      rw [if_pos (mem_addK.mpr (.inr rfl)), if_pos rfl]
      rcases hv with hv | hv
      · rw [if_neg hv]
        omega
      · split <;> omega
    · rw [if_neg hzy]
      by_cases hz2 : z ∈ ks
      · rw [if_pos hz2, if_pos (mem_addK.mpr (.inl hz2))]
        exact Nat.le_refl _
      · rw [if_neg hz2, if_neg (fun q => by rcases mem_addK.mp q with q | q <;> contradiction)]
        exact Nat.le_refl _
  · show (if y ∈ addK ks y then (if y = y then val x + lo else val y).toNat else 5 * P.length + 10) < if y ∈ ks then (val y).toNat else 5 * P.length + 10
    rw [if_pos (mem_addK.mpr (.inr rfl)), if_pos rfl]
    rcases hv with hv | hv
    · rw [if_neg hv]
      omega
    · split <;> omega
theorem r_listDN {H : Hp} {d : Addr} {ms : List Nat} {val : Nat → Int} {Q : VK} (h : DN H d ms val) (q : ∀ l, H l = none → Q (.ref l) (upd H l (.lst (natsV ms)))) : rListD [.ref d] H Q := by
  obtain ⟨kvs, f, h1, h2, h3⟩ := h
  refine ⟨d, kvs, rfl, h1, fun l nl => ?_⟩
  rw [h2.listed, List.map_map]
  exact q l nl
theorem DN.ne {H : Hp} {d l : Addr} {ms : List Nat} {val : Nat → Int} (h : DN H d ms val) (n : H l = none) : l ≠ d := fun z => by
  obtain ⟨kvs, f, h1, _⟩ := h
  rw [z, h1] at n
  cases n
theorem nats_item {ws : List Nat} {n : Nat} {v : V} (hv : (natsV ws)[n]? = some v) : ∃ j, ws[n]? = some j ∧ v = .int (j : Int) := by
  unfold natsV at hv
  rw [List.getElem?_map] at hv
  cases e : ws[n]? with
  | none => rw [e] at hv; cases hv
  | some j => rw [e] at hv; exact ⟨j, rfl, (Option.some.inj hv).symm⟩
def Pg (P : List Row) (S0 : Nat) (bs0 : List Nat) (val0 : Nat → Int) (sat : Prop) (g : Bool) (bs : List Nat) (val : Nat → Int) : Prop := (g = true ∧ msr P.length bs val < S0) ∨ (g = false ∧ bs = bs0 ∧ val = val0 ∧ sat)
def sp_sk_least (K : PySem.W.Frag) : Sp := fun vs H Q _ => ∃ (q : Addr) (P : List Row) (b : Int) (i o : Nat) (ms ks : List Nat) (par : Nat → Nat), vs = [.ref q] ∧ SkAt K H q P b i o ms ks par ∧ WF P ∧
  ∀ (t d1 d2 : Addr) (bs as : List Nat) (val : Nat → Int) (pa : Nat → Nat) (H' : Hp), Same H H' → SqT K H' t [.ref d1, .ref d2] → DN H' d1 bs val → DN H' d2 as (fun j => ((pa j : Nat) : Int)) → LB P b o i bs val as pa → (∀ x ∈ bs, ∀ y, Sat P b o bs val x y) → Q (.ref t) H'
theorem sc_Seeker_least : FnScope ["self", "beats", "ahead", "going", "row", "following", "pair", "total"] ["self"] (defScope s_Seeker_least) := ⟨rfl, rfl, rfl, by decide +kernel, rfl, by decide +kernel, by decide +kernel⟩
theorem ok_Seeker_least {P : Program} {w : World} {K : PySem.W.Frag} {mg : Str → Option Value} {base : Heap} (T : Tx K mg) : Ok P w K mg base CX0 2 247 ["self"] (sp_sk_least K) := by
  refine ok0 1 (f_Seeker_least T) sc_Seeker_least (fun _ _ _ _ _ _ us hl => match us, hl with | [_], _ => rfl) (fun vs H Q E h => ?_) (fun cdv A outer sh H vs Q E room h => ?_)
  · obtain ⟨q, P, b, i, o, ms, ks, par, rfl, hq, W, k⟩ := h
    rfl
  · obtain ⟨q, P, b, i, o, ms, ks, par, rfl, hq, W, k⟩ := h
    refine ⟨_,     (pss_cons (ps_set (i := 1) sc_Seeker_least.nd rfl (Or.inl rfl) (pe_disp (pps_cons (pe_fldK K (pv 0) rfl) pe_int pps_nil) (by rfl) (by rfl) (fun z => by cases z) (by decide)))
        (pss_cons (ps_set (i := 2) sc_Seeker_least.nd rfl (Or.inl rfl) pe_dnewK)
        (pss_cons (ps_set (i := 3) sc_Seeker_least.nd rfl (Or.inl rfl) pe_bl)
        (pss_cons (ps_while PassesOwn.never (pt_val (pv 3))
          (pss_cons (ps_set (i := 3) sc_Seeker_least.nd rfl (Or.inl rfl) pe_bl)
          (pss_one (ps_for PassesOwn.never rfl (pi_listK K (pe_callTy (call_list_dK rfl) (by rfl) (n_list T) (by decide +kernel) (pa_cons (pv 1) pa_nil))) (pg_name (i := 4) sc_Seeker_least.nd rfl (Or.inl rfl))
            (pss_one (ps_for PassesOwn.never rfl (pi_listK K (pm (ok_Seeker_behind (K := K) T) (room.mono (by decide)) (c_Seeker T) (m_Seeker_behind T) pass0 (pv 0) (pa_cons (pv 4) pa_nil))) (pg_name (i := 5) sc_Seeker_least.nd rfl (Or.inl rfl))
              (pss_cons (ps_set (i := 6) sc_Seeker_least.nd rfl (Or.inl rfl) (pe_dget (hu_of room) (pe_ix (ix_listK K) (pe_fldK K (pv 0) rfl) (pv 4) (fun _ _ => rfl)) (pv 5) (fun _ _ => rfl)))
              (pss_cons (ps_set (i := 7) sc_Seeker_least.nd rfl (Or.inl rfl) (pe_op op_add (pe_dget (hu_of room) (pv 1) (pv 4) (fun _ _ => rfl)) (pe_ix (ix_tupK K) (pv 6) (pgi (i_LEAST T) rfl) (fun _ _ => rfl))))
              (pss_one (ps_if (PW.pt (pw_or (pt_cmp (pc_dnotin (hu_of room) (pv 5) (pv 1))) (pw_or1 (pt_cmpR op_lt (pv 7) (pe_dget (hu_of room) (pv 1) (pv 5) (fun _ _ => rfl)) (nomark _)))))
                (pss_cons (ps_dput (hu_of room) (pv 1) (pv 5) (pv 7) rfl)
                (pss_cons (ps_dput (hu_of room) (pv 2) (pv 5) (pv 4) rfl)
                (pss_one (ps_set (i := 3) sc_Seeker_least.nd rfl (Or.inl rfl) pe_bl)))) pss_nil))))))))))
        (pss_one (ps_ret (pe_tup (pa_cons (pv 1) (pa_cons (pv 2) pa_nil))))))))), ?_⟩
    show (_ : TS) _ [_, none, none, none, none, none, none, none] _
    obtain ⟨dx, sl, wl, md, kl, hp, hst, _, _, hkl⟩ := hq.ob
    have hz := W.len
    have hil := hq.mlt i (List.mem_of_getElem? hq.met.hd)
    fail "bm_go"
    intro d1 nd1
    have hpa := gN (o := .dK []) nd1 hp
    have sa := same_new (o := .dK []) nd1
    show tFld K (tVar 0) "one" _ _ _
    fail "bm_go"
    refine ⟨upd_same, [(.inl (i : Int), .int 0)], rfl, by simp, ?_⟩
    rw [upd_upd]
    fail "bm_go"
    intro d2 nd2
    have nd20 : H d2 = none := none_upd nd2
    have n12 : d1 ≠ d2 := (ne_upd nd2).symm
    fail "bm_go"
    have s0 : Same H (upd (upd H d1 (.dK (mergeK [] [(.inl (i : Int), V.int 0)]))) d2 (.dK [])) := same_mut (same_new nd1) nd20
    have h1 : DN (upd (upd H d1 (.dK (mergeK [] [(.inl (i : Int), V.int 0)]))) d2 (.dK [])) d1 [i] (fun _ => 0) := DN.new i 0 (gD n12 upd_same)
    have h2 : DN (upd (upd H d1 (.dK (mergeK [] [(.inl (i : Int), V.int 0)]))) d2 (.dK [])) d2 [] (fun j => (((fun _ => 0 : Nat → Nat) j : Nat) : Int)) := ⟨[], fun _ => none, upd_same, DI.nil, fun j => by simp⟩
    revert s0 h1 h2
    generalize upd (upd H d1 (.dK (mergeK [] [(.inl (i : Int), V.int 0)]))) d2 (.dK []) = H0
    intro s0 h1 h2
    have out : ∀ {H'}, Chs [d1, d2] H0 H' → Same H H' := fun c => c.out s0 fun x hx => by
      simp only [List.mem_cons, List.not_mem_nil, or_false] at hx
      rcases hx with rfl | rfl
      · exact nd1
      · exact nd20
    refine ⟨fun m σ H' => ∃ g o4 o5 o6 o7 bs as val pa, σ = [some (.ref q), some (.ref d1), some (.ref d2), some (.bl g), o4, o5, o6, o7] ∧ Chs [d1, d2] H0 H' ∧ DN H' d1 bs val ∧ DN H' d2 as (fun j => ((pa j : Nat) : Int)) ∧ LB P b o i bs val as pa ∧ ((g = true ∧ m = msr P.length bs val + 1) ∨ (g = false ∧ m = 0 ∧ ∀ x ∈ bs, ∀ y, Sat P b o bs val x y)),
      ⟨msr P.length [i] (fun _ => 0) + 1, true, none, none, none, none, [i], [], fun _ => 0, fun _ => 0, rfl, Chs.refl, h1, h2, ⟨by simp, by simpa using hil, by simp, rfl, by simp, by simp, by simp, by simp⟩, .inl ⟨rfl, rfl⟩⟩, fun m σ H' p => ?_⟩
    obtain ⟨g, o4, o5, o6, o7, bs, as, val, pa, rfl, c, hb, ha, hL, hg⟩ := p
    fail "bm_go"
    refine r_ifB (fun hgt => ?_) (fun hgt => ?_)
    · subst hgt
      have hm : m = msr P.length bs val + 1 := by
        rcases hg with ⟨_, h⟩ | ⟨h, _⟩
        · exact h
        · cases h
      refine ⟨fun σ' H' => ∃ m', m' < m ∧ _, fun _ _ h => h, ?_⟩
      fail "bm_go"
      refine r_listDN hb fun sn nsn => ?_
      have hbl := nodup_len _ bs hL.nd hL.lt
      have nsn1 := hb.ne nsn
      have nsn2 := ha.ne nsn
      have ss := same_new (o := .lst (natsV bs)) nsn
      have hsn : upd H' sn (.lst (natsV bs)) sn = some (.lst (natsV bs)) := upd_same
      have hb1 := hb.same ss
      have ha1 := ha.same ss
      have c1 := c.step ss
      revert ss hsn hb1 ha1 c1
      generalize upd H' sn (.lst (natsV bs)) = H1
      intro ss hsn hb1 ha1 c1
      refine forL (xs := natsV bs) (fun n σ H2 => ∃ g o4 o5 o6 o7 bs2 as val2 pa, σ = [some (.ref q), some (.ref d1), some (.ref d2), some (.bl g), o4, o5, o6, o7] ∧ Chs [d1, d2] H0 H2 ∧ H2 sn = some (.lst (natsV bs)) ∧ DN H2 d1 bs2 val2 ∧ DN H2 d2 as (fun j => ((pa j : Nat) : Int)) ∧ LB P b o i bs2 val2 as pa ∧ (∀ x ∈ bs, x ∈ bs2) ∧ Pg P (msr P.length bs val) bs val (∀ x ∈ bs.take n, ∀ y, Sat P b o bs val x y) g bs2 val2)
        (SqL.of hsn) ⟨false, o4, o5, o6, o7, bs, as, val, pa, rfl, c1, hsn, hb1, ha1, hL, fun _ h => h, .inr ⟨rfl, rfl, rfl, by simp⟩⟩ (fun n σ' H2 _ p => ?_) (fun n v σ' H2 hv p => ?_) (fun σ' H2 p => ?_)
      · obtain ⟨_, _, _, _, _, _, _, _, _, _, _, h, _⟩ := p
        exact SqL.of h
      · obtain ⟨g, o4, o5, o6, o7, bs2, as2, val2, pa2, rfl, c2, hsn2, hb2, ha2, hL2, hin, hg2⟩ := p
        obtain ⟨x, hx, rfl⟩ := nats_item hv
        have hxm := hin x (List.mem_of_getElem? hx)
        have hxl := hL2.lt x hxm
        have so := out c2
        have hp2 := so _ _ hp
        fail "bm_go"
        refine ⟨q, P, b, o, x, rfl, (hq.same so).b, W, hxl, fun l ws H3 s3 nl hl hmem hnd hl2 => ?_⟩
        have nl1 := hb2.ne nl
        have nl2 := ha2.ne nl
        have htk : bs.take (n + 1) = bs.take n ++ [x] := by rw [List.take_add_one, hx]; rfl
        refine forL (xs := natsV ws) (fun n2 σ H4 => ∃ g o5 o6 o7 bs2 as val2 pa, σ = [some (.ref q), some (.ref d1), some (.ref d2), some (.bl g), some (.int (x : Int)), o5, o6, o7] ∧ Chs [d1, d2] H0 H4 ∧ H4 sn = some (.lst (natsV bs)) ∧ H4 l = some (.lst (natsV ws)) ∧ DN H4 d1 bs2 val2 ∧ DN H4 d2 as (fun j => ((pa j : Nat) : Int)) ∧ LB P b o i bs2 val2 as pa ∧ (∀ x ∈ bs, x ∈ bs2) ∧ x ∈ bs2 ∧ Pg P (msr P.length bs val) bs val ((∀ x ∈ bs.take n, ∀ y, Sat P b o bs val x y) ∧ ∀ y ∈ ws.take n2, Sat P b o bs val x y) g bs2 val2)
          (SqL.of hl) ⟨g, o5, o6, o7, bs2, as2, val2, pa2, rfl, c2.step s3, s3 _ _ hsn2, hl, hb2.same s3, ha2.same s3, hL2, hin, hxm, ?_⟩ (fun n2 σ' H4 _ p => ?_) (fun n2 v σ' H4 hv p => ?_) (fun σ' H4 p => ?_)
        · rcases hg2 with h | ⟨h1, h2, h3, h4⟩
          · exact .inl h
          · exact .inr ⟨h1, h2, h3, h4, by simp⟩
        · obtain ⟨_, _, _, _, _, _, _, _, _, _, _, h, _⟩ := p
          exact SqL.of h
        · obtain ⟨g, o5, o6, o7, bs2, as2, val2, pa2, rfl, c4, hsn4, hl4, hb4, ha4, hL4, hin4, hxm4, hg4⟩ := p
          obtain ⟨y, hy, rfl⟩ := nats_item hv
          have hE := (hmem y).mp (List.mem_of_getElem? hy)
          have so4 := out c4
          have hp4 := so4 _ _ hp
          obtain ⟨xs, ad, tt, lo, hi, kvs, kk, f, e1, e2, e3, e4, e5, e6, e7⟩ := edge_at (hst.same so4) W hE
          have hbl4 := nodup_len _ bs2 hL4.nd hL4.lt
          have hal4 := nodup_len _ as2 hL4.asnd fun z hz => hL4.lt z ((hL4.am z).mp hz).1
          have hytk : ws.take (n2 + 1) = ws.take n2 ++ [y] := by rw [List.take_add_one, hy]; rfl
          fail "bm_go"
          refine r_dgetE (.inl e3) e4 e5 ?_
          fail "bm_go"
          refine r_dnGet hb4 hxm4 ?_
          fail "bm_go"
          refine r_dnIn hb4 ?_
          have stay : y ∈ bs2 → ¬ (val2 x + lo < val2 y) → Pg P (msr P.length bs val) bs val ((∀ x ∈ bs.take n, ∀ y, Sat P b o bs val x y) ∧ ∀ y ∈ ws.take (n2 + 1), Sat P b o bs val x y) g bs2 val2 := fun h1 h2 => by
            rcases hg4 with h | ⟨g1, rfl, rfl, g4, g5⟩
            · exact .inl h
            · refine .inr ⟨g1, rfl, rfl, g4, fun z hz => ?_⟩
              rw [hytk] at hz
              rcases List.mem_append.mp hz with hz | hz
              · exact g5 z hz
              · rw [List.mem_singleton.mp hz]
                intro _
                refine ⟨h1, fun lo' hi' hh => ?_⟩
                have := (e7.inj hh).1
                omega
          by_cases hyb : y ∈ bs2
          · rw [if_pos hyb]
            fail "bm_go"
            refine r_dnGet hb4 hyb ?_
            fail "bm_go"
            refine r_ifD (fun hlt => ?_) (fun hlt => ?_)
            · fail "bm_go"
              have hv : y ∉ bs2 ∨ val2 x + lo < val2 y := .inr hlt
              refine r_dnPut hb4 (by omega) fun H5 c5 hb5 => ?_
              have ha5 := ha4.at_ (H' := H5) fun u h => c5.kp _ _ n12.symm h
              fail "bm_go"
              refine r_dnPut ha5 (by omega) fun H6 c6 ha6 => ?_
              have hb6 := hb5.at_ (H' := H6) fun u h => c6.kp _ _ n12 h
              have e9 : (fun j => if j = y then (x : Int) else ((pa2 j : Nat) : Int)) = fun j => (((if j = y then x else pa2 j) : Nat) : Int) := by
                funext j
                split <;> rfl
              rw [e9] at ha6
              fail "bm_go"
              refine ⟨true, _, _, _, _, _, _, _, rfl, (c4.chg (by simp) c5).chg (by simp) c6, c6.kp _ _ nsn2 (c5.kp _ _ nsn1 hsn4), c6.kp _ _ nl2 (c5.kp _ _ nl1 hl4), hb6, ha6, hL4.set W hxm4 hE e7 hv, fun z hz => mem_addK.mpr (.inl (hin4 z hz)), mem_addK.mpr (.inl hxm4), .inl ⟨rfl, ?_⟩⟩
              have := hL4.msr_lt W hxm4 hE e7 hv
              rcases hg4 with ⟨_, h⟩ | ⟨_, h2, h3, _⟩
              · exact Nat.lt_trans this h
              · rw [← h2, ← h3]
                exact this
            · fail "bm_go"
              exact ⟨g, _, _, _, bs2, as2, val2, pa2, rfl, c4, hsn4, hl4, hb4, ha4, hL4, hin4, hxm4, stay hyb hlt⟩
          · rw [if_neg hyb]
            fail "bm_go"
            have hv : y ∉ bs2 ∨ val2 x + lo < val2 y := .inl hyb
            refine r_dnPut hb4 (by omega) fun H5 c5 hb5 => ?_
            have ha5 := ha4.at_ (H' := H5) fun u h => c5.kp _ _ n12.symm h
            fail "bm_go"
            refine r_dnPut ha5 (by omega) fun H6 c6 ha6 => ?_
            have hb6 := hb5.at_ (H' := H6) fun u h => c6.kp _ _ n12 h
            have e9 : (fun j => if j = y then (x : Int) else ((pa2 j : Nat) : Int)) = fun j => (((if j = y then x else pa2 j) : Nat) : Int) := by
              funext j
              split <;> rfl
            rw [e9] at ha6
            fail "bm_go"
            refine ⟨true, _, _, _, _, _, _, _, rfl, (c4.chg (by simp) c5).chg (by simp) c6, c6.kp _ _ nsn2 (c5.kp _ _ nsn1 hsn4), c6.kp _ _ nl2 (c5.kp _ _ nl1 hl4), hb6, ha6, hL4.set W hxm4 hE e7 hv, fun z hz => mem_addK.mpr (.inl (hin4 z hz)), mem_addK.mpr (.inl hxm4), .inl ⟨rfl, ?_⟩⟩
            have := hL4.msr_lt W hxm4 hE e7 hv
            rcases hg4 with ⟨_, h⟩ | ⟨_, h2, h3, _⟩
            · exact Nat.lt_trans this h
            · rw [← h2, ← h3]
              exact this
        · obtain ⟨g, o5, o6, o7, bs2, as2, val2, pa2, rfl, c4, hsn4, hl4, hb4, ha4, hL4, hin4, hxm4, hg4⟩ := p
          rw [nats_len, List.take_length] at hg4
          fail "bm_go"
          refine ⟨g, _, _, _, _, bs2, as2, val2, pa2, rfl, c4, hsn4, hb4, ha4, hL4, hin4, ?_⟩
          rcases hg4 with h | ⟨g1, g2, g3, g4, g5⟩
          · exact .inl h
          · refine .inr ⟨g1, g2, g3, fun z hz y => ?_⟩
            rw [htk] at hz
            rcases List.mem_append.mp hz with hz | hz
            · exact g4 z hz y
            · rw [List.mem_singleton.mp hz]
              intro he
              exact g5 y ((hmem y).mpr he) he
      · obtain ⟨g, o4, o5, o6, o7, bs2, as2, val2, pa2, rfl, c2, hsn2, hb2, ha2, hL2, hin, hg2⟩ := p
        rw [nats_len, List.take_length] at hg2
        fail "bm_go"
        rcases hg2 with ⟨rfl, h⟩ | ⟨rfl, rfl, rfl, g4⟩
        · exact ⟨_, by omega, true, o4, o5, o6, o7, bs2, as2, val2, pa2, rfl, c2, hb2, ha2, hL2, .inl ⟨rfl, rfl⟩⟩
        · exact ⟨0, by omega, false, o4, o5, o6, o7, bs2, as2, val2, pa2, rfl, c2, hb2, ha2, hL2, .inr ⟨rfl, rfl, g4⟩⟩
    · subst hgt
      have hfix : ∀ x ∈ bs, ∀ y, Sat P b o bs val x y := by
        rcases hg with ⟨h, _⟩ | ⟨_, _, h⟩
        · cases h
        · exact h
      fail "bm_go"
      intro t nt
      have st := same_new (o := .tup [.ref d1, .ref d2]) nt
      exact k t d1 d2 bs as val pa _ ((out c).trans st) (SqT.of upd_same) (hb.same st) (ha.same st) hL hfix
end
section
/-! ## B5: way_back, low_paper, shortened, round_paper -/
local macro_rules | `(tactic| fail "bm_go1") => `(tactic| first
  | ((with_reducible apply r_fldE); fail "bm_hp"; fail "bm_cls"; fail "bm_na"; (first | assumption | fail "bm_lk" | kernel_rfl))
  | ((with_reducible apply r_methE); fail "bm_hp"; (first | assumption | kernel_rfl))
  | with_reducible refine r_un ?_
  | with_reducible refine r_uI ?_
  | with_reducible refine r_lrev ?_
  | with_reducible refine r_trev ?_)
/-- the parents, falling in rank down to one -/
structure Back (N one : Nat) (as : List Nat) (pa : Nat → Nat) (rk : Nat → Nat) : Prop where
  lt : ∀ x ∈ as, x < N ∧ pa x < N
  up : ∀ x ∈ as, (pa x = one ∨ pa x ∈ as) ∧ rk (pa x) < rk x
  no : one ∉ as
def Chain (as : List Nat) (pa : Nat → Nat) (ws : List Nat) : Prop := ∀ (k y z : Nat), ws[k]? = some y → ws[k + 1]? = some z → z ∈ as ∧ y = pa z
def sp_way_back (K : PySem.W.Frag) : Sp := fun vs H Q _ => ∃ (d : Addr) (N one o : Nat) (as : List Nat) (pa rk : Nat → Nat), vs = [.ref d, .int one, .int o] ∧ DN H d as (fun j => ((pa j : Nat) : Int)) ∧ Back N one as pa rk ∧ o ∈ as ∧ N ≤ 100 ∧
  ∀ (t : Addr) (ws : List Nat) (H' : Hp), Same H H' → SqT K H' t (natsV ws) → ws.head? = some one → ws.getLast? = some o → ws.length ≤ 100 → Chain as pa ws → Q (.ref t) H'
theorem sc_way_back : FnScope ["ahead", "one", "other", "found"] ["ahead", "one", "other"] (defScope s_way_back) := ⟨rfl, rfl, rfl, by decide +kernel, rfl, by decide +kernel, by decide +kernel⟩
theorem ok_way_back {P : Program} {w : World} {K : PySem.W.Frag} {mg : Str → Option Value} {base : Heap} (T : Tx K mg) : Ok P w K mg base CX0 1 294 ["ahead", "one", "other"] (sp_way_back K) := by
  refine ok0 0 (f_way_back T) sc_way_back (fun _ _ _ _ _ _ us hl => match us, hl with | [_, _, _], _ => rfl) (fun vs H Q E h => ?_) (fun cdv A outer sh H vs Q E room h => ?_)
  · obtain ⟨d, N, one, o, as, pa, rk, rfl, hD, hB, ho, hN, k⟩ := h
    rfl
  · obtain ⟨d, N, one, o, as, pa, rk, rfl, hD, hB, ho, hN, k⟩ := h
    refine ⟨_,     (pss_cons (ps_set (i := 3) sc_way_back.nd rfl (Or.inl rfl) (pe_lst (pa_cons (pv 2) pa_nil)))
        (pss_cons (ps_while PassesOwn.never (pt_cmpR op_ne (pe_ix (ix_listK K) (pv 3) (pe_un un_neg pe_int) (fun _ _ => rfl)) (pv 1) (nomark _))
          (pss_one (ps_expr (pe_bmK K PySem.F.plainAttrs_list PySem.F.slot_list_append PySem.F.type_list_append mt_append (pv 3) (pa_cons (pe_dget (hu_of room) (pv 0) (pe_ix (ix_listK K) (pv 3) (pe_un un_neg pe_int) (fun _ _ => rfl)) (fun _ _ => rfl)) pa_nil)))))
        (pss_one (ps_ret (pe_tupRevK K rfl rfl (n_tuple T) rfl (n_reversed T) (pv 3)))))), ?_⟩
    show (_ : TS) _ [_, _, _, none] _
    have hoN := (hB.lt o ho).1
    fail "bm_go"
    intro fl nf
    have s1 := same_new (o := .lst [V.int (o : Int)]) nf
    have ndf : d ≠ fl := (hD.ne nf).symm
    fail "bm_go"
    refine ⟨fun m σ H' => σ = [some (.ref d), some (.int (one : Int)), some (.int (o : Int)), some (.ref fl)] ∧ Chg fl (upd H fl (.lst [V.int (o : Int)])) H' ∧ ∃ (fs : List Nat) (x : Nat), H' fl = some (.lst (natsV fs)) ∧ fs.head? = some o ∧ fs.getLast? = some x ∧ (x = one ∨ x ∈ as) ∧ m = rk x ∧ (∀ y ∈ fs, y < N ∧ rk x ≤ rk y) ∧ fs.Nodup ∧ ∀ (k y z : Nat), fs[k]? = some y → fs[k + 1]? = some z → y ∈ as ∧ z = pa y,
      ⟨rk o, rfl, Chg.refl, [o], o, upd_same, rfl, rfl, .inr ho, rfl, fun y hy => ?_, by simp, fun k y z h1 h2 => ?_⟩, fun m σ H' p => ?_⟩
    · rw [List.mem_singleton.mp hy]
      exact ⟨hoN, Nat.le_refl _⟩
    · have := (List.getElem?_eq_some_iff.mp h2).1
      simp at this
    · obtain ⟨rfl, c, fs, x, hf, hhd, hla, hx, rfl, hall, hnd, hch⟩ := p
      have ila := nats_last hla
      have hfl := nodup_len N fs hnd fun y hy => (hall y hy).1
      have hD' : DN H' d as (fun j => ((pa j : Nat) : Int)) := (hD.same s1).at_ fun u h => c.kp _ _ ndf h
      have s2 : Same H H' := c.out s1 nf
      have hne : fs ≠ [] := by rintro rfl; simp at hla
      fail "bm_go"
      refine r_ifN (fun hxo => ?_) (fun hxo => ?_)
      · have hxo : x ≠ one := fun z => hxo (by rw [z])
        have hxa : x ∈ as := hx.resolve_left hxo
        obtain ⟨u1, u2⟩ := hB.up x hxa
        refine ⟨fun σ' H' => ∃ m', m' < rk x ∧ _, fun _ _ h => h, ?_⟩
        fail "bm_go"
        refine r_dnGet hD' hxa ?_
        fail "bm_go"
        refine r_appN hf (by omega) fun H4 c4 hf4 => ?_
        fail "bm_go"
        refine ⟨rk (pa x), u2, rfl, c.trans c4, fs ++ [pa x], pa x, hf4, ?_, by simp, u1, rfl, fun y hy => ?_, ?_, fun k y z h1 h2 => ?_⟩
        · rw [List.head?_append, hhd]
          rfl
        · rcases List.mem_append.mp hy with hy | hy
          · have := hall y hy
            omega
          · rw [List.mem_singleton.mp hy]
            exact ⟨(hB.lt x hxa).2, Nat.le_refl _⟩
        · rw [List.nodup_append]
          refine ⟨hnd, List.nodup_cons.mpr ⟨List.not_mem_nil, List.nodup_nil⟩, fun a ha b hb e => ?_⟩
          rw [List.mem_singleton.mp hb] at e
          have := (hall a ha).2
          rw [e] at this
          omega
        · have hk := (List.getElem?_eq_some_iff.mp h2).1
          rw [List.length_append, List.length_singleton] at hk
          by_cases hk2 : k + 1 < fs.length
          · rw [List.getElem?_append_left (by omega)] at h1
            rw [List.getElem?_append_left hk2] at h2
            exact hch k y z h1 h2
          · have e : fs.length = k + 1 := by omega
            rw [List.getElem?_append_left (by omega)] at h1
            rw [List.getElem?_append_right (by omega), e, Nat.sub_self] at h2
            rw [List.getLast?_eq_getElem?, e] at hla
            rw [show k + 1 - 1 = k from rfl, h1] at hla
            cases hla
            simp at h2
            exact ⟨hxa, h2.symm⟩
      · have hxo : x = one := by
          have := V.int.inj hxo
          omega
        subst hxo
        fail "bm_go"
        refine r_revE (SqL.of hf) fun t nt => ?_
        have e : (natsV fs).reverse = natsV fs.reverse := by
          unfold natsV
          rw [List.map_reverse]
        rw [e]
        refine k t fs.reverse _ (same_mut s2 (s2.free nt)) (SqT.of upd_same) (by rw [List.head?_reverse, hla]) (by rw [List.getLast?_reverse, hhd]) (by rw [List.length_reverse]; omega) fun k y z h1 h2 => ?_
        have hk := (List.getElem?_eq_some_iff.mp h2).1
        rw [List.length_reverse] at hk
        rw [List.getElem?_reverse (by omega)] at h1 h2
        have := hch (fs.length - 1 - (k + 1)) z y h2 (by rw [show fs.length - 1 - (k + 1) + 1 = fs.length - 1 - k by omega]; exact h1)
        exact this
/-- what the low paper tells -/
def LowOk (P : List Row) (b : Int) (one o : Nat) (L : Int) (ws : List Nat) : Prop := ∃ (bs : List Nat) (val : Nat → Int), one ∈ bs ∧ val one = 0 ∧ val o = L ∧ (∀ x ∈ bs, ∀ y, Sat P b o bs val x y) ∧ ws.head? = some one ∧ ws.getLast? = some o ∧ ws.length ≤ 100 ∧
  ∀ (k y z : Nat), ws[k]? = some y → ws[k + 1]? = some z → Ed P b o y z ∧ ∃ lo hi, Edge P b y z lo hi ∧ val z = val y + lo
theorem fix_mem {P : List Row} {b : Int} {one o : Nat} {bs : List Nat} {val : Nat → Int} (h1 : one ∈ bs) (h : ∀ x ∈ bs, ∀ y, Sat P b o bs val x y) {x : Nat} (r : Rch (Ed P b o) one x) : x ∈ bs := r.mem h1 fun i hi j e => (h i hi j e).1
theorem r_dnG2 {H : Hp} {d : Addr} {ms : List Nat} {val : Nat → Int} (h : DN H d ms val) {q : Addr → Prop} (hq : q d) : ∃ a', V.ref d = .ref a' ∧ IsD H a' ∧ q a' := by
  obtain ⟨kvs, f, h1, h2, h3⟩ := h
  exact r_dget2E (.inl h1) hq
theorem r_dnGO {H : Hp} {d : Addr} {ms : List Nat} {val : Nat → Int} {j : Nat} (h : DN H d ms val) {q : Option V → Prop} (hq : q (if j ∈ ms then some (.int (val j)) else none)) : ∃ o, DGet H d (.int (j : Int)) o ∧ q o := by
  obtain ⟨kvs, f, h1, h2, h3⟩ := h
  refine r_dgetO (.inl h1) h2 ?_
  rw [h3]
  exact hq
def sp_low_paper (K : PySem.W.Frag) : Sp := fun vs H Q _ => ∃ (p q : Addr) (P : List Row) (b : Int) (i o : Nat) (ms ks : List Nat) (par : Nat → Nat), vs = [.ref p, .ref q] ∧ PAt K H p P ∧ SkAt K H q P b i o ms ks par ∧ WF P ∧ i ≠ o ∧ Rch (Ed P b o) i o ∧
  ∀ (t wt : Addr) (v : V) (L : Int) (ws : List Nat) (H' : Hp), Same H H' → SqT K H' t [.int L, .ref wt, v] → SqT K H' wt (natsV ws) → LowOk P b i o L ws → Q (.ref t) H'
theorem sc_low_paper : FnScope ["program", "seeker", "beats", "ahead", "prices", "row"] ["program", "seeker"] (defScope s_low_paper) := ⟨rfl, rfl, rfl, by decide +kernel, rfl, by decide +kernel, by decide +kernel⟩
theorem ok_low_paper {P : Program} {w : World} {K : PySem.W.Frag} {mg : Str → Option Value} {base : Heap} (T : Tx K mg) : Ok P w K mg base CX0 3 299 ["program", "seeker"] (sp_low_paper K) := by
  refine ok0 2 (f_low_paper T) sc_low_paper (fun _ _ _ _ _ _ us hl => match us, hl with | [_, _], _ => rfl) (fun vs H Q E h => ?_) (fun cdv A outer sh H vs Q E room h => ?_)
  · obtain ⟨p, q, P, b, i, o, ms, ks, par, rfl, hP, hq, W, hio, hr, k⟩ := h
    rfl
  · obtain ⟨p, q, P, b, i, o, ms, ks, par, rfl, hP, hq, W, hio, hr, k⟩ := h
    refine ⟨_,     (pss_cons (ps_asg (pm0 (ok_Seeker_least (K := K) T) (room.mono (by decide)) (c_Seeker T) (m_Seeker_least T) pass0 (pv 1)) (pg_tupK K (n := 2) rfl (pgs_cons (pg_name (i := 2) sc_low_paper.nd rfl (Or.inr rfl)) (pgs_cons (pg_name (i := 3) sc_low_paper.nd rfl (Or.inl rfl)) pgs_nil))))
        (pss_cons (ps_set (i := 4) sc_low_paper.nd rfl (Or.inl rfl) (pe_callTy (call_tupK K) (by rfl) (n_tuple T) (by decide +kernel) (pa_cons (pe_lc (own := [("row", 5)]) rfl sc_low_paper.nd (pi_range1 rfl (n_range T) (pa_cons (pe_callB (call_lenK K) (by rfl) (n_len T) (by decide +kernel) (pa_cons (pv 0) pa_nil)) pa_nil)) (blkOk_by (N := ["program", "seeker", "beats", "ahead", "prices", "row"]) (sc := defScope s_low_paper) (by decide +kernel)) (fun _ _ _ _ _ => (pg_name (i := 5) sc_low_paper.nd rfl (Or.inl rfl))) (fun _ _ _ _ _ => pts_nil) (fun _ _ _ _ _ => (pe_dget2 (hu_of room) (pv 2) (pv 5) pe_non ⟨rfl, rfl, rfl, rfl⟩))) pa_nil)))
        (pss_one (ps_ret (pe_tup (pa_cons (pe_dget (hu_of room) (pv 2) (pe_fldK K (pv 1) rfl) (fun _ _ => rfl)) (pa_cons (pc (ok_way_back (K := K) T) (room.mono (by decide)) rfl (g_way_back T) pass0 (pa_cons (pv 3) (pa_cons (pe_fldK K (pv 1) rfl) (pa_cons (pe_fldK K (pv 1) rfl) pa_nil)))) (pa_cons (pv 4) pa_nil)))))))), ?_⟩
    show (_ : TS) _ [_, _, none, none, none, none] _
    obtain ⟨dx, sl, wl, md, kl, hp, hst, _, _, hkl⟩ := hq.ob
    have hz := W.len
    fail "bm_go"
    refine ⟨q, P, b, i, o, ms, ks, par, rfl, hq, W, fun t d1 d2 bs as val pa H1 s1 ht hb ha hL hfix => ?_⟩
    have hp1 := s1 _ _ hp
    obtain ⟨xs, hx1, hx2, _⟩ := (hP.same s1).each
    have hom : o ∈ bs := fix_mem hL.om hfix hr
    have hoa : o ∈ as := (hL.am o).mpr ⟨hom, hio.symm⟩
    fail "bm_go"
    rw [hx2]
    refine lcN_r (n := (P.length : Int)) (R := fun _ _ _ => True) ⟨fun _ _ => trivial, fun _ _ => trivial⟩ (by omega) (by omega) (fun n H2 hi s2 Rk R0 q1 => ?_) (fun D H2 us hD s2 hd2 hw _ => ?_)
    · have hb2 := hb.same s2
      fail "bm_turn"
      fail "bm_go"
      refine r_dnG2 hb2 ?_
      fail "bm_go"
      refine r_dnGO hb2 ?_
      exact q1 _ _ (Same.refl _) trivial
    · fail "bm_go"
      refine r_tupL (SqL.of hd2) fun t2 nt2 => ?_
      have s3 := same_new (o := .tup us) nt2
      have s23 := s2.trans s3
      have hb3 := hb.same s23
      have ha3 := ha.same s23
      have hp3 := s23 _ _ hp1
      fail "bm_go"
      refine r_dnGet hb3 hom ?_
      fail "bm_go"
      refine ⟨d2, P.length, i, o, as, pa, fun x => (val x).toNat, rfl, ha3, ⟨fun x hx => ?_, fun x hx => ?_, fun h => ((hL.am i).mp h).2 rfl⟩, hoa, hz, fun wt ws H4 s4 hwt hhd hla hwl hch => ?_⟩
      · obtain ⟨u1, u2, _⟩ := hL.up x hx
        exact ⟨hL.lt x ((hL.am x).mp hx).1, hL.lt _ u1⟩
      · obtain ⟨u1, u2, lo, hi, u3, u4⟩ := hL.up x hx
        have := (hL.nn _ u1).1
        have := u3.bd W
        refine ⟨?_, by show (val (pa x)).toNat < (val x).toNat; omega⟩
        by_cases e : pa x = i
        · exact .inl e
        · exact .inr ((hL.am _).mpr ⟨u1, e⟩)
      · fail "bm_go"
        intro t4 nt4
        have s5 := same_new (o := .tup [.int (val o), .ref wt, .ref t2]) nt4
        refine k t4 wt _ (val o) ws _ (((s1.trans s23).trans s4).trans s5) (SqT.of upd_same) (sqT_same s5 hwt) ⟨bs, val, hL.om, hL.v0, rfl, hfix, hhd, hla, hwl, fun n y z h1 h2 => ?_⟩
        obtain ⟨g1, rfl⟩ := hch n y z h1 h2
        obtain ⟨u1, u2, lo, hi, u3, u4⟩ := hL.up z g1
        have := (hfix _ u1 z u2).2 lo hi u3
        exact ⟨u2, lo, hi, u3, by omega⟩
def sp_shortened (K : PySem.W.Frag) : Sp := fun vs H Q _ => ∃ (l : Addr) (ws : List Nat) (a z : Nat), vs = [.ref l] ∧ H l = some (.lst (natsV ws)) ∧ ws.head? = some a ∧ ws.getLast? = some z ∧ ws.length ≤ 1000 ∧
  ∀ (t f : Addr) (tn : V) (us : List Nat) (H' : Hp), Same H H' → SqT K H' t [.ref f, tn] → H' f = some (.lst (natsV us)) → us.head? = some a → us.getLast? = some z → us.length ≤ 1000 → (tn = .non ∨ ∃ x ∈ ws, tn = .int (x : Int)) → Q (.ref t) H'
theorem idx_first {ws : List Nat} {x : Nat} (h : x ∈ ws) : ∃ j : Nat, ws[j]? = some x ∧ ∀ m : Nat, m < j → ws[m]? ≠ some x := by
  induction ws with
  | nil => simp at h
  | cons y ws ih =>
    by_cases e : y = x
    · exact ⟨0, by rw [e]; rfl, fun m hm => by omega⟩
    · rcases List.mem_cons.mp h with h | h
      · exact absurd h.symm e
      · obtain ⟨j, h1, h2⟩ := ih h
        refine ⟨j + 1, by simpa using h1, fun m hm => ?_⟩
        cases m with
        | zero => simpa using e
        | succ m => simpa using h2 m (by omega)
theorem nats_in {ws : List Nat} {x : Nat} : inV (.int (x : Int)) (natsV ws) = true ↔ x ∈ ws := by
  unfold inV natsV
  rw [List.any_map, List.any_eq_true]
  constructor
  · rintro ⟨y, hy, e⟩
    have : ((y : Int) == (x : Int)) = true := e
    have := eq_of_beq this
    rw [show x = y by omega]
    exact hy
  · intro h
    exact ⟨x, h, show ((x : Int) == (x : Int)) = true from beq_self_eq_true _⟩
theorem nats_flat {ws : List Nat} : (natsV ws).all flatV = true := by
  unfold natsV
  rw [List.all_map, List.all_eq_true]
  intro x _
  rfl
theorem sc_shortened : FnScope ["way", "found", "turn", "row"] ["way"] (defScope s_shortened) := ⟨rfl, rfl, rfl, by decide +kernel, rfl, by decide +kernel, by decide +kernel⟩
theorem ok_shortened {P : Program} {w : World} {K : PySem.W.Frag} {mg : Str → Option Value} {base : Heap} (T : Tx K mg) : Ok P w K mg base CX0 1 287 ["way"] (sp_shortened K) := by
  refine ok0 0 (f_shortened T) sc_shortened (fun _ _ _ _ _ _ us hl => match us, hl with | [_], _ => rfl) (fun vs H Q E h => ?_) (fun cdv A outer sh H vs Q E room h => ?_)
  · obtain ⟨l, ws, a, z, rfl, hl, hhd, hla, hwl, k⟩ := h
    rfl
  · obtain ⟨l, ws, a, z, rfl, hl, hhd, hla, hwl, k⟩ := h
    refine ⟨_,     (pss_cons (ps_set (i := 1) sc_shortened.nd rfl (Or.inl rfl) (pe_lst pa_nil))
        (pss_cons (ps_set (i := 2) sc_shortened.nd rfl (Or.inl rfl) pe_non)
        (pss_cons (ps_for PassesOwn.never rfl (pi_listK K (pv 0)) (pg_name (i := 3) sc_shortened.nd rfl (Or.inl rfl))
          (pss_cons (ps_if (pt_cmpR (op_inK K) (pv 3) (pv 1) (by rfl))
            (pss_cons (ps_set (i := 1) sc_shortened.nd rfl (Or.inl rfl) (pe_slice (sl_listK K) (pv 1) po_none (po_some (pe_bmK K PySem.F.plainAttrs_list PySem.F.slot_list_index PySem.F.type_list_index (mt_indexK K) (pv 1) (pa_cons (pv 3) pa_nil)))))
            (pss_one (ps_set (i := 2) sc_shortened.nd rfl (Or.inl rfl) (pv 3)))) pss_nil)
          (pss_one (ps_expr (pe_bmK K PySem.F.plainAttrs_list PySem.F.slot_list_append PySem.F.type_list_append mt_append (pv 1) (pa_cons (pv 3) pa_nil))))))
        (pss_one (ps_ret (pe_tup (pa_cons (pv 1) (pa_cons (pv 2) pa_nil)))))))), ?_⟩
    show (_ : TS) _ [_, none, none, none] _
    fail "bm_go"
    intro f0 nf0
    have s0 := same_new (o := .lst []) nf0
    fail "bm_go"
    refine forL (xs := natsV ws) (fun n σ H' => ∃ f tn o3 us, σ = [some (.ref l), some (.ref f), some tn, o3] ∧ Same H H' ∧ H f = none ∧ H' f = some (.lst (natsV us)) ∧ us.length ≤ n ∧ (n = 0 → us = []) ∧ (0 < n → us.head? = some a ∧ us.getLast? = ws[n - 1]?) ∧ (tn = .non ∨ ∃ x ∈ ws, tn = .int (x : Int)))
      (SqL.of (s0 _ _ hl)) ⟨f0, .non, none, [], rfl, s0, nf0, upd_same, by simp, fun _ => rfl, fun h => by omega, .inl rfl⟩ (fun n σ' H' _ p => ?_) (fun n v σ' H' hv p => ?_) (fun σ' H' p => ?_)
    · obtain ⟨_, _, _, _, _, s, _⟩ := p
      exact SqL.of (s _ _ hl)
    · obtain ⟨f, tn, o3, us, rfl, s, nf, hf, hul, hu0, hu1, htn⟩ := p
      obtain ⟨x, hx, rfl⟩ := nats_item hv
      fail "bm_go"
      have hnw := (List.getElem?_eq_some_iff.mp hx).1
      refine r_inL (SqL.of hf) rfl nats_flat ?_
      fail "bm_go"
      refine r_ifB (fun hin => ?_) (fun hin => ?_)
      · have hin := nats_in.mp hin
        obtain ⟨j, hj1, hj2⟩ := idx_first hin
        have hjl := (List.getElem?_eq_some_iff.mp hj1).1
        have hn0 : 0 < n := by
          rcases Nat.eq_zero_or_pos n with h | h
          · rw [hu0 h] at hin
            simp at hin
          · exact h
        have hu := hu1 hn0
        fail "bm_go"
        refine r_index (j := j) (z := .int (x : Int)) (SqL.of hf) rfl nats_flat (by unfold natsV; rw [List.getElem?_map, hj1]; rfl) (show ((x : Int) == (x : Int)) = true from beq_self_eq_true _) (fun m z' hm hz => ?_) ?_
        · obtain ⟨y, hy, rfl⟩ := nats_item hz
          show ((y : Int) == (x : Int)) = false
          rw [beq_eq_false_iff_ne]
          intro e
          exact hj2 m hm (by rw [hy, show y = x by omega])
        · fail "bm_go"
          refine ⟨f, natsV us, rfl, SqL.of hf, fun f2 nf2 => ?_⟩
          have e : cutV (natsV us) none (some ((j : Nat) : Int)) = natsV (us.take j) := by
            rw [cutV_to]
            unfold natsV
            rw [List.map_take]
          rw [e]
          have s2 := same_mut (o := .lst (natsV (us.take j))) s (s.free nf2)
          have nf20 : H f2 = none := s.free nf2
          fail "bm_go"
          refine r_appN (ws := us.take j) upd_same (by rw [List.length_take]; omega) fun H4 c4 hf4 => ?_
          fail "bm_go"
          refine ⟨f2, _, _, us.take j ++ [x], rfl, c4.out s2 nf20, nf20, hf4, by rw [List.length_append, List.length_take]; simp; omega, fun h => by omega, fun _ => ⟨?_, by simp [hx]⟩, .inr ⟨x, List.mem_of_getElem? hx, rfl⟩⟩
          rw [List.head?_append]
          rcases Nat.eq_zero_or_pos j with h0 | h0
          · subst h0
            rw [List.head?_eq_getElem?] at hu
            rw [hu.1] at hj1
            cases hj1
            simp
          · rw [List.head?_take, if_neg (by omega), hu.1]
            rfl
      · have hin : x ∉ us := fun h => by rw [nats_in.mpr h] at hin; cases hin
        fail "bm_go"
        refine r_appN hf (by omega) fun H4 c4 hf4 => ?_
        fail "bm_go"
        refine ⟨f, tn, _, us ++ [x], rfl, c4.out s nf, nf, hf4, by simp; omega, fun h => by omega, fun _ => ⟨?_, by simp [hx]⟩, htn⟩
        rcases Nat.eq_zero_or_pos n with h0 | h0
        · rw [hu0 h0]
          subst h0
          rw [List.head?_eq_getElem?, hx] at hhd
          cases hhd
          rfl
        · rw [List.head?_append, (hu1 h0).1]
          rfl
    · obtain ⟨f, tn, o3, us, rfl, s, nf, hf, hul, hu0, hu1, htn⟩ := p
      rw [nats_len] at hul hu0 hu1
      fail "bm_go"
      intro t nt
      have h1 := hu1 (List.length_pos_iff.mpr (by rintro rfl; simp at hhd))
      refine k t f tn us _ (s.trans (same_new nt)) (SqT.of upd_same) (gN nt hf) h1.1 (by rw [h1.2, ← List.getLast?_eq_getElem?, hla]) (by omega) htn
def sp_round_paper (K : PySem.W.Frag) : Sp := fun vs H Q _ => ∃ (q : Addr) (P : List Row) (b : Int) (i o x : Nat) (ms ks : List Nat) (par : Nat → Nat), vs = [.ref q, .int x] ∧ SkAt K H q P b i o ms ks par ∧ WF P ∧ x ∈ ks ∧
  ∀ (t wt : Addr) (v : V) (us : List Nat) (H' : Hp), Same H H' → SqT K H' t [.str "round", .ref wt, v] → SqT K H' wt (natsV us) → us.head? = some i → us.getLast? = some o → Q (.ref t) H'
theorem sc_round_paper : FnScope ["seeker", "row", "way", "turn"] ["seeker", "row"] (defScope s_round_paper) := ⟨rfl, rfl, rfl, by decide +kernel, rfl, by decide +kernel, by decide +kernel⟩
theorem ok_round_paper {P : Program} {w : World} {K : PySem.W.Frag} {mg : Str → Option Value} {base : Heap} (T : Tx K mg) : Ok P w K mg base CX0 5 306 ["seeker", "row"] (sp_round_paper K) := by
  refine ok0 4 (f_round_paper T) sc_round_paper (fun _ _ _ _ _ _ us hl => match us, hl with | [_, _], _ => rfl) (fun vs H Q E h => ?_) (fun cdv A outer sh H vs Q E room h => ?_)
  · obtain ⟨q, P, b, i, o, x, ms, ks, par, rfl, hq, W, hx, k⟩ := h
    rfl
  · obtain ⟨q, P, b, i, o, x, ms, ks, par, rfl, hq, W, hx, k⟩ := h
    refine ⟨_,     (pss_cons (ps_asg (pc (ok_shortened (K := K) T) (room.mono (by decide)) rfl (g_shortened T) pass0 (pa_cons (pe_op op_cat (pm (ok_Seeker_way (K := K) T) (room.mono (by decide)) (c_Seeker T) (m_Seeker_way T) pass0 (pv 0) (pa_cons (pe_fldK K (pv 0) rfl) (pa_cons (pv 1) pa_nil))) (pe_slice (sl_listK K) (pm (ok_Seeker_way (K := K) T) (room.mono (by decide)) (c_Seeker T) (m_Seeker_way T) pass0 (pv 0) (pa_cons (pv 1) (pa_cons (pe_fldK K (pv 0) rfl) pa_nil))) (po_some pe_int) po_none)) pa_nil)) (pg_tupK K (n := 2) rfl (pgs_cons (pg_name (i := 2) sc_round_paper.nd rfl (Or.inl rfl)) (pgs_cons (pg_name (i := 3) sc_round_paper.nd rfl (Or.inl rfl)) pgs_nil))))
        (pss_cons (ps_if (pt_cmpR op_isN' (pv 3) pe_non (nomark _))
          (pss_one (ps_set (i := 3) sc_round_paper.nd rfl (Or.inl rfl) (pv 1))) pss_nil)
        (pss_one (ps_ret (pe_tup (pa_cons pe_str (pa_cons (pe_callTy (call_tupK K) (by rfl) (n_tuple T) (by decide +kernel) (pa_cons (pv 2) pa_nil)) (pa_cons (pe_callTy (call_tupK K) (by rfl) (n_tuple T) (by decide +kernel) (pa_cons (pm (ok_Seeker_round_of (K := K) T) (room.mono (by decide)) (c_Seeker T) (m_Seeker_round_of T) pass0 (pv 0) (pa_cons (pv 3) pa_nil)) pa_nil)) pa_nil)))))))), ?_⟩
    show (_ : TS) _ [_, _, none, none] _
    obtain ⟨dx, sl, wl, md, kl, hp, hst, _, _, hkl⟩ := hq.ob
    have hz := W.len
    have hil := hq.mlt i (List.mem_of_getElem? hq.met.hd)
    have hxl := hq.klt hx
    obtain ⟨r1, r2⟩ := (hq.kp x).mp hx
    fail "bm_go"
    refine ⟨q, P, b, o, i, x, rfl, hq.b, W, hil, r1, fun l1 w1 H1 s1 _ hl1 hh1 ht1 hb1 hn1 => ?_⟩
    have hp1 := s1 _ _ hp
    fail "bm_go"
    refine ⟨q, P, b, o, x, o, rfl, (hq.same s1).b, W, hxl, r2, fun l2 w2 H2 s2 _ hl2 hh2 ht2 hb2 hn2 => ?_⟩
    have hl12 := s2 _ _ hl1
    fail "bm_go"
    refine ⟨l2, natsV w2, rfl, SqL.of hl2, fun l3 nl3 => ?_⟩
    have e3 : cutV (natsV w2) (some (1 : Int)) none = natsV (w2.drop 1) := by
      rw [show (1 : Int) = ((1 : Nat) : Int) from rfl, cutV_from]
      unfold natsV
      rw [List.map_drop]
    rw [e3]
    dsimp only
    refine r_catL (gN nl3 hl12) upd_same (by rw [nats_len, nats_len, List.length_drop]; omega) fun l4 nl4 => ?_
    have e4 : natsV w1 ++ natsV (w2.drop 1) = natsV (w1 ++ w2.drop 1) := by
      unfold natsV
      rw [List.map_append]
    rw [e4]
    have s3 := same_new (o := .lst (natsV (w2.drop 1))) nl3
    have s4 := same_new (o := .lst (natsV (w1 ++ w2.drop 1))) nl4
    have s14 := ((s1.trans s2).trans s3).trans s4
    have hp4 := s14 _ _ hp
    have hhd : (w1 ++ w2.drop 1).head? = some i := by
      rw [List.head?_append, hh1]
      rfl
    have hla : (w1 ++ w2.drop 1).getLast? = some o := by
      rw [List.getLast?_append]
      cases w2 with
      | nil => simp at hh2
      | cons y w2 =>
        cases w2 with
        | nil =>
          simp at hh2 ht2
          simp [ht1, ← hh2, ht2]
        | cons z w2 =>
          rw [List.drop_one, List.tail_cons, List.getLast?_cons_cons] at *
          rw [ht2]
          rfl
    have hlt : ∀ y ∈ w1 ++ w2.drop 1, y < P.length := fun y hy => by
      rcases List.mem_append.mp hy with hy | hy
      · exact hb1 y hy
      · exact hb2 y (List.mem_of_mem_drop hy)
    fail "bm_go"
    refine ⟨l4, w1 ++ w2.drop 1, i, o, rfl, upd_same, hhd, hla, by rw [List.length_append, List.length_drop]; omega, fun t f tn us H5 s5 ht hf uh ul un htn => ?_⟩
    have hp5 := s5 _ _ hp4
    have s15 := s14.trans s5
    fail "bm_go"
    rcases htn with rfl | ⟨y, hy, rfl⟩
    · refine r_ifT rfl ?_
      fail "bm_go"
      refine r_tupL (SqL.of hf) fun t6 nt6 => ?_
      have s6 := same_new (o := .tup (natsV us)) nt6
      have hp6 := s6 _ _ hp5
      fail "bm_go"
      refine ⟨q, P, b, o, x, rfl, (hq.same (s15.trans s6)).b, W, hxl, fun l7 w7 H7 s7 _ hl7 _ _ => ?_⟩
      fail "bm_go"
      refine r_tupL (SqL.of hl7) fun t8 nt8 => ?_
      fail "bm_go"
      intro t9 nt9
      have s8 := same_new (o := .tup (natsV w7)) nt8
      have s9 := same_new (o := .tup [.str "round", .ref t6, .ref t8]) nt9
      exact k t9 t6 _ us _ ((((s15.trans s6).trans s7).trans s8).trans s9) (SqT.of upd_same) (sqT_same ((s7.trans s8).trans s9) (SqT.of upd_same)) uh ul
    · refine r_ifF rfl ?_
      fail "bm_go"
      refine r_tupL (SqL.of hf) fun t6 nt6 => ?_
      have s6 := same_new (o := .tup (natsV us)) nt6
      have hp6 := s6 _ _ hp5
      fail "bm_go"
      refine ⟨q, P, b, o, y, rfl, (hq.same (s15.trans s6)).b, W, hlt y hy, fun l7 w7 H7 s7 _ hl7 _ _ => ?_⟩
      fail "bm_go"
      refine r_tupL (SqL.of hl7) fun t8 nt8 => ?_
      fail "bm_go"
      intro t9 nt9
      have s8 := same_new (o := .tup (natsV w7)) nt8
      have s9 := same_new (o := .tup [.str "round", .ref t6, .ref t8]) nt9
      exact k t9 t6 _ us _ ((((s15.trans s6).trans s7).trans s8).trans s9) (SqT.of upd_same) (sqT_same ((s7.trans s8).trans s9) (SqT.of upd_same)) uh ul
end
section
/-! ## B6: in_order -/
local macro_rules | `(tactic| fail "bm_go1") => `(tactic| first
  | ((with_reducible apply r_fldE); fail "bm_hp"; fail "bm_cls"; fail "bm_na"; (first | assumption | fail "bm_lk" | kernel_rfl))
  | ((with_reducible apply r_methE); fail "bm_hp"; (first | assumption | kernel_rfl))
  | with_reducible refine r_un ?_
  | with_reducible refine r_uI ?_
  | with_reducible refine r_lrev ?_
  | with_reducible refine r_trev ?_)
open Classical in
/-- how many of l go to z and are not done -/
noncomputable def cntE (E : Nat → Nat → Prop) : List Nat → List Nat → Nat → Nat
  | [], _, _ => 0
  | y :: l, done, z => (if E y z ∧ y ∉ done then 1 else 0) + cntE E l done z
theorem cntE_yes {E : Nat → Nat → Prop} {y z : Nat} {l done : List Nat} (h : E y z ∧ y ∉ done) : cntE E (y :: l) done z = 1 + cntE E l done z := by
  rw [cntE, if_pos h]
theorem cntE_no {E : Nat → Nat → Prop} {y z : Nat} {l done : List Nat} (h : ¬ (E y z ∧ y ∉ done)) : cntE E (y :: l) done z = cntE E l done z := by
  rw [cntE, if_neg h]
  omega
theorem cntE_zero {E : Nat → Nat → Prop} {done : List Nat} {z : Nat} : ∀ {l : List Nat}, cntE E l done z = 0 ↔ ∀ y ∈ l, E y z → y ∈ done
  | [] => ⟨fun _ y hy => by simp at hy, fun _ => rfl⟩
  | y :: l => by
    have ih := cntE_zero (E := E) (done := done) (z := z) (l := l)
    by_cases h : E y z ∧ y ∉ done
    · rw [cntE_yes h]
      exact ⟨fun e => by omega, fun e => absurd (e y (by simp) h.1) h.2⟩
    · rw [cntE_no h, ih]
      constructor
      · intro g w hw e
        rcases List.mem_cons.mp hw with rfl | hw
        · exact Classical.byContradiction fun n => h ⟨e, n⟩
        · exact g w hw e
      · intro g w hw e
        exact g w (by simp [hw]) e
theorem cntE_same {E : Nat → Nat → Prop} {done : List Nat} {x z : Nat} : ∀ l : List Nat, x ∉ l → cntE E l (done ++ [x]) z = cntE E l done z
  | [], _ => rfl
  | y :: l, hx => by
    have ih := cntE_same (E := E) (done := done) (x := x) (z := z) l (fun h => hx (by simp [h]))
    have hyx : y ≠ x := fun e => hx (by simp [e])
    by_cases h : E y z ∧ y ∉ done
    · rw [cntE_yes h, cntE_yes ⟨h.1, fun m => by rcases List.mem_append.mp m with m | m; exact h.2 m; exact hyx (List.mem_singleton.mp m)⟩, ih]
    · rw [cntE_no h, cntE_no (fun g => h ⟨g.1, fun m => g.2 (by simp [m])⟩), ih]
theorem cntE_done {E : Nat → Nat → Prop} {done : List Nat} {x z : Nat} (hd : x ∉ done) : ∀ l : List Nat, l.Nodup → x ∈ l → (E x z → cntE E l done z = cntE E l (done ++ [x]) z + 1) ∧ (¬ E x z → cntE E l done z = cntE E l (done ++ [x]) z)
  | [], _, h => by simp at h
  | y :: l, nd, h => by
    rw [List.nodup_cons] at nd
    by_cases e : y = x
    · subst e
      have h1 := cntE_same (E := E) (done := done) (x := y) (z := z) l nd.1
      rw [cntE_no (done := done ++ [y]) (fun g => g.2 (by simp)), h1]
      constructor
      · intro he
        rw [cntE_yes ⟨he, hd⟩]
        omega
      · intro he
        rw [cntE_no (fun g => he g.1)]
    · have hl : x ∈ l := (List.mem_cons.mp h).resolve_left (fun z => e z.symm)
      obtain ⟨i1, i2⟩ := cntE_done hd l nd.2 hl
      by_cases g : E y z ∧ y ∉ done
      · rw [cntE_yes g, cntE_yes (done := done ++ [x]) ⟨g.1, fun m => by rcases List.mem_append.mp m with m | m; exact g.2 m; exact e (List.mem_singleton.mp m)⟩]
        constructor
        · intro he
          rw [i1 he]
          omega
        · intro he
          rw [i2 he]
      · rw [cntE_no g, cntE_no (done := done ++ [x]) (fun w => g ⟨w.1, fun m => w.2 (by simp [m])⟩)]
        exact ⟨i1, i2⟩
theorem cntE_nil {E : Nat → Nat → Prop} {done : List Nat} {z : Nat} : cntE E [] done z = 0 := rfl
theorem cntE_snoc {E : Nat → Nat → Prop} {x z : Nat} : ∀ {l : List Nat}, (E x z → cntE E (l ++ [x]) [] z = cntE E l [] z + 1) ∧ (¬ E x z → cntE E (l ++ [x]) [] z = cntE E l [] z)
  | [] => ⟨fun h => cntE_yes ⟨h, List.not_mem_nil⟩, fun h => cntE_no (fun g => h g.1)⟩
  | y :: l => by
    obtain ⟨i1, i2⟩ := cntE_snoc (E := E) (x := x) (z := z) (l := l)
    by_cases g : E y z ∧ y ∉ ([] : List Nat)
    · rw [List.cons_append, cntE_yes g, cntE_yes g]
      exact ⟨fun h => by rw [i1 h]; omega, fun h => by rw [i2 h]⟩
    · rw [List.cons_append, cntE_no g, cntE_no g]
      exact ⟨i1, i2⟩
theorem given_nats {ns : List Nat} {g : Nat → Bool} : given (natsV ns).length (fun k => g (ns.getD k 0)) (fun k => V.int ((ns.getD k 0 : Nat) : Int)) = natsV (ns.filter g) := by
  have e0 : ns = (List.range ns.length).map fun k => ns.getD k 0 := by
    apply List.ext_getElem?
    intro n
    by_cases hn : n < ns.length
    · rw [List.getElem?_map, List.getElem?_eq_getElem hn, List.getElem?_range hn]
      simp [List.getD_eq_getElem?_getD, List.getElem?_eq_getElem hn]
    · rw [List.getElem?_eq_none_iff.mpr (by omega), List.getElem?_eq_none_iff.mpr (by simp; omega)]
  unfold given natsV
  rw [List.length_map]
  conv => rhs; rw [e0]
  rw [List.filter_map, List.map_map]
  rfl
/-- an order in which all that goes to a row stands before it -/
structure Topo (E : Nat → Nat → Prop) (ks F : List Nat) : Prop where
  nd : F.Nodup
  sub : ∀ z ∈ F, z ∈ ks
  pre : ∀ (k z : Nat), F[k]? = some z → ∀ y ∈ ks, E y z → ∃ k' < k, F[k']? = some y
def sp_sk_order (K : PySem.W.Frag) : Sp := fun vs H Q _ => ∃ (q : Addr) (P : List Row) (b : Int) (i o : Nat) (ms ks : List Nat) (par : Nat → Nat), vs = [.ref q] ∧ SkAt K H q P b i o ms ks par ∧ WF P ∧
  ∀ (l : Addr) (F : List Nat) (H' : Hp), Same H H' → H' l = some (.lst (natsV F)) → H l = none → Topo (Ed P b o) ks F → (∀ z ∈ ks, z ∉ F → ∃ y ∈ ks, Ed P b o y z ∧ y ∉ F) → Q (.ref l) H'
theorem sc_Seeker_in_order : FnScope ["self", "left", "row", "following", "found", "at"] ["self"] (defScope s_Seeker_in_order) := ⟨rfl, rfl, rfl, by decide +kernel, rfl, by decide +kernel, by decide +kernel⟩
theorem ok_Seeker_in_order {P : Program} {w : World} {K : PySem.W.Frag} {mg : Str → Option Value} {base : Heap} (T : Tx K mg) : Ok P w K mg base CX0 2 259 ["self"] (sp_sk_order K) := by
  refine ok0 1 (f_Seeker_in_order T) sc_Seeker_in_order (fun _ _ _ _ _ _ us hl => match us, hl with | [_], _ => rfl) (fun vs H Q E h => ?_) (fun cdv A outer sh H vs Q E room h => ?_)
  · obtain ⟨q, P, b, i, o, ms, ks, par, rfl, hq, W, k⟩ := h
    rfl
  · obtain ⟨q, P, b, i, o, ms, ks, par, rfl, hq, W, k⟩ := h
    refine ⟨_,     (pss_cons (ps_set (i := 1) sc_Seeker_in_order.nd rfl (Or.inr rfl) pe_dnewK)
        (pss_cons (ps_for PassesOwn.never rfl (pi_listK K (pe_fldK K (pv 0) rfl)) (pg_name (i := 2) sc_Seeker_in_order.nd rfl (Or.inl rfl))
          (pss_one (ps_dput (hu_of room) (pv 1) (pv 2) pe_int rfl)))
        (pss_cons (ps_for PassesOwn.never rfl (pi_listK K (pe_fldK K (pv 0) rfl)) (pg_name (i := 2) sc_Seeker_in_order.nd rfl (Or.inl rfl))
          (pss_one (ps_for PassesOwn.never rfl (pi_listK K (pm (ok_Seeker_behind (K := K) T) (room.mono (by decide)) (c_Seeker T) (m_Seeker_behind T) pass0 (pv 0) (pa_cons (pv 2) pa_nil))) (pg_name (i := 3) sc_Seeker_in_order.nd rfl (Or.inl rfl))
            (pss_one (ps_if (pt_cmp (pc_din (hu_of room) (pv 3) (pv 1)))
              (pss_one (ps_dput (hu_of room) (pv 1) (pv 3) (pe_op op_add (pe_dget (hu_of room) (pv 1) (pv 3) (fun _ _ => rfl)) pe_int) rfl)) pss_nil)))))
        (pss_cons (ps_setLc (i := 4) (own := [("row", 2)]) rfl sc_Seeker_in_order.nd rfl rfl (sw_true rfl rfl rfl (by decide +kernel)) (pi_listK K (pe_fldK K (pv 0) rfl)) (blkOk_by (N := ["self", "left", "row", "following", "found", "at"]) (sc := defScope s_Seeker_in_order) (by decide +kernel)) (fun _ _ _ _ _ => (pg_name (i := 2) sc_Seeker_in_order.nd rfl (Or.inl rfl))) (fun _ _ _ _ _ => (pts_one (pt_cmpR op_eq (pe_dget (hu_of room) (pv 1) (pv 2) (fun _ _ => rfl)) pe_int (nomark _)))) (fun _ _ _ _ _ => (pv 2)))
        (pss_cons (ps_set (i := 5) sc_Seeker_in_order.nd rfl (Or.inl rfl) pe_int)
        (pss_cons (ps_while PassesOwn.never (pt_cmpR op_lt (pv 5) (pe_callB (call_lenK K) (by rfl) (n_len T) (by decide +kernel) (pa_cons (pv 4) pa_nil)) (nomark _))
          (pss_cons (ps_for PassesOwn.never rfl (pi_listK K (pm (ok_Seeker_behind (K := K) T) (room.mono (by decide)) (c_Seeker T) (m_Seeker_behind T) pass0 (pv 0) (pa_cons (pe_ix (ix_listK K) (pv 4) (pv 5) (fun _ _ => rfl)) pa_nil))) (pg_name (i := 3) sc_Seeker_in_order.nd rfl (Or.inl rfl))
            (pss_one (ps_if (pt_cmp (pc_din (hu_of room) (pv 3) (pv 1)))
              (pss_cons (ps_dput (hu_of room) (pv 1) (pv 3) (pe_op op_sub (pe_dget (hu_of room) (pv 1) (pv 3) (fun _ _ => rfl)) pe_int) rfl)
              (pss_one (ps_if (pt_cmpR op_eq (pe_dget (hu_of room) (pv 1) (pv 3) (fun _ _ => rfl)) pe_int (nomark _))
                (pss_one (ps_expr (pe_bmK K PySem.F.plainAttrs_list PySem.F.slot_list_append PySem.F.type_list_append mt_append (pv 4) (pa_cons (pv 3) pa_nil)))) pss_nil))) pss_nil)))
          (pss_one (ps_set (i := 5) sc_Seeker_in_order.nd rfl (Or.inl rfl) (pe_op op_add (pv 5) pe_int)))))
        (pss_one (ps_ret (pv 4))))))))), ?_⟩
    show (_ : TS) _ [_, none, none, none, none, none] _
    obtain ⟨dx, sl, wl, md, kl, hp, hst, _, _, hkl⟩ := hq.ob
    have hz := W.len
    have hkn := nodup_len _ ks hq.knd fun x hx => hq.klt hx
    fail "bm_go"
    intro d nd
    have s0 := same_new (o := .dK []) nd
    have h0 : DN (upd H d (.dK [])) d [] (fun _ => 0) := ⟨[], fun _ => none, upd_same, DI.nil, fun j => by simp⟩
    revert s0 h0
    generalize upd H d (.dK []) = H0
    intro s0 h0
    have hp0 := s0 _ _ hp
    have hkl0 := s0 _ _ hkl
    have nkd : kl ≠ d := fun z => by rw [z, nd] at hkl; cases hkl
    fail "bm_go"
    refine forL (xs := natsV ks) (fun n σ H' => ∃ o2 ls, σ = [some (.ref q), some (.ref d), o2, none, none, none] ∧ Chg d H0 H' ∧ DN H' d ls (fun _ => 0) ∧ (∀ z, z ∈ ls ↔ z ∈ ks.take n) ∧ ls.length ≤ n)
      (SqL.of hkl0) ⟨none, [], rfl, Chg.refl, h0, by simp, by simp⟩ (fun n σ' H' _ p => ?_) (fun n v σ' H' hv p => ?_) (fun σ' H1 p => ?_)
    · obtain ⟨_, _, _, c, _⟩ := p
      exact SqL.of (c.kp _ _ nkd hkl0)
    · obtain ⟨o2, ls, rfl, c, hD, hm, hl⟩ := p
      obtain ⟨x, hx, rfl⟩ := nats_item hv
      have hnw := (List.getElem?_eq_some_iff.mp hx).1
      fail "bm_go"
      refine r_dnPut hD (by omega) fun H4 c4 hD4 => ?_
      have e4 : (fun j => if j = x then (0 : Int) else 0) = fun _ => 0 := by
        funext j
        split <;> rfl
      rw [e4] at hD4
      refine ⟨_, addK ls x, rfl, c.trans c4, hD4, fun z => ?_, ?_⟩
      · rw [mem_addK, hm, List.take_add_one, hx, List.mem_append]
        simp
      · unfold addK
        split <;> (try simp) <;> omega
    obtain ⟨o2, ls, rfl, c1, hD1, hm1, hl1⟩ := p
    rw [nats_len] at hm1 hl1
    rw [List.take_length] at hm1
    have hkl1 := c1.kp _ _ nkd hkl0
    have out : ∀ {H'}, Chg d H0 H' → Same H H' := fun c => c.out s0 nd
    have hp1 := out c1 _ _ hp
    fail "bm_go"
    refine forL (xs := natsV ks) (fun n σ H' => ∃ o2 o3 val ls, σ = [some (.ref q), some (.ref d), o2, o3, none, none] ∧ Chg d H0 H' ∧ DN H' d ls val ∧ (∀ z, z ∈ ls ↔ z ∈ ks) ∧ ls.length ≤ ks.length ∧ ∀ z ∈ ks, val z = (cntE (Ed P b o) (ks.take n) [] z : Nat))
      (SqL.of hkl1) ⟨_, none, _, ls, rfl, c1, hD1, hm1, hl1, fun z _ => by rw [List.take_zero, cntE_nil]; rfl⟩ (fun n σ' H' _ p => ?_) (fun n v σ' H' hv p => ?_) (fun σ' H2 p => ?_)
    · obtain ⟨_, _, _, _, _, c, _⟩ := p
      exact SqL.of (c.kp _ _ nkd hkl0)
    · obtain ⟨o2, o3, val, ls, rfl, c, hD, hm, hl, hval⟩ := p
      obtain ⟨x, hx, rfl⟩ := nats_item hv
      have hxm := List.mem_of_getElem? hx
      have so := out c
      have hp' := so _ _ hp
      have htk : ks.take (n + 1) = ks.take n ++ [x] := by rw [List.take_add_one, hx]; rfl
      fail "bm_go"
      refine ⟨q, P, b, o, x, rfl, (hq.same so).b, W, hq.klt hxm, fun l ws H3 s3 nl hl3 hmem hnd _ => ?_⟩
      have nld := hD.ne nl
      refine forL (xs := natsV ws) (fun n2 σ H' => ∃ o3 val ls, σ = [some (.ref q), some (.ref d), some (.int (x : Int)), o3, none, none] ∧ Chg d H0 H' ∧ H' l = some (.lst (natsV ws)) ∧ DN H' d ls val ∧ (∀ z, z ∈ ls ↔ z ∈ ks) ∧ ls.length ≤ ks.length ∧ ∀ z ∈ ks, val z = (cntE (Ed P b o) (ks.take n) [] z : Nat) + (if z ∈ ws.take n2 then 1 else 0))
        (SqL.of hl3) ⟨o3, val, ls, rfl, c.step s3, hl3, hD.same s3, hm, hl, fun z hz => by rw [hval z hz]; simp⟩ (fun n2 σ' H' _ p => ?_) (fun n2 v σ' H' hv p => ?_) (fun σ' H4 p => ?_)
      · obtain ⟨_, _, _, _, _, h, _⟩ := p
        exact SqL.of h
      · obtain ⟨o3, val, ls, rfl, c4, hl4, hD4, hm4, hle4, hval4⟩ := p
        obtain ⟨y, hy, rfl⟩ := nats_item hv
        have hytk : ws.take (n2 + 1) = ws.take n2 ++ [y] := by rw [List.take_add_one, hy]; rfl
        have hyn : y ∉ ws.take n2 := nodup_take hnd hy
        fail "bm_go"
        refine r_dnIn hD4 ?_
        by_cases hyk : y ∈ ls
        · rw [if_pos hyk]
          fail "bm_go"
          refine r_dnGet hD4 hyk ?_
          fail "bm_go"
          refine r_dnPut hD4 (by omega) fun H5 c5 hD5 => ?_
          rw [if_pos hyk] at hD5
          refine ⟨_, _, ls, rfl, c4.trans c5, c5.kp _ _ nld hl4, hD5, hm4, hle4, fun z hz => ?_⟩
          show (if z = y then val y + 1 else val z) = _
          rw [hytk]
          by_cases e : z = y
          · subst e
            rw [if_pos rfl, hval4 z hz, if_neg hyn, if_pos (by simp)]
            omega
          · rw [if_neg e, hval4 z hz]
            simp [e]
        · rw [if_neg hyk]
          fail "bm_go"
          refine ⟨_, val, ls, rfl, c4, hl4, hD4, hm4, hle4, fun z hz => ?_⟩
          have e : z ≠ y := fun e => hyk ((hm4 y).mpr (by rw [← e]; exact hz))
          rw [hval4 z hz, hytk]
          simp [e]
      · obtain ⟨o3, val, ls, rfl, c4, hl4, hD4, hm4, hle4, hval4⟩ := p
        rw [nats_len, List.take_length] at hval4
        fail "bm_go"
        refine ⟨_, _, val, ls, rfl, c4, hD4, hm4, hle4, fun z hz => ?_⟩
        rw [hval4 z hz, htk]
        obtain ⟨g1, g2⟩ := cntE_snoc (E := Ed P b o) (l := ks.take n) (x := x) (z := z)
        by_cases e : Ed P b o x z
        · rw [g1 e, if_pos ((hmem z).mpr e)]
          omega
        · rw [g2 e, if_neg (fun h => e ((hmem z).mp h))]
          omega
    obtain ⟨o2, o3, val, ls, rfl, c2, hD2, hm2, hl2, hval2⟩ := p
    rw [nats_len, List.take_length] at hval2
    have hkl2 := c2.kp _ _ nkd hkl0
    have hp2 := out c2 _ _ hp
    fail "bm_go"
    have hkin : ∀ j : Nat, j ∈ ks → j ∈ ls := fun j hj => (hm2 j).mpr hj
    refine lcL_f (xs := natsV ks) (fun n => decide (V.int (val (ks.getD n 0)) = V.int 0)) (fun n => V.int ((ks.getD n 0 : Nat) : Int)) (SqL.of hkl2) (by rw [nats_len]; omega) (fun n x H3 hx s3 R R0 q1 q0 => ?_) (fun fl H3 nf s3 hfl => ?_)
    · obtain ⟨j, hj, rfl⟩ := nats_item hx
      have ej : ks.getD n 0 = j := by rw [List.getD_eq_getElem?_getD, hj]; rfl
      rw [ej] at q1 q0
      fail "bm_turn"
      fail "bm_go"
      refine r_dnGet (hD2.same s3) (hkin j (List.mem_of_getElem? hj)) ?_
      fail "bm_go"
      refine r_ifB (fun h => ?_) (fun h => ?_)
      · fail "bm_go"
        exact q1 h _ (Same.refl _)
      · exact q0 h _ (Same.refl _)
    rw [given_nats (g := fun j => decide (V.int (val j) = V.int 0))] at hfl
    have hD3 := hD2.same s3
    have nf0 : H fl = none := (out c2).free nf
    have ndf : d ≠ fl := (hD2.ne nf).symm
    have s03 : Same H H3 := (out c2).trans s3
    have hz0 : ∀ z : Nat, decide (V.int (val z) = V.int 0) = true ↔ val z = 0 := fun z => by
      rw [decide_eq_true_iff]
      exact ⟨fun e => V.int.inj e, fun e => by rw [e]⟩
    have nd2 : H2 d ≠ none := fun z => by
      obtain ⟨_, _, h, _⟩ := hD2
      rw [h] at z
      cases z
    have out3 : ∀ {H'}, Chs [d, fl] H3 H' → (∀ a u, a ≠ d → H a = some u → H' a = some u) := fun c a u n h => c.kp a u (fun m => by
      simp only [List.mem_cons, List.not_mem_nil, or_false] at m
      rcases m with m | m
      · exact n m
      · rw [m, nf0] at h
        cases h) (s03 _ _ h)
    have sout : ∀ {H'}, Chs [d, fl] H3 H' → Same H H' := fun c a u h => out3 c a u (fun e => by rw [e, nd] at h; cases h) h
    have hF0 : ∀ z, z ∈ ks.filter (fun j => decide (V.int (val j) = V.int 0)) ↔ z ∈ ks ∧ val z = 0 := fun z => by rw [List.mem_filter, hz0]
    fail "bm_go"
    refine ⟨fun m σ H' => ∃ o2 o3 val F n, σ = [some (.ref q), some (.ref d), o2, o3, some (.ref fl), some (.int ((n : Nat) : Int))] ∧ Chs [d, fl] H3 H' ∧ DN H' d ls val ∧ H' fl = some (.lst (natsV F)) ∧ Topo (Ed P b o) ks F ∧ (∀ z ∈ ks, val z = (cntE (Ed P b o) ks (F.take n) z : Nat)) ∧ (∀ z, z ∈ F ↔ z ∈ ks ∧ val z = 0) ∧ n ≤ F.length ∧ m + n = P.length + 1,
      ⟨P.length + 1, o2, o3, val, _, 0, rfl, Chs.refl, hD3, hfl, ⟨hq.knd.filter _, fun z hz => ((hF0 z).mp hz).1, fun n z hz y hy e => ?_⟩, fun z hz => by rw [hval2 z hz, List.take_zero], hF0, by omega, by omega⟩, fun m σ H' p => ?_⟩
    · obtain ⟨h1, h2⟩ := (hF0 z).mp (List.mem_of_getElem? hz)
      rw [hval2 z h1] at h2
      have := cntE_zero.mp (show cntE (Ed P b o) ks [] z = 0 by omega) y hy e
      simp at this
    · obtain ⟨o2, o3, val, F, n, rfl, c, hD, hf, hT, hval, hFm, hn, hmn⟩ := p
      have hFl := nodup_len _ F hT.nd fun z hz => hq.klt (hT.sub z hz)
      have so := sout c
      have hp' := so _ _ hp
      fail "bm_go"
      rw [nats_len]
      refine r_ifD (fun hlt => ?_) (fun hlt => ?_)
      · have hlt : n < F.length := by omega
        obtain ⟨x, hx⟩ : ∃ x, F[n]? = some x := ⟨_, List.getElem?_eq_getElem hlt⟩
        have hxm := hT.sub x (List.mem_of_getElem? hx)
        have ix := nats_at hx
        have hxd : x ∉ F.take n := nodup_take hT.nd hx
        refine ⟨fun σ' H' => ∃ m', m' < m ∧ _, fun _ _ h => h, ?_⟩
        fail "bm_go"
        refine ⟨q, P, b, o, x, rfl, (hq.same so).b, W, hq.klt hxm, fun l ws H4 s4 nl hl hmem hnd _ => ?_⟩
        have nld := hD.ne nl
        have nlf : l ≠ fl := fun z => by rw [z, hf] at nl; cases nl
        refine forL (xs := natsV ws) (fun n2 σ H' => ∃ o3 val F, σ = [some (.ref q), some (.ref d), o2, o3, some (.ref fl), some (.int ((n : Nat) : Int))] ∧ Chs [d, fl] H3 H' ∧ H' l = some (.lst (natsV ws)) ∧ DN H' d ls val ∧ H' fl = some (.lst (natsV F)) ∧ Topo (Ed P b o) ks F ∧ F[n]? = some x ∧ (∀ z ∈ ks, val z = (cntE (Ed P b o) ks (F.take n) z : Nat) - (if z ∈ ws.take n2 then 1 else 0)) ∧ ∀ z, z ∈ F ↔ z ∈ ks ∧ val z = 0)
          (SqL.of hl) ⟨o3, val, F, rfl, c.step s4, hl, hD.same s4, s4 _ _ hf, hT, hx, fun z hz => by rw [hval z hz]; simp, hFm⟩ (fun n2 σ' H' _ p => ?_) (fun n2 v σ' H' hv p => ?_) (fun σ' H5 p => ?_)
        · obtain ⟨_, _, _, _, _, h, _⟩ := p
          exact SqL.of h
        · obtain ⟨o3, val5, F5, rfl, c5, hl5, hD5, hf5, hT5, hx5, hval5, hFm5⟩ := p
          obtain ⟨y, hy, rfl⟩ := nats_item hv
          have hE := (hmem y).mp (List.mem_of_getElem? hy)
          have hytk : ws.take (n2 + 1) = ws.take n2 ++ [y] := by rw [List.take_add_one, hy]; rfl
          have hyn : y ∉ ws.take n2 := nodup_take hnd hy
          have hx5l := (List.getElem?_eq_some_iff.mp hx5).1
          have hxd5 : x ∉ F5.take n := nodup_take hT5.nd hx5
          have hFl5 := nodup_len _ F5 hT5.nd fun z hz => hq.klt (hT5.sub z hz)
          have hxt : F5.take (n + 1) = F5.take n ++ [x] := by rw [List.take_add_one, hx5]; rfl
          fail "bm_go"
          refine r_dnIn hD5 ?_
          by_cases hyl : y ∈ ls
          · have hyk := (hm2 y).mp hyl
            rw [if_pos hyl]
            have g1 := (cntE_done (E := Ed P b o) (z := y) hxd5 ks hq.knd hxm).1 hE
            have vy := hval5 y hyk
            rw [if_neg hyn] at vy
            have hyF : y ∉ F5 := fun h => by
              have := ((hFm5 y).mp h).2
              omega
            fail "bm_go"
            refine r_dnGet hD5 hyl ?_
            fail "bm_go"
            refine r_dnPut hD5 (by omega) fun H6 c6 hD6 => ?_
            rw [if_pos hyl] at hD6
            have hl6 := c6.kp _ _ nld hl5
            have hf6 := c6.kp _ _ ndf.symm hf5
            have hval6 : ∀ z ∈ ks, (if z = y then val5 y - 1 else val5 z) = (cntE (Ed P b o) ks (F5.take n) z : Nat) - (if z ∈ ws.take (n2 + 1) then 1 else 0) := fun z hz => by
              rw [hytk]
              by_cases e : z = y
              · subst e
                rw [if_pos rfl, if_pos (by simp), vy]
                omega
              · rw [if_neg e, hval5 z hz]
                simp [e]
            fail "bm_go"
            refine r_dnGet hD6 hyl ?_
            fail "bm_go"
            refine r_ifD (fun h0 => ?_) (fun h0 => ?_)
            · have h0 : val5 y - 1 = 0 := by
                have := V.int.inj h0
                rw [if_pos rfl] at this
                exact this
              have hpre := cntE_zero.mp (show cntE (Ed P b o) ks (F5.take n ++ [x]) y = 0 by omega)
              fail "bm_go"
              refine r_appN hf6 (by omega) fun H7 c7 hf7 => ?_
              refine ⟨_, _, F5 ++ [y], rfl, (c5.chg (by simp) c6).chg (by simp) c7, c7.kp _ _ nlf hl6, hD6.at_ (fun u h => c7.kp _ _ ndf h), hf7, ⟨?_, fun z hz => ?_, fun k z hk w hw ew => ?_⟩, ?_, fun z hz => ?_, fun z => ?_⟩
              · rw [List.nodup_append]
                exact ⟨hT5.nd, List.nodup_cons.mpr ⟨List.not_mem_nil, List.nodup_nil⟩, fun a ha c hc e => hyF (by rw [← (List.mem_singleton.mp hc : c = y), ← e]; exact ha)⟩
              · rcases List.mem_append.mp hz with hz | hz
                · exact hT5.sub z hz
                · rw [List.mem_singleton.mp hz]
                  exact hyk
              · by_cases hk2 : k < F5.length
                · rw [List.getElem?_append_left hk2] at hk
                  obtain ⟨k', h1, h2⟩ := hT5.pre k z hk w hw ew
                  exact ⟨k', h1, by rw [List.getElem?_append_left (by omega)]; exact h2⟩
                · have hk3 := (List.getElem?_eq_some_iff.mp hk).1
                  have e : k = F5.length := by simp at hk3; omega
                  subst e
                  have ezy : y = z := by simpa using hk
                  subst ezy
                  have hin := hpre w hw ew
                  rw [← hxt] at hin
                  obtain ⟨k', hk'⟩ := List.getElem?_of_mem hin
                  have hk4 := (List.getElem?_eq_some_iff.mp hk').1
                  rw [List.length_take] at hk4
                  refine ⟨k', by omega, ?_⟩
                  rw [List.getElem?_append_left (by omega)]
                  rw [List.getElem?_take_of_lt (by omega)] at hk'
                  exact hk'
              · rw [List.getElem?_append_left hx5l]
                exact hx5
              · rw [List.take_append_of_le_length (by omega)]
                exact hval6 z hz
              · rw [List.mem_append, List.mem_singleton, hFm5]
                show _ ↔ z ∈ ks ∧ (if z = y then val5 y - 1 else val5 z) = 0
                by_cases e : z = y
                · subst e
                  rw [if_pos rfl]
                  exact ⟨fun _ => ⟨hyk, h0⟩, fun _ => .inr rfl⟩
                · rw [if_neg e]
                  exact ⟨fun h => h.resolve_right e, .inl⟩
            · have h0 : val5 y - 1 ≠ 0 := fun z => h0 (by rw [if_pos rfl, z])
              fail "bm_go"
              refine ⟨_, _, F5, rfl, c5.chg (by simp) c6, hl6, hD6, hf6, hT5, hx5, hval6, fun z => ?_⟩
              rw [hFm5]
              show _ ↔ z ∈ ks ∧ (if z = y then val5 y - 1 else val5 z) = 0
              by_cases e : z = y
              · subst e
                rw [if_pos rfl]
                exact ⟨fun h => absurd ((hFm5 z).mpr h) hyF, fun h => absurd h.2 h0⟩
              · rw [if_neg e]
          · rw [if_neg hyl]
            fail "bm_go"
            refine ⟨_, val5, F5, rfl, c5, hl5, hD5, hf5, hT5, hx5, fun z hz => ?_, hFm5⟩
            have e : z ≠ y := fun e => hyl ((hm2 y).mpr (by rw [← e]; exact hz))
            rw [hval5 z hz, hytk]
            simp [e]
        · obtain ⟨o3, val5, F5, rfl, c5, hl5, hD5, hf5, hT5, hx5, hval5, hFm5⟩ := p
          rw [nats_len, List.take_length] at hval5
          have hx5l := (List.getElem?_eq_some_iff.mp hx5).1
          have hxd5 : x ∉ F5.take n := nodup_take hT5.nd hx5
          fail "bm_go"
          refine ⟨m - 1, by omega, o2, _, val5, F5, n + 1, rfl, c5, hD5, hf5, hT5, fun z hz => ?_, hFm5, by omega, by omega⟩
          rw [hval5 z hz, List.take_add_one, hx5]
          obtain ⟨g1, g2⟩ := cntE_done (E := Ed P b o) (z := z) hxd5 ks hq.knd hxm
          by_cases e : Ed P b o x z
          · rw [g1 e, if_pos ((hmem z).mpr e)]
            show ((cntE (Ed P b o) ks (F5.take n ++ [x]) z + 1 : Nat) : Int) - 1 = (cntE (Ed P b o) ks (F5.take n ++ [x]) z : Nat)
            omega
          · rw [g2 e, if_neg (fun h => e ((hmem z).mp h))]
            show ((cntE (Ed P b o) ks (F5.take n ++ [x]) z : Nat) : Int) - 0 = (cntE (Ed P b o) ks (F5.take n ++ [x]) z : Nat)
            omega
      · have e : n = F.length := by omega
        rw [e, List.take_length] at hval
        fail "bm_go"
        refine k fl F H' so hf nf0 hT fun z hz hzF => ?_
        refine Classical.byContradiction fun hno => hzF ((hFm z).mpr ⟨hz, ?_⟩)
        rw [hval z hz]
        have := (cntE_zero (E := Ed P b o) (done := F) (z := z) (l := ks)).mpr fun y hy ey => Classical.byContradiction fun hn => hno ⟨y, hy, ey, hn⟩
        omega
end
section
/-! ## B7: most, high_paper, span -/
local macro_rules | `(tactic| fail "bm_go1") => `(tactic| first
  | ((with_reducible apply r_fldE); fail "bm_hp"; fail "bm_cls"; fail "bm_na"; (first | assumption | fail "bm_lk" | kernel_rfl))
  | ((with_reducible apply r_methE); fail "bm_hp"; (first | assumption | kernel_rfl))
  | with_reducible refine r_un ?_
  | with_reducible refine r_uI ?_
  | with_reducible refine r_lrev ?_
  | with_reducible refine r_trev ?_)
theorem Rch.cases_tail {E : Nat → Nat → Prop} {a c : Nat} (h : Rch E a c) : a = c ∨ ∃ b, Rch E a b ∧ E b c := by
  cases h with
  | refl => exact .inl rfl
  | tail h e => exact .inr ⟨_, h, e⟩
theorem Rch.cases_head {E : Nat → Nat → Prop} {a c : Nat} (h : Rch E a c) : a = c ∨ ∃ b, E a b ∧ Rch E b c := by
  induction h with
  | refl => exact .inl rfl
  | tail h e ih =>
    rcases ih with rfl | ⟨b, h1, h2⟩
    · exact .inr ⟨_, e, .refl _⟩
    · exact .inr ⟨b, h1, .tail h2 e⟩

open Classical in
noncomputable def anc (E : Nat → Nat → Prop) (x : Nat) : List Nat → Nat
  | [] => 0
  | y :: l => (if ∃ z, E y z ∧ Rch E z x then 1 else 0) + anc E x l
theorem anc_le {E : Nat → Nat → Prop} {x y : Nat} (e : E y x) : ∀ l : List Nat, anc E y l ≤ anc E x l
  | [] => Nat.le_refl _
  | w :: l => by
    have ih := anc_le e l
    rw [anc, anc]
    by_cases h : ∃ z, E w z ∧ Rch E z y
    · obtain ⟨z, h1, h2⟩ := h
      rw [if_pos ⟨z, h1, h2⟩, if_pos ⟨z, h1, .tail h2 e⟩]
      omega
    · rw [if_neg h]
      split <;> omega
theorem anc_lt {E : Nat → Nat → Prop} {x y : Nat} (e : E y x) (no : ¬ ∃ z, E y z ∧ Rch E z y) : ∀ l : List Nat, y ∈ l → anc E y l < anc E x l
  | [], h => by simp at h
  | w :: l, h => by
    have le := anc_le e l
    rw [anc, anc]
    by_cases hw : w = y
    · subst hw
      rw [if_neg no, if_pos ⟨x, e, .refl _⟩]
      omega
    · have ih := anc_lt e no l ((List.mem_cons.mp h).resolve_left fun z => hw z.symm)
      by_cases h : ∃ z, E w z ∧ Rch E z y
      · obtain ⟨z, h1, h2⟩ := h
        rw [if_pos ⟨z, h1, h2⟩, if_pos ⟨z, h1, .tail h2 e⟩]
        omega
      · rw [if_neg h]
        split <;> omega
/-- without a round the order has all -/
theorem all_in {E : Nat → Nat → Prop} {ks F : List Nat} (no : ∀ x ∈ ks, ¬ ∃ z, E x z ∧ Rch E z x) (h : ∀ z ∈ ks, z ∉ F → ∃ y ∈ ks, E y z ∧ y ∉ F) : ∀ (n z : Nat), anc E z ks = n → z ∈ ks → z ∈ F := by
  intro n
  induction n using Nat.strongRecOn with
  | _ n ih =>
    intro z hn hz
    refine Classical.byContradiction fun hF => ?_
    obtain ⟨y, hy, e, hyF⟩ := h z hz hF
    have := anc_lt e (no y hy) ks hy
    exact hyF (ih _ (by omega) y rfl hy)
/-- the most beats, of the rows done -/
structure MB (P : List Row) (b : Int) (o i : Nat) (ks F : List Nat) (n : Nat) (bs : List Nat) (val : Nat → Int) (as : List Nat) (pa : Nat → Nat) : Prop where
  nd : bs.Nodup
  sub : ∀ x ∈ bs, x ∈ ks
  im : i ∈ bs
  v0 : val i = 0
  nn : ∀ x ∈ bs, 0 ≤ val x
  am : ∀ x, x ∈ as ↔ x ∈ bs ∧ x ≠ i
  asnd : as.Nodup
  done : ∀ x ∈ F.take n, ∀ y ∈ ks, Ed P b o x y → y ∈ bs ∧ ∀ lo hi, Edge P b x y lo hi → val x + hi ≤ val y
  up : ∀ x ∈ as, Ed P b o (pa x) x ∧ pa x ∈ bs
def sp_sk_most (K : PySem.W.Frag) : Sp := fun vs H Q _ => ∃ (q : Addr) (P : List Row) (b : Int) (i o : Nat) (ms ks : List Nat) (par : Nat → Nat), vs = [.ref q] ∧ SkAt K H q P b i o ms ks par ∧ WF P ∧ Rch (Ed P b o) i o ∧ (∀ x ∈ ks, ¬ OnRound P b o x) ∧
  ∀ (t d1 d2 : Addr) (F bs as : List Nat) (val : Nat → Int) (pa : Nat → Nat) (H' : Hp), Same H H' → SqT K H' t [.ref d1, .ref d2] → DN H' d1 bs val → DN H' d2 as (fun j => ((pa j : Nat) : Int)) → Topo (Ed P b o) ks F → (∀ z ∈ ks, z ∈ F) → MB P b o i ks F F.length bs val as pa → Q (.ref t) H'
/-- the row that is next has its beats -/
theorem MB.here {P : List Row} {b : Int} {o i : Nat} {ks F : List Nat} {n x : Nat} {bs : List Nat} {val : Nat → Int} {as : List Nat} {pa : Nat → Nat} (h : MB P b o i ks F n bs val as pa) (T : Topo (Ed P b o) ks F) (hx : F[n]? = some x) (hk : ∀ x, x ∈ ks ↔ Rch (Ed P b o) i x ∧ Rch (Ed P b o) x o) : x ∈ bs := by
  have hxk := T.sub x (List.mem_of_getElem? hx)
  obtain ⟨h1, h2⟩ := (hk x).mp hxk
  rcases h1.cases_tail with rfl | ⟨y, g1, g2⟩
  · exact h.im
  · have hy : y ∈ ks := (hk y).mpr ⟨g1, Rch.head g2 h2⟩
    obtain ⟨k', j1, j2⟩ := T.pre n x hx y hy g2
    refine (h.done y ?_ x hxk g2).1
    exact List.mem_of_getElem? (i := k') (by rw [List.getElem?_take_of_lt j1]; exact j2)
/-- a row's beats set while x, the n-th, is done -/
theorem MB.set {P : List Row} {b : Int} {o i : Nat} {ks F : List Nat} {n x y : Nat} {bs : List Nat} {val : Nat → Int} {as : List Nat} {pa : Nat → Nat} {lo hi : Int} (h : MB P b o i ks F n bs val as pa) (W : WF P) (T : Topo (Ed P b o) ks F) (hx : F[n]? = some x) (hxb : x ∈ bs) (hy : y ∈ ks) (e : Ed P b o x y) (g : Edge P b x y lo hi)
    (hyi : y ≠ i) (hv : y ∈ bs → val y < val x + hi) : MB P b o i ks F n (addK bs y) (fun j => if j = y then val x + hi else val j) (addK as y) (fun j => if j = y then x else pa j) ∧ x ≠ y ∧ y ∉ F.take n := by
  have hxk := T.sub x (List.mem_of_getElem? hx)
  have bd := g.bd W
  have hyn : y ∉ F.take n := fun hm => by
    obtain ⟨k, hk⟩ := List.getElem?_of_mem hm
    have hk2 := (List.getElem?_eq_some_iff.mp hk).1
    rw [List.length_take] at hk2
    rw [List.getElem?_take_of_lt (by omega)] at hk
    obtain ⟨k', j1, j2⟩ := T.pre k y hk x hxk e
    exact nodup_take T.nd hx (List.mem_of_getElem? (i := k') (by rw [List.getElem?_take_of_lt (by omega)]; exact j2))
  have hxy : x ≠ y := fun z => by
    obtain ⟨k', j1, j2⟩ := T.pre n x hx x hxk (by rw [z] at e ⊢; exact e)
    exact nodup_take T.nd hx (List.mem_of_getElem? (i := k') (by rw [List.getElem?_take_of_lt j1]; exact j2))
  have hx0 := h.nn x hxb
  refine ⟨⟨nd_addK h.nd, fun z hz => ?_, mem_addK.mpr (.inl h.im), ?_, fun z hz => ?_, fun z => ?_, nd_addK h.asnd, fun z hz w hw ew => ?_, fun z hz => ?_⟩, hxy, hyn⟩
  · rcases mem_addK.mp hz with hz | rfl
    · exact h.sub z hz
    · exact hy
  · show (if i = y then val x + hi else val i) = 0
    rw [if_neg hyi.symm]
    exact h.v0
  · show 0 ≤ if z = y then val x + hi else val z
    split
    · omega
    · rename_i hne
      exact h.nn z ((mem_addK.mp hz).resolve_right hne)
  · rw [mem_addK, mem_addK, h.am]
    constructor
    · rintro (⟨h1, h2⟩ | rfl)
      · exact ⟨.inl h1, h2⟩
      · exact ⟨.inr rfl, hyi⟩
    · rintro ⟨h1 | h1, h2⟩
      · exact .inl ⟨h1, h2⟩
      · exact .inr h1
  · obtain ⟨h1, h2⟩ := h.done z hz w hw ew
    refine ⟨mem_addK.mpr (.inl h1), fun lo' hi' g' => ?_⟩
    have h3 := h2 lo' hi' g'
    show (if z = y then val x + hi else val z) + hi' ≤ if w = y then val x + hi else val w
    rw [if_neg (fun q => hyn (by rw [← q]; exact hz))]
    split
    · rename_i q
      rw [q] at h1 h3
      have := hv h1
      omega
    · exact h3
  · rcases mem_addK.mp hz with hz | rfl
    · obtain ⟨h1, h2⟩ := h.up z hz
      show Ed P b o (if z = y then x else pa z) z ∧ (if z = y then x else pa z) ∈ addK bs y
      split
      · rename_i q
        rw [q]
        exact ⟨e, mem_addK.mpr (.inl hxb)⟩
      · exact ⟨h1, mem_addK.mpr (.inl h2)⟩
    · show Ed P b o (if z = z then x else pa z) z ∧ (if z = z then x else pa z) ∈ addK bs z
      rw [if_pos rfl]
      exact ⟨e, mem_addK.mpr (.inl hxb)⟩
theorem sc_Seeker_most : FnScope ["self", "beats", "ahead", "row", "following", "pair", "total"] ["self"] (defScope s_Seeker_most) := ⟨rfl, rfl, rfl, by decide +kernel, rfl, by decide +kernel, by decide +kernel⟩
theorem ok_Seeker_most {P : Program} {w : World} {K : PySem.W.Frag} {mg : Str → Option Value} {base : Heap} (T : Tx K mg) : Ok P w K mg base CX0 3 254 ["self"] (sp_sk_most K) := by
  refine ok0 2 (f_Seeker_most T) sc_Seeker_most (fun _ _ _ _ _ _ us hl => match us, hl with | [_], _ => rfl) (fun vs H Q E h => ?_) (fun cdv A outer sh H vs Q E room h => ?_)
  · obtain ⟨q, P, b, i, o, ms, ks, par, rfl, hq, W, hr, hac, k⟩ := h
    rfl
  · obtain ⟨q, P, b, i, o, ms, ks, par, rfl, hq, W, hr, hac, k⟩ := h
    refine ⟨_,     (pss_cons (ps_set (i := 1) sc_Seeker_most.nd rfl (Or.inl rfl) (pe_disp (pps_cons (pe_fldK K (pv 0) rfl) pe_int pps_nil) (by rfl) (by rfl) (fun z => by cases z) (by decide)))
        (pss_cons (ps_set (i := 2) sc_Seeker_most.nd rfl (Or.inl rfl) pe_dnewK)
        (pss_cons (ps_for PassesOwn.never rfl (pi_listK K (pm0 (ok_Seeker_in_order (K := K) T) (room.mono (by decide)) (c_Seeker T) (m_Seeker_in_order T) pass0 (pv 0))) (pg_name (i := 3) sc_Seeker_most.nd rfl (Or.inl rfl))
          (pss_one (ps_for PassesOwn.never rfl (pi_listK K (pm (ok_Seeker_behind (K := K) T) (room.mono (by decide)) (c_Seeker T) (m_Seeker_behind T) pass0 (pv 0) (pa_cons (pv 3) pa_nil))) (pg_name (i := 4) sc_Seeker_most.nd rfl (Or.inl rfl))
            (pss_cons (ps_set (i := 5) sc_Seeker_most.nd rfl (Or.inl rfl) (pe_dget (hu_of room) (pe_ix (ix_listK K) (pe_fldK K (pv 0) rfl) (pv 3) (fun _ _ => rfl)) (pv 4) (fun _ _ => rfl)))
            (pss_cons (ps_set (i := 6) sc_Seeker_most.nd rfl (Or.inl rfl) (pe_op op_add (pe_dget (hu_of room) (pv 1) (pv 3) (fun _ _ => rfl)) (pe_ix (ix_tupK K) (pv 5) (pgi (i_MOST T) rfl) (fun _ _ => rfl))))
            (pss_one (ps_if (PW.pt (pw_and (pt_cmpR (op_inK K) (pv 4) (pe_fldK K (pv 0) rfl) (by rfl)) (pw_and1 (pt_cmpR op_gt (pv 6) (pe_dget2 (hu_of room) (pv 1) (pv 4) (pe_un un_neg pe_int) ⟨rfl, rfl, rfl, rfl⟩) (nomark _)))))
              (pss_cons (ps_dput (hu_of room) (pv 1) (pv 4) (pv 6) rfl)
              (pss_one (ps_dput (hu_of room) (pv 2) (pv 4) (pv 3) rfl))) pss_nil)))))))
        (pss_one (ps_ret (pe_tup (pa_cons (pv 1) (pa_cons (pv 2) pa_nil)))))))), ?_⟩
    show (_ : TS) _ [_, none, none, none, none, none, none] _
    obtain ⟨dx, sl, wl, md, kl, hp, hst, _, _, hkl⟩ := hq.ob
    have hz := W.len
    have hik : i ∈ ks := (hq.kp i).mpr ⟨.refl _, hr⟩
    have hno : ∀ y, Rch (Ed P b o) i y → ¬ Ed P b o y i := fun y h1 h2 => by
      rcases h1.cases_head with rfl | ⟨z, g1, g2⟩
      · exact hac i hik ⟨i, h2, .refl _⟩
      · exact hac i hik ⟨z, g1, .tail g2 h2⟩
    fail "bm_go"
    intro d1 nd1
    have hpa := gN (o := .dK []) nd1 hp
    show tFld K (tVar 0) "one" _ _ _
    fail "bm_go"
    refine ⟨upd_same, [(.inl (i : Int), .int 0)], rfl, by simp, ?_⟩
    rw [upd_upd]
    fail "bm_go"
    intro d2 nd2
    have nd20 : H d2 = none := none_upd nd2
    have n12 : d1 ≠ d2 := (ne_upd nd2).symm
    fail "bm_go"
    have s0 : Same H (upd (upd H d1 (.dK (mergeK [] [(.inl (i : Int), V.int 0)]))) d2 (.dK [])) := same_mut (same_new nd1) nd20
    have h1 : DN (upd (upd H d1 (.dK (mergeK [] [(.inl (i : Int), V.int 0)]))) d2 (.dK [])) d1 [i] (fun _ => 0) := DN.new i 0 (gD n12 upd_same)
    have h2 : DN (upd (upd H d1 (.dK (mergeK [] [(.inl (i : Int), V.int 0)]))) d2 (.dK [])) d2 [] (fun j => (((fun _ => 0 : Nat → Nat) j : Nat) : Int)) := ⟨[], fun _ => none, upd_same, DI.nil, fun j => by simp⟩
    revert s0 h1 h2
    generalize upd (upd H d1 (.dK (mergeK [] [(.inl (i : Int), V.int 0)]))) d2 (.dK []) = H0
    intro s0 h1 h2
    have hp0 := s0 _ _ hp
    have out : ∀ {H'}, Chs [d1, d2] H0 H' → Same H H' := fun c => c.out s0 fun x hx => by
      simp only [List.mem_cons, List.not_mem_nil, or_false] at hx
      rcases hx with rfl | rfl
      · exact nd1
      · exact nd20
    fail "bm_go"
    refine ⟨q, P, b, i, o, ms, ks, par, rfl, hq.same s0, W, fun fl F H1 s1 hfl nfl hT hall => ?_⟩
    have hcov : ∀ z ∈ ks, z ∈ F := fun z hz => all_in (fun x hx ⟨w, g1, g2⟩ => hac x hx ⟨w, g1, g2⟩) hall _ z rfl hz
    have hb1 := h1.same s1
    have ha1 := h2.same s1
    have nf1 := h1.ne nfl
    have nf2 := h2.ne nfl
    refine forL (xs := natsV F) (fun n σ H' => ∃ o3 o4 o5 o6 bs val as pa, σ = [some (.ref q), some (.ref d1), some (.ref d2), o3, o4, o5, o6] ∧ Chs [d1, d2] H0 H' ∧ H' fl = some (.lst (natsV F)) ∧ DN H' d1 bs val ∧ DN H' d2 as (fun j => ((pa j : Nat) : Int)) ∧ MB P b o i ks F n bs val as pa)
      (SqL.of hfl) ⟨none, none, none, none, [i], _, [], fun _ => 0, rfl, Chs.of s1, hfl, hb1, ha1, ⟨by simp, by simpa using hik, by simp, rfl, by simp, by simp, by simp, by simp, by simp⟩⟩ (fun n σ' H' _ p => ?_) (fun n v σ' H' hv p => ?_) (fun σ' H' p => ?_)
    · obtain ⟨_, _, _, _, _, _, _, _, _, _, h, _⟩ := p
      exact SqL.of h
    · obtain ⟨o3, o4, o5, o6, bs, val, as, pa, rfl, c, hf, hb, ha, hM⟩ := p
      obtain ⟨x, hx, rfl⟩ := nats_item hv
      have hxk := hT.sub x (List.mem_of_getElem? hx)
      have so := out c
      have hp' := so _ _ hp
      fail "bm_go"
      refine ⟨q, P, b, o, x, rfl, (hq.same so).b, W, hq.klt hxk, fun l ws H3 s3 nl hl hmem hnd _ => ?_⟩
      have nl1 := hb.ne nl
      have nl2 := ha.ne nl
      have hxb := hM.here hT hx hq.kp
      refine forL (xs := natsV ws) (fun n2 σ H' => ∃ o4 o5 o6 bs val as pa, σ = [some (.ref q), some (.ref d1), some (.ref d2), some (.int (x : Int)), o4, o5, o6] ∧ Chs [d1, d2] H0 H' ∧ H' fl = some (.lst (natsV F)) ∧ H' l = some (.lst (natsV ws)) ∧ DN H' d1 bs val ∧ DN H' d2 as (fun j => ((pa j : Nat) : Int)) ∧ MB P b o i ks F n bs val as pa ∧ x ∈ bs ∧ ∀ y ∈ ws.take n2, y ∈ ks → y ∈ bs ∧ ∀ lo hi, Edge P b x y lo hi → val x + hi ≤ val y)
        (SqL.of hl) ⟨o4, o5, o6, bs, val, as, pa, rfl, c.step s3, s3 _ _ hf, hl, hb.same s3, ha.same s3, hM, hxb, by simp⟩ (fun n2 σ' H' _ p => ?_) (fun n2 v σ' H' hv p => ?_) (fun σ' H4 p => ?_)
      · obtain ⟨_, _, _, _, _, _, _, _, _, _, h, _⟩ := p
        exact SqL.of h
      · obtain ⟨o4, o5, o6, bs, val, as, pa, rfl, c4, hf4, hl4, hb4, ha4, hM4, hxb4, hdn⟩ := p
        obtain ⟨y, hy, rfl⟩ := nats_item hv
        have hE := (hmem y).mp (List.mem_of_getElem? hy)
        have hytk : ws.take (n2 + 1) = ws.take n2 ++ [y] := by rw [List.take_add_one, hy]; rfl
        have hyn : y ∉ ws.take n2 := nodup_take hnd hy
        have so4 := out c4
        have hp4 := so4 _ _ hp
        have hkl4 := so4 _ _ hkl
        obtain ⟨xs, ad, tt, lo, hi, kvs, kk, f, e1, e2, e3, e4, e5, e6, e7⟩ := edge_at (hst.same so4) W hE
        have hbl := nodup_len _ bs hM4.nd fun z hz => hq.klt (hM4.sub z hz)
        have hal := nodup_len _ as hM4.asnd fun z hz => hq.klt (hM4.sub z ((hM4.am z).mp hz).1)
        fail "bm_go"
        refine r_dgetE (.inl e3) e4 e5 ?_
        fail "bm_go"
        refine r_dnGet hb4 hxb4 ?_
        fail "bm_go"
        refine r_inL (SqL.of hkl4) rfl nats_flat ?_
        fail "bm_go"
        refine r_ifB (fun hin => ?_) (fun hin => ?_)
        · have hyk := nats_in.mp hin
          have hyi : y ≠ i := fun z => hno x ((hq.kp x).mp hxk).1 (by rw [← z]; exact hE)
          fail "bm_go"
          refine r_dnG2 hb4 ?_
          fail "bm_go"
          refine r_dnGO hb4 ?_
          by_cases hyb : y ∈ bs
          · rw [if_pos hyb]
            simp only [Option.getD_some]
            fail "bm_go"
            refine r_ifD (fun hlt => ?_) (fun hlt => ?_)
            · have hv : y ∈ bs → val y < val x + hi := fun _ => hlt
              fail "bm_go"
              refine r_dnPut hb4 (by omega) fun H5 c5 hb5 => ?_
              have ha5 := ha4.at_ (H' := H5) fun u h => c5.kp _ _ n12.symm h
              fail "bm_go"
              refine r_dnPut ha5 (by omega) fun H6 c6 ha6 => ?_
              have hb6 := hb5.at_ (H' := H6) fun u h => c6.kp _ _ n12 h
              have e9 : (fun j => if j = y then (x : Int) else ((pa j : Nat) : Int)) = fun j => (((if j = y then x else pa j) : Nat) : Int) := by
                funext j
                split <;> rfl
              rw [e9] at ha6
              obtain ⟨hS, hxy, hyn2⟩ := hM4.set W hT hx hxb4 hyk hE e7 hyi hv
              refine ⟨_, _, _, _, _, _, _, rfl, (c4.chg (by simp) c5).chg (by simp) c6, c6.kp _ _ nf2 (c5.kp _ _ nf1 hf4), c6.kp _ _ nl2 (c5.kp _ _ nl1 hl4), hb6, ha6, hS, mem_addK.mpr (.inl hxb4), fun w hw hwk => ?_⟩
              show w ∈ addK bs y ∧ ∀ lo' hi', Edge P b x w lo' hi' → (if x = y then val x + hi else val x) + hi' ≤ if w = y then val x + hi else val w
              rw [if_neg hxy]
              rw [hytk] at hw
              rcases List.mem_append.mp hw with hw | hw
              · have hwy : w ≠ y := fun z => hyn (by rw [← z]; exact hw)
                obtain ⟨g1, g2⟩ := hdn w hw hwk
                refine ⟨mem_addK.mpr (.inl g1), fun lo' hi' gg => ?_⟩
                rw [if_neg hwy]
                exact g2 lo' hi' gg
              · rw [List.mem_singleton.mp hw]
                refine ⟨mem_addK.mpr (.inr rfl), fun lo' hi' gg => ?_⟩
                rw [if_pos rfl, (e7.inj gg).2]
                exact Int.le_refl _
            · fail "bm_go"
              refine ⟨_, _, _, bs, val, as, pa, rfl, c4, hf4, hl4, hb4, ha4, hM4, hxb4, fun z hz hzk => ?_⟩
              rw [hytk] at hz
              rcases List.mem_append.mp hz with hz | hz
              · exact hdn z hz hzk
              · rw [List.mem_singleton.mp hz]
                refine ⟨hyb, fun lo' hi' gg => ?_⟩
                rw [(e7.inj gg).2]
                omega
          · have hx0 := hM4.nn x hxb4
            have bd := e7.bd W
            rw [if_neg hyb]
            simp only [Option.getD_none]
            fail "bm_go"
            refine r_ifT (decide_eq_true (by omega)) ?_
            have hv : y ∈ bs → val y < val x + hi := fun z => absurd z hyb
            fail "bm_go"
            refine r_dnPut hb4 (by omega) fun H5 c5 hb5 => ?_
            have ha5 := ha4.at_ (H' := H5) fun u h => c5.kp _ _ n12.symm h
            fail "bm_go"
            refine r_dnPut ha5 (by omega) fun H6 c6 ha6 => ?_
            have hb6 := hb5.at_ (H' := H6) fun u h => c6.kp _ _ n12 h
            have e9 : (fun j => if j = y then (x : Int) else ((pa j : Nat) : Int)) = fun j => (((if j = y then x else pa j) : Nat) : Int) := by
              funext j
              split <;> rfl
            rw [e9] at ha6
            obtain ⟨hS, hxy, hyn2⟩ := hM4.set W hT hx hxb4 hyk hE e7 hyi hv
            refine ⟨_, _, _, _, _, _, _, rfl, (c4.chg (by simp) c5).chg (by simp) c6, c6.kp _ _ nf2 (c5.kp _ _ nf1 hf4), c6.kp _ _ nl2 (c5.kp _ _ nl1 hl4), hb6, ha6, hS, mem_addK.mpr (.inl hxb4), fun w hw hwk => ?_⟩
            show w ∈ addK bs y ∧ ∀ lo' hi', Edge P b x w lo' hi' → (if x = y then val x + hi else val x) + hi' ≤ if w = y then val x + hi else val w
            rw [if_neg hxy]
            rw [hytk] at hw
            rcases List.mem_append.mp hw with hw | hw
            · have hwy : w ≠ y := fun z => hyn (by rw [← z]; exact hw)
              obtain ⟨g1, g2⟩ := hdn w hw hwk
              refine ⟨mem_addK.mpr (.inl g1), fun lo' hi' gg => ?_⟩
              rw [if_neg hwy]
              exact g2 lo' hi' gg
            · rw [List.mem_singleton.mp hw]
              refine ⟨mem_addK.mpr (.inr rfl), fun lo' hi' gg => ?_⟩
              rw [if_pos rfl, (e7.inj gg).2]
              exact Int.le_refl _
        · have hyk : y ∉ ks := fun z => by rw [nats_in.mpr z] at hin; cases hin
          refine r_ifF rfl ?_
          fail "bm_go"
          refine ⟨_, _, _, bs, val, as, pa, rfl, c4, hf4, hl4, hb4, ha4, hM4, hxb4, fun z hz hzk => ?_⟩
          rw [hytk] at hz
          rcases List.mem_append.mp hz with hz | hz
          · exact hdn z hz hzk
          · exact absurd (by rw [← List.mem_singleton.mp hz]; exact hzk) hyk
      · obtain ⟨o4, o5, o6, bs, val, as, pa, rfl, c4, hf4, hl4, hb4, ha4, hM4, hxb4, hdn⟩ := p
        rw [nats_len, List.take_length] at hdn
        fail "bm_go"
        refine ⟨_, _, _, _, bs, val, as, pa, rfl, c4, hf4, hb4, ha4, ⟨hM4.nd, hM4.sub, hM4.im, hM4.v0, hM4.nn, hM4.am, hM4.asnd, fun z hz w hw ew => ?_, hM4.up⟩⟩
        rw [List.take_add_one, hx] at hz
        rcases List.mem_append.mp hz with hz | hz
        · exact hM4.done z hz w hw ew
        · have ez : z = x := by simpa using hz
          subst ez
          exact hdn w ((hmem w).mpr ew) hw
    · obtain ⟨o3, o4, o5, o6, bs, val, as, pa, rfl, c, hf, hb, ha, hM⟩ := p
      rw [nats_len] at hM
      fail "bm_go"
      intro t nt
      have st := same_new (o := .tup [.ref d1, .ref d2]) nt
      exact k t d1 d2 F bs as val pa _ ((out c).trans st) (SqT.of upd_same) (hb.same st) (ha.same st) hT hcov hM
/-- what the high paper tells, where it tells of the most beats -/
def HighOk (P : List Row) (b : Int) (one o : Nat) (L : Int) : Prop := ∃ val : Nat → Int, val one = 0 ∧ val o = L ∧ ∀ x y bt, Rch (Ed P b o) one x → Ed P b o x y → Rch (Ed P b o) y o → (y, bt) ∈ ent P b x → val x + bt ≤ val y
def sp_high_paper (K : PySem.W.Frag) : Sp := fun vs H Q _ => ∃ (p q : Addr) (P : List Row) (b : Int) (i o : Nat) (ms ks : List Nat) (par : Nat → Nat), vs = [.ref p, .ref q] ∧ PAt K H p P ∧ SkAt K H q P b i o ms ks par ∧ WF P ∧ i ≠ o ∧ Rch (Ed P b o) i o ∧
  (∀ (t wt : Addr) (v : V) (us : List Nat) (H' : Hp), Same H H' → SqT K H' t [.str "round", .ref wt, v] → SqT K H' wt (natsV us) → us.head? = some i → us.getLast? = some o → Q (.ref t) H') ∧
  ∀ (t wt : Addr) (v : V) (L : Int) (us : List Nat) (H' : Hp), Same H H' → SqT K H' t [.str "most", .int L, .ref wt, v] → SqT K H' wt (natsV us) → us.head? = some i → us.getLast? = some o → HighOk P b i o L → Q (.ref t) H'
theorem ent_edge {P : List Row} {b bt : Int} {x y : Nat} (W : WF P) (h : (y, bt) ∈ ent P b x) : ∃ lo hi, Edge P b x y lo hi := by
  cases hr : P[x]? with
  | none => unfold ent at h; rw [hr] at h; simp at h
  | some r =>
    have hok := W.ok x r hr
    rcases hok.cases3 with ⟨e1, e2, mk, k, e3, hk⟩ | ⟨e1, e2, mk, k, e3, hk⟩ | ⟨e1, e2, e4⟩
    · have hf : 3 ≤ far P b x k := by
        unfold far
        have := crossed_le (adr b P k) (adr b P (x + 1))
        omega
      unfold Edge
      rw [ent_if hr e1 e3 hk] at h ⊢
      simp only [List.mem_cons, Prod.mk.injEq, List.not_mem_nil, or_false] at h ⊢
      by_cases g1 : y = x + 1
      · by_cases g2 : y = k
        · exact ⟨2, far P b x k, .inl ⟨g1, rfl⟩, .inr ⟨g2, rfl⟩, fun bt' h' => by rcases h' with ⟨_, rfl⟩ | ⟨_, rfl⟩ <;> omega⟩
        · exact ⟨2, 2, .inl ⟨g1, rfl⟩, .inl ⟨g1, rfl⟩, fun bt' h' => by
            rcases h' with ⟨_, rfl⟩ | ⟨z, rfl⟩
            · omega
            · exact absurd z g2⟩
      · have g2 : y = k := by
          rcases h with ⟨z, _⟩ | ⟨z, _⟩
          · exact absurd z g1
          · exact z
        exact ⟨far P b x k, far P b x k, .inr ⟨g2, rfl⟩, .inr ⟨g2, rfl⟩, fun bt' h' => by
            rcases h' with ⟨z, _⟩ | ⟨_, rfl⟩
            · exact absurd z g1
            · omega⟩
    · unfold Edge
      rw [ent_go hr e1 e2 e3 hk] at h ⊢
      simp only [List.mem_singleton, Prod.mk.injEq] at h ⊢
      exact ⟨3, 3, ⟨h.1, rfl⟩, ⟨h.1, rfl⟩, fun bt' h' => by omega⟩
    · unfold Edge
      rw [ent_no hr e1 e2] at h ⊢
      simp only [List.mem_singleton, Prod.mk.injEq] at h ⊢
      exact ⟨_, _, ⟨h.1, rfl⟩, ⟨h.1, rfl⟩, fun bt' h' => by omega⟩
theorem idx_one {F : List Nat} (nd : F.Nodup) {k k' z : Nat} (h : F[k]? = some z) (h' : F[k']? = some z) : k = k' := by
  have lt : ∀ {a b : Nat}, F[a]? = some z → F[b]? = some z → ¬ a < b := fun ha hb hl => nodup_take nd hb (List.mem_of_getElem? (by rw [List.getElem?_take_of_lt hl]; exact ha))
  have h1 := lt h h'
  have h2 := lt h' h
  omega
theorem sc_high_paper : FnScope ["program", "seeker", "row", "beats", "ahead", "prices", "number", "closed"] ["program", "seeker"] (defScope s_high_paper) := ⟨rfl, rfl, rfl, by decide +kernel, rfl, by decide +kernel, by decide +kernel⟩
theorem ok_high_paper {P : Program} {w : World} {K : PySem.W.Frag} {mg : Str → Option Value} {base : Heap} (T : Tx K mg) : Ok P w K mg base CX0 6 313 ["program", "seeker"] (sp_high_paper K) := by
  refine ok0 5 (f_high_paper T) sc_high_paper (fun _ _ _ _ _ _ us hl => match us, hl with | [_, _], _ => rfl) (fun vs H Q E h => ?_) (fun cdv A outer sh H vs Q E room h => ?_)
  · obtain ⟨p, q, P, b, i, o, ms, ks, par, rfl, hP, hq, W, hio, hr, kr, km⟩ := h
    rfl
  · obtain ⟨p, q, P, b, i, o, ms, ks, par, rfl, hP, hq, W, hio, hr, kr, km⟩ := h
    refine ⟨_,     (pss_cons (ps_set (i := 2) sc_high_paper.nd rfl (Or.inl rfl) (pm0 (ok_Seeker_turning (K := K) T) (room.mono (by decide)) (c_Seeker T) (m_Seeker_turning T) pass0 (pv 1)))
        (pss_cons (ps_if (pt_cmpR op_notN' (pv 2) pe_non (nomark _))
          (pss_one (ps_ret (pc (ok_round_paper (K := K) T) (room.mono (by decide)) rfl (g_round_paper T) pass0 (pa_cons (pv 1) (pa_cons (pv 2) pa_nil))))) pss_nil)
        (pss_cons (ps_asg (pm0 (ok_Seeker_most (K := K) T) (room.mono (by decide)) (c_Seeker T) (m_Seeker_most T) pass0 (pv 1)) (pg_tupK K (n := 2) rfl (pgs_cons (pg_name (i := 3) sc_high_paper.nd rfl (Or.inl rfl)) (pgs_cons (pg_name (i := 4) sc_high_paper.nd rfl (Or.inl rfl)) pgs_nil))))
        (pss_cons (ps_set (i := 5) sc_high_paper.nd rfl (Or.inl rfl) (pe_lst pa_nil))
        (pss_cons (ps_for PassesOwn.never rfl (pi_range1 rfl (n_range T) (pa_cons (pe_callB (call_lenK K) (by rfl) (n_len T) (by decide +kernel) (pa_cons (pv 0) pa_nil)) pa_nil)) (pg_name (i := 6) sc_high_paper.nd rfl (Or.inl rfl))
          (pss_cons (ps_set (i := 7) sc_high_paper.nd rfl (Or.inl rfl) (pe_ifExp (pt_cmp (pc_din (hu_of room) (pv 6) (pe_fldK K (pv 1) rfl))) (pe_tup pa_nil) pe_non))
          (pss_one (ps_expr (pe_bmK K PySem.F.plainAttrs_list PySem.F.slot_list_append PySem.F.type_list_append mt_append (pv 5) (pa_cons (pe_dget2 (hu_of room) (pv 3) (pv 6) (pv 7) ⟨rfl, rfl, rfl, rfl⟩) pa_nil))))))
        (pss_one (ps_ret (pe_tup (pa_cons pe_str (pa_cons (pe_dget (hu_of room) (pv 3) (pe_fldK K (pv 1) rfl) (fun _ _ => rfl)) (pa_cons (pc (ok_way_back (K := K) T) (room.mono (by decide)) rfl (g_way_back T) pass0 (pa_cons (pv 4) (pa_cons (pe_fldK K (pv 1) rfl) (pa_cons (pe_fldK K (pv 1) rfl) pa_nil)))) (pa_cons (pe_callTy (call_tupK K) (by rfl) (n_tuple T) (by decide +kernel) (pa_cons (pv 5) pa_nil)) pa_nil)))))))))))), ?_⟩
    show (_ : TS) _ [_, _, none, none, none, none, none, none] _
    obtain ⟨dx, sl, wl, md, kl, hp, hst, _, hmd, hkl⟩ := hq.ob
    have hz := W.len
    have hok : o ∈ ks := (hq.kp o).mpr ⟨hr, .refl _⟩
    fail "bm_go"
    refine ⟨q, P, b, i, o, ms, ks, par, rfl, hq, W, fun H1 s1 => ⟨fun hno => ?_, fun x hx hxo hon => ?_⟩⟩
    · have hp1 := s1 _ _ hp
      fail "bm_go"
      refine ⟨q, P, b, i, o, ms, ks, par, rfl, hq.same s1, W, hr, hno, fun t d1 d2 F bs as val pa H2 s2 ht hb ha hT hcov hM => ?_⟩
      have hp2 := s2 _ _ hp1
      have s12 := s1.trans s2
      fail "bm_go"
      intro l nl
      have nl1 := hb.ne nl
      have nl2 := ha.ne nl
      have sl := same_new (o := .lst []) nl
      have hP3 := (hP.same s12).same sl
      obtain ⟨xs, hx1, hx2, _⟩ := hP3.each
      have hmd2 := (hmd.same s12).same sl
      have nlm := (hmd.same s12).ne nl
      have hp3 := sl _ _ hp2
      have hb3 := hb.same sl
      have ha3 := ha.same sl
      have hl3 : upd H2 l (.lst []) l = some (.lst []) := upd_same
      revert sl hP3 hx1 hmd2 hp3 hb3 ha3 hl3
      generalize upd H2 l (.lst []) = H3
      intro sl hP3 hx1 hmd2 hp3 hb3 ha3 hl3
      fail "bm_go"
      rw [hx2]
      refine forN_c l (fun n σ H' => ∃ o6 o7 us, σ = [some (.ref p), some (.ref q), some .non, some (.ref d1), some (.ref d2), some (.ref l), o6, o7] ∧ H' l = some (.lst us) ∧ us.length ≤ n ∧ n ≤ 100)
        (by omega) (by omega) ⟨none, none, [], rfl, hl3, by simp, by omega⟩ (fun n σ' H' hn c p => ?_) (fun σ' H' c p => ?_)
      · obtain ⟨o6, o7, us, rfl, hl, hul, hn100⟩ := p
        have nq : q ≠ l := fun z => by rw [z, hl3] at hp3; cases hp3
        have hp' := c.kp _ _ nq hp3
        have hm' := hmd2.at_ (H' := H') fun u h => c.kp _ _ nlm.symm h
        have hb' := hb3.at_ (H' := H') fun u h => c.kp _ _ nl1.symm h
        have dunno : ∀ (v : V) (H4 : Hp) (S : Same H' H4), ∃ us', (upd H4 l (.lst (us ++ [v]))) l = some (.lst us') ∧ us'.length ≤ n + 1 := fun v H4 _ => ⟨_, upd_same, by simp; omega⟩
        fail "bm_go"
        refine r_dnIn hm' ?_
        fail "bm_go"
        refine r_ifB (fun _ => ?_) (fun _ => ?_)
        · fail "bm_go"
          intro t nt
          have s4 := same_new (o := .tup []) nt
          have hl4 := s4 _ _ hl
          have hb4 := hb'.same s4
          fail "bm_go"
          refine r_dnG2 hb4 ?_
          fail "bm_go"
          refine r_dnGO hb4 ?_
          fail "bm_go"
          refine r_app hl4 (szl (by omega)) ?_
          exact ⟨(c.step s4).put hl4 trivial, _, _, _, rfl, upd_same, by simp; omega, by omega⟩
        · fail "bm_go"
          refine r_dnG2 hb' ?_
          fail "bm_go"
          refine r_dnGO hb' ?_
          fail "bm_go"
          refine r_app hl (szl (by omega)) ?_
          exact ⟨c.put hl trivial, _, _, _, rfl, upd_same, by simp; omega, by omega⟩
      · obtain ⟨o6, o7, us, rfl, hl, hul, hn100⟩ := p
        have nq : q ≠ l := fun z => by rw [z, hl3] at hp3; cases hp3
        have hp' := c.kp _ _ nq hp3
        have hb' := hb3.at_ (H' := H') fun u h => c.kp _ _ nl1.symm h
        have ha' := ha3.at_ (H' := H') fun u h => c.kp _ _ nl2.symm h
        have s13 : Same H H' := c.out (s12.trans sl) (s12.free nl)
        have hob : o ∈ bs := by
          obtain ⟨y, g1, g2⟩ := hr.cases_tail.resolve_left hio
          have hy : y ∈ ks := (hq.kp y).mpr ⟨g1, .tail (.refl _) g2⟩
          exact (hM.done y (by rw [List.take_length]; exact hcov y hy) o hok g2).1
        have rkx : ∀ x, ∃ k, x ∈ ks → F[k]? = some x := fun x => by
          by_cases h : x ∈ ks
          · obtain ⟨k, hk⟩ := List.getElem?_of_mem (hcov x h)
            exact ⟨k, fun _ => hk⟩
          · exact ⟨0, fun z => absurd z h⟩
        obtain ⟨rk, hrk⟩ := Classical.axiomOfChoice rkx
        fail "bm_go"
        refine r_dnGet hb' hob ?_
        fail "bm_go"
        refine ⟨d2, P.length, i, o, as, pa, rk, rfl, ha', ⟨fun x hx => ?_, fun x hx => ?_, fun h => ((hM.am i).mp h).2 rfl⟩, (hM.am o).mpr ⟨hob, hio.symm⟩, hz, fun wt ws H4 s4 hwt hhd hla hwl hch => ?_⟩
        · have := hM.up x hx
          exact ⟨hq.klt (hM.sub x ((hM.am x).mp hx).1), hq.klt (hM.sub _ this.2)⟩
        · obtain ⟨u1, u2⟩ := hM.up x hx
          have hxk := hM.sub x ((hM.am x).mp hx).1
          have hpk := hM.sub _ u2
          refine ⟨?_, ?_⟩
          · by_cases e : pa x = i
            · exact .inl e
            · exact .inr ((hM.am _).mpr ⟨u2, e⟩)
          · obtain ⟨k', j1, j2⟩ := hT.pre (rk x) x (hrk x hxk) (pa x) hpk u1
            rw [idx_one hT.nd (hrk _ hpk) j2]
            exact j1
        · have hl4 := s4 _ _ hl
          fail "bm_go"
          refine r_tupL (SqL.of hl4) fun t5 nt5 => ?_
          have s5 := same_new (o := .tup us) nt5
          fail "bm_go"
          intro t6 nt6
          have s6 := same_new (o := .tup [.str "most", .int (val o), .ref wt, .ref t5]) nt6
          refine km t6 wt _ (val o) ws _ (((s13.trans s4).trans s5).trans s6) (SqT.of upd_same) (sqT_same (s5.trans s6) hwt) hhd hla ⟨val, hM.v0, rfl, fun x y bt h1 h2 h3 h4 => ?_⟩
          have hxk : x ∈ ks := (hq.kp x).mpr ⟨h1, Rch.head h2 h3⟩
          have hyk : y ∈ ks := (hq.kp y).mpr ⟨.tail h1 h2, h3⟩
          obtain ⟨lo, hi, g⟩ := ent_edge W h4
          have := (hM.done x (by rw [List.take_length]; exact hcov x hxk) y hyk h2).2 lo hi g
          have := (g.2.2 bt h4).2
          omega
    · fail "bm_go"
      exact ⟨q, P, b, i, o, x, ms, ks, par, rfl, hq.same s1, W, hx, fun t wt v us H2 s2 ht hw hh hl => kr t wt v us H2 (s1.trans s2) ht hw hh hl⟩
/-- what the span's high paper is -/
def HighAt (K : PySem.W.Frag) (H : Hp) (P : List Row) (b : Int) (i o : Nat) (ht : Addr) : Prop := ∃ (wt : Addr) (v : V) (us : List Nat), SqT K H wt (natsV us) ∧ us.head? = some i ∧ us.getLast? = some o ∧
  (SqT K H ht [.str "round", .ref wt, v] ∨ ∃ L, SqT K H ht [.str "most", .int L, .ref wt, v] ∧ HighOk P b i o L)
def LowAt (K : PySem.W.Frag) (H : Hp) (P : List Row) (b : Int) (i o : Nat) (lt : Addr) : Prop := ∃ (wt : Addr) (v : V) (L : Int) (ws : List Nat), SqT K H lt [.int L, .ref wt, v] ∧ SqT K H wt (natsV ws) ∧ LowOk P b i o L ws
def sp_span (K : PySem.W.Frag) : Sp := fun vs H Q _ => ∃ (p : Addr) (P : List Row) (b : Int) (i o : Nat), vs = [.ref p, .int b, .int i, .int o] ∧ PAt K H p P ∧ WF P ∧ b + longOf P ≤ 256 ∧ i < P.length ∧ o < P.length ∧ ¬ isWaitR P i ∧ ¬ isWaitR P o ∧ i ≠ o ∧ Rch (Ed P b o) i o ∧
  ∀ (t lt ht : Addr) (H' : Hp), Same H H' → SqT K H' t [.ref lt, .ref ht] → LowAt K H' P b i o lt → HighAt K H' P b i o ht → Q (.ref t) H'
theorem sc_span : FnScope ["program", "base", "one", "other", "seeker"] ["program", "base", "one", "other"] (defScope s_span) := ⟨rfl, rfl, rfl, by decide +kernel, rfl, by decide +kernel, by decide +kernel⟩
theorem ok_span {P : Program} {w : World} {K : PySem.W.Frag} {mg : Str → Option Value} {base : Heap} (T : Tx K mg) : Ok P w K mg base CX0 9 320 ["program", "base", "one", "other"] (sp_span K) := by
  refine ok0 8 (f_span T) sc_span (fun _ _ _ _ _ _ us hl => match us, hl with | [_, _, _, _], _ => rfl) (fun vs H Q E h => ?_) (fun cdv A outer sh H vs Q E room h => ?_)
  · obtain ⟨p, P, b, i, o, rfl, hP, W, hb, hi, ho, hwi, hwo, hio, hr, k⟩ := h
    rfl
  · obtain ⟨p, P, b, i, o, rfl, hP, W, hb, hi, ho, hwi, hwo, hio, hr, k⟩ := h
    refine ⟨_,     (pss_cons (ps_set (i := 4) sc_span.nd rfl (Or.inl rfl) (pmk (ok_Seeker_init (K := K) T) (room.mono (by decide)) (k_Seeker T) rfl (g_Seeker T) pass0 (pa_cons (pv 0) (pa_cons (pv 1) (pa_cons (pv 2) (pa_cons (pv 3) pa_nil))))))
        (pss_cons (ps_if (PW.pt (pw_or (pt_not (pt_val (pc (ok_are_ends (K := K) T) (room.mono (by decide)) rfl (g_are_ends T) pass0 (pa_cons (pv 0) (pa_cons (pv 2) (pa_cons (pv 3) pa_nil)))))) (pw_or1 (pt_cmp (pc_dnotin (hu_of room) (pv 3) (pe_fldK K (pv 4) rfl))))))
          (pss_one ps_never) pss_nil)
        (pss_one (ps_ret (pe_tup (pa_cons (pc (ok_low_paper (K := K) T) (room.mono (by decide)) rfl (g_low_paper T) pass0 (pa_cons (pv 0) (pa_cons (pv 4) pa_nil))) (pa_cons (pc (ok_high_paper (K := K) T) (room.mono (by decide)) rfl (g_high_paper T) pass0 (pa_cons (pv 0) (pa_cons (pv 4) pa_nil))) pa_nil))))))), ?_⟩
    show (_ : TS) _ [_, _, _, _, none] _
    have nw : ∀ {x : Nat} (hx : x < P.length), ¬ isWaitR P x → decide (V.str P[x].d = V.str "wait") = false := fun hx h => decide_eq_false fun e => h ⟨_, List.getElem?_eq_getElem hx, V.str.inj e⟩
    fail "bm_go"
    intro q dq nq ndq hne
    have s2 : Same H (upd (upd H dq (.own q)) q (.ins 276 dq [])) := same_mut (same_new ndq) nq
    refine ⟨q, p, dq, P, b, i, o, rfl, upd_same, hP.same s2, W, hb, hi, ho, fun H2 ms ks par c2 hq => ?_⟩
    have s02 : Same H H2 := c2.out s2 nq
    refine ⟨rfl, ?_⟩
    fail "bm_go"
    refine ⟨p, P, i, o, P[i], P[o], rfl, hP.same s02, W, List.getElem?_eq_getElem hi, List.getElem?_eq_getElem ho, nw hi hwi, nw ho hwo, hio, fun H3 s3 => ?_⟩
    have hq3 := hq.same s3
    have s03 := s02.trans s3
    obtain ⟨dx, sl, wl, md, kl, hp, hst, _, hmd, hkl⟩ := hq3.ob
    have hom : o ∈ ms := (hq.met.mem_iff hq.mcl).mpr hr
    fail "bm_go"
    refine r_dnIn hmd ?_
    rw [if_pos hom]
    fail "bm_go"
    refine ⟨p, q, P, b, i, o, ms, ks, par, rfl, hP.same s03, hq3, W, hio, hr, fun t wt v L ws H4 s4 ht hw hL => ?_⟩
    have hq4 := hq3.same s4
    have s04 := s03.trans s4
    have low : LowAt K H4 P b i o t := ⟨wt, v, L, ws, ht, hw, hL⟩
    have low' : ∀ {H'}, Same H4 H' → LowAt K H' P b i o t := fun s => ⟨wt, v, L, ws, sqT_same s ht, sqT_same s hw, hL⟩
    fail "bm_go"
    refine ⟨p, q, P, b, i, o, ms, ks, par, rfl, hP.same s04, hq4, W, hio, hr, fun t2 wt2 v2 us H5 s5 ht2 hw2 hh hl => ?_, fun t2 wt2 v2 L2 us H5 s5 ht2 hw2 hh hl hHi => ?_⟩
    all_goals
      fail "bm_go"
      intro t6 nt6
      have s6 := same_new (o := .tup [.ref t, .ref t2]) nt6
    · exact k t6 t t2 _ ((s04.trans s5).trans s6) (SqT.of upd_same) (low' (s5.trans s6)) ⟨wt2, v2, us, sqT_same s6 hw2, hh, hl, .inl (sqT_same s6 ht2)⟩
    · exact k t6 t t2 _ ((s04.trans s5).trans s6) (SqT.of upd_same) (low' (s5.trans s6)) ⟨wt2, v2, us, sqT_same s6 hw2, hh, hl, .inr ⟨L2, sqT_same s6 ht2, hHi⟩⟩
end
section
/-! ## F1: the law's deck -/
section
variable {σ : L2.St} {H : Hp} {Q : VK} {QB : Bool → Hp → Prop} {ta tb tc : TE} {r r' : R2} {K : PySem.W.Frag} {T : String} {rr : V → List V → Hp → VK → Prop}
theorem r_orV (h : ta σ H fun x H1 => ∃ c, x = .bl c ∧ if c = true then Q (.bl true) H1 else tb σ H1 Q) : tOrV ta tb σ H Q := h
theorem r_chain (h : ta σ H fun x H1 => tb σ H1 fun y H2 => r x y H2 fun z H3 => ∃ k, z = .bl k ∧ (if k = true then tc σ H3 fun w' H4 => r' y w' H4 Q else Q (.bl false) H3)) : tChain r r' ta tb tc σ H Q := h
theorem r_bm0 (h : ta σ H fun x H1 => tyV K T x H1 ∧ rr x [] H1 Q) : tBM0 K T rr ta σ H Q := h
theorem r_gsub {t : TSet} {v : V} {QS : L2.St → Hp → Prop} (h : ta σ H fun o H1 => tb σ H1 fun i H2 => t o i v H2 fun H3 => QS σ H3) : gSub ta tb t v σ H QS := h
theorem r_mulS {z : Str} (q : Q (.str z) H) : rMulS (.str z) (.int 1) H Q := ⟨z, rfl, rfl, q⟩
end
local macro_rules | `(tactic| fail "bm_go1") => `(tactic| first
  | with_reducible refine r_orV ?_
  | with_reducible refine r_chain ?_
  | with_reducible refine r_bm0 ?_)
def DeckAt (H : Hp) (d : Addr) : Prop := ∃ ns : List Int, H d = some (.lst (ns.map V.int))
theorem DeckAt.same {H H' : Hp} {d : Addr} (h : DeckAt H d) (s : Same H H') : DeckAt H' d := by
  obtain ⟨ns, h⟩ := h
  exact ⟨ns, s _ _ h⟩
def sp_l_mixed : Sp := fun vs H Q _ => ∃ c k : Int, vs = [.int c, .int k] ∧ 0 ≤ k ∧ k ≤ 1000 ∧ ∀ n : Int, Q (.int n) H
theorem sc_l_mixed : FnScope ["_law_cell", "_law_k", "_law_number"] ["_law_cell", "_law_k"] (defScope s_l_mixed) := ⟨rfl, rfl, rfl, by decide +kernel, rfl, by decide +kernel, by decide +kernel⟩
theorem ok_l_mixed {P : Program} {w : World} {K : PySem.W.Frag} {mg : Str → Option Value} {base : Heap} (T : Tx K mg) : Ok P w K mg base CX0 1 661 ["_law_cell", "_law_k"] (sp_l_mixed) := by
  refine ok0 0 (f_l_mixed T) sc_l_mixed (fun _ _ _ _ _ _ us hl => match us, hl with | [_, _], _ => rfl) (fun vs H Q E h => ?_) (fun cdv A outer sh H vs Q E room h => ?_)
  · obtain ⟨c, k, rfl, h0, h1, kk⟩ := h
    rfl
  · obtain ⟨c, k, rfl, h0, h1, kk⟩ := h
    refine ⟨_,     (pss_cons (ps_set (i := 2) sc_l_mixed.nd rfl (Or.inl rfl) (pe_op op_mod (pe_op op_add (pe_op op_add (pv 0) (pe_op op_mul (pe_op op_mul (pv 1) (pv 1)) pe_int)) pe_int) pe_int))
        (pss_cons (ps_set (i := 2) sc_l_mixed.nd rfl (Or.inl rfl) (pe_op op_mod (pe_op op_mul (pv 2) (pv 2)) pe_int))
        (pss_cons (ps_set (i := 2) sc_l_mixed.nd rfl (Or.inl rfl) (pe_op op_mod (pe_op op_mul (pe_op op_add (pe_op op_add (pv 2) (pe_op op_mul (pv 1) pe_int)) pe_int) pe_int) pe_int))
        (pss_one (ps_ret (pe_op op_fdiv (pe_op op_mod (pe_op op_mul (pv 2) (pv 2)) pe_int) pe_int)))))), ?_⟩
    show (_ : TS) _ [_, _, none] _
    fail "bm_go"
    exact kk _
def sp_l_next : Sp := fun vs H Q _ => ∃ d : Addr, vs = [.ref d] ∧ DeckAt H d ∧ ∀ (n : Int) (H' : Hp), Chg d H H' → DeckAt H' d → Q (.int n) H'
theorem sc_l_next : FnScope ["_law_deck_here"] ["_law_deck_here"] (defScope s_l_next) := ⟨rfl, rfl, rfl, by decide +kernel, rfl, by decide +kernel, by decide +kernel⟩
theorem ok_l_next {P : Program} {w : World} {K : PySem.W.Frag} {mg : Str → Option Value} {base : Heap} (T : Tx K mg) : Ok P w K mg base CX0 1 673 ["_law_deck_here"] (sp_l_next) := by
  refine ok0 0 (f_l_next T) sc_l_next (fun _ _ _ _ _ _ us hl => match us, hl with | [_], _ => rfl) (fun vs H Q E h => ?_) (fun cdv A outer sh H vs Q E room h => ?_)
  · obtain ⟨d, rfl, ⟨ns, hd⟩, k⟩ := h
    rfl
  · obtain ⟨d, rfl, ⟨ns, hd⟩, k⟩ := h
    refine ⟨_,     (pss_cons (ps_if (pt_cmpR op_gt (pe_callB (call_lenK K) (by rfl) (n_len T) (by decide +kernel) (pa_cons (pv 0) pa_nil)) pe_int (nomark _))
          (pss_one (ps_ret (pe_bm0K K PySem.F.plainAttrs_list PySem.F.slot_list_pop PySem.F.type_list_pop mt_pop (pv 0)))) pss_nil)
        (pss_one (ps_ret pe_int))), ?_⟩
    show (_ : TS) _ [_] _
    fail "bm_go"
    refine r_ifD (fun h => ?_) (fun h => ?_)
    · fail "bm_go"
      have hl : 0 < ns.length := by
        rw [List.length_map] at h
        omega
      have hne : ns ≠ [] := List.length_pos_iff.mp hl
      refine ⟨d, ns.map V.int, .int (ns.getLast hne), rfl, rfl, hd, ?_, ?_⟩
      · rw [List.length_map, List.getElem?_map, List.getElem?_eq_getElem (by omega), List.getLast_eq_getElem]
        rfl
      · rw [← List.map_dropLast]
        exact k _ _ (chg_at hd trivial) ⟨_, upd_same⟩
    · fail "bm_go"
      exact k 0 H Chg.refl ⟨ns, hd⟩
def deedsV : List V := [.str "set", .str "test", .str "setx", .str "get", .str "put", .str "add", .str "sub", .str "mask", .str "flip", .str "getx", .str "putx", .str "lay", .str "take", .str "half", .str "twice", .str "up", .str "down", .str "tox", .str "toa", .str "rest", .str "idle", .str "wait", .str "go", .str "ifz", .str "ifn", .str "ifc", .str "ifd", .str "at", .str "door", .str "eye", .str "data"]
def sp_l_deeds : Sp := fun vs H Q _ => vs = [] ∧ ∀ (l : Addr) (H' : Hp), Same H H' → H' l = some (.lst deedsV) → Q (.ref l) H'
theorem sc_l_deeds : FnScope ["_law_first"] [] (defScope s_l_deeds) := ⟨rfl, rfl, rfl, by decide +kernel, rfl, by decide +kernel, by decide +kernel⟩
theorem ok_l_deeds {P : Program} {w : World} {K : PySem.W.Frag} {mg : Str → Option Value} {base : Heap} (T : Tx K mg) : Ok P w K mg base CX0 1 680 [] (sp_l_deeds) := by
  refine ok0 0 (f_l_deeds T) sc_l_deeds (fun _ _ _ _ _ _ us hl => match us, hl with | [], _ => rfl) (fun vs H Q E h => ?_) (fun cdv A outer sh H vs Q E room h => ?_)
  · obtain ⟨rfl, k⟩ := h
    rfl
  · obtain ⟨rfl, k⟩ := h
    refine ⟨_,     (pss_cons (ps_set (i := 0) sc_l_deeds.nd rfl (Or.inl rfl) (pe_lst (pa_cons pe_str (pa_cons pe_str (pa_cons pe_str (pa_cons pe_str (pa_cons pe_str (pa_cons pe_str (pa_cons pe_str (pa_cons pe_str (pa_cons pe_str (pa_cons pe_str (pa_cons pe_str (pa_cons pe_str (pa_cons pe_str pa_nil)))))))))))))))
        (pss_cons (ps_set (i := 0) sc_l_deeds.nd rfl (Or.inl rfl) (pe_op op_cat (pv 0) (pe_lst (pa_cons pe_str (pa_cons pe_str (pa_cons pe_str (pa_cons pe_str (pa_cons pe_str (pa_cons pe_str (pa_cons pe_str (pa_cons pe_str (pa_cons pe_str pa_nil))))))))))))
        (pss_one (ps_ret (pe_op op_cat (pv 0) (pe_lst (pa_cons pe_str (pa_cons pe_str (pa_cons pe_str (pa_cons pe_str (pa_cons pe_str (pa_cons pe_str (pa_cons pe_str (pa_cons pe_str (pa_cons pe_str pa_nil))))))))))))))), ?_⟩
    show (_ : TS) _ [none] _
    fail "bm_go"
    intro a na
    fail "bm_go"
    intro c nc
    have hc := gN (o := .lst [.str "half", .str "twice", .str "up", .str "down", .str "tox", .str "toa", .str "rest", .str "idle", .str "wait"]) nc (upd_same (H := H) (a := a) (o := .lst [.str "set", .str "test", .str "setx", .str "get", .str "put", .str "add", .str "sub", .str "mask", .str "flip", .str "getx", .str "putx", .str "lay", .str "take"]))
    have s2 := same_mut (o := .lst [.str "half", .str "twice", .str "up", .str "down", .str "tox", .str "toa", .str "rest", .str "idle", .str "wait"]) (same_new (o := .lst [.str "set", .str "test", .str "setx", .str "get", .str "put", .str "add", .str "sub", .str "mask", .str "flip", .str "getx", .str "putx", .str "lay", .str "take"]) na) (none_upd nc)
    refine r_catL hc upd_same (by decide) fun e ne => ?_
    have s3 := s2.trans (same_new (o := .lst ([.str "set", .str "test", .str "setx", .str "get", .str "put", .str "add", .str "sub", .str "mask", .str "flip", .str "getx", .str "putx", .str "lay", .str "take"] ++ [.str "half", .str "twice", .str "up", .str "down", .str "tox", .str "toa", .str "rest", .str "idle", .str "wait"])) ne)
    fail "bm_go"
    intro f nf
    have s4 := s3.trans (same_new (o := .lst [.str "go", .str "ifz", .str "ifn", .str "ifc", .str "ifd", .str "at", .str "door", .str "eye", .str "data"]) nf)
    refine r_catL (gN nf upd_same) upd_same (by decide) fun g ng => ?_
    exact k g _ (s4.trans (same_new ng)) upd_same
def sp_l_most : Sp := fun vs H Q _ => ∃ n : Nat, vs = [.int n] ∧ n < 31 ∧ (n < 13 ∨ 28 ≤ n) ∧ ∀ (m : Nat) (H' : Hp), Same H H' → (3 ≤ n → n < 13 → m = 15) → (n = 28 → m = 19) → (n = 29 → m = 5) → m ≤ 255 → Q (.int m) H'
theorem sc_l_most : FnScope ["_law_at"] ["_law_at"] (defScope s_l_most) := ⟨rfl, rfl, rfl, by decide +kernel, rfl, by decide +kernel, by decide +kernel⟩
theorem ok_l_most {P : Program} {w : World} {K : PySem.W.Frag} {mg : Str → Option Value} {base : Heap} (T : Tx K mg) : Ok P w K mg base CX0 1 687 ["_law_at"] (sp_l_most) := by
  refine ok0 0 (f_l_most T) sc_l_most (fun _ _ _ _ _ _ us hl => match us, hl with | [_], _ => rfl) (fun vs H Q E h => ?_) (fun cdv A outer sh H vs Q E room h => ?_)
  · obtain ⟨n, rfl, hn, hn2, k⟩ := h
    rfl
  · obtain ⟨n, rfl, hn, hn2, k⟩ := h
    refine ⟨_,     (pss_cons (ps_if (PW.pt (pw_or (pt_cmpR op_lt (pv 0) pe_int (nomark _)) (pw_or1 (pt_cmpR op_eq (pv 0) pe_int (nomark _)))))
          (pss_one (ps_ret pe_int)) pss_nil)
        (pss_cons (ps_if (pt_cmpR op_lt (pv 0) pe_int (nomark _))
          (pss_one (ps_ret pe_int)) pss_nil)
        (pss_one (ps_ret (pe_ix (ix_listK K) (pe_lst (pa_cons pe_int (pa_cons pe_int pa_nil))) (pe_op op_sub (pv 0) pe_int) (fun _ _ => rfl)))))), ?_⟩
    show (_ : TS) _ [_] _
    fail "bm_go"
    refine r_ifD (fun h => ?_) (fun h => ?_)
    · refine r_ifT rfl ?_
      fail "bm_go"
      exact k 255 H (Same.refl _) (by omega) (by omega) (by omega) (by omega)
    fail "bm_go"
    refine r_ifD (fun h2 => ?_) (fun h2 => ?_)
    · have h2 := V.int.inj h2
      fail "bm_go"
      exact k 255 H (Same.refl _) (by omega) (by omega) (by omega) (by omega)
    have h2 : ¬ ((n : Int) = 30) := fun e => h2 (by rw [e])
    fail "bm_go"
    refine r_ifD (fun h3 => ?_) (fun h3 => ?_)
    · fail "bm_go"
      exact k 15 H (Same.refl _) (by omega) (by omega) (by omega) (by omega)
    have h4 : n = 28 ∨ n = 29 := by omega
    rcases h4 with rfl | rfl
    all_goals
      fail "bm_go"
      intro l nl
      fail "bm_go"
    · exact k 19 _ (same_new nl) (by omega) (by omega) (by omega) (by omega)
    · exact k 5 _ (same_new nl) (by omega) (by omega) (by omega) (by omega)
/-- how many beats, how many bytes the law's own tables give -/
def sp_l_long (K : PySem.W.Frag) : Sp := fun vs H Q _ => ∃ n : Nat, vs = [.int n] ∧ n < 31 ∧ ∀ H', Same H H' → Q (.int (if 13 ≤ n ∧ n < 22 ∨ n = 30 then 1 else 2)) H'
theorem sc_l_long : FnScope ["_law_at"] ["_law_at"] (defScope s_l_long) := ⟨rfl, rfl, rfl, by decide +kernel, rfl, by decide +kernel, by decide +kernel⟩
theorem ok_l_long {P : Program} {w : World} {K : PySem.W.Frag} {mg : Str → Option Value} {base : Heap} (T : Tx K mg) : Ok P w K mg base CX0 1 694 ["_law_at"] (sp_l_long K) := by
  refine ok0 0 (f_l_long T) sc_l_long (fun _ _ _ _ _ _ us hl => match us, hl with | [_], _ => rfl) (fun vs H Q E h => ?_) (fun cdv A outer sh H vs Q E room h => ?_)
  · obtain ⟨n, rfl, hn, k⟩ := h
    rfl
  · obtain ⟨n, rfl, hn, k⟩ := h
    refine ⟨_,     (pss_one (ps_ret (pe_ix (ix_listK K) (pe_lst (pa_cons pe_int (pa_cons pe_int pa_nil))) (pe_callTy call_intN (by rfl) (n_int T) (by decide +kernel) (pa_cons (pe_or (pe_chain op_le op_lt pe_int (pv 0) pe_int) (pe_one (pe_cmpR op_eq (pv 0) pe_int (nomark _)))) pa_nil)) (fun _ _ => rfl)))), ?_⟩
    show (_ : TS) _ [_] _
    fail "bm_go"
    intro l nl
    fail "bm_go"
    have fin : ∀ (b : Bool), (b = true ↔ (13 ≤ n ∧ n < 22 ∨ n = 30)) → rIxL K (.ref l) (.int (if b = true then 1 else 0)) (upd H l (.lst [.int 2, .int 1])) Q := fun b hb => by
      cases b with
      | true =>
        have := k _ (same_new (o := .lst [.int 2, .int 1]) nl)
        rw [if_pos (hb.mp rfl)] at this
        exact r_ixL (SqL.of upd_same) (by rfl) this
      | false =>
        have := k _ (same_new (o := .lst [.int 2, .int 1]) nl)
        rw [if_neg (fun z => by have := hb.mpr z; cases this)] at this
        exact r_ixL (SqL.of upd_same) (by rfl) this
    refine r_ifD (fun h1 => ?_) (fun h1 => ?_)
    · fail "bm_go"
      refine r_ifD (fun h2 => ?_) (fun h2 => ?_)
      · fail "bm_go"
        have := k _ (same_new (o := .lst [.int 2, .int 1]) nl)
        rw [if_pos (.inl ⟨by omega, by omega⟩)] at this
        exact this
      · fail "bm_go"
        refine fin _ ?_
        rw [decide_eq_true_iff]
        exact ⟨fun e => by have := V.int.inj e; omega, fun e => by rw [show n = 30 by omega]; rfl⟩
    · fail "bm_go"
      refine fin _ ?_
      rw [decide_eq_true_iff]
      exact ⟨fun e => by have := V.int.inj e; omega, fun e => by rw [show n = 30 by omega]; rfl⟩
def beatsL : List Int := [2, 2, 2, 3, 3, 3, 3, 3, 3, 3, 3, 4, 4, 2, 2, 2, 2, 2, 2, 2, 3, 2, 3, 2, 2, 2, 2, 4, 3, 3, 0]
def sp_l_beats (K : PySem.W.Frag) : Sp := fun vs H Q _ => ∃ (n : Nat) (m : Int), vs = [.int n] ∧ beatsL[n]? = some m ∧ ∀ H', Same H H' → Q (.int m) H'
theorem sc_l_beats : FnScope ["_law_at"] ["_law_at"] (defScope s_l_beats) := ⟨rfl, rfl, rfl, by decide +kernel, rfl, by decide +kernel, by decide +kernel⟩
theorem ok_l_beats {P : Program} {w : World} {K : PySem.W.Frag} {mg : Str → Option Value} {base : Heap} (T : Tx K mg) : Ok P w K mg base CX0 1 701 ["_law_at"] (sp_l_beats K) := by
  refine ok0 0 (f_l_beats T) sc_l_beats (fun _ _ _ _ _ _ us hl => match us, hl with | [_], _ => rfl) (fun vs H Q E h => ?_) (fun cdv A outer sh H vs Q E room h => ?_)
  · obtain ⟨n, m, rfl, hm, k⟩ := h
    rfl
  · obtain ⟨n, m, rfl, hm, k⟩ := h
    refine ⟨_,     (pss_one (ps_ret (pe_ix (ix_listK K) (pe_lst (pa_cons pe_int (pa_cons pe_int (pa_cons pe_int (pa_cons pe_int (pa_cons pe_int (pa_cons pe_int (pa_cons pe_int (pa_cons pe_int (pa_cons pe_int (pa_cons pe_int (pa_cons pe_int (pa_cons pe_int (pa_cons pe_int (pa_cons pe_int (pa_cons pe_int (pa_cons pe_int (pa_cons pe_int (pa_cons pe_int (pa_cons pe_int (pa_cons pe_int (pa_cons pe_int (pa_cons pe_int (pa_cons pe_int (pa_cons pe_int (pa_cons pe_int (pa_cons pe_int (pa_cons pe_int (pa_cons pe_int (pa_cons pe_int (pa_cons pe_int (pa_cons pe_int pa_nil)))))))))))))))))))))))))))))))) (pv 0) (fun _ _ => rfl)))), ?_⟩
    show (_ : TS) _ [_] _
    fail "bm_go"
    intro l nl
    have ix : atI (beatsL.map V.int) (n : Int) = some (.int m) := atI_nat (by rw [List.getElem?_map, hm]; rfl)
    refine r_var rfl ?_
    exact r_ixL (SqL.of upd_same) ix (k _ (same_new nl))
def alph : List Str := ["a", "b", "c", "d"]
def sp_l_name : Sp := fun vs H Q _ => ∃ (n : Nat) (z : Str), vs = [.int n] ∧ alph[n]? = some z ∧ Q (.str z) H
theorem sc_l_name : FnScope ["_law_k"] ["_law_k"] (defScope s_l_name) := ⟨rfl, rfl, rfl, by decide +kernel, rfl, by decide +kernel, by decide +kernel⟩
theorem ok_l_name {P : Program} {w : World} {K : PySem.W.Frag} {mg : Str → Option Value} {base : Heap} (T : Tx K mg) : Ok P w K mg base CX0 1 708 ["_law_k"] (sp_l_name) := by
  refine ok0 0 (f_l_name T) sc_l_name (fun _ _ _ _ _ _ us hl => match us, hl with | [_], _ => rfl) (fun vs H Q E h => ?_) (fun cdv A outer sh H vs Q E room h => ?_)
  · obtain ⟨n, z, rfl, hz, k⟩ := h
    rfl
  · obtain ⟨n, z, rfl, hz, k⟩ := h
    refine ⟨_,     (pss_one (ps_ret (pe_op op_mulS (pe_ix ix_str pe_str (pe_op op_mod (pv 0) pe_int) (fun _ _ => rfl)) (pe_op op_add pe_int (pe_op op_mod (pe_op op_fdiv (pv 0) pe_int) pe_int))))), ?_⟩
    show (_ : TS) _ [_] _
    have hn : n = 0 ∨ n = 1 ∨ n = 2 ∨ n = 3 := by
      have := (List.getElem?_eq_some_iff.mp hz).1
      have e : alph.length = 4 := rfl
      omega
    rcases hn with rfl | rfl | rfl | rfl
    all_goals
      cases hz
      fail "bm_go"
      refine ⟨_, _, _, rfl, rfl, (by decide +kernel), (by rfl), ?_⟩
      fail "bm_go"
      exact r_mulS k
def IntsAt (H : Hp) (l : Addr) (n : Nat) : Prop := ∃ is : List Int, is.length = n ∧ H l = some (.lst (is.map V.int))
theorem IntsAt.same {H H' : Hp} {l : Addr} {n : Nat} (h : IntsAt H l n) (s : Same H H') : IntsAt H' l n := by
  obtain ⟨is, h1, h2⟩ := h
  exact ⟨is, h1, s _ _ h2⟩
theorem all_ints : ∀ (ws : List V), (∀ (i : Nat) (v : V), ws[i]? = some v → ∃ n : Int, v = .int n) → ∃ is : List Int, ws = is.map V.int
  | [], _ => ⟨[], rfl⟩
  | w :: ws, h => by
    obtain ⟨n, rfl⟩ := h 0 w rfl
    obtain ⟨is, rfl⟩ := all_ints ws fun i v e => h (i + 1) v (by simpa using e)
    exact ⟨n :: is, rfl⟩
def sp_l_deck (K : PySem.W.Frag) : Sp := fun vs H Q _ => ∃ (a : Addr) (ns : List Int), vs = [.ref a, .int 400] ∧ SqL K H a (ns.map V.int) ∧ ∀ (d : Addr) (H' : Hp), Same H H' → H d = none → DeckAt H' d → Q (.ref d) H'
theorem sc_l_deck : FnScope ["_law_script", "_law_many", "_law_own", "_law_rest", "_law_deck_here", "_law_k", "_law_at", "_law_cell"] ["_law_script", "_law_many"] (defScope s_l_deck) := ⟨rfl, rfl, rfl, by decide +kernel, rfl, by decide +kernel, by decide +kernel⟩
theorem ok_l_deck {P : Program} {w : World} {K : PySem.W.Frag} {mg : Str → Option Value} {base : Heap} (T : Tx K mg) : Ok P w K mg base CX0 2 666 ["_law_script", "_law_many"] (sp_l_deck K) := by
  refine ok0 1 (f_l_deck T) sc_l_deck (fun _ _ _ _ _ _ us hl => match us, hl with | [_, _], _ => rfl) (fun vs H Q E h => ?_) (fun cdv A outer sh H vs Q E room h => ?_)
  · obtain ⟨a, ns, rfl, hns, k⟩ := h
    rfl
  · obtain ⟨a, ns, rfl, hns, k⟩ := h
    refine ⟨_,     (pss_cons (ps_set (i := 2) sc_l_deck.nd rfl (Or.inl rfl) (pe_op op_cat (pe_callTy (call_lstK K) (by rfl) (n_list T) (by decide +kernel) (pa_cons (pe_slice (sl_listK K) (pv 0) po_none (po_some pe_int)) pa_nil)) (pe_op op_rep (pe_lst (pa_cons pe_int pa_nil)) (pe_callTy call_intN (by rfl) (n_int T) (by decide +kernel) (pa_cons (pe_cmpR op_eq (pe_callB (call_lenK K) (by rfl) (n_len T) (by decide +kernel) (pa_cons (pv 0) pa_nil)) pe_int (nomark _)) pa_nil)))))
        (pss_cons (ps_setLc (i := 3) (own := [("_law_cell", 7)]) rfl sc_l_deck.nd rfl rfl (sw_true rfl rfl rfl (by decide +kernel)) (pi_listK K (pv 2)) (blkOk_by (N := ["_law_script", "_law_many", "_law_own", "_law_rest", "_law_deck_here", "_law_k", "_law_at", "_law_cell"]) (sc := defScope s_l_deck) (by decide +kernel)) (fun _ _ _ _ _ => (pg_name (i := 7) sc_l_deck.nd rfl (Or.inl rfl))) (fun _ _ _ _ _ => pts_nil) (fun _ _ _ _ _ => (pe_op op_mul (pv 7) (pe_callTy call_intN (by rfl) (n_int T) (by decide +kernel) (pa_cons (pe_cmpR op_ge (pv 7) (pe_op op_pow pe_int pe_int) (nomark _)) pa_nil)))))
        (pss_cons (ps_set (i := 4) sc_l_deck.nd rfl (Or.inl rfl) (pe_lst pa_nil))
        (pss_cons (ps_for PassesOwn.never rfl (pi_range1 rfl (n_range T) (pa_cons (pv 1) pa_nil)) (pg_name (i := 5) sc_l_deck.nd rfl (Or.inl rfl))
          (pss_cons (ps_set (i := 6) sc_l_deck.nd rfl (Or.inl rfl) (pe_op op_mod (pv 5) (pe_callB (call_lenK K) (by rfl) (n_len T) (by decide +kernel) (pa_cons (pv 2) pa_nil))))
          (pss_one (ps_if (pt_cmpR op_gt (pe_ix (ix_listK K) (pv 3) (pv 6) (fun _ _ => rfl)) pe_int (nomark _))
            (pss_cons (ps_expr (pe_bmK K PySem.F.plainAttrs_list PySem.F.slot_list_append PySem.F.type_list_append mt_append (pv 4) (pa_cons (pe_op op_mod (pe_ix (ix_listK K) (pv 3) (pv 6) (fun _ _ => rfl)) pe_int) pa_nil)))
            (pss_one (ps_asg (pe_op op_fdiv (pe_ix (ix_listK K) (pv 3) (pv 6) (fun _ _ => rfl)) pe_int) (pg_sub (pv 3) (pv 6) set_list))))
            (pss_one (ps_expr (pe_bmK K PySem.F.plainAttrs_list PySem.F.slot_list_append PySem.F.type_list_append mt_append (pv 4) (pa_cons (pe_op op_mod (pc (ok_l_mixed (K := K) T) (room.mono (by decide)) rfl (g__law_mixed T) pass0 (pa_cons (pe_ix (ix_listK K) (pv 2) (pv 6) (fun _ _ => rfl)) (pa_cons (pe_op op_add (pv 5) pe_int) pa_nil))) pe_int) pa_nil))))))))
        (pss_one (ps_ret (pe_lstRevK K rfl rfl (n_list T) rfl (n_reversed T) (pv 4)))))))), ?_⟩
    show (_ : TS) _ [_, _, none, none, none, none, none, none] _
    fail "bm_go"
    refine ⟨a, _, rfl, hns, fun p1 np1 => ?_⟩
    rw [show (60 : Int) = ((60 : Nat) : Int) from rfl, cutV_to, ← List.map_take]
    have s1 := same_new (o := .lst ((ns.take 60).map V.int)) np1
    fail "bm_go"
    refine ⟨p1, _, rfl, .inl (SqL.of upd_same), fun p2 np2 => ?_⟩
    have s2 := s1.trans (same_new (o := .lst ((ns.take 60).map V.int)) np2)
    have hp2 : upd (upd H p1 (.lst ((ns.take 60).map V.int))) p2 (.lst ((ns.take 60).map V.int)) p2 = some (.lst ((ns.take 60).map V.int)) := upd_same
    fail "bm_go"
    intro p3 np3
    have s3 := s2.trans (same_new (o := .lst [V.int 0]) np3)
    have hp3 := gN (o := .lst [V.int 0]) np3 hp2
    have hns3 := s3.seq hns
    fail "bm_go"
    refine ⟨p3, _, _, rfl, rfl, upd_same, ?_, ?_, ?_, fun p4 np4 => ?_⟩
    · split <;> omega
    · split <;> omega
    · split <;> decide
    have hlen : ∃ rs : List Int, (List.replicate (if decide (V.int (ns.map V.int).length = V.int 0) = true then (1 : Int) else 0).toNat [V.int 0]).flatten = rs.map V.int ∧ rs.length ≤ 1 ∧ 0 < (ns.take 60 ++ rs).length := by
      by_cases h : ns = []
      · subst h
        exact ⟨[0], rfl, by simp, by simp⟩
      · have hl := List.length_pos_iff.mpr h
        rw [if_neg (by rw [decide_eq_true_iff]; intro e; have := V.int.inj e; rw [List.length_map] at this; omega)]
        exact ⟨[], rfl, by simp, by simp; omega⟩
    obtain ⟨rs, hrs, hrl, hpos⟩ := hlen
    have hp4 := gN (o := .lst (rs.map V.int)) np4 hp3
    have s4 := s3.trans (same_new (o := .lst (rs.map V.int)) np4)
    rw [hrs]
    refine r_catL hp4 upd_same (by simp; omega) fun ow now => ?_
    rw [← List.map_append]
    have s5 := s4.trans (same_new (o := .lst ((ns.take 60 ++ rs).map V.int)) now)
    have how : upd (upd (upd (upd (upd H p1 (.lst ((ns.take 60).map V.int))) p2 (.lst ((ns.take 60).map V.int))) p3 (.lst [V.int 0])) p4 (.lst (rs.map V.int))) ow (.lst ((ns.take 60 ++ rs).map V.int)) ow = some (.lst ((ns.take 60 ++ rs).map V.int)) := upd_same
    have hosl : (ns.take 60 ++ rs).length ≤ 61 := by simp; omega
    revert s5 how
    generalize upd (upd (upd (upd (upd H p1 (.lst ((ns.take 60).map V.int))) p2 (.lst ((ns.take 60).map V.int))) p3 (.lst [V.int 0])) p4 (.lst (rs.map V.int))) ow (.lst ((ns.take 60 ++ rs).map V.int)) = H5
    generalize ns.take 60 ++ rs = os at hpos hosl ⊢
    intro s5 how
    fail "bm_go"
    refine lcL_r (R := fun _ v _ => ∃ n : Int, v = .int n) ⟨fun h _ => h, fun h _ => h⟩ (SqL.of how) (by rw [List.length_map]; omega) (fun i x H6 hx s6 Rk R0 q1 => ?_) (fun r H6 ws nr s6 hr hwl hws => ?_)
    · rw [List.getElem?_map] at hx
      cases e : os[i]? with
      | none => rw [e] at hx; cases hx
      | some c =>
        rw [e] at hx
        cases hx
        fail "bm_turn"
        fail "bm_go"
        refine ⟨_, _, rfl, rfl, ⟨by omega, by omega, by omega⟩, ?_⟩
        fail "bm_go"
        exact q1 _ _ (Same.refl _) ⟨_, rfl⟩
    obtain ⟨is, rfl⟩ := all_ints ws hws
    rw [List.length_map, List.length_map] at hwl
    have s06 := s5.trans s6
    have how6 := s6 _ _ how
    have nor : ow ≠ r := fun z => by rw [← z, how] at nr; cases nr
    fail "bm_go"
    intro d nd
    have nd0 : H d = none := s06.free nd
    have nr0 : H r = none := s5.free nr
    have ndr : r ≠ d := fun z => by rw [z, nd] at hr; cases hr
    have ndo : ow ≠ d := fun z => by rw [z, nd] at how6; cases how6
    have sd := same_new (o := .lst []) nd
    have hr7 := sd _ _ hr
    have how7 := sd _ _ how6
    have hd7 : upd H6 d (.lst []) d = some (.lst []) := upd_same
    have s07 := s06.trans sd
    revert sd hr7 how7 hd7 s07
    generalize upd H6 d (.lst []) = H7
    intro sd hr7 how7 hd7 s07
    have out : ∀ {H'}, Chs [d, r] H7 H' → Same H H' := fun c => c.out s07 fun x hx => by
      simp only [List.mem_cons, List.not_mem_nil, or_false] at hx
      rcases hx with rfl | rfl
      · exact nd0
      · exact nr0
    fail "bm_go"
    refine forN (fun n σ H' => (∃ o5 o6, σ = [some (.ref a), some (.int 400), some (.ref ow), some (.ref r), some (.ref d), o5, o6, none]) ∧ Chs [d, r] H7 H' ∧ IntsAt H' r os.length ∧ H' ow = some (.lst (os.map V.int)) ∧ ∃ ds : List Int, H' d = some (.lst (ds.map V.int)) ∧ ds.length ≤ n ∧ n ≤ 400) (by omega) (by omega) ⟨⟨none, none, rfl⟩, Chs.refl, ⟨is, hwl, hr7⟩, how7, [], hd7, by simp, by omega⟩ (fun n σ H' hn p => ?_) (fun σ H' p => ?_)
    · obtain ⟨⟨o5, o6, rfl⟩, c, ⟨js, hjl, hr8⟩, how8, ds, hd8, hdl, hn4⟩ := p
      have hn5 : n < 400 := by omega
      have hlp : ((os.map V.int).length : Int) = (os.length : Int) := by rw [List.length_map]
      have hm0 := Int.emod_nonneg (n : Int) (show (os.length : Int) ≠ 0 by omega)
      have hm1 := Int.emod_lt_of_pos (n : Int) (show (0 : Int) < (os.length : Int) by omega)
      obtain ⟨j, hj⟩ := Int.eq_ofNat_of_zero_le hm0
      rw [hj] at hm1
      have ijs : ∃ v, atI (js.map V.int) (j : Int) = some (.int v) := atI_ints (by omega) (by omega)
      have ios : ∃ v, atI (os.map V.int) (j : Int) = some (.int v) := atI_ints (by omega) (by omega)
      obtain ⟨v, iv⟩ := ijs
      obtain ⟨w, iw⟩ := ios
      fail "bm_go"
      rw [hlp, hj]
      fail "bm_go"
      refine r_ifD (fun hv => ?_) (fun hv => ?_)
      · fail "bm_go"
        refine r_app hd8 (szl (by rw [List.length_map]; omega)) ?_
        refine r_abs (d := d) hd8 trivial fun H8 c8 hd9 => ?_
        have hr9 := c8.kp _ _ ndr hr8
        have how9 := c8.kp _ _ ndo how8
        fail "bm_go"
        refine r_gsub ?_
        fail "bm_go"
        refine ⟨r, js.map V.int, _, j, rfl, rfl, hr9, ?_, ?_⟩
        · unfold ixN
          rw [if_pos (by omega), if_pos (by rw [List.length_map]; omega)]
          rfl
        · rw [← List.map_set]
          refine ⟨⟨_, _, rfl⟩, (c.chg (by simp) c8).put (by simp) hr9 trivial, ⟨_, by rw [List.length_set]; exact hjl, upd_same⟩, ?_, ds ++ [v % 1000], ?_, by simp; omega, by omega⟩
          · rw [upd_ne nor]
            exact how9
          · rw [upd_ne ndr.symm, hd9, List.map_append]
            rfl
      · fail "bm_go"
        refine ⟨w, (n : Int) + 1, rfl, by omega, by omega, fun z => ?_⟩
        fail "bm_go"
        refine r_app hd8 (szl (by rw [List.length_map]; omega)) ?_
        refine ⟨⟨_, _, rfl⟩, c.put (by simp) hd8 trivial, ⟨js, hjl, ?_⟩, ?_, ds ++ [z % 1000], ?_, by simp; omega, by omega⟩
        · rw [upd_ne ndr]
          exact hr8
        · rw [upd_ne ndo]
          exact how8
        · rw [upd_same, List.map_append]
          rfl
    · obtain ⟨⟨o5, o6, rfl⟩, c, hr8, how8, ds, hd8, hdl, hn4⟩ := p
      fail "bm_go"
      refine r_lrev ?_
      fail "bm_go"
      refine r_revE (SqL.of hd8) fun l nl => ?_
      have so := out c
      rw [← List.map_reverse]
      exact k l _ (same_mut so (so.free nl)) (so.free nl) ⟨_, upd_same⟩
end
section
/-! ## F2: the law's rows -/
local macro_rules | `(tactic| fail "bm_go1") => `(tactic| first
  | with_reducible refine r_orV ?_
  | with_reducible refine r_chain ?_
  | with_reducible refine r_bm0 ?_
  | with_reducible refine r_lrev ?_)
/-- a row's value, by the number of its deed -/
def ValOk (n : Nat) (v : V) : Prop := if 13 ≤ n ∧ n < 22 then v = .non else ∃ m : Nat, v = .int (m : Int) ∧ m < 256 ∧ (3 ≤ n → n < 13 → m < 16) ∧ (n = 28 → m < 20) ∧ (n = 29 → m < 6)
def sp_l_value (K : PySem.W.Frag) : Sp := fun vs H Q _ => ∃ (d a b : Addr) (n : Nat), vs = [.ref d, .int n, .ref a, .ref b] ∧ DeckAt H d ∧ n < 31 ∧ (n < 22 ∨ 28 ≤ n) ∧ ∀ (v : V) (H' : Hp), Chg d H H' → DeckAt H' d → ValOk n v → Q v H'
theorem sc_l_value : FnScope ["_law_deck_here", "_law_at", "_law_marks", "_law_tables", "_law_cell"] ["_law_deck_here", "_law_at", "_law_marks", "_law_tables"] (defScope s_l_value) := ⟨rfl, rfl, rfl, by decide +kernel, rfl, by decide +kernel, by decide +kernel⟩
theorem ok_l_value {P : Program} {w : World} {K : PySem.W.Frag} {mg : Str → Option Value} {base : Heap} (T : Tx K mg) : Ok P w K mg base CX0 2 715 ["_law_deck_here", "_law_at", "_law_marks", "_law_tables"] (sp_l_value K) := by
  refine ok0 1 (f_l_value T) sc_l_value (fun _ _ _ _ _ _ us hl => match us, hl with | [_, _, _, _], _ => rfl) (fun vs H Q E h => ?_) (fun cdv A outer sh H vs Q E room h => ?_)
  · obtain ⟨d, a, b, n, rfl, hd, hn, hn2, k⟩ := h
    rfl
  · obtain ⟨d, a, b, n, rfl, hd, hn, hn2, k⟩ := h
    refine ⟨_,     (pss_cons (ps_set (i := 4) sc_l_value.nd rfl (Or.inl rfl) (pc (ok_l_next (K := K) T) (room.mono (by decide)) rfl (g__law_next T) pass0 (pa_cons (pv 0) pa_nil)))
        (pss_cons (ps_if (pt_chain op_le op_lt pe_int (pv 1) pe_int)
          (pss_one (ps_ret pe_non)) pss_nil)
        (pss_cons (ps_if (pt_cmpR op_eq (pv 1) pe_int (nomark _))
          (pss_one (ps_ret (pe_ix (ix_listK K) (pv 3) (pe_op op_mod (pv 4) (pe_callB (call_lenK K) (by rfl) (n_len T) (by decide +kernel) (pa_cons (pv 3) pa_nil))) (fun _ _ => rfl)))) pss_nil)
        (pss_cons (ps_if (pt_chain op_le op_lt pe_int (pv 1) pe_int)
          (pss_one (ps_ret (pe_ix (ix_listK K) (pv 2) (pe_op op_mod (pv 4) (pe_callB (call_lenK K) (by rfl) (n_len T) (by decide +kernel) (pa_cons (pv 2) pa_nil))) (fun _ _ => rfl)))) pss_nil)
        (pss_one (ps_ret (pe_op op_mod (pv 4) (pe_op op_add (pc (ok_l_most (K := K) T) (room.mono (by decide)) rfl (g__law_most T) pass0 (pa_cons (pv 1) pa_nil)) pe_int)))))))), ?_⟩
    show (_ : TS) _ [_, _, _, _, none] _
    fail "bm_go"
    refine ⟨d, rfl, hd, fun c H1 c1 hd1 => ?_⟩
    fail "bm_go"
    have none_ok : 13 ≤ n → n < 22 → Q .non H1 := fun h1 h2 => k _ _ c1 hd1 (by unfold ValOk; rw [if_pos ⟨h1, h2⟩])
    have hc : (13 ≤ n ∧ n < 22) ∨ n < 13 ∨ 28 ≤ n := by omega
    rcases hc with ⟨h1, h2⟩ | h1 | h1
    · refine r_ifT (decide_eq_true (by omega)) ?_
      fail "bm_go"
      refine r_ifT (decide_eq_true (by omega)) ?_
      fail "bm_go"
      exact none_ok h1 h2
    · refine r_ifF (decide_eq_false (by omega)) ?_
      fail "bm_go"
      refine r_ifF (decide_eq_false (fun e => by have := V.int.inj e; omega)) ?_
      fail "bm_go"
      refine r_ifF (decide_eq_false (by omega)) ?_
      fail "bm_go"
      refine ⟨n, rfl, hn, by omega, fun m H2 s2 h1 h2 h3 h4 => ?_⟩
      fail "bm_go"
      have m0 := Int.emod_nonneg c (show ((m : Int) + 1) ≠ 0 by omega)
      have m1 := Int.emod_lt_of_pos c (show (0 : Int) < (m : Int) + 1 by omega)
      obtain ⟨z, hz⟩ := Int.eq_ofNat_of_zero_le m0
      have := k (.int (c % ((m : Int) + 1))) H2 (c1.step s2) (hd1.same s2) (by
        unfold ValOk
        rw [if_neg (by omega), hz]
        rw [hz] at m1
        exact ⟨z, rfl, by omega, fun a b => by have := h1 a b; omega, fun a => by have := h2 a; omega, fun a => by have := h3 a; omega⟩)
      exact this
    · refine r_ifT (decide_eq_true (by omega)) ?_
      fail "bm_go"
      refine r_ifF (decide_eq_false (by omega)) ?_
      fail "bm_go"
      refine r_ifF (decide_eq_false (fun e => by have := V.int.inj e; omega)) ?_
      fail "bm_go"
      refine r_ifT (decide_eq_true (by omega)) ?_
      fail "bm_go"
      refine r_ifF (decide_eq_false (by omega)) ?_
      fail "bm_go"
      refine ⟨n, rfl, hn, by omega, fun m H2 s2 h1 h2 h3 h4 => ?_⟩
      fail "bm_go"
      have m0 := Int.emod_nonneg c (show ((m : Int) + 1) ≠ 0 by omega)
      have m1 := Int.emod_lt_of_pos c (show (0 : Int) < (m : Int) + 1 by omega)
      obtain ⟨z, hz⟩ := Int.eq_ofNat_of_zero_le m0
      have := k (.int (c % ((m : Int) + 1))) H2 (c1.step s2) (hd1.same s2) (by
        unfold ValOk
        rw [if_neg (by omega), hz]
        rw [hz] at m1
        exact ⟨z, rfl, by omega, fun a b => by have := h1 a b; omega, fun a => by have := h2 a; omega, fun a => by have := h3 a; omega⟩)
      exact this
/-- rows in a list -/
def RowsAt (K : PySem.W.Frag) (H : Hp) (l : Addr) (rs : List Row) : Prop := ∃ as : List Addr, H l = some (.lst (as.map V.ref)) ∧ as.length = rs.length ∧ ∀ (i : Nat) (a : Addr) (r : Row), as[i]? = some a → rs[i]? = some r → SqT K H a (rowV r)
theorem RowsAt.same {K : PySem.W.Frag} {H H' : Hp} {l : Addr} {rs : List Row} (h : RowsAt K H l rs) (s : Same H H') : RowsAt K H' l rs := by
  obtain ⟨as, h1, h2, h3⟩ := h
  exact ⟨as, s _ _ h1, h2, fun i a r x y => sqT_same s (h3 i a r x y)⟩
theorem RowsAt.chg {K : PySem.W.Frag} {H H' : Hp} {l d : Addr} {rs : List Row} (h : RowsAt K H l rs) (c : Chg d H H') (n : l ≠ d) : RowsAt K H' l rs := by
  obtain ⟨as, h1, h2, h3⟩ := h
  exact ⟨as, c.kp _ _ n h1, h2, fun i a r x y => sqT_chg c (h3 i a r x y)⟩
/-- a row that is good in every program, bears no mark and is no go -/
def Straight (r : Row) : Prop := r.m = "" ∧ r.d ≠ "go" ∧ ∀ P, RowOk P r
def straightL : List Int := [0, 1, 3, 4, 5, 6, 7, 8, 10, 11, 12, 13, 14, 18, 19, 20, 28, 29, 28, 28]
def deedS (n : Nat) : Str := match deedsV[n]? with
  | some (.str z) => z
  | _ => ""
theorem straight_ok {n : Nat} {v : V} (h : (n : Int) ∈ straightL) (hv : ValOk n v) : Straight ⟨"", deedS n, v⟩ := by
  unfold straightL at h
  simp only [List.mem_cons, List.not_mem_nil, or_false] at h
  have hn : n = 0 ∨ n = 1 ∨ n = 3 ∨ n = 4 ∨ n = 5 ∨ n = 6 ∨ n = 7 ∨ n = 8 ∨ n = 10 ∨ n = 11 ∨ n = 12 ∨ n = 13 ∨ n = 14 ∨ n = 18 ∨ n = 19 ∨ n = 20 ∨ n = 28 ∨ n = 29 := by omega
  clear h
  unfold ValOk at hv
  have byte : ∀ d : Str, d ∈ byteDs → d ≠ "go" → (∃ m : Nat, v = .int (m : Int)) → Straight ⟨"", d, v⟩ := fun d hd hg ⟨m, e⟩ => ⟨rfl, hg, fun P => by rw [e]; exact .byte _ _ _ hd⟩
  have mem : ∀ d : Str, d ∈ memDs → d ≠ "go" → (∃ m : Nat, v = .int (m : Int) ∧ m < 16) → Straight ⟨"", d, v⟩ := fun d hd hg ⟨m, e, hm⟩ => ⟨rfl, hg, fun P => by rw [e]; exact .mem _ _ _ hd hm⟩
  have plain : ∀ d : Str, d ∈ plainDs → d ≠ "go" → v = .non → Straight ⟨"", d, v⟩ := fun d hd hg e => ⟨rfl, hg, fun P => by rw [e]; exact .plain _ _ hd⟩
  have num : ∀ {q : Prop} [Decidable q] {p : Nat → Prop}, ¬ q → (if q then v = V.non else ∃ m : Nat, v = V.int (m : Int) ∧ p m) → ∃ m : Nat, v = V.int (m : Int) ∧ p m := fun hq h => by rwa [if_neg hq] at h
  rcases hn with rfl | rfl | rfl | rfl | rfl | rfl | rfl | rfl | rfl | rfl | rfl | rfl | rfl | rfl | rfl | rfl | rfl | rfl
  · obtain ⟨m, e, _⟩ := num (by omega) hv; exact byte "set" (by decide +kernel) (by decide +kernel) ⟨m, e⟩
  · obtain ⟨m, e, _⟩ := num (by omega) hv; exact byte "test" (by decide +kernel) (by decide +kernel) ⟨m, e⟩
  · obtain ⟨m, e, _, h, _⟩ := num (by omega) hv; exact mem "get" (by decide +kernel) (by decide +kernel) ⟨m, e, h (by omega) (by omega)⟩
  · obtain ⟨m, e, _, h, _⟩ := num (by omega) hv; exact mem "put" (by decide +kernel) (by decide +kernel) ⟨m, e, h (by omega) (by omega)⟩
  · obtain ⟨m, e, _, h, _⟩ := num (by omega) hv; exact mem "add" (by decide +kernel) (by decide +kernel) ⟨m, e, h (by omega) (by omega)⟩
  · obtain ⟨m, e, _, h, _⟩ := num (by omega) hv; exact mem "sub" (by decide +kernel) (by decide +kernel) ⟨m, e, h (by omega) (by omega)⟩
  · obtain ⟨m, e, _, h, _⟩ := num (by omega) hv; exact mem "mask" (by decide +kernel) (by decide +kernel) ⟨m, e, h (by omega) (by omega)⟩
  · obtain ⟨m, e, _, h, _⟩ := num (by omega) hv; exact mem "flip" (by decide +kernel) (by decide +kernel) ⟨m, e, h (by omega) (by omega)⟩
  · obtain ⟨m, e, _, h, _⟩ := num (by omega) hv; exact mem "putx" (by decide +kernel) (by decide +kernel) ⟨m, e, h (by omega) (by omega)⟩
  · obtain ⟨m, e, _, h, _⟩ := num (by omega) hv; exact mem "lay" (by decide +kernel) (by decide +kernel) ⟨m, e, h (by omega) (by omega)⟩
  · obtain ⟨m, e, _, h, _⟩ := num (by omega) hv; exact mem "take" (by decide +kernel) (by decide +kernel) ⟨m, e, h (by omega) (by omega)⟩
  · exact plain "half" (by decide +kernel) (by decide +kernel) (by rwa [if_pos (by omega)] at hv)
  · exact plain "twice" (by decide +kernel) (by decide +kernel) (by rwa [if_pos (by omega)] at hv)
  · exact plain "toa" (by decide +kernel) (by decide +kernel) (by rwa [if_pos (by omega)] at hv)
  · exact plain "rest" (by decide +kernel) (by decide +kernel) (by rwa [if_pos (by omega)] at hv)
  · exact plain "idle" (by decide +kernel) (by decide +kernel) (by rwa [if_pos (by omega)] at hv)
  · obtain ⟨m, e, _, _, h, _⟩ := num (by omega) hv
    exact ⟨rfl, show ("door" : Str) ≠ "go" by decide +kernel, fun P => by rw [e]; exact .door "" m (h rfl)⟩
  · obtain ⟨m, e, _, _, _, h⟩ := num (by omega) hv
    exact ⟨rfl, show ("eye" : Str) ≠ "go" by decide +kernel, fun P => by rw [e]; exact .eye "" m (h rfl)⟩
theorem RowsAt.app {K : PySem.W.Frag} {H : Hp} {l a : Addr} {rs : List Row} {r : Row} (h : RowsAt K H l rs) (ha : SqT K H a (rowV r)) {xs : List V} (hx : H l = some (.lst xs)) : RowsAt K (upd H l (.lst (xs ++ [.ref a]))) l (rs ++ [r]) := by
  obtain ⟨as, h1, h2, h3⟩ := h
  rw [hx] at h1
  cases h1
  have im := Im.mut (o := .lst (as.map V.ref ++ [.ref a])) hx trivial
  refine ⟨as ++ [a], by rw [upd_same, List.map_append]; rfl, by simp [h2], fun i b q x y => sqT_im im ?_⟩
  by_cases hi : i < as.length
  · rw [List.getElem?_append_left hi] at x
    rw [List.getElem?_append_left (by omega)] at y
    exact h3 i b q x y
  · have hi2 := (List.getElem?_eq_some_iff.mp x).1
    have e : i = as.length := by simp at hi2; omega
    subst e
    have e1 : a = b := by simpa using x
    have e2 : r = q := by
      rw [h2] at y
      simpa using y
    subst e1 e2
    exact ha
def sp_l_straight (K : PySem.W.Frag) : Sp := fun vs H Q _ => ∃ (d : Addr) (n : Int), vs = [.ref d, .int n] ∧ DeckAt H d ∧ 0 ≤ n ∧ n ≤ 20 ∧ ∀ (l : Addr) (rs : List Row) (H' : Hp), Chg d H H' → DeckAt H' d → H l = none → RowsAt K H' l rs → (∀ r ∈ rs, Straight r) → (rs.length : Int) = n → l ≠ d → Q (.ref l) H'
theorem sc_l_straight : FnScope ["_law_deck_here", "_law_many", "_law_rows", "_law_k", "_law_at", "_law_value_here"] ["_law_deck_here", "_law_many"] (defScope s_l_straight) := ⟨rfl, rfl, rfl, by decide +kernel, rfl, by decide +kernel, by decide +kernel⟩
theorem ok_l_straight {P : Program} {w : World} {K : PySem.W.Frag} {mg : Str → Option Value} {base : Heap} (T : Tx K mg) : Ok P w K mg base CX0 3 722 ["_law_deck_here", "_law_many"] (sp_l_straight K) := by
  refine ok0 2 (f_l_straight T) sc_l_straight (fun _ _ _ _ _ _ us hl => match us, hl with | [_, _], _ => rfl) (fun vs H Q E h => ?_) (fun cdv A outer sh H vs Q E room h => ?_)
  · obtain ⟨d, n, rfl, hd, h0, h1, k⟩ := h
    rfl
  · obtain ⟨d, n, rfl, hd, h0, h1, k⟩ := h
    refine ⟨_,     (pss_cons (ps_set (i := 2) sc_l_straight.nd rfl (Or.inl rfl) (pe_lst pa_nil))
        (pss_cons (ps_for PassesOwn.never rfl (pi_range1 rfl (n_range T) (pa_cons (pv 1) pa_nil)) (pg_name (i := 3) sc_l_straight.nd rfl (Or.inl rfl))
          (pss_cons (ps_set (i := 4) sc_l_straight.nd rfl (Or.inl rfl) (pe_ix (ix_listK K) (pe_lst (pa_cons pe_int (pa_cons pe_int (pa_cons pe_int (pa_cons pe_int (pa_cons pe_int (pa_cons pe_int (pa_cons pe_int (pa_cons pe_int (pa_cons pe_int (pa_cons pe_int (pa_cons pe_int (pa_cons pe_int (pa_cons pe_int (pa_cons pe_int (pa_cons pe_int (pa_cons pe_int (pa_cons pe_int (pa_cons pe_int (pa_cons pe_int (pa_cons pe_int pa_nil))))))))))))))))))))) (pe_op op_mod (pc (ok_l_next (K := K) T) (room.mono (by decide)) rfl (g__law_next T) pass0 (pa_cons (pv 0) pa_nil)) pe_int) (fun _ _ => rfl)))
          (pss_cons (ps_set (i := 5) sc_l_straight.nd rfl (Or.inl rfl) (pc (ok_l_value (K := K) T) (room.mono (by decide)) rfl (g__law_value T) pass0 (pa_cons (pv 0) (pa_cons (pv 4) (pa_cons (pe_lst pa_nil) (pa_cons (pe_lst pa_nil) pa_nil))))))
          (pss_cons (ps_if (pt_cmpR op_eq (pv 4) pe_int (nomark _))
            (pss_one (ps_set (i := 5) sc_l_straight.nd rfl (Or.inl rfl) (pe_op op_add pe_int (pe_op op_mod (pv 5) pe_int)))) pss_nil)
          (pss_one (ps_expr (pe_bmK K PySem.F.plainAttrs_list PySem.F.slot_list_append PySem.F.type_list_append mt_append (pv 2) (pa_cons (pe_tup (pa_cons pe_str (pa_cons (pe_ix (ix_listK K) (pc0 (ok_l_deeds (K := K) T) (room.mono (by decide)) rfl (g__law_deeds T) pass0) (pv 4) (fun _ _ => rfl)) (pa_cons (pv 5) pa_nil)))) pa_nil))))))))
        (pss_one (ps_ret (pv 2))))), ?_⟩
    show (_ : TS) _ [_, _, none, none, none, none] _
    fail "bm_go"
    intro l nl
    have s1 := same_new (o := .lst []) nl
    have nld : l ≠ d := fun z => by
      obtain ⟨ns, h⟩ := hd
      rw [z, h] at nl
      cases nl
    have hd1 := hd.same s1
    have hr1 : RowsAt K (upd H l (.lst [])) l [] := ⟨[], upd_same, rfl, by simp⟩
    revert s1 hd1 hr1
    generalize upd H l (.lst []) = H1
    intro s1 hd1 hr1
    fail "bm_go"
    refine forN (fun i σ H' => (∃ o3 o4 o5, σ = [some (.ref d), some (.int n), some (.ref l), o3, o4, o5]) ∧ Chs [d, l] H1 H' ∧ DeckAt H' d ∧ ∃ rs, RowsAt K H' l rs ∧ (∀ r ∈ rs, Straight r) ∧ rs.length = i) (by omega) (by omega) ⟨⟨none, none, none, rfl⟩, Chs.refl, hd1, [], hr1, by simp, rfl⟩ (fun i σ H' hi p => ?_) (fun σ H' p => ?_)
    · obtain ⟨⟨o3, o4, o5, rfl⟩, c, hd2, rs, hr2, hst, hln⟩ := p
      fail "bm_go"
      intro p np
      have s2 := same_new (o := .lst (straightL.map V.int)) np
      have hp2 : upd H' p (.lst (straightL.map V.int)) p = some (.lst (straightL.map V.int)) := upd_same
      have hd3 := hd2.same s2
      have hr3 := hr2.same s2
      have npd : p ≠ d := fun z => by
        obtain ⟨ns, h⟩ := hd2
        rw [z, h] at np
        cases np
      have c2 := c.step s2
      change tOp _ _ _ _ (upd H' p (.lst (straightL.map V.int))) _
      revert s2 hp2 hd3 hr3 c2
      generalize upd H' p (.lst (straightL.map V.int)) = H2
      intro s2 hp2 hd3 hr3 c2
      fail "bm_go"
      refine ⟨d, rfl, hd3, fun cc H3 c3 hd4 => ?_⟩
      have hp3 := c3.kp _ _ npd hp2
      have hr4 := hr3.chg c3 nld
      have m0 := Int.emod_nonneg cc (show (20 : Int) ≠ 0 by omega)
      have m1 := Int.emod_lt_of_pos cc (show (0 : Int) < 20 by omega)
      obtain ⟨x, hx⟩ := atI_ints (ds := straightL) m0 m1
      have hxm : x ∈ straightL := by
        obtain ⟨j, hj⟩ := Int.eq_ofNat_of_zero_le m0
        rw [hj, show atI (straightL.map V.int) (j : Int) = (straightL.map V.int)[j]? from ?_] at hx
        · rw [List.getElem?_map] at hx
          cases e : straightL[j]? with
          | none => rw [e] at hx; cases hx
          | some y =>
            rw [e] at hx
            cases hx
            exact List.mem_of_getElem? e
        · rw [hj] at m1
          exact (atI_nat (List.getElem?_eq_getElem (by rw [List.length_map]; exact (by omega : j < 20)))).trans (List.getElem?_eq_getElem _).symm
      have hx0 : ∀ y ∈ straightL, (0 : Int) ≤ y ∧ y < 31 ∧ (y < 22 ∨ 28 ≤ y) := by decide
      obtain ⟨g0, g1, g2⟩ := hx0 x hxm
      obtain ⟨z, rfl⟩ := Int.eq_ofNat_of_zero_le g0
      fail "bm_go"
      intro e1 n1
      have s4 := same_new (o := .lst []) n1
      fail "bm_go"
      intro e2 n2
      have s5 := s4.trans (same_new (o := .lst []) n2)
      fail "bm_go"
      refine ⟨d, e1, e2, z, rfl, hd4.same s5, by omega, by omega, fun v H6 c6 hd6 hv => ?_⟩
      have hr6 := (hr4.same s5).chg c6 nld
      have c26 := (((c2.chg (by simp) c3).step s5).chg (by simp) c6)
      have fin : ∀ (w : V), ValOk z w → ∀ (lb : Addr) (H7 : Hp), Same H6 H7 → H7 lb = some (.lst deedsV) → ∀ t, H7 t = none → ∃ xs, H7 l = some (.lst xs) ∧ xs.length < 100000 ∧ Chs [d, l] H1 (upd (upd H7 t (.tup [.str "", .str (deedS z), w])) l (.lst (xs ++ [.ref t]))) ∧ DeckAt (upd (upd H7 t (.tup [.str "", .str (deedS z), w])) l (.lst (xs ++ [.ref t]))) d ∧
          ∃ rs, RowsAt K (upd (upd H7 t (.tup [.str "", .str (deedS z), w])) l (.lst (xs ++ [.ref t]))) l rs ∧ (∀ r ∈ rs, Straight r) ∧ rs.length = i + 1 := fun w hw lb H7 s7 _ t nt => by
        have st := same_new (o := .tup [.str "", .str (deedS z), w]) nt
        have hr7 := (hr6.same s7).same st
        obtain ⟨as, g1, g2, g3⟩ := id hr7
        obtain ⟨as', g1', _⟩ := hr6.same s7
        have eas : as.map V.ref = as'.map V.ref := by
          have := st _ _ g1'
          rw [g1] at this
          exact HO.lst.inj (Option.some.inj this)
        refine ⟨as.map V.ref, by rw [eas]; exact g1', by rw [List.length_map, g2]; omega, ((c26.step s7).step st).put (by simp) g1 trivial, ?_, rs ++ [⟨"", deedS z, w⟩], hr7.app (SqT.of upd_same) g1, fun r hr => ?_, by simp [hln]⟩
        · obtain ⟨ns, h⟩ := (hd6.same s7).same st
          exact ⟨ns, by rw [upd_ne nld.symm]; exact h⟩
        · rcases List.mem_append.mp hr with hr | hr
          · exact hst r hr
          · rw [List.mem_singleton.mp hr]
            exact straight_ok hxm hw
      have ix : atI deedsV (z : Int) = some (.str (deedS z)) := by
        have all : ∀ y ∈ straightL, atI deedsV y = some (.str (deedS y.toNat)) := by decide +kernel
        exact all _ hxm
      obtain ⟨as0, g00, _⟩ := id hr6
      fail "bm_go"
      refine r_ifD (fun hz => ?_) (fun hz => ?_)
      · have hz : z = 28 := by
          have := V.int.inj hz
          omega
        obtain ⟨m, rfl, hm⟩ : ∃ m : Nat, v = .int (m : Int) ∧ m < 256 := by
          unfold ValOk at hv
          rw [if_neg (by omega)] at hv
          obtain ⟨m, e, h, _⟩ := hv
          exact ⟨m, e, h⟩
        have hw : ValOk z (.int (1 + (m : Int) % 19)) := by
          unfold ValOk
          rw [if_neg (by omega)]
          exact ⟨1 + m % 19, by congr 1, by omega, fun a b => by omega, fun _ => by omega, fun _ => by omega⟩
        fail "bm_go"
        refine ⟨rfl, fun lb H7 s7 h7 => ?_⟩
        fail "bm_go"
        intro t nt
        obtain ⟨xs, f1, f2, f3, f4, f5⟩ := fin _ hw lb H7 s7 h7 t nt
        fail "bm_go"
        refine r_app (gN nt f1) (szl f2) ?_
        exact ⟨⟨_, _, _, rfl⟩, f3, f4, f5⟩
      · fail "bm_go"
        refine ⟨rfl, fun lb H7 s7 h7 => ?_⟩
        fail "bm_go"
        intro t nt
        obtain ⟨xs, f1, f2, f3, f4, f5⟩ := fin _ hv lb H7 s7 h7 t nt
        fail "bm_go"
        refine r_app (gN nt f1) (szl f2) ?_
        exact ⟨⟨_, _, _, rfl⟩, f3, f4, f5⟩
    · obtain ⟨⟨o3, o4, o5, rfl⟩, c, hd2, rs, hr2, hst, hln⟩ := p
      fail "bm_go"
      refine k l rs H' ⟨fun b o nb h => c.kp b o (fun m => ?_) (s1 b o h), (im_of s1).trans c.im⟩ hd2 nl hr2 hst (by omega) nld
      simp only [List.mem_cons, List.not_mem_nil, or_false] at m
      rcases m with m | m
      · exact nb m
      · rw [m, nl] at h
        cases h
end
section
/-! ## F3: blocks, programs -/
local macro_rules | `(tactic| fail "bm_go1") => `(tactic| first
  | with_reducible refine r_orV ?_
  | with_reducible refine r_chain ?_
  | with_reducible refine r_bm0 ?_
  | with_reducible refine r_lrev ?_)
/-- a row that is good where the marks ms are borne -/
def Good (ms : List Str) (r : Row) : Prop := (r.d ≠ "go" ∧ ∀ P, RowOk P r) ∨ (r.d ∈ ifDs ∧ ∃ k, r.v = .str k ∧ k ∈ ms)
theorem mark_some {P : List Row} {k : Str} (h : ∃ r ∈ P, r.m = k) : ∃ j, markIx P k = some j := by
  obtain ⟨r, hr, e⟩ := h
  cases hm : markIx P k with
  | some j => exact ⟨j, rfl⟩
  | none =>
    unfold markIx at hm
    rw [List.findIdx?_eq_none_iff] at hm
    have := hm r hr
    simp [e] at this
theorem Good.ok {ms : List Str} {r : Row} {P : List Row} (h : Good ms r) (hm : ∀ k ∈ ms, ∃ q ∈ P, q.m = k) : RowOk P r ∧ r.d ≠ "go" := by
  rcases h with ⟨h1, h2⟩ | ⟨h1, k, h2, h3⟩
  · exact ⟨h2 P, h1⟩
  · obtain ⟨j, hj⟩ := mark_some (hm k h3)
    obtain ⟨m, d, v⟩ := r
    subst h2
    exact ⟨.iff m d k j h1 hj, (ifDs_facts d h1).2⟩
theorem Straight.good {r : Row} (h : Straight r) (ms : List Str) : Good ms r := .inl ⟨h.2.1, h.2.2⟩
/-- rows, one by one -/
def RowsOf (K : PySem.W.Frag) (H : Hp) (as : List Addr) (rs : List Row) : Prop := as.length = rs.length ∧ ∀ (i : Nat) (a : Addr) (r : Row), as[i]? = some a → rs[i]? = some r → SqT K H a (rowV r)
theorem RowsOf.nil {K : PySem.W.Frag} {H : Hp} : RowsOf K H [] [] := ⟨rfl, fun i a r h => by simp at h⟩
theorem RowsOf.cons {K : PySem.W.Frag} {H : Hp} {a : Addr} {r : Row} {as : List Addr} {rs : List Row} (ha : SqT K H a (rowV r)) (h : RowsOf K H as rs) : RowsOf K H (a :: as) (r :: rs) := by
  refine ⟨by simp [h.1], fun i x q hx hq => ?_⟩
  cases i with
  | zero =>
    cases hx
    cases hq
    exact ha
  | succ i => exact h.2 i x q (by simpa using hx) (by simpa using hq)
theorem RowsOf.at_ {K : PySem.W.Frag} {H : Hp} {l : Addr} {as : List Addr} {rs : List Row} (h : RowsOf K H as rs) (hl : H l = some (.lst (as.map V.ref))) : RowsAt K H l rs := ⟨as, hl, h.1, h.2⟩
/-- two lists of rows joined -/
theorem r_catR {K : PySem.W.Frag} {H : Hp} {a c : Addr} {rs qs : List Row} {Q : VK} (h1 : RowsAt K H a rs) (h2 : RowsAt K H c qs) (hz : rs.length + qs.length ≤ 1000) (q : ∀ l H', Same H H' → H l = none → RowsAt K H' l (rs ++ qs) → Q (.ref l) H') : rCat (.ref a) (.ref c) H Q := by
  obtain ⟨as, a1, a2, a3⟩ := h1
  obtain ⟨cs, c1, c2, c3⟩ := h2
  refine r_catL a1 c1 (by rw [List.length_map, List.length_map]; omega) fun l nl => ?_
  have s := same_new (o := .lst (as.map V.ref ++ cs.map V.ref)) nl
  refine q l _ s nl ⟨as ++ cs, by rw [upd_same, List.map_append], by simp [a2, c2], fun i x r hx hr => sqT_same s ?_⟩
  by_cases hi : i < as.length
  · rw [List.getElem?_append_left hi] at hx
    rw [List.getElem?_append_left (by omega)] at hr
    exact a3 i x r hx hr
  · rw [List.getElem?_append_right (by omega)] at hx
    rw [List.getElem?_append_right (by omega), ← a2] at hr
    exact c3 _ x r hx hr
def sp_l_block (K : PySem.W.Frag) : Sp := fun vs H Q _ => ∃ (d : Addr) (nm : Str) (sort most : Int), vs = [.ref d, .str nm, .int sort, .int most] ∧ DeckAt H d ∧ 0 ≤ most ∧ most ≤ 6 ∧
  ∀ (l : Addr) (rs : List Row) (H' : Hp), Chg d H H' → DeckAt H' d → H l = none → RowsAt K H' l rs → rs.length ≤ 12 → ((∀ r ∈ rs, Good [nm] r) ∧ ((∃ r ∈ rs, r.m = nm) ∨ ∀ r ∈ rs, Good [] r)) → Q (.ref l) H'
theorem sc_l_block : FnScope ["_law_deck_here", "_law_name_here", "_law_sort", "_law_most_here", "_law_head", "_law_rows", "_law_way"] ["_law_deck_here", "_law_name_here", "_law_sort", "_law_most_here"] (defScope s_l_block) := ⟨rfl, rfl, rfl, by decide +kernel, rfl, by decide +kernel, by decide +kernel⟩
theorem ok_l_block {P : Program} {w : World} {K : PySem.W.Frag} {mg : Str → Option Value} {base : Heap} (T : Tx K mg) : Ok P w K mg base CX0 4 729 ["_law_deck_here", "_law_name_here", "_law_sort", "_law_most_here"] (sp_l_block K) := by
  refine ok0 3 (f_l_block T) sc_l_block (fun _ _ _ _ _ _ us hl => match us, hl with | [_, _, _, _], _ => rfl) (fun vs H Q E h => ?_) (fun cdv A outer sh H vs Q E room h => ?_)
  · obtain ⟨d, nm, sort, most, rfl, hd, h0, h1, k⟩ := h
    rfl
  · obtain ⟨d, nm, sort, most, rfl, hd, h0, h1, k⟩ := h
    refine ⟨_,     (pss_cons (ps_if (pt_cmpR op_eq (pv 2) pe_int (nomark _))
          (pss_cons (ps_set (i := 4) sc_l_block.nd rfl (Or.inl rfl) (pe_lst (pa_cons (pe_tup (pa_cons pe_str (pa_cons pe_str (pa_cons (pe_op op_add pe_int (pe_op op_mod (pc (ok_l_next (K := K) T) (room.mono (by decide)) rfl (g__law_next T) pass0 (pa_cons (pv 0) pa_nil)) pe_int)) pa_nil)))) (pa_cons (pe_tup (pa_cons (pv 1) (pa_cons pe_str (pa_cons pe_non pa_nil)))) pa_nil))))
          (pss_cons (ps_set (i := 5) sc_l_block.nd rfl (Or.inl rfl) (pc (ok_l_straight (K := K) T) (room.mono (by decide)) rfl (g__law_straight T) pass0 (pa_cons (pv 0) (pa_cons (pe_op op_mod (pc (ok_l_next (K := K) T) (room.mono (by decide)) rfl (g__law_next T) pass0 (pa_cons (pv 0) pa_nil)) (pe_op op_add pe_int (pe_op op_fdiv (pv 3) pe_int))) pa_nil))))
          (pss_one (ps_ret (pe_op op_cat (pe_op op_cat (pv 4) (pv 5)) (pe_lst (pa_cons (pe_tup (pa_cons pe_str (pa_cons pe_str (pa_cons pe_non pa_nil)))) (pa_cons (pe_tup (pa_cons pe_str (pa_cons pe_str (pa_cons pe_non pa_nil)))) (pa_cons (pe_tup (pa_cons pe_str (pa_cons pe_str (pa_cons (pv 1) pa_nil)))) pa_nil))))))))) pss_nil)
        (pss_cons (ps_if (pt_cmpR op_eq (pv 2) pe_int (nomark _))
          (pss_cons (ps_set (i := 6) sc_l_block.nd rfl (Or.inl rfl) (pe_ix (ix_listK K) (pe_lst (pa_cons pe_str (pa_cons pe_str (pa_cons pe_str (pa_cons pe_str pa_nil))))) (pe_op op_mod (pc (ok_l_next (K := K) T) (room.mono (by decide)) rfl (g__law_next T) pass0 (pa_cons (pv 0) pa_nil)) pe_int) (fun _ _ => rfl)))
          (pss_cons (ps_set (i := 4) sc_l_block.nd rfl (Or.inl rfl) (pe_lst (pa_cons (pe_tup (pa_cons pe_str (pa_cons pe_str (pa_cons (pe_op op_mod (pc (ok_l_next (K := K) T) (room.mono (by decide)) rfl (g__law_next T) pass0 (pa_cons (pv 0) pa_nil)) pe_int) pa_nil)))) (pa_cons (pe_tup (pa_cons pe_str (pa_cons pe_str (pa_cons (pe_op op_mod (pc (ok_l_next (K := K) T) (room.mono (by decide)) rfl (g__law_next T) pass0 (pa_cons (pv 0) pa_nil)) pe_int) pa_nil)))) (pa_cons (pe_tup (pa_cons pe_str (pa_cons (pv 6) (pa_cons (pv 1) pa_nil)))) pa_nil)))))
          (pss_cons (ps_set (i := 5) sc_l_block.nd rfl (Or.inl rfl) (pc (ok_l_straight (K := K) T) (room.mono (by decide)) rfl (g__law_straight T) pass0 (pa_cons (pv 0) (pa_cons (pe_op op_add pe_int (pe_op op_mod (pc (ok_l_next (K := K) T) (room.mono (by decide)) rfl (g__law_next T) pass0 (pa_cons (pv 0) pa_nil)) pe_int)) pa_nil))))
          (pss_one (ps_ret (pe_op op_cat (pe_op op_cat (pv 4) (pv 5)) (pe_lst (pa_cons (pe_tup (pa_cons (pv 1) (pa_cons pe_str (pa_cons pe_non pa_nil)))) (pa_cons (pe_tup (pa_cons pe_str (pa_cons pe_str (pa_cons pe_non pa_nil)))) pa_nil))))))))) pss_nil)
        (pss_one (ps_ret (pe_op op_cat (pc (ok_l_straight (K := K) T) (room.mono (by decide)) rfl (g__law_straight T) pass0 (pa_cons (pv 0) (pa_cons (pe_op op_mod (pc (ok_l_next (K := K) T) (room.mono (by decide)) rfl (g__law_next T) pass0 (pa_cons (pv 0) pa_nil)) (pe_op op_add pe_int (pv 3))) pa_nil))) (pe_lst (pa_cons (pe_tup (pa_cons pe_str (pa_cons pe_str (pa_cons pe_non pa_nil)))) pa_nil))))))), ?_⟩
    show (_ : TS) _ [_, _, _, _, none, none, none] _
    fail "bm_go"
    refine r_ifD (fun hs => ?_) (fun hs => ?_)
    · fail "bm_go"
      refine ⟨d, rfl, hd, fun c H1 c1 hd1 => ?_⟩
      fail "bm_go"
      intro t1 n1
      have s1 := same_new (o := .tup [.str "", .str "setx", .int (1 + c % 6)]) n1
      fail "bm_go"
      intro t2 n2
      have s2 := s1.trans (same_new (o := .tup [.str nm, .str "rest", .non]) n2)
      fail "bm_go"
      intro hl n3
      have s3 := s2.trans (same_new (o := .lst [.ref t1, .ref t2]) n3)
      have hr1 : RowsAt K (upd (upd (upd H1 t1 (.tup [.str "", .str "setx", .int (1 + c % 6)])) t2 (.tup [.str nm, .str "rest", .non])) hl (.lst [.ref t1, .ref t2])) hl [⟨"", "setx", .int (1 + c % 6)⟩, ⟨nm, "rest", .non⟩] :=
        RowsOf.at_ (as := [t1, t2]) (.cons (SqT.of (gN n3 (gN n2 upd_same))) (.cons (SqT.of (gN n3 upd_same)) .nil)) upd_same
      have c3 := c1.step s3
      have hd3 := hd1.same s3
      revert s3 hr1 c3 hd3
      generalize upd (upd (upd H1 t1 (.tup [.str "", .str "setx", .int (1 + c % 6)])) t2 (.tup [.str nm, .str "rest", .non])) hl (.lst [.ref t1, .ref t2]) = H3
      intro s3 hr1 c3 hd3
      fail "bm_go"
      refine ⟨d, rfl, hd3, fun e H4 c4 hd4 => ?_⟩
      fail "bm_go"
      have q0 : 0 ≤ most / 2 := by omega
      have q1 : most / 2 ≤ 3 := by omega
      have m0 := Int.emod_nonneg e (show (1 + most / 2) ≠ 0 by omega)
      have m1 := Int.emod_lt_of_pos e (show (0 : Int) < 1 + most / 2 by omega)
      have hld : hl ≠ d := fun z => by
        obtain ⟨ns, h⟩ := hd1.same (s1.trans (Same.refl _))
        obtain ⟨ns', h'⟩ := hd1.same s2
        rw [z, h'] at n3
        cases n3
      refine ⟨d, _, rfl, hd4, m0, by omega, fun l5 rs H5 c5 hd5 nl5 hr5 hst hln nd5 => ?_⟩
      have hr15 := (hr1.chg c4 hld).chg c5 hld
      fail "bm_go"
      refine r_catR hr15 hr5 (by simp; omega) fun l6 H6 s6 nl6 hr6 => ?_
      have hd6 := hd5.same s6
      fail "bm_go"
      intro t7 n7
      have s7 := same_new (o := .tup [.str "", .str "wait", .non]) n7
      fail "bm_go"
      intro t8 n8
      have s8 := s7.trans (same_new (o := .tup [.str "", .str "down", .non]) n8)
      fail "bm_go"
      intro t9 n9
      have s9 := s8.trans (same_new (o := .tup [.str "", .str "ifn", .str nm]) n9)
      fail "bm_go"
      intro l10 n10
      have s10 := s9.trans (same_new (o := .lst [.ref t7, .ref t8, .ref t9]) n10)
      refine r_catR (hr6.same s10) (RowsOf.at_ (as := [t7, t8, t9]) (rs := [⟨"", "wait", .non⟩, ⟨"", "down", .non⟩, ⟨"", "ifn", .str nm⟩]) (.cons (SqT.of (gN n10 (gN n9 (gN n8 upd_same)))) (.cons (SqT.of (gN n10 (gN n9 upd_same))) (.cons (SqT.of (gN n10 upd_same)) .nil))) upd_same) (by simp; omega) fun l11 H11 s11 nl11 hr11 => ?_
      have cA := ((((c3.trans c4).trans c5).step s6).step s10)
      have hdA := hd6.same s10
      have nA : H l11 = none := cA.free nl11 fun z => by
        obtain ⟨ns, h⟩ := hdA
        rw [z, h] at nl11
        cases nl11
      refine k l11 _ H11 (cA.step s11) (hdA.same s11) nA hr11 (by simp; omega) ⟨fun r hr => ?_, .inl ⟨⟨nm, "rest", .non⟩, by simp, rfl⟩⟩
      simp only [List.mem_append, List.mem_cons, List.not_mem_nil, or_false] at hr
      rcases hr with ((rfl | rfl) | hr) | rfl | rfl | rfl
      · exact .inl ⟨show ("setx" : Str) ≠ "go" by decide +kernel, fun P => .byte _ _ _ (by decide +kernel)⟩
      · exact .inl ⟨show ("rest" : Str) ≠ "go" by decide +kernel, fun P => .plain _ _ (by decide +kernel)⟩
      · exact (hst r hr).good _
      · exact .inl ⟨by decide +kernel, fun P => .plain _ _ (by decide +kernel)⟩
      · exact .inl ⟨by decide +kernel, fun P => .plain _ _ (by decide +kernel)⟩
      · exact .inr ⟨show ("ifn" : Str) ∈ ifDs by decide +kernel, nm, rfl, by simp⟩
    fail "bm_go"
    refine r_ifD (fun hs2 => ?_) (fun hs2 => ?_)
    · fail "bm_go"
      intro p np
      have s1 := same_new (o := .lst [.str "ifz", .str "ifn", .str "ifc", .str "ifd"]) np
      have npd : p ≠ d := fun z => by
        obtain ⟨ns, h⟩ := hd
        rw [z, h] at np
        cases np
      fail "bm_go"
      refine ⟨d, rfl, hd.same s1, fun c H1 c1 hd1 => ?_⟩
      have hp1 := c1.kp _ _ npd (upd_same (H := H) (a := p) (o := .lst [.str "ifz", .str "ifn", .str "ifc", .str "ifd"]))
      have iw : ∃ w : Str, atI ([.str "ifz", .str "ifn", .str "ifc", .str "ifd"] : List V) (c % 4) = some (.str w) ∧ w ∈ ifDs := by
        have m0 := Int.emod_nonneg c (show (4 : Int) ≠ 0 by omega)
        have m1 := Int.emod_lt_of_pos c (show (0 : Int) < 4 by omega)
        obtain h | h | h | h : c % 4 = 0 ∨ c % 4 = 1 ∨ c % 4 = 2 ∨ c % 4 = 3 := by omega
        all_goals rw [h]
        · exact ⟨"ifz", rfl, by decide +kernel⟩
        · exact ⟨"ifn", rfl, by decide +kernel⟩
        · exact ⟨"ifc", rfl, by decide +kernel⟩
        · exact ⟨"ifd", rfl, by decide +kernel⟩
      obtain ⟨w, iw, hw⟩ := iw
      fail "bm_go"
      refine ⟨d, rfl, hd1, fun c2 H2 k2 hd2 => ?_⟩
      fail "bm_go"
      intro t1 n1
      have s3 := same_new (o := .tup [.str "", .str "eye", .int (c2 % 6)]) n1
      fail "bm_go"
      refine ⟨d, rfl, hd2.same s3, fun c3 H3 k3 hd3 => ?_⟩
      fail "bm_go"
      intro t2 n2
      fail "bm_go"
      intro t3 n3
      fail "bm_go"
      intro hl n4
      have t1s : SqT K H3 t1 (rowV ⟨"", "eye", .int (c2 % 6)⟩) := sqT_chg k3 (SqT.of upd_same)
      have s4 := ((same_new (o := .tup [.str "", .str "test", .int (c3 % 4)]) n2).trans (same_new (o := .tup [.str "", .str w, .str nm]) n3)).trans (same_new (o := .lst [.ref t1, .ref t2, .ref t3]) n4)
      have hr1 : RowsAt K (upd (upd (upd H3 t2 (.tup [.str "", .str "test", .int (c3 % 4)])) t3 (.tup [.str "", .str w, .str nm])) hl (.lst [.ref t1, .ref t2, .ref t3])) hl [⟨"", "eye", .int (c2 % 6)⟩, ⟨"", "test", .int (c3 % 4)⟩, ⟨"", w, .str nm⟩] :=
        RowsOf.at_ (as := [t1, t2, t3]) (.cons (sqT_same s4 t1s) (.cons (SqT.of (gN n4 (gN n3 upd_same))) (.cons (SqT.of (gN n4 upd_same)) .nil))) upd_same
      have hld : hl ≠ d := fun z => by
        obtain ⟨ns, h⟩ := (hd3.same (same_new (o := .tup [.str "", .str "test", .int (c3 % 4)]) n2)).same (same_new (o := .tup [.str "", .str w, .str nm]) n3)
        rw [z, h] at n4
        cases n4
      have cB := ((((Chg.of (d := d) s1).trans c1).trans k2).step s3).trans k3
      have cC := cB.step s4
      have hd4 := hd3.same s4
      revert s4 hr1 cC hd4
      generalize upd (upd (upd H3 t2 (.tup [.str "", .str "test", .int (c3 % 4)])) t3 (.tup [.str "", .str w, .str nm])) hl (.lst [.ref t1, .ref t2, .ref t3]) = H4
      intro s4 hr1 cC hd4
      fail "bm_go"
      refine ⟨d, rfl, hd4, fun c5 H5 k5 hd5 => ?_⟩
      fail "bm_go"
      have m0 := Int.emod_nonneg c5 (show (2 : Int) ≠ 0 by omega)
      have m1 := Int.emod_lt_of_pos c5 (show (0 : Int) < 2 by omega)
      refine ⟨d, _, rfl, hd5, by omega, by omega, fun l6 rs H6 k6 hd6 nl6 hr6 hst hln nd6 => ?_⟩
      have hr16 := (hr1.chg k5 hld).chg k6 hld
      fail "bm_go"
      refine r_catR hr16 hr6 (by simp; omega) fun l7 H7 s7 nl7 hr7 => ?_
      fail "bm_go"
      intro t8 n8
      have s8 := same_new (o := .tup [.str nm, .str "rest", .non]) n8
      fail "bm_go"
      intro t9 n9
      have s9 := s8.trans (same_new (o := .tup [.str "", .str "wait", .non]) n9)
      fail "bm_go"
      intro l10 n10
      have s10 := s9.trans (same_new (o := .lst [.ref t8, .ref t9]) n10)
      refine r_catR (hr7.same s10) (RowsOf.at_ (as := [t8, t9]) (rs := [⟨nm, "rest", .non⟩, ⟨"", "wait", .non⟩]) (.cons (SqT.of (gN n10 (gN n9 upd_same))) (.cons (SqT.of (gN n10 upd_same)) .nil)) upd_same) (by simp; omega) fun l11 H11 s11 nl11 hr11 => ?_
      have cA := ((((cC.trans k5).trans k6).step s7).step s10)
      have hdA := (hd6.same s7).same s10
      have nA : H l11 = none := cA.free nl11 fun z => by
        obtain ⟨ns, h⟩ := hdA
        rw [z, h] at nl11
        cases nl11
      refine k l11 _ H11 (cA.step s11) (hdA.same s11) nA hr11 (by simp; omega) ⟨fun r hr => ?_, .inl ⟨⟨nm, "rest", .non⟩, by simp, rfl⟩⟩
      simp only [List.mem_append, List.mem_cons, List.not_mem_nil, or_false] at hr
      rcases hr with ((rfl | rfl | rfl) | hr) | rfl | rfl
      · obtain ⟨z, hz⟩ := Int.eq_ofNat_of_zero_le (Int.emod_nonneg c2 (show (6 : Int) ≠ 0 by omega))
        have hz6 := Int.emod_lt_of_pos c2 (show (0 : Int) < 6 by omega)
        refine .inl ⟨show ("eye" : Str) ≠ "go" by decide +kernel, fun P => ?_⟩
        rw [hz]
        exact .eye _ z (by omega)
      · exact .inl ⟨show ("test" : Str) ≠ "go" by decide +kernel, fun P => .byte _ _ _ (by decide +kernel)⟩
      · exact .inr ⟨hw, nm, rfl, by simp⟩
      · exact (hst r hr).good _
      · exact .inl ⟨show ("rest" : Str) ≠ "go" by decide +kernel, fun P => .plain _ _ (by decide +kernel)⟩
      · exact .inl ⟨show ("wait" : Str) ≠ "go" by decide +kernel, fun P => .plain _ _ (by decide +kernel)⟩
    · fail "bm_go"
      refine ⟨d, rfl, hd, fun c H1 c1 hd1 => ?_⟩
      fail "bm_go"
      have m0 := Int.emod_nonneg c (show (1 + most) ≠ 0 by omega)
      have m1 := Int.emod_lt_of_pos c (show (0 : Int) < 1 + most by omega)
      refine ⟨d, _, rfl, hd1, m0, by omega, fun l2 rs H2 c2 hd2 nl2 hr2 hst hln nd2 => ?_⟩
      fail "bm_go"
      intro t nt
      have s3 := same_new (o := .tup [.str "", .str "wait", .non]) nt
      fail "bm_go"
      intro l4 nl4
      have s4 := s3.trans (same_new (o := .lst [.ref t]) nl4)
      have hw : RowsAt K (upd (upd H2 t (.tup [.str "", .str "wait", .non])) l4 (.lst [.ref t])) l4 [⟨"", "wait", .non⟩] := ⟨[t], upd_same, rfl, fun i x r hx hr => by
        have hi := (List.getElem?_eq_some_iff.mp hx).1
        have e : i = 0 := by simp at hi; omega
        subst e
        cases hx
        cases hr
        exact SqT.of (gN nl4 upd_same)⟩
      refine r_catR (hr2.same s4) hw (by simp; omega) fun l5 H5 s5 nl5 hr5 => ?_
      have c5 := ((c1.trans c2).step s4).step s5
      have nl50 : H l5 = none := c1.free (c2.free (s4.free nl5) ?_) ?_
      · refine k l5 _ H5 c5 ((hd2.same s4).same s5) nl50 hr5 (by simp; omega) ⟨fun r hr => ?_, .inr fun r hr => ?_⟩
        all_goals
          rcases List.mem_append.mp hr with hr | hr
          · exact (hst r hr).good _
          · rw [List.mem_singleton.mp hr]
            exact .inl ⟨by decide +kernel, fun P => .plain _ _ (by decide +kernel)⟩
      all_goals
        intro z
        obtain ⟨ns, h⟩ := hd2.same s4
        rw [z, h] at nl5
        cases nl5
end
section
/-! ## F4: programs -/
local macro_rules | `(tactic| fail "bm_go1") => `(tactic| first
  | with_reducible refine r_orV ?_
  | with_reducible refine r_chain ?_
  | with_reducible refine r_bm0 ?_
  | with_reducible refine r_lrev ?_)
/-- rows whose marks are borne among them, none a go -/
def Clo (rs : List Row) : Prop := ∀ r ∈ rs, r.d ≠ "go" ∧ ((∀ P, RowOk P r) ∨ (r.d ∈ ifDs ∧ ∃ k, r.v = .str k ∧ ∃ q ∈ rs, q.m = k))
theorem Clo.nil : Clo [] := fun r h => by simp at h
theorem Clo.app {a b : List Row} (h1 : Clo a) (h2 : Clo b) : Clo (a ++ b) := by
  intro r hr
  rcases List.mem_append.mp hr with hr | hr
  · obtain ⟨g, h⟩ := h1 r hr
    refine ⟨g, h.imp id ?_⟩
    rintro ⟨z, k, e, q, hq, hk⟩
    exact ⟨z, k, e, q, List.mem_append_left _ hq, hk⟩
  · obtain ⟨g, h⟩ := h2 r hr
    refine ⟨g, h.imp id ?_⟩
    rintro ⟨z, k, e, q, hq, hk⟩
    exact ⟨z, k, e, q, List.mem_append_right _ hq, hk⟩
theorem clo_all {rs : List Row} (h : ∀ r ∈ rs, r.d ≠ "go" ∧ ∀ P, RowOk P r) : Clo rs := fun r hr => ⟨(h r hr).1, .inl (h r hr).2⟩
theorem clo_of {nm : Str} {rs : List Row} (h : (∀ r ∈ rs, Good [nm] r) ∧ ((∃ r ∈ rs, r.m = nm) ∨ ∀ r ∈ rs, Good [] r)) : Clo rs := by
  obtain ⟨h1, h2⟩ := h
  intro r hr
  rcases h2 with h2 | h2
  · rcases h1 r hr with ⟨a, b⟩ | ⟨a, k, e, hk⟩
    · exact ⟨a, .inl b⟩
    · refine ⟨(ifDs_facts r.d a).2, .inr ⟨a, k, e, ?_⟩⟩
      rw [List.mem_singleton.mp hk]
      exact h2
  · rcases h2 r hr with ⟨a, b⟩ | ⟨a, k, e, hk⟩
    · exact ⟨a, .inl b⟩
    · simp at hk
/-- a program as the law makes it -/
def Shape (n : Nat) (P : List Row) : Prop := ∃ mid, P = ⟨"top", "rest", .non⟩ :: (mid ++ [⟨"", "go", .str "top"⟩]) ∧ Clo mid ∧ mid.length ≤ n
theorem Shape.wf {n : Nat} {P : List Row} (h : Shape n P) (hn : n ≤ 90) : WF P := by
  obtain ⟨mid, rfl, hc, hl⟩ := h
  have ok : ∀ r ∈ mid, RowOk (⟨"top", "rest", .non⟩ :: (mid ++ [⟨"", "go", .str "top"⟩])) r ∧ r.d ≠ "go" := fun r hr => by
    obtain ⟨g, h⟩ := hc r hr
    refine ⟨?_, g⟩
    rcases h with h | ⟨a, k, e, q, hq, hk⟩
    · exact h _
    · obtain ⟨j, hj⟩ := mark_some (P := ⟨"top", "rest", .non⟩ :: (mid ++ [⟨"", "go", .str "top"⟩])) ⟨q, List.mem_cons_of_mem _ (List.mem_append_left _ hq), hk⟩
      obtain ⟨m, d, v⟩ := r
      subst e
      exact .iff m d k j a hj
  have top : markIx (⟨"top", "rest", .non⟩ :: (mid ++ [⟨"", "go", .str "top"⟩])) "top" = some 0 := by
    unfold markIx
    rw [List.findIdx?_cons]
    rfl
  refine ⟨by simp, by simp; omega, fun i r hr => ?_, fun i r hr hg => ?_⟩
  · have hm := List.mem_of_getElem? hr
    simp only [List.mem_cons, List.mem_append, List.not_mem_nil, or_false] at hm
    rcases hm with rfl | hm | rfl
    · exact .plain _ _ (by decide +kernel)
    · exact (ok r hm).1
    · exact .go _ _ 0 top
  · have hi := (List.getElem?_eq_some_iff.mp hr).1
    refine Classical.byContradiction fun h => hg ?_
    have e : i = mid.length + 1 := by simp at hi h; omega
    subst e
    rw [List.getElem?_cons_succ, List.getElem?_append_right (Nat.le_refl _), Nat.sub_self] at hr
    cases hr
    rfl
theorem DeckAt.ne {H : Hp} {d l : Addr} (h : DeckAt H d) (n : H l = none) : l ≠ d := fun z => by
  obtain ⟨ns, h⟩ := h
  rw [z, h] at n
  cases n
def sp_l_running (K : PySem.W.Frag) : Sp := fun vs H Q _ => ∃ (d : Addr) (most : Int), vs = [.ref d, .int most] ∧ DeckAt H d ∧ 0 ≤ most ∧ most ≤ 6 ∧
  ∀ (p : Addr) (P : List Row) (H' : Hp), Chg d H H' → DeckAt H' d → PAt K H' p P → Shape 52 P → Q (.ref p) H'
theorem sc_l_running : FnScope ["_law_deck_here", "_law_most_here", "_law_rows", "_law_k"] ["_law_deck_here", "_law_most_here"] (defScope s_l_running) := ⟨rfl, rfl, rfl, by decide +kernel, rfl, by decide +kernel, by decide +kernel⟩
theorem ok_l_running {P : Program} {w : World} {K : PySem.W.Frag} {mg : Str → Option Value} {base : Heap} (T : Tx K mg) : Ok P w K mg base CX0 5 736 ["_law_deck_here", "_law_most_here"] (sp_l_running K) := by
  refine ok0 4 (f_l_running T) sc_l_running (fun _ _ _ _ _ _ us hl => match us, hl with | [_, _], _ => rfl) (fun vs H Q E h => ?_) (fun cdv A outer sh H vs Q E room h => ?_)
  · obtain ⟨d, most, rfl, hd, h0, h1, k⟩ := h
    rfl
  · obtain ⟨d, most, rfl, hd, h0, h1, k⟩ := h
    refine ⟨_,     (pss_cons (ps_set (i := 2) sc_l_running.nd rfl (Or.inl rfl) (pe_lst (pa_cons (pe_tup (pa_cons pe_str (pa_cons pe_str (pa_cons pe_non pa_nil)))) pa_nil)))
        (pss_cons (ps_for PassesOwn.never rfl (pi_range1 rfl (n_range T) (pa_cons (pe_op op_add pe_int (pe_op op_mod (pc (ok_l_next (K := K) T) (room.mono (by decide)) rfl (g__law_next T) pass0 (pa_cons (pv 0) pa_nil)) pe_int)) pa_nil)) (pg_name (i := 3) sc_l_running.nd rfl (Or.inl rfl))
          (pss_one (ps_set (i := 2) sc_l_running.nd rfl (Or.inl rfl) (pe_op op_cat (pv 2) (pc (ok_l_block (K := K) T) (room.mono (by decide)) rfl (g__law_block T) pass0 (pa_cons (pv 0) (pa_cons (pc (ok_l_name (K := K) T) (room.mono (by decide)) rfl (g__law_name T) pass0 (pa_cons (pv 3) pa_nil)) (pa_cons (pe_op op_mod (pc (ok_l_next (K := K) T) (room.mono (by decide)) rfl (g__law_next T) pass0 (pa_cons (pv 0) pa_nil)) pe_int) (pa_cons (pv 1) pa_nil)))))))))
        (pss_cons (ps_set (i := 2) sc_l_running.nd rfl (Or.inl rfl) (pe_op op_cat (pv 2) (pe_lst (pa_cons (pe_tup (pa_cons pe_str (pa_cons pe_str (pa_cons (pe_op op_mod (pc (ok_l_next (K := K) T) (room.mono (by decide)) rfl (g__law_next T) pass0 (pa_cons (pv 0) pa_nil)) pe_int) pa_nil)))) (pa_cons (pe_tup (pa_cons pe_str (pa_cons pe_str (pa_cons pe_int pa_nil)))) (pa_cons (pe_tup (pa_cons pe_str (pa_cons pe_str (pa_cons pe_non pa_nil)))) (pa_cons (pe_tup (pa_cons pe_str (pa_cons pe_str (pa_cons pe_str pa_nil)))) pa_nil)))))))
        (pss_one (ps_ret (pe_callTy (call_tupK K) (by rfl) (n_tuple T) (by decide +kernel) (pa_cons (pv 2) pa_nil))))))), ?_⟩
    show (_ : TS) _ [_, _, none, none] _
    fail "bm_go"
    intro t nt
    have s1 := same_new (o := .tup [.str "top", .str "rest", .non]) nt
    fail "bm_go"
    intro l nl
    have s2 := s1.trans (same_new (o := .lst [.ref t]) nl)
    have hr0 : RowsAt K (upd (upd H t (.tup [.str "top", .str "rest", .non])) l (.lst [.ref t])) l [⟨"top", "rest", .non⟩] := RowsOf.at_ (as := [t]) (.cons (SqT.of (gN nl upd_same)) .nil) upd_same
    have hd2 := hd.same s2
    have nld : l ≠ d := (hd.same s1).ne nl
    revert s2 hr0 hd2
    generalize upd (upd H t (.tup [.str "top", .str "rest", .non])) l (.lst [.ref t]) = H2
    intro s2 hr0 hd2
    fail "bm_go"
    refine ⟨d, rfl, hd2, fun c H3 c3 hd3 => ?_⟩
    fail "bm_go"
    have m0 := Int.emod_nonneg c (show (4 : Int) ≠ 0 by omega)
    have m1 := Int.emod_lt_of_pos c (show (0 : Int) < 4 by omega)
    refine forN_c d (fun i σ H' => (∃ l o3 mid, σ = [some (.ref d), some (.int most), some (.ref l), o3] ∧ DeckAt H' d ∧ l ≠ d ∧ RowsAt K H' l (⟨"top", "rest", .non⟩ :: mid) ∧ Clo mid ∧ mid.length ≤ 12 * i ∧ i ≤ 4)) (by omega) (by omega)
      ⟨l, none, [], rfl, hd3, nld, hr0.chg c3 nld, Clo.nil, by simp, by omega⟩ (fun i σ H' hi c4 p => ?_) (fun σ H' c4 p => ?_)
    · obtain ⟨l, o3, mid, rfl, hd4, nld, hr4, hc, hln, hi4⟩ := p
      have hia : i < 4 := by omega
      obtain ⟨z, hz⟩ : ∃ z, alph[i]? = some z := ⟨alph[i]'(by simpa [alph] using hia), List.getElem?_eq_getElem _⟩
      fail "bm_go"
      refine ⟨i, z, rfl, hz, ?_⟩
      fail "bm_go"
      refine ⟨d, rfl, hd4, fun c5 H5 k5 hd5 => ?_⟩
      fail "bm_go"
      refine ⟨d, z, c5 % 4, most, rfl, hd5, h0, h1, fun l6 rs H6 k6 hd6 nl6 hr6 hln6 hg6 => ?_⟩
      fail "bm_go"
      refine r_catR ((hr4.chg k5 nld).chg k6 nld) hr6 (by simp; omega) fun l7 H7 s7 nl7 hr7 => ?_
      fail "bm_go"
      exact ⟨((c4.trans k5).trans k6).step s7, l7, _, mid ++ rs, rfl, hd6.same s7, hd6.ne nl7, hr7, hc.app (clo_of hg6), by simp; omega, by omega⟩
    · obtain ⟨l, o3, mid, rfl, hd4, nld, hr4, hc, hln, hi4⟩ := p
      have c04 := ((Chg.of (d := d) s2).trans c3).trans c4
      fail "bm_go"
      refine ⟨d, rfl, hd4, fun c5 H5 k5 hd5 => ?_⟩
      fail "bm_go"
      intro t6 n6
      have s6 := same_new (o := .tup [.str "", .str "set", .int (c5 % 256)]) n6
      fail "bm_go"
      intro t7 n7
      have s7 := s6.trans (same_new (o := .tup [.str "", .str "door", .int 0]) n7)
      fail "bm_go"
      intro t8 n8
      have s8 := s7.trans (same_new (o := .tup [.str "", .str "wait", .non]) n8)
      fail "bm_go"
      intro t9 n9
      have s9 := s8.trans (same_new (o := .tup [.str "", .str "go", .str "top"]) n9)
      fail "bm_go"
      intro l10 n10
      have s10 := s9.trans (same_new (o := .lst [.ref t6, .ref t7, .ref t8, .ref t9]) n10)
      refine r_catR ((hr4.chg k5 nld).same s10) (RowsOf.at_ (as := [t6, t7, t8, t9]) (rs := [⟨"", "set", .int (c5 % 256)⟩, ⟨"", "door", .int 0⟩, ⟨"", "wait", .non⟩, ⟨"", "go", .str "top"⟩])
        (.cons (SqT.of (gN n10 (gN n9 (gN n8 (gN n7 upd_same))))) (.cons (SqT.of (gN n10 (gN n9 (gN n8 upd_same)))) (.cons (SqT.of (gN n10 (gN n9 upd_same))) (.cons (SqT.of (gN n10 upd_same)) .nil)))) upd_same) (by simp; omega) fun l11 H11 s11 nl11 hr11 => ?_
      fail "bm_go"
      obtain ⟨as, a1, a2, a3⟩ := hr11
      fail "bm_go"
      refine r_tupL (SqL.of a1) fun p np => ?_
      have sp := same_new (o := .tup (as.map V.ref)) np
      have cA := (((c04.trans k5).step s10).step s11).step sp
      refine k p _ _ cA (((hd5.same s10).same s11).same sp) ⟨as, SqT.of upd_same, a2, fun i a r x y => sqT_same sp (a3 i a r x y)⟩
        ⟨mid ++ [⟨"", "set", .int (c5 % 256)⟩, ⟨"", "door", .int 0⟩, ⟨"", "wait", .non⟩], by simp, hc.app (clo_all fun r hr => ?_), by simp; omega⟩
      simp only [List.mem_cons, List.not_mem_nil, or_false] at hr
      rcases hr with rfl | rfl | rfl
      · exact ⟨show ("set" : Str) ≠ "go" by decide +kernel, fun P => .byte _ _ _ (by decide +kernel)⟩
      · exact ⟨show ("door" : Str) ≠ "go" by decide +kernel, fun P => .door _ 0 (by omega)⟩
      · exact ⟨show ("wait" : Str) ≠ "go" by decide +kernel, fun P => .plain _ _ (by decide +kernel)⟩
def sp_l_turning (K : PySem.W.Frag) : Sp := fun vs H Q _ => ∃ (d p : Addr) (P : List Row), vs = [.ref d, .ref p] ∧ DeckAt H d ∧ PAt K H p P ∧ Shape 52 P ∧
  ∀ (t : Addr) (P' : List Row) (H' : Hp), Chg d H H' → DeckAt H' d → PAt K H' t P' → Shape 55 P' → Q (.ref t) H'
theorem sc_l_turning : FnScope ["_law_deck_here", "_law_program", "_law_more"] ["_law_deck_here", "_law_program"] (defScope s_l_turning) := ⟨rfl, rfl, rfl, by decide +kernel, rfl, by decide +kernel, by decide +kernel⟩
theorem ok_l_turning {P : Program} {w : World} {K : PySem.W.Frag} {mg : Str → Option Value} {base : Heap} (T : Tx K mg) : Ok P w K mg base CX0 2 810 ["_law_deck_here", "_law_program"] (sp_l_turning K) := by
  refine ok0 1 (f_l_turning T) sc_l_turning (fun _ _ _ _ _ _ us hl => match us, hl with | [_, _], _ => rfl) (fun vs H Q E h => ?_) (fun cdv A outer sh H vs Q E room h => ?_)
  · obtain ⟨d, p, P, rfl, hd, hP, hS, k⟩ := h
    rfl
  · obtain ⟨d, p, P, rfl, hd, hP, hS, k⟩ := h
    refine ⟨_,     (pss_cons (ps_set (i := 2) sc_l_turning.nd rfl (Or.inl rfl) (pe_tup (pa_cons (pe_tup (pa_cons pe_str (pa_cons pe_str (pa_cons (pe_op op_add pe_int (pe_op op_mod (pc (ok_l_next (K := K) T) (room.mono (by decide)) rfl (g__law_next T) pass0 (pa_cons (pv 0) pa_nil)) pe_int)) pa_nil)))) (pa_cons (pe_tup (pa_cons pe_str (pa_cons pe_str (pa_cons pe_non pa_nil)))) (pa_cons (pe_tup (pa_cons pe_str (pa_cons pe_str (pa_cons pe_str pa_nil)))) pa_nil)))))
        (pss_one (ps_ret (pe_op (op_catK K) (pe_op (op_catK K) (pe_slice (sl_tupK K) (pv 1) po_none (po_some pe_int)) (pe_op (op_rep01 K) (pv 2) (pe_op op_mod (pc (ok_l_next (K := K) T) (room.mono (by decide)) rfl (g__law_next T) pass0 (pa_cons (pv 0) pa_nil)) pe_int))) (pe_slice (sl_tupK K) (pv 1) (po_some pe_int) po_none))))), ?_⟩
    show (_ : TS) _ [_, _, none] _
    fail "bm_go"
    refine ⟨d, rfl, hd, fun c H1 c1 hd1 => ?_⟩
    fail "bm_go"
    intro t2 n2
    have s2 := same_new (o := .tup [.str "", .str "setx", .int (2 + c % 3)]) n2
    fail "bm_go"
    intro t3 n3
    have s3 := s2.trans (same_new (o := .tup [.str "lo", .str "down", .non]) n3)
    fail "bm_go"
    intro t4 n4
    have s4 := s3.trans (same_new (o := .tup [.str "", .str "ifn", .str "lo"]) n4)
    fail "bm_go"
    intro mt n5
    have s5 := s4.trans (same_new (o := .tup [.ref t2, .ref t3, .ref t4]) n5)
    have hmt : SqT K (upd (upd (upd (upd H1 t2 (.tup [.str "", .str "setx", .int (2 + c % 3)])) t3 (.tup [.str "lo", .str "down", .non])) t4 (.tup [.str "", .str "ifn", .str "lo"])) mt (.tup [.ref t2, .ref t3, .ref t4])) mt [.ref t2, .ref t3, .ref t4] := SqT.of upd_same
    have hrm : RowsOf K (upd (upd (upd (upd H1 t2 (.tup [.str "", .str "setx", .int (2 + c % 3)])) t3 (.tup [.str "lo", .str "down", .non])) t4 (.tup [.str "", .str "ifn", .str "lo"])) mt (.tup [.ref t2, .ref t3, .ref t4])) [t2, t3, t4]
        [⟨"", "setx", .int (2 + c % 3)⟩, ⟨"lo", "down", .non⟩, ⟨"", "ifn", .str "lo"⟩] := .cons (SqT.of (gN n5 (gN n4 (gN n3 upd_same)))) (.cons (SqT.of (gN n5 (gN n4 upd_same))) (.cons (SqT.of (gN n5 upd_same)) .nil))
    have c5 := c1.step s5
    have hd5 := hd1.same s5
    revert s5 hmt hrm c5 hd5
    generalize upd (upd (upd (upd H1 t2 (.tup [.str "", .str "setx", .int (2 + c % 3)])) t3 (.tup [.str "lo", .str "down", .non])) t4 (.tup [.str "", .str "ifn", .str "lo"])) mt (.tup [.ref t2, .ref t3, .ref t4]) = H5
    intro s5 hmt hrm c5 hd5
    obtain ⟨as, hp, hal, har⟩ := hP.chg c5
    obtain ⟨mid, rfl, hc, hln⟩ := hS
    obtain ⟨a0, as, rfl⟩ : ∃ a0 as', as = a0 :: as' := by
      cases as with
      | nil => simp at hal
      | cons a b => exact ⟨a, b, rfl⟩
    fail "bm_go"
    refine r_slG hp fun u H6 s6 hu => ?_
    rw [show (1 : Int) = ((1 : Nat) : Int) from rfl, cutV_to] at hu
    fail "bm_go"
    refine ⟨d, rfl, hd5.same s6, fun c7 H7 k7 hd7 => ?_⟩
    have hp7 := sqT_chg k7 (sqT_same s6 hp)
    have hu7 := sqT_chg k7 hu
    have hm7 := sqT_chg k7 (sqT_same s6 hmt)
    have c57 := (c5.step s6).trans k7
    have im57 := (im_of s6).trans k7.im
    have key : ∀ (xs : List Addr) (rs : List Row), RowsOf K H5 xs rs → Clo rs → rs.length ≤ 3 → ∀ (w : Addr) (H8 : Hp), Same H7 H8 → SqT K H8 w (xs.map V.ref) →
        rCatA K (.ref u) (.ref w) H8 fun x H9 => tSl (rSlA K) (tVar 1) (tPart (tC (.int 1))) tNoPart [some (.ref d), some (.ref p), some (.ref mt)] H9 fun y H10 => rCatA K x y H10 Q := fun xs rs hxr hcr hlr w H8 s8 hw => by
      have hxl := hxr.1
      refine r_catG (sqT_same s8 hu7) hw (by simp at hal; simp; omega) fun v H9 s9 hv => ?_
      fail "bm_go"
      refine r_slG (sqT_same (s8.trans s9) hp7) fun x H10 s10 hx => ?_
      rw [show (1 : Int) = ((1 : Nat) : Int) from rfl, cutV_from] at hx
      refine r_catG (sqT_same s10 hv) hx (by simp at hal; simp; omega) fun y H11 s11 hy => ?_
      have sA := ((s8.trans s9).trans s10).trans s11
      have iA := im57.trans (im_of sA)
      refine k y (⟨"top", "rest", .non⟩ :: ((rs ++ mid) ++ [⟨"", "go", .str "top"⟩])) H11 (c57.step sA) (hd7.same sA) ⟨a0 :: (xs ++ as), ?_, ?_, fun i a r ha hr => ?_⟩ ⟨rs ++ mid, rfl, hcr.app hc, by simp; omega⟩
      · simpa using hy
      · simp at hal
        simp
        omega
      · cases i with
        | zero => exact iA.sqT (har 0 a r ha hr)
        | succ i =>
          rw [List.getElem?_cons_succ] at ha hr
          by_cases hi : i < xs.length
          · rw [List.getElem?_append_left hi] at ha
            rw [List.append_assoc, List.getElem?_append_left (by omega)] at hr
            exact iA.sqT (hxr.2 i a r ha hr)
          · rw [List.getElem?_append_right (by omega)] at ha
            rw [List.append_assoc, List.getElem?_append_right (by omega), ← hxl] at hr
            exact iA.sqT (har (i - xs.length + 1) a r (by rw [List.getElem?_cons_succ]; exact ha) (by rw [List.getElem?_cons_succ]; exact hr))
    have m0 := Int.emod_nonneg c7 (show (2 : Int) ≠ 0 by omega)
    have m1 := Int.emod_lt_of_pos c7 (show (0 : Int) < 2 by omega)
    fail "bm_go"
    have hk : c7 % 2 = 1 ∨ c7 % 2 = 0 := by omega
    rcases hk with hk | hk
    · rw [hk]
      refine ⟨mt, 1, _, rfl, rfl, hm7, by simp, .inl ⟨rfl, ?_⟩⟩
      refine key [t2, t3, t4] _ hrm (fun r hr => ?_) (by simp) mt H7 (Same.refl _) hm7
      simp only [List.mem_cons, List.not_mem_nil, or_false] at hr
      rcases hr with rfl | rfl | rfl
      · exact ⟨show ("setx" : Str) ≠ "go" by decide +kernel, .inl fun P => .byte _ _ _ (by decide +kernel)⟩
      · exact ⟨show ("down" : Str) ≠ "go" by decide +kernel, .inl fun P => .plain _ _ (by decide +kernel)⟩
      · exact ⟨show ("ifn" : Str) ≠ "go" by decide +kernel, .inr ⟨show ("ifn" : Str) ∈ ifDs by decide +kernel, "lo", rfl, ⟨"lo", "down", .non⟩, by simp, rfl⟩⟩
    · rw [hk]
      refine ⟨mt, 0, _, rfl, rfl, hm7, by simp, .inr ⟨rfl, fun w nw => ?_⟩⟩
      exact key [] [] .nil Clo.nil (by simp) w _ (same_new nw) (SqT.of upd_same)
end
section
/-! ## F5: places, ends, the base -/
local macro_rules | `(tactic| fail "bm_go1") => `(tactic| first
  | with_reducible refine r_orV ?_
  | with_reducible refine r_chain ?_
  | with_reducible refine r_bm0 ?_
  | with_reducible refine r_lrev ?_)
/-- a deed's place in the law's own list -/
def dIx (d : Str) : Nat := (deedsV.findIdx? fun v => eqV v (.str d)).getD 31
def dOk (d : Str) : Bool := decide (dIx d < 31) && (decide (deedsV[dIx d]? = some (.str d)) && ((deedsV.take (dIx d)).all (fun z => !eqV z (.str d)) &&
  (decide (byteCnt d = if 13 ≤ dIx d ∧ dIx d < 22 ∨ dIx d = 30 then 1 else 2) && (decide (beatsL[dIx d]? = some (beatCnt d)) &&
  (decide (dIx d = 22 ↔ d = "go") && (decide (dIx d ≠ 27) && (decide (dIx d ≠ 30) && decide (22 < dIx d ∧ dIx d < 27 ↔ isIf d = true))))))))
theorem dOk_all : ∀ d ∈ allDs, dOk d = true := by decide +kernel
structure DIxOk (d : Str) : Prop where
  lt : dIx d < 31
  at_ : deedsV[dIx d]? = some (.str d)
  first : ∀ (m : Nat) (z : V), m < dIx d → deedsV[m]? = some z → eqV z (.str d) = false
  long : byteCnt d = if 13 ≤ dIx d ∧ dIx d < 22 ∨ dIx d = 30 then 1 else 2
  beats : beatsL[dIx d]? = some (beatCnt d)
  go : dIx d = 22 ↔ d = "go"
  n27 : dIx d ≠ 27
  n30 : dIx d ≠ 30
  iff_ : 22 < dIx d ∧ dIx d < 27 ↔ isIf d = true
theorem dix_ok {d : Str} (h : d ∈ allDs) : DIxOk d := by
  have h := dOk_all d h
  unfold dOk at h
  simp only [Bool.and_eq_true, decide_eq_true_eq] at h
  obtain ⟨h1, h2, h3, h4, h5, h6, h7, h8, h9⟩ := h
  refine ⟨h1, h2, fun m z hm hz => ?_, h4, h5, h6, h7, h8, h9⟩
  have := List.all_eq_true.mp h3 z (List.mem_of_getElem? (by rw [List.getElem?_take, if_pos hm]; exact hz))
  simpa using this
theorem r_deed {K : PySem.W.Frag} {H : Hp} {l : Addr} {d : Str} {Q : VK} (hl : H l = some (.lst deedsV)) (h : DIxOk d) (q : Q (.int (dIx d : Int)) H) : rIndex K (.ref l) [.str d] H Q :=
  r_index (z := .str d) (SqL.of hl) rfl (by decide) h.at_ (by simp [eqV]) h.first q
def sp_l_places (K : PySem.W.Frag) : Sp := fun vs H Q _ => ∃ (p : Addr) (P : List Row) (b : Int), vs = [.ref p, .int b] ∧ PAt K H p P ∧ WF P ∧ ∀ l H', Same H H' → H l = none → H' l = some (.lst ((addrs b P).map V.int)) → Q (.ref l) H'
theorem sc_l_places : FnScope ["_law_program", "_law_base_here", "_law_found", "_law_mark", "_law_deed", "_law_value_here"] ["_law_program", "_law_base_here"] (defScope s_l_places) := ⟨rfl, rfl, rfl, by decide +kernel, rfl, by decide +kernel, by decide +kernel⟩
theorem ok_l_places {P : Program} {w : World} {K : PySem.W.Frag} {mg : Str → Option Value} {base : Heap} (T : Tx K mg) : Ok P w K mg base CX0 2 748 ["_law_program", "_law_base_here"] (sp_l_places K) := by
  refine ok0 1 (f_l_places T) sc_l_places (fun _ _ _ _ _ _ us hl => match us, hl with | [_, _], _ => rfl) (fun vs H Q E h => ?_) (fun cdv A outer sh H vs Q E room h => ?_)
  · obtain ⟨p, P, b, rfl, hP, W, k⟩ := h
    rfl
  · obtain ⟨p, P, b, rfl, hP, W, k⟩ := h
    refine ⟨_,     (pss_cons (ps_set (i := 2) sc_l_places.nd rfl (Or.inl rfl) (pe_lst pa_nil))
        (pss_cons (ps_for PassesOwn.never rfl (pi_tupK K (pv 0)) (pg_tupK K (n := 3) rfl (pgs_cons (pg_name (i := 3) sc_l_places.nd rfl (Or.inl rfl)) (pgs_cons (pg_name (i := 4) sc_l_places.nd rfl (Or.inl rfl)) (pgs_cons (pg_name (i := 5) sc_l_places.nd rfl (Or.inl rfl)) pgs_nil))))
          (pss_cons (ps_expr (pe_bmK K PySem.F.plainAttrs_list PySem.F.slot_list_append PySem.F.type_list_append mt_append (pv 2) (pa_cons (pv 1) pa_nil)))
          (pss_one (ps_set (i := 1) sc_l_places.nd rfl (Or.inl rfl) (pe_op op_add (pv 1) (pc (ok_l_long (K := K) T) (room.mono (by decide)) rfl (g__law_long T) pass0 (pa_cons (pe_bmK K PySem.F.plainAttrs_list PySem.F.slot_list_index PySem.F.type_list_index (mt_indexK K) (pc0 (ok_l_deeds (K := K) T) (room.mono (by decide)) rfl (g__law_deeds T) pass0) (pa_cons (pv 4) pa_nil)) pa_nil)))))))
        (pss_one (ps_ret (pv 2))))), ?_⟩
    show (_ : TS) _ [_, _, none, none, none, none] _
    have hz := W.len
    fail "bm_go"
    intro l hl
    fail "bm_go"
    obtain ⟨xs, h1, h2, h3⟩ := hP.each
    refine forT (xs := xs) (fun i σ H' => ∃ o3 o4 o5, σ = [some (.ref p), some (.int (b + longOf (P.take i))), some (.ref l), o3, o4, o5] ∧ Same H H' ∧ H' l = some (.lst (((addrs b P).take i).map V.int))) (sqT_same (same_new hl) h1) ⟨none, none, none, ?_, same_new hl, upd_same⟩
      (fun i σ H' q => ?_) (fun i x σ H' hx q => ?_) (fun σ H' q => ?_)
    · simp [longOf]
    · obtain ⟨o3, o4, o5, rfl, q1, q2⟩ := q
      exact im_mk q1 trivial
    · obtain ⟨o3, o4, o5, rfl, q1, q2⟩ := q
      obtain ⟨a, r, rfl, hr, h4⟩ := h3 i x hx
      have hi := (List.getElem?_eq_some_iff.mp hr).1
      have hdx := dix_ok (W.ok i r hr).d_mem
      have h5 := sqT_same q1 h4
      unfold rowV at h5
      fail "bm_go"
      refine r_app q2 (szl ?_) ?_
      · simp [addrs_length]
        omega
      · fail "bm_go"
        refine ⟨rfl, fun l2 H2 s2 hl2 => ?_⟩
        fail "bm_go"
        refine r_deed hl2 hdx ?_
        fail "bm_go"
        refine ⟨dIx r.d, rfl, hdx.lt, fun H3 s3 => ?_⟩
        fail "bm_go"
        refine ⟨some (.str r.m), some (.str r.d), some r.v, ?_, ((same_mut q1 hl).trans s2).trans s3, ?_⟩
        · rw [← hdx.long, longOf_take_succ hr, ← Int.add_assoc]
        · refine s3 _ _ (s2 _ _ ?_)
          rw [upd_same, addrs_take_succ b P i hi, List.map_append]
          rfl
    · obtain ⟨o3, o4, o5, rfl, q1, q2⟩ := q
      fail "bm_go"
      refine k l H' q1 hl ?_
      rw [h2, ← addrs_length b P, List.take_length] at q2
      exact q2
theorem longOf_le : ∀ P : List Row, (P.length : Int) ≤ longOf P ∧ longOf P ≤ 2 * P.length
  | [] => by simp [longOf]
  | r :: P => by
    have h := longOf_le P
    have h2 := byteCnt_le r.d
    have e : longOf (r :: P) = byteCnt r.d + longOf P := by simp [longOf]
    rw [e]
    simp only [List.length_cons]
    omega
def sp_l_whole_long (K : PySem.W.Frag) : Sp := fun vs H Q _ => ∃ (p : Addr) (P : List Row), vs = [.ref p] ∧ PAt K H p P ∧ WF P ∧ ∀ H', Same H H' → Q (.int (longOf P)) H'
theorem sc_l_whole_long : FnScope ["_law_program", "_law_mark", "_law_deed", "_law_value_here"] ["_law_program"] (defScope s_l_whole_long) := ⟨rfl, rfl, rfl, by decide +kernel, rfl, by decide +kernel, by decide +kernel⟩
theorem ok_l_whole_long {P : Program} {w : World} {K : PySem.W.Frag} {mg : Str → Option Value} {base : Heap} (T : Tx K mg) : Ok P w K mg base CX0 2 753 ["_law_program"] (sp_l_whole_long K) := by
  refine ok0 1 (f_l_whole_long T) sc_l_whole_long (fun _ _ _ _ _ _ us hl => match us, hl with | [_], _ => rfl) (fun vs H Q E h => ?_) (fun cdv A outer sh H vs Q E room h => ?_)
  · obtain ⟨p, P, rfl, hP, W, k⟩ := h
    rfl
  · obtain ⟨p, P, rfl, hP, W, k⟩ := h
    refine ⟨_,     (pss_one (ps_ret (pe_callB (cr_sumK K rfl) (by rfl) (n_sum T) (by decide +kernel) (pa_cons (pe_lc (own := [("_law_mark", 1), ("_law_deed", 2), ("_law_value_here", 3)]) rfl sc_l_whole_long.nd (pi_tupK K (pv 0)) (blkOk_by (N := ["_law_program", "_law_mark", "_law_deed", "_law_value_here"]) (sc := defScope s_l_whole_long) (by decide +kernel)) (fun _ _ _ _ _ => (pg_tupK K (n := 3) rfl (pgs_cons (pg_name (i := 1) sc_l_whole_long.nd rfl (Or.inl rfl)) (pgs_cons (pg_name (i := 2) sc_l_whole_long.nd rfl (Or.inl rfl)) (pgs_cons (pg_name (i := 3) sc_l_whole_long.nd rfl (Or.inl rfl)) pgs_nil))))) (fun _ _ _ _ _ => pts_nil) (fun _ _ _ _ _ => (pc (ok_l_long (K := K) T) (room.mono (by decide)) rfl (g__law_long T) pass0 (pa_cons (pe_bmK K PySem.F.plainAttrs_list PySem.F.slot_list_index PySem.F.type_list_index (mt_indexK K) (pc0 (ok_l_deeds (K := K) T) (room.mono (by decide)) rfl (g__law_deeds T) pass0) (pa_cons (pv 2) pa_nil)) pa_nil)))) pa_nil)))), ?_⟩
    show (_ : TS) _ [_, none, none, none] _
    have hz := W.len
    obtain ⟨xs, h1, h2, h3⟩ := hP.each
    fail "bm_go"
    refine lcT_m (xs := xs) P (fun r => V.int (byteCnt r.d)) h1 h2 (by omega) (fun i x r H' hx hr s R R0 q1 q0 => ?_) (fun D H' hD s hD' => ?_)
    · obtain ⟨a, r', rfl, hr', h4⟩ := h3 i x hx
      cases hr.symm.trans hr'
      have hdx := dix_ok (W.ok i r hr).d_mem
      unfold rowV at h4
      fail "bm_turn"
      fail "bm_go"
      refine ⟨rfl, fun l2 H2 s2 hl2 => ?_⟩
      fail "bm_go"
      refine r_deed hl2 hdx ?_
      fail "bm_go"
      refine ⟨dIx r.d, rfl, hdx.lt, fun H3 s3 => ?_⟩
      rw [← hdx.long]
      exact q1 rfl _ (s2.trans s3)
    · fail "bm_go"
      refine ⟨D, P.map fun r => byteCnt r.d, rfl, SqL.of (by rw [List.map_map]; exact hD'), ?_⟩
      exact k _ s
def sp_l_end (K : PySem.W.Frag) : Sp := fun vs H Q _ => ∃ (p : Addr) (P : List Row) (n : Nat) (r : Row) (m : Str) (j : Nat), vs = [.ref p, .int n] ∧ PAt K H p P ∧ P.length ≤ 1000 ∧ P[n]? = some r ∧ r.v = .str m ∧ markIx P m = some j ∧ ∀ H', Same H H' → Q (.int (j : Int)) H'
theorem sc_l_end : FnScope ["_law_program", "_law_k", "_law_row"] ["_law_program", "_law_k"] (defScope s_l_end) := ⟨rfl, rfl, rfl, by decide +kernel, rfl, by decide +kernel, by decide +kernel⟩
theorem ok_l_end {P : Program} {w : World} {K : PySem.W.Frag} {mg : Str → Option Value} {base : Heap} (T : Tx K mg) : Ok P w K mg base CX0 1 758 ["_law_program", "_law_k"] (sp_l_end K) := by
  refine ok0 0 (f_l_end T) sc_l_end (fun _ _ _ _ _ _ us hl => match us, hl with | [_, _], _ => rfl) (fun vs H Q E h => ?_) (fun cdv A outer sh H vs Q E room h => ?_)
  · obtain ⟨p, P, n, r, m, j, rfl, hP, hz, hn, hm, hj, k⟩ := h
    rfl
  · obtain ⟨p, P, n, r, m, j, rfl, hP, hz, hn, hm, hj, k⟩ := h
    refine ⟨_,     (pss_one (ps_ret (pe_bmK K PySem.F.plainAttrs_list PySem.F.slot_list_index PySem.F.type_list_index (mt_indexK K) (pe_lc (own := [("_law_row", 2)]) rfl sc_l_end.nd (pi_tupK K (pv 0)) (blkOk_by (N := ["_law_program", "_law_k", "_law_row"]) (sc := defScope s_l_end) (by decide +kernel)) (fun _ _ _ _ _ => (pg_name (i := 2) sc_l_end.nd rfl (Or.inl rfl))) (fun _ _ _ _ _ => pts_nil) (fun _ _ _ _ _ => (pe_ix (ix_tupK K) (pv 2) pe_int (fun _ _ => rfl)))) (pa_cons (pe_ix (ix_tupK K) (pe_ix (ix_tupK K) (pv 0) (pv 1) (fun _ _ => rfl)) pe_int (fun _ _ => rfl)) pa_nil)))), ?_⟩
    show (_ : TS) _ [_, _, none] _
    obtain ⟨xs, h1, h2, h3⟩ := hP.each
    obtain ⟨xs', a', g1, g2, g3, _⟩ := hP.at_ hn
    unfold rowV at g3
    rw [hm] at g3
    fail "bm_go"
    refine lcT_m (xs := xs) P (fun r => V.str r.m) h1 h2 (by omega) (fun i x r H' hx hr s R R0 q1 q0 => ?_) (fun D H' hD s hD' => ?_)
    · obtain ⟨a, r', rfl, hr', h4⟩ := h3 i x hx
      cases hr.symm.trans hr'
      unfold rowV at h4
      fail "bm_turn"
      fail "bm_go"
      exact q1 rfl _ (Same.refl _)
    · refine ⟨ty_lst (SqL.of hD'), ?_⟩
      fail "bm_go"
      obtain ⟨e1, e2, e3⟩ := List.findIdx?_eq_some_iff_getElem.mp hj
      refine r_index (z := V.str P[j].m) (SqL.of hD') rfl (by simp [flatV]) (by rw [List.getElem?_map, List.getElem?_eq_getElem e1]; rfl) ?_ (fun n z' hn hz' => ?_) (k _ s)
      · have := of_decide_eq_true e2
        rw [this]
        simp [eqV]
      · rw [List.getElem?_map, List.getElem?_eq_getElem (by omega)] at hz'
        have := e3 n hn
        cases hz'
        simp [eqV] at this ⊢
        exact this
def sp_l_base (K : PySem.W.Frag) : Sp := fun vs H Q _ => ∃ (d p : Addr) (P : List Row), vs = [.ref d, .ref p] ∧ DeckAt H d ∧ PAt K H p P ∧ WF P ∧ P.length ≤ 100 ∧ ∀ (b : Int) (H' : Hp), Chg d H H' → DeckAt H' d → b + longOf P ≤ 256 → Q (.int b) H'
theorem sc_l_base : FnScope ["_law_deck_here", "_law_program", "_law_room"] ["_law_deck_here", "_law_program"] (defScope s_l_base) := ⟨rfl, rfl, rfl, by decide +kernel, rfl, by decide +kernel, by decide +kernel⟩
theorem ok_l_base {P : Program} {w : World} {K : PySem.W.Frag} {mg : Str → Option Value} {base : Heap} (T : Tx K mg) : Ok P w K mg base CX0 3 765 ["_law_deck_here", "_law_program"] (sp_l_base K) := by
  refine ok0 2 (f_l_base T) sc_l_base (fun _ _ _ _ _ _ us hl => match us, hl with | [_, _], _ => rfl) (fun vs H Q E h => ?_) (fun cdv A outer sh H vs Q E room h => ?_)
  · obtain ⟨d, p, P, rfl, hd, hP, W, hl, k⟩ := h
    rfl
  · obtain ⟨d, p, P, rfl, hd, hP, W, hl, k⟩ := h
    refine ⟨_,     (pss_cons (ps_set (i := 2) sc_l_base.nd rfl (Or.inl rfl) (pe_op op_sub pe_int (pc (ok_l_whole_long (K := K) T) (room.mono (by decide)) rfl (g__law_whole_long T) pass0 (pa_cons (pv 1) pa_nil))))
        (pss_one (ps_ret (pe_op op_mod (pe_ix (ix_listK K) (pe_lst (pa_cons (pe_op op_mod (pc (ok_l_next (K := K) T) (room.mono (by decide)) rfl (g__law_next T) pass0 (pa_cons (pv 0) pa_nil)) (pe_op op_add (pv 2) pe_int)) (pa_cons (pv 2) (pa_cons pe_int pa_nil)))) (pe_op op_mod (pc (ok_l_next (K := K) T) (room.mono (by decide)) rfl (g__law_next T) pass0 (pa_cons (pv 0) pa_nil)) pe_int) (fun _ _ => rfl)) pe_int)))), ?_⟩
    show (_ : TS) _ [_, _, none] _
    have hne := W.ne
    have hlo := longOf_le P
    fail "bm_go"
    refine ⟨p, P, rfl, hP, W, fun H1 s1 => ?_⟩
    fail "bm_go"
    refine ⟨d, rfl, hd.same s1, fun c H2 c2 hd2 => ?_⟩
    fail "bm_go"
    intro l nl
    have sl := same_new (o := .lst [.int (c % (256 - longOf P + 1)), .int (256 - longOf P), .int 0]) nl
    have nld := hd2.ne nl
    fail "bm_go"
    refine ⟨d, rfl, hd2.same sl, fun e H3 c3 hd3 => ?_⟩
    have hl3 := c3.kp _ _ nld (upd_same (H := H2) (a := l) (o := .lst [.int (c % (256 - longOf P + 1)), .int (256 - longOf P), .int 0]))
    have cA := (((Chg.of (d := d) s1).trans c2).step sl).trans c3
    have m0 := Int.emod_nonneg c (show (256 - longOf P + 1) ≠ 0 by omega)
    have m1 := Int.emod_lt_of_pos c (show (0 : Int) < 256 - longOf P + 1 by omega)
    have fin : ∀ x : Int, 0 ≤ x → x ≤ 256 - longOf P → Q (.int (x % 256)) H3 := fun x x0 x1 => k _ _ cA hd3 (by omega)
    fail "bm_go"
    have he : e % 3 = 0 ∨ e % 3 = 1 ∨ e % 3 = 2 := by omega
    rcases he with he | he | he
    all_goals
      rw [he]
    · refine r_ixL (SqL.of hl3) (by rfl) ?_
      fail "bm_go"
      exact fin _ m0 (by omega)
    · refine r_ixL (SqL.of hl3) (by rfl) ?_
      fail "bm_go"
      exact fin _ (by omega) (by omega)
    · refine r_ixL (SqL.of hl3) (by rfl) ?_
      fail "bm_go"
      exact fin _ (by omega) (by omega)
end
section
/-! ## F6: the law's own steps -/
local macro_rules | `(tactic| fail "bm_go1") => `(tactic| first
  | with_reducible refine r_orV ?_
  | with_reducible refine r_chain ?_
  | with_reducible refine r_bm0 ?_
  | with_reducible refine r_lrev ?_
  | with_reducible refine r_fore ?_
  | with_reducible refine r_forz ?_
  | with_reducible refine r_lce ?_
  | with_reducible refine r_lcz ?_)
theorem r_disp1 {tk tv : TE} {σ : L2.St} {H : Hp} {Q : VK} (h : ∀ p, H p = none → tk σ (upd H p (.dK [])) fun x H1 => tv σ H1 fun y H2 => H2 p = some (.dK []) ∧ ∃ kvs : List (Key × V), [(x, y)] = kvs.map (fun kv => (kV kv.1, kv.2)) ∧ kvs.length ≤ 15 ∧ Q (.ref p) (upd H2 p (.dK (mergeK [] kvs)))) : tDisp [(tk, tv)] σ H Q := h
theorem r_dispE {H : Hp} {p : Addr} {i : Int} {y : V} {q : List (Key × V) → Prop} (hp : H p = some (.dK [])) (h : q [(.inl i, y)]) : H p = some (.dK []) ∧ ∃ kvs : List (Key × V), [(V.int i, y)] = kvs.map (fun kv => (kV kv.1, kv.2)) ∧ kvs.length ≤ 15 ∧ q kvs :=
  ⟨hp, [(.inl i, y)], rfl, Nat.le_of_ble_eq_true rfl, h⟩
theorem merge1 {k : Key} {y : V} : mergeK [] [(k, y)] = putK [] k y := rfl
theorem stepIs_one {K : PySem.W.Frag} {H : Hp} {t : Addr} {i : Nat} {bt : Int} (ht : SqT K H t [.int bt, .int bt]) : StepIs K H (fun j => if j = ((i : Nat) : Int) then some (.ref t) else none) [(i, bt)] := fun j => by
  by_cases e : j = i
  · subst e
    exact .inr ⟨t, bt, bt, by simp, ht, by simp, by simp, fun b hb => by simp at hb; omega⟩
  · exact .inl ⟨by simp; omega, fun b hb => by simp at hb; omega⟩
theorem stepIs_two {K : PySem.W.Frag} {H : Hp} {t u : Addr} {i j : Nat} {fa : Int} (hf : 2 ≤ fa) (ht : SqT K H t [.int 2, .int 2]) (hu : SqT K H u [.int (if j = i + 1 then 2 else fa), .int fa]) :
    StepIs K H (fun x => if x = ((j : Nat) : Int) then some (.ref u) else if x = ((i : Nat) : Int) + 1 then some (.ref t) else none) [(i + 1, 2), (j, fa)] := fun x => by
  by_cases e : x = j
  · subst e
    refine .inr ⟨u, _, fa, by simp, hu, ?_, by simp, fun b hb => ?_⟩
    · by_cases e2 : x = i + 1
      · rw [if_pos e2, e2]
        simp
      · rw [if_neg e2]
        simp
    · simp at hb
      split <;> omega
  · by_cases e2 : x = i + 1
    · subst e2
      exact .inr ⟨t, 2, 2, by show (if _ then _ else _) = _; rw [if_neg (by omega), if_pos (by omega)], ht, by simp, by simp, fun b hb => by simp at hb; omega⟩
    · exact .inl ⟨by show (if _ then _ else _) = _; rw [if_neg (by omega), if_neg (by omega)], fun b hb => by simp at hb; omega⟩
theorem far_eq {P : List Row} {b : Int} {i j : Nat} : (3 + if (!decide (V.int (adr b P j / 32) = V.int (adr b P (i + 1) / 32))) = true then (1 : Int) else 0) = far P b i j := by
  unfold far crossed
  by_cases e : adr b P j / 32 = adr b P (i + 1) / 32
  · simp [e]
  · simp [e]
def sp_l_steps (K : PySem.W.Frag) : Sp := fun vs H Q _ => ∃ (p : Addr) (P : List Row) (b : Int), vs = [.ref p, .int b] ∧ PAt K H p P ∧ WF P ∧ ∀ l H', Same H H' → H l = none → StepsAt K H' l P b → Q (.ref l) H'
theorem sc_l_steps : FnScope ["_law_program", "_law_base_here", "_law_places_here", "_law_found", "_law_k", "_law_row", "_law_at", "_law_beats_here", "_law_steps_here", "_law_end_here", "_law_far"] ["_law_program", "_law_base_here"] (defScope s_l_steps) := ⟨rfl, rfl, rfl, by decide +kernel, rfl, by decide +kernel, by decide +kernel⟩
theorem ok_l_steps {P : Program} {w : World} {K : PySem.W.Frag} {mg : Str → Option Value} {base : Heap} (T : Tx K mg) : Ok P w K mg base CX0 3 772 ["_law_program", "_law_base_here"] (sp_l_steps K) := by
  refine ok0 2 (f_l_steps T) sc_l_steps (fun _ _ _ _ _ _ us hl => match us, hl with | [_, _], _ => rfl) (fun vs H Q E h => ?_) (fun cdv A outer sh H vs Q E room h => ?_)
  · obtain ⟨p, P, b, rfl, hP, W, k⟩ := h
    rfl
  · obtain ⟨p, P, b, rfl, hP, W, k⟩ := h
    refine ⟨_,     (pss_cons (ps_set (i := 2) sc_l_steps.nd rfl (Or.inl rfl) (pc (ok_l_places (K := K) T) (room.mono (by decide)) rfl (g__law_places T) pass0 (pa_cons (pv 0) (pa_cons (pv 1) pa_nil))))
        (pss_cons (ps_set (i := 3) sc_l_steps.nd rfl (Or.inl rfl) (pe_lst pa_nil))
        (pss_cons (ps_for PassesOwn.never rfl (pi_enumTK K rfl (n_enumerate T) (pa_cons (pv 0) pa_nil)) (pg_tupK K (n := 2) rfl (pgs_cons (pg_name (i := 4) sc_l_steps.nd rfl (Or.inl rfl)) (pgs_cons (pg_name (i := 5) sc_l_steps.nd rfl (Or.inl rfl)) pgs_nil)))
          (pss_cons (ps_set (i := 6) sc_l_steps.nd rfl (Or.inl rfl) (pe_bmK K PySem.F.plainAttrs_list PySem.F.slot_list_index PySem.F.type_list_index (mt_indexK K) (pc0 (ok_l_deeds (K := K) T) (room.mono (by decide)) rfl (g__law_deeds T) pass0) (pa_cons (pe_ix (ix_tupK K) (pv 5) pe_int (fun _ _ => rfl)) pa_nil)))
          (pss_cons (ps_set (i := 7) sc_l_steps.nd rfl (Or.inl rfl) (pc (ok_l_beats (K := K) T) (room.mono (by decide)) rfl (g__law_beats T) pass0 (pa_cons (pv 6) pa_nil)))
          (pss_cons (ps_set (i := 8) sc_l_steps.nd rfl (Or.inl rfl) (pe_disp (pps_cons (pe_op op_add (pv 4) pe_int) (pe_tup (pa_cons (pv 7) (pa_cons (pv 7) pa_nil))) pps_nil) (by rfl) (by rfl) (fun z => by cases z) (by decide)))
          (pss_cons (ps_if (pt_cmpR op_eq (pv 6) pe_int (nomark _))
            (pss_one (ps_set (i := 8) sc_l_steps.nd rfl (Or.inl rfl) (pe_disp (pps_cons (pc (ok_l_end (K := K) T) (room.mono (by decide)) rfl (g__law_end T) pass0 (pa_cons (pv 0) (pa_cons (pv 4) pa_nil))) (pe_tup (pa_cons pe_int (pa_cons pe_int pa_nil))) pps_nil) (by rfl) (by rfl) (fun z => by cases z) (by decide))))
            (pss_one (ps_if (pt_cmpR op_eq (pv 6) pe_int (nomark _))
              (pss_one (ps_set (i := 8) sc_l_steps.nd rfl (Or.inl rfl) (pe_disp (pps_cons (pe_op op_add (pv 4) pe_int) (pe_tup (pa_cons pe_int (pa_cons pe_int pa_nil))) pps_nil) (by rfl) (by rfl) (fun z => by cases z) (by decide))))
              (pss_one (ps_if (pt_chain op_lt op_lt pe_int (pv 6) pe_int)
                (pss_cons (ps_set (i := 9) sc_l_steps.nd rfl (Or.inl rfl) (pc (ok_l_end (K := K) T) (room.mono (by decide)) rfl (g__law_end T) pass0 (pa_cons (pv 0) (pa_cons (pv 4) pa_nil))))
                (pss_cons (ps_set (i := 10) sc_l_steps.nd rfl (Or.inl rfl) (pe_op op_add pe_int (pe_callTy call_intN (by rfl) (n_int T) (by decide +kernel) (pa_cons (pe_cmpR op_ne (pe_op op_fdiv (pe_ix (ix_listK K) (pv 2) (pv 9) (fun _ _ => rfl)) pe_int) (pe_op op_fdiv (pe_ix (ix_listK K) (pv 2) (pe_op op_add (pv 4) pe_int) (fun _ _ => rfl)) pe_int) (nomark _)) pa_nil))))
                (pss_one (ps_dput (hu_of room) (pv 8) (pv 9) (pe_ix (ix_listK K) (pe_lst (pa_cons (pe_tup (pa_cons (pv 10) (pa_cons (pv 10) pa_nil))) (pa_cons (pe_tup (pa_cons pe_int (pa_cons (pv 10) pa_nil))) pa_nil))) (pe_callTy call_intN (by rfl) (n_int T) (by decide +kernel) (pa_cons (pe_cmpR op_eq (pv 9) (pe_op op_add (pv 4) pe_int) (nomark _)) pa_nil)) (fun _ _ => rfl)) rfl)))) pss_nil)))))
          (pss_one (ps_expr (pe_bmK K PySem.F.plainAttrs_list PySem.F.slot_list_append PySem.F.type_list_append mt_append (pv 3) (pa_cons (pe_ix (ix_listK K) (pe_lst (pa_cons (pv 8) (pa_cons pe_dnewK pa_nil))) (pe_callTy call_intN (by rfl) (n_int T) (by decide +kernel) (pa_cons (pe_cmpR op_eq (pv 6) pe_int (nomark _)) pa_nil)) (fun _ _ => rfl)) pa_nil)))))))))
        (pss_one (ps_ret (pv 3)))))), ?_⟩
    show (_ : TS) _ [_, _, none, none, none, none, none, none, none, none, none] _
    have hz := W.len
    fail "bm_go"
    refine ⟨p, P, b, rfl, hP, W, fun pl H1 s1 npl hpl => ?_⟩
    fail "bm_go"
    intro l nl
    have s2 := s1.trans (same_new (o := .lst []) nl)
    fail "bm_go"
    obtain ⟨xs, h1, h2, h3⟩ := hP.each
    refine forE (xs := xs) (fun i σ H' => (∃ o4 o5 o6 o7 o8 o9 o10, σ = [some (.ref p), some (.int b), some (.ref pl), some (.ref l), o4, o5, o6, o7, o8, o9, o10]) ∧ Same H1 H' ∧ ∃ ds : List Addr, H' l = some (.lst (ds.map V.ref)) ∧ ds.length = i ∧ ∀ (n : Nat) (d : Addr), ds[n]? = some d → StepAt K H' d P b n)
      (sqT_same s2 h1) ⟨⟨none, none, none, none, none, none, none, rfl⟩, same_new nl, [], upd_same, rfl, by simp⟩ (fun i σ' H' q => im_mk q.2.1 trivial) (fun i x T σ' H' hx q nT => ?_) (fun σ' H' q => ?_)
    · obtain ⟨⟨o4, o5, o6, o7, o8, o9, o10, rfl⟩, s3, ds, hl3, hdl, hds⟩ := q
      obtain ⟨a, r, rfl, hr, h4⟩ := h3 i x hx
      have hi := (List.getElem?_eq_some_iff.mp hr).1
      have hok := W.ok i r hr
      have hdx := dix_ok hok.d_mem
      have sT := same_new (o := .tup [.int (i : Int), .ref a]) nT
      have h5 := sqT_same ((s1.trans s3).trans sT) h4
      have hT5 : SqT K (upd H' T (.tup [.int (i : Int), .ref a])) T [.int (i : Int), .ref a] := SqT.of upd_same
      unfold rowV at h5
      have hpl5 := sT _ _ (s3 _ _ hpl)
      have hP5 := (hP.same (s1.trans s3)).same sT
      have fin : ∀ (d : Addr) (Hy : Hp), Same H' Hy → StepAt K Hy d P b i → ∃ ys, Hy l = some (.lst ys) ∧ ys.length < 100000 ∧ Same H1 (upd Hy l (.lst (ys ++ [.ref d]))) ∧
          ∃ ds' : List Addr, upd Hy l (.lst (ys ++ [.ref d])) l = some (.lst (ds'.map V.ref)) ∧ ds'.length = i + 1 ∧ ∀ (n : Nat) (d' : Addr), ds'[n]? = some d' → StepAt K (upd Hy l (.lst (ys ++ [.ref d]))) d' P b n := fun d Hy sy hd => by
        have hly := sy _ _ hl3
        refine ⟨_, hly, by rw [List.length_map]; omega, same_mut (s3.trans sy) nl, ds ++ [d], by rw [upd_same, List.map_append]; rfl, by simp [hdl], fun n d' hn => StepAt.put ?_ hly⟩
        by_cases hn2 : n < ds.length
        · rw [List.getElem?_append_left hn2] at hn
          exact (hds n d' hn).same sy
        · have hn3 := (List.getElem?_eq_some_iff.mp hn).1
          have e : n = ds.length := by simp at hn3; omega
          subst e
          rw [List.getElem?_append_right (Nat.le_refl _), Nat.sub_self] at hn
          cases hn
          rw [hdl]
          exact hd
      revert sT h5 hpl5 hP5 hT5
      generalize upd H' T (.tup [.int (i : Int), .ref a]) = H5
      intro sT h5 hT5 hpl5 hP5
      fail "bm_go"
      refine ⟨rfl, fun l6 H6 s6 hl6 => ?_⟩
      have h6 := sqT_same s6 h5
      fail "bm_go"
      refine r_deed hl6 hdx ?_
      fail "bm_go"
      refine ⟨dIx r.d, beatCnt r.d, rfl, hdx.beats, fun H7 s7 => ?_⟩
      fail "bm_go"
      refine r_disp1 fun d nd => ?_
      have s8 := same_new (o := .dK []) nd
      fail "bm_go"
      intro t nt
      have s9 := s8.trans (same_new (o := .tup [.int (beatCnt r.d), .int (beatCnt r.d)]) nt)
      have hd9 : upd (upd H7 d (.dK [])) t (.tup [.int (beatCnt r.d), .int (beatCnt r.d)]) d = some (.dK []) := gN nt upd_same
      have ht9 : SqT K (upd (upd H7 d (.dK [])) t (.tup [.int (beatCnt r.d), .int (beatCnt r.d)])) t [.int (beatCnt r.d), .int (beatCnt r.d)] := SqT.of upd_same
      refine r_dispE hd9 ?_
      rw [merge1]
      have s10 : Same H7 (upd (upd (upd H7 d (.dK [])) t (.tup [.int (beatCnt r.d), .int (beatCnt r.d)])) d (.dK (putK [] (.inl ((i : Int) + 1)) (.ref t)))) := same_mut s9 nd
      have hD := DI.nil.put ((i : Int) + 1) (.ref t)
      rw [if_neg List.not_mem_nil] at hD
      have ht10 := sqT_im (Im.mut (o := .dK (putK [] (.inl ((i : Int) + 1)) (.ref t))) hd9 trivial) ht9
      have hd10 : upd (upd (upd H7 d (.dK [])) t (.tup [.int (beatCnt r.d), .int (beatCnt r.d)])) d (.dK (putK [] (.inl ((i : Int) + 1)) (.ref t))) d = some (.dK (putK [] (.inl ((i : Int) + 1)) (.ref t))) := upd_same
      revert s10 ht10 hd10
      generalize upd (upd (upd H7 d (.dK [])) t (.tup [.int (beatCnt r.d), .int (beatCnt r.d)])) d (.dK (putK [] (.inl ((i : Int) + 1)) (.ref t))) = H10
      intro s10 ht10 hd10
      have s510 := ((s6.trans s7).trans s10)
      have s310 := sT.trans s510
      have n30 : decide (V.int (dIx r.d : Int) = V.int 30) = false := decide_eq_false fun e => hdx.n30 (by have := V.int.inj e; omega)
      fail "bm_go"
      rcases hok.cases3 with ⟨e1, e2, mk, j, e3, hj⟩ | ⟨e1, e2, mk, j, e3, hj⟩ | ⟨e1, e2, e4⟩
      · have hx2 := hdx.iff_.mpr e1
        have hlast := W.last i r hr e2
        have hjl := markIx_lt hj
        refine r_ifF (decide_eq_false fun e => by have := V.int.inj e; omega) ?_
        fail "bm_go"
        refine r_ifF (decide_eq_false fun e => by have := V.int.inj e; omega) ?_
        fail "bm_go"
        refine r_ifT (decide_eq_true (by omega)) ?_
        fail "bm_go"
        refine r_ifT (decide_eq_true (by omega)) ?_
        fail "bm_go"
        refine ⟨p, P, i, r, mk, j, rfl, hP5.same s510, by omega, hr, e3, hj, fun H11 s11 => ?_⟩
        have hpl11 := s11 _ _ (s510 _ _ hpl5)
        have hd11 := s11 _ _ hd10
        have ix1 : atI ((addrs b P).map V.int) (j : Int) = some (.int (adr b P j)) := atI_nat (by rw [List.getElem?_map, addrs_get b P j hjl]; rfl)
        have ix2 : atI ((addrs b P).map V.int) ((i : Int) + 1) = some (.int (adr b P (i + 1))) := by
          have := atI_nat (j := i + 1) (v := V.int (adr b P (i + 1))) (by rw [List.getElem?_map, addrs_get b P (i + 1) hlast]; rfl)
          simpa using this
        fail "bm_go"
        simp only [far_eq]
        intro u1 nu1
        have s12 := s11.trans (same_new (o := .tup [.int (far P b i j), .int (far P b i j)]) nu1)
        have g1 : SqT K (upd H11 u1 (.tup [.int (far P b i j), .int (far P b i j)])) u1 [.int (far P b i j), .int (far P b i j)] := SqT.of upd_same
        fail "bm_go"
        intro u2 nu2
        have s13 := s12.trans (same_new (o := .tup [.int 2, .int (far P b i j)]) nu2)
        have g2 : SqT K (upd (upd H11 u1 (.tup [.int (far P b i j), .int (far P b i j)])) u2 (.tup [.int 2, .int (far P b i j)])) u2 [.int 2, .int (far P b i j)] := SqT.of upd_same
        fail "bm_go"
        intro w nw
        have sw := same_new (o := .lst [.ref u1, .ref u2]) nw
        have s14 := s13.trans sw
        have g1 := sqT_same ((same_new (o := .tup [.int 2, .int (far P b i j)]) nu2).trans sw) g1
        have g2 := sqT_same sw g2
        have gw : upd (upd (upd H11 u1 (.tup [.int (far P b i j), .int (far P b i j)])) u2 (.tup [.int 2, .int (far P b i j)])) w (.lst [.ref u1, .ref u2]) w = some (.lst [.ref u1, .ref u2]) := upd_same
        clear sw
        revert s14 g1 g2 gw
        fail "bm_go"
        generalize upd (upd (upd H11 u1 (.tup [.int (far P b i j), .int (far P b i j)])) u2 (.tup [.int 2, .int (far P b i j)])) w (.lst [.ref u1, .ref u2]) = H14
        intro s14 g1 g2 gw
        have hu : ∃ u, atI [V.ref u1, .ref u2] (if decide (V.int (j : Int) = V.int ((i : Int) + 1)) = true then 1 else 0) = some (.ref u) ∧ SqT K H14 u [.int (if j = i + 1 then 2 else far P b i j), .int (far P b i j)] := by
          by_cases e : j = i + 1
          · subst e
            exact ⟨u2, by rw [if_pos (by simp)]; rfl, by rw [if_pos rfl]; exact g2⟩
          · refine ⟨u1, by rw [if_neg (by rw [decide_eq_true_iff]; intro z; have := V.int.inj z; omega)]; rfl, by rw [if_neg e]; exact g1⟩
        obtain ⟨u, iu, hu⟩ := hu
        have hd14 := s14 _ _ hd10
        have ht14 := sqT_same s14 ht10
        fail "bm_go"
        refine r_dputE hd14 (szl (by rw [hD.len]; simp)) ?_
        have hD2 := hD.put (j : Int) (.ref u)
        have im15 := Im.mut (o := .dK (putK (putK [] (.inl ((i : Int) + 1)) (.ref t)) (.inl (j : Int)) (.ref u))) hd14 trivial
        have b2 : beatCnt r.d = 2 := by
          have all : ∀ x ∈ allDs, isIf x = true → beatCnt x = 2 := by decide +kernel
          exact all _ hok.d_mem e1
        rw [b2] at ht14
        have f3 : 2 ≤ far P b i j := by
          have := crossed_le (adr b P j) (adr b P (i + 1))
          unfold far
          omega
        have hst : StepAt K (upd H14 d (.dK (putK (putK [] (.inl ((i : Int) + 1)) (.ref t)) (.inl (j : Int)) (.ref u)))) d P b i := by
          refine ⟨_, _, _, upd_same, hD2, ?_, fun q hq => ?_, by rw [ent_if hr e1 e3 hj]; exact stepIs_two f3 (im15.sqT ht14) (im15.sqT hu)⟩
          · split <;> simp
          · have : q = ((i + 1 : Nat) : Int) ∨ q = (j : Int) := by
              rw [List.nil_append] at hq
              split at hq
              · have := List.mem_singleton.mp hq
                exact .inl (by omega)
              · rcases List.mem_append.mp hq with hq | hq
                · have := List.mem_singleton.mp hq
                  exact .inl (by omega)
                · exact .inr (List.mem_singleton.mp hq)
            rcases this with e | e
            · exact ⟨_, e⟩
            · exact ⟨_, e⟩
        have s15 : Same H7 (upd H14 d (.dK (putK (putK [] (.inl ((i : Int) + 1)) (.ref t)) (.inl (j : Int)) (.ref u)))) := same_mut (s10.trans s14) nd
        revert s15 hst
        generalize upd H14 d (.dK (putK (putK [] (.inl ((i : Int) + 1)) (.ref t)) (.inl (j : Int)) (.ref u))) = H15
        intro hst s15
        fail "bm_go"
        intro f nf
        fail "bm_go"
        intro q nq
        have hq : upd (upd H15 f (.dK [])) q (.lst [.ref d, .ref f]) q = some (.lst [.ref d, .ref f]) := upd_same
        fail "bm_go"
        rw [n30]
        refine r_ixL (SqL.of hq) (by rfl) ?_
        obtain ⟨ys, f1, f2, f3, f4⟩ := fin d _ ((((sT.trans (s6.trans s7)).trans s15).trans (same_new (o := .dK []) nf)).trans (same_new (o := .lst [.ref d, .ref f]) nq)) ((hst.same (same_new nf)).same (same_new nq))
        fail "bm_go"
        refine r_app f1 (szl f2) ?_
        exact ⟨⟨_, _, _, _, _, _, _, rfl⟩, f3, f4⟩
      · have hx2 := hdx.go.mpr e2
        refine r_ifT (decide_eq_true (by rw [hx2]; rfl)) ?_
        fail "bm_go"
        refine r_disp1 fun d2 nd2 => ?_
        have s11 := same_new (o := .dK []) nd2
        fail "bm_go"
        refine ⟨p, P, i, r, mk, j, rfl, (hP5.same s510).same s11, by omega, hr, e3, hj, fun H12 s12 => ?_⟩
        have hd12 : H12 d2 = some (.dK []) := s12 _ _ upd_same
        fail "bm_go"
        intro t2 nt2
        have s13 := (s11.trans s12).trans (same_new (o := .tup [.int 3, .int 3]) nt2)
        have hd13 := gN (o := .tup [.int 3, .int 3]) nt2 hd12
        have ht13 : SqT K (upd H12 t2 (.tup [.int 3, .int 3])) t2 [.int 3, .int 3] := SqT.of upd_same
        refine r_dispE hd13 ?_
        rw [merge1]
        have s14 : Same H10 (upd (upd H12 t2 (.tup [.int 3, .int 3])) d2 (.dK (putK [] (.inl (j : Int)) (.ref t2)))) := same_mut s13 nd2
        have hD2 := DI.nil.put (j : Int) (.ref t2)
        have ht14 := sqT_im (Im.mut (o := .dK (putK [] (.inl (j : Int)) (.ref t2))) hd13 trivial) ht13
        have hd14 : upd (upd H12 t2 (.tup [.int 3, .int 3])) d2 (.dK (putK [] (.inl (j : Int)) (.ref t2))) d2 = some (.dK (putK [] (.inl (j : Int)) (.ref t2))) := upd_same
        have hst : StepAt K (upd (upd H12 t2 (.tup [.int 3, .int 3])) d2 (.dK (putK [] (.inl (j : Int)) (.ref t2)))) d2 P b i :=
          ⟨_, _, _, hd14, hD2, by simp, fun q hq => ⟨j, by simpa using hq⟩, by rw [ent_go hr e1 e2 e3 hj]; exact stepIs_one ht14⟩
        revert s14 hst
        generalize upd (upd H12 t2 (.tup [.int 3, .int 3])) d2 (.dK (putK [] (.inl (j : Int)) (.ref t2))) = H14
        intro s14 hst
        fail "bm_go"
        intro f nf
        have s15 := s14.trans (same_new (o := .dK []) nf)
        fail "bm_go"
        intro q nq
        have s16 := s15.trans (same_new (o := .lst [.ref d2, .ref f]) nq)
        have hq : upd (upd H14 f (.dK [])) q (.lst [.ref d2, .ref f]) q = some (.lst [.ref d2, .ref f]) := upd_same
        fail "bm_go"
        rw [n30]
        refine r_ixL (SqL.of hq) (by rfl) ?_
        obtain ⟨ys, f1, f2, f3, f4⟩ := fin d2 _ (s310.trans s16) ((hst.same (same_new nf)).same (same_new nq))
        fail "bm_go"
        refine r_app f1 (szl f2) ?_
        exact ⟨⟨_, _, _, _, _, _, _, rfl⟩, f3, f4⟩
      · have hx2 : ¬ dIx r.d = 22 := fun e => e4 (hdx.go.mp e)
        have hx3 : ¬ (22 < dIx r.d ∧ dIx r.d < 27) := fun e => by have := hdx.iff_.mp e; rw [e1] at this; cases this
        refine r_ifF (decide_eq_false fun e => hx2 (by have := V.int.inj e; omega)) ?_
        fail "bm_go"
        refine r_ifF (decide_eq_false fun e => hdx.n27 (by have := V.int.inj e; omega)) ?_
        have hst : StepAt K H10 d P b i :=
          ⟨_, _, _, hd10, hD, by simp, fun q hq => ⟨i + 1, by simpa using hq⟩, by rw [ent_no hr e1 e2]; exact stepIs_one (i := i + 1) ht10⟩
        fail "bm_go"
        have hA : dIx r.d ≤ 22 ∨ 27 ≤ dIx r.d := by omega
        rcases hA with hA | hA
        · refine r_ifF (decide_eq_false (by omega)) ?_
          fail "bm_go"
          fail "bm_go"
          intro f nf
          have s15 := (Same.refl H10).trans (same_new (o := .dK []) nf)
          fail "bm_go"
          intro q nq
          have s16 := s15.trans (same_new (o := .lst [.ref d, .ref f]) nq)
          have hq : upd (upd H10 f (.dK [])) q (.lst [.ref d, .ref f]) q = some (.lst [.ref d, .ref f]) := upd_same
          fail "bm_go"
          rw [n30]
          refine r_ixL (SqL.of hq) (by rfl) ?_
          obtain ⟨ys, f1, f2, f3, f4⟩ := fin d _ (s310.trans s16) ((hst.same (same_new nf)).same (same_new nq))
          fail "bm_go"
          refine r_app f1 (szl f2) ?_
          exact ⟨⟨_, _, _, _, _, _, _, rfl⟩, f3, f4⟩
        · refine r_ifT (decide_eq_true (by omega)) ?_
          fail "bm_go"
          refine r_ifF (decide_eq_false (by omega)) ?_
          fail "bm_go"
          intro f nf
          have s15 := (Same.refl H10).trans (same_new (o := .dK []) nf)
          fail "bm_go"
          intro q nq
          have s16 := s15.trans (same_new (o := .lst [.ref d, .ref f]) nq)
          have hq : upd (upd H10 f (.dK [])) q (.lst [.ref d, .ref f]) q = some (.lst [.ref d, .ref f]) := upd_same
          fail "bm_go"
          rw [n30]
          refine r_ixL (SqL.of hq) (by rfl) ?_
          obtain ⟨ys, f1, f2, f3, f4⟩ := fin d _ (s310.trans s16) ((hst.same (same_new nf)).same (same_new nq))
          fail "bm_go"
          refine r_app f1 (szl f2) ?_
          exact ⟨⟨_, _, _, _, _, _, _, rfl⟩, f3, f4⟩
    · obtain ⟨⟨o4, o5, o6, o7, o8, o9, o10, rfl⟩, s3, ds, hl3, hdl, hds⟩ := q
      fail "bm_go"
      exact k l H' (s1.trans s3) (s1.free nl) ⟨ds, SqL.of hl3, by rw [hdl, h2], hds⟩
end
section
/-! ## F7: sums along a way, ways -/
local macro_rules | `(tactic| fail "bm_go1") => `(tactic| first
  | with_reducible refine r_orV ?_
  | with_reducible refine r_chain ?_
  | with_reducible refine r_bm0 ?_
  | with_reducible refine r_lrev ?_
  | with_reducible refine r_fore ?_
  | with_reducible refine r_forz ?_
  | with_reducible refine r_lce ?_
  | with_reducible refine r_lcz ?_
  | with_reducible refine r_un ?_
  | with_reducible refine r_uI ?_)
theorem cutV_but {xs : List V} : cutV xs none (some (-1)) = xs.take (xs.length - 1) := by
  unfold cutV
  rw [HT.sIx_none]
  have e : HT.sIx xs.length xs.length (some (-1)) = xs.length - 1 := by
    show (if (-1 : Int) < 0 then ((-1 : Int) + (xs.length : Int)).toNat else min (-1 : Int).toNat xs.length) = xs.length - 1
    rw [if_pos (by omega)]
    omega
  rw [e]
  simp
theorem cutV_inner {xs : List V} (h : 1 ≤ xs.length) : cutV xs (some 1) (some (-1)) = (xs.drop 1).take (xs.length - 2) := by
  rw [show (some 1 : Option Int) = some ((1 : Nat) : Int) from rfl]
  unfold cutV
  rw [HT.sIx_nat]
  have e : HT.sIx xs.length xs.length (some (-1)) = xs.length - 1 := by
    show (if (-1 : Int) < 0 then ((-1 : Int) + (xs.length : Int)).toNat else min (-1 : Int).toNat xs.length) = xs.length - 1
    rw [if_pos (by omega)]
    omega
  rw [e, Nat.min_eq_left h]
  congr 1
theorem nats_val {ws : List Nat} {k : Nat} {x : V} (h : (natsV ws)[k]? = some x) : ∃ y : Nat, x = .int (y : Int) ∧ ws[k]? = some y := by
  unfold natsV at h
  rw [List.getElem?_map] at h
  cases e : ws[k]? with
  | none => rw [e] at h; cases h
  | some z =>
    rw [e] at h
    exact ⟨z, (Option.some.inj h).symm, rfl⟩
/-- a way along which a value is kept -/
structure WayOk (P : List Row) (b : Int) (i o : Nat) (val : Nat → Int) (ws : List Nat) : Prop where
  hd : ws.head? = some i
  la : ws.getLast? = some o
  ne : i ≠ o
  len : ws.length ≤ 100
  st : ∀ (k y z : Nat), ws[k]? = some y → ws[k + 1]? = some z → Ed P b o y z ∧ ∃ lo hi, Edge P b y z lo hi ∧ val z = val y + lo
theorem WayOk.two {P : List Row} {b : Int} {i o : Nat} {val : Nat → Int} {ws : List Nat} (h : WayOk P b i o val ws) : 2 ≤ ws.length := by
  have h1 := h.hd
  have h2 := h.la
  match ws, h1, h2 with
  | [], h1, _ => simp at h1
  | [x], h1, h2 =>
    simp at h1 h2
    exact absurd (h1.symm.trans h2) h.ne
  | _ :: _ :: _, _, _ => simp
theorem WayOk.get {P : List Row} {b : Int} {i o : Nat} {val : Nat → Int} {ws : List Nat} (h : WayOk P b i o val ws) {k : Nat} (hk : k + 1 < ws.length) : ∃ y z, ws[k]? = some y ∧ ws[k + 1]? = some z ∧ Ed P b o y z ∧ ∃ lo hi, Edge P b y z lo hi ∧ val z = val y + lo :=
  ⟨ws[k], ws[k + 1], List.getElem?_eq_getElem _, List.getElem?_eq_getElem _, h.st k _ _ (List.getElem?_eq_getElem _) (List.getElem?_eq_getElem _)⟩
theorem tele (val : Nat → Int) (w : Nat → Nat) : ∀ n : Nat, ((List.range n).map fun k => val (w (k + 1)) - val (w k)).sum = val (w n) - val (w 0)
  | 0 => by simp
  | n + 1 => by
    rw [List.range_succ, List.map_append, List.sum_append, tele val w n]
    simp
    omega
theorem r_stepD {K : PySem.W.Frag} {H : Hp} {d : Addr} {P : List Row} {b : Int} {y z : Nat} {lo hi : Int} (h : StepAt K H d P b y) (e : Edge P b y z lo hi) : ∃ kvs ks f, Rd H d (.dK kvs) ∧ DI kvs ks f ∧ ∃ t hi', f z = some (.ref t) ∧ SqT K H t [.int lo, .int hi'] := by
  obtain ⟨kvs, ks, f, h1, h2, h3, h4, h5⟩ := h
  refine ⟨kvs, ks, f, .inl h1, h2, ?_⟩
  obtain ⟨e1, e2, e3⟩ := e
  rcases h5 z with ⟨_, n⟩ | ⟨t, lo', hi', f1, f2, f3, f4, f5⟩
  · exact absurd e1 (n lo)
  · have a1 := (f5 lo e1).1
    have a2 := (e3 lo' f3).1
    have : lo' = lo := by omega
    subst this
    exact ⟨t, hi', f1, f2⟩
theorem StepsAt.get {K : PySem.W.Frag} {H : Hp} {l : Addr} {P : List Row} {b : Int} (h : StepsAt K H l P b) {y : Nat} (hy : y < P.length) : ∃ xs d, SqL K H l xs ∧ atI xs (y : Int) = some (.ref d) ∧ StepAt K H d P b y := by
  obtain ⟨ds, h1, h2, h3⟩ := h
  have hy' : y < ds.length := by omega
  exact ⟨_, ds[y], h1, atI_nat (by rw [List.getElem?_map, List.getElem?_eq_getElem hy']; rfl), h3 y _ (List.getElem?_eq_getElem hy')⟩
def sp_l_sum (K : PySem.W.Frag) : Sp := fun vs H Q _ => ∃ (s t : Addr) (P : List Row) (b : Int) (i o : Nat) (val : Nat → Int) (ws : List Nat), vs = [.ref s, .ref t, .int 0] ∧ StepsAt K H s P b ∧ WF P ∧ SqT K H t (natsV ws) ∧ WayOk P b i o val ws ∧
  ∀ H', Same H H' → Q (.int (val o - val i)) H'
theorem sc_l_sum : FnScope ["_law_steps_here", "_law_way", "_law_which", "_law_row", "_law_following"] ["_law_steps_here", "_law_way", "_law_which"] (defScope s_l_sum) := ⟨rfl, rfl, rfl, by decide +kernel, rfl, by decide +kernel, by decide +kernel⟩
theorem ok_l_sum {P : Program} {w : World} {K : PySem.W.Frag} {mg : Str → Option Value} {base : Heap} (T : Tx K mg) : Ok P w K mg base CX0 1 777 ["_law_steps_here", "_law_way", "_law_which"] (sp_l_sum K) := by
  refine ok0 0 (f_l_sum T) sc_l_sum (fun _ _ _ _ _ _ us hl => match us, hl with | [_, _, _], _ => rfl) (fun vs H Q E h => ?_) (fun cdv A outer sh H vs Q E room h => ?_)
  · obtain ⟨s, t, P, b, i, o, val, ws, rfl, hs, W, ht, w, k⟩ := h
    rfl
  · obtain ⟨s, t, P, b, i, o, val, ws, rfl, hs, W, ht, w, k⟩ := h
    refine ⟨_,     (pss_one (ps_ret (pe_callB (cr_sumK K rfl) (by rfl) (n_sum T) (by decide +kernel) (pa_cons (pe_lc (own := [("_law_row", 3), ("_law_following", 4)]) rfl sc_l_sum.nd (pi_zipAK K rfl (n_zip T) (pa_cons (pe_slice (sl_tupK K) (pv 1) po_none (po_some (pe_un un_neg pe_int))) (pa_cons (pe_slice (sl_tupK K) (pv 1) (po_some pe_int) po_none) pa_nil))) (blkOk_by (N := ["_law_steps_here", "_law_way", "_law_which", "_law_row", "_law_following"]) (sc := defScope s_l_sum) (by decide +kernel)) (fun _ _ _ _ _ => (pg_tupK K (n := 2) rfl (pgs_cons (pg_name (i := 3) sc_l_sum.nd rfl (Or.inl rfl)) (pgs_cons (pg_name (i := 4) sc_l_sum.nd rfl (Or.inl rfl)) pgs_nil)))) (fun _ _ _ _ _ => pts_nil) (fun _ _ _ _ _ => (pe_ix (ix_tupK K) (pe_dget (hu_of room) (pe_ix (ix_listK K) (pv 0) (pv 3) (fun _ _ => rfl)) (pv 4) (fun _ _ => rfl)) (pv 2) (fun _ _ => rfl)))) pa_nil)))), ?_⟩
    show (_ : TS) _ [_, _, _, none, none] _
    have w2 := w.two
    have wl := w.len
    have hnl : (natsV ws).length = ws.length := nats_len
    fail "bm_go"
    refine r_slG ht fun u1 H1 s1 h1 => ?_
    rw [cutV_but, hnl] at h1
    fail "bm_go"
    refine r_slG (sqT_same s1 ht) fun u2 H2 s2 h2 => ?_
    rw [show (1 : Int) = ((1 : Nat) : Int) from rfl, cutV_from] at h2
    have h1 := sqT_same s2 h1
    have s12 := s1.trans s2
    fail "bm_go"
    have hll : ((natsV ws).take (ws.length - 1)).length = ((natsV ws).drop 1).length := by simp [hnl]
    have hl1 : ((natsV ws).take (ws.length - 1)).length = ws.length - 1 := by simp [hnl]
    refine ⟨u1, u2, _, _, rfl, .inr ⟨h1, h2, lcW_f (walk_zipT hll) (fun _ => true) (fun k => V.int (val (ws.getD (k + 1) 0) - val (ws.getD k 0))) (fun H' s' => ⟨sqT_same s' h1, sqT_same s' h2⟩) (by rw [hl1]; omega) (fun n x y T H' hn hx hy s' hT R R0 q1 q0 => ?_) (fun D H' hD s' hd => ?_)⟩⟩
    · rw [hl1] at hn
      obtain ⟨y', z', e1, e2, hE, lo, hi, hed, hv⟩ := w.get (k := n) (by omega)
      rw [List.getElem?_take, if_pos hn] at hx
      rw [List.getElem?_drop, Nat.add_comm] at hy
      obtain ⟨xx, rfl, ex⟩ := nats_val hx
      obtain ⟨yy, rfl, ey⟩ := nats_val hy
      rw [e1] at ex
      rw [e2] at ey
      cases ex
      cases ey
      have sT := s'.trans (same_new (o := .tup [.int (y' : Int), .int (z' : Int)]) hT)
      have hT5 : SqT K (upd H' T (.tup [.int (y' : Int), .int (z' : Int)])) T [.int (y' : Int), .int (z' : Int)] := SqT.of upd_same
      have hs5 := hs.same (s12.trans sT)
      revert sT hT5 hs5
      generalize upd H' T (.tup [.int (y' : Int), .int (z' : Int)]) = H5 at *
      intro sT hT5 hs5
      obtain ⟨ys, d, g1, g2, g3⟩ := hs5.get (hE.lt W).1
      obtain ⟨kvs, ks, f, f1, f2, t3, hi3, f3, f4⟩ := r_stepD g3 hed
      fail "bm_turn"
      fail "bm_go"
      refine r_dgetE f1 f2 f3 ?_
      fail "bm_go"
      have := q1 rfl H5 (Same.refl _)
      rw [show ws.getD (n + 1) 0 = z' by simp [List.getD_eq_getElem?_getD, e2], show ws.getD n 0 = y' by simp [List.getD_eq_getElem?_getD, e1], hv, show val y' + lo - val y' = lo by omega] at this
      exact this
    · rw [given_all, hl1] at hd
      fail "bm_go"
      refine ⟨D, (List.range (ws.length - 1)).map fun k => val (ws.getD (k + 1) 0) - val (ws.getD k 0), rfl, SqL.of (by rw [List.map_map]; exact hd), ?_⟩
      rw [tele val (fun k => ws.getD k 0)]
      have e1 : ws.getD (ws.length - 1) 0 = o := by
        have := w.la
        rw [List.getLast?_eq_getElem?] at this
        simp [List.getD_eq_getElem?_getD, this]
      have e2 : ws.getD 0 0 = i := by
        have := w.hd
        rw [List.head?_eq_getElem?] at this
        simp [List.getD_eq_getElem?_getD, this]
      rw [e1, e2]
      exact k _ (s12.trans s')
def sp_l_is_way (K : PySem.W.Frag) : Sp := fun vs H Q _ => ∃ (p s t : Addr) (P : List Row) (b : Int) (i o : Nat) (val : Nat → Int) (ws : List Nat), vs = [.ref p, .ref s, .int i, .int o, .ref t] ∧ PAt K H p P ∧ StepsAt K H s P b ∧ WF P ∧ SqT K H t (natsV ws) ∧ WayOk P b i o val ws ∧
  ∀ H', Same H H' → Q (.bl true) H'
theorem sc_l_is_way : FnScope ["_law_program", "_law_steps_here", "_law_one", "_law_other", "_law_way", "_law_row", "_law_following"] ["_law_program", "_law_steps_here", "_law_one", "_law_other", "_law_way"] (defScope s_l_is_way) := ⟨rfl, rfl, rfl, by decide +kernel, rfl, by decide +kernel, by decide +kernel⟩
theorem ok_l_is_way {P : Program} {w : World} {K : PySem.W.Frag} {mg : Str → Option Value} {base : Heap} (T : Tx K mg) : Ok P w K mg base CX0 1 782 ["_law_program", "_law_steps_here", "_law_one", "_law_other", "_law_way"] (sp_l_is_way K) := by
  refine ok0 0 (f_l_is_way T) sc_l_is_way (fun _ _ _ _ _ _ us hl => match us, hl with | [_, _, _, _, _], _ => rfl) (fun vs H Q E h => ?_) (fun cdv A outer sh H vs Q E room h => ?_)
  · obtain ⟨p, s, t, P, b, i, o, val, ws, rfl, hP, hs, W, ht, w, k⟩ := h
    rfl
  · obtain ⟨p, s, t, P, b, i, o, val, ws, rfl, hP, hs, W, ht, w, k⟩ := h
    refine ⟨_,     (pss_cons (ps_if (PW.pt (pw_or (pt_not (pt_chain op_le op_le pe_int (pe_callB (call_lenK K) (by rfl) (n_len T) (by decide +kernel) (pa_cons (pv 4) pa_nil)) pe_int)) (pw_or (pt_cmpR op_ne (pe_ix (ix_tupK K) (pv 4) pe_int (fun _ _ => rfl)) (pv 2) (nomark _)) (pw_or1 (pt_cmpR op_ne (pe_ix (ix_tupK K) (pv 4) (pe_un un_neg pe_int) (fun _ _ => rfl)) (pv 3) (nomark _))))))
          (pss_one (ps_ret pe_bl)) pss_nil)
        (pss_cons (ps_for PassesOwn.never rfl (pi_zipAK K rfl (n_zip T) (pa_cons (pe_slice (sl_tupK K) (pv 4) po_none (po_some (pe_un un_neg pe_int))) (pa_cons (pe_slice (sl_tupK K) (pv 4) (po_some pe_int) po_none) pa_nil))) (pg_tupK K (n := 2) rfl (pgs_cons (pg_name (i := 5) sc_l_is_way.nd rfl (Or.inl rfl)) (pgs_cons (pg_name (i := 6) sc_l_is_way.nd rfl (Or.inl rfl)) pgs_nil)))
          (pss_one (ps_if (pt_cmp (pc_dnotin (hu_of room) (pv 6) (pe_ix (ix_listK K) (pv 1) (pv 5) (fun _ _ => rfl))))
            (pss_one (ps_ret pe_bl)) pss_nil)))
        (pss_one (ps_ret (pe_cmpR (op_eqK K room.units) (pe_lc (own := [("_law_row", 5)]) rfl sc_l_is_way.nd (pi_tupK K (pe_slice (sl_tupK K) (pv 4) (po_some pe_int) (po_some (pe_un un_neg pe_int)))) (blkOk_by (N := ["_law_program", "_law_steps_here", "_law_one", "_law_other", "_law_way", "_law_row", "_law_following"]) (sc := defScope s_l_is_way) (by decide +kernel)) (fun _ _ _ _ _ => (pg_name (i := 5) sc_l_is_way.nd rfl (Or.inl rfl))) (fun _ _ _ _ _ => (pts_one (PW.pt (pw_or (pt_cmpR op_eq (pv 5) (pv 3) (nomark _)) (pw_or1 (pt_cmpR op_eq (pe_ix (ix_tupK K) (pe_ix (ix_tupK K) (pv 0) (pv 5) (fun _ _ => rfl)) pe_int (fun _ _ => rfl)) pe_str (nomark _))))))) (fun _ _ _ _ _ => (pv 5))) (pe_lst pa_nil) (nomark _)))))), ?_⟩
    show (_ : TS) _ [_, _, _, _, _, none, none] _
    have w2 := w.two
    have wl := w.len
    have hnl : (natsV ws).length = ws.length := nats_len
    have ix0 : atI (natsV ws) 0 = some (.int (i : Int)) := by
      have h := w.hd
      rw [List.head?_eq_getElem?] at h
      exact atI_nat (j := 0) (by unfold natsV; rw [List.getElem?_map, h]; rfl)
    have ixL := nats_last w.la
    fail "bm_go"
    rw [hnl]
    refine r_ifT (decide_eq_true (by omega)) ?_
    fail "bm_go"
    refine r_ifF (by rw [decide_eq_true (by omega)]; rfl) ?_
    fail "bm_go"
    refine r_ifF (by simp) ?_
    fail "bm_go"
    refine r_ifF (by simp) ?_
    fail "bm_go"
    refine r_slG ht fun u1 H1 s1 h1 => ?_
    rw [cutV_but, hnl] at h1
    fail "bm_go"
    refine r_slG (sqT_same s1 ht) fun u2 H2 s2 h2 => ?_
    rw [show (1 : Int) = ((1 : Nat) : Int) from rfl, cutV_from] at h2
    have h1 := sqT_same s2 h1
    have s12 := s1.trans s2
    fail "bm_go"
    have hll : ((natsV ws).take (ws.length - 1)).length = ((natsV ws).drop 1).length := by simp [hnl]
    have hl1 : ((natsV ws).take (ws.length - 1)).length = ws.length - 1 := by simp [hnl]
    refine forZ (fun n σ H' => (∃ o5 o6, σ = [some (.ref p), some (.ref s), some (.int i), some (.int o), some (.ref t), o5, o6]) ∧ Same H2 H') h1 h2 hll ⟨⟨none, none, rfl⟩, Same.refl _⟩ (fun n σ' H' q => im_of q.2) (fun n x y T σ' H' hx hy q hT => ?_) (fun σ' H' q => ?_)
    · obtain ⟨⟨o5, o6, rfl⟩, s'⟩ := q
      have hn := (List.getElem?_eq_some_iff.mp hx).1
      rw [hl1] at hn
      obtain ⟨y', z', e1, e2, hE, lo, hi, hed, hv⟩ := w.get (k := n) (by omega)
      rw [List.getElem?_take, if_pos hn] at hx
      rw [List.getElem?_drop, Nat.add_comm] at hy
      obtain ⟨xx, rfl, ex⟩ := nats_val hx
      obtain ⟨yy, rfl, ey⟩ := nats_val hy
      rw [e1] at ex
      rw [e2] at ey
      cases ex
      cases ey
      have sT := s'.trans (same_new (o := .tup [.int (y' : Int), .int (z' : Int)]) hT)
      have hT5 : SqT K (upd H' T (.tup [.int (y' : Int), .int (z' : Int)])) T [.int (y' : Int), .int (z' : Int)] := SqT.of upd_same
      have hs5 := hs.same (s12.trans sT)
      revert sT hT5 hs5
      generalize upd H' T (.tup [.int (y' : Int), .int (z' : Int)]) = H5
      intro sT hT5 hs5
      obtain ⟨ys, d, g1, g2, g3⟩ := hs5.get (hE.lt W).1
      obtain ⟨kvs, ks, f, f1, f2, t3, hi3, f3, f4⟩ := r_stepD g3 hed
      fail "bm_go"
      refine r_dinE f1 f2 ?_
      rw [f3]
      fail "bm_go"
      exact ⟨⟨_, _, rfl⟩, sT⟩
    · obtain ⟨⟨o5, o6, rfl⟩, s'⟩ := q
      have s3 := s12.trans s'
      fail "bm_go"
      refine r_slG (sqT_same s3 ht) fun u3 H4 s4 h4 => ?_
      rw [cutV_inner (by rw [hnl]; omega), hnl] at h4
      have s34 := s3.trans s4
      have hP4 := hP.same s34
      refine lcT_f (xs := ((natsV ws).drop 1).take (ws.length - 2)) (fun _ => false) (fun _ => .non) h4 (by simp [hnl]; omega) (fun n x H5 hx s5 R R0 q1 q0 => ?_) (fun D H5 hD s5 hd => ?_)
      · have hn := (List.getElem?_eq_some_iff.mp hx).1
        have hn2 : n < ws.length - 2 := by simp [hnl] at hn; omega
        rw [List.getElem?_take, if_pos hn2, List.getElem?_drop, Nat.add_comm] at hx
        obtain ⟨y', z', e1, e2, hE, _⟩ := w.get (k := n) (by omega)
        obtain ⟨y2, z2, e3, e4, hE2, _⟩ := w.get (k := n + 1) (by omega)
        obtain ⟨xx, rfl, ex⟩ := nats_val hx
        rw [e2] at ex
        cases ex
        rw [e2] at e3
        cases e3
        have hzl := (hE.lt W).2
        obtain ⟨ys, a, g1, g2, g3, _⟩ := (hP4.same s5).at_ (List.getElem?_eq_getElem hzl)
        unfold rowV at g3
        fail "bm_turn"
        fail "bm_go"
        refine r_ifF (decide_eq_false fun e => hE2.1 (by have := V.int.inj e; omega)) ?_
        fail "bm_go"
        refine r_ifF (decide_eq_false fun e => hE.2.2 ⟨_, List.getElem?_eq_getElem hzl, V.str.inj e⟩) ?_
        fail "bm_go"
        exact q0 rfl _ (Same.refl _)
      · rw [show given (((natsV ws).drop 1).take (ws.length - 2)).length (fun _ => false) (fun _ => V.non) = [] by simp [given]] at hd
        fail "bm_go"
        intro e ne
        refine ⟨.list [], .list [], .lst (SqL.of (gN ne hd)) .nil, .lst (SqL.of upd_same) .nil, by decide +kernel, by decide +kernel, ?_⟩
        exact k _ ((s34.trans s5).trans (same_new ne))
end
section
/-! ## F8: tales, what was begun -/
local macro_rules | `(tactic| fail "bm_go1") => `(tactic| first
  | with_reducible refine r_orV ?_
  | with_reducible refine r_chain ?_
  | with_reducible refine r_bm0 ?_
  | with_reducible refine r_lrev ?_
  | with_reducible refine r_fore ?_
  | with_reducible refine r_forz ?_
  | with_reducible refine r_lce ?_
  | with_reducible refine r_lcz ?_
  | with_reducible refine r_un ?_
  | with_reducible refine r_uI ?_)
theorem Chs.chgOut {d D : Addr} {H H1 H' : Hp} (c : Chs [d, D] H1 H') (s : Same H H1) (n : H D = none) : Chg d H H' :=
  ⟨fun b o nb h => c.kp b o (fun m => by
    simp only [List.mem_cons, List.not_mem_nil, or_false] at m
    rcases m with m | m
    · exact nb m
    · rw [m, n] at h
      cases h) (s b o h), (im_of s).trans c.im⟩
def sp_l_tale (K : PySem.W.Frag) : Sp := fun vs H Q _ => ∃ d : Addr, vs = [.ref d, .int 2] ∧ DeckAt H d ∧
  ∀ (t : Addr) (xs : List V) (H' : Hp), Chg d H H' → DeckAt H' d → SqT K H' t xs → (∀ x ∈ xs, ∃ u, x = .ref u ∧ IntT K H' u 3) → Q (.ref t) H'
theorem sc_l_tale : FnScope ["_law_deck_here", "_law_many", "_law_k"] ["_law_deck_here", "_law_many"] (defScope s_l_tale) := ⟨rfl, rfl, rfl, by decide +kernel, rfl, by decide +kernel, by decide +kernel⟩
theorem ok_l_tale {P : Program} {w : World} {K : PySem.W.Frag} {mg : Str → Option Value} {base : Heap} (T : Tx K mg) : Ok P w K mg base CX0 2 741 ["_law_deck_here", "_law_many"] (sp_l_tale K) := by
  refine ok0 1 (f_l_tale T) sc_l_tale (fun _ _ _ _ _ _ us hl => match us, hl with | [_, _], _ => rfl) (fun vs H Q E h => ?_) (fun cdv A outer sh H vs Q E room h => ?_)
  · obtain ⟨d, rfl, hd, k⟩ := h
    rfl
  · obtain ⟨d, rfl, hd, k⟩ := h
    refine ⟨_,     (pss_one (ps_ret (pe_callTy (call_tupK K) (by rfl) (n_tuple T) (by decide +kernel) (pa_cons (pe_lc (own := [("_law_k", 2)]) rfl sc_l_tale.nd (pi_range1 rfl (n_range T) (pa_cons (pv 1) pa_nil)) (blkOk_by (N := ["_law_deck_here", "_law_many", "_law_k"]) (sc := defScope s_l_tale) (by decide +kernel)) (fun _ _ _ _ _ => (pg_name (i := 2) sc_l_tale.nd rfl (Or.inl rfl))) (fun _ _ _ _ _ => pts_nil) (fun _ _ _ _ _ => (pe_tup (pa_cons (pe_op op_mod (pc (ok_l_next (K := K) T) (room.mono (by decide)) rfl (g__law_next T) pass0 (pa_cons (pv 0) pa_nil)) pe_int) (pa_cons (pe_op op_mod (pc (ok_l_next (K := K) T) (room.mono (by decide)) rfl (g__law_next T) pass0 (pa_cons (pv 0) pa_nil)) pe_int) (pa_cons (pe_op op_mod (pc (ok_l_next (K := K) T) (room.mono (by decide)) rfl (g__law_next T) pass0 (pa_cons (pv 0) pa_nil)) pe_int) pa_nil)))))) pa_nil)))), ?_⟩
    show (_ : TS) _ [_, _, none] _
    fail "bm_go"
    refine ⟨2, rfl, by omega, by omega, fun D hD => ?_⟩
    have nDd := hd.ne hD
    refine lc_range (lo := 0) (n := (2 : Int).toNat) (fun i H' => Chs [d, D] (upd H D (.lst [])) H' ∧ DeckAt H' d ∧ ∃ ws, H' D = some (.lst ws) ∧ ws.length = i ∧ ∀ x ∈ ws, ∃ u, x = .ref u ∧ IntT K H' u 3)
      ⟨Chs.refl, hd.same (same_new hD), [], upd_same, rfl, by simp⟩ (fun i H' hi p => ?_) (fun H' p => ?_)
    · obtain ⟨c, hd1, ws, hD1, hwl, hws⟩ := p
      fail "bm_turn"
      fail "bm_go"
      refine ⟨d, rfl, hd1, fun n1 H1 k1 hd2 => ?_⟩
      fail "bm_go"
      refine ⟨d, rfl, hd2, fun n2 H2 k2 hd3 => ?_⟩
      fail "bm_go"
      refine ⟨d, rfl, hd3, fun n3 H3 k3 hd4 => ?_⟩
      fail "bm_go"
      intro t nt
      have st := same_new (o := .tup [.int (n1 % 16), .int (n2 % 16), .int (n3 % 4)]) nt
      have kA := ((k1.trans k2).trans k3).step st
      have hDA := kA.kp _ _ nDd hD1
      have ht : IntT K (upd H3 t (.tup [.int (n1 % 16), .int (n2 % 16), .int (n3 % 4)])) t 3 := ⟨[n1 % 16, n2 % 16, n3 % 4], rfl, SqT.of upd_same⟩
      have im5 := Im.mut (o := .lst (ws ++ [.ref t])) hDA trivial
      refine ⟨ws, hDA, szl (by rw [hwl]; simp at hi; omega), (c.chg (by simp) kA).put (by simp) hDA trivial, ?_, ws ++ [.ref t], upd_same, by simp [hwl], fun x hx => ?_⟩
      · obtain ⟨ns, h⟩ := hd4.same st
        exact ⟨ns, by rw [upd_ne nDd.symm]; exact h⟩
      · rcases List.mem_append.mp hx with hx | hx
        · obtain ⟨u, e, hu⟩ := hws x hx
          exact ⟨u, e, (hu.im kA.im).im im5⟩
        · rw [List.mem_singleton.mp hx]
          exact ⟨t, rfl, ht.im im5⟩
    · obtain ⟨c, hd1, ws, hD1, hwl, hws⟩ := p
      fail "bm_go"
      refine r_tupL (SqL.of hD1) fun t nt => ?_
      have st := same_new (o := .tup ws) nt
      exact k t ws _ ((c.chgOut (same_new hD) hD).step st) (hd1.same st) (SqT.of upd_same) fun x hx => by
        obtain ⟨u, e, hu⟩ := hws x hx
        exact ⟨u, e, hu.im (im_of st)⟩
section
variable {X : Cx} {CX : CXT} {k : Nat} {f : Addr} {ps : List Str} {sp : Sp} {x : Str} {e : Expr} {es : List Expr} {p pos : Pos} {t : TA} {E : L2.St → XK}
theorem pcS (h : Ok X.prog X.w X.K X.mg X.base CX k f ps sp) (hr : Room k X.A) (hg : Gl X x) (hm : X.mg x = some (.ref f)) (hx : ∀ σ, PassesAt CX X σ (E σ)) (ha : PA X (e :: es) t) (hdb : (x == ("__debug__" : Str)) = false := by decide)
    (he : starEach (e :: es) X.env = (false, eval e X.env) :: starEach es X.env := by rfl) (hpl : (backTo pos (starEach es X.env)).any (·.1) = false := by rfl) : PE X (.Call (.Name x p) (e :: es) [] pos) (tCallS sp E t) := by
  obtain ⟨fd, F, b, kp⟩ := h
  exact pe_callS F hr hg hm kp b hx ha hdb he hpl
theorem r_callS {σ : L2.St} {H : Hp} {Q : VK} (h : t σ H fun vs H1 => sp vs H1 Q (E σ)) : tCallS sp E t σ H Q := h
end
/-- the rows begun, in a list -/
def BegAt (K : PySem.W.Frag) (H : Hp) (l : Addr) (ps : List (Nat × Int)) : Prop := ∃ ws : List V, H l = some (.lst ws) ∧ ws.length = ps.length ∧ ∀ (k : Nat) (v : V) (e : Nat × Int), ws[k]? = some v → ps[k]? = some e → TupV K [.int (e.1 : Int), .int e.2] v H
theorem BegAt.same {K : PySem.W.Frag} {H H' : Hp} {l : Addr} {ps : List (Nat × Int)} (h : BegAt K H l ps) (s : Same H H') : BegAt K H' l ps := by
  obtain ⟨ws, h1, h2, h3⟩ := h
  exact ⟨ws, s _ _ h1, h2, fun k v e a b => tupV_im (h3 k v e a b) (im_of s)⟩
theorem BegAt.chg {K : PySem.W.Frag} {H H' : Hp} {l d : Addr} {ps : List (Nat × Int)} (h : BegAt K H l ps) (c : Chg d H H') (n : l ≠ d) : BegAt K H' l ps := by
  obtain ⟨ws, h1, h2, h3⟩ := h
  exact ⟨ws, c.kp _ _ n h1, h2, fun k v e a b => tupV_im (h3 k v e a b) c.im⟩
theorem BegAt.snoc {K : PySem.W.Frag} {H : Hp} {l t : Addr} {ps : List (Nat × Int)} {ws : List V} {e : Nat × Int} (h : BegAt K H l ps) (hl : H l = some (.lst ws)) (ht : SqT K H t [.int (e.1 : Int), .int e.2]) : BegAt K (upd H l (.lst (ws ++ [.ref t]))) l (ps ++ [e]) := by
  obtain ⟨ws', h1, h2, h3⟩ := h
  rw [hl] at h1
  cases h1
  have im := Im.mut (o := .lst (ws ++ [.ref t])) hl trivial
  refine ⟨ws ++ [.ref t], upd_same, by simp [h2], fun k v e' a b => ?_⟩
  by_cases hk : k < ws.length
  · rw [List.getElem?_append_left hk] at a
    rw [List.getElem?_append_left (by omega)] at b
    exact tupV_im (h3 k v e' a b) im
  · have hk2 := (List.getElem?_eq_some_iff.mp a).1
    have hk3 : k = ws.length := by simp at hk2; omega
    subst hk3
    have a' : V.ref t = v := by simpa using a
    have b' : e = e' := by
      rw [h2] at b
      simpa using b
    subst a' b'
    exact ⟨t, rfl, im.sqT ht⟩
theorem absOf_len : ∀ (T : Int) (fs : List (Int × List (Nat × Int))), (∀ e ∈ fs, e.2.length ≤ 1000) → (absOf T fs).length ≤ 1000 * fs.length
  | T, [], _ => by simp [absOf]
  | T, e :: fs, h => by
    have h1 := h e (by simp)
    have h2 := absOf_len (T + 32 * e.1) fs fun x hx => h x (by simp [hx])
    rw [absOf, List.length_append]
    have : (shift T e.2).length = e.2.length := by simp [shift]
    rw [List.length_cons]
    omega
def sp_l_begun (K : PySem.W.Frag) : Sp := fun vs H Q _ => ∃ (p t : Addr) (P : List Row) (b : Int) (n : Nat) (xs : List V), vs = [.ref p, .int b, .ref t, .int n] ∧ PAt K H p P ∧ WF P ∧ b + longOf P ≤ 256 ∧ n ≤ 10 ∧ SqT K H t xs ∧ (∀ x ∈ xs, ∃ u, x = .ref u ∧ IntT K H u 3) ∧
  ∀ (l : Addr) (ps : List (Nat × Int)) (H' : Hp), Same H H' → H l = none → BegAt K H' l ps → Tr P b ps → ps.length ≤ 10000 → Q (.ref l) H'
theorem sc_l_begun : FnScope ["_law_program", "_law_base_here", "_law_tale_here", "_law_many", "_law_told", "_law_found", "_law_lines", "_law_picture", "_law_log", "_law_rows", "_law_state", "_law_row", "_law_line", "_law_beat"] ["_law_program", "_law_base_here", "_law_tale_here", "_law_many"] (defScope s_l_begun) := ⟨rfl, rfl, rfl, by decide +kernel, rfl, by decide +kernel, by decide +kernel⟩
theorem ok_l_begun {P : Program} {w : World} {K : PySem.W.Frag} {mg : Str → Option Value} {base : Heap} (T : Tx K mg) : Ok P w K mg base CX0 13 789 ["_law_program", "_law_base_here", "_law_tale_here", "_law_many"] (sp_l_begun K) := by
  refine ok0 12 (f_l_begun T) sc_l_begun (fun _ _ _ _ _ _ us hl => match us, hl with | [_, _, _, _], _ => rfl) (fun vs H Q E h => ?_) (fun cdv A outer sh H vs Q E room h => ?_)
  · obtain ⟨p, t, P, b, n, xs, rfl, hP, W, hb, hn, ht, hx, k⟩ := h
    rfl
  · obtain ⟨p, t, P, b, n, xs, rfl, hP, W, hb, hn, ht, hx, k⟩ := h
    refine ⟨_,     (pss_cons (ps_try_only (Wout := fun _ _ _ _ => False) rfl rfl ⟨rfl, by decide, Or.inl (g_NoFrame T)⟩ takes0 (fun W pn xe tk _ => (pss_one (ps_set (i := 4) sc_l_begun.nd rfl (Or.inl rfl) (pcS (ok_run (K := K) T) (room.mono (by decide)) rfl (g_run T) (fun σ => passAt tk σ) (pa_cons (pv 0) (pa_cons (pv 1) (pa_cons (pv 2) (pa_cons (pv 3) pa_nil)))))))) (fun a oe cls d pn _ _ => (pss_one (ps_ret (pe_lst pa_nil)))))
        (pss_cons (ps_set (i := 5) sc_l_begun.nd rfl (Or.inl rfl) (pe_lst pa_nil))
        (pss_cons (ps_set (i := 6) sc_l_begun.nd rfl (Or.inl rfl) pe_int)
        (pss_cons (ps_for PassesOwn.never rfl (pi_listK K (pv 4)) (pg_tupK K (n := 4) rfl (pgs_cons (pg_name (i := 7) sc_l_begun.nd rfl (Or.inl rfl)) (pgs_cons (pg_name (i := 8) sc_l_begun.nd rfl (Or.inl rfl)) (pgs_cons (pg_name (i := 9) sc_l_begun.nd rfl (Or.inl rfl)) (pgs_cons (pg_name (i := 10) sc_l_begun.nd rfl (Or.inl rfl)) pgs_nil)))))
          (pss_cons (ps_for PassesOwn.never rfl (pi_tupK K (pv 9)) (pg_tupK K (n := 3) rfl (pgs_cons (pg_name (i := 11) sc_l_begun.nd rfl (Or.inl rfl)) (pgs_cons (pg_name (i := 12) sc_l_begun.nd rfl (Or.inl rfl)) (pgs_cons (pg_name (i := 13) sc_l_begun.nd rfl (Or.inl rfl)) pgs_nil))))
            (pss_one (ps_expr (pe_bmK K PySem.F.plainAttrs_list PySem.F.slot_list_append PySem.F.type_list_append mt_append (pv 5) (pa_cons (pe_tup (pa_cons (pv 11) (pa_cons (pe_op op_add (pe_op op_mul pe_int (pe_op op_add (pv 6) (pv 12))) (pv 13)) pa_nil))) pa_nil)))))
          (pss_one (ps_set (i := 6) sc_l_begun.nd rfl (Or.inl rfl) (pe_op op_add (pv 6) (pe_ix (ix_tupK K) (pv 8) pe_int (fun _ _ => rfl)))))))
        (pss_one (ps_ret (pv 5))))))), ?_⟩
    show (_ : TS) _ [_, _, _, _, none, none, none, none, none, none, none, none, none, none] _
    fail "bm_go"
    refine r_callS ?_
    fail "bm_go"
    refine ⟨p, t, P, b, n, xs, rfl, hP, W, hb, hn, ht, hx, fun H' s => ?_, fun D ws fs H' s hD nD hR hO hfl => ?_⟩
    · refine ⟨true, T.exc.2.2.2.2, fun _ a ha => ?_, fun q => nomatch q⟩
      fail "bm_go"
      intro l nl
      exact k l [] _ (s.trans (same_new nl)) (s.free nl) ⟨[], upd_same, rfl, by simp⟩ Tr.nil (by simp)
    fail "bm_go"
    intro l nl
    have s1 := same_new (o := .lst []) nl
    have nDl : D ≠ l := fun z => by rw [z, nl] at hD; cases hD
    have s01 := s.trans s1
    have hl1 : BegAt K (upd H' l (.lst [])) l [] := ⟨[], upd_same, rfl, by simp⟩
    have hD1 := s1 _ _ hD
    have hR1 := hR.im (im_of s1)
    have nl0 := s.free nl
    revert s1 s01 hl1 hD1 hR1
    generalize upd H' l (.lst []) = H1
    intro s1 s01 hl1 hD1 hR1
    fail "bm_go"
    refine forL_c l (xs := ws) (fun i σ H2 => (∃ (L : Int) (o7 o8 o9 o10 o11 o12 o13 : Option V), σ = [some (.ref p), some (.int b), some (.ref t), some (.int n), some (.ref D), some (.ref l), some (.int L), o7, o8, o9, o10, o11, o12, o13] ∧ 32 * L = endOf 0 (fs.take i)) ∧ BegAt K H2 l (absOf 0 (fs.take i)))
      (SqL.of hD1) nDl ⟨⟨0, none, none, none, none, none, none, none, rfl, by simp [endOf]⟩, by simpa [absOf] using hl1⟩ (fun i x σ H2 hx2 c2 q => ?_) (fun σ H2 c2 q => ?_)
    · obtain ⟨⟨L, o7, o8, o9, o10, o11, o12, o13, rfl, hL⟩, hB⟩ := q
      have hi := (List.getElem?_eq_some_iff.mp hx2).1
      have hi2 : i < fs.length := by rw [← hR1.1]; exact hi
      have hfi := List.getElem?_eq_getElem hi2
      obtain ⟨st, ta, lg, rw_, pc_, v1, v2, rs, rfl, g1, g2, g3, g4⟩ := hR1.2 i x _ hx2 hfi
      have g1 := sqT_chg c2 g1
      have g2 := sqT_chg c2 g2
      have g3 := sqT_chg c2 g3
      have g4 := g4.im c2.im
      have hfm := hO.len _ (List.mem_of_getElem? hfi)
      have hbl : (absOf 0 (fs.take i)).length ≤ 1000 * 10 := by
        have h1 := absOf_len 0 (fs.take i) fun e he => (hO.len e (List.mem_of_mem_take he)).1
        have h2 : (fs.take i).length ≤ 10 := by rw [List.length_take]; omega
        omega
      fail "bm_go"
      refine forT_c l (xs := rs) (fun j σ H3 => (∃ (o11 o12 o13 : Option V), σ = [some (.ref p), some (.int b), some (.ref t), some (.int n), some (.ref D), some (.ref l), some (.int L), some pc_, some (.ref lg), some (.ref rw_), some st, o11, o12, o13]) ∧ BegAt K H3 l (absOf 0 (fs.take i) ++ (shift (32 * L) fs[i].2).take j))
        g3 ⟨⟨_, _, _, rfl⟩, by simpa using hB⟩ (fun j x σ H3 hx3 c3 q => ?_) (fun σ H3 c3 q => ?_)
      · obtain ⟨⟨o11, o12, o13, rfl⟩, hB3⟩ := q
        have hj := (List.getElem?_eq_some_iff.mp hx3).1
        have hj2 : j < fs[i].2.length := by rw [← g4.1]; exact hj
        have hej := List.getElem?_eq_getElem hj2
        obtain ⟨tt, rfl, htt⟩ := g4.2 j x _ hx3 hej
        have htt := sqT_chg c3 htt
        obtain ⟨zs, hz1, hz2, hz3⟩ := id hB3
        fail "bm_go"
        intro y ny
        have sy := same_new (o := .tup [.int (fs[i].2[j].1 : Int), .int (32 * (L + fs[i].2[j].2 / 32) + fs[i].2[j].2 % 32)]) ny
        have e1 : 32 * (L + fs[i].2[j].2 / 32) + fs[i].2[j].2 % 32 = 32 * L + fs[i].2[j].2 := by omega
        fail "bm_go"
        refine r_app (sy _ _ hz1) (szl (by rw [hz2, List.length_append, List.length_take]; have : (shift (32 * L) fs[i].2).length = fs[i].2.length := by simp [shift]
                                           omega)) ?_
        refine ⟨(c3.step sy).put (sy _ _ hz1) trivial, ⟨_, _, _, rfl⟩, ?_⟩
        have e2 : (shift (32 * L) fs[i].2)[j]? = some (fs[i].2[j].1, 32 * L + fs[i].2[j].2) := by
          unfold shift
          rw [List.getElem?_map, hej]
          rfl
        rw [List.take_add_one, e2, ← List.append_assoc]
        refine (hB3.same sy).snoc (e := (fs[i].2[j].1, 32 * L + fs[i].2[j].2)) (sy _ _ hz1) ?_
        rw [← e1]
        exact SqT.of upd_same
      · obtain ⟨⟨o11, o12, o13, rfl⟩, hB3⟩ := q
        have g2 := sqT_chg c3 g2
        fail "bm_go"
        refine ⟨c2.trans c3, ⟨_, _, _, _, _, _, _, _, rfl, ?_⟩, ?_⟩
        · rw [List.take_add_one, hfi]
          show _ = endOf 0 (fs.take i ++ [fs[i]])
          rw [endOf_snoc, ← hL]
          omega
        · rw [List.take_add_one, hfi]
          show BegAt K H3 l (absOf 0 (fs.take i ++ [fs[i]]))
          rw [absOf_snoc, ← hL]
          rw [g4.1, show fs[i].2.length = (shift (32 * L) fs[i].2).length by simp [shift], List.take_length] at hB3
          exact hB3
    · obtain ⟨⟨L, o7, o8, o9, o10, o11, o12, o13, rfl, hL⟩, hB⟩ := q
      rw [hR1.1, List.take_length] at hB
      fail "bm_go"
      refine k l _ H2 (c2.out s01 nl0) nl0 hB hO.tr ?_
      have h1 := absOf_len 0 fs fun e he => (hO.len e he).1
      omega
end
section
/-! ## F9: what begins behind one -/
local macro_rules | `(tactic| fail "bm_go1") => `(tactic| first
  | with_reducible refine r_orV ?_
  | with_reducible refine r_chain ?_
  | with_reducible refine r_bm0 ?_
  | with_reducible refine r_lrev ?_
  | with_reducible refine r_fore ?_
  | with_reducible refine r_forz ?_
  | with_reducible refine r_lce ?_
  | with_reducible refine r_lcz ?_
  | with_reducible refine r_un ?_
  | with_reducible refine r_uI ?_)
/-- j first begins behind the a-th, no wait between -/
def FirstAt (P : List Row) (ps : List (Nat × Int)) (a j : Nat) (v : Int) : Prop := ∃ (m : Nat) (e0 : Nat × Int) (t : Int), a < m ∧ ps[a]? = some e0 ∧ ps[m]? = some (j, t) ∧ v = t - e0.2 ∧ j ≠ e0.1 ∧
  (∀ (q : Nat) (e : Nat × Int), a < q → q ≤ m → ps[q]? = some e → ¬ isWaitR P e.1) ∧ ∀ (q : Nat) (e : Nat × Int), a < q → q < m → ps[q]? = some e → e.1 ≠ j
def sp_l_behind_one (K : PySem.W.Frag) : Sp := fun vs H Q _ => ∃ (p l : Addr) (P : List Row) (ps : List (Nat × Int)) (a : Nat) (e0 : Nat × Int), vs = [.ref p, .ref l, .int a] ∧ PAt K H p P ∧ BegAt K H l ps ∧ ps.length ≤ 10000 ∧ (∀ e ∈ ps, e.1 < P.length) ∧ ps[a]? = some e0 ∧
  ∀ (d : Addr) (kvs : List (Key × V)) (ks : List Int) (f : Int → Option V) (H' : Hp), Same H H' → H d = none → H' d = some (.dK kvs) → DI kvs ks f → ks.length ≤ 10000 → (∀ k ∈ ks, ∃ (j : Nat) (v : Int), k = (j : Int) ∧ f k = some (.int v) ∧ FirstAt P ps a j v) → Q (.ref d) H'
theorem sc_l_behind_one : FnScope ["_law_program", "_law_begun_here", "_law_at", "_law_found", "_law_row", "_law_beat"] ["_law_program", "_law_begun_here", "_law_at"] (defScope s_l_behind_one) := ⟨rfl, rfl, rfl, by decide +kernel, rfl, by decide +kernel, by decide +kernel⟩
theorem ok_l_behind_one {P : Program} {w : World} {K : PySem.W.Frag} {mg : Str → Option Value} {base : Heap} (T : Tx K mg) : Ok P w K mg base CX0 1 796 ["_law_program", "_law_begun_here", "_law_at"] (sp_l_behind_one K) := by
  refine ok0 0 (f_l_behind_one T) sc_l_behind_one (fun _ _ _ _ _ _ us hl => match us, hl with | [_, _, _], _ => rfl) (fun vs H Q E h => ?_) (fun cdv A outer sh H vs Q E room h => ?_)
  · obtain ⟨p, l, P, ps, a, e0, rfl, hP, hB, hpl, hlt, he0, k⟩ := h
    rfl
  · obtain ⟨p, l, P, ps, a, e0, rfl, hP, hB, hpl, hlt, he0, k⟩ := h
    refine ⟨_,     (pss_cons (ps_set (i := 3) sc_l_behind_one.nd rfl (Or.inl rfl) pe_dnewK)
        (pss_cons (ps_for PassesOwn.never rfl (pi_listK K (pe_slice (sl_listK K) (pv 1) (po_some (pe_op op_add (pv 2) pe_int)) po_none)) (pg_tupK K (n := 2) rfl (pgs_cons (pg_name (i := 4) sc_l_behind_one.nd rfl (Or.inl rfl)) (pgs_cons (pg_name (i := 5) sc_l_behind_one.nd rfl (Or.inl rfl)) pgs_nil)))
          (pss_cons (ps_if (pt_cmpR op_eq (pe_ix (ix_tupK K) (pe_ix (ix_tupK K) (pv 0) (pv 4) (fun _ _ => rfl)) pe_int (fun _ _ => rfl)) pe_str (nomark _))
            (pss_one (ps_ret (pv 3))) pss_nil)
          (pss_one (ps_if (PW.pt (pw_and (pt_cmp (pc_dnotin (hu_of room) (pv 4) (pv 3))) (pw_and1 (pt_cmpR op_ne (pv 4) (pe_ix (ix_tupK K) (pe_ix (ix_listK K) (pv 1) (pv 2) (fun _ _ => rfl)) pe_int (fun _ _ => rfl)) (nomark _)))))
            (pss_one (ps_dput (hu_of room) (pv 3) (pv 4) (pe_op op_sub (pv 5) (pe_ix (ix_tupK K) (pe_ix (ix_listK K) (pv 1) (pv 2) (fun _ _ => rfl)) pe_int (fun _ _ => rfl))) rfl)) pss_nil))))
        (pss_one (ps_ret (pv 3))))), ?_⟩
    show (_ : TS) _ [_, _, _, none, none, none] _
    obtain ⟨ws, hw1, hw2, hw3⟩ := id hB
    have ha := (List.getElem?_eq_some_iff.mp he0).1
    have ha2 : a < ws.length := by omega
    obtain ⟨t0, et0, ht0⟩ := hw3 a _ _ (List.getElem?_eq_getElem ha2) he0
    have ix0 : atI ws (a : Int) = some (.ref t0) := atI_nat (by rw [List.getElem?_eq_getElem ha2, et0])
    fail "bm_go"
    intro d nd
    have s1 := same_new (o := .dK []) nd
    have hd1 : upd H d (.dK []) d = some (.dK []) := upd_same
    have nld : l ≠ d := fun z => by rw [← z, hw1] at nd; cases nd
    have hw11 := s1 _ _ hw1
    revert s1 hd1 hw11
    generalize upd H d (.dK []) = H1
    intro s1 hd1 hw11
    fail "bm_go"
    refine ⟨l, ws, rfl, SqL.of hw11, fun u nu => ?_⟩
    rw [show (a : Int) + 1 = ((a + 1 : Nat) : Int) by omega, cutV_from]
    have s2 := s1.trans (same_new (o := .lst (ws.drop (a + 1))) nu)
    have hu : upd H1 u (.lst (ws.drop (a + 1))) u = some (.lst (ws.drop (a + 1))) := upd_same
    have hd2 := gN (o := .lst (ws.drop (a + 1))) nu hd1
    have nud : u ≠ d := fun z => by rw [z, hd1] at nu; cases nu
    revert s2 hu hd2
    generalize upd H1 u (.lst (ws.drop (a + 1))) = H2
    intro s2 hu hd2
    fail "bm_go"
    refine forL_c d (xs := ws.drop (a + 1)) (fun i σ H' => (∃ o4 o5, σ = [some (.ref p), some (.ref l), some (.int a), some (.ref d), o4, o5]) ∧ ∃ kvs ks f, H' d = some (.dK kvs) ∧ DI kvs ks f ∧ ks.length ≤ i ∧
        (∀ k ∈ ks, ∃ (j : Nat) (v : Int), k = (j : Int) ∧ f k = some (.int v) ∧ FirstAt P ps a j v) ∧ ∀ (q : Nat) (e : Nat × Int), a < q → q < a + 1 + i → ps[q]? = some e → ¬ isWaitR P e.1 ∧ (e.1 = e0.1 ∨ (e.1 : Int) ∈ ks))
      (SqL.of hu) nud ⟨⟨none, none, rfl⟩, [], [], _, hd2, DI.nil, by simp, by simp, fun q e h1 h2 => by omega⟩ (fun i x σ H' hx c q => ?_) (fun σ H' c q => ?_)
    · obtain ⟨⟨o4, o5, rfl⟩, kvs, ks, f, hd3, hD, hkl, hks, hpre⟩ := q
      rw [List.getElem?_drop] at hx
      have hm := (List.getElem?_eq_some_iff.mp hx).1
      have hm2 : a + 1 + i < ps.length := by omega
      have hpe := List.getElem?_eq_getElem hm2
      obtain ⟨tt, rfl, htt⟩ := hw3 _ x _ hx hpe
      have hrl := hlt _ (List.mem_of_getElem? hpe)
      revert htt hpe hrl
      generalize ps[a + 1 + i] = em
      obtain ⟨jr, tm⟩ := em
      intro hpe htt hrl
      have i2 := (im_of s2).trans c.im
      have htt := i2.sqT htt
      have ht0' := i2.sqT ht0
      have hP' := hP.im i2
      obtain ⟨xs, ra, g1, g2, g3, _⟩ := hP'.at_ (List.getElem?_eq_getElem hrl)
      unfold rowV at g3
      have hw3' : SqL K H' l ws := sqL_chg c nld (s2.seq (SqL.of hw1))
      fail "bm_go"
      refine r_ifD (fun hwt => ?_) (fun hwt => ?_)
      · fail "bm_go"
        exact k d kvs ks f H' (c.out s2 nd) nd hd3 hD (by omega) hks
      have nw : ¬ isWaitR P jr := fun ⟨r, h1, h2⟩ => by
        rw [List.getElem?_eq_getElem hrl] at h1
        cases h1
        exact hwt (by rw [h2])
      fail "bm_go"
      refine r_dinE (.inl hd3) hD ?_
      fail "bm_go"
      have pre' : ∀ (ks' : List Int), (∀ z ∈ ks, z ∈ ks') → (jr = e0.1 ∨ (jr : Int) ∈ ks') → ∀ (q : Nat) (e : Nat × Int), a < q → q < a + 1 + (i + 1) → ps[q]? = some e → ¬ isWaitR P e.1 ∧ (e.1 = e0.1 ∨ (e.1 : Int) ∈ ks') := fun ks' hsub hj q e h1 h2 hq => by
        by_cases hq2 : q < a + 1 + i
        · obtain ⟨z1, z2⟩ := hpre q e h1 hq2 hq
          exact ⟨z1, z2.imp id fun z => hsub _ z⟩
        · have e' : q = a + 1 + i := by omega
          subst e'
          rw [hpe] at hq
          cases hq
          exact ⟨nw, hj⟩
      cases hf : f (jr : Int) with
      | some v0 =>
        fail "bm_go"
        exact ⟨c, ⟨_, _, rfl⟩, kvs, ks, f, hd3, hD, by omega, hks, pre' ks (fun _ h => h) (.inr (hD.mem_of hf))⟩
      | none =>
        fail "bm_go"
        refine r_ifN (fun hne => ?_) (fun heq => ?_)
        · have hne2 : jr ≠ e0.1 := fun e => hne (by rw [e])
          fail "bm_go"
          refine r_dputE hd3 (szl (by rw [hD.len]; omega)) ?_
          have hnk : (jr : Int) ∉ ks := fun h => (hD.mem _).mp h hf
          have hD2 := hD.put (jr : Int) (.int (tm - e0.2))
          rw [if_neg hnk] at hD2
          refine ⟨c.put hd3 trivial, ⟨_, _, rfl⟩, _, _, _, upd_same, hD2, by simp; omega, fun z hz => ?_, pre' _ (fun _ h => List.mem_append_left _ h) (.inr (by simp))⟩
          rcases List.mem_append.mp hz with hz | hz
          · obtain ⟨j, v, e1, e2, e3⟩ := hks z hz
            exact ⟨j, v, e1, by show (if z = (jr : Int) then _ else _) = _; rw [if_neg (fun y => hnk (by rw [← y]; exact hz))]; exact e2, e3⟩
          · have ez := List.mem_singleton.mp hz
            refine ⟨jr, tm - e0.2, ez, by show (if z = (jr : Int) then _ else _) = _; rw [if_pos ez], a + 1 + i, e0, tm, by omega, he0, hpe, rfl, hne2, fun q e h1 h2 hq => ?_, fun q e h1 h2 hq ej => ?_⟩
            · by_cases hq2 : q < a + 1 + i
              · exact (hpre q e h1 hq2 hq).1
              · have e' : q = a + 1 + i := by omega
                subst e'
                rw [hpe] at hq
                cases hq
                exact nw
            · rcases (hpre q e h1 h2 hq).2 with h | h
              · exact hne2 (by rw [← ej]; exact h)
              · rw [ej] at h
                exact hnk h
        · fail "bm_go"
          have hje : jr = e0.1 := by have := V.int.inj heq; omega
          exact ⟨c, ⟨_, _, rfl⟩, kvs, ks, f, hd3, hD, by omega, hks, pre' ks (fun _ h => h) (.inl hje)⟩
    · obtain ⟨⟨o4, o5, rfl⟩, kvs, ks, f, hd3, hD, hkl, hks, hpre⟩ := q
      fail "bm_go"
      exact k d kvs ks f H' (c.out s2 nd) nd hd3 hD (by simp at hkl; omega) hks
end
section
/-! ## F10: the law's arithmetic, holds -/
local macro_rules | `(tactic| fail "bm_go1") => `(tactic| first
  | with_reducible refine r_orV ?_
  | with_reducible refine r_chain ?_
  | with_reducible refine r_bm0 ?_
  | with_reducible refine r_lrev ?_
  | with_reducible refine r_fore ?_
  | with_reducible refine r_forz ?_
  | with_reducible refine r_lce ?_
  | with_reducible refine r_lcz ?_
  | with_reducible refine r_un ?_
  | with_reducible refine r_uI ?_)
section
variable {P : List Row} {ps : List (Nat × Int)} {b v L : Int} {a j : Nat} {e0 : Nat × Int} {ws : List Nat}
/-- from the a-th to where j first begins the trace is a way -/
structure Path (P : List Row) (ps : List (Nat × Int)) (b : Int) (a j : Nat) (e0 : Nat × Int) (v : Int) (m : Nat) (t : Int) : Prop where
  lt : a < m
  b0 : ps[a]? = some e0
  bm : ps[m]? = some (j, t)
  v : v = t - e0.2
  st : ∀ (q : Nat) (e e' : Nat × Int), a ≤ q → q < m → ps[q]? = some e → ps[q + 1]? = some e' → Ed P b j e.1 e'.1 ∧ (e'.1, e'.2 - e.2) ∈ ent P b e.1
theorem FirstAt.path (T : Tr P b ps) (he0 : ps[a]? = some e0) (hw0 : ¬ isWaitR P e0.1) (h : FirstAt P ps a j v) : ∃ m t, Path P ps b a j e0 v m t := by
  obtain ⟨m, e1, t, h1, h2, h3, h4, h5, h6, h7⟩ := h
  rw [he0] at h2
  cases h2
  refine ⟨m, t, h1, he0, h3, h4, fun q e e' hq hqm hqe hqe' => ?_⟩
  have nw : ¬ isWaitR P e.1 := by
    by_cases hq2 : q = a
    · subst hq2
      rw [he0] at hqe
      cases hqe
      exact hw0
    · exact h6 q e (by omega) (by omega) hqe
  have nj : e.1 ≠ j := by
    by_cases hq2 : q = a
    · subst hq2
      rw [he0] at hqe
      cases hqe
      exact fun z => h5 z.symm
    · exact h7 q e (by omega) hqm hqe
  have he := T.way q e.1 e'.1 e.2 e'.2 hqe hqe' nw
  exact ⟨⟨nj, ⟨_, he⟩, h6 (q + 1) e' (by omega) (by omega) hqe'⟩, he⟩
theorem Path.at_ {m : Nat} {t : Int} (h : Path P ps b a j e0 v m t) {q : Nat} (hq : q ≤ m) : ∃ e, ps[q]? = some e := by
  have hm := (List.getElem?_eq_some_iff.mp h.bm).1
  exact ⟨ps[q]'(by omega), List.getElem?_eq_getElem _⟩
theorem Path.fwd {m : Nat} {t : Int} (h : Path P ps b a j e0 v m t) : ∀ (n : Nat) (e : Nat × Int), a + n ≤ m → ps[a + n]? = some e → Rch (Ed P b j) e0.1 e.1
  | 0, e, _, he => by
    rw [Nat.add_zero, h.b0] at he
    cases he
    exact .refl _
  | n + 1, e, hn, he => by
    obtain ⟨e1, he1⟩ := h.at_ (q := a + n) (by omega)
    exact .tail (Path.fwd h n e1 (by omega) he1) (h.st (a + n) e1 e (by omega) (by omega) he1 he).1
theorem Path.bwd {m : Nat} {t : Int} (h : Path P ps b a j e0 v m t) : ∀ (n q : Nat) (e : Nat × Int), a ≤ q → q + n = m → ps[q]? = some e → Rch (Ed P b j) e.1 j
  | 0, q, e, _, hq, he => by
    rw [Nat.add_zero] at hq
    subst hq
    rw [h.bm] at he
    cases he
    exact .refl _
  | n + 1, q, e, ha, hq, he => by
    obtain ⟨e1, he1⟩ := h.at_ (q := q + 1) (by omega)
    exact Rch.head (h.st q e e1 ha (by omega) he he1).1 (Path.bwd h n (q + 1) e1 (by omega) (by omega) he1)
theorem Path.low {m : Nat} {t : Int} (W : WF P) (h : Path P ps b a j e0 v m t) (hL : LowOk P b e0.1 j L ws) : L ≤ v := by
  obtain ⟨bs, val, h1, h2, h3, h4, _⟩ := hL
  have key : ∀ (n : Nat) (e : Nat × Int), a + n ≤ m → ps[a + n]? = some e → e.1 ∈ bs ∧ val e.1 ≤ e.2 - e0.2 := by
    intro n
    induction n with
    | zero =>
      intro e _ he
      rw [Nat.add_zero, h.b0] at he
      cases he
      exact ⟨h1, by omega⟩
    | succ n ih =>
      intro e hn he
      obtain ⟨e1, he1⟩ := h.at_ (q := a + n) (by omega)
      obtain ⟨i1, i2⟩ := ih e1 (by omega) he1
      obtain ⟨s1, s2⟩ := h.st (a + n) e1 e (by omega) (by omega) he1 he
      obtain ⟨g1, g2⟩ := h4 e1.1 i1 e.1 s1
      obtain ⟨lo, hi, hE⟩ := ent_edge W s2
      have := g2 lo hi hE
      have := (hE.2.2 _ s2).1
      exact ⟨g1, by omega⟩
  have hm := h.lt
  have := (key (m - a) (j, t) (by omega) (by rw [show a + (m - a) = m by omega]; exact h.bm)).2
  have := h.v
  simp only at *
  omega
theorem Path.high {m : Nat} {t : Int} (h : Path P ps b a j e0 v m t) (hH : HighOk P b e0.1 j L) : v ≤ L := by
  obtain ⟨val, h1, h2, h3⟩ := hH
  have key : ∀ (n : Nat) (e : Nat × Int), a + n ≤ m → ps[a + n]? = some e → e.2 - e0.2 ≤ val e.1 := by
    intro n
    induction n with
    | zero =>
      intro e _ he
      rw [Nat.add_zero, h.b0] at he
      cases he
      omega
    | succ n ih =>
      intro e hn he
      obtain ⟨e1, he1⟩ := h.at_ (q := a + n) (by omega)
      have i2 := ih e1 (by omega) he1
      obtain ⟨s1, s2⟩ := h.st (a + n) e1 e (by omega) (by omega) he1 he
      have := h3 e1.1 e.1 _ (h.fwd n e1 (by omega) he1) s1 (h.bwd (m - (a + (n + 1))) (a + (n + 1)) e (by omega) (by omega) he) s2
      omega
  have hm := h.lt
  have := key (m - a) (j, t) (by omega) (by rw [show a + (m - a) = m by omega]; exact h.bm)
  have := h.v
  simp only at *
  omega
theorem Path.rch {m : Nat} {t : Int} (h : Path P ps b a j e0 v m t) : Rch (Ed P b j) e0.1 j := by
  have hm := h.lt
  exact h.fwd (m - a) (j, t) (by omega) (by rw [show a + (m - a) = m by omega]; exact h.bm)
end
theorem LowOk.way {P : List Row} {b L : Int} {i o : Nat} {ws : List Nat} (h : LowOk P b i o L ws) (hne : i ≠ o) : ∃ val : Nat → Int, WayOk P b i o val ws ∧ val o - val i = L := by
  obtain ⟨bs, val, h1, h2, h3, h4, h5, h6, h7, h8⟩ := h
  exact ⟨val, ⟨h5, h6, hne, h7, h8⟩, by omega⟩
theorem nats_first {ws : List Nat} {x : Nat} (h : ws.head? = some x) : atI (natsV ws) 0 = some (.int (x : Int)) := by
  rw [List.head?_eq_getElem?] at h
  exact atI_nat (j := 0) (by unfold natsV; rw [List.getElem?_map, h]; rfl)
def sp_l_holds (K : PySem.W.Frag) : Sp := fun vs H Q _ => ∃ (p s : Addr) (P : List Row) (b : Int) (i o : Nat) (v : Int), vs = [.ref p, .int b, .ref s, .int i, .int o, .int v] ∧ PAt K H p P ∧ WF P ∧ b + longOf P ≤ 256 ∧ StepsAt K H s P b ∧ i < P.length ∧ o < P.length ∧
  ¬ isWaitR P i ∧ ¬ isWaitR P o ∧ i ≠ o ∧ Rch (Ed P b o) i o ∧ (∀ L ws, LowOk P b i o L ws → L ≤ v) ∧ (∀ L, HighOk P b i o L → v ≤ L) ∧ ∀ H', Same H H' → Q (.bl true) H'
theorem sc_l_holds : FnScope ["_law_program", "_law_base_here", "_law_steps_here", "_law_one", "_law_other", "_law_beats_here", "_law_low", "_law_high"] ["_law_program", "_law_base_here", "_law_steps_here", "_law_one", "_law_other", "_law_beats_here"] (defScope s_l_holds) := ⟨rfl, rfl, rfl, by decide +kernel, rfl, by decide +kernel, by decide +kernel⟩
theorem ok_l_holds {P : Program} {w : World} {K : PySem.W.Frag} {mg : Str → Option Value} {base : Heap} (T : Tx K mg) : Ok P w K mg base CX0 10 803 ["_law_program", "_law_base_here", "_law_steps_here", "_law_one", "_law_other", "_law_beats_here"] (sp_l_holds K) := by
  refine ok0 9 (f_l_holds T) sc_l_holds (fun _ _ _ _ _ _ us hl => match us, hl with | [_, _, _, _, _, _], _ => rfl) (fun vs H Q E h => ?_) (fun cdv A outer sh H vs Q E room h => ?_)
  · obtain ⟨p, s, P, b, i, o, v, rfl, hP, W, hb, hs, hi, ho, hwi, hwo, hio, hr, low, high, k⟩ := h
    rfl
  · obtain ⟨p, s, P, b, i, o, v, rfl, hP, W, hb, hs, hi, ho, hwi, hwo, hio, hr, low, high, k⟩ := h
    refine ⟨_,     (pss_cons (ps_asg (pc (ok_span (K := K) T) (room.mono (by decide)) rfl (g_span T) pass0 (pa_cons (pv 0) (pa_cons (pv 1) (pa_cons (pv 3) (pa_cons (pv 4) pa_nil))))) (pg_tupK K (n := 2) rfl (pgs_cons (pg_name (i := 6) sc_l_holds.nd rfl (Or.inl rfl)) (pgs_cons (pg_name (i := 7) sc_l_holds.nd rfl (Or.inl rfl)) pgs_nil))))
        (pss_cons (ps_if (PW.pt (pw_or (pt_not (pt_val (pc (ok_l_is_way (K := K) T) (room.mono (by decide)) rfl (g__law_is_way T) pass0 (pa_cons (pv 0) (pa_cons (pv 2) (pa_cons (pv 3) (pa_cons (pv 4) (pa_cons (pe_ix (ix_tupK K) (pv 6) pe_int (fun _ _ => rfl)) pa_nil)))))))) (pw_or (pt_cmpR op_ne (pc (ok_l_sum (K := K) T) (room.mono (by decide)) rfl (g__law_sum T) pass0 (pa_cons (pv 2) (pa_cons (pe_ix (ix_tupK K) (pv 6) pe_int (fun _ _ => rfl)) (pa_cons pe_int pa_nil)))) (pe_ix (ix_tupK K) (pv 6) pe_int (fun _ _ => rfl)) (nomark _)) (pw_or1 (pt_cmpR op_lt (pv 5) (pe_ix (ix_tupK K) (pv 6) pe_int (fun _ _ => rfl)) (nomark _))))))
          (pss_one (ps_ret pe_bl)) pss_nil)
        (pss_cons (ps_if (pt_cmpR op_eq (pe_ix (ix_tupK K) (pv 7) pe_int (fun _ _ => rfl)) pe_str (nomark _))
          (pss_one (ps_ret (pe_and (pe_cmpR op_eq (pe_ix (ix_tupK K) (pe_ix (ix_tupK K) (pv 7) pe_int (fun _ _ => rfl)) pe_int (fun _ _ => rfl)) (pv 3) (nomark _)) (pe_one (pe_cmpR op_eq (pe_ix (ix_tupK K) (pe_ix (ix_tupK K) (pv 7) pe_int (fun _ _ => rfl)) (pe_un un_neg pe_int) (fun _ _ => rfl)) (pv 4) (nomark _)))))) pss_nil)
        (pss_cons (ps_if (PW.pt (pw_or (pt_cmpR op_ne (pe_ix (ix_tupK K) (pv 7) pe_int (fun _ _ => rfl)) pe_str (nomark _)) (pw_or (pt_cmpR op_ne (pe_ix (ix_tupK K) (pe_ix (ix_tupK K) (pv 7) pe_int (fun _ _ => rfl)) pe_int (fun _ _ => rfl)) (pv 3) (nomark _)) (pw_or1 (pt_cmpR op_ne (pe_ix (ix_tupK K) (pe_ix (ix_tupK K) (pv 7) pe_int (fun _ _ => rfl)) (pe_un un_neg pe_int) (fun _ _ => rfl)) (pv 4) (nomark _))))))
          (pss_one (ps_ret pe_bl)) pss_nil)
        (pss_one (ps_ret (pe_and (pe_cmpR op_le (pv 5) (pe_ix (ix_tupK K) (pv 7) pe_int (fun _ _ => rfl)) (nomark _)) (pe_one (pe_or (pe_cmpR op_ne (pe_ix (ix_tupK K) (pv 6) pe_int (fun _ _ => rfl)) (pe_ix (ix_tupK K) (pv 7) pe_int (fun _ _ => rfl)) (nomark _)) (pe_one (pe_cmpR op_eq (pv 5) (pe_ix (ix_tupK K) (pv 6) pe_int (fun _ _ => rfl)) (nomark _)))))))))))), ?_⟩
    show (_ : TS) _ [_, _, _, _, _, _, none, none] _
    fail "bm_go"
    refine ⟨p, P, b, i, o, rfl, hP, W, hb, hi, ho, hwi, hwo, hio, hr, fun t lt ht H1 s1 h1 hlow hhigh => ?_⟩
    obtain ⟨wt, pv_, L, ws, hl1, hl2, hL⟩ := hlow
    obtain ⟨val, way, hval⟩ := hL.way hio
    have hLv := low L ws hL
    fail "bm_go"
    refine ⟨p, s, wt, P, b, i, o, val, ws, rfl, hP.same s1, hs.same s1, W, hl2, way, fun H2 s2 => ?_⟩
    have s12 := s1.trans s2
    have hl12 := sqT_same s2 hl1
    have hl22 := sqT_same s2 hl2
    fail "bm_go"
    refine ⟨s, wt, P, b, i, o, val, ws, rfl, hs.same s12, W, hl22, way, fun H3 s3 => ?_⟩
    have s13 := s12.trans s3
    have hl13 := sqT_same s3 hl12
    fail "bm_go"
    refine r_ifF (by rw [hval]; simp) ?_
    fail "bm_go"
    refine r_ifF (decide_eq_false (by omega)) ?_
    fail "bm_go"
    obtain ⟨wt2, pv2, us, hw2, hh, hl, hx⟩ := hhigh
    have hw23 := sqT_same (s2.trans s3) hw2
    have n0 := nats_first hh
    have n1 := nats_last hl
    rcases hx with hx | ⟨L2, hx, hH⟩
    · have hx3 := sqT_same (s2.trans s3) hx
      fail "bm_go"
      refine r_ifT (by simp) ?_
      fail "bm_go"
      have := k H3 s13
      simpa using this
    · have hx3 := sqT_same (s2.trans s3) hx
      have hv2 := high L2 hH
      fail "bm_go"
      refine r_ifF (by simp) ?_
      fail "bm_go"
      refine r_ifF (by simp) ?_
      fail "bm_go"
      refine r_ifT (decide_eq_true hv2) ?_
      fail "bm_go"
      by_cases e : L = L2
      · have ev : v = L := by omega
        subst e
        refine r_ifF (by simp) ?_
        fail "bm_go"
        have := k H3 s13
        simpa [ev] using this
      · refine r_ifT (by simp [e]) ?_
        exact k H3 s13
end
section
/-! ## F11: the law -/
local macro_rules | `(tactic| fail "bm_go1") => `(tactic| first
  | with_reducible refine r_orV ?_
  | with_reducible refine r_chain ?_
  | with_reducible refine r_bm0 ?_
  | with_reducible refine r_lrev ?_
  | with_reducible refine r_fore ?_
  | with_reducible refine r_forz ?_
  | with_reducible refine r_lce ?_
  | with_reducible refine r_lcz ?_
  | with_reducible refine r_un ?_
  | with_reducible refine r_uI ?_)
theorem dp_ints {K : PySem.W.Frag} {H : Hp} : ∀ ns : List Nat, DpAll K H (natsV ns) (ns.map fun (n : Nat) => PyData.int (n : Int))
  | [] => .nil
  | n :: ns => .cons (.int _) (dp_ints ns)
theorem lay_ints : ∀ ns : List Nat, PyData.canLayAll0 (ns.map fun (n : Nat) => PyData.int (n : Int)) = true ∧ PyData.depthAll (ns.map fun (n : Nat) => PyData.int (n : Int)) = 0
  | [] => ⟨by simp [PyData.canLayAll0], by simp [PyData.depthAll]⟩
  | n :: ns => by
    obtain ⟨h1, h2⟩ := lay_ints ns
    exact ⟨by simp [PyData.canLayAll0, PyData.canLay0, h1], by simp [PyData.depthAll, PyData.depth, h2]⟩
theorem shaped_ints (ns : List Nat) : SeqAt.shaped (PyData.list (ns.map fun (n : Nat) => PyData.int (n : Int))) = true := by
  obtain ⟨h1, h2⟩ := lay_ints ns
  unfold SeqAt.shaped
  simp [PyData.canLay0, PyData.depth, h1, h2]
theorem r_eqNil {K : PySem.W.Frag} {H : Hp} {a e : Addr} {ns : List Nat} {Q : VK} (ha : SqL K H a (natsV ns)) (he : SqL K H e []) (q : Q (.bl (decide (ns = []))) H) : rEqD K (.ref a) (.ref e) H Q := by
  refine ⟨_, .list [], .lst ha (dp_ints ns), .lst he .nil, shaped_ints ns, by decide +kernel, ?_⟩
  have e1 : PyData.eqv (PyData.list (ns.map fun (n : Nat) => PyData.int (n : Int))) (PyData.list []) = decide (ns = []) := by
    cases ns with
    | nil => simp [PyData.eqv, PyData.eqvAll]
    | cons n ns => simp [PyData.eqv, PyData.eqvAll]
  rw [e1]
  exact q
theorem StepsAt.chgL {K : PySem.W.Frag} {H H' : Hp} {l d : Addr} {P : List Row} {b : Int} (h : StepsAt K H l P b) (c : Chg d H H') (hd : DeckAt H d) (n : l ≠ d) : StepsAt K H' l P b := by
  obtain ⟨ds, h1, h2, h3⟩ := h
  refine ⟨ds, sqL_chg c n h1, h2, fun i x hx => ?_⟩
  obtain ⟨kvs, ks, f, g1, g2, g3, g4, g5⟩ := h3 i x hx
  obtain ⟨ns, hns⟩ := hd
  have ne : x ≠ d := fun z => by rw [z, hns] at g1; cases g1
  exact ⟨kvs, ks, f, c.kp _ _ ne g1, g2, g3, g4, g5.im c.im⟩
section
variable {P : Program} {w : World} {K : PySem.W.Frag} {mg : Str → Option Value} {base : Heap} {name qual : Str} {params : Arguments} {body : List Stmt} {scope : Scope} {f : Addr} {fd : FuncData} {N ps : List Str} {sp : Sp}
theorem ok0F (k : Nat) (F : FunD K name qual params body scope [] [] f fd) (S : FnScope N ps scope) (len : ∀ vs H Q E, sp vs H Q E → vs.length = ps.length)
    (hbody : ∀ (cdv : Value) (A : Around) (outer : List Env) (s : Shared) (H : Hp) (vs : List V) (Q : VK) (E : XK), Room k (A.deeper (envOfC qual scope s.heap.objs.size f cdv)) → sp vs H Q E →
      ∃ t, PSs (cxOf CX0 P w K mg base N qual scope f cdv A outer s H E).nox body t ∧ t { nx := fun _ H' => Q .non H', rt := Q } (L2.start N vs) H) : FnOk P w K mg base CX0 (k + 1) f fd ps sp := by
  refine F.ok S len fun cdv A outer s H vs Q E hr h => ?_
  obtain ⟨t, h1, h2⟩ := hbody cdv A outer s H vs Q E hr h
  exact ⟨t, h1.nox, h2⟩
end
theorem sc_law : FnScope ["_law_script", "_law_deck_here", "_law_program", "_law_base_here", "_law_steps_here", "_law_begun_here", "_law_at", "_law_starts", "_law_k", "_law_found", "_law_other", "_law_one"] ["_law_script"] (defScope s_law) := ⟨rfl, rfl, rfl, by decide +kernel, rfl, by decide +kernel, by decide +kernel⟩
theorem ok_law {P : Program} {w : World} {K : PySem.W.Frag} {mg : Str → Option Value} {base : Heap} {fd : FuncData} (T : Tx K mg) (F : FunD K "law" "law" (defArgs s_law) (defBody s_law) (defScope s_law) [] [] 815 fd) : FnOk P w K mg base CX0 14 815 fd ["_law_script"] (spLaw K) := by
  refine ok0F 13 F sc_law (fun vs H Q E h => ?_) (fun cdv A outer sh H vs Q E room h => ?_)
  · obtain ⟨a, ns, rfl, hns, hln, k⟩ := h
    rfl
  · obtain ⟨a, ns, rfl, hns, hln, k⟩ := h
    refine ⟨_,     (pss_cons (ps_set (i := 1) sc_law.nd rfl (Or.inl rfl) (pc (ok_l_deck (K := K) T) (room.mono (by decide)) rfl (g__law_deck T) pass0 (pa_cons (pv 0) (pa_cons pe_int pa_nil))))
        (pss_cons (ps_set (i := 2) sc_law.nd rfl (Or.inr rfl) (pc (ok_l_turning (K := K) T) (room.mono (by decide)) rfl (g__law_turning T) pass0 (pa_cons (pv 1) (pa_cons (pc (ok_l_running (K := K) T) (room.mono (by decide)) rfl (g__law_running T) pass0 (pa_cons (pv 1) (pa_cons (pe_op op_add pe_int (pe_op op_mod (pc (ok_l_next (K := K) T) (room.mono (by decide)) rfl (g__law_next T) pass0 (pa_cons (pv 1) pa_nil)) pe_int)) pa_nil))) pa_nil))))
        (pss_cons (ps_set (i := 3) sc_law.nd rfl (Or.inl rfl) (pc (ok_l_base (K := K) T) (room.mono (by decide)) rfl (g__law_base T) pass0 (pa_cons (pv 1) (pa_cons (pv 2) pa_nil))))
        (pss_cons (ps_set (i := 4) sc_law.nd rfl (Or.inl rfl) (pc (ok_l_steps (K := K) T) (room.mono (by decide)) rfl (g__law_steps T) pass0 (pa_cons (pv 2) (pa_cons (pv 3) pa_nil))))
        (pss_cons (ps_set (i := 5) sc_law.nd rfl (Or.inl rfl) (pc (ok_l_begun (K := K) T) (room.mono (by decide)) rfl (g__law_begun T) pass0 (pa_cons (pv 2) (pa_cons (pv 3) (pa_cons (pc (ok_l_tale (K := K) T) (room.mono (by decide)) rfl (g__law_tale T) pass0 (pa_cons (pv 1) (pa_cons pe_int pa_nil))) (pa_cons (pe_op op_add pe_int (pe_op op_mod (pc (ok_l_next (K := K) T) (room.mono (by decide)) rfl (g__law_next T) pass0 (pa_cons (pv 1) pa_nil)) pe_int)) pa_nil))))))
        (pss_cons (ps_setLc (i := 7) (own := [("_law_at", 6), ("_law_one", 11)]) rfl sc_law.nd rfl rfl (sw_true rfl rfl rfl (by decide +kernel)) (pi_enumK K rfl (n_enumerate T) (pa_cons (pv 5) pa_nil)) (blkOk_by (N := ["_law_script", "_law_deck_here", "_law_program", "_law_base_here", "_law_steps_here", "_law_begun_here", "_law_at", "_law_starts", "_law_k", "_law_found", "_law_other", "_law_one"]) (sc := defScope s_law) (by decide +kernel)) (fun _ _ _ _ _ => (pg_tupK K (n := 2) rfl (pgs_cons (pg_name (i := 6) sc_law.nd rfl (Or.inl rfl)) (pgs_cons (pg_name (i := 11) sc_law.nd rfl (Or.inl rfl)) pgs_nil)))) (fun _ _ _ _ _ => (pts_one (pt_cmpR op_ne (pe_ix (ix_tupK K) (pe_ix (ix_tupK K) (pv 2) (pe_ix (ix_tupK K) (pv 11) pe_int (fun _ _ => rfl)) (fun _ _ => rfl)) pe_int (fun _ _ => rfl)) pe_str (nomark _)))) (fun _ _ _ _ _ => (pv 6)))
        (pss_cons (ps_for PassesOwn.never rfl (pi_range1 rfl (n_range T) (pa_cons pe_int pa_nil)) (pg_name (i := 8) sc_law.nd rfl (Or.inl rfl))
          (pss_cons (ps_if (pt_cmpR (op_eqK K room.units) (pv 7) (pe_lst pa_nil) (nomark _))
            (pss_one (ps_ret pe_bl)) pss_nil)
          (pss_cons (ps_set (i := 6) sc_law.nd rfl (Or.inl rfl) (pe_ix (ix_listK K) (pv 7) (pe_op op_mod (pc (ok_l_next (K := K) T) (room.mono (by decide)) rfl (g__law_next T) pass0 (pa_cons (pv 1) pa_nil)) (pe_callB (call_lenK K) (by rfl) (n_len T) (by decide +kernel) (pa_cons (pv 7) pa_nil))) (fun _ _ => rfl)))
          (pss_cons (ps_set (i := 9) sc_law.nd rfl (Or.inl rfl) (pc (ok_l_behind_one (K := K) T) (room.mono (by decide)) rfl (g__law_behind_one T) pass0 (pa_cons (pv 2) (pa_cons (pv 5) (pa_cons (pv 6) pa_nil)))))
          (pss_one (ps_for PassesOwn.never rfl (pi_listK K (pe_callB (cr_srtI K) (by rfl) (n_sorted T) (by decide +kernel) (pa_cons (pe_callTy (call_list_dK rfl) (by rfl) (n_list T) (by decide +kernel) (pa_cons (pv 9) pa_nil)) pa_nil))) (pg_name (i := 10) sc_law.nd rfl (Or.inl rfl))
            (pss_one (ps_if (pt_not (pt_val (pc (ok_l_holds (K := K) T) (room.mono (by decide)) rfl (g__law_holds T) pass0 (pa_cons (pv 2) (pa_cons (pv 3) (pa_cons (pv 4) (pa_cons (pe_ix (ix_tupK K) (pe_ix (ix_listK K) (pv 5) (pv 6) (fun _ _ => rfl)) pe_int (fun _ _ => rfl)) (pa_cons (pv 10) (pa_cons (pe_dget (hu_of room) (pv 9) (pv 10) (fun _ _ => rfl)) pa_nil)))))))))
              (pss_one (ps_ret pe_bl)) pss_nil))))))))
        (pss_one (ps_ret pe_bl))))))))), ?_⟩
    show (_ : TS) _ [_, none, none, none, none, none, none, none, none, none, none, none] _
    fail "bm_go"
    refine ⟨a, ns, rfl, hns, fun d H1 s1 nd hd1 => ?_⟩
    fail "bm_go"
    refine ⟨d, rfl, hd1, fun c H2 c2 hd2 => ?_⟩
    have m0 := Int.emod_nonneg c (show (6 : Int) ≠ 0 by omega)
    have m1 := Int.emod_lt_of_pos c (show (0 : Int) < 6 by omega)
    fail "bm_go"
    refine ⟨d, _, rfl, hd2, by omega, by omega, fun p0 P0 H3 c3 hd3 hP0 hS0 => ?_⟩
    fail "bm_go"
    refine ⟨d, p0, P0, rfl, hd3, hP0, hS0, fun p P H4 c4 hd4 hP4 hS4 => ?_⟩
    have W := hS4.wf (by omega)
    have hz := W.len
    clear hS0 hP0 hS4
    fail "bm_go"
    refine ⟨d, p, P, rfl, hd4, hP4, W, hz, fun b H5 c5 hd5 hb => ?_⟩
    have hP5 := hP4.chg c5
    fail "bm_go"
    refine ⟨p, P, b, rfl, hP5, W, fun st H6 s6 nst hst => ?_⟩
    have hd6 := hd5.same s6
    have nsd : st ≠ d := hd5.ne nst
    have hP6 := hP5.same s6
    fail "bm_go"
    refine ⟨d, rfl, hd6, fun ta xs H7 c7 hd7 hta hxs => ?_⟩
    have hst7 := hst.chgL c7 hd6 nsd
    have hP7 := hP6.chg c7
    fail "bm_go"
    refine ⟨d, rfl, hd7, fun c8 H8 k8 hd8 => ?_⟩
    have hst8 := hst7.chgL k8 hd7 nsd
    have hP8 := hP7.chg k8
    obtain ⟨n, hn⟩ : ∃ n : Nat, 1 + c8 % 2 = (n : Int) := Int.eq_ofNat_of_zero_le (by omega)
    fail "bm_go"
    rw [hn]
    refine ⟨p, ta, P, b, n, xs, rfl, hP8, W, hb, by omega, sqT_chg k8 hta, fun x hx => ?_, fun l ps H9 s9 nl hB hT hpl => ?_⟩
    · obtain ⟨u, e, hu⟩ := hxs x hx
      exact ⟨u, e, hu.im k8.im⟩
    have hst9 := hst8.same s9
    have hP9 := hP8.same s9
    have hd9 := hd8.same s9
    have nld : l ≠ d := hd8.ne nl
    obtain ⟨ws, hw1, hw2, hw3⟩ := id hB
    fail "bm_go"
    refine ⟨l, ws, rfl, SqL.of hw1, lcW_f walk_enum (fun i => !decide (V.str (P.getD (ps.getD i (0, 0)).1 default).d = V.str "wait")) (fun i => V.int ((i : Nat) : Int)) (fun H' s' => s'.seq (SqL.of hw1)) (by omega) (fun i x y T H' hi hx hy s' hT' R R0 q1 q0 => ?_) (fun D H10 hD s10 hd10 => ?_)⟩
    · cases hx
      have hi2 : i < ps.length := by omega
      have hpe := List.getElem?_eq_getElem hi2
      have hgd : ps.getD i (0, 0) = ps[i] := by simp [List.getD_eq_getElem?_getD, hpe]
      rw [hgd] at q1 q0
      have hrl := hT.lt _ (List.mem_of_getElem? hpe)
      obtain ⟨tt, rfl, htt⟩ := hw3 _ y _ hy hpe
      have hgd2 : P.getD ps[i].1 default = P[ps[i].1] := by simp [List.getD_eq_getElem?_getD, List.getElem?_eq_getElem hrl]
      rw [hgd2] at q1 q0
      have sT := s'.trans (same_new (o := .tup [.int (i : Int), .ref tt]) hT')
      have hT5 : SqT K (upd H' T (.tup [.int (i : Int), .ref tt])) T [.int (i : Int), .ref tt] := SqT.of upd_same
      have htt5 := sqT_same sT htt
      have hP10 := hP9.same sT
      revert sT hT5 htt5 hP10 q1 q0
      generalize upd H' T (.tup [.int (i : Int), .ref tt]) = H5
      intro q1 q0 sT hT5 htt5 hP10
      obtain ⟨xs', ra, g1, g2, g3, _⟩ := hP10.at_ (List.getElem?_eq_getElem hrl)
      unfold rowV at g3
      fail "bm_turn"
      fail "bm_go"
      refine r_ifB (fun h => ?_) (fun h => ?_)
      · fail "bm_go"
        exact q0 h _ (Same.refl _)
      · fail "bm_go"
        exact q1 h _ (Same.refl _)
    obtain ⟨S, hS⟩ : ∃ S, S = (List.range ws.length).filter (fun i => !decide (V.str (P.getD (ps.getD i (0, 0)).1 default).d = V.str "wait")) := ⟨_, rfl⟩
    have hSl : H10 D = some (.lst (natsV S)) := by rw [hd10, hS]; rfl
    have hSm : ∀ q ∈ S, ∃ e0, ps[q]? = some e0 ∧ ¬ isWaitR P e0.1 := fun q hq => by
      rw [hS, List.mem_filter, List.mem_range] at hq
      obtain ⟨h1, h2⟩ := hq
      have hi2 : q < ps.length := by omega
      have hpe := List.getElem?_eq_getElem hi2
      have hgd : ps.getD q (0, 0) = ps[q] := by simp [List.getD_eq_getElem?_getD, hpe]
      have hrl := hT.lt _ (List.mem_of_getElem? hpe)
      have hgd2 : P.getD ps[q].1 default = P[ps[q].1] := by simp [List.getD_eq_getElem?_getD, List.getElem?_eq_getElem hrl]
      rw [hgd, hgd2] at h2
      refine ⟨_, hpe, fun ⟨r, e1, e2⟩ => ?_⟩
      rw [List.getElem?_eq_getElem hrl] at e1
      cases e1
      rw [e2] at h2
      simp at h2
    have hSz : S.length ≤ 10000 := by
      have := List.length_filter_le (fun i => !decide (V.str (P.getD (ps.getD i (0, 0)).1 default).d = V.str "wait")) (List.range ws.length)
      rw [List.length_range] at this
      rw [hS]
      omega
    clear hd10 hS
    have hd10 := hd9.same s10
    have hDd : D ≠ d := hd9.ne hD
    fail "bm_go"
    refine forN_c d (fun i σ H' => (∃ o6 o8 o9 o10 o11, σ = [some (.ref a), some (.ref d), some (.ref p), some (.int b), some (.ref st), some (.ref l), o6, some (.ref D), o8, o9, o10, o11]) ∧ DeckAt H' d) (by omega) (by omega) ⟨⟨_, _, _, _, _, rfl⟩, hd10⟩ (fun i σ H' hi c' q => ?_) (fun σ H' c' q => ?_)
    · obtain ⟨⟨o6, o8, o9, o10, o11, rfl⟩, hd'⟩ := q
      have hSl' := c'.kp _ _ hDd hSl
      have hB' := (hB.same s10).chg c' nld
      have hst' := (hst9.same s10).chgL c' hd10 nsd
      have hP' := (hP9.same s10).chg c'
      fail "bm_go"
      intro e ne
      have se := same_new (o := .lst []) ne
      refine r_eqNil (SqL.of (se _ _ hSl')) (SqL.of upd_same) ?_
      have hSl1 := se _ _ hSl'
      have hB1 := hB'.same se
      have hst1 := hst'.same se
      have hP1 := hP'.same se
      have hd1' := hd'.same se
      have c1' := c'.step se
      revert hSl1 hB1 hst1 hP1 hd1' c1'
      generalize upd H' e (.lst []) = H11
      intro hSl1 hB1 hst1 hP1 hd1' c1'
      fail "bm_go"
      refine r_ifD (fun hS0 => ?_) (fun hS0 => ?_)
      · fail "bm_go"
        exact k _
      have hSpos := List.length_pos_iff.mpr hS0
      have hSlen : ((natsV S).length : Int) = (S.length : Int) := by rw [nats_len]
      fail "bm_go"
      refine ⟨d, rfl, hd1', fun cc H12 k12 hd12 => ?_⟩
      have hSl2 := k12.kp _ _ hDd hSl1
      have hB2 := hB1.chg k12 nld
      have hst2 := hst1.chgL k12 hd1' nsd
      have hP2 := hP1.chg k12
      have c2' := c1'.trans k12
      have z0 := Int.emod_nonneg cc (show (S.length : Int) ≠ 0 by omega)
      have z1 := Int.emod_lt_of_pos cc (show (0 : Int) < (S.length : Int) by omega)
      obtain ⟨jj, hjj⟩ := Int.eq_ofNat_of_zero_le z0
      have hjl : jj < S.length := by omega
      have ixS : atI (natsV S) (cc % ((natsV S).length : Int)) = some (.int (S[jj] : Int)) := by
        rw [hSlen, hjj]
        exact atI_nat (by unfold natsV; rw [List.getElem?_map, List.getElem?_eq_getElem hjl]; rfl)
      obtain ⟨e0, he0, hw0⟩ := hSm _ (List.getElem_mem hjl)
      revert ixS he0
      generalize S[jj] = q0
      intro ixS he0
      fail "bm_go"
      refine ⟨p, l, P, ps, q0, e0, rfl, hP2, hB2, hpl, hT.lt, he0, fun fd kvs ks f' H13 s13 nfd hfd hDI hkl hks => ?_⟩
      fail "bm_go"
      refine ⟨fd, kvs, rfl, hfd, fun u nu => ?_⟩
      rw [hDI.listed]
      have su := s13.trans (same_new (o := .lst (ks.map V.int)) nu)
      fail "bm_go"
      refine ⟨u, ks, rfl, SqL.of upd_same, fun ns' u2 hperm hsort nu2 => ?_⟩
      have su2 := su.trans (same_new (o := .lst (ns'.map V.int)) nu2)
      have hu2 : upd (upd H13 u (.lst (ks.map V.int))) u2 (.lst (ns'.map V.int)) u2 = some (.lst (ns'.map V.int)) := upd_same
      have hfd2 := gN (o := .lst (ns'.map V.int)) nu2 (gN (o := .lst (ks.map V.int)) nu hfd)
      revert su2 hu2 hfd2
      generalize upd (upd H13 u (.lst (ks.map V.int))) u2 (.lst (ns'.map V.int)) = H14
      intro su2 hu2 hfd2
      have hB3 := hB2.same su2
      have hst3 := hst2.same su2
      have hP3 := hP2.same su2
      obtain ⟨ws', w1, w2, w3⟩ := id hB3
      have hql := (List.getElem?_eq_some_iff.mp he0).1
      obtain ⟨tq, etq, htq⟩ := w3 q0 _ _ (List.getElem?_eq_getElem (show q0 < ws'.length by omega)) he0
      have ixq : atI ws' (q0 : Int) = some (.ref tq) := atI_nat (by rw [List.getElem?_eq_getElem (show q0 < ws'.length by omega), etq])
      fail "bm_go"
      refine forL (xs := ns'.map V.int) (fun _ σ H' => (∃ o10, σ = [some (.ref a), some (.ref d), some (.ref p), some (.int b), some (.ref st), some (.ref l), some (.int (q0 : Int)), some (.ref D), some (.int (i : Int)), some (.ref fd), o10, o11]) ∧ Same H14 H') (SqL.of hu2) ⟨⟨_, rfl⟩, Same.refl _⟩ (fun i σ' H' _ q => q.2.seq (SqL.of hu2)) (fun i' x σ' H' hx q => ?_) (fun σ' H' q => ?_)
      · obtain ⟨⟨o10, rfl⟩, s'⟩ := q
        rw [List.getElem?_map] at hx
        cases hz' : ns'[i']? with
        | none => rw [hz'] at hx; cases hx
        | some z =>
          rw [hz'] at hx
          cases hx
          obtain ⟨j, v, rfl, hfz, hFA⟩ := hks z (hperm.mem_iff.mp (List.mem_of_getElem? hz'))
          obtain ⟨m, t, path⟩ := hFA.path hT he0 hw0
          have hw' := s' _ _ w1
          have htq' := sqT_same s' htq
          have hfd' := s' _ _ hfd2
          fail "bm_go"
          refine r_dgetE (.inl hfd') hDI hfz ?_
          fail "bm_go"
          obtain ⟨m', e0', t', f1, f2, f3, f4, f5, f6, f7⟩ := id hFA
          rw [he0] at f2
          cases f2
          refine ⟨p, st, P, b, e0.1, j, v, rfl, hP3.same s', W, hb, hst3.same s', hT.lt _ (List.mem_of_getElem? he0), hT.lt (j, t) (List.mem_of_getElem? path.bm), hw0, f6 m' (j, t') f1 (Nat.le_refl _) f3, fun h => f5 h.symm, path.rch, fun L us h => path.low W h, fun L h => path.high h, fun H15 s15 => ?_⟩
          fail "bm_go"
          exact ⟨⟨_, rfl⟩, s'.trans s15⟩
      · obtain ⟨⟨o10, rfl⟩, s'⟩ := q
        fail "bm_go"
        exact ⟨c2'.step (su2.trans s'), ⟨_, _, _, _, _, rfl⟩, hd12.same (su2.trans s')⟩
    · obtain ⟨⟨o6, o8, o9, o10, o11, rfl⟩, hd'⟩ := q
      fail "bm_go"
      exact k _
end
/-! ### the end -/
theorem facts {P : Program} {w : World} {K : PySem.W.Frag} {h : Heap} {mg : Str → Option Value} {f : Addr} (X : K.In h) (G : h.Ns mainGlobals mg) (hfa : mg ("law" : Str) = some (.ref f)) (c : SaysY fn exv K) :
    ∃ fd : FuncData, (∀ (s : Shared) (v : Value), BindsTo s fd ⟨[v], []⟩ [("_law_script", v)]) ∧ ∀ base : Heap, K.In base → base.Ns mainGlobals mg → FnOk P w K mg base CX0 lawLevel f fd ["_law_script"] (spLaw K) := by
  have T : Tx K mg := Tx.of X G c
  obtain ⟨fd, F⟩ := f_law T
  have e := hfa.symm.trans (g_law T)
  cases e
  have b := FunD.bindsA (ps := ["_law_script"]) F fun _ _ _ _ _ _ us hl => match us, hl with | [_], _ => rfl
  exact ⟨fd, fun s v => b s [v] rfl, fun base _ _ => ok_law T F⟩
end Bm
theorem PySem.Challenge.cw_beamrows_k93_whole_spans_and_runs_holds : PySem.Challenge.rw_beamrows_k93_whole_spans_and_runs.Holds := by
  exact Bm.holds_of fun P w K h mg f X G e c => Bm.facts X G e c
