import PyProof.Rows.All
import Wide.All
import OpenK.AllK
import Wide.FinOn
import KE.KStateDown
import Lean
import HandS.ForMost
import HandS.More
import HandS.Exc
import HandS.Defaults
import HandS.Slots
import HandS.SlotsOwn
import HandS.Property
import HandS.Conv
import HandS.Star
import HandS.DictComp
import HandS.IsInst
import HandS.Wide
import HandS.Zip
import HandS.Walk
import HandS.Flow
import HandS.Codes
import HandS.Evl
import HandS.Strs
import HandS.Style
import HandS.NoneIn
import HandS.TupAny
import HandS.TupLe
import HandS.Head0
import HandS.Head1
import HandS.Head2
import HandS.HeadEnd
import HandS.HeadHook1
import HandS.HeadHook2
import KE.KDictZip
import KE.KDictList
import KE.KDictSum
import PySem.Challenge.RW_cuecarry_k28_whole_rooms_behind_trims
set_option Elab.async false
set_option linter.all false
set_option Elab.async false
set_option linter.all false
set_option maxRecDepth 100000
set_option maxHeartbeats 0
namespace CZ
open PySem PySem.Spec PyProof.Rows L2
/-! ### the text -/
def top (i : Nat) : Stmt := PySem.Challenge.pw_cuecarry_k28_whole_rooms_behind_trims.main.body.getD i (.Pass ⟨0, 0, 0, 0⟩)
abbrev s_placed : Stmt := top 10
abbrev s_Map_init : Stmt := inClass (top 11) 1
abbrev s_Map_at : Stmt := inClass (top 11) 2
abbrev s_Map_least : Stmt := inClass (top 11) 3
abbrev s_least_times : Stmt := top 12
abbrev s_is_integer : Stmt := top 19
abbrev s_is_tuple : Stmt := top 20
abbrev s_is_said : Stmt := top 21
abbrev s_is_word : Stmt := top 22
abbrev s_number_in : Stmt := top 23
abbrev s_integer_in : Stmt := top 24
abbrev s_common : Stmt := top 33
abbrev s_ratio_in : Stmt := top 34
abbrev s_nearest : Stmt := top 35
abbrev s_round_to : Stmt := top 36
abbrev s_carried_home : Stmt := top 37
abbrev s_Program_init : Stmt := inClass (top 55) 1
abbrev s_Program_begin : Stmt := inClass (top 55) 2
abbrev s_Program_steps : Stmt := inClass (top 55) 3
abbrev s_Program_hows : Stmt := inClass (top 55) 4
abbrev s_Program_carried : Stmt := inClass (top 55) 5
abbrev s_told_ratio : Stmt := top 56
abbrev s_words_behind : Stmt := top 57
abbrev s_Reader_init : Stmt := inClass (top 58) 0
abbrev s_Reader_is_whole : Stmt := inClass (top 58) 1
abbrev s_Reader_takes_trim : Stmt := inClass (top 58) 2
abbrev s_Reader_takes_program : Stmt := inClass (top 58) 3
abbrev s_Reader_takes_from : Stmt := inClass (top 58) 4
abbrev s_Reader_takes_via : Stmt := inClass (top 58) 5
abbrev s_Reader_takes_back : Stmt := inClass (top 58) 6
abbrev s_Reader_takes : Stmt := inClass (top 58) 7
abbrev s_read_lines : Stmt := top 59
abbrev s_period_of : Stmt := top 60
abbrev s_Studio_init : Stmt := inClass (top 61) 1
abbrev s_Studio_programs : Stmt := inClass (top 61) 3
abbrev s_Studio_period : Stmt := inClass (top 61) 4
abbrev s_Studio_trim : Stmt := inClass (top 61) 5
abbrev s_is_pair : Stmt := top 66
abbrev s_Level_init : Stmt := inClass (top 68) 1
abbrev s_Level_row : Stmt := inClass (top 68) 2
abbrev s_Level_is_last : Stmt := inClass (top 68) 3
abbrev s_Stairs_init : Stmt := inClass (top 69) 1
abbrev s_Stairs_rise : Stmt := inClass (top 69) 2
abbrev s_Stairs_raised : Stmt := inClass (top 69) 3
abbrev s_Stairs_settle : Stmt := inClass (top 69) 4
abbrev s_Stairs_row_of : Stmt := inClass (top 69) 5
abbrev s_Stairs_least : Stmt := inClass (top 69) 6
abbrev s_Stairs_last : Stmt := inClass (top 69) 7
abbrev s_Stairs_soonest : Stmt := inClass (top 69) 8
abbrev s_Stairs_broken : Stmt := inClass (top 69) 9
abbrev s_Stairs_breaking : Stmt := inClass (top 69) 10
abbrev s_Stairs_corners : Stmt := inClass (top 69) 11
abbrev s_RoomLevel_init : Stmt := inClass (top 76) 1
abbrev s_RoomLevel_least : Stmt := inClass (top 76) 2
abbrev s_RoomLevel_row : Stmt := inClass (top 76) 3
abbrev s_RoomLevel_is_last : Stmt := inClass (top 76) 4
abbrev s_is_any : Stmt := top 77
abbrev s_steps_of : Stmt := top 78
abbrev s_level_of : Stmt := top 79
abbrev s_stairs_of : Stmt := top 80
abbrev s_is_ever : Stmt := top 81
abbrev s_does_last : Stmt := top 82
abbrev s_names_of : Stmt := top 83
abbrev s_room_broken : Stmt := top 84
abbrev s_breaking : Stmt := top 85
abbrev s_check_kind : Stmt := top 91
abbrev s_check_pair : Stmt := top 92
abbrev s_is_shelter : Stmt := top 93
abbrev s_check_shelter : Stmt := top 94
abbrev s_saved_by : Stmt := top 95
abbrev s_is_sound : Stmt := top 96
abbrev s_has_pair : Stmt := top 97
abbrev s_is_shut : Stmt := top 98
abbrev s_is_closed : Stmt := top 99
abbrev s_never_row : Stmt := top 100
abbrev s_lasts : Stmt := top 101
abbrev s_q_pot : Stmt := top 103
abbrev s_q_take : Stmt := top 104
abbrev s_q_of : Stmt := top 105
abbrev s_q_some : Stmt := top 106
abbrev s_q_cells : Stmt := top 107
abbrev s_q_is_int : Stmt := top 108
abbrev s_q_names : Stmt := top 109
abbrev s_q_common : Stmt := top 110
abbrev s_q_joint : Stmt := top 111
abbrev s_q_least_terms : Stmt := top 112
abbrev s_q_ratio_text : Stmt := top 113
abbrev s_q_hows : Stmt := top 114
abbrev s_q_vias : Stmt := top 115
abbrev s_q_lore : Stmt := top 116
abbrev s_q_text : Stmt := top 117
abbrev s_q_period : Stmt := top 118
abbrev s_q_round : Stmt := top 119
abbrev s_q_carry : Stmt := top 120
abbrev s_q_program : Stmt := top 121
abbrev s_q_program_names : Stmt := top 122
abbrev s_q_kind_sides : Stmt := top 123
abbrev s_q_pair_saved : Stmt := top 124
abbrev s_q_is_row : Stmt := top 125
abbrev s_q_slipping : Stmt := top 126
abbrev s_q_is_pair : Stmt := top 127
abbrev s_q_own_stairs : Stmt := top 128
abbrev s_q_least_there : Stmt := top 129
abbrev s_q_can_stay : Stmt := top 130
abbrev s_q_does_stay : Stmt := top 131
abbrev s_q_in_shelter : Stmt := top 132
abbrev s_q_is_shelter : Stmt := top 133
abbrev s_q_is_cut_fine : Stmt := top 134
abbrev s_q_do_rooms_last : Stmt := top 135
abbrev s_q_is_broken : Stmt := top 136
abbrev s_q_is_shut : Stmt := top 137
abbrev s_q_is_told : Stmt := top 138
abbrev s_q_is_judged : Stmt := top 139
abbrev s_q_right : Stmt := top 140
abbrev s_law : Stmt := top 141
/-! ### where a def stands, what is seen of it -/
inductive At where
  | g (x : Str)
  | m (c f : Str)
  | p (c f : Str)
def getter (K : PySem.W.Frag) (p : Addr) : Addr := match PySem.W.recIn K p "property" with
  | some (.ref g :: _) => g
  | _ => 0
def At.ad (K : PySem.W.Frag) : At → Addr
  | .g x => He.ga K x
  | .m c f => He.ma K (He.ga K c) f
  | .p c f => getter K (He.ma K (He.ga K c) f)
structure De where
  at_ : At
  nm : Str
  ql : Str
  st : Stmt
  df : List V
abbrev SeeT : Type := Option ((Str × Str × Arguments) × FuncBody × Scope × (Addr × List (Str × Addr) × Addr))
def see (K : PySem.W.Frag) (f : Addr) : SeeT := match K.lookup f with
  | some ⟨_, _, .func d, _⟩ => some ((d.name, d.qualname, d.params), d.body, d.scope, (d.globals, d.closure, d.builtins))
  | _ => none
def De.due (d : De) : SeeT := some ((d.nm, d.ql, defArgs d.st), .stmts (defBody d.st), defScope d.st, (mainGlobals, [], builtinsNs))
def De.fit (K : PySem.W.Frag) (d : De) : Bool := PySem.W.keepIn K (.ref (d.at_.ad K)) && match K.lookup (d.at_.ad K) with
  | some ⟨_, _, .func u, _⟩ => PySem.W.codeIn K u.code d.ql && He.dflB K u.defaults d.df
  | _ => false
theorem De.fun_ {K : PySem.W.Frag} {d : De} (e : see K (d.at_.ad K) = d.due) (c : d.fit K = true) : ∃ fd, FunD K d.nm d.ql (defArgs d.st) (defBody d.st) (defScope d.st) d.df [] (d.at_.ad K) fd := by
  obtain ⟨kp, c2⟩ := Bool.and_eq_true_iff.mp c
  unfold see at e
  cases q : K.lookup (d.at_.ad K) with
  | none => rw [q] at c2; cases c2
  | some ob =>
    obtain ⟨oc, od, dt, osl⟩ := ob
    rw [q] at c2 e
    cases dt with
    | func u =>
      obtain ⟨u1, u2, u3, u4, u5, u6, u7, u8, u9, u10, u11, u12, u13, u14, u15⟩ := u
      have e2 : (some ((u1, u2, u3), u4, u5, (u6, u7, u15)) : SeeT) = d.due := e
      unfold De.due at e2
      simp only [Option.some.injEq, Prod.mk.injEq] at e2
      obtain ⟨⟨h1, h2, h3⟩, h4, h5, h6, h7, h8⟩ := e2
      subst h1 h2 h3 h4 h5 h6 h7 h8
      have c3 : (PySem.W.codeIn K u13 d.ql && He.dflB K u8 d.df) = true := c2
      obtain ⟨k1, k2⟩ := Bool.and_eq_true_iff.mp c3
      exact ⟨_, ⟨oc, od, u8, u9, u10, u11, u12, u13, u14, osl, rfl, q, k1, He.dflB_ok k2, .inl rfl⟩, kp⟩
    | _ => cases c2
/-! ### facts -/
inductive Fb where
  | fa (f : He.Fa)
  | scl (x : Str)
  | slo (x f : Str) (i : Nat)
  | prp (x f : Str)
  | tup (x : Str) (vs : List He.Dv)
  | tupd (x : Str)
abbrev eo (a b : Option (Option Value)) : Bool := decide (a = b)
def Fb.ok (K : PySem.W.Frag) : Fb → Bool
  | .fa f => f.ok K
  | .scl x => PySem.W.plainGet K (He.ga K x) Str.empty && (PySem.W.isClsIn K (He.ga K x) && (PySem.W.plainOver K (He.ga K x) && eo (PySem.W.findIn K (.ref (He.ga K x)) "__setattr__") (some (some (.builtin "object.__setattr__")))))
  | .slo x f i => let p := He.ma K (He.ga K x) f
    eo (PySem.W.findIn K (.ref (He.ga K x)) f) (some (some (.ref p))) && (eo (PySem.W.specialIn K (.ref p) "__get__") (some (some (.builtin "member_descriptor.__get__"))) && (decide (PySem.W.takesIn K (.ref p) = some true) &&
      (decide (PySem.W.typeIn K (.ref p) = some (.type "member_descriptor")) && (decide (PySem.W.slotIn K p (He.ga K x) = some i) && decide (i < 1000)))))
  | .prp x f => let p := He.ma K (He.ga K x) f
    eo (PySem.W.findIn K (.ref (He.ga K x)) f) (some (some (.ref p))) && (eo (PySem.W.specialIn K (.ref p) "__get__") (some (some (.builtin "property.__get__"))) && (decide (PySem.W.takesIn K (.ref p) = some true) &&
      match PySem.W.recIn K p "property" with
      | some (.ref _ :: _) => true
      | _ => false))
  | .tup x vs => He.tupB K x vs
  | .tupd x => match K.lookup (He.ga K x) with
    | some o => decide (o.cls = .type "tuple") && o.dict.isNone
    | none => false
structure Prp (K : PySem.W.Frag) (C : Addr) (f : Str) (p g : Addr) : Prop where
  at_ : PySem.W.findIn K (.ref C) f = some (some (.ref p))
  get : PySem.W.specialIn K (.ref p) "__get__" = some (some (.builtin "property.__get__"))
  tak : PySem.W.takesIn K (.ref p) = some true
  rec_ : ∃ rest, PySem.W.recIn K p "property" = some (.ref g :: rest)
section
variable {K : PySem.W.Frag}
theorem scl_ok {x : Str} (c : (Fb.scl x).ok K = true) : SlX.SCls K (He.ga K x) := by
  obtain ⟨c1, c⟩ := Bool.and_eq_true_iff.mp c
  obtain ⟨c2, c⟩ := Bool.and_eq_true_iff.mp c
  obtain ⟨c3, c4⟩ := Bool.and_eq_true_iff.mp c
  exact ⟨c1, c2, c3, of_decide_eq_true c4⟩
theorem slo_ok {x f : Str} {i : Nat} (c : (Fb.slo x f i).ok K = true) : SlX.Slot1 K (He.ga K x) f (He.ma K (He.ga K x) f) i := by
  obtain ⟨c1, c⟩ := Bool.and_eq_true_iff.mp c
  obtain ⟨c2, c⟩ := Bool.and_eq_true_iff.mp c
  obtain ⟨c3, c⟩ := Bool.and_eq_true_iff.mp c
  obtain ⟨c4, c⟩ := Bool.and_eq_true_iff.mp c
  obtain ⟨c5, c6⟩ := Bool.and_eq_true_iff.mp c
  exact ⟨of_decide_eq_true c1, of_decide_eq_true c2, of_decide_eq_true c3, of_decide_eq_true c4, of_decide_eq_true c5, of_decide_eq_true c6⟩
theorem tupd_ok {x : Str} (c : (Fb.tupd x).ok K = true) : ∃ o, K.lookup (He.ga K x) = some o ∧ o.cls = .type "tuple" ∧ o.dict = none := by
  have c : (match K.lookup (He.ga K x) with
    | some o => decide (o.cls = .type "tuple") && o.dict.isNone
    | none => false) = true := c
  cases e : K.lookup (He.ga K x) with
  | none => rw [e] at c; cases c
  | some o =>
    rw [e] at c
    obtain ⟨c1, c2⟩ := Bool.and_eq_true_iff.mp c
    refine ⟨o, rfl, of_decide_eq_true c1, ?_⟩
    cases h : o.dict with
    | none => rfl
    | some z => rw [h] at c2; cases c2
theorem prp_ok {x f : Str} (c : (Fb.prp x f).ok K = true) : Prp K (He.ga K x) f (He.ma K (He.ga K x) f) (getter K (He.ma K (He.ga K x) f)) := by
  obtain ⟨c1, c⟩ := Bool.and_eq_true_iff.mp c
  obtain ⟨c2, c⟩ := Bool.and_eq_true_iff.mp c
  obtain ⟨c3, c4⟩ := Bool.and_eq_true_iff.mp c
  refine ⟨of_decide_eq_true c1, of_decide_eq_true c2, of_decide_eq_true c3, ?_⟩
  unfold getter
  split at c4
  · rename_i g rest e
    exact ⟨rest, e⟩
  · cases c4
end
def d_placed : De := ⟨.g "placed", "placed", "placed", s_placed, []⟩
def d_Map_init : De := ⟨.m "Map" "__init__", "__init__", "Map.__init__", s_Map_init, []⟩
def d_Map_at : De := ⟨.m "Map" "at", "at", "Map.at", s_Map_at, []⟩
def d_Map_least : De := ⟨.m "Map" "least", "least", "Map.least", s_Map_least, []⟩
def d_least_times : De := ⟨.g "least_times", "least_times", "least_times", s_least_times, []⟩
def d_is_integer : De := ⟨.g "is_integer", "is_integer", "is_integer", s_is_integer, [.non, .non]⟩
def d_is_tuple : De := ⟨.g "is_tuple", "is_tuple", "is_tuple", s_is_tuple, []⟩
def d_is_said : De := ⟨.g "is_said", "is_said", "is_said", s_is_said, []⟩
def d_is_word : De := ⟨.g "is_word", "is_word", "is_word", s_is_word, []⟩
def d_number_in : De := ⟨.g "number_in", "number_in", "number_in", s_number_in, []⟩
def d_integer_in : De := ⟨.g "integer_in", "integer_in", "integer_in", s_integer_in, []⟩
def d_common : De := ⟨.g "common", "common", "common", s_common, []⟩
def d_ratio_in : De := ⟨.g "ratio_in", "ratio_in", "ratio_in", s_ratio_in, []⟩
def d_nearest : De := ⟨.g "nearest", "nearest", "nearest", s_nearest, []⟩
def d_round_to : De := ⟨.g "round_to", "round_to", "round_to", s_round_to, []⟩
def d_carried_home : De := ⟨.g "carried_home", "carried_home", "carried_home", s_carried_home, []⟩
def d_Program_init : De := ⟨.m "Program" "__init__", "__init__", "Program.__init__", s_Program_init, []⟩
def d_Program_begin : De := ⟨.p "Program" "begin", "begin", "Program.begin", s_Program_begin, []⟩
def d_Program_steps : De := ⟨.p "Program" "steps", "steps", "Program.steps", s_Program_steps, []⟩
def d_Program_hows : De := ⟨.m "Program" "hows", "hows", "Program.hows", s_Program_hows, []⟩
def d_Program_carried : De := ⟨.m "Program" "carried", "carried", "Program.carried", s_Program_carried, []⟩
def d_told_ratio : De := ⟨.g "told_ratio", "told_ratio", "told_ratio", s_told_ratio, []⟩
def d_words_behind : De := ⟨.g "words_behind", "words_behind", "words_behind", s_words_behind, []⟩
def d_Reader_init : De := ⟨.m "Reader" "__init__", "__init__", "Reader.__init__", s_Reader_init, []⟩
def d_Reader_is_whole : De := ⟨.p "Reader" "is_whole", "is_whole", "Reader.is_whole", s_Reader_is_whole, []⟩
def d_Reader_takes_trim : De := ⟨.m "Reader" "takes_trim", "takes_trim", "Reader.takes_trim", s_Reader_takes_trim, []⟩
def d_Reader_takes_program : De := ⟨.m "Reader" "takes_program", "takes_program", "Reader.takes_program", s_Reader_takes_program, []⟩
def d_Reader_takes_from : De := ⟨.m "Reader" "takes_from", "takes_from", "Reader.takes_from", s_Reader_takes_from, []⟩
def d_Reader_takes_via : De := ⟨.m "Reader" "takes_via", "takes_via", "Reader.takes_via", s_Reader_takes_via, []⟩
def d_Reader_takes_back : De := ⟨.m "Reader" "takes_back", "takes_back", "Reader.takes_back", s_Reader_takes_back, []⟩
def d_Reader_takes : De := ⟨.m "Reader" "takes", "takes", "Reader.takes", s_Reader_takes, []⟩
def d_read_lines : De := ⟨.g "read_lines", "read_lines", "read_lines", s_read_lines, []⟩
def d_period_of : De := ⟨.g "period_of", "period_of", "period_of", s_period_of, []⟩
def d_Studio_init : De := ⟨.m "Studio" "__init__", "__init__", "Studio.__init__", s_Studio_init, []⟩
def d_Studio_programs : De := ⟨.p "Studio" "programs", "programs", "Studio.programs", s_Studio_programs, []⟩
def d_Studio_period : De := ⟨.p "Studio" "period", "period", "Studio.period", s_Studio_period, []⟩
def d_Studio_trim : De := ⟨.p "Studio" "trim", "trim", "Studio.trim", s_Studio_trim, []⟩
def d_is_pair : De := ⟨.g "is_pair", "is_pair", "is_pair", s_is_pair, []⟩
def d_Level_init : De := ⟨.m "Level" "__init__", "__init__", "Level.__init__", s_Level_init, []⟩
def d_Level_row : De := ⟨.m "Level" "row", "row", "Level.row", s_Level_row, []⟩
def d_Level_is_last : De := ⟨.m "Level" "is_last", "is_last", "Level.is_last", s_Level_is_last, []⟩
def d_Stairs_init : De := ⟨.m "Stairs" "__init__", "__init__", "Stairs.__init__", s_Stairs_init, []⟩
def d_Stairs_rise : De := ⟨.m "Stairs" "rise", "rise", "Stairs.rise", s_Stairs_rise, []⟩
def d_Stairs_raised : De := ⟨.m "Stairs" "raised", "raised", "Stairs.raised", s_Stairs_raised, []⟩
def d_Stairs_settle : De := ⟨.m "Stairs" "settle", "settle", "Stairs.settle", s_Stairs_settle, []⟩
def d_Stairs_row_of : De := ⟨.m "Stairs" "row_of", "row_of", "Stairs.row_of", s_Stairs_row_of, []⟩
def d_Stairs_least : De := ⟨.m "Stairs" "least", "least", "Stairs.least", s_Stairs_least, []⟩
def d_Stairs_last : De := ⟨.m "Stairs" "last", "last", "Stairs.last", s_Stairs_last, []⟩
def d_Stairs_soonest : De := ⟨.m "Stairs" "soonest", "soonest", "Stairs.soonest", s_Stairs_soonest, []⟩
def d_Stairs_broken : De := ⟨.m "Stairs" "broken", "broken", "Stairs.broken", s_Stairs_broken, []⟩
def d_Stairs_breaking : De := ⟨.m "Stairs" "breaking", "breaking", "Stairs.breaking", s_Stairs_breaking, []⟩
def d_Stairs_corners : De := ⟨.m "Stairs" "corners", "corners", "Stairs.corners", s_Stairs_corners, []⟩
def d_RoomLevel_init : De := ⟨.m "RoomLevel" "__init__", "__init__", "RoomLevel.__init__", s_RoomLevel_init, []⟩
def d_RoomLevel_least : De := ⟨.m "RoomLevel" "least", "least", "RoomLevel.least", s_RoomLevel_least, []⟩
def d_RoomLevel_row : De := ⟨.m "RoomLevel" "row", "row", "RoomLevel.row", s_RoomLevel_row, []⟩
def d_RoomLevel_is_last : De := ⟨.m "RoomLevel" "is_last", "is_last", "RoomLevel.is_last", s_RoomLevel_is_last, []⟩
def d_is_any : De := ⟨.g "is_any", "is_any", "is_any", s_is_any, []⟩
def d_steps_of : De := ⟨.g "steps_of", "steps_of", "steps_of", s_steps_of, []⟩
def d_level_of : De := ⟨.g "level_of", "level_of", "level_of", s_level_of, []⟩
def d_stairs_of : De := ⟨.g "stairs_of", "stairs_of", "stairs_of", s_stairs_of, []⟩
def d_is_ever : De := ⟨.g "is_ever", "is_ever", "is_ever", s_is_ever, []⟩
def d_does_last : De := ⟨.g "does_last", "does_last", "does_last", s_does_last, []⟩
def d_names_of : De := ⟨.g "names_of", "names_of", "names_of", s_names_of, []⟩
def d_room_broken : De := ⟨.g "room_broken", "room_broken", "room_broken", s_room_broken, []⟩
def d_breaking : De := ⟨.g "breaking", "breaking", "breaking", s_breaking, []⟩
def d_check_kind : De := ⟨.g "check_kind", "check_kind", "check_kind", s_check_kind, []⟩
def d_check_pair : De := ⟨.g "check_pair", "check_pair", "check_pair", s_check_pair, []⟩
def d_is_shelter : De := ⟨.g "is_shelter", "is_shelter", "is_shelter", s_is_shelter, []⟩
def d_check_shelter : De := ⟨.g "check_shelter", "check_shelter", "check_shelter", s_check_shelter, []⟩
def d_saved_by : De := ⟨.g "saved_by", "saved_by", "saved_by", s_saved_by, []⟩
def d_is_sound : De := ⟨.g "is_sound", "is_sound", "is_sound", s_is_sound, []⟩
def d_has_pair : De := ⟨.g "has_pair", "has_pair", "has_pair", s_has_pair, []⟩
def d_is_shut : De := ⟨.g "is_shut", "is_shut", "is_shut", s_is_shut, []⟩
def d_is_closed : De := ⟨.g "is_closed", "is_closed", "is_closed", s_is_closed, []⟩
def d_never_row : De := ⟨.g "never_row", "never_row", "never_row", s_never_row, []⟩
def d_lasts : De := ⟨.g "lasts", "lasts", "lasts", s_lasts, []⟩
def d_q_pot : De := ⟨.g "_law_pot", "_law_pot", "_law_pot", s_q_pot, []⟩
def d_q_take : De := ⟨.g "_law_take", "_law_take", "_law_take", s_q_take, []⟩
def d_q_of : De := ⟨.g "_law_of", "_law_of", "_law_of", s_q_of, []⟩
def d_q_some : De := ⟨.g "_law_some", "_law_some", "_law_some", s_q_some, []⟩
def d_q_cells : De := ⟨.g "_law_cells", "_law_cells", "_law_cells", s_q_cells, []⟩
def d_q_is_int : De := ⟨.g "_law_is_int", "_law_is_int", "_law_is_int", s_q_is_int, []⟩
def d_q_names : De := ⟨.g "_law_names", "_law_names", "_law_names", s_q_names, []⟩
def d_q_common : De := ⟨.g "_law_common", "_law_common", "_law_common", s_q_common, []⟩
def d_q_joint : De := ⟨.g "_law_joint", "_law_joint", "_law_joint", s_q_joint, []⟩
def d_q_least_terms : De := ⟨.g "_law_least_terms", "_law_least_terms", "_law_least_terms", s_q_least_terms, []⟩
def d_q_ratio_text : De := ⟨.g "_law_ratio_text", "_law_ratio_text", "_law_ratio_text", s_q_ratio_text, []⟩
def d_q_hows : De := ⟨.g "_law_hows", "_law_hows", "_law_hows", s_q_hows, []⟩
def d_q_vias : De := ⟨.g "_law_vias", "_law_vias", "_law_vias", s_q_vias, []⟩
def d_q_lore : De := ⟨.g "_law_lore", "_law_lore", "_law_lore", s_q_lore, []⟩
def d_q_text : De := ⟨.g "_law_text", "_law_text", "_law_text", s_q_text, []⟩
def d_q_period : De := ⟨.g "_law_period", "_law_period", "_law_period", s_q_period, []⟩
def d_q_round : De := ⟨.g "_law_round", "_law_round", "_law_round", s_q_round, []⟩
def d_q_carry : De := ⟨.g "_law_carry", "_law_carry", "_law_carry", s_q_carry, []⟩
def d_q_program : De := ⟨.g "_law_program", "_law_program", "_law_program", s_q_program, []⟩
def d_q_program_names : De := ⟨.g "_law_program_names", "_law_program_names", "_law_program_names", s_q_program_names, []⟩
def d_q_kind_sides : De := ⟨.g "_law_kind_sides", "_law_kind_sides", "_law_kind_sides", s_q_kind_sides, []⟩
def d_q_pair_saved : De := ⟨.g "_law_pair_saved", "_law_pair_saved", "_law_pair_saved", s_q_pair_saved, []⟩
def d_q_is_row : De := ⟨.g "_law_is_row", "_law_is_row", "_law_is_row", s_q_is_row, []⟩
def d_q_slipping : De := ⟨.g "_law_slipping", "_law_slipping", "_law_slipping", s_q_slipping, []⟩
def d_q_is_pair : De := ⟨.g "_law_is_pair", "_law_is_pair", "_law_is_pair", s_q_is_pair, []⟩
def d_q_own_stairs : De := ⟨.g "_law_own_stairs", "_law_own_stairs", "_law_own_stairs", s_q_own_stairs, []⟩
def d_q_least_there : De := ⟨.g "_law_least_there", "_law_least_there", "_law_least_there", s_q_least_there, []⟩
def d_q_can_stay : De := ⟨.g "_law_can_stay", "_law_can_stay", "_law_can_stay", s_q_can_stay, []⟩
def d_q_does_stay : De := ⟨.g "_law_does_stay", "_law_does_stay", "_law_does_stay", s_q_does_stay, []⟩
def d_q_in_shelter : De := ⟨.g "_law_in_shelter", "_law_in_shelter", "_law_in_shelter", s_q_in_shelter, []⟩
def d_q_is_shelter : De := ⟨.g "_law_is_shelter", "_law_is_shelter", "_law_is_shelter", s_q_is_shelter, []⟩
def d_q_is_cut_fine : De := ⟨.g "_law_is_cut_fine", "_law_is_cut_fine", "_law_is_cut_fine", s_q_is_cut_fine, []⟩
def d_q_do_rooms_last : De := ⟨.g "_law_do_rooms_last", "_law_do_rooms_last", "_law_do_rooms_last", s_q_do_rooms_last, []⟩
def d_q_is_broken : De := ⟨.g "_law_is_broken", "_law_is_broken", "_law_is_broken", s_q_is_broken, []⟩
def d_q_is_shut : De := ⟨.g "_law_is_shut", "_law_is_shut", "_law_is_shut", s_q_is_shut, []⟩
def d_q_is_told : De := ⟨.g "_law_is_told", "_law_is_told", "_law_is_told", s_q_is_told, []⟩
def d_q_is_judged : De := ⟨.g "_law_is_judged", "_law_is_judged", "_law_is_judged", s_q_is_judged, []⟩
def d_q_right : De := ⟨.g "_law_right", "_law_right", "_law_right", s_q_right, []⟩
def d_law : De := ⟨.g "law", "law", "law", s_law, []⟩
def defs0 : List De := [d_placed, d_Map_init, d_Map_at, d_Map_least, d_least_times, d_is_integer, d_is_tuple, d_is_said, d_is_word, d_number_in, d_integer_in, d_common, d_ratio_in, d_nearest, d_round_to, d_carried_home, d_Program_init, d_Program_begin, d_Program_steps, d_Program_hows]
def defs1 : List De := [d_Program_carried, d_told_ratio, d_words_behind, d_Reader_init, d_Reader_is_whole, d_Reader_takes_trim, d_Reader_takes_program, d_Reader_takes_from, d_Reader_takes_via, d_Reader_takes_back, d_Reader_takes, d_read_lines, d_period_of, d_Studio_init, d_Studio_programs, d_Studio_period, d_Studio_trim, d_is_pair, d_Level_init, d_Level_row]
def defs2 : List De := [d_Level_is_last, d_Stairs_init, d_Stairs_rise, d_Stairs_raised, d_Stairs_settle, d_Stairs_row_of, d_Stairs_least, d_Stairs_last, d_Stairs_soonest, d_Stairs_broken, d_Stairs_breaking, d_Stairs_corners, d_RoomLevel_init, d_RoomLevel_least, d_RoomLevel_row, d_RoomLevel_is_last, d_is_any, d_steps_of, d_level_of, d_stairs_of]
def defs3 : List De := [d_is_ever, d_does_last, d_names_of, d_room_broken, d_breaking, d_check_kind, d_check_pair, d_is_shelter, d_check_shelter, d_saved_by, d_is_sound, d_has_pair, d_is_shut, d_is_closed, d_never_row, d_lasts, d_q_pot, d_q_take, d_q_of, d_q_some]
def defs4 : List De := [d_q_cells, d_q_is_int, d_q_names, d_q_common, d_q_joint, d_q_least_terms, d_q_ratio_text, d_q_hows, d_q_vias, d_q_lore, d_q_text, d_q_period, d_q_round, d_q_carry, d_q_program, d_q_program_names, d_q_kind_sides, d_q_pair_saved, d_q_is_row, d_q_slipping]
def defs5 : List De := [d_q_is_pair, d_q_own_stairs, d_q_least_there, d_q_can_stay, d_q_does_stay, d_q_in_shelter, d_q_is_shelter, d_q_is_cut_fine, d_q_do_rooms_last, d_q_is_broken, d_q_is_shut, d_q_is_told, d_q_is_judged, d_q_right, d_law]
def defs : List De := defs0 ++ (defs1 ++ (defs2 ++ (defs3 ++ (defs4 ++ (defs5)))))
def facts0 : List Fb := [.fa (.glo "placed"), .fa (.glo "least_times"), .fa (.glo "is_integer"), .fa (.glo "is_tuple"), .fa (.glo "is_said"), .fa (.glo "is_word"), .fa (.glo "number_in"), .fa (.glo "integer_in"), .fa (.glo "common"), .fa (.glo "ratio_in"), .fa (.glo "nearest"), .fa (.glo "round_to")]
def facts1 : List Fb := [.fa (.glo "carried_home"), .fa (.glo "told_ratio"), .fa (.glo "words_behind"), .fa (.glo "read_lines"), .fa (.glo "period_of"), .fa (.glo "is_pair"), .fa (.glo "is_any"), .fa (.glo "steps_of"), .fa (.glo "level_of"), .fa (.glo "stairs_of"), .fa (.glo "is_ever"), .fa (.glo "does_last")]
def facts2 : List Fb := [.fa (.glo "names_of"), .fa (.glo "room_broken"), .fa (.glo "breaking"), .fa (.glo "check_kind"), .fa (.glo "check_pair"), .fa (.glo "is_shelter"), .fa (.glo "check_shelter"), .fa (.glo "saved_by"), .fa (.glo "is_sound"), .fa (.glo "has_pair"), .fa (.glo "is_shut"), .fa (.glo "is_closed")]
def facts3 : List Fb := [.fa (.glo "never_row"), .fa (.glo "lasts"), .fa (.glo "_law_pot"), .fa (.glo "_law_take"), .fa (.glo "_law_of"), .fa (.glo "_law_some"), .fa (.glo "_law_cells"), .fa (.glo "_law_is_int"), .fa (.glo "_law_names"), .fa (.glo "_law_common"), .fa (.glo "_law_joint"), .fa (.glo "_law_least_terms")]
def facts4 : List Fb := [.fa (.glo "_law_ratio_text"), .fa (.glo "_law_hows"), .fa (.glo "_law_vias"), .fa (.glo "_law_lore"), .fa (.glo "_law_text"), .fa (.glo "_law_period"), .fa (.glo "_law_round"), .fa (.glo "_law_carry"), .fa (.glo "_law_program"), .fa (.glo "_law_program_names"), .fa (.glo "_law_kind_sides"), .fa (.glo "_law_pair_saved")]
def facts5 : List Fb := [.fa (.glo "_law_is_row"), .fa (.glo "_law_slipping"), .fa (.glo "_law_is_pair"), .fa (.glo "_law_own_stairs"), .fa (.glo "_law_least_there"), .fa (.glo "_law_can_stay"), .fa (.glo "_law_does_stay"), .fa (.glo "_law_in_shelter"), .fa (.glo "_law_is_shelter"), .fa (.glo "_law_is_cut_fine"), .fa (.glo "_law_do_rooms_last"), .fa (.glo "_law_is_broken")]
def facts6 : List Fb := [.fa (.glo "_law_is_shut"), .fa (.glo "_law_is_told"), .fa (.glo "_law_is_judged"), .fa (.glo "_law_right"), .fa (.glo "law"), .fa (.glo "Map"), .fa (.mkr "Map"), .scl "Map", .slo "Map" "own_least" 0, .slo "Map" "own_period" 1, .slo "Map" "own_row" 2, .fa (.glo "Program")]
def facts7 : List Fb := [.fa (.mkr "Program"), .scl "Program", .slo "Program" "own_back" 0, .slo "Program" "own_begin" 1, .slo "Program" "own_name" 2, .slo "Program" "own_vias" 3, .fa (.glo "Reader"), .fa (.mkr "Reader"), .fa (.cls "Reader"), .fa (.noat "Reader" "own_trim"), .fa (.noat "Reader" "own_programs"), .fa (.glo "Studio")]
def facts8 : List Fb := [.fa (.mkr "Studio"), .scl "Studio", .slo "Studio" "own_kept" 0, .slo "Studio" "own_maps" 1, .slo "Studio" "own_period" 2, .slo "Studio" "own_programs" 3, .slo "Studio" "own_text" 4, .slo "Studio" "own_trim" 5, .fa (.glo "Level"), .fa (.mkr "Level"), .scl "Level", .slo "Level" "own_row" 0]
def facts9 : List Fb := [.fa (.glo "Stairs"), .fa (.mkr "Stairs"), .scl "Stairs", .slo "Stairs" "is_stable" 0, .slo "Stairs" "own_level" 1, .slo "Stairs" "own_period" 2, .slo "Stairs" "own_rows" 3, .slo "Stairs" "own_steps" 4, .fa (.glo "RoomLevel"), .fa (.mkr "RoomLevel"), .scl "RoomLevel", .slo "RoomLevel" "own_lengths" 0]
def facts10 : List Fb := [.slo "RoomLevel" "own_maps" 1, .slo "RoomLevel" "own_period" 2, .slo "RoomLevel" "own_trim" 3, .fa (.meth "Map" "at"), .fa (.meth "Map" "least"), .prp "Program" "begin", .prp "Program" "steps", .fa (.meth "Program" "hows"), .fa (.meth "Program" "carried"), .prp "Reader" "is_whole", .fa (.meth "Reader" "takes_trim"), .fa (.meth "Reader" "takes_program")]
def facts11 : List Fb := [.fa (.meth "Reader" "takes_from"), .fa (.meth "Reader" "takes_via"), .fa (.meth "Reader" "takes_back"), .fa (.meth "Reader" "takes"), .prp "Studio" "programs", .prp "Studio" "period", .prp "Studio" "trim", .fa (.meth "Level" "row"), .fa (.meth "Level" "is_last"), .fa (.meth "Stairs" "rise"), .fa (.meth "Stairs" "raised"), .fa (.meth "Stairs" "settle")]
def facts12 : List Fb := [.fa (.meth "Stairs" "row_of"), .fa (.meth "Stairs" "least"), .fa (.meth "Stairs" "last"), .fa (.meth "Stairs" "soonest"), .fa (.meth "Stairs" "broken"), .fa (.meth "Stairs" "breaking"), .fa (.meth "Stairs" "corners"), .fa (.meth "RoomLevel" "least"), .fa (.meth "RoomLevel" "row"), .fa (.meth "RoomLevel" "is_last"), .fa (.str "FEED" "\n"), .fa (.str "BLANK" " ")]
def facts13 : List Fb := [.fa (.str "SMALL" "abcdefghijklmnopqrstuvwxyz"), .fa (.str "FIGURES" "0123456789"), .fa (.int "MOST_LETTERS" 8), .fa (.str "DOWN" "down"), .fa (.str "UP" "up"), .fa (.str "NEAR" "near"), .fa (.str "LOW" "low"), .fa (.glo "HOWS"), .tup "HOWS" [.str "down", .str "low", .str "near", .str "up"], .fa (.int "PAIR_rounding" 2), .fa (.str "SLASH" "/"), .fa (.str "START" "start")]
def facts14 : List Fb := [.fa (.str "END" "end"), .fa (.glo "SIDES"), .tup "SIDES" [.str "start", .str "end"], .fa (.str "TRIM" "trim"), .fa (.str "PROGRAM" "program"), .fa (.str "FROM" "  from"), .fa (.str "VIA" "  via"), .fa (.str "BACK" "  back"), .fa (.str "INDENT" "  "), .fa (.int "MOST_TRIM" 999), .fa (.int "MOST_PROGRAMS" 4), .fa (.int "MOST_VIAS" 3)]
def facts15 : List Fb := [.fa (.int "MOST_FIGURES" 9999), .fa (.int "MOST_PERIOD" 1200), .fa (.int "PAIR_studios" 2), .fa (.int "TRIPLE" 3), .fa (.int "PAIR_films" 2), .fa (.str "LENGTH" "length"), .fa (.str "GAP" "gap"), .fa (.str "ROOM" "room"), .fa (.glo "KINDS"), .tup "KINDS" [.str "length", .str "gap", .str "room"], .fa (.int "FAR" 1000000000000), .fa (.str "LASTS" "lasts")]
def facts16 : List Fb := [.fa (.str "BREAKS" "breaks"), .fa (.str "NEVER" "never"), .fa (.str "ANY" "any"), .fa (.free "abs"), .fa (.free "all"), .fa (.free "bool"), .fa (.free "enumerate"), .fa (.free "int"), .fa (.free "isinstance"), .fa (.free "len"), .fa (.free "list"), .fa (.free "max")]
def facts17 : List Fb := [.fa (.free "min"), .fa (.free "range"), .fa (.free "repr"), .fa (.free "str"), .fa (.free "tuple"), .fa (.free "zip"), .tupd "SIDES"]
def facts : List Fb := facts0 ++ (facts1 ++ (facts2 ++ (facts3 ++ (facts4 ++ (facts5 ++ (facts6 ++ (facts7 ++ (facts8 ++ (facts9 ++ (facts10 ++ (facts11 ++ (facts12 ++ (facts13 ++ (facts14 ++ (facts15 ++ (facts16 ++ (facts17)))))))))))))))))
abbrev AlZ : Type := Bool × List SeeT
def obsZ (K : PySem.W.Frag) : AlZ := ((facts.all fun f => f.ok K) && (defs.all fun d => d.fit K), defs.map fun d => see K (d.at_.ad K))
def valZ : AlZ := (true, defs.map De.due)
/-- what the walk leans on: the written part, the module's names -/
structure Zed (K : PySem.W.Frag) (mg : Str → Option Value) (base : Heap) : Prop where
  kin : K.In base
  ns : base.Ns mainGlobals mg
  says : obsZ K = valZ
section
variable {P : Program} {w : World} {K : PySem.W.Frag} {mg : Str → Option Value} {base : Heap}
theorem Zed.fact (Z : Zed K mg base) (i : Nat) {f : Fb} (h : facts[i]? = some f := by rfl) : f.ok K = true :=
  List.all_eq_true.mp (Bool.and_eq_true_iff.mp (show ((facts.all fun f => f.ok K) && (defs.all fun d => d.fit K)) = true from congrArg (fun z : AlZ => z.1) Z.says)).1 f (List.mem_of_getElem? h)
theorem Zed.def_ (Z : Zed K mg base) (i : Nat) {d : De} (h : defs[i]? = some d := by rfl) : ∃ fd, FunD K d.nm d.ql (defArgs d.st) (defBody d.st) (defScope d.st) d.df [] (d.at_.ad K) fd := by
  have c2 := (Bool.and_eq_true_iff.mp (show ((facts.all fun f => f.ok K) && (defs.all fun d => d.fit K)) = true from congrArg (fun z : AlZ => z.1) Z.says)).2
  have e : defs.map (fun d => see K (d.at_.ad K)) = defs.map De.due := congrArg (fun z : AlZ => z.2) Z.says
  have e2 : (defs.map fun d => see K (d.at_.ad K))[i]? = (defs.map De.due)[i]? := by rw [e]
  rw [List.getElem?_map, List.getElem?_map, h] at e2
  exact De.fun_ (Option.some.inj e2) (List.all_eq_true.mp c2 d (List.mem_of_getElem? h))
abbrev C_Map (K : PySem.W.Frag) : Addr := He.ga K "Map"
abbrev C_Program (K : PySem.W.Frag) : Addr := He.ga K "Program"
abbrev C_Reader (K : PySem.W.Frag) : Addr := He.ga K "Reader"
abbrev C_Studio (K : PySem.W.Frag) : Addr := He.ga K "Studio"
abbrev C_Level (K : PySem.W.Frag) : Addr := He.ga K "Level"
abbrev C_Stairs (K : PySem.W.Frag) : Addr := He.ga K "Stairs"
abbrev C_RoomLevel (K : PySem.W.Frag) : Addr := He.ga K "RoomLevel"
abbrev a_placed (K : PySem.W.Frag) : Addr := At.ad K (.g "placed")
theorem u_placed (Z : Zed K mg base) : ∃ fd, FunD K "placed" "placed" (defArgs s_placed) (defBody s_placed) (defScope s_placed) [] [] (a_placed K) fd := Z.def_ 0 (d := d_placed)
abbrev a_Map_init (K : PySem.W.Frag) : Addr := At.ad K (.m "Map" "__init__")
theorem u_Map_init (Z : Zed K mg base) : ∃ fd, FunD K "__init__" "Map.__init__" (defArgs s_Map_init) (defBody s_Map_init) (defScope s_Map_init) [] [] (a_Map_init K) fd := Z.def_ 1 (d := d_Map_init)
abbrev a_Map_at (K : PySem.W.Frag) : Addr := At.ad K (.m "Map" "at")
theorem u_Map_at (Z : Zed K mg base) : ∃ fd, FunD K "at" "Map.at" (defArgs s_Map_at) (defBody s_Map_at) (defScope s_Map_at) [] [] (a_Map_at K) fd := Z.def_ 2 (d := d_Map_at)
abbrev a_Map_least (K : PySem.W.Frag) : Addr := At.ad K (.m "Map" "least")
theorem u_Map_least (Z : Zed K mg base) : ∃ fd, FunD K "least" "Map.least" (defArgs s_Map_least) (defBody s_Map_least) (defScope s_Map_least) [] [] (a_Map_least K) fd := Z.def_ 3 (d := d_Map_least)
abbrev a_least_times (K : PySem.W.Frag) : Addr := At.ad K (.g "least_times")
theorem u_least_times (Z : Zed K mg base) : ∃ fd, FunD K "least_times" "least_times" (defArgs s_least_times) (defBody s_least_times) (defScope s_least_times) [] [] (a_least_times K) fd := Z.def_ 4 (d := d_least_times)
abbrev a_is_integer (K : PySem.W.Frag) : Addr := At.ad K (.g "is_integer")
theorem u_is_integer (Z : Zed K mg base) : ∃ fd, FunD K "is_integer" "is_integer" (defArgs s_is_integer) (defBody s_is_integer) (defScope s_is_integer) [.non, .non] [] (a_is_integer K) fd := Z.def_ 5 (d := d_is_integer)
abbrev a_is_tuple (K : PySem.W.Frag) : Addr := At.ad K (.g "is_tuple")
theorem u_is_tuple (Z : Zed K mg base) : ∃ fd, FunD K "is_tuple" "is_tuple" (defArgs s_is_tuple) (defBody s_is_tuple) (defScope s_is_tuple) [] [] (a_is_tuple K) fd := Z.def_ 6 (d := d_is_tuple)
abbrev a_is_said (K : PySem.W.Frag) : Addr := At.ad K (.g "is_said")
theorem u_is_said (Z : Zed K mg base) : ∃ fd, FunD K "is_said" "is_said" (defArgs s_is_said) (defBody s_is_said) (defScope s_is_said) [] [] (a_is_said K) fd := Z.def_ 7 (d := d_is_said)
abbrev a_is_word (K : PySem.W.Frag) : Addr := At.ad K (.g "is_word")
theorem u_is_word (Z : Zed K mg base) : ∃ fd, FunD K "is_word" "is_word" (defArgs s_is_word) (defBody s_is_word) (defScope s_is_word) [] [] (a_is_word K) fd := Z.def_ 8 (d := d_is_word)
abbrev a_number_in (K : PySem.W.Frag) : Addr := At.ad K (.g "number_in")
theorem u_number_in (Z : Zed K mg base) : ∃ fd, FunD K "number_in" "number_in" (defArgs s_number_in) (defBody s_number_in) (defScope s_number_in) [] [] (a_number_in K) fd := Z.def_ 9 (d := d_number_in)
abbrev a_integer_in (K : PySem.W.Frag) : Addr := At.ad K (.g "integer_in")
theorem u_integer_in (Z : Zed K mg base) : ∃ fd, FunD K "integer_in" "integer_in" (defArgs s_integer_in) (defBody s_integer_in) (defScope s_integer_in) [] [] (a_integer_in K) fd := Z.def_ 10 (d := d_integer_in)
abbrev a_common (K : PySem.W.Frag) : Addr := At.ad K (.g "common")
theorem u_common (Z : Zed K mg base) : ∃ fd, FunD K "common" "common" (defArgs s_common) (defBody s_common) (defScope s_common) [] [] (a_common K) fd := Z.def_ 11 (d := d_common)
abbrev a_ratio_in (K : PySem.W.Frag) : Addr := At.ad K (.g "ratio_in")
theorem u_ratio_in (Z : Zed K mg base) : ∃ fd, FunD K "ratio_in" "ratio_in" (defArgs s_ratio_in) (defBody s_ratio_in) (defScope s_ratio_in) [] [] (a_ratio_in K) fd := Z.def_ 12 (d := d_ratio_in)
abbrev a_nearest (K : PySem.W.Frag) : Addr := At.ad K (.g "nearest")
theorem u_nearest (Z : Zed K mg base) : ∃ fd, FunD K "nearest" "nearest" (defArgs s_nearest) (defBody s_nearest) (defScope s_nearest) [] [] (a_nearest K) fd := Z.def_ 13 (d := d_nearest)
abbrev a_round_to (K : PySem.W.Frag) : Addr := At.ad K (.g "round_to")
theorem u_round_to (Z : Zed K mg base) : ∃ fd, FunD K "round_to" "round_to" (defArgs s_round_to) (defBody s_round_to) (defScope s_round_to) [] [] (a_round_to K) fd := Z.def_ 14 (d := d_round_to)
abbrev a_carried_home (K : PySem.W.Frag) : Addr := At.ad K (.g "carried_home")
theorem u_carried_home (Z : Zed K mg base) : ∃ fd, FunD K "carried_home" "carried_home" (defArgs s_carried_home) (defBody s_carried_home) (defScope s_carried_home) [] [] (a_carried_home K) fd := Z.def_ 15 (d := d_carried_home)
abbrev a_Program_init (K : PySem.W.Frag) : Addr := At.ad K (.m "Program" "__init__")
theorem u_Program_init (Z : Zed K mg base) : ∃ fd, FunD K "__init__" "Program.__init__" (defArgs s_Program_init) (defBody s_Program_init) (defScope s_Program_init) [] [] (a_Program_init K) fd := Z.def_ 16 (d := d_Program_init)
abbrev a_Program_begin (K : PySem.W.Frag) : Addr := At.ad K (.p "Program" "begin")
theorem u_Program_begin (Z : Zed K mg base) : ∃ fd, FunD K "begin" "Program.begin" (defArgs s_Program_begin) (defBody s_Program_begin) (defScope s_Program_begin) [] [] (a_Program_begin K) fd := Z.def_ 17 (d := d_Program_begin)
abbrev a_Program_steps (K : PySem.W.Frag) : Addr := At.ad K (.p "Program" "steps")
theorem u_Program_steps (Z : Zed K mg base) : ∃ fd, FunD K "steps" "Program.steps" (defArgs s_Program_steps) (defBody s_Program_steps) (defScope s_Program_steps) [] [] (a_Program_steps K) fd := Z.def_ 18 (d := d_Program_steps)
abbrev a_Program_hows (K : PySem.W.Frag) : Addr := At.ad K (.m "Program" "hows")
theorem u_Program_hows (Z : Zed K mg base) : ∃ fd, FunD K "hows" "Program.hows" (defArgs s_Program_hows) (defBody s_Program_hows) (defScope s_Program_hows) [] [] (a_Program_hows K) fd := Z.def_ 19 (d := d_Program_hows)
abbrev a_Program_carried (K : PySem.W.Frag) : Addr := At.ad K (.m "Program" "carried")
theorem u_Program_carried (Z : Zed K mg base) : ∃ fd, FunD K "carried" "Program.carried" (defArgs s_Program_carried) (defBody s_Program_carried) (defScope s_Program_carried) [] [] (a_Program_carried K) fd := Z.def_ 20 (d := d_Program_carried)
abbrev a_told_ratio (K : PySem.W.Frag) : Addr := At.ad K (.g "told_ratio")
theorem u_told_ratio (Z : Zed K mg base) : ∃ fd, FunD K "told_ratio" "told_ratio" (defArgs s_told_ratio) (defBody s_told_ratio) (defScope s_told_ratio) [] [] (a_told_ratio K) fd := Z.def_ 21 (d := d_told_ratio)
abbrev a_words_behind (K : PySem.W.Frag) : Addr := At.ad K (.g "words_behind")
theorem u_words_behind (Z : Zed K mg base) : ∃ fd, FunD K "words_behind" "words_behind" (defArgs s_words_behind) (defBody s_words_behind) (defScope s_words_behind) [] [] (a_words_behind K) fd := Z.def_ 22 (d := d_words_behind)
abbrev a_Reader_init (K : PySem.W.Frag) : Addr := At.ad K (.m "Reader" "__init__")
theorem u_Reader_init (Z : Zed K mg base) : ∃ fd, FunD K "__init__" "Reader.__init__" (defArgs s_Reader_init) (defBody s_Reader_init) (defScope s_Reader_init) [] [] (a_Reader_init K) fd := Z.def_ 23 (d := d_Reader_init)
abbrev a_Reader_is_whole (K : PySem.W.Frag) : Addr := At.ad K (.p "Reader" "is_whole")
theorem u_Reader_is_whole (Z : Zed K mg base) : ∃ fd, FunD K "is_whole" "Reader.is_whole" (defArgs s_Reader_is_whole) (defBody s_Reader_is_whole) (defScope s_Reader_is_whole) [] [] (a_Reader_is_whole K) fd := Z.def_ 24 (d := d_Reader_is_whole)
abbrev a_Reader_takes_trim (K : PySem.W.Frag) : Addr := At.ad K (.m "Reader" "takes_trim")
theorem u_Reader_takes_trim (Z : Zed K mg base) : ∃ fd, FunD K "takes_trim" "Reader.takes_trim" (defArgs s_Reader_takes_trim) (defBody s_Reader_takes_trim) (defScope s_Reader_takes_trim) [] [] (a_Reader_takes_trim K) fd := Z.def_ 25 (d := d_Reader_takes_trim)
abbrev a_Reader_takes_program (K : PySem.W.Frag) : Addr := At.ad K (.m "Reader" "takes_program")
theorem u_Reader_takes_program (Z : Zed K mg base) : ∃ fd, FunD K "takes_program" "Reader.takes_program" (defArgs s_Reader_takes_program) (defBody s_Reader_takes_program) (defScope s_Reader_takes_program) [] [] (a_Reader_takes_program K) fd := Z.def_ 26 (d := d_Reader_takes_program)
abbrev a_Reader_takes_from (K : PySem.W.Frag) : Addr := At.ad K (.m "Reader" "takes_from")
theorem u_Reader_takes_from (Z : Zed K mg base) : ∃ fd, FunD K "takes_from" "Reader.takes_from" (defArgs s_Reader_takes_from) (defBody s_Reader_takes_from) (defScope s_Reader_takes_from) [] [] (a_Reader_takes_from K) fd := Z.def_ 27 (d := d_Reader_takes_from)
abbrev a_Reader_takes_via (K : PySem.W.Frag) : Addr := At.ad K (.m "Reader" "takes_via")
theorem u_Reader_takes_via (Z : Zed K mg base) : ∃ fd, FunD K "takes_via" "Reader.takes_via" (defArgs s_Reader_takes_via) (defBody s_Reader_takes_via) (defScope s_Reader_takes_via) [] [] (a_Reader_takes_via K) fd := Z.def_ 28 (d := d_Reader_takes_via)
abbrev a_Reader_takes_back (K : PySem.W.Frag) : Addr := At.ad K (.m "Reader" "takes_back")
theorem u_Reader_takes_back (Z : Zed K mg base) : ∃ fd, FunD K "takes_back" "Reader.takes_back" (defArgs s_Reader_takes_back) (defBody s_Reader_takes_back) (defScope s_Reader_takes_back) [] [] (a_Reader_takes_back K) fd := Z.def_ 29 (d := d_Reader_takes_back)
abbrev a_Reader_takes (K : PySem.W.Frag) : Addr := At.ad K (.m "Reader" "takes")
theorem u_Reader_takes (Z : Zed K mg base) : ∃ fd, FunD K "takes" "Reader.takes" (defArgs s_Reader_takes) (defBody s_Reader_takes) (defScope s_Reader_takes) [] [] (a_Reader_takes K) fd := Z.def_ 30 (d := d_Reader_takes)
abbrev a_read_lines (K : PySem.W.Frag) : Addr := At.ad K (.g "read_lines")
theorem u_read_lines (Z : Zed K mg base) : ∃ fd, FunD K "read_lines" "read_lines" (defArgs s_read_lines) (defBody s_read_lines) (defScope s_read_lines) [] [] (a_read_lines K) fd := Z.def_ 31 (d := d_read_lines)
abbrev a_period_of (K : PySem.W.Frag) : Addr := At.ad K (.g "period_of")
theorem u_period_of (Z : Zed K mg base) : ∃ fd, FunD K "period_of" "period_of" (defArgs s_period_of) (defBody s_period_of) (defScope s_period_of) [] [] (a_period_of K) fd := Z.def_ 32 (d := d_period_of)
abbrev a_Studio_init (K : PySem.W.Frag) : Addr := At.ad K (.m "Studio" "__init__")
theorem u_Studio_init (Z : Zed K mg base) : ∃ fd, FunD K "__init__" "Studio.__init__" (defArgs s_Studio_init) (defBody s_Studio_init) (defScope s_Studio_init) [] [] (a_Studio_init K) fd := Z.def_ 33 (d := d_Studio_init)
abbrev a_Studio_programs (K : PySem.W.Frag) : Addr := At.ad K (.p "Studio" "programs")
theorem u_Studio_programs (Z : Zed K mg base) : ∃ fd, FunD K "programs" "Studio.programs" (defArgs s_Studio_programs) (defBody s_Studio_programs) (defScope s_Studio_programs) [] [] (a_Studio_programs K) fd := Z.def_ 34 (d := d_Studio_programs)
abbrev a_Studio_period (K : PySem.W.Frag) : Addr := At.ad K (.p "Studio" "period")
theorem u_Studio_period (Z : Zed K mg base) : ∃ fd, FunD K "period" "Studio.period" (defArgs s_Studio_period) (defBody s_Studio_period) (defScope s_Studio_period) [] [] (a_Studio_period K) fd := Z.def_ 35 (d := d_Studio_period)
abbrev a_Studio_trim (K : PySem.W.Frag) : Addr := At.ad K (.p "Studio" "trim")
theorem u_Studio_trim (Z : Zed K mg base) : ∃ fd, FunD K "trim" "Studio.trim" (defArgs s_Studio_trim) (defBody s_Studio_trim) (defScope s_Studio_trim) [] [] (a_Studio_trim K) fd := Z.def_ 36 (d := d_Studio_trim)
abbrev a_is_pair (K : PySem.W.Frag) : Addr := At.ad K (.g "is_pair")
theorem u_is_pair (Z : Zed K mg base) : ∃ fd, FunD K "is_pair" "is_pair" (defArgs s_is_pair) (defBody s_is_pair) (defScope s_is_pair) [] [] (a_is_pair K) fd := Z.def_ 37 (d := d_is_pair)
abbrev a_Level_init (K : PySem.W.Frag) : Addr := At.ad K (.m "Level" "__init__")
theorem u_Level_init (Z : Zed K mg base) : ∃ fd, FunD K "__init__" "Level.__init__" (defArgs s_Level_init) (defBody s_Level_init) (defScope s_Level_init) [] [] (a_Level_init K) fd := Z.def_ 38 (d := d_Level_init)
abbrev a_Level_row (K : PySem.W.Frag) : Addr := At.ad K (.m "Level" "row")
theorem u_Level_row (Z : Zed K mg base) : ∃ fd, FunD K "row" "Level.row" (defArgs s_Level_row) (defBody s_Level_row) (defScope s_Level_row) [] [] (a_Level_row K) fd := Z.def_ 39 (d := d_Level_row)
abbrev a_Level_is_last (K : PySem.W.Frag) : Addr := At.ad K (.m "Level" "is_last")
theorem u_Level_is_last (Z : Zed K mg base) : ∃ fd, FunD K "is_last" "Level.is_last" (defArgs s_Level_is_last) (defBody s_Level_is_last) (defScope s_Level_is_last) [] [] (a_Level_is_last K) fd := Z.def_ 40 (d := d_Level_is_last)
abbrev a_Stairs_init (K : PySem.W.Frag) : Addr := At.ad K (.m "Stairs" "__init__")
theorem u_Stairs_init (Z : Zed K mg base) : ∃ fd, FunD K "__init__" "Stairs.__init__" (defArgs s_Stairs_init) (defBody s_Stairs_init) (defScope s_Stairs_init) [] [] (a_Stairs_init K) fd := Z.def_ 41 (d := d_Stairs_init)
abbrev a_Stairs_rise (K : PySem.W.Frag) : Addr := At.ad K (.m "Stairs" "rise")
theorem u_Stairs_rise (Z : Zed K mg base) : ∃ fd, FunD K "rise" "Stairs.rise" (defArgs s_Stairs_rise) (defBody s_Stairs_rise) (defScope s_Stairs_rise) [] [] (a_Stairs_rise K) fd := Z.def_ 42 (d := d_Stairs_rise)
abbrev a_Stairs_raised (K : PySem.W.Frag) : Addr := At.ad K (.m "Stairs" "raised")
theorem u_Stairs_raised (Z : Zed K mg base) : ∃ fd, FunD K "raised" "Stairs.raised" (defArgs s_Stairs_raised) (defBody s_Stairs_raised) (defScope s_Stairs_raised) [] [] (a_Stairs_raised K) fd := Z.def_ 43 (d := d_Stairs_raised)
abbrev a_Stairs_settle (K : PySem.W.Frag) : Addr := At.ad K (.m "Stairs" "settle")
theorem u_Stairs_settle (Z : Zed K mg base) : ∃ fd, FunD K "settle" "Stairs.settle" (defArgs s_Stairs_settle) (defBody s_Stairs_settle) (defScope s_Stairs_settle) [] [] (a_Stairs_settle K) fd := Z.def_ 44 (d := d_Stairs_settle)
abbrev a_Stairs_row_of (K : PySem.W.Frag) : Addr := At.ad K (.m "Stairs" "row_of")
theorem u_Stairs_row_of (Z : Zed K mg base) : ∃ fd, FunD K "row_of" "Stairs.row_of" (defArgs s_Stairs_row_of) (defBody s_Stairs_row_of) (defScope s_Stairs_row_of) [] [] (a_Stairs_row_of K) fd := Z.def_ 45 (d := d_Stairs_row_of)
abbrev a_Stairs_least (K : PySem.W.Frag) : Addr := At.ad K (.m "Stairs" "least")
theorem u_Stairs_least (Z : Zed K mg base) : ∃ fd, FunD K "least" "Stairs.least" (defArgs s_Stairs_least) (defBody s_Stairs_least) (defScope s_Stairs_least) [] [] (a_Stairs_least K) fd := Z.def_ 46 (d := d_Stairs_least)
abbrev a_Stairs_last (K : PySem.W.Frag) : Addr := At.ad K (.m "Stairs" "last")
theorem u_Stairs_last (Z : Zed K mg base) : ∃ fd, FunD K "last" "Stairs.last" (defArgs s_Stairs_last) (defBody s_Stairs_last) (defScope s_Stairs_last) [] [] (a_Stairs_last K) fd := Z.def_ 47 (d := d_Stairs_last)
abbrev a_Stairs_soonest (K : PySem.W.Frag) : Addr := At.ad K (.m "Stairs" "soonest")
theorem u_Stairs_soonest (Z : Zed K mg base) : ∃ fd, FunD K "soonest" "Stairs.soonest" (defArgs s_Stairs_soonest) (defBody s_Stairs_soonest) (defScope s_Stairs_soonest) [] [] (a_Stairs_soonest K) fd := Z.def_ 48 (d := d_Stairs_soonest)
abbrev a_Stairs_broken (K : PySem.W.Frag) : Addr := At.ad K (.m "Stairs" "broken")
theorem u_Stairs_broken (Z : Zed K mg base) : ∃ fd, FunD K "broken" "Stairs.broken" (defArgs s_Stairs_broken) (defBody s_Stairs_broken) (defScope s_Stairs_broken) [] [] (a_Stairs_broken K) fd := Z.def_ 49 (d := d_Stairs_broken)
abbrev a_Stairs_breaking (K : PySem.W.Frag) : Addr := At.ad K (.m "Stairs" "breaking")
theorem u_Stairs_breaking (Z : Zed K mg base) : ∃ fd, FunD K "breaking" "Stairs.breaking" (defArgs s_Stairs_breaking) (defBody s_Stairs_breaking) (defScope s_Stairs_breaking) [] [] (a_Stairs_breaking K) fd := Z.def_ 50 (d := d_Stairs_breaking)
abbrev a_Stairs_corners (K : PySem.W.Frag) : Addr := At.ad K (.m "Stairs" "corners")
theorem u_Stairs_corners (Z : Zed K mg base) : ∃ fd, FunD K "corners" "Stairs.corners" (defArgs s_Stairs_corners) (defBody s_Stairs_corners) (defScope s_Stairs_corners) [] [] (a_Stairs_corners K) fd := Z.def_ 51 (d := d_Stairs_corners)
abbrev a_RoomLevel_init (K : PySem.W.Frag) : Addr := At.ad K (.m "RoomLevel" "__init__")
theorem u_RoomLevel_init (Z : Zed K mg base) : ∃ fd, FunD K "__init__" "RoomLevel.__init__" (defArgs s_RoomLevel_init) (defBody s_RoomLevel_init) (defScope s_RoomLevel_init) [] [] (a_RoomLevel_init K) fd := Z.def_ 52 (d := d_RoomLevel_init)
abbrev a_RoomLevel_least (K : PySem.W.Frag) : Addr := At.ad K (.m "RoomLevel" "least")
theorem u_RoomLevel_least (Z : Zed K mg base) : ∃ fd, FunD K "least" "RoomLevel.least" (defArgs s_RoomLevel_least) (defBody s_RoomLevel_least) (defScope s_RoomLevel_least) [] [] (a_RoomLevel_least K) fd := Z.def_ 53 (d := d_RoomLevel_least)
abbrev a_RoomLevel_row (K : PySem.W.Frag) : Addr := At.ad K (.m "RoomLevel" "row")
theorem u_RoomLevel_row (Z : Zed K mg base) : ∃ fd, FunD K "row" "RoomLevel.row" (defArgs s_RoomLevel_row) (defBody s_RoomLevel_row) (defScope s_RoomLevel_row) [] [] (a_RoomLevel_row K) fd := Z.def_ 54 (d := d_RoomLevel_row)
abbrev a_RoomLevel_is_last (K : PySem.W.Frag) : Addr := At.ad K (.m "RoomLevel" "is_last")
theorem u_RoomLevel_is_last (Z : Zed K mg base) : ∃ fd, FunD K "is_last" "RoomLevel.is_last" (defArgs s_RoomLevel_is_last) (defBody s_RoomLevel_is_last) (defScope s_RoomLevel_is_last) [] [] (a_RoomLevel_is_last K) fd := Z.def_ 55 (d := d_RoomLevel_is_last)
abbrev a_is_any (K : PySem.W.Frag) : Addr := At.ad K (.g "is_any")
theorem u_is_any (Z : Zed K mg base) : ∃ fd, FunD K "is_any" "is_any" (defArgs s_is_any) (defBody s_is_any) (defScope s_is_any) [] [] (a_is_any K) fd := Z.def_ 56 (d := d_is_any)
abbrev a_steps_of (K : PySem.W.Frag) : Addr := At.ad K (.g "steps_of")
theorem u_steps_of (Z : Zed K mg base) : ∃ fd, FunD K "steps_of" "steps_of" (defArgs s_steps_of) (defBody s_steps_of) (defScope s_steps_of) [] [] (a_steps_of K) fd := Z.def_ 57 (d := d_steps_of)
abbrev a_level_of (K : PySem.W.Frag) : Addr := At.ad K (.g "level_of")
theorem u_level_of (Z : Zed K mg base) : ∃ fd, FunD K "level_of" "level_of" (defArgs s_level_of) (defBody s_level_of) (defScope s_level_of) [] [] (a_level_of K) fd := Z.def_ 58 (d := d_level_of)
abbrev a_stairs_of (K : PySem.W.Frag) : Addr := At.ad K (.g "stairs_of")
theorem u_stairs_of (Z : Zed K mg base) : ∃ fd, FunD K "stairs_of" "stairs_of" (defArgs s_stairs_of) (defBody s_stairs_of) (defScope s_stairs_of) [] [] (a_stairs_of K) fd := Z.def_ 59 (d := d_stairs_of)
abbrev a_is_ever (K : PySem.W.Frag) : Addr := At.ad K (.g "is_ever")
theorem u_is_ever (Z : Zed K mg base) : ∃ fd, FunD K "is_ever" "is_ever" (defArgs s_is_ever) (defBody s_is_ever) (defScope s_is_ever) [] [] (a_is_ever K) fd := Z.def_ 60 (d := d_is_ever)
abbrev a_does_last (K : PySem.W.Frag) : Addr := At.ad K (.g "does_last")
theorem u_does_last (Z : Zed K mg base) : ∃ fd, FunD K "does_last" "does_last" (defArgs s_does_last) (defBody s_does_last) (defScope s_does_last) [] [] (a_does_last K) fd := Z.def_ 61 (d := d_does_last)
abbrev a_names_of (K : PySem.W.Frag) : Addr := At.ad K (.g "names_of")
theorem u_names_of (Z : Zed K mg base) : ∃ fd, FunD K "names_of" "names_of" (defArgs s_names_of) (defBody s_names_of) (defScope s_names_of) [] [] (a_names_of K) fd := Z.def_ 62 (d := d_names_of)
abbrev a_room_broken (K : PySem.W.Frag) : Addr := At.ad K (.g "room_broken")
theorem u_room_broken (Z : Zed K mg base) : ∃ fd, FunD K "room_broken" "room_broken" (defArgs s_room_broken) (defBody s_room_broken) (defScope s_room_broken) [] [] (a_room_broken K) fd := Z.def_ 63 (d := d_room_broken)
abbrev a_breaking (K : PySem.W.Frag) : Addr := At.ad K (.g "breaking")
theorem u_breaking (Z : Zed K mg base) : ∃ fd, FunD K "breaking" "breaking" (defArgs s_breaking) (defBody s_breaking) (defScope s_breaking) [] [] (a_breaking K) fd := Z.def_ 64 (d := d_breaking)
abbrev a_check_kind (K : PySem.W.Frag) : Addr := At.ad K (.g "check_kind")
theorem u_check_kind (Z : Zed K mg base) : ∃ fd, FunD K "check_kind" "check_kind" (defArgs s_check_kind) (defBody s_check_kind) (defScope s_check_kind) [] [] (a_check_kind K) fd := Z.def_ 65 (d := d_check_kind)
abbrev a_check_pair (K : PySem.W.Frag) : Addr := At.ad K (.g "check_pair")
theorem u_check_pair (Z : Zed K mg base) : ∃ fd, FunD K "check_pair" "check_pair" (defArgs s_check_pair) (defBody s_check_pair) (defScope s_check_pair) [] [] (a_check_pair K) fd := Z.def_ 66 (d := d_check_pair)
abbrev a_is_shelter (K : PySem.W.Frag) : Addr := At.ad K (.g "is_shelter")
theorem u_is_shelter (Z : Zed K mg base) : ∃ fd, FunD K "is_shelter" "is_shelter" (defArgs s_is_shelter) (defBody s_is_shelter) (defScope s_is_shelter) [] [] (a_is_shelter K) fd := Z.def_ 67 (d := d_is_shelter)
abbrev a_check_shelter (K : PySem.W.Frag) : Addr := At.ad K (.g "check_shelter")
theorem u_check_shelter (Z : Zed K mg base) : ∃ fd, FunD K "check_shelter" "check_shelter" (defArgs s_check_shelter) (defBody s_check_shelter) (defScope s_check_shelter) [] [] (a_check_shelter K) fd := Z.def_ 68 (d := d_check_shelter)
abbrev a_saved_by (K : PySem.W.Frag) : Addr := At.ad K (.g "saved_by")
theorem u_saved_by (Z : Zed K mg base) : ∃ fd, FunD K "saved_by" "saved_by" (defArgs s_saved_by) (defBody s_saved_by) (defScope s_saved_by) [] [] (a_saved_by K) fd := Z.def_ 69 (d := d_saved_by)
abbrev a_is_sound (K : PySem.W.Frag) : Addr := At.ad K (.g "is_sound")
theorem u_is_sound (Z : Zed K mg base) : ∃ fd, FunD K "is_sound" "is_sound" (defArgs s_is_sound) (defBody s_is_sound) (defScope s_is_sound) [] [] (a_is_sound K) fd := Z.def_ 70 (d := d_is_sound)
abbrev a_has_pair (K : PySem.W.Frag) : Addr := At.ad K (.g "has_pair")
theorem u_has_pair (Z : Zed K mg base) : ∃ fd, FunD K "has_pair" "has_pair" (defArgs s_has_pair) (defBody s_has_pair) (defScope s_has_pair) [] [] (a_has_pair K) fd := Z.def_ 71 (d := d_has_pair)
abbrev a_is_shut (K : PySem.W.Frag) : Addr := At.ad K (.g "is_shut")
theorem u_is_shut (Z : Zed K mg base) : ∃ fd, FunD K "is_shut" "is_shut" (defArgs s_is_shut) (defBody s_is_shut) (defScope s_is_shut) [] [] (a_is_shut K) fd := Z.def_ 72 (d := d_is_shut)
abbrev a_is_closed (K : PySem.W.Frag) : Addr := At.ad K (.g "is_closed")
theorem u_is_closed (Z : Zed K mg base) : ∃ fd, FunD K "is_closed" "is_closed" (defArgs s_is_closed) (defBody s_is_closed) (defScope s_is_closed) [] [] (a_is_closed K) fd := Z.def_ 73 (d := d_is_closed)
abbrev a_never_row (K : PySem.W.Frag) : Addr := At.ad K (.g "never_row")
theorem u_never_row (Z : Zed K mg base) : ∃ fd, FunD K "never_row" "never_row" (defArgs s_never_row) (defBody s_never_row) (defScope s_never_row) [] [] (a_never_row K) fd := Z.def_ 74 (d := d_never_row)
abbrev a_lasts (K : PySem.W.Frag) : Addr := At.ad K (.g "lasts")
theorem u_lasts (Z : Zed K mg base) : ∃ fd, FunD K "lasts" "lasts" (defArgs s_lasts) (defBody s_lasts) (defScope s_lasts) [] [] (a_lasts K) fd := Z.def_ 75 (d := d_lasts)
abbrev a_q_pot (K : PySem.W.Frag) : Addr := At.ad K (.g "_law_pot")
theorem u_q_pot (Z : Zed K mg base) : ∃ fd, FunD K "_law_pot" "_law_pot" (defArgs s_q_pot) (defBody s_q_pot) (defScope s_q_pot) [] [] (a_q_pot K) fd := Z.def_ 76 (d := d_q_pot)
abbrev a_q_take (K : PySem.W.Frag) : Addr := At.ad K (.g "_law_take")
theorem u_q_take (Z : Zed K mg base) : ∃ fd, FunD K "_law_take" "_law_take" (defArgs s_q_take) (defBody s_q_take) (defScope s_q_take) [] [] (a_q_take K) fd := Z.def_ 77 (d := d_q_take)
abbrev a_q_of (K : PySem.W.Frag) : Addr := At.ad K (.g "_law_of")
theorem u_q_of (Z : Zed K mg base) : ∃ fd, FunD K "_law_of" "_law_of" (defArgs s_q_of) (defBody s_q_of) (defScope s_q_of) [] [] (a_q_of K) fd := Z.def_ 78 (d := d_q_of)
abbrev a_q_some (K : PySem.W.Frag) : Addr := At.ad K (.g "_law_some")
theorem u_q_some (Z : Zed K mg base) : ∃ fd, FunD K "_law_some" "_law_some" (defArgs s_q_some) (defBody s_q_some) (defScope s_q_some) [] [] (a_q_some K) fd := Z.def_ 79 (d := d_q_some)
abbrev a_q_cells (K : PySem.W.Frag) : Addr := At.ad K (.g "_law_cells")
theorem u_q_cells (Z : Zed K mg base) : ∃ fd, FunD K "_law_cells" "_law_cells" (defArgs s_q_cells) (defBody s_q_cells) (defScope s_q_cells) [] [] (a_q_cells K) fd := Z.def_ 80 (d := d_q_cells)
abbrev a_q_is_int (K : PySem.W.Frag) : Addr := At.ad K (.g "_law_is_int")
theorem u_q_is_int (Z : Zed K mg base) : ∃ fd, FunD K "_law_is_int" "_law_is_int" (defArgs s_q_is_int) (defBody s_q_is_int) (defScope s_q_is_int) [] [] (a_q_is_int K) fd := Z.def_ 81 (d := d_q_is_int)
abbrev a_q_names (K : PySem.W.Frag) : Addr := At.ad K (.g "_law_names")
theorem u_q_names (Z : Zed K mg base) : ∃ fd, FunD K "_law_names" "_law_names" (defArgs s_q_names) (defBody s_q_names) (defScope s_q_names) [] [] (a_q_names K) fd := Z.def_ 82 (d := d_q_names)
abbrev a_q_common (K : PySem.W.Frag) : Addr := At.ad K (.g "_law_common")
theorem u_q_common (Z : Zed K mg base) : ∃ fd, FunD K "_law_common" "_law_common" (defArgs s_q_common) (defBody s_q_common) (defScope s_q_common) [] [] (a_q_common K) fd := Z.def_ 83 (d := d_q_common)
abbrev a_q_joint (K : PySem.W.Frag) : Addr := At.ad K (.g "_law_joint")
theorem u_q_joint (Z : Zed K mg base) : ∃ fd, FunD K "_law_joint" "_law_joint" (defArgs s_q_joint) (defBody s_q_joint) (defScope s_q_joint) [] [] (a_q_joint K) fd := Z.def_ 84 (d := d_q_joint)
abbrev a_q_least_terms (K : PySem.W.Frag) : Addr := At.ad K (.g "_law_least_terms")
theorem u_q_least_terms (Z : Zed K mg base) : ∃ fd, FunD K "_law_least_terms" "_law_least_terms" (defArgs s_q_least_terms) (defBody s_q_least_terms) (defScope s_q_least_terms) [] [] (a_q_least_terms K) fd := Z.def_ 85 (d := d_q_least_terms)
abbrev a_q_ratio_text (K : PySem.W.Frag) : Addr := At.ad K (.g "_law_ratio_text")
theorem u_q_ratio_text (Z : Zed K mg base) : ∃ fd, FunD K "_law_ratio_text" "_law_ratio_text" (defArgs s_q_ratio_text) (defBody s_q_ratio_text) (defScope s_q_ratio_text) [] [] (a_q_ratio_text K) fd := Z.def_ 86 (d := d_q_ratio_text)
abbrev a_q_hows (K : PySem.W.Frag) : Addr := At.ad K (.g "_law_hows")
theorem u_q_hows (Z : Zed K mg base) : ∃ fd, FunD K "_law_hows" "_law_hows" (defArgs s_q_hows) (defBody s_q_hows) (defScope s_q_hows) [] [] (a_q_hows K) fd := Z.def_ 87 (d := d_q_hows)
abbrev a_q_vias (K : PySem.W.Frag) : Addr := At.ad K (.g "_law_vias")
theorem u_q_vias (Z : Zed K mg base) : ∃ fd, FunD K "_law_vias" "_law_vias" (defArgs s_q_vias) (defBody s_q_vias) (defScope s_q_vias) [] [] (a_q_vias K) fd := Z.def_ 88 (d := d_q_vias)
abbrev a_q_lore (K : PySem.W.Frag) : Addr := At.ad K (.g "_law_lore")
theorem u_q_lore (Z : Zed K mg base) : ∃ fd, FunD K "_law_lore" "_law_lore" (defArgs s_q_lore) (defBody s_q_lore) (defScope s_q_lore) [] [] (a_q_lore K) fd := Z.def_ 89 (d := d_q_lore)
abbrev a_q_text (K : PySem.W.Frag) : Addr := At.ad K (.g "_law_text")
theorem u_q_text (Z : Zed K mg base) : ∃ fd, FunD K "_law_text" "_law_text" (defArgs s_q_text) (defBody s_q_text) (defScope s_q_text) [] [] (a_q_text K) fd := Z.def_ 90 (d := d_q_text)
abbrev a_q_period (K : PySem.W.Frag) : Addr := At.ad K (.g "_law_period")
theorem u_q_period (Z : Zed K mg base) : ∃ fd, FunD K "_law_period" "_law_period" (defArgs s_q_period) (defBody s_q_period) (defScope s_q_period) [] [] (a_q_period K) fd := Z.def_ 91 (d := d_q_period)
abbrev a_q_round (K : PySem.W.Frag) : Addr := At.ad K (.g "_law_round")
theorem u_q_round (Z : Zed K mg base) : ∃ fd, FunD K "_law_round" "_law_round" (defArgs s_q_round) (defBody s_q_round) (defScope s_q_round) [] [] (a_q_round K) fd := Z.def_ 92 (d := d_q_round)
abbrev a_q_carry (K : PySem.W.Frag) : Addr := At.ad K (.g "_law_carry")
theorem u_q_carry (Z : Zed K mg base) : ∃ fd, FunD K "_law_carry" "_law_carry" (defArgs s_q_carry) (defBody s_q_carry) (defScope s_q_carry) [] [] (a_q_carry K) fd := Z.def_ 93 (d := d_q_carry)
abbrev a_q_program (K : PySem.W.Frag) : Addr := At.ad K (.g "_law_program")
theorem u_q_program (Z : Zed K mg base) : ∃ fd, FunD K "_law_program" "_law_program" (defArgs s_q_program) (defBody s_q_program) (defScope s_q_program) [] [] (a_q_program K) fd := Z.def_ 94 (d := d_q_program)
abbrev a_q_program_names (K : PySem.W.Frag) : Addr := At.ad K (.g "_law_program_names")
theorem u_q_program_names (Z : Zed K mg base) : ∃ fd, FunD K "_law_program_names" "_law_program_names" (defArgs s_q_program_names) (defBody s_q_program_names) (defScope s_q_program_names) [] [] (a_q_program_names K) fd := Z.def_ 95 (d := d_q_program_names)
abbrev a_q_kind_sides (K : PySem.W.Frag) : Addr := At.ad K (.g "_law_kind_sides")
theorem u_q_kind_sides (Z : Zed K mg base) : ∃ fd, FunD K "_law_kind_sides" "_law_kind_sides" (defArgs s_q_kind_sides) (defBody s_q_kind_sides) (defScope s_q_kind_sides) [] [] (a_q_kind_sides K) fd := Z.def_ 96 (d := d_q_kind_sides)
abbrev a_q_pair_saved (K : PySem.W.Frag) : Addr := At.ad K (.g "_law_pair_saved")
theorem u_q_pair_saved (Z : Zed K mg base) : ∃ fd, FunD K "_law_pair_saved" "_law_pair_saved" (defArgs s_q_pair_saved) (defBody s_q_pair_saved) (defScope s_q_pair_saved) [] [] (a_q_pair_saved K) fd := Z.def_ 97 (d := d_q_pair_saved)
abbrev a_q_is_row (K : PySem.W.Frag) : Addr := At.ad K (.g "_law_is_row")
theorem u_q_is_row (Z : Zed K mg base) : ∃ fd, FunD K "_law_is_row" "_law_is_row" (defArgs s_q_is_row) (defBody s_q_is_row) (defScope s_q_is_row) [] [] (a_q_is_row K) fd := Z.def_ 98 (d := d_q_is_row)
abbrev a_q_slipping (K : PySem.W.Frag) : Addr := At.ad K (.g "_law_slipping")
theorem u_q_slipping (Z : Zed K mg base) : ∃ fd, FunD K "_law_slipping" "_law_slipping" (defArgs s_q_slipping) (defBody s_q_slipping) (defScope s_q_slipping) [] [] (a_q_slipping K) fd := Z.def_ 99 (d := d_q_slipping)
abbrev a_q_is_pair (K : PySem.W.Frag) : Addr := At.ad K (.g "_law_is_pair")
theorem u_q_is_pair (Z : Zed K mg base) : ∃ fd, FunD K "_law_is_pair" "_law_is_pair" (defArgs s_q_is_pair) (defBody s_q_is_pair) (defScope s_q_is_pair) [] [] (a_q_is_pair K) fd := Z.def_ 100 (d := d_q_is_pair)
abbrev a_q_own_stairs (K : PySem.W.Frag) : Addr := At.ad K (.g "_law_own_stairs")
theorem u_q_own_stairs (Z : Zed K mg base) : ∃ fd, FunD K "_law_own_stairs" "_law_own_stairs" (defArgs s_q_own_stairs) (defBody s_q_own_stairs) (defScope s_q_own_stairs) [] [] (a_q_own_stairs K) fd := Z.def_ 101 (d := d_q_own_stairs)
abbrev a_q_least_there (K : PySem.W.Frag) : Addr := At.ad K (.g "_law_least_there")
theorem u_q_least_there (Z : Zed K mg base) : ∃ fd, FunD K "_law_least_there" "_law_least_there" (defArgs s_q_least_there) (defBody s_q_least_there) (defScope s_q_least_there) [] [] (a_q_least_there K) fd := Z.def_ 102 (d := d_q_least_there)
abbrev a_q_can_stay (K : PySem.W.Frag) : Addr := At.ad K (.g "_law_can_stay")
theorem u_q_can_stay (Z : Zed K mg base) : ∃ fd, FunD K "_law_can_stay" "_law_can_stay" (defArgs s_q_can_stay) (defBody s_q_can_stay) (defScope s_q_can_stay) [] [] (a_q_can_stay K) fd := Z.def_ 103 (d := d_q_can_stay)
abbrev a_q_does_stay (K : PySem.W.Frag) : Addr := At.ad K (.g "_law_does_stay")
theorem u_q_does_stay (Z : Zed K mg base) : ∃ fd, FunD K "_law_does_stay" "_law_does_stay" (defArgs s_q_does_stay) (defBody s_q_does_stay) (defScope s_q_does_stay) [] [] (a_q_does_stay K) fd := Z.def_ 104 (d := d_q_does_stay)
abbrev a_q_in_shelter (K : PySem.W.Frag) : Addr := At.ad K (.g "_law_in_shelter")
theorem u_q_in_shelter (Z : Zed K mg base) : ∃ fd, FunD K "_law_in_shelter" "_law_in_shelter" (defArgs s_q_in_shelter) (defBody s_q_in_shelter) (defScope s_q_in_shelter) [] [] (a_q_in_shelter K) fd := Z.def_ 105 (d := d_q_in_shelter)
abbrev a_q_is_shelter (K : PySem.W.Frag) : Addr := At.ad K (.g "_law_is_shelter")
theorem u_q_is_shelter (Z : Zed K mg base) : ∃ fd, FunD K "_law_is_shelter" "_law_is_shelter" (defArgs s_q_is_shelter) (defBody s_q_is_shelter) (defScope s_q_is_shelter) [] [] (a_q_is_shelter K) fd := Z.def_ 106 (d := d_q_is_shelter)
abbrev a_q_is_cut_fine (K : PySem.W.Frag) : Addr := At.ad K (.g "_law_is_cut_fine")
theorem u_q_is_cut_fine (Z : Zed K mg base) : ∃ fd, FunD K "_law_is_cut_fine" "_law_is_cut_fine" (defArgs s_q_is_cut_fine) (defBody s_q_is_cut_fine) (defScope s_q_is_cut_fine) [] [] (a_q_is_cut_fine K) fd := Z.def_ 107 (d := d_q_is_cut_fine)
abbrev a_q_do_rooms_last (K : PySem.W.Frag) : Addr := At.ad K (.g "_law_do_rooms_last")
theorem u_q_do_rooms_last (Z : Zed K mg base) : ∃ fd, FunD K "_law_do_rooms_last" "_law_do_rooms_last" (defArgs s_q_do_rooms_last) (defBody s_q_do_rooms_last) (defScope s_q_do_rooms_last) [] [] (a_q_do_rooms_last K) fd := Z.def_ 108 (d := d_q_do_rooms_last)
abbrev a_q_is_broken (K : PySem.W.Frag) : Addr := At.ad K (.g "_law_is_broken")
theorem u_q_is_broken (Z : Zed K mg base) : ∃ fd, FunD K "_law_is_broken" "_law_is_broken" (defArgs s_q_is_broken) (defBody s_q_is_broken) (defScope s_q_is_broken) [] [] (a_q_is_broken K) fd := Z.def_ 109 (d := d_q_is_broken)
abbrev a_q_is_shut (K : PySem.W.Frag) : Addr := At.ad K (.g "_law_is_shut")
theorem u_q_is_shut (Z : Zed K mg base) : ∃ fd, FunD K "_law_is_shut" "_law_is_shut" (defArgs s_q_is_shut) (defBody s_q_is_shut) (defScope s_q_is_shut) [] [] (a_q_is_shut K) fd := Z.def_ 110 (d := d_q_is_shut)
abbrev a_q_is_told (K : PySem.W.Frag) : Addr := At.ad K (.g "_law_is_told")
theorem u_q_is_told (Z : Zed K mg base) : ∃ fd, FunD K "_law_is_told" "_law_is_told" (defArgs s_q_is_told) (defBody s_q_is_told) (defScope s_q_is_told) [] [] (a_q_is_told K) fd := Z.def_ 111 (d := d_q_is_told)
abbrev a_q_is_judged (K : PySem.W.Frag) : Addr := At.ad K (.g "_law_is_judged")
theorem u_q_is_judged (Z : Zed K mg base) : ∃ fd, FunD K "_law_is_judged" "_law_is_judged" (defArgs s_q_is_judged) (defBody s_q_is_judged) (defScope s_q_is_judged) [] [] (a_q_is_judged K) fd := Z.def_ 112 (d := d_q_is_judged)
abbrev a_q_right (K : PySem.W.Frag) : Addr := At.ad K (.g "_law_right")
theorem u_q_right (Z : Zed K mg base) : ∃ fd, FunD K "_law_right" "_law_right" (defArgs s_q_right) (defBody s_q_right) (defScope s_q_right) [] [] (a_q_right K) fd := Z.def_ 113 (d := d_q_right)
abbrev a_law (K : PySem.W.Frag) : Addr := At.ad K (.g "law")
theorem u_law (Z : Zed K mg base) : ∃ fd, FunD K "law" "law" (defArgs s_law) (defBody s_law) (defScope s_law) [] [] (a_law K) fd := Z.def_ 114 (d := d_law)
theorem g_placed (Z : Zed K mg base) : mg "placed" = some (.ref (a_placed K)) := He.glo_ok Z.kin Z.ns (Z.fact 0 (f := .fa (.glo "placed")))
theorem g_least_times (Z : Zed K mg base) : mg "least_times" = some (.ref (a_least_times K)) := He.glo_ok Z.kin Z.ns (Z.fact 1 (f := .fa (.glo "least_times")))
theorem g_is_integer (Z : Zed K mg base) : mg "is_integer" = some (.ref (a_is_integer K)) := He.glo_ok Z.kin Z.ns (Z.fact 2 (f := .fa (.glo "is_integer")))
theorem g_is_tuple (Z : Zed K mg base) : mg "is_tuple" = some (.ref (a_is_tuple K)) := He.glo_ok Z.kin Z.ns (Z.fact 3 (f := .fa (.glo "is_tuple")))
theorem g_is_said (Z : Zed K mg base) : mg "is_said" = some (.ref (a_is_said K)) := He.glo_ok Z.kin Z.ns (Z.fact 4 (f := .fa (.glo "is_said")))
theorem g_is_word (Z : Zed K mg base) : mg "is_word" = some (.ref (a_is_word K)) := He.glo_ok Z.kin Z.ns (Z.fact 5 (f := .fa (.glo "is_word")))
theorem g_number_in (Z : Zed K mg base) : mg "number_in" = some (.ref (a_number_in K)) := He.glo_ok Z.kin Z.ns (Z.fact 6 (f := .fa (.glo "number_in")))
theorem g_integer_in (Z : Zed K mg base) : mg "integer_in" = some (.ref (a_integer_in K)) := He.glo_ok Z.kin Z.ns (Z.fact 7 (f := .fa (.glo "integer_in")))
theorem g_common (Z : Zed K mg base) : mg "common" = some (.ref (a_common K)) := He.glo_ok Z.kin Z.ns (Z.fact 8 (f := .fa (.glo "common")))
theorem g_ratio_in (Z : Zed K mg base) : mg "ratio_in" = some (.ref (a_ratio_in K)) := He.glo_ok Z.kin Z.ns (Z.fact 9 (f := .fa (.glo "ratio_in")))
theorem g_nearest (Z : Zed K mg base) : mg "nearest" = some (.ref (a_nearest K)) := He.glo_ok Z.kin Z.ns (Z.fact 10 (f := .fa (.glo "nearest")))
theorem g_round_to (Z : Zed K mg base) : mg "round_to" = some (.ref (a_round_to K)) := He.glo_ok Z.kin Z.ns (Z.fact 11 (f := .fa (.glo "round_to")))
theorem g_carried_home (Z : Zed K mg base) : mg "carried_home" = some (.ref (a_carried_home K)) := He.glo_ok Z.kin Z.ns (Z.fact 12 (f := .fa (.glo "carried_home")))
theorem g_told_ratio (Z : Zed K mg base) : mg "told_ratio" = some (.ref (a_told_ratio K)) := He.glo_ok Z.kin Z.ns (Z.fact 13 (f := .fa (.glo "told_ratio")))
theorem g_words_behind (Z : Zed K mg base) : mg "words_behind" = some (.ref (a_words_behind K)) := He.glo_ok Z.kin Z.ns (Z.fact 14 (f := .fa (.glo "words_behind")))
theorem g_read_lines (Z : Zed K mg base) : mg "read_lines" = some (.ref (a_read_lines K)) := He.glo_ok Z.kin Z.ns (Z.fact 15 (f := .fa (.glo "read_lines")))
theorem g_period_of (Z : Zed K mg base) : mg "period_of" = some (.ref (a_period_of K)) := He.glo_ok Z.kin Z.ns (Z.fact 16 (f := .fa (.glo "period_of")))
theorem g_is_pair (Z : Zed K mg base) : mg "is_pair" = some (.ref (a_is_pair K)) := He.glo_ok Z.kin Z.ns (Z.fact 17 (f := .fa (.glo "is_pair")))
theorem g_is_any (Z : Zed K mg base) : mg "is_any" = some (.ref (a_is_any K)) := He.glo_ok Z.kin Z.ns (Z.fact 18 (f := .fa (.glo "is_any")))
theorem g_steps_of (Z : Zed K mg base) : mg "steps_of" = some (.ref (a_steps_of K)) := He.glo_ok Z.kin Z.ns (Z.fact 19 (f := .fa (.glo "steps_of")))
theorem g_level_of (Z : Zed K mg base) : mg "level_of" = some (.ref (a_level_of K)) := He.glo_ok Z.kin Z.ns (Z.fact 20 (f := .fa (.glo "level_of")))
theorem g_stairs_of (Z : Zed K mg base) : mg "stairs_of" = some (.ref (a_stairs_of K)) := He.glo_ok Z.kin Z.ns (Z.fact 21 (f := .fa (.glo "stairs_of")))
theorem g_is_ever (Z : Zed K mg base) : mg "is_ever" = some (.ref (a_is_ever K)) := He.glo_ok Z.kin Z.ns (Z.fact 22 (f := .fa (.glo "is_ever")))
theorem g_does_last (Z : Zed K mg base) : mg "does_last" = some (.ref (a_does_last K)) := He.glo_ok Z.kin Z.ns (Z.fact 23 (f := .fa (.glo "does_last")))
theorem g_names_of (Z : Zed K mg base) : mg "names_of" = some (.ref (a_names_of K)) := He.glo_ok Z.kin Z.ns (Z.fact 24 (f := .fa (.glo "names_of")))
theorem g_room_broken (Z : Zed K mg base) : mg "room_broken" = some (.ref (a_room_broken K)) := He.glo_ok Z.kin Z.ns (Z.fact 25 (f := .fa (.glo "room_broken")))
theorem g_breaking (Z : Zed K mg base) : mg "breaking" = some (.ref (a_breaking K)) := He.glo_ok Z.kin Z.ns (Z.fact 26 (f := .fa (.glo "breaking")))
theorem g_check_kind (Z : Zed K mg base) : mg "check_kind" = some (.ref (a_check_kind K)) := He.glo_ok Z.kin Z.ns (Z.fact 27 (f := .fa (.glo "check_kind")))
theorem g_check_pair (Z : Zed K mg base) : mg "check_pair" = some (.ref (a_check_pair K)) := He.glo_ok Z.kin Z.ns (Z.fact 28 (f := .fa (.glo "check_pair")))
theorem g_is_shelter (Z : Zed K mg base) : mg "is_shelter" = some (.ref (a_is_shelter K)) := He.glo_ok Z.kin Z.ns (Z.fact 29 (f := .fa (.glo "is_shelter")))
theorem g_check_shelter (Z : Zed K mg base) : mg "check_shelter" = some (.ref (a_check_shelter K)) := He.glo_ok Z.kin Z.ns (Z.fact 30 (f := .fa (.glo "check_shelter")))
theorem g_saved_by (Z : Zed K mg base) : mg "saved_by" = some (.ref (a_saved_by K)) := He.glo_ok Z.kin Z.ns (Z.fact 31 (f := .fa (.glo "saved_by")))
theorem g_is_sound (Z : Zed K mg base) : mg "is_sound" = some (.ref (a_is_sound K)) := He.glo_ok Z.kin Z.ns (Z.fact 32 (f := .fa (.glo "is_sound")))
theorem g_has_pair (Z : Zed K mg base) : mg "has_pair" = some (.ref (a_has_pair K)) := He.glo_ok Z.kin Z.ns (Z.fact 33 (f := .fa (.glo "has_pair")))
theorem g_is_shut (Z : Zed K mg base) : mg "is_shut" = some (.ref (a_is_shut K)) := He.glo_ok Z.kin Z.ns (Z.fact 34 (f := .fa (.glo "is_shut")))
theorem g_is_closed (Z : Zed K mg base) : mg "is_closed" = some (.ref (a_is_closed K)) := He.glo_ok Z.kin Z.ns (Z.fact 35 (f := .fa (.glo "is_closed")))
theorem g_never_row (Z : Zed K mg base) : mg "never_row" = some (.ref (a_never_row K)) := He.glo_ok Z.kin Z.ns (Z.fact 36 (f := .fa (.glo "never_row")))
theorem g_lasts (Z : Zed K mg base) : mg "lasts" = some (.ref (a_lasts K)) := He.glo_ok Z.kin Z.ns (Z.fact 37 (f := .fa (.glo "lasts")))
theorem g_q_pot (Z : Zed K mg base) : mg "_law_pot" = some (.ref (a_q_pot K)) := He.glo_ok Z.kin Z.ns (Z.fact 38 (f := .fa (.glo "_law_pot")))
theorem g_q_take (Z : Zed K mg base) : mg "_law_take" = some (.ref (a_q_take K)) := He.glo_ok Z.kin Z.ns (Z.fact 39 (f := .fa (.glo "_law_take")))
theorem g_q_of (Z : Zed K mg base) : mg "_law_of" = some (.ref (a_q_of K)) := He.glo_ok Z.kin Z.ns (Z.fact 40 (f := .fa (.glo "_law_of")))
theorem g_q_some (Z : Zed K mg base) : mg "_law_some" = some (.ref (a_q_some K)) := He.glo_ok Z.kin Z.ns (Z.fact 41 (f := .fa (.glo "_law_some")))
theorem g_q_cells (Z : Zed K mg base) : mg "_law_cells" = some (.ref (a_q_cells K)) := He.glo_ok Z.kin Z.ns (Z.fact 42 (f := .fa (.glo "_law_cells")))
theorem g_q_is_int (Z : Zed K mg base) : mg "_law_is_int" = some (.ref (a_q_is_int K)) := He.glo_ok Z.kin Z.ns (Z.fact 43 (f := .fa (.glo "_law_is_int")))
theorem g_q_names (Z : Zed K mg base) : mg "_law_names" = some (.ref (a_q_names K)) := He.glo_ok Z.kin Z.ns (Z.fact 44 (f := .fa (.glo "_law_names")))
theorem g_q_common (Z : Zed K mg base) : mg "_law_common" = some (.ref (a_q_common K)) := He.glo_ok Z.kin Z.ns (Z.fact 45 (f := .fa (.glo "_law_common")))
theorem g_q_joint (Z : Zed K mg base) : mg "_law_joint" = some (.ref (a_q_joint K)) := He.glo_ok Z.kin Z.ns (Z.fact 46 (f := .fa (.glo "_law_joint")))
theorem g_q_least_terms (Z : Zed K mg base) : mg "_law_least_terms" = some (.ref (a_q_least_terms K)) := He.glo_ok Z.kin Z.ns (Z.fact 47 (f := .fa (.glo "_law_least_terms")))
theorem g_q_ratio_text (Z : Zed K mg base) : mg "_law_ratio_text" = some (.ref (a_q_ratio_text K)) := He.glo_ok Z.kin Z.ns (Z.fact 48 (f := .fa (.glo "_law_ratio_text")))
theorem g_q_hows (Z : Zed K mg base) : mg "_law_hows" = some (.ref (a_q_hows K)) := He.glo_ok Z.kin Z.ns (Z.fact 49 (f := .fa (.glo "_law_hows")))
theorem g_q_vias (Z : Zed K mg base) : mg "_law_vias" = some (.ref (a_q_vias K)) := He.glo_ok Z.kin Z.ns (Z.fact 50 (f := .fa (.glo "_law_vias")))
theorem g_q_lore (Z : Zed K mg base) : mg "_law_lore" = some (.ref (a_q_lore K)) := He.glo_ok Z.kin Z.ns (Z.fact 51 (f := .fa (.glo "_law_lore")))
theorem g_q_text (Z : Zed K mg base) : mg "_law_text" = some (.ref (a_q_text K)) := He.glo_ok Z.kin Z.ns (Z.fact 52 (f := .fa (.glo "_law_text")))
theorem g_q_period (Z : Zed K mg base) : mg "_law_period" = some (.ref (a_q_period K)) := He.glo_ok Z.kin Z.ns (Z.fact 53 (f := .fa (.glo "_law_period")))
theorem g_q_round (Z : Zed K mg base) : mg "_law_round" = some (.ref (a_q_round K)) := He.glo_ok Z.kin Z.ns (Z.fact 54 (f := .fa (.glo "_law_round")))
theorem g_q_carry (Z : Zed K mg base) : mg "_law_carry" = some (.ref (a_q_carry K)) := He.glo_ok Z.kin Z.ns (Z.fact 55 (f := .fa (.glo "_law_carry")))
theorem g_q_program (Z : Zed K mg base) : mg "_law_program" = some (.ref (a_q_program K)) := He.glo_ok Z.kin Z.ns (Z.fact 56 (f := .fa (.glo "_law_program")))
theorem g_q_program_names (Z : Zed K mg base) : mg "_law_program_names" = some (.ref (a_q_program_names K)) := He.glo_ok Z.kin Z.ns (Z.fact 57 (f := .fa (.glo "_law_program_names")))
theorem g_q_kind_sides (Z : Zed K mg base) : mg "_law_kind_sides" = some (.ref (a_q_kind_sides K)) := He.glo_ok Z.kin Z.ns (Z.fact 58 (f := .fa (.glo "_law_kind_sides")))
theorem g_q_pair_saved (Z : Zed K mg base) : mg "_law_pair_saved" = some (.ref (a_q_pair_saved K)) := He.glo_ok Z.kin Z.ns (Z.fact 59 (f := .fa (.glo "_law_pair_saved")))
theorem g_q_is_row (Z : Zed K mg base) : mg "_law_is_row" = some (.ref (a_q_is_row K)) := He.glo_ok Z.kin Z.ns (Z.fact 60 (f := .fa (.glo "_law_is_row")))
theorem g_q_slipping (Z : Zed K mg base) : mg "_law_slipping" = some (.ref (a_q_slipping K)) := He.glo_ok Z.kin Z.ns (Z.fact 61 (f := .fa (.glo "_law_slipping")))
theorem g_q_is_pair (Z : Zed K mg base) : mg "_law_is_pair" = some (.ref (a_q_is_pair K)) := He.glo_ok Z.kin Z.ns (Z.fact 62 (f := .fa (.glo "_law_is_pair")))
theorem g_q_own_stairs (Z : Zed K mg base) : mg "_law_own_stairs" = some (.ref (a_q_own_stairs K)) := He.glo_ok Z.kin Z.ns (Z.fact 63 (f := .fa (.glo "_law_own_stairs")))
theorem g_q_least_there (Z : Zed K mg base) : mg "_law_least_there" = some (.ref (a_q_least_there K)) := He.glo_ok Z.kin Z.ns (Z.fact 64 (f := .fa (.glo "_law_least_there")))
theorem g_q_can_stay (Z : Zed K mg base) : mg "_law_can_stay" = some (.ref (a_q_can_stay K)) := He.glo_ok Z.kin Z.ns (Z.fact 65 (f := .fa (.glo "_law_can_stay")))
theorem g_q_does_stay (Z : Zed K mg base) : mg "_law_does_stay" = some (.ref (a_q_does_stay K)) := He.glo_ok Z.kin Z.ns (Z.fact 66 (f := .fa (.glo "_law_does_stay")))
theorem g_q_in_shelter (Z : Zed K mg base) : mg "_law_in_shelter" = some (.ref (a_q_in_shelter K)) := He.glo_ok Z.kin Z.ns (Z.fact 67 (f := .fa (.glo "_law_in_shelter")))
theorem g_q_is_shelter (Z : Zed K mg base) : mg "_law_is_shelter" = some (.ref (a_q_is_shelter K)) := He.glo_ok Z.kin Z.ns (Z.fact 68 (f := .fa (.glo "_law_is_shelter")))
theorem g_q_is_cut_fine (Z : Zed K mg base) : mg "_law_is_cut_fine" = some (.ref (a_q_is_cut_fine K)) := He.glo_ok Z.kin Z.ns (Z.fact 69 (f := .fa (.glo "_law_is_cut_fine")))
theorem g_q_do_rooms_last (Z : Zed K mg base) : mg "_law_do_rooms_last" = some (.ref (a_q_do_rooms_last K)) := He.glo_ok Z.kin Z.ns (Z.fact 70 (f := .fa (.glo "_law_do_rooms_last")))
theorem g_q_is_broken (Z : Zed K mg base) : mg "_law_is_broken" = some (.ref (a_q_is_broken K)) := He.glo_ok Z.kin Z.ns (Z.fact 71 (f := .fa (.glo "_law_is_broken")))
theorem g_q_is_shut (Z : Zed K mg base) : mg "_law_is_shut" = some (.ref (a_q_is_shut K)) := He.glo_ok Z.kin Z.ns (Z.fact 72 (f := .fa (.glo "_law_is_shut")))
theorem g_q_is_told (Z : Zed K mg base) : mg "_law_is_told" = some (.ref (a_q_is_told K)) := He.glo_ok Z.kin Z.ns (Z.fact 73 (f := .fa (.glo "_law_is_told")))
theorem g_q_is_judged (Z : Zed K mg base) : mg "_law_is_judged" = some (.ref (a_q_is_judged K)) := He.glo_ok Z.kin Z.ns (Z.fact 74 (f := .fa (.glo "_law_is_judged")))
theorem g_q_right (Z : Zed K mg base) : mg "_law_right" = some (.ref (a_q_right K)) := He.glo_ok Z.kin Z.ns (Z.fact 75 (f := .fa (.glo "_law_right")))
theorem g_law (Z : Zed K mg base) : mg "law" = some (.ref (a_law K)) := He.glo_ok Z.kin Z.ns (Z.fact 76 (f := .fa (.glo "law")))
theorem g_Map (Z : Zed K mg base) : mg "Map" = some (.ref (C_Map K)) := He.glo_ok Z.kin Z.ns (Z.fact 77 (f := .fa (.glo "Map")))
theorem mk_Map (Z : Zed K mg base) : Mk K (C_Map K) (a_Map_init K) := He.mkr_ok (Z.fact 78 (f := .fa (.mkr "Map")))
theorem sc_Map (Z : Zed K mg base) : SlX.SCls K (C_Map K) := scl_ok (Z.fact 79 (f := .scl "Map"))
theorem sl_Map_own_least (Z : Zed K mg base) : SlX.Slot1 K (C_Map K) "own_least" (He.ma K (C_Map K) "own_least") 0 := slo_ok (Z.fact 80 (f := .slo "Map" "own_least" 0))
theorem sl_Map_own_period (Z : Zed K mg base) : SlX.Slot1 K (C_Map K) "own_period" (He.ma K (C_Map K) "own_period") 1 := slo_ok (Z.fact 81 (f := .slo "Map" "own_period" 1))
theorem sl_Map_own_row (Z : Zed K mg base) : SlX.Slot1 K (C_Map K) "own_row" (He.ma K (C_Map K) "own_row") 2 := slo_ok (Z.fact 82 (f := .slo "Map" "own_row" 2))
theorem g_Program (Z : Zed K mg base) : mg "Program" = some (.ref (C_Program K)) := He.glo_ok Z.kin Z.ns (Z.fact 83 (f := .fa (.glo "Program")))
theorem mk_Program (Z : Zed K mg base) : Mk K (C_Program K) (a_Program_init K) := He.mkr_ok (Z.fact 84 (f := .fa (.mkr "Program")))
theorem sc_Program (Z : Zed K mg base) : SlX.SCls K (C_Program K) := scl_ok (Z.fact 85 (f := .scl "Program"))
theorem sl_Program_own_back (Z : Zed K mg base) : SlX.Slot1 K (C_Program K) "own_back" (He.ma K (C_Program K) "own_back") 0 := slo_ok (Z.fact 86 (f := .slo "Program" "own_back" 0))
theorem sl_Program_own_begin (Z : Zed K mg base) : SlX.Slot1 K (C_Program K) "own_begin" (He.ma K (C_Program K) "own_begin") 1 := slo_ok (Z.fact 87 (f := .slo "Program" "own_begin" 1))
theorem sl_Program_own_name (Z : Zed K mg base) : SlX.Slot1 K (C_Program K) "own_name" (He.ma K (C_Program K) "own_name") 2 := slo_ok (Z.fact 88 (f := .slo "Program" "own_name" 2))
theorem sl_Program_own_vias (Z : Zed K mg base) : SlX.Slot1 K (C_Program K) "own_vias" (He.ma K (C_Program K) "own_vias") 3 := slo_ok (Z.fact 89 (f := .slo "Program" "own_vias" 3))
theorem g_Reader (Z : Zed K mg base) : mg "Reader" = some (.ref (C_Reader K)) := He.glo_ok Z.kin Z.ns (Z.fact 90 (f := .fa (.glo "Reader")))
theorem mk_Reader (Z : Zed K mg base) : Mk K (C_Reader K) (a_Reader_init K) := He.mkr_ok (Z.fact 91 (f := .fa (.mkr "Reader")))
theorem cl_Reader (Z : Zed K mg base) : Cls K (C_Reader K) := He.cls_ok (Z.fact 92 (f := .fa (.cls "Reader")))
theorem na_Reader_own_trim (Z : Zed K mg base) : NoAttr K (C_Reader K) "own_trim" := He.noat_ok (Z.fact 93 (f := .fa (.noat "Reader" "own_trim")))
theorem na_Reader_own_programs (Z : Zed K mg base) : NoAttr K (C_Reader K) "own_programs" := He.noat_ok (Z.fact 94 (f := .fa (.noat "Reader" "own_programs")))
theorem g_Studio (Z : Zed K mg base) : mg "Studio" = some (.ref (C_Studio K)) := He.glo_ok Z.kin Z.ns (Z.fact 95 (f := .fa (.glo "Studio")))
theorem mk_Studio (Z : Zed K mg base) : Mk K (C_Studio K) (a_Studio_init K) := He.mkr_ok (Z.fact 96 (f := .fa (.mkr "Studio")))
theorem sc_Studio (Z : Zed K mg base) : SlX.SCls K (C_Studio K) := scl_ok (Z.fact 97 (f := .scl "Studio"))
theorem sl_Studio_own_kept (Z : Zed K mg base) : SlX.Slot1 K (C_Studio K) "own_kept" (He.ma K (C_Studio K) "own_kept") 0 := slo_ok (Z.fact 98 (f := .slo "Studio" "own_kept" 0))
theorem sl_Studio_own_maps (Z : Zed K mg base) : SlX.Slot1 K (C_Studio K) "own_maps" (He.ma K (C_Studio K) "own_maps") 1 := slo_ok (Z.fact 99 (f := .slo "Studio" "own_maps" 1))
theorem sl_Studio_own_period (Z : Zed K mg base) : SlX.Slot1 K (C_Studio K) "own_period" (He.ma K (C_Studio K) "own_period") 2 := slo_ok (Z.fact 100 (f := .slo "Studio" "own_period" 2))
theorem sl_Studio_own_programs (Z : Zed K mg base) : SlX.Slot1 K (C_Studio K) "own_programs" (He.ma K (C_Studio K) "own_programs") 3 := slo_ok (Z.fact 101 (f := .slo "Studio" "own_programs" 3))
theorem sl_Studio_own_text (Z : Zed K mg base) : SlX.Slot1 K (C_Studio K) "own_text" (He.ma K (C_Studio K) "own_text") 4 := slo_ok (Z.fact 102 (f := .slo "Studio" "own_text" 4))
theorem sl_Studio_own_trim (Z : Zed K mg base) : SlX.Slot1 K (C_Studio K) "own_trim" (He.ma K (C_Studio K) "own_trim") 5 := slo_ok (Z.fact 103 (f := .slo "Studio" "own_trim" 5))
theorem g_Level (Z : Zed K mg base) : mg "Level" = some (.ref (C_Level K)) := He.glo_ok Z.kin Z.ns (Z.fact 104 (f := .fa (.glo "Level")))
theorem mk_Level (Z : Zed K mg base) : Mk K (C_Level K) (a_Level_init K) := He.mkr_ok (Z.fact 105 (f := .fa (.mkr "Level")))
theorem sc_Level (Z : Zed K mg base) : SlX.SCls K (C_Level K) := scl_ok (Z.fact 106 (f := .scl "Level"))
theorem sl_Level_own_row (Z : Zed K mg base) : SlX.Slot1 K (C_Level K) "own_row" (He.ma K (C_Level K) "own_row") 0 := slo_ok (Z.fact 107 (f := .slo "Level" "own_row" 0))
theorem g_Stairs (Z : Zed K mg base) : mg "Stairs" = some (.ref (C_Stairs K)) := He.glo_ok Z.kin Z.ns (Z.fact 108 (f := .fa (.glo "Stairs")))
theorem mk_Stairs (Z : Zed K mg base) : Mk K (C_Stairs K) (a_Stairs_init K) := He.mkr_ok (Z.fact 109 (f := .fa (.mkr "Stairs")))
theorem sc_Stairs (Z : Zed K mg base) : SlX.SCls K (C_Stairs K) := scl_ok (Z.fact 110 (f := .scl "Stairs"))
theorem sl_Stairs_is_stable (Z : Zed K mg base) : SlX.Slot1 K (C_Stairs K) "is_stable" (He.ma K (C_Stairs K) "is_stable") 0 := slo_ok (Z.fact 111 (f := .slo "Stairs" "is_stable" 0))
theorem sl_Stairs_own_level (Z : Zed K mg base) : SlX.Slot1 K (C_Stairs K) "own_level" (He.ma K (C_Stairs K) "own_level") 1 := slo_ok (Z.fact 112 (f := .slo "Stairs" "own_level" 1))
theorem sl_Stairs_own_period (Z : Zed K mg base) : SlX.Slot1 K (C_Stairs K) "own_period" (He.ma K (C_Stairs K) "own_period") 2 := slo_ok (Z.fact 113 (f := .slo "Stairs" "own_period" 2))
theorem sl_Stairs_own_rows (Z : Zed K mg base) : SlX.Slot1 K (C_Stairs K) "own_rows" (He.ma K (C_Stairs K) "own_rows") 3 := slo_ok (Z.fact 114 (f := .slo "Stairs" "own_rows" 3))
theorem sl_Stairs_own_steps (Z : Zed K mg base) : SlX.Slot1 K (C_Stairs K) "own_steps" (He.ma K (C_Stairs K) "own_steps") 4 := slo_ok (Z.fact 115 (f := .slo "Stairs" "own_steps" 4))
theorem g_RoomLevel (Z : Zed K mg base) : mg "RoomLevel" = some (.ref (C_RoomLevel K)) := He.glo_ok Z.kin Z.ns (Z.fact 116 (f := .fa (.glo "RoomLevel")))
theorem mk_RoomLevel (Z : Zed K mg base) : Mk K (C_RoomLevel K) (a_RoomLevel_init K) := He.mkr_ok (Z.fact 117 (f := .fa (.mkr "RoomLevel")))
theorem sc_RoomLevel (Z : Zed K mg base) : SlX.SCls K (C_RoomLevel K) := scl_ok (Z.fact 118 (f := .scl "RoomLevel"))
theorem sl_RoomLevel_own_lengths (Z : Zed K mg base) : SlX.Slot1 K (C_RoomLevel K) "own_lengths" (He.ma K (C_RoomLevel K) "own_lengths") 0 := slo_ok (Z.fact 119 (f := .slo "RoomLevel" "own_lengths" 0))
theorem sl_RoomLevel_own_maps (Z : Zed K mg base) : SlX.Slot1 K (C_RoomLevel K) "own_maps" (He.ma K (C_RoomLevel K) "own_maps") 1 := slo_ok (Z.fact 120 (f := .slo "RoomLevel" "own_maps" 1))
theorem sl_RoomLevel_own_period (Z : Zed K mg base) : SlX.Slot1 K (C_RoomLevel K) "own_period" (He.ma K (C_RoomLevel K) "own_period") 2 := slo_ok (Z.fact 121 (f := .slo "RoomLevel" "own_period" 2))
theorem sl_RoomLevel_own_trim (Z : Zed K mg base) : SlX.Slot1 K (C_RoomLevel K) "own_trim" (He.ma K (C_RoomLevel K) "own_trim") 3 := slo_ok (Z.fact 122 (f := .slo "RoomLevel" "own_trim" 3))
theorem m_Map_at (Z : Zed K mg base) : Meth K (C_Map K) "at" (a_Map_at K) := He.meth_ok (Z.fact 123 (f := .fa (.meth "Map" "at")))
theorem m_Map_least (Z : Zed K mg base) : Meth K (C_Map K) "least" (a_Map_least K) := He.meth_ok (Z.fact 124 (f := .fa (.meth "Map" "least")))
theorem p_Program_begin (Z : Zed K mg base) : Prp K (C_Program K) "begin" (He.ma K (C_Program K) "begin") (a_Program_begin K) := prp_ok (Z.fact 125 (f := .prp "Program" "begin"))
theorem p_Program_steps (Z : Zed K mg base) : Prp K (C_Program K) "steps" (He.ma K (C_Program K) "steps") (a_Program_steps K) := prp_ok (Z.fact 126 (f := .prp "Program" "steps"))
theorem m_Program_hows (Z : Zed K mg base) : Meth K (C_Program K) "hows" (a_Program_hows K) := He.meth_ok (Z.fact 127 (f := .fa (.meth "Program" "hows")))
theorem m_Program_carried (Z : Zed K mg base) : Meth K (C_Program K) "carried" (a_Program_carried K) := He.meth_ok (Z.fact 128 (f := .fa (.meth "Program" "carried")))
theorem p_Reader_is_whole (Z : Zed K mg base) : Prp K (C_Reader K) "is_whole" (He.ma K (C_Reader K) "is_whole") (a_Reader_is_whole K) := prp_ok (Z.fact 129 (f := .prp "Reader" "is_whole"))
theorem m_Reader_takes_trim (Z : Zed K mg base) : Meth K (C_Reader K) "takes_trim" (a_Reader_takes_trim K) := He.meth_ok (Z.fact 130 (f := .fa (.meth "Reader" "takes_trim")))
theorem m_Reader_takes_program (Z : Zed K mg base) : Meth K (C_Reader K) "takes_program" (a_Reader_takes_program K) := He.meth_ok (Z.fact 131 (f := .fa (.meth "Reader" "takes_program")))
theorem m_Reader_takes_from (Z : Zed K mg base) : Meth K (C_Reader K) "takes_from" (a_Reader_takes_from K) := He.meth_ok (Z.fact 132 (f := .fa (.meth "Reader" "takes_from")))
theorem m_Reader_takes_via (Z : Zed K mg base) : Meth K (C_Reader K) "takes_via" (a_Reader_takes_via K) := He.meth_ok (Z.fact 133 (f := .fa (.meth "Reader" "takes_via")))
theorem m_Reader_takes_back (Z : Zed K mg base) : Meth K (C_Reader K) "takes_back" (a_Reader_takes_back K) := He.meth_ok (Z.fact 134 (f := .fa (.meth "Reader" "takes_back")))
theorem m_Reader_takes (Z : Zed K mg base) : Meth K (C_Reader K) "takes" (a_Reader_takes K) := He.meth_ok (Z.fact 135 (f := .fa (.meth "Reader" "takes")))
theorem p_Studio_programs (Z : Zed K mg base) : Prp K (C_Studio K) "programs" (He.ma K (C_Studio K) "programs") (a_Studio_programs K) := prp_ok (Z.fact 136 (f := .prp "Studio" "programs"))
theorem p_Studio_period (Z : Zed K mg base) : Prp K (C_Studio K) "period" (He.ma K (C_Studio K) "period") (a_Studio_period K) := prp_ok (Z.fact 137 (f := .prp "Studio" "period"))
theorem p_Studio_trim (Z : Zed K mg base) : Prp K (C_Studio K) "trim" (He.ma K (C_Studio K) "trim") (a_Studio_trim K) := prp_ok (Z.fact 138 (f := .prp "Studio" "trim"))
theorem m_Level_row (Z : Zed K mg base) : Meth K (C_Level K) "row" (a_Level_row K) := He.meth_ok (Z.fact 139 (f := .fa (.meth "Level" "row")))
theorem m_Level_is_last (Z : Zed K mg base) : Meth K (C_Level K) "is_last" (a_Level_is_last K) := He.meth_ok (Z.fact 140 (f := .fa (.meth "Level" "is_last")))
theorem m_Stairs_rise (Z : Zed K mg base) : Meth K (C_Stairs K) "rise" (a_Stairs_rise K) := He.meth_ok (Z.fact 141 (f := .fa (.meth "Stairs" "rise")))
theorem m_Stairs_raised (Z : Zed K mg base) : Meth K (C_Stairs K) "raised" (a_Stairs_raised K) := He.meth_ok (Z.fact 142 (f := .fa (.meth "Stairs" "raised")))
theorem m_Stairs_settle (Z : Zed K mg base) : Meth K (C_Stairs K) "settle" (a_Stairs_settle K) := He.meth_ok (Z.fact 143 (f := .fa (.meth "Stairs" "settle")))
theorem m_Stairs_row_of (Z : Zed K mg base) : Meth K (C_Stairs K) "row_of" (a_Stairs_row_of K) := He.meth_ok (Z.fact 144 (f := .fa (.meth "Stairs" "row_of")))
theorem m_Stairs_least (Z : Zed K mg base) : Meth K (C_Stairs K) "least" (a_Stairs_least K) := He.meth_ok (Z.fact 145 (f := .fa (.meth "Stairs" "least")))
theorem m_Stairs_last (Z : Zed K mg base) : Meth K (C_Stairs K) "last" (a_Stairs_last K) := He.meth_ok (Z.fact 146 (f := .fa (.meth "Stairs" "last")))
theorem m_Stairs_soonest (Z : Zed K mg base) : Meth K (C_Stairs K) "soonest" (a_Stairs_soonest K) := He.meth_ok (Z.fact 147 (f := .fa (.meth "Stairs" "soonest")))
theorem m_Stairs_broken (Z : Zed K mg base) : Meth K (C_Stairs K) "broken" (a_Stairs_broken K) := He.meth_ok (Z.fact 148 (f := .fa (.meth "Stairs" "broken")))
theorem m_Stairs_breaking (Z : Zed K mg base) : Meth K (C_Stairs K) "breaking" (a_Stairs_breaking K) := He.meth_ok (Z.fact 149 (f := .fa (.meth "Stairs" "breaking")))
theorem m_Stairs_corners (Z : Zed K mg base) : Meth K (C_Stairs K) "corners" (a_Stairs_corners K) := He.meth_ok (Z.fact 150 (f := .fa (.meth "Stairs" "corners")))
theorem m_RoomLevel_least (Z : Zed K mg base) : Meth K (C_RoomLevel K) "least" (a_RoomLevel_least K) := He.meth_ok (Z.fact 151 (f := .fa (.meth "RoomLevel" "least")))
theorem m_RoomLevel_row (Z : Zed K mg base) : Meth K (C_RoomLevel K) "row" (a_RoomLevel_row K) := He.meth_ok (Z.fact 152 (f := .fa (.meth "RoomLevel" "row")))
theorem m_RoomLevel_is_last (Z : Zed K mg base) : Meth K (C_RoomLevel K) "is_last" (a_RoomLevel_is_last K) := He.meth_ok (Z.fact 153 (f := .fa (.meth "RoomLevel" "is_last")))
theorem k_FEED (Z : Zed K mg base) : ∃ u, mg "FEED" = some u ∧ RelV (.str "\n") u := let ⟨t, h⟩ := He.str_ok Z.kin Z.ns (Z.fact 154 (f := .fa (.str "FEED" "\n"))); ⟨_, h, t, rfl⟩
theorem k_BLANK (Z : Zed K mg base) : ∃ u, mg "BLANK" = some u ∧ RelV (.str " ") u := let ⟨t, h⟩ := He.str_ok Z.kin Z.ns (Z.fact 155 (f := .fa (.str "BLANK" " "))); ⟨_, h, t, rfl⟩
theorem k_SMALL (Z : Zed K mg base) : ∃ u, mg "SMALL" = some u ∧ RelV (.str "abcdefghijklmnopqrstuvwxyz") u := let ⟨t, h⟩ := He.str_ok Z.kin Z.ns (Z.fact 156 (f := .fa (.str "SMALL" "abcdefghijklmnopqrstuvwxyz"))); ⟨_, h, t, rfl⟩
theorem k_FIGURES (Z : Zed K mg base) : ∃ u, mg "FIGURES" = some u ∧ RelV (.str "0123456789") u := let ⟨t, h⟩ := He.str_ok Z.kin Z.ns (Z.fact 157 (f := .fa (.str "FIGURES" "0123456789"))); ⟨_, h, t, rfl⟩
theorem k_MOST_LETTERS (Z : Zed K mg base) : ∃ u, mg "MOST_LETTERS" = some u ∧ RelV (.int 8) u := let ⟨t, h⟩ := He.int_ok Z.kin Z.ns (Z.fact 158 (f := .fa (.int "MOST_LETTERS" 8))); ⟨_, h, t, rfl⟩
theorem k_DOWN (Z : Zed K mg base) : ∃ u, mg "DOWN" = some u ∧ RelV (.str "down") u := let ⟨t, h⟩ := He.str_ok Z.kin Z.ns (Z.fact 159 (f := .fa (.str "DOWN" "down"))); ⟨_, h, t, rfl⟩
theorem k_UP (Z : Zed K mg base) : ∃ u, mg "UP" = some u ∧ RelV (.str "up") u := let ⟨t, h⟩ := He.str_ok Z.kin Z.ns (Z.fact 160 (f := .fa (.str "UP" "up"))); ⟨_, h, t, rfl⟩
theorem k_NEAR (Z : Zed K mg base) : ∃ u, mg "NEAR" = some u ∧ RelV (.str "near") u := let ⟨t, h⟩ := He.str_ok Z.kin Z.ns (Z.fact 161 (f := .fa (.str "NEAR" "near"))); ⟨_, h, t, rfl⟩
theorem k_LOW (Z : Zed K mg base) : ∃ u, mg "LOW" = some u ∧ RelV (.str "low") u := let ⟨t, h⟩ := He.str_ok Z.kin Z.ns (Z.fact 162 (f := .fa (.str "LOW" "low"))); ⟨_, h, t, rfl⟩
theorem g_HOWS (Z : Zed K mg base) : mg "HOWS" = some (.ref (He.ga K "HOWS")) := He.glo_ok Z.kin Z.ns (Z.fact 163 (f := .fa (.glo "HOWS")))
theorem k_HOWS (Z : Zed K mg base) : ∃ u, mg "HOWS" = some u ∧ RelV (.ref (He.ga K "HOWS")) u := ⟨_, g_HOWS Z, rfl⟩
theorem t_HOWS (Z : Zed K mg base) (H : Hp) : SqT K H (He.ga K "HOWS") [V.str "down", V.str "low", V.str "near", V.str "up"] := He.tupB_ok (Z.fact 164 (f := .tup "HOWS" [.str "down", .str "low", .str "near", .str "up"])) H
theorem k_PAIR_rounding (Z : Zed K mg base) : ∃ u, mg "PAIR_rounding" = some u ∧ RelV (.int 2) u := let ⟨t, h⟩ := He.int_ok Z.kin Z.ns (Z.fact 165 (f := .fa (.int "PAIR_rounding" 2))); ⟨_, h, t, rfl⟩
theorem k_SLASH (Z : Zed K mg base) : ∃ u, mg "SLASH" = some u ∧ RelV (.str "/") u := let ⟨t, h⟩ := He.str_ok Z.kin Z.ns (Z.fact 166 (f := .fa (.str "SLASH" "/"))); ⟨_, h, t, rfl⟩
theorem k_START (Z : Zed K mg base) : ∃ u, mg "START" = some u ∧ RelV (.str "start") u := let ⟨t, h⟩ := He.str_ok Z.kin Z.ns (Z.fact 167 (f := .fa (.str "START" "start"))); ⟨_, h, t, rfl⟩
theorem k_END (Z : Zed K mg base) : ∃ u, mg "END" = some u ∧ RelV (.str "end") u := let ⟨t, h⟩ := He.str_ok Z.kin Z.ns (Z.fact 168 (f := .fa (.str "END" "end"))); ⟨_, h, t, rfl⟩
theorem g_SIDES (Z : Zed K mg base) : mg "SIDES" = some (.ref (He.ga K "SIDES")) := He.glo_ok Z.kin Z.ns (Z.fact 169 (f := .fa (.glo "SIDES")))
theorem k_SIDES (Z : Zed K mg base) : ∃ u, mg "SIDES" = some u ∧ RelV (.ref (He.ga K "SIDES")) u := ⟨_, g_SIDES Z, rfl⟩
theorem t_SIDES (Z : Zed K mg base) (H : Hp) : SqT K H (He.ga K "SIDES") [V.str "start", V.str "end"] := He.tupB_ok (Z.fact 170 (f := .tup "SIDES" [.str "start", .str "end"])) H
theorem k_TRIM (Z : Zed K mg base) : ∃ u, mg "TRIM" = some u ∧ RelV (.str "trim") u := let ⟨t, h⟩ := He.str_ok Z.kin Z.ns (Z.fact 171 (f := .fa (.str "TRIM" "trim"))); ⟨_, h, t, rfl⟩
theorem k_PROGRAM (Z : Zed K mg base) : ∃ u, mg "PROGRAM" = some u ∧ RelV (.str "program") u := let ⟨t, h⟩ := He.str_ok Z.kin Z.ns (Z.fact 172 (f := .fa (.str "PROGRAM" "program"))); ⟨_, h, t, rfl⟩
theorem k_FROM (Z : Zed K mg base) : ∃ u, mg "FROM" = some u ∧ RelV (.str "  from") u := let ⟨t, h⟩ := He.str_ok Z.kin Z.ns (Z.fact 173 (f := .fa (.str "FROM" "  from"))); ⟨_, h, t, rfl⟩
theorem k_VIA (Z : Zed K mg base) : ∃ u, mg "VIA" = some u ∧ RelV (.str "  via") u := let ⟨t, h⟩ := He.str_ok Z.kin Z.ns (Z.fact 174 (f := .fa (.str "VIA" "  via"))); ⟨_, h, t, rfl⟩
theorem k_BACK (Z : Zed K mg base) : ∃ u, mg "BACK" = some u ∧ RelV (.str "  back") u := let ⟨t, h⟩ := He.str_ok Z.kin Z.ns (Z.fact 175 (f := .fa (.str "BACK" "  back"))); ⟨_, h, t, rfl⟩
theorem k_INDENT (Z : Zed K mg base) : ∃ u, mg "INDENT" = some u ∧ RelV (.str "  ") u := let ⟨t, h⟩ := He.str_ok Z.kin Z.ns (Z.fact 176 (f := .fa (.str "INDENT" "  "))); ⟨_, h, t, rfl⟩
theorem k_MOST_TRIM (Z : Zed K mg base) : ∃ u, mg "MOST_TRIM" = some u ∧ RelV (.int 999) u := let ⟨t, h⟩ := He.int_ok Z.kin Z.ns (Z.fact 177 (f := .fa (.int "MOST_TRIM" 999))); ⟨_, h, t, rfl⟩
theorem k_MOST_PROGRAMS (Z : Zed K mg base) : ∃ u, mg "MOST_PROGRAMS" = some u ∧ RelV (.int 4) u := let ⟨t, h⟩ := He.int_ok Z.kin Z.ns (Z.fact 178 (f := .fa (.int "MOST_PROGRAMS" 4))); ⟨_, h, t, rfl⟩
theorem k_MOST_VIAS (Z : Zed K mg base) : ∃ u, mg "MOST_VIAS" = some u ∧ RelV (.int 3) u := let ⟨t, h⟩ := He.int_ok Z.kin Z.ns (Z.fact 179 (f := .fa (.int "MOST_VIAS" 3))); ⟨_, h, t, rfl⟩
theorem k_MOST_FIGURES (Z : Zed K mg base) : ∃ u, mg "MOST_FIGURES" = some u ∧ RelV (.int 9999) u := let ⟨t, h⟩ := He.int_ok Z.kin Z.ns (Z.fact 180 (f := .fa (.int "MOST_FIGURES" 9999))); ⟨_, h, t, rfl⟩
theorem k_MOST_PERIOD (Z : Zed K mg base) : ∃ u, mg "MOST_PERIOD" = some u ∧ RelV (.int 1200) u := let ⟨t, h⟩ := He.int_ok Z.kin Z.ns (Z.fact 181 (f := .fa (.int "MOST_PERIOD" 1200))); ⟨_, h, t, rfl⟩
theorem k_PAIR_studios (Z : Zed K mg base) : ∃ u, mg "PAIR_studios" = some u ∧ RelV (.int 2) u := let ⟨t, h⟩ := He.int_ok Z.kin Z.ns (Z.fact 182 (f := .fa (.int "PAIR_studios" 2))); ⟨_, h, t, rfl⟩
theorem k_TRIPLE (Z : Zed K mg base) : ∃ u, mg "TRIPLE" = some u ∧ RelV (.int 3) u := let ⟨t, h⟩ := He.int_ok Z.kin Z.ns (Z.fact 183 (f := .fa (.int "TRIPLE" 3))); ⟨_, h, t, rfl⟩
theorem k_PAIR_films (Z : Zed K mg base) : ∃ u, mg "PAIR_films" = some u ∧ RelV (.int 2) u := let ⟨t, h⟩ := He.int_ok Z.kin Z.ns (Z.fact 184 (f := .fa (.int "PAIR_films" 2))); ⟨_, h, t, rfl⟩
theorem k_LENGTH (Z : Zed K mg base) : ∃ u, mg "LENGTH" = some u ∧ RelV (.str "length") u := let ⟨t, h⟩ := He.str_ok Z.kin Z.ns (Z.fact 185 (f := .fa (.str "LENGTH" "length"))); ⟨_, h, t, rfl⟩
theorem k_GAP (Z : Zed K mg base) : ∃ u, mg "GAP" = some u ∧ RelV (.str "gap") u := let ⟨t, h⟩ := He.str_ok Z.kin Z.ns (Z.fact 186 (f := .fa (.str "GAP" "gap"))); ⟨_, h, t, rfl⟩
theorem k_ROOM (Z : Zed K mg base) : ∃ u, mg "ROOM" = some u ∧ RelV (.str "room") u := let ⟨t, h⟩ := He.str_ok Z.kin Z.ns (Z.fact 187 (f := .fa (.str "ROOM" "room"))); ⟨_, h, t, rfl⟩
theorem g_KINDS (Z : Zed K mg base) : mg "KINDS" = some (.ref (He.ga K "KINDS")) := He.glo_ok Z.kin Z.ns (Z.fact 188 (f := .fa (.glo "KINDS")))
theorem k_KINDS (Z : Zed K mg base) : ∃ u, mg "KINDS" = some u ∧ RelV (.ref (He.ga K "KINDS")) u := ⟨_, g_KINDS Z, rfl⟩
theorem t_KINDS (Z : Zed K mg base) (H : Hp) : SqT K H (He.ga K "KINDS") [V.str "length", V.str "gap", V.str "room"] := He.tupB_ok (Z.fact 189 (f := .tup "KINDS" [.str "length", .str "gap", .str "room"])) H
theorem k_FAR (Z : Zed K mg base) : ∃ u, mg "FAR" = some u ∧ RelV (.int 1000000000000) u := let ⟨t, h⟩ := He.int_ok Z.kin Z.ns (Z.fact 190 (f := .fa (.int "FAR" 1000000000000))); ⟨_, h, t, rfl⟩
theorem k_LASTS (Z : Zed K mg base) : ∃ u, mg "LASTS" = some u ∧ RelV (.str "lasts") u := let ⟨t, h⟩ := He.str_ok Z.kin Z.ns (Z.fact 191 (f := .fa (.str "LASTS" "lasts"))); ⟨_, h, t, rfl⟩
theorem k_BREAKS (Z : Zed K mg base) : ∃ u, mg "BREAKS" = some u ∧ RelV (.str "breaks") u := let ⟨t, h⟩ := He.str_ok Z.kin Z.ns (Z.fact 192 (f := .fa (.str "BREAKS" "breaks"))); ⟨_, h, t, rfl⟩
theorem k_NEVER (Z : Zed K mg base) : ∃ u, mg "NEVER" = some u ∧ RelV (.str "never") u := let ⟨t, h⟩ := He.str_ok Z.kin Z.ns (Z.fact 193 (f := .fa (.str "NEVER" "never"))); ⟨_, h, t, rfl⟩
theorem k_ANY (Z : Zed K mg base) : ∃ u, mg "ANY" = some u ∧ RelV (.str "any") u := let ⟨t, h⟩ := He.str_ok Z.kin Z.ns (Z.fact 194 (f := .fa (.str "ANY" "any"))); ⟨_, h, t, rfl⟩
theorem f_abs (Z : Zed K mg base) : mg "abs" = none := He.free_ok Z.kin Z.ns (Z.fact 195 (f := .fa (.free "abs")))
theorem f_all (Z : Zed K mg base) : mg "all" = none := He.free_ok Z.kin Z.ns (Z.fact 196 (f := .fa (.free "all")))
theorem f_bool (Z : Zed K mg base) : mg "bool" = none := He.free_ok Z.kin Z.ns (Z.fact 197 (f := .fa (.free "bool")))
theorem f_enumerate (Z : Zed K mg base) : mg "enumerate" = none := He.free_ok Z.kin Z.ns (Z.fact 198 (f := .fa (.free "enumerate")))
theorem f_int (Z : Zed K mg base) : mg "int" = none := He.free_ok Z.kin Z.ns (Z.fact 199 (f := .fa (.free "int")))
theorem f_isinstance (Z : Zed K mg base) : mg "isinstance" = none := He.free_ok Z.kin Z.ns (Z.fact 200 (f := .fa (.free "isinstance")))
theorem f_len (Z : Zed K mg base) : mg "len" = none := He.free_ok Z.kin Z.ns (Z.fact 201 (f := .fa (.free "len")))
theorem f_list (Z : Zed K mg base) : mg "list" = none := He.free_ok Z.kin Z.ns (Z.fact 202 (f := .fa (.free "list")))
theorem f_max (Z : Zed K mg base) : mg "max" = none := He.free_ok Z.kin Z.ns (Z.fact 203 (f := .fa (.free "max")))
theorem f_min (Z : Zed K mg base) : mg "min" = none := He.free_ok Z.kin Z.ns (Z.fact 204 (f := .fa (.free "min")))
theorem f_range (Z : Zed K mg base) : mg "range" = none := He.free_ok Z.kin Z.ns (Z.fact 205 (f := .fa (.free "range")))
theorem f_repr (Z : Zed K mg base) : mg "repr" = none := He.free_ok Z.kin Z.ns (Z.fact 206 (f := .fa (.free "repr")))
theorem f_str (Z : Zed K mg base) : mg "str" = none := He.free_ok Z.kin Z.ns (Z.fact 207 (f := .fa (.free "str")))
theorem f_tuple (Z : Zed K mg base) : mg "tuple" = none := He.free_ok Z.kin Z.ns (Z.fact 208 (f := .fa (.free "tuple")))
theorem f_zip (Z : Zed K mg base) : mg "zip" = none := He.free_ok Z.kin Z.ns (Z.fact 209 (f := .fa (.free "zip")))
theorem td_SIDES (Z : Zed K mg base) : ∃ o, K.lookup (He.ga K "SIDES") = some o ∧ o.cls = .type "tuple" ∧ o.dict = none := tupd_ok (Z.fact 210 (f := .tupd "SIDES"))
end
abbrev N_placed : List Str := ["row", "period", "time"]
abbrev ps_placed : List Str := ["row", "period", "time"]
theorem sco_placed : FnScope N_placed ps_placed (defScope s_placed) := C8.fnScope_by (by decide +kernel)
abbrev N_Map_init : List Str := ["self", "period", "row"]
abbrev ps_Map_init : List Str := ["self", "period", "row"]
theorem sco_Map_init : FnScope N_Map_init ps_Map_init (defScope s_Map_init) := C8.fnScope_by (by decide +kernel)
abbrev N_Map_at : List Str := ["self", "time"]
abbrev ps_Map_at : List Str := ["self", "time"]
theorem sco_Map_at : FnScope N_Map_at ps_Map_at (defScope s_Map_at) := C8.fnScope_by (by decide +kernel)
abbrev N_Map_least : List Str := ["self", "goal"]
abbrev ps_Map_least : List Str := ["self", "goal"]
theorem sco_Map_least : FnScope N_Map_least ps_Map_least (defScope s_Map_least) := C8.fnScope_by (by decide +kernel)
abbrev N_least_times : List Str := ["period", "row", "found", "time", "goal", "later"]
abbrev ps_least_times : List Str := ["period", "row"]
theorem sco_least_times : FnScope N_least_times ps_least_times (defScope s_least_times) := C8.fnScope_by (by decide +kernel)
abbrev N_is_integer : List Str := ["value", "low", "high"]
abbrev ps_is_integer : List Str := ["value", "low", "high"]
theorem sco_is_integer : FnScope N_is_integer ps_is_integer (defScope s_is_integer) := C8.fnScope_by (by decide +kernel)
abbrev N_is_tuple : List Str := ["value", "least", "most"]
abbrev ps_is_tuple : List Str := ["value", "least", "most"]
theorem sco_is_tuple : FnScope N_is_tuple ps_is_tuple (defScope s_is_tuple) := C8.fnScope_by (by decide +kernel)
abbrev N_is_said : List Str := ["value", "words"]
abbrev ps_is_said : List Str := ["value", "words"]
theorem sco_is_said : FnScope N_is_said ps_is_said (defScope s_is_said) := C8.fnScope_by (by decide +kernel)
abbrev N_is_word : List Str := ["value", "letter"]
abbrev ps_is_word : List Str := ["value"]
theorem sco_is_word : FnScope N_is_word ps_is_word (defScope s_is_word) := C8.fnScope_by (by decide +kernel)
abbrev N_number_in : List Str := ["word", "figure"]
abbrev ps_number_in : List Str := ["word"]
theorem sco_number_in : FnScope N_number_in ps_number_in (defScope s_number_in) := C8.fnScope_by (by decide +kernel)
abbrev N_integer_in : List Str := ["word", "number"]
abbrev ps_integer_in : List Str := ["word"]
theorem sco_integer_in : FnScope N_integer_in ps_integer_in (defScope s_integer_in) := C8.fnScope_by (by decide +kernel)
abbrev N_common : List Str := ["one", "other"]
abbrev ps_common : List Str := ["one", "other"]
theorem sco_common : FnScope N_common ps_common (defScope s_common) := C8.fnScope_by (by decide +kernel)
abbrev N_ratio_in : List Str := ["word", "parts", "above", "under"]
abbrev ps_ratio_in : List Str := ["word"]
theorem sco_ratio_in : FnScope N_ratio_in ps_ratio_in (defScope s_ratio_in) := C8.fnScope_by (by decide +kernel)
abbrev N_nearest : List Str := ["above", "under", "is_up"]
abbrev ps_nearest : List Str := ["above", "under", "is_up"]
theorem sco_nearest : FnScope N_nearest ps_nearest (defScope s_nearest) := C8.fnScope_by (by decide +kernel)
abbrev N_round_to : List Str := ["above", "under", "how"]
abbrev ps_round_to : List Str := ["above", "under", "how"]
theorem sco_round_to : FnScope N_round_to ps_round_to (defScope s_round_to) := C8.fnScope_by (by decide +kernel)
abbrev N_carried_home : List Str := ["begin", "steps", "hows", "time", "above", "under", "step", "how", "number"]
abbrev ps_carried_home : List Str := ["begin", "steps", "hows", "time"]
theorem sco_carried_home : FnScope N_carried_home ps_carried_home (defScope s_carried_home) := C8.fnScope_by (by decide +kernel)
abbrev N_Program_init : List Str := ["self", "name"]
abbrev ps_Program_init : List Str := ["self", "name"]
theorem sco_Program_init : FnScope N_Program_init ps_Program_init (defScope s_Program_init) := C8.fnScope_by (by decide +kernel)
abbrev N_Program_begin : List Str := ["self"]
abbrev ps_Program_begin : List Str := ["self"]
theorem sco_Program_begin : FnScope N_Program_begin ps_Program_begin (defScope s_Program_begin) := C8.fnScope_by (by decide +kernel)
abbrev N_Program_steps : List Str := ["self", "via"]
abbrev ps_Program_steps : List Str := ["self"]
theorem sco_Program_steps : FnScope N_Program_steps ps_Program_steps (defScope s_Program_steps) := C8.fnScope_by (by decide +kernel)
abbrev N_Program_hows : List Str := ["self", "side", "place", "via"]
abbrev ps_Program_hows : List Str := ["self", "side"]
theorem sco_Program_hows : FnScope N_Program_hows ps_Program_hows (defScope s_Program_hows) := C8.fnScope_by (by decide +kernel)
abbrev N_Program_carried : List Str := ["self", "side", "time"]
abbrev ps_Program_carried : List Str := ["self", "side", "time"]
theorem sco_Program_carried : FnScope N_Program_carried ps_Program_carried (defScope s_Program_carried) := C8.fnScope_by (by decide +kernel)
abbrev N_told_ratio : List Str := ["word", "least", "ratio"]
abbrev ps_told_ratio : List Str := ["word", "least"]
theorem sco_told_ratio : FnScope N_told_ratio ps_told_ratio (defScope s_told_ratio) := C8.fnScope_by (by decide +kernel)
abbrev N_words_behind : List Str := ["line", "head"]
abbrev ps_words_behind : List Str := ["line", "head"]
theorem sco_words_behind : FnScope N_words_behind ps_words_behind (defScope s_words_behind) := C8.fnScope_by (by decide +kernel)
abbrev N_Reader_init : List Str := ["self"]
abbrev ps_Reader_init : List Str := ["self"]
theorem sco_Reader_init : FnScope N_Reader_init ps_Reader_init (defScope s_Reader_init) := C8.fnScope_by (by decide +kernel)
abbrev N_Reader_is_whole : List Str := ["self"]
abbrev ps_Reader_is_whole : List Str := ["self"]
theorem sco_Reader_is_whole : FnScope N_Reader_is_whole ps_Reader_is_whole (defScope s_Reader_is_whole) := C8.fnScope_by (by decide +kernel)
abbrev N_Reader_takes_trim : List Str := ["self", "line", "words", "number"]
abbrev ps_Reader_takes_trim : List Str := ["self", "line"]
theorem sco_Reader_takes_trim : FnScope N_Reader_takes_trim ps_Reader_takes_trim (defScope s_Reader_takes_trim) := C8.fnScope_by (by decide +kernel)
abbrev N_Reader_takes_program : List Str := ["self", "line", "words", "one"]
abbrev ps_Reader_takes_program : List Str := ["self", "line"]
theorem sco_Reader_takes_program : FnScope N_Reader_takes_program ps_Reader_takes_program (defScope s_Reader_takes_program) := C8.fnScope_by (by decide +kernel)
abbrev N_Reader_takes_from : List Str := ["self", "program", "line", "words"]
abbrev ps_Reader_takes_from : List Str := ["self", "program", "line"]
theorem sco_Reader_takes_from : FnScope N_Reader_takes_from ps_Reader_takes_from (defScope s_Reader_takes_from) := C8.fnScope_by (by decide +kernel)
abbrev N_Reader_takes_via : List Str := ["self", "program", "line", "words", "ratio", "how"]
abbrev ps_Reader_takes_via : List Str := ["self", "program", "line"]
theorem sco_Reader_takes_via : FnScope N_Reader_takes_via ps_Reader_takes_via (defScope s_Reader_takes_via) := C8.fnScope_by (by decide +kernel)
abbrev N_Reader_takes_back : List Str := ["self", "program", "line", "words", "how"]
abbrev ps_Reader_takes_back : List Str := ["self", "program", "line"]
theorem sco_Reader_takes_back : FnScope N_Reader_takes_back ps_Reader_takes_back (defScope s_Reader_takes_back) := C8.fnScope_by (by decide +kernel)
abbrev N_Reader_takes : List Str := ["self", "line", "program"]
abbrev ps_Reader_takes : List Str := ["self", "line"]
theorem sco_Reader_takes : FnScope N_Reader_takes ps_Reader_takes (defScope s_Reader_takes) := C8.fnScope_by (by decide +kernel)
abbrev N_read_lines : List Str := ["text", "reader", "lines", "number", "line"]
abbrev ps_read_lines : List Str := ["text"]
theorem sco_read_lines : FnScope N_read_lines ps_read_lines (defScope s_read_lines) := C8.fnScope_by (by decide +kernel)
abbrev N_period_of : List Str := ["programs", "found", "program", "above", "under"]
abbrev ps_period_of : List Str := ["programs"]
theorem sco_period_of : FnScope N_period_of ps_period_of (defScope s_period_of) := C8.fnScope_by (by decide +kernel)
abbrev N_Studio_init : List Str := ["self", "text", "reader", "side", "rows", "program", "one", "row", "time"]
abbrev ps_Studio_init : List Str := ["self", "text"]
theorem sco_Studio_init : FnScope N_Studio_init ps_Studio_init (defScope s_Studio_init) := C8.fnScope_by (by decide +kernel)
abbrev N_Studio_programs : List Str := ["self"]
abbrev ps_Studio_programs : List Str := ["self"]
theorem sco_Studio_programs : FnScope N_Studio_programs ps_Studio_programs (defScope s_Studio_programs) := C8.fnScope_by (by decide +kernel)
abbrev N_Studio_period : List Str := ["self"]
abbrev ps_Studio_period : List Str := ["self"]
theorem sco_Studio_period : FnScope N_Studio_period ps_Studio_period (defScope s_Studio_period) := C8.fnScope_by (by decide +kernel)
abbrev N_Studio_trim : List Str := ["self"]
abbrev ps_Studio_trim : List Str := ["self"]
theorem sco_Studio_trim : FnScope N_Studio_trim ps_Studio_trim (defScope s_Studio_trim) := C8.fnScope_by (by decide +kernel)
abbrev N_is_pair : List Str := ["value"]
abbrev ps_is_pair : List Str := ["value"]
theorem sco_is_pair : FnScope N_is_pair ps_is_pair (defScope s_is_pair) := C8.fnScope_by (by decide +kernel)
abbrev N_Level_init : List Str := ["self", "row"]
abbrev ps_Level_init : List Str := ["self", "row"]
theorem sco_Level_init : FnScope N_Level_init ps_Level_init (defScope s_Level_init) := C8.fnScope_by (by decide +kernel)
abbrev N_Level_row : List Str := ["self", "many"]
abbrev ps_Level_row : List Str := ["self", "many"]
theorem sco_Level_row : FnScope N_Level_row ps_Level_row (defScope s_Level_row) := C8.fnScope_by (by decide +kernel)
abbrev N_Level_is_last : List Str := ["self", "many"]
abbrev ps_Level_is_last : List Str := ["self", "many"]
theorem sco_Level_is_last : FnScope N_Level_is_last ps_Level_is_last (defScope s_Level_is_last) := C8.fnScope_by (by decide +kernel)
abbrev N_Stairs_init : List Str := ["self", "period", "steps", "level"]
abbrev ps_Stairs_init : List Str := ["self", "period", "steps", "level"]
theorem sco_Stairs_init : FnScope N_Stairs_init ps_Stairs_init (defScope s_Stairs_init) := C8.fnScope_by (by decide +kernel)
abbrev N_Stairs_rise : List Str := ["self", "many", "last", "level", "row", "time", "least"]
abbrev ps_Stairs_rise : List Str := ["self"]
theorem sco_Stairs_rise : FnScope N_Stairs_rise ps_Stairs_rise (defScope s_Stairs_rise) := C8.fnScope_by (by decide +kernel)
abbrev N_Stairs_raised : List Str := ["self", "time", "row", "found", "first", "second"]
abbrev ps_Stairs_raised : List Str := ["self", "time"]
theorem sco_Stairs_raised : FnScope N_Stairs_raised ps_Stairs_raised (defScope s_Stairs_raised) := C8.fnScope_by (by decide +kernel)
abbrev N_Stairs_settle : List Str := ["self", "most"]
abbrev ps_Stairs_settle : List Str := ["self", "most"]
theorem sco_Stairs_settle : FnScope N_Stairs_settle ps_Stairs_settle (defScope s_Stairs_settle) := C8.fnScope_by (by decide +kernel)
abbrev N_Stairs_row_of : List Str := ["self", "many"]
abbrev ps_Stairs_row_of : List Str := ["self", "many"]
theorem sco_Stairs_row_of : FnScope N_Stairs_row_of ps_Stairs_row_of (defScope s_Stairs_row_of) := C8.fnScope_by (by decide +kernel)
abbrev N_Stairs_least : List Str := ["self", "many", "time"]
abbrev ps_Stairs_least : List Str := ["self", "many", "time"]
theorem sco_Stairs_least : FnScope N_Stairs_least ps_Stairs_least (defScope s_Stairs_least) := C8.fnScope_by (by decide +kernel)
abbrev N_Stairs_last : List Str := ["self", "time"]
abbrev ps_Stairs_last : List Str := ["self", "time"]
theorem sco_Stairs_last : FnScope N_Stairs_last ps_Stairs_last (defScope s_Stairs_last) := C8.fnScope_by (by decide +kernel)
abbrev N_Stairs_soonest : List Str := ["self", "pair", "most", "many"]
abbrev ps_Stairs_soonest : List Str := ["self", "pair", "most"]
theorem sco_Stairs_soonest : FnScope N_Stairs_soonest ps_Stairs_soonest (defScope s_Stairs_soonest) := C8.fnScope_by (by decide +kernel)
abbrev N_Stairs_broken : List Str := ["self", "pair", "many", "first", "second", "found", "left", "number", "one", "other"]
abbrev ps_Stairs_broken : List Str := ["self", "pair", "many"]
theorem sco_Stairs_broken : FnScope N_Stairs_broken ps_Stairs_broken (defScope s_Stairs_broken) := C8.fnScope_by (by decide +kernel)
abbrev N_Stairs_breaking : List Str := ["self", "first", "second", "left", "number", "one", "other"]
abbrev ps_Stairs_breaking : List Str := ["self", "first", "second", "left"]
theorem sco_Stairs_breaking : FnScope N_Stairs_breaking ps_Stairs_breaking (defScope s_Stairs_breaking) := C8.fnScope_by (by decide +kernel)
abbrev N_Stairs_corners : List Str := ["self", "found", "time"]
abbrev ps_Stairs_corners : List Str := ["self"]
theorem sco_Stairs_corners : FnScope N_Stairs_corners ps_Stairs_corners (defScope s_Stairs_corners) := C8.fnScope_by (by decide +kernel)
abbrev N_RoomLevel_init : List Str := ["self", "period", "maps", "trim", "lengths"]
abbrev ps_RoomLevel_init : List Str := ["self", "period", "maps", "trim", "lengths"]
theorem sco_RoomLevel_init : FnScope N_RoomLevel_init ps_RoomLevel_init (defScope s_RoomLevel_init) := C8.fnScope_by (by decide +kernel)
abbrev N_RoomLevel_least : List Str := ["self", "row", "time", "found", "one"]
abbrev ps_RoomLevel_least : List Str := ["self", "row", "time"]
theorem sco_RoomLevel_least : FnScope N_RoomLevel_least ps_RoomLevel_least (defScope s_RoomLevel_least) := C8.fnScope_by (by decide +kernel)
abbrev N_RoomLevel_row : List Str := ["self", "many", "row", "time"]
abbrev ps_RoomLevel_row : List Str := ["self", "many"]
theorem sco_RoomLevel_row : FnScope N_RoomLevel_row ps_RoomLevel_row (defScope s_RoomLevel_row) := C8.fnScope_by (by decide +kernel)
abbrev N_RoomLevel_is_last : List Str := ["self", "many"]
abbrev ps_RoomLevel_is_last : List Str := ["self", "many"]
theorem sco_RoomLevel_is_last : FnScope N_RoomLevel_is_last ps_RoomLevel_is_last (defScope s_RoomLevel_is_last) := C8.fnScope_by (by decide +kernel)
abbrev N_is_any : List Str := ["studio", "kind"]
abbrev ps_is_any : List Str := ["studio", "kind"]
theorem sco_is_any : FnScope N_is_any ps_is_any (defScope s_is_any) := C8.fnScope_by (by decide +kernel)
abbrev N_steps_of : List Str := ["studio", "kind", "starts", "ends"]
abbrev ps_steps_of : List Str := ["studio", "kind"]
theorem sco_steps_of : FnScope N_steps_of ps_steps_of (defScope s_steps_of) := C8.fnScope_by (by decide +kernel)
abbrev N_level_of : List Str := ["studio", "kind", "time"]
abbrev ps_level_of : List Str := ["studio", "kind"]
theorem sco_level_of : FnScope N_level_of ps_level_of (defScope s_level_of) := C8.fnScope_by (by decide +kernel)
abbrev N_stairs_of : List Str := ["studio", "kind", "found"]
abbrev ps_stairs_of : List Str := ["studio", "kind"]
theorem sco_stairs_of : FnScope N_stairs_of ps_stairs_of (defScope s_stairs_of) := C8.fnScope_by (by decide +kernel)
abbrev N_is_ever : List Str := ["studio", "kind"]
abbrev ps_is_ever : List Str := ["studio", "kind"]
theorem sco_is_ever : FnScope N_is_ever ps_is_ever (defScope s_is_ever) := C8.fnScope_by (by decide +kernel)
abbrev N_does_last : List Str := ["studio", "kind", "pair"]
abbrev ps_does_last : List Str := ["studio", "kind", "pair"]
theorem sco_does_last : FnScope N_does_last ps_does_last (defScope s_does_last) := C8.fnScope_by (by decide +kernel)
abbrev N_names_of : List Str := ["studio", "numbers", "number"]
abbrev ps_names_of : List Str := ["studio", "numbers"]
theorem sco_names_of : FnScope N_names_of ps_names_of (defScope s_names_of) := C8.fnScope_by (by decide +kernel)
abbrev N_room_broken : List Str := ["studio", "pair", "many", "rooms", "lengths", "starts", "first", "second", "numbers", "left", "number", "one", "cut", "more"]
abbrev ps_room_broken : List Str := ["studio", "pair", "many"]
theorem sco_room_broken : FnScope N_room_broken ps_room_broken (defScope s_room_broken) := C8.fnScope_by (by decide +kernel)
abbrev N_breaking : List Str := ["studio", "kind", "pair", "stairs", "many", "row", "program", "more"]
abbrev ps_breaking : List Str := ["studio", "kind", "pair"]
theorem sco_breaking : FnScope N_breaking ps_breaking (defScope s_breaking) := C8.fnScope_by (by decide +kernel)
abbrev N_check_kind : List Str := ["value"]
abbrev ps_check_kind : List Str := ["value"]
theorem sco_check_kind : FnScope N_check_kind ps_check_kind (defScope s_check_kind) := C8.fnScope_by (by decide +kernel)
abbrev N_check_pair : List Str := ["value"]
abbrev ps_check_pair : List Str := ["value"]
theorem sco_check_pair : FnScope N_check_pair ps_check_pair (defScope s_check_pair) := C8.fnScope_by (by decide +kernel)
abbrev N_is_shelter : List Str := ["value", "corner"]
abbrev ps_is_shelter : List Str := ["value"]
theorem sco_is_shelter : FnScope N_is_shelter ps_is_shelter (defScope s_is_shelter) := C8.fnScope_by (by decide +kernel)
abbrev N_check_shelter : List Str := ["value"]
abbrev ps_check_shelter : List Str := ["value"]
theorem sco_check_shelter : FnScope N_check_shelter ps_check_shelter (defScope s_check_shelter) := C8.fnScope_by (by decide +kernel)
abbrev N_saved_by : List Str := ["steps", "number", "pair", "first", "second"]
abbrev ps_saved_by : List Str := ["steps", "number", "pair"]
theorem sco_saved_by : FnScope N_saved_by ps_saved_by (defScope s_saved_by) := C8.fnScope_by (by decide +kernel)
abbrev N_is_sound : List Str := ["studio", "kind", "pair", "cuts", "one", "other", "cut"]
abbrev ps_is_sound : List Str := ["studio", "kind", "pair"]
theorem sco_is_sound : FnScope N_is_sound ps_is_sound (defScope s_is_sound) := C8.fnScope_by (by decide +kernel)
abbrev N_has_pair : List Str := ["period", "shelter", "pair", "first", "second", "laps"]
abbrev ps_has_pair : List Str := ["period", "shelter", "pair"]
theorem sco_has_pair : FnScope N_has_pair ps_has_pair (defScope s_has_pair) := C8.fnScope_by (by decide +kernel)
abbrev N_is_shut : List Str := ["studio", "kind", "shelter", "steps", "corner", "number"]
abbrev ps_is_shut : List Str := ["studio", "kind", "shelter"]
theorem sco_is_shut : FnScope N_is_shut ps_is_shut (defScope s_is_shut) := C8.fnScope_by (by decide +kernel)
abbrev N_is_closed : List Str := ["studio", "kind", "shelter"]
abbrev ps_is_closed : List Str := ["studio", "kind", "shelter"]
theorem sco_is_closed : FnScope N_is_closed ps_is_closed (defScope s_is_closed) := C8.fnScope_by (by decide +kernel)
abbrev N_never_row : List Str := ["studio", "kind"]
abbrev ps_never_row : List Str := ["studio", "kind"]
theorem sco_never_row : FnScope N_never_row ps_never_row (defScope s_never_row) := C8.fnScope_by (by decide +kernel)
abbrev N_lasts : List Str := ["studio", "kind", "pair"]
abbrev ps_lasts : List Str := ["studio", "kind", "pair"]
theorem sco_lasts : FnScope N_lasts ps_lasts (defScope s_lasts) := C8.fnScope_by (by decide +kernel)
abbrev N_q_pot : List Str := ["_law_script", "_law_place", "_law_cell", "_law_own", "_law_small"]
abbrev ps_q_pot : List Str := ["_law_script", "_law_place"]
theorem sco_q_pot : FnScope N_q_pot ps_q_pot (defScope s_q_pot) := C8.fnScope_by (by decide +kernel)
abbrev N_q_take : List Str := ["_law_pot_here", "_law_upto", "_law_digit", "_law_prime", "_law_mixed"]
abbrev ps_q_take : List Str := ["_law_pot_here", "_law_upto"]
theorem sco_q_take : FnScope N_q_take ps_q_take (defScope s_q_take) := C8.fnScope_by (by decide +kernel)
abbrev N_q_of : List Str := ["_law_pot_here", "_law_some_here"]
abbrev ps_q_of : List Str := ["_law_pot_here", "_law_some_here"]
theorem sco_q_of : FnScope N_q_of ps_q_of (defScope s_q_of) := C8.fnScope_by (by decide +kernel)
abbrev N_q_some : List Str := ["_law_pot_here", "_law_pool", "_law_many", "_law_left", "_law_found", "_law_lap"]
abbrev ps_q_some : List Str := ["_law_pot_here", "_law_pool", "_law_many"]
theorem sco_q_some : FnScope N_q_some ps_q_some (defScope s_q_some) := C8.fnScope_by (by decide +kernel)
abbrev N_q_cells : List Str := ["_law_script", "_law_most"]
abbrev ps_q_cells : List Str := ["_law_script", "_law_most"]
theorem sco_q_cells : FnScope N_q_cells ps_q_cells (defScope s_q_cells) := C8.fnScope_by (by decide +kernel)
abbrev N_q_is_int : List Str := ["_law_value"]
abbrev ps_q_is_int : List Str := ["_law_value"]
theorem sco_q_is_int : FnScope N_q_is_int ps_q_is_int (defScope s_q_is_int) := C8.fnScope_by (by decide +kernel)
abbrev N_q_names : List Str := []
abbrev ps_q_names : List Str := []
theorem sco_q_names : FnScope N_q_names ps_q_names (defScope s_q_names) := C8.fnScope_by (by decide +kernel)
abbrev N_q_common : List Str := ["_law_one", "_law_other", "_law_left", "_law_right_here"]
abbrev ps_q_common : List Str := ["_law_one", "_law_other"]
theorem sco_q_common : FnScope N_q_common ps_q_common (defScope s_q_common) := C8.fnScope_by (by decide +kernel)
abbrev N_q_joint : List Str := ["_law_one", "_law_other"]
abbrev ps_q_joint : List Str := ["_law_one", "_law_other"]
theorem sco_q_joint : FnScope N_q_joint ps_q_joint (defScope s_q_joint) := C8.fnScope_by (by decide +kernel)
abbrev N_q_least_terms : List Str := ["_law_above", "_law_under", "_law_by"]
abbrev ps_q_least_terms : List Str := ["_law_above", "_law_under"]
theorem sco_q_least_terms : FnScope N_q_least_terms ps_q_least_terms (defScope s_q_least_terms) := C8.fnScope_by (by decide +kernel)
abbrev N_q_ratio_text : List Str := ["_law_ratio"]
abbrev ps_q_ratio_text : List Str := ["_law_ratio"]
theorem sco_q_ratio_text : FnScope N_q_ratio_text ps_q_ratio_text (defScope s_q_ratio_text) := C8.fnScope_by (by decide +kernel)
abbrev N_q_hows : List Str := ["_law_pot_here", "_law_slips", "_law_some_here", "_law_first"]
abbrev ps_q_hows : List Str := ["_law_pot_here", "_law_slips"]
theorem sco_q_hows : FnScope N_q_hows ps_q_hows (defScope s_q_hows) := C8.fnScope_by (by decide +kernel)
abbrev N_q_vias : List Str := ["_law_pot_here", "_law_tops", "_law_found", "_law_lap", "_law_ratio"]
abbrev ps_q_vias : List Str := ["_law_pot_here", "_law_tops"]
theorem sco_q_vias : FnScope N_q_vias ps_q_vias (defScope s_q_vias) := C8.fnScope_by (by decide +kernel)
abbrev N_q_lore : List Str := ["_law_pot_here", "_law_programs", "_law_tops", "_law_has_trim", "_law_lore_here", "_law_name", "_law_begin", "_law_vias_here"]
abbrev ps_q_lore : List Str := ["_law_pot_here", "_law_programs", "_law_tops", "_law_has_trim"]
theorem sco_q_lore : FnScope N_q_lore ps_q_lore (defScope s_q_lore) := C8.fnScope_by (by decide +kernel)
abbrev N_q_text : List Str := ["_law_lore_here", "_law_lines", "_law_name", "_law_begin", "_law_vias_here", "_law_back", "_law_ratio", "_law_one", "_law_other"]
abbrev ps_q_text : List Str := ["_law_lore_here"]
theorem sco_q_text : FnScope N_q_text ps_q_text (defScope s_q_text) := C8.fnScope_by (by decide +kernel)
abbrev N_q_period : List Str := ["_law_lore_here", "_law_found", "_law_name", "_law_begin", "_law_vias_here", "_law_back", "_law_ratio", "_law_one", "_law_other"]
abbrev ps_q_period : List Str := ["_law_lore_here"]
theorem sco_q_period : FnScope N_q_period ps_q_period (defScope s_q_period) := C8.fnScope_by (by decide +kernel)
abbrev N_q_round : List Str := ["_law_above", "_law_under", "_law_how", "_law_low", "_law_rest"]
abbrev ps_q_round : List Str := ["_law_above", "_law_under", "_law_how"]
theorem sco_q_round : FnScope N_q_round ps_q_round (defScope s_q_round) := C8.fnScope_by (by decide +kernel)
abbrev N_q_carry : List Str := ["_law_program_here", "_law_side", "_law_time", "_law_name", "_law_begin", "_law_vias_here", "_law_back", "_law_at", "_law_above", "_law_under", "_law_via", "_law_number"]
abbrev ps_q_carry : List Str := ["_law_program_here", "_law_side", "_law_time"]
theorem sco_q_carry : FnScope N_q_carry ps_q_carry (defScope s_q_carry) := C8.fnScope_by (by decide +kernel)
abbrev N_q_program : List Str := ["_law_lore_here", "_law_name", "_law_program_here"]
abbrev ps_q_program : List Str := ["_law_lore_here", "_law_name"]
theorem sco_q_program : FnScope N_q_program ps_q_program (defScope s_q_program) := C8.fnScope_by (by decide +kernel)
abbrev N_q_program_names : List Str := ["_law_lore_here", "_law_program_here"]
abbrev ps_q_program_names : List Str := ["_law_lore_here"]
theorem sco_q_program_names : FnScope N_q_program_names ps_q_program_names (defScope s_q_program_names) := C8.fnScope_by (by decide +kernel)
abbrev N_q_kind_sides : List Str := ["_law_kind"]
abbrev ps_q_kind_sides : List Str := ["_law_kind"]
theorem sco_q_kind_sides : FnScope N_q_kind_sides ps_q_kind_sides (defScope s_q_kind_sides) := C8.fnScope_by (by decide +kernel)
abbrev N_q_pair_saved : List Str := ["_law_lore_here", "_law_kind", "_law_pair", "_law_name", "_law_program_here", "_law_sides"]
abbrev ps_q_pair_saved : List Str := ["_law_lore_here", "_law_kind", "_law_pair", "_law_name"]
theorem sco_q_pair_saved : FnScope N_q_pair_saved ps_q_pair_saved (defScope s_q_pair_saved) := C8.fnScope_by (by decide +kernel)
abbrev N_q_is_row : List Str := ["_law_lore_here", "_law_value", "_law_names_here", "_law_name"]
abbrev ps_q_is_row : List Str := ["_law_lore_here", "_law_value"]
theorem sco_q_is_row : FnScope N_q_is_row ps_q_is_row (defScope s_q_is_row) := C8.fnScope_by (by decide +kernel)
abbrev N_q_slipping : List Str := ["_law_pot_here", "_law_lore_here", "_law_programs", "_law_name", "_law_begin", "_law_vias_here", "_law_back", "_law_way", "_law_via"]
abbrev ps_q_slipping : List Str := ["_law_pot_here", "_law_lore_here"]
theorem sco_q_slipping : FnScope N_q_slipping ps_q_slipping (defScope s_q_slipping) := C8.fnScope_by (by decide +kernel)
abbrev N_q_is_pair : List Str := ["_law_value"]
abbrev ps_q_is_pair : List Str := ["_law_value"]
theorem sco_q_is_pair : FnScope N_q_is_pair ps_q_is_pair (defScope s_q_is_pair) := C8.fnScope_by (by decide +kernel)
abbrev N_q_own_stairs : List Str := ["_law_lore_here", "_law_kind", "_law_period_here", "_law_names_here", "_law_sides", "_law_found", "_law_is_new", "_law_time", "_law_place"]
abbrev ps_q_own_stairs : List Str := ["_law_lore_here", "_law_kind"]
theorem sco_q_own_stairs : FnScope N_q_own_stairs ps_q_own_stairs (defScope s_q_own_stairs) := C8.fnScope_by (by decide +kernel)
abbrev N_q_least_there : List Str := ["_law_found", "_law_period_here", "_law_time"]
abbrev ps_q_least_there : List Str := ["_law_found", "_law_period_here", "_law_time"]
theorem sco_q_least_there : FnScope N_q_least_there ps_q_least_there (defScope s_q_least_there) := C8.fnScope_by (by decide +kernel)
abbrev N_q_can_stay : List Str := ["_law_lore_here", "_law_names_here", "_law_sides", "_law_period_here", "_law_found", "_law_time", "_law_place", "_law_name", "_law_program_here", "_law_first", "_law_second"]
abbrev ps_q_can_stay : List Str := ["_law_lore_here", "_law_names_here", "_law_sides", "_law_period_here", "_law_found", "_law_time", "_law_place"]
theorem sco_q_can_stay : FnScope N_q_can_stay ps_q_can_stay (defScope s_q_can_stay) := C8.fnScope_by (by decide +kernel)
abbrev N_q_does_stay : List Str := ["_law_lore_here", "_law_kind", "_law_found", "_law_pair"]
abbrev ps_q_does_stay : List Str := ["_law_lore_here", "_law_kind", "_law_found", "_law_pair"]
theorem sco_q_does_stay : FnScope N_q_does_stay ps_q_does_stay (defScope s_q_does_stay) := C8.fnScope_by (by decide +kernel)
abbrev N_q_in_shelter : List Str := ["_law_lore_here", "_law_shelter", "_law_pair", "_law_period_here", "_law_first", "_law_second", "_law_laps"]
abbrev ps_q_in_shelter : List Str := ["_law_lore_here", "_law_shelter", "_law_pair"]
theorem sco_q_in_shelter : FnScope N_q_in_shelter ps_q_in_shelter (defScope s_q_in_shelter) := C8.fnScope_by (by decide +kernel)
abbrev N_q_is_shelter : List Str := ["_law_value", "_law_one"]
abbrev ps_q_is_shelter : List Str := ["_law_value"]
theorem sco_q_is_shelter : FnScope N_q_is_shelter ps_q_is_shelter (defScope s_q_is_shelter) := C8.fnScope_by (by decide +kernel)
abbrev N_q_is_cut_fine : List Str := ["_law_lore_here", "_law_stairs", "_law_pair", "_law_name", "_law_first", "_law_second"]
abbrev ps_q_is_cut_fine : List Str := ["_law_lore_here", "_law_stairs", "_law_pair"]
theorem sco_q_is_cut_fine : FnScope N_q_is_cut_fine ps_q_is_cut_fine (defScope s_q_is_cut_fine) := C8.fnScope_by (by decide +kernel)
abbrev N_q_do_rooms_last : List Str := ["_law_lore_here", "_law_stairs", "_law_pair", "_law_period_here", "_law_known", "_law_left", "_law_first", "_law_second", "_law_place", "_law_name"]
abbrev ps_q_do_rooms_last : List Str := ["_law_lore_here", "_law_stairs", "_law_pair"]
theorem sco_q_do_rooms_last : FnScope N_q_do_rooms_last ps_q_do_rooms_last (defScope s_q_do_rooms_last) := C8.fnScope_by (by decide +kernel)
abbrev N_q_is_broken : List Str := ["_law_lore_here", "_law_stairs", "_law_pair", "_law_row", "_law_more", "_law_name", "_law_first", "_law_second", "_law_length", "_law_further"]
abbrev ps_q_is_broken : List Str := ["_law_lore_here", "_law_stairs", "_law_pair", "_law_row", "_law_more"]
theorem sco_q_is_broken : FnScope N_q_is_broken ps_q_is_broken (defScope s_q_is_broken) := C8.fnScope_by (by decide +kernel)
abbrev N_q_is_shut : List Str := ["_law_lore_here", "_law_stairs", "_law_shelter", "_law_corner", "_law_later", "_law_name", "_law_pair"]
abbrev ps_q_is_shut : List Str := ["_law_lore_here", "_law_stairs", "_law_shelter"]
theorem sco_q_is_shut : FnScope N_q_is_shut ps_q_is_shut (defScope s_q_is_shut) := C8.fnScope_by (by decide +kernel)
abbrev N_q_is_told : List Str := ["_law_lore_here", "_law_stairs", "_law_pair", "_law_told"]
abbrev ps_q_is_told : List Str := ["_law_lore_here", "_law_stairs", "_law_pair", "_law_told"]
theorem sco_q_is_told : FnScope N_q_is_told ps_q_is_told (defScope s_q_is_told) := C8.fnScope_by (by decide +kernel)
abbrev N_q_is_judged : List Str := ["_law_lore_here", "_law_studio", "_law_stairs", "_law_pair", "_law_told", "_law_shelter", "_law_length", "_law_name"]
abbrev ps_q_is_judged : List Str := ["_law_lore_here", "_law_studio", "_law_stairs", "_law_pair", "_law_told", "_law_shelter"]
theorem sco_q_is_judged : FnScope N_q_is_judged ps_q_is_judged (defScope s_q_is_judged) := C8.fnScope_by (by decide +kernel)
abbrev N_q_right : List Str := ["_law_pot_here", "_law_tops", "_law_lore_here", "_law_studio", "_law_period_here", "_law_stairs", "_law_lap", "_law_time", "_law_pair", "_law_told", "_law_shelter"]
abbrev ps_q_right : List Str := ["_law_pot_here"]
theorem sco_q_right : FnScope N_q_right ps_q_right (defScope s_q_right) := C8.fnScope_by (by decide +kernel)
abbrev N_law : List Str := ["_law_script", "_law_spot"]
abbrev ps_law : List Str := ["_law_script"]
theorem sco_law : FnScope N_law ps_law (defScope s_law) := C8.fnScope_by (by decide +kernel)
end CZ
set_option Elab.async false
set_option linter.all false
set_option maxRecDepth 100000
set_option maxHeartbeats 0
namespace CZ
open PySem PySem.W PySem.Calls PyProof.Rows
abbrev Rrow : OpenRow := OpenLaw.row PySem.Challenge.rw_cuecarry_k28_whole_rooms_behind_trims
abbrev qv : Program := view Rrow.prog [141]
def names0 : List PySem.Str := ["__name__", "CueError", "BadStudio", "TooMany", "NoProgram", "LastOne", "BadKind", "BadPair", "BadShelter", "placed", "Map", "least_times", "FEED", "BLANK", "SMALL", "FIGURES"]
def names1 : List PySem.Str := ["MOST_LETTERS", "is_integer", "is_tuple", "is_said", "is_word", "number_in", "integer_in", "DOWN", "UP", "NEAR", "LOW", "HOWS", "PAIR_rounding", "SLASH", "common", "ratio_in"]
def names2 : List PySem.Str := ["nearest", "round_to", "carried_home", "START", "END", "SIDES", "TRIM", "PROGRAM", "FROM", "VIA", "BACK", "INDENT", "MOST_TRIM", "MOST_PROGRAMS", "MOST_VIAS", "MOST_FIGURES"]
def names3 : List PySem.Str := ["MOST_PERIOD", "PAIR_studios", "TRIPLE", "Program", "told_ratio", "words_behind", "Reader", "read_lines", "period_of", "Studio", "is_program", "check_program", "PAIR_films", "is_pair", "Level", "Stairs"]
def names4 : List PySem.Str := ["LENGTH", "GAP", "ROOM", "KINDS", "FAR", "RoomLevel", "is_any", "steps_of", "level_of", "stairs_of", "is_ever", "does_last", "names_of", "room_broken", "breaking", "LASTS"]
def names5 : List PySem.Str := ["BREAKS", "NEVER", "ANY", "check_kind", "check_pair", "is_shelter", "check_shelter", "saved_by", "is_sound", "has_pair", "is_shut", "is_closed", "never_row", "lasts", "_law_pot", "_law_take"]
def names6 : List PySem.Str := ["_law_of", "_law_some", "_law_cells", "_law_is_int", "_law_names", "_law_common", "_law_joint", "_law_least_terms", "_law_ratio_text", "_law_hows", "_law_vias", "_law_lore", "_law_text", "_law_period", "_law_round", "_law_carry"]
def names7 : List PySem.Str := ["_law_program", "_law_program_names", "_law_kind_sides", "_law_pair_saved", "_law_is_row", "_law_slipping", "_law_is_pair", "_law_own_stairs", "_law_least_there", "_law_can_stay", "_law_does_stay", "_law_in_shelter", "_law_is_shelter", "_law_is_cut_fine", "_law_do_rooms_last", "_law_is_broken"]
def names8 : List PySem.Str := ["_law_is_shut", "_law_is_told", "_law_is_judged", "_law_right"]
def names : List PySem.Str := names0 ++ (names1 ++ (names2 ++ (names3 ++ (names4 ++ (names5 ++ (names6 ++ (names7 ++ (names8))))))))

/-- what one step leads to: a def's code and defaults, a class's dict, a property's getter -/
def leads : Option Obj → List Addr
  | some ⟨.type c, _, .fields vs, _⟩ => if c = "property" then vs.toList.flatMap He.refV else []
  | some ⟨_, _, .func u, _⟩ => He.refV u.code ++ He.refV u.defaults
  | some ⟨_, _, .cls cd, _⟩ => [cd.ns]
  | _ => []
def inDict : Option Obj → List Addr
  | some ⟨_, _, .dict es _, _⟩ => es.toList.flatMap fun e => He.refV e.val
  | _ => []
def where_ (g : Addr → Option Obj) : List Addr :=
  let l1 := inDict (g mainGlobals)
  let l2 := l1.flatMap fun a => leads (g a)
  let l3 := l2.flatMap fun a => inDict (g a)
  let l4 := l3.flatMap fun a => leads (g a)
  let l5 := l4.flatMap fun a => leads (g a)
  mainGlobals :: (l2 ++ (l3 ++ (l1 ++ (l4 ++ l5))))
def frZ (g : Addr → Option Obj) : Frag := He.frG g (where_ g)
def hookZ : Hook where
  α := AlZ
  obs := fun s => obsZ (frZ s.heap.get?)
  val := fun _ => valZ
  says := fun _ h => ∃ K : Frag, K.In h ∧ obsZ K = valZ
  of := fun _ _ e => ⟨_, He.frG_in, e⟩
  keeps := fun _ _ _ ⟨K, hK, c⟩ k => ⟨K, Frag.In.keeps hK k, c⟩
def obT (s : SharedT) : AlZ := obsZ (frZ (HandSHeadRun.getT s))
theorem obT_eq (s : SharedT) : obT s = hookZ.obs s.abs := by
  have e : HandSHeadRun.getT s = s.abs.heap.get? := funext (HandSHeadRun.getT_eq s)
  unfold obT
  rw [e]
  rfl
end CZ
set_option Elab.async false
set_option linter.all false
set_option maxRecDepth 100000
set_option maxHeartbeats 0
namespace CZ
open PySem PySem.W PySem.Calls PyProof.Rows
theorem runA (w : World) : HandSHeadRun.RunEq Rrow qv Hook.none (fun _ => ()) 10000 names w := by
  intro os
  kernel_rfl
end CZ
set_option Elab.async false
set_option linter.all false
set_option maxRecDepth 100000
set_option maxHeartbeats 0
namespace CZ
open PySem PySem.W PySem.Calls PyProof.Rows
theorem runB (w : World) (os : OsState) : (HandSHeadRun.endF (HandSHeadRun.stepQ (HandSHeadRun.denQ HandSHeadRun.tabQ) Rrow.prog w) 10000 Rrow.prog w os).map (fun s => let K := frZ (HandSHeadRun.getT s); facts.all fun f => f.ok K) = some true := by
  kernel_rfl
end CZ
set_option Elab.async false
set_option linter.all false
set_option maxRecDepth 100000
set_option maxHeartbeats 0
namespace CZ
open PySem PySem.W PySem.Calls PyProof.Rows
theorem runC (w : World) (os : OsState) : (HandSHeadRun.endF (HandSHeadRun.stepQ (HandSHeadRun.denQ HandSHeadRun.tabQ) Rrow.prog w) 10000 Rrow.prog w os).map (fun s => let K := frZ (HandSHeadRun.getT s); ((defs.all fun d => d.fit K), defs.map fun d => see K (d.at_.ad K))) = some (true, defs.map De.due) := by
  kernel_rfl
end CZ
/-! Plain mathematics of rounding and carrying. -/
namespace CM
inductive How where
  | down | up | near | low
  deriving DecidableEq, Repr
/-- a / b rounded, b above 0 -/
def rnd (h : How) (a b : Int) : Int := match h with
  | .down => a / b
  | .up => -((-a) / b)
  | .near => (2 * a + b) / (2 * b)
  | .low => -((b - 2 * a) / (2 * b))

theorem ediv_of {a b q r : Int} (hb : 0 < b) (e : a = q * b + r) (h0 : 0 ≤ r) (h1 : r < b) : a / b = q := by
  subst e
  rw [Int.add_comm, Int.add_mul_ediv_right _ _ (by omega), Int.ediv_eq_zero_of_lt h0 h1]
  omega
theorem rnd_cases (h : How) {a b q r : Int} (hb : 0 < b) (e : a = q * b + r) (h0 : 0 ≤ r) (h1 : r < b) :
    rnd h a b = match h with
      | .down => q
      | .up => if r = 0 then q else q + 1
      | .near => if b ≤ 2 * r then q + 1 else q
      | .low => if b < 2 * r then q + 1 else q := by
  cases h with
  | down => exact ediv_of hb e h0 h1
  | up =>
    show -((-a) / b) = if r = 0 then q else q + 1
    by_cases hr : r = 0
    · rw [if_pos hr, ediv_of (q := -q) (r := 0) hb (by rw [e, hr, Int.neg_mul]; omega) (by omega) hb]
      omega
    · rw [if_neg hr, ediv_of (q := -(q + 1)) (r := b - r) hb (by rw [e, Int.neg_mul, Int.add_mul]; omega) (by omega) (by omega)]
      omega
  | near =>
    show (2 * a + b) / (2 * b) = if b ≤ 2 * r then q + 1 else q
    have e2 : q * (2 * b) = 2 * (q * b) := by rw [Int.mul_left_comm]
    by_cases hr : b ≤ 2 * r
    · rw [if_pos hr]
      exact ediv_of (r := 2 * r - b) (by omega) (by rw [Int.add_mul, e2, e]; omega) (by omega) (by omega)
    · rw [if_neg hr]
      exact ediv_of (r := 2 * r + b) (by omega) (by rw [e2, e]; omega) (by omega) (by omega)
  | low =>
    show -((b - 2 * a) / (2 * b)) = if b < 2 * r then q + 1 else q
    have e2 : q * (2 * b) = 2 * (q * b) := by rw [Int.mul_left_comm]
    by_cases hr : b < 2 * r
    · rw [if_pos hr, ediv_of (q := -(q + 1)) (r := 3 * b - 2 * r) (by omega) (by rw [Int.neg_mul, Int.add_mul, e2, e]; omega) (by omega) (by omega)]
      omega
    · rw [if_neg hr, ediv_of (q := -q) (r := b - 2 * r) (by omega) (by rw [Int.neg_mul, e2, e]; omega) (by omega) (by omega)]
      omega
theorem divmod (a b : Int) (hb : 0 < b) : a = a / b * b + a % b ∧ 0 ≤ a % b ∧ a % b < b := by
  refine ⟨?_, Int.emod_nonneg _ (by omega), Int.emod_lt_of_pos _ hb⟩
  have := Int.mul_ediv_add_emod a b
  rw [Int.mul_comm] at this
  omega
/-- the law's own rounding -/
def lawRnd (h : How) (a b : Int) : Int :=
  let q := a / b
  let r := a - q * b
  if r = 0 ∨ h = .down then q else if h = .up then q + 1 else if 2 * r = b then (if h = .near then q + 1 else q) else if 2 * r > b then q + 1 else q
theorem lawRnd_eq (h : How) {a b : Int} (hb : 0 < b) : lawRnd h a b = rnd h a b := by
  obtain ⟨e, h0, h1⟩ := divmod a b hb
  rw [rnd_cases h hb e h0 h1]
  have er : a - a / b * b = a % b := by omega
  unfold lawRnd
  simp only [er]
  generalize a % b = r at *
  generalize a / b = q at *
  cases h <;> simp <;> (repeat' split) <;> omega
theorem rnd_mono (h : How) {a a' b : Int} (hb : 0 < b) (hl : a ≤ a') : rnd h a b ≤ rnd h a' b := by
  cases h with
  | down => exact Int.ediv_le_ediv hb hl
  | up =>
    have := Int.ediv_le_ediv (c := b) hb (show -a' ≤ -a by omega)
    show -((-a) / b) ≤ -((-a') / b)
    omega
  | near => exact Int.ediv_le_ediv (by omega) (by omega)
  | low =>
    have := Int.ediv_le_ediv (c := 2 * b) (by omega) (show b - 2 * a' ≤ b - 2 * a by omega)
    show -((b - 2 * a) / (2 * b)) ≤ -((b - 2 * a') / (2 * b))
    omega
theorem rnd_shift (h : How) {a b : Int} (k : Int) (hb : 0 < b) : rnd h (a + k * b) b = rnd h a b + k := by
  obtain ⟨e, h0, h1⟩ := divmod a b hb
  have e' : a + k * b = (a / b + k) * b + a % b := by rw [Int.add_mul]; omega
  rw [rnd_cases h hb e h0 h1, rnd_cases h hb e' h0 h1]
  cases h <;> simp <;> (repeat' split) <;> omega

/-! ### a program -/
structure Via where
  n : Int
  d : Int
  h : How × How
  deriving DecidableEq
structure Prg where
  name : List Nat
  bn : Int
  bd : Int
  vias : List Via
  back : How × How
  deriving DecidableEq
/-- the how of a side: false for starts, true for ends -/
def hw (side : Bool) (h : How × How) : How := if side then h.2 else h.1
def viaGo (side : Bool) : List Via → Int → Int → Int × Int
  | [], a, u => (a, u)
  | v :: r, a, u => viaGo side r (rnd (hw side v.h) (a * v.d) (u * v.n) * v.n) v.d
def carry (p : Prg) (side : Bool) (t : Int) : Int :=
  let r := viaGo side p.vias (t * p.bd - p.bn) p.bd
  rnd (hw side p.back) (r.1 * p.bd + p.bn * r.2) (r.2 * p.bd)
structure Via.Ok (v : Via) : Prop where
  n : 0 < v.n
  d : 0 < v.d
structure Prg.Ok (p : Prg) : Prop where
  bd : 0 < p.bd
  vias : ∀ v ∈ p.vias, v.Ok

theorem viaGo_pos (side : Bool) : ∀ (vs : List Via) (a u : Int), 0 < u → (∀ v ∈ vs, v.Ok) → 0 < (viaGo side vs a u).2
  | [], _, _, h, _ => h
  | v :: r, a, u, _, hv => viaGo_pos side r _ _ (hv v (List.mem_cons_self ..)).d fun w hw => hv w (List.mem_cons_of_mem _ hw)
theorem viaGo_snd (side : Bool) : ∀ (vs : List Via) (a a' u : Int), (viaGo side vs a u).2 = (viaGo side vs a' u).2
  | [], _, _, _ => rfl
  | v :: r, a, a', u => viaGo_snd side r _ _ _
theorem viaGo_mono (side : Bool) : ∀ (vs : List Via) (a a' u : Int), 0 < u → (∀ v ∈ vs, v.Ok) → a ≤ a' → (viaGo side vs a u).1 ≤ (viaGo side vs a' u).1
  | [], _, _, _, _, _, h => h
  | v :: r, a, a', u, hu, hv, h => by
    have ov := hv v (List.mem_cons_self ..)
    refine viaGo_mono side r _ _ _ ov.d (fun w hw => hv w (List.mem_cons_of_mem _ hw)) ?_
    refine Int.mul_le_mul_of_nonneg_right (rnd_mono _ (Int.mul_pos hu ov.n) ?_) (Int.le_of_lt ov.n)
    exact Int.mul_le_mul_of_nonneg_right h (Int.le_of_lt ov.d)
theorem viaGo_shift (side : Bool) (T : Int) : ∀ (vs : List Via) (a u : Int), 0 < u → (∀ v ∈ vs, v.Ok) → (∀ v ∈ vs, v.n ∣ T) → (viaGo side vs (a + u * T) u).1 = (viaGo side vs a u).1 + (viaGo side vs a u).2 * T
  | [], _, _, _, _, _ => rfl
  | v :: r, a, u, hu, hv, hd => by
    have ov := hv v (List.mem_cons_self ..)
    obtain ⟨m, rfl⟩ := hd v (List.mem_cons_self ..)
    have e1 : (a + u * (v.n * m)) * v.d = a * v.d + (m * v.d) * (u * v.n) := by
      rw [Int.add_mul]
      simp only [Int.mul_assoc, Int.mul_comm, Int.mul_left_comm]
    have e2 : rnd (hw side v.h) ((a + u * (v.n * m)) * v.d) (u * v.n) * v.n = rnd (hw side v.h) (a * v.d) (u * v.n) * v.n + v.d * (v.n * m) := by
      rw [e1, rnd_shift _ _ (Int.mul_pos hu ov.n), Int.add_mul]
      simp only [Int.mul_assoc, Int.mul_comm, Int.mul_left_comm]
    show (viaGo side r (rnd (hw side v.h) ((a + u * (v.n * m)) * v.d) (u * v.n) * v.n) v.d).1 = _
    rw [e2]
    exact viaGo_shift side _ r _ _ ov.d (fun w hw => hv w (List.mem_cons_of_mem _ hw)) (fun w hw => hd w (List.mem_cons_of_mem _ hw))
/-- a rising map, a period later just as much later -/
structure PM (P : Int) (f : Int → Int) : Prop where
  mono : ∀ x y, x ≤ y → f x ≤ f y
  per : ∀ x, f (x + P) = f x + P
theorem carry_pm {p : Prg} (o : p.Ok) (side : Bool) {P : Int} (hd : ∀ v ∈ p.vias, v.n ∣ P) : PM P (carry p side) := by
  refine ⟨fun x y h => ?_, fun x => ?_⟩
  · have hu := viaGo_pos side p.vias (x * p.bd - p.bn) p.bd o.bd o.vias
    have e := viaGo_snd side p.vias (y * p.bd - p.bn) (x * p.bd - p.bn) p.bd
    unfold carry
    simp only [e]
    refine rnd_mono _ (Int.mul_pos hu o.bd) ?_
    have h1 := viaGo_mono side p.vias (x * p.bd - p.bn) (y * p.bd - p.bn) p.bd o.bd o.vias (by have := Int.mul_le_mul_of_nonneg_right h (Int.le_of_lt o.bd); omega)
    have h2 := Int.mul_le_mul_of_nonneg_right h1 (Int.le_of_lt o.bd)
    omega
  · have hu := viaGo_pos side p.vias (x * p.bd - p.bn) p.bd o.bd o.vias
    have e0 : (x + P) * p.bd - p.bn = (x * p.bd - p.bn) + p.bd * P := by rw [Int.add_mul, Int.mul_comm P]; omega
    have e1 := viaGo_shift side P p.vias (x * p.bd - p.bn) p.bd o.bd o.vias hd
    have e2 := viaGo_snd side p.vias ((x * p.bd - p.bn) + p.bd * P) (x * p.bd - p.bn) p.bd
    unfold carry
    simp only [e0, e1, e2]
    rw [← rnd_shift _ P (Int.mul_pos hu o.bd)]
    congr 1
    rw [Int.add_mul]
    simp only [Int.mul_assoc, Int.mul_comm, Int.mul_left_comm]
    omega
theorem PM.perk {P : Int} {f : Int → Int} (h : PM P f) (x k : Int) : f (x + k * P) = f x + k * P := by
  have nat : ∀ (n : Nat) (x : Int), f (x + n * P) = f x + n * P := by
    intro n
    induction n with
    | zero => intro x; simp
    | succ n ih =>
      intro x
      have e : x + ((n + 1 : Nat) : Int) * P = (x + n * P) + P := by rw [Int.natCast_add, Int.add_mul]; simp; omega
      rw [e, h.per, ih]
      rw [Int.natCast_add, Int.add_mul]; simp; omega
  by_cases hk : 0 ≤ k
  · obtain ⟨n, rfl⟩ := Int.eq_ofNat_of_zero_le hk
    exact nat n x
  · obtain ⟨n, hn⟩ := Int.eq_ofNat_of_zero_le (show 0 ≤ -k by omega)
    have ek : k = -(n : Int) := by omega
    subst ek
    have e := nat n (x + -(n : Int) * P)
    have e3 : x + -(n : Int) * P + (n : Int) * P = x := by rw [Int.neg_mul]; omega
    rw [e3] at e
    rw [Int.neg_mul] at *
    omega
end CM
namespace CM
/-! ### rows told for a period -/
def Per (P : Int) (f : Int → Int) : Prop := ∀ x, f (x + P) = f x + P
theorem Per.k {P : Int} {f : Int → Int} (h : Per P f) (x k : Int) : f (x + k * P) = f x + k * P := by
  have nat : ∀ (n : Nat) (x : Int), f (x + n * P) = f x + n * P := by
    intro n
    induction n with
    | zero => intro x; simp
    | succ n ih =>
      intro x
      have e : x + ((n + 1 : Nat) : Int) * P = (x + n * P) + P := by rw [Int.natCast_add, Int.add_mul]; simp; omega
      rw [e, h, ih]
      rw [Int.natCast_add, Int.add_mul]; simp; omega
  by_cases hk : 0 ≤ k
  · obtain ⟨n, rfl⟩ := Int.eq_ofNat_of_zero_le hk
    exact nat n x
  · obtain ⟨n, hn⟩ := Int.eq_ofNat_of_zero_le (show 0 ≤ -k by omega)
    have ek : k = -(n : Int) := by omega
    subst ek
    have e := nat n (x + -(n : Int) * P)
    have e3 : x + -(n : Int) * P + (n : Int) * P = x := by rw [Int.neg_mul]; omega
    rw [e3] at e
    rw [Int.neg_mul] at *
    omega
def ext (row : List Int) (P t : Int) : Int := row.getD (t % P).toNat 0 + t / P * P
theorem ext_per (row : List Int) {P : Int} (hP : 0 < P) : Per P (ext row P) := fun t => by
  unfold ext
  have e1 : (t + P) % P = t % P := by rw [Int.add_emod_right]
  have e2 : (t + P) / P = t / P + 1 := by
    have := Int.add_mul_ediv_right t 1 (show P ≠ 0 by omega)
    rw [Int.one_mul] at this
    exact this
  rw [e1, e2, Int.add_mul]
  omega
theorem ext_at (row : List Int) {P t : Int} (h0 : 0 ≤ t) (h1 : t < P) : ext row P t = row.getD t.toNat 0 := by
  unfold ext
  rw [Int.emod_eq_of_lt h0 h1, Int.ediv_eq_zero_of_lt h0 h1]
  omega
def rowOf (P : Nat) (f : Int → Int) : List Int := (List.range P).map fun (i : Nat) => f (i : Int)
theorem rowOf_len (P : Nat) (f : Int → Int) : (rowOf P f).length = P := by simp [rowOf]
theorem rowOf_at {P : Nat} {f : Int → Int} {i : Nat} (h : i < P) : (rowOf P f)[i]? = some (f i) := by
  simp [rowOf, h]
theorem split_t {P : Int} (hP : 0 < P) (t : Int) : t = t % P + t / P * P ∧ 0 ≤ t % P ∧ t % P < P := by
  obtain ⟨h1, h2, h3⟩ := divmod t P hP
  exact ⟨by omega, h2, h3⟩
theorem per_ext {P : Int} (hP : 0 < P) {f g : Int → Int} (hf : Per P f) (hg : Per P g) (h : ∀ t, 0 ≤ t → t < P → f t = g t) (t : Int) : f t = g t := by
  obtain ⟨e, h0, h1⟩ := split_t hP t
  rw [e, hf.k, hg.k, h _ h0 h1]
theorem ext_rowOf {P : Nat} (hP : 0 < P) {f : Int → Int} (h : Per P f) (t : Int) : ext (rowOf P f) P t = f t := by
  refine per_ext (by omega) (ext_per _ (by omega)) h (fun t h0 h1 => ?_) t
  rw [ext_at _ h0 h1, List.getD_eq_getElem?_getD, rowOf_at (show t.toNat < P by omega)]
  show f (t.toNat : Int) = f t
  rw [Int.toNat_of_nonneg h0]
theorem row_eq {P : Nat} {r s : List Int} (hr : r.length = P) (hs : s.length = P) (h : ∀ i : Nat, i < P → ext r P i = ext s P i) : r = s := by
  apply List.ext_getElem (by omega)
  intro i h1 h2
  have e := h i (by omega)
  rw [ext_at _ (by omega) (by omega), ext_at _ (by omega) (by omega)] at e
  simpa [List.getD_eq_getElem?_getD, h1, h2] using e

/-! ### steps -/
structure Stp where
  a : Int → Int
  b : Int → Int
  lb : Int → Int
structure StpOk (P : Int) (s : Stp) : Prop where
  a : PM P s.a
  b : PM P s.b
  gal : ∀ g t, g ≤ s.b t ↔ s.lb g ≤ t
theorem StpOk.lb_per {P : Int} {s : Stp} (o : StpOk P s) : Per P s.lb := fun g => by
  have key : ∀ t, s.lb (g + P) ≤ t ↔ s.lb g + P ≤ t := fun t => by
    rw [← o.gal]
    have e := o.b.per (t - P)
    rw [Int.sub_add_cancel] at e
    have := o.gal g (t - P)
    omega
  have h1 := (key (s.lb g + P)).mpr (by omega)
  have h2 := (key (s.lb (g + P))).mp (by omega)
  omega
theorem le_foldl {α : Type} (h : α → Int) (y : Int) : ∀ (l : List α) (m : Int), l.foldl (fun m s => max m (h s)) m ≤ y ↔ m ≤ y ∧ ∀ s ∈ l, h s ≤ y
  | [], m => by simp
  | s :: r, m => by
    rw [List.foldl_cons, le_foldl h y r, Int.max_le]
    simp only [List.mem_cons, forall_eq_or_imp]
    constructor
    · rintro ⟨⟨h1, h2⟩, h3⟩
      exact ⟨h1, h2, h3⟩
    · rintro ⟨h1, h2, h3⟩
      exact ⟨⟨h1, h2⟩, h3⟩
theorem foldl_add {α : Type} (h g : α → Int) (c : Int) : ∀ (l : List α) (m : Int), (∀ s ∈ l, g s = h s + c) → l.foldl (fun m s => max m (g s)) (m + c) = l.foldl (fun m s => max m (h s)) m + c
  | [], m, _ => rfl
  | s :: r, m, hh => by
    rw [List.foldl_cons, List.foldl_cons, hh s (List.mem_cons_self ..), ← foldl_add h g c r _ fun s hs => hh s (List.mem_cons_of_mem _ hs)]
    congr 1
    omega
def up (steps : List Stp) (R : Int → Int) (t : Int) : Int := steps.foldl (fun m s => max m (s.lb (R (s.a t)))) (R t)
theorem up_le (steps : List Stp) {P : Int} (o : ∀ s ∈ steps, StpOk P s) (R : Int → Int) (t y : Int) : up steps R t ≤ y ↔ R t ≤ y ∧ ∀ s ∈ steps, R (s.a t) ≤ s.b y := by
  unfold up
  rw [le_foldl]
  constructor
  · rintro ⟨h1, h2⟩
    exact ⟨h1, fun s hs => ((o s hs).gal _ _).mpr (h2 s hs)⟩
  · rintro ⟨h1, h2⟩
    exact ⟨h1, fun s hs => ((o s hs).gal _ _).mp (h2 s hs)⟩
theorem up_per (steps : List Stp) {P : Int} (o : ∀ s ∈ steps, StpOk P s) {R : Int → Int} (hR : Per P R) : Per P (up steps R) := fun t => by
  unfold up
  rw [hR t]
  refine foldl_add (fun s => s.lb (R (s.a t))) (fun s => s.lb (R (s.a (t + P)))) P steps (R t) fun s hs => ?_
  show s.lb (R (s.a (t + P))) = _
  rw [(o s hs).a.per, hR, (o s hs).lb_per]
/-- the row behind a row -/
def nextRow (P : Nat) (steps : List Stp) (lev row : List Int) : List Int := (List.range P).map fun i => max (lev.getD i 0) (up steps (ext row P) (i : Int))
theorem nextRow_len (P : Nat) (steps : List Stp) (lev row : List Int) : (nextRow P steps lev row).length = P := by simp [nextRow]
theorem ext_nextRow {P : Nat} (hP : 0 < P) (steps : List Stp) (o : ∀ s ∈ steps, StpOk P s) (lev row : List Int) (t : Int) : ext (nextRow P steps lev row) P t = max (ext lev P t) (up steps (ext row P) t) := by
  have h1 : Per P (fun t => max (ext lev P t) (up steps (ext row P) t)) := fun x => by
    show max (ext lev P (x + P)) (up steps (ext row P) (x + P)) = max (ext lev P x) (up steps (ext row P) x) + P
    rw [ext_per lev (by omega) x, up_per steps o (ext_per row (by omega)) x]
    omega
  refine per_ext (show (0 : Int) < P by omega) (ext_per _ (by omega)) h1 (fun t h0 h2 => ?_) t
  rw [ext_at _ h0 h2]
  unfold nextRow
  have hi : t.toNat < P := by omega
  rw [List.getD_eq_getElem?_getD, List.getElem?_map, List.getElem?_range hi]
  show max (lev.getD t.toNat 0) (up steps (ext row P) (t.toNat : Int)) = _
  rw [Int.toNat_of_nonneg h0, ext_at lev h0 h2]
/-- the ideal rows -/
def Rw (P : Nat) (steps : List Stp) (lev : Nat → List Int) : Nat → List Int
  | 0 => lev 0
  | k + 1 => nextRow P steps (lev (k + 1)) (Rw P steps lev k)
section
variable {P : Nat} {steps : List Stp} {lev : Nat → List Int}
theorem Rw_succ_le (hP : 0 < P) (o : ∀ s ∈ steps, StpOk P s) (k : Nat) (x y : Int) :
    ext (Rw P steps lev (k + 1)) P x ≤ y ↔ ext (lev (k + 1)) P x ≤ y ∧ ext (Rw P steps lev k) P x ≤ y ∧ ∀ s ∈ steps, ext (Rw P steps lev k) P (s.a x) ≤ s.b y := by
  show ext (nextRow P steps (lev (k + 1)) (Rw P steps lev k)) P x ≤ y ↔ _
  rw [ext_nextRow hP steps o, Int.max_le, up_le steps o]
theorem Rw_up (hP : 0 < P) (o : ∀ s ∈ steps, StpOk P s) (k : Nat) (x : Int) : ext (Rw P steps lev k) P x ≤ ext (Rw P steps lev (k + 1)) P x :=
  ((Rw_succ_le hP o k x _).mp (Int.le_refl _)).2.1
theorem Rw_len (hl : (lev 0).length = P) : ∀ k, (Rw P steps lev k).length = P
  | 0 => hl
  | k + 1 => nextRow_len ..
theorem Rw_ge (hP : 0 < P) (o : ∀ s ∈ steps, StpOk P s) {j k : Nat} (h : j ≤ k) (x : Int) : ext (Rw P steps lev j) P x ≤ ext (Rw P steps lev k) P x := by
  induction h with
  | refl => exact Int.le_refl _
  | step _ ih => exact Int.le_trans ih (Rw_up hP o _ x)
/-- a step by which a pair breaks -/
theorem Rw_break (hP : 0 < P) (o : ∀ s ∈ steps, StpOk P s) {k : Nat} {x y : Int} (h1 : y < ext (Rw P steps lev (k + 1)) P x) (h0 : ext (Rw P steps lev k) P x ≤ y) (hl : ext (lev (k + 1)) P x ≤ y) :
    ∃ s ∈ steps, s.b y < ext (Rw P steps lev k) P (s.a x) := by
  apply Classical.byContradiction
  intro hn
  have := (Rw_succ_le (lev := lev) hP o k x y).mpr ⟨hl, h0, fun s hs => by
    apply Classical.byContradiction
    intro hh
    exact hn ⟨s, hs, by omega⟩⟩
  omega
theorem Rw_stay (hP : 0 < P) (o : ∀ s ∈ steps, StpOk P s) {k : Nat} {x y : Int} (h : ext (Rw P steps lev (k + 1)) P x ≤ y) {s : Stp} (hs : s ∈ steps) : ext (Rw P steps lev k) P (s.a x) ≤ s.b y :=
  ((Rw_succ_le hP o k x y).mp h).2.2 s hs
end

/-! ### lengths -/
def play (w : List Stp) (q : Int × Int) : Int × Int := w.foldl (fun q s => (s.a q.1, s.b q.2)) q
def Sound (q : Int × Int) : Prop := q.1 < q.2
/-- all rows of savings keep it -/
def Lasts (steps : List Stp) (q : Int × Int) : Prop := ∀ w : List Stp, (∀ s ∈ w, s ∈ steps) → Sound (play w q)
def SafeK (steps : List Stp) : Nat → Int × Int → Prop
  | 0, q => Sound q
  | k + 1, q => Sound q ∧ SafeK steps k q ∧ ∀ s ∈ steps, SafeK steps k (s.a q.1, s.b q.2)
section
variable {P : Nat} {steps : List Stp}
theorem Lasts.sound {q : Int × Int} (h : Lasts steps q) : Sound q := h [] (fun _ z => nomatch z)
theorem Lasts.step {q : Int × Int} (h : Lasts steps q) {s : Stp} (hs : s ∈ steps) : Lasts steps (s.a q.1, s.b q.2) := fun w hw => h (s :: w) fun z hz => (List.mem_cons.mp hz).elim (fun e => e ▸ hs) (hw z)
theorem play_mono (o : ∀ s ∈ steps, StpOk P s) : ∀ (w : List Stp), (∀ s ∈ w, s ∈ steps) → ∀ {x x' y y' : Int}, x' ≤ x → y ≤ y' → (play w (x', y')).1 ≤ (play w (x, y)).1 ∧ (play w (x, y)).2 ≤ (play w (x', y')).2
  | [], _, _, _, _, _, h1, h2 => ⟨h1, h2⟩
  | s :: w, hw, _, _, _, _, h1, h2 => play_mono o w (fun z hz => hw z (List.mem_cons_of_mem _ hz)) ((o s (hw s (List.mem_cons_self ..))).a.mono _ _ h1) ((o s (hw s (List.mem_cons_self ..))).b.mono _ _ h2)
theorem Lasts.mono (o : ∀ s ∈ steps, StpOk P s) {x x' y y' : Int} (h : Lasts steps (x, y)) (hx : x' ≤ x) (hy : y ≤ y') : Lasts steps (x', y') := fun w hw => by
  have h1 := h w hw
  have h2 := play_mono o w hw hx hy
  unfold Sound at *
  omega
theorem PM.k {P : Int} {f : Int → Int} (h : PM P f) (x k : Int) : f (x + k * P) = f x + k * P := Per.k h.per x k
theorem play_shift (o : ∀ s ∈ steps, StpOk P s) (j k : Int) : ∀ (w : List Stp), (∀ s ∈ w, s ∈ steps) → ∀ (x y : Int), play w (x + j * P, y + k * P) = ((play w (x, y)).1 + j * P, (play w (x, y)).2 + k * P)
  | [], _, _, _ => rfl
  | s :: w, hw, x, y => by
    have os := o s (hw s (List.mem_cons_self ..))
    show play w (s.a (x + j * P), s.b (y + k * P)) = _
    rw [os.a.k, os.b.k, play_shift o j k w (fun z hz => hw z (List.mem_cons_of_mem _ hz))]
    rfl
theorem Lasts.shift (o : ∀ s ∈ steps, StpOk P s) {x y : Int} (h : Lasts steps (x, y)) (k : Int) : Lasts steps (x + k * P, y + k * P) := fun w hw => by
  have h1 := h w hw
  rw [play_shift o k k w hw]
  unfold Sound at *
  simp only
  omega
theorem play_app (w v : List Stp) (q : Int × Int) : play (w ++ v) q = play v (play w q) := by
  unfold play
  rw [List.foldl_append]
theorem least_exists {p : Nat → Prop} (h : ∃ n, p n) : ∃ n, p n ∧ ∀ m, p m → n ≤ m := by
  obtain ⟨n, hn⟩ := h
  induction n using Nat.strongRecOn with
  | ind n ih =>
    by_cases h : ∃ m, m < n ∧ p m
    · obtain ⟨m, hm, hp⟩ := h
      exact ih m hm hp
    · refine ⟨n, hn, fun m hp => ?_⟩
      apply Classical.byContradiction
      intro hh
      exact h ⟨m, by omega, hp⟩
/-- if a pair lasts, each one of two periods does -/
theorem two_periods (hP : 0 < P) (o : ∀ s ∈ steps, StpOk P s) {q : Int × Int} (h : Lasts steps q) (t : Int) : Lasts steps (t, t + 2 * P) := by
  obtain ⟨n, ⟨w, hw, en⟩, hmin⟩ := least_exists (p := fun n => ∃ w, (∀ s ∈ w, s ∈ steps) ∧ ((play w q).2 - (play w q).1).toNat = n) ⟨_, [], (fun _ z => nomatch z), rfl⟩
  generalize es : play w q = r at *
  obtain ⟨s, e⟩ := r
  have hd : s < e := by
    have := h w hw
    rw [es] at this
    exact this
  have all : ∀ v : List Stp, (∀ s ∈ v, s ∈ steps) → e - s ≤ (play v (s, e)).2 - (play v (s, e)).1 := fun v hv => by
    have m := hmin _ ⟨w ++ v, fun z hz => (List.mem_append.mp hz).elim (hw z) (hv z), rfl⟩
    rw [play_app, es] at m
    have z := h (w ++ v) fun z hz => (List.mem_append.mp hz).elim (hw z) (hv z)
    rw [play_app, es] at z
    unfold Sound at z
    simp only at en
    omega
  obtain ⟨k, hk0, hk1⟩ : ∃ k : Int, 1 ≤ e - s - k * P ∧ e - s - k * P ≤ P := by
    obtain ⟨h1, h2, h3⟩ := divmod (e - s - 1) P (by omega)
    exact ⟨(e - s - 1) / P, by omega, by omega⟩
  have l1 : Lasts steps (s, e - k * P) := fun v hv => by
    have e1 := play_shift o 0 (-k) v hv s e
    have e2 : (s + 0 * (P : Int), e + -k * (P : Int)) = (s, e - k * P) := by
      rw [Int.neg_mul, Int.zero_mul, Int.add_zero]
      rfl
    rw [e2] at e1
    have a := all v hv
    rw [e1]
    unfold Sound
    simp only
    rw [Int.neg_mul, Int.zero_mul]
    omega
  obtain ⟨j, hj0, hj1⟩ : ∃ j : Int, t ≤ s + j * P ∧ s + j * P < t + P := by
    obtain ⟨h1, h2, h3⟩ := divmod (s - t) P (by omega)
    refine ⟨-((s - t) / P), ?_, ?_⟩ <;> rw [Int.neg_mul] <;> omega
  refine (l1.shift o j).mono o hj0 ?_
  omega
/-- the rows of lengths -/
def base1 (P : Nat) : List Int := rowOf P fun t => t + 1
theorem base1_ext (hP : 0 < P) (t : Int) : ext (base1 P) P t = t + 1 := ext_rowOf hP (fun x => by omega) t
abbrev L (P : Nat) (steps : List Stp) (k : Nat) : List Int := Rw P steps (fun _ => base1 P) k
theorem L_len (k : Nat) : (L P steps k).length = P := Rw_len (rowOf_len ..) k
theorem L_safe (hP : 0 < P) (o : ∀ s ∈ steps, StpOk P s) : ∀ (k : Nat) (x y : Int), ext (L P steps k) P x ≤ y ↔ SafeK steps k (x, y)
  | 0, x, y => by
    show ext (base1 P) P x ≤ y ↔ x < y
    rw [base1_ext hP]
    omega
  | k + 1, x, y => by
    rw [Rw_succ_le hP o, base1_ext hP, L_safe hP o k]
    show x + 1 ≤ y ∧ SafeK steps k (x, y) ∧ _ ↔ x < y ∧ SafeK steps k (x, y) ∧ _
    constructor
    · rintro ⟨h1, h2, h3⟩
      exact ⟨by omega, h2, fun s hs => (L_safe hP o k _ _).mp (h3 s hs)⟩
    · rintro ⟨h1, h2, h3⟩
      exact ⟨by omega, h2, fun s hs => (L_safe hP o k _ _).mpr (h3 s hs)⟩
theorem Lasts.safe : ∀ (k : Nat) {q : Int × Int}, Lasts steps q → SafeK steps k q
  | 0, _, h => h.sound
  | k + 1, _, h => ⟨h.sound, Lasts.safe k h, fun _ hs => Lasts.safe k (h.step hs)⟩
theorem SafeK.mono (o : ∀ s ∈ steps, StpOk P s) : ∀ (k : Nat) {x x' y y' : Int}, SafeK steps k (x, y) → x' ≤ x → y ≤ y' → SafeK steps k (x', y')
  | 0, _, _, _, _, h, h1, h2 => by
    unfold SafeK Sound at *
    simp only at *
    omega
  | k + 1, _, _, _, _, ⟨a, b, c⟩, h1, h2 => ⟨by unfold Sound at *; simp only at *; omega, SafeK.mono o k b h1 h2, fun s hs => SafeK.mono o k (c s hs) ((o s hs).a.mono _ _ h1) ((o s hs).b.mono _ _ h2)⟩
theorem L_mono (hP : 0 < P) (o : ∀ s ∈ steps, StpOk P s) (k : Nat) {x y : Int} (h : x ≤ y) : ext (L P steps k) P x ≤ ext (L P steps k) P y :=
  (L_safe hP o k _ _).mpr (SafeK.mono o k ((L_safe hP o k _ _).mp (Int.le_refl _)) h (Int.le_refl _))
/-- a row that the next one does not change -/
theorem L_same (hs : L P steps (k + 1) = L P steps k) : ∀ j, L P steps (k + j) = L P steps k
  | 0 => rfl
  | j + 1 => by
    have e : L P steps (k + (j + 1)) = nextRow P steps (base1 P) (L P steps (k + j)) := rfl
    rw [e, L_same hs j]
    exact hs
theorem L_lasts (hP : 0 < P) (o : ∀ s ∈ steps, StpOk P s) {k : Nat} (hs : L P steps (k + 1) = L P steps k) (x y : Int) : ext (L P steps k) P x ≤ y ↔ Lasts steps (x, y) := by
  constructor
  · intro h w
    induction w generalizing x y with
    | nil =>
      intro _
      have := (L_safe hP o k x y).mp h
      cases k with
      | zero => exact this
      | succ k => exact this.1
    | cons s w ih =>
      intro hw
      refine ih (s.a x) (s.b y) ?_ fun z hz => hw z (List.mem_cons_of_mem _ hz)
      rw [← hs] at h
      exact Rw_stay hP o h (hw s (List.mem_cons_self ..))
  · intro h
    exact (L_safe hP o k x y).mpr (h.safe k)
/-- some pair lasts -/
def Ever (steps : List Stp) : Prop := ∃ q, Lasts steps q
theorem ever_of (hP : 0 < P) (o : ∀ s ∈ steps, StpOk P s) {k : Nat} (hs : L P steps (k + 1) = L P steps k) : Ever steps := ⟨(0, _), (L_lasts hP o hs 0 _).mp (Int.le_refl _)⟩
theorem never_of (hP : 0 < P) (o : ∀ s ∈ steps, StpOk P s) {k : Nat} (h : 2 * (P : Int) < ext (L P steps k) P 0) : ¬ Ever steps := fun ⟨_, hq⟩ => by
  have z := (L_safe hP o k 0 (0 + 2 * P)).mpr ((two_periods hP o hq 0).safe k)
  omega
/-! how far rows may rise -/
def gapTo (B : Int) (r : List Int) : Nat := (r.map fun x => (B - x).toNat).sum
theorem gapTo_le : ∀ {r s : List Int} {B : Int}, r.length = s.length → (∀ i : Nat, r.getD i 0 ≤ s.getD i 0) → gapTo B s ≤ gapTo B r
  | [], [], _, _, _ => Nat.le_refl _
  | x :: r, y :: s, B, hl, h => by
    have h0 := h 0
    have ih := gapTo_le (r := r) (s := s) (B := B) (by simpa using hl) fun i => by simpa using h (i + 1)
    simp only [List.getD_cons_zero] at h0
    unfold gapTo at *
    simp only [List.map_cons, List.sum_cons]
    omega
  | [], _ :: _, _, hl, _ => by simp at hl
  | _ :: _, [], _, hl, _ => by simp at hl
theorem gapTo_lt : ∀ {r s : List Int} {B : Int}, r.length = s.length → (∀ i : Nat, r.getD i 0 ≤ s.getD i 0) → (∀ i : Nat, i < r.length → r.getD i 0 < B) → r ≠ s → gapTo B s < gapTo B r
  | [], [], _, _, _, _, h => absurd rfl h
  | x :: r, y :: s, B, hl, h, hb, hne => by
    have h0 := h 0
    have b0 := hb 0 (by simp)
    have hl' : r.length = s.length := by simpa using hl
    have h' : ∀ i : Nat, r.getD i 0 ≤ s.getD i 0 := fun i => by simpa using h (i + 1)
    have hb' : ∀ i : Nat, i < r.length → r.getD i 0 < B := fun i hi => by simpa using hb (i + 1) (by simp; omega)
    simp only [List.getD_cons_zero] at h0 b0
    by_cases e : x = y
    · have ih := gapTo_lt hl' h' hb' fun z => hne (by rw [e, z])
      unfold gapTo at *
      simp only [List.map_cons, List.sum_cons]
      omega
    · have ih := gapTo_le (B := B) hl' h'
      unfold gapTo at *
      simp only [List.map_cons, List.sum_cons]
      omega
  | [], _ :: _, _, hl, _, _, _ => by simp at hl
  | _ :: _, [], _, hl, _, _, _ => by simp at hl
theorem getD_ext {P : Nat} {r : List Int} {i : Nat} (h : i < P) : r.getD i 0 = ext r P i := by
  rw [ext_at _ (by omega) (by omega)]
  rfl
theorem Rw_getD_le {lev : Nat → List Int} (hP : 0 < P) (o : ∀ s ∈ steps, StpOk P s) (hl : (lev 0).length = P) (k : Nat) (i : Nat) : (Rw P steps lev k).getD i 0 ≤ (Rw P steps lev (k + 1)).getD i 0 := by
  by_cases hi : i < P
  · rw [getD_ext hi, getD_ext hi]
    exact Rw_up hP o k i
  · have z : ∀ k, (Rw P steps lev k).getD i 0 = 0 := fun k => by
      rw [List.getD_eq_getElem?_getD, List.getElem?_eq_none_iff.mpr (by rw [Rw_len hl]; omega)]
      rfl
    rw [z, z]
    exact Int.le_refl _
/-- while rows of lengths rise below two periods, the gap falls -/
theorem L_falls (hP : 0 < P) (o : ∀ s ∈ steps, StpOk P s) {k : Nat} (h0 : ext (L P steps k) P 0 ≤ 2 * P) (hne : L P steps (k + 1) ≠ L P steps k) : gapTo (3 * P + 1) (L P steps (k + 1)) < gapTo (3 * P + 1) (L P steps k) := by
  refine gapTo_lt (by rw [L_len, L_len]) (Rw_getD_le hP o (rowOf_len ..) k) (fun i hi => ?_) fun z => hne z.symm
  rw [L_len] at hi
  rw [getD_ext hi]
  have h1 := L_mono (steps := steps) hP o k (show (i : Int) ≤ 0 + P by omega)
  have h2 := ext_per (L P steps k) (show (0 : Int) < P by omega) 0
  omega
end
end CM
namespace CM
/-! ### rooms -/
/-- by starts alone -/
def Stp.room (s : Stp) (lbs : Int → Int) : Stp := ⟨s.a, s.a, lbs⟩
section
variable {P : Nat} {ls rs : List Stp}
/-- the cut that a program leaves of a room -/
def cut (c : Stp) (trim : Int) (q : Int × Int) : Int × Int := (c.a q.1, c.b q.2 - trim)
def LastsR (ls rs : List Stp) (trim : Int) (q : Int × Int) : Prop := ∀ w : List Stp, (∀ s ∈ w, s ∈ rs) → ∀ c ∈ rs, Lasts ls (cut c trim (play w q))
def FAR : Int := 1000000000000
/-- the least next starts by which no program's cut end breaks, as a row of lengths tells -/
def levR (P : Nat) (rs : List Stp) (trim : Int) (row : List Int) : List Int := (List.range P).map fun (i : Nat) => rs.foldl (fun m s => max m (s.lb (ext row P (s.a i) + trim))) (-FAR)
def levs (P : Nat) (ls rs : List Stp) (trim : Int) : Nat → List Int
  | 0 => rowOf P fun t => t - FAR
  | k + 1 => levR P rs trim (L P ls k)
abbrev Rm (P : Nat) (ls rs : List Stp) (trim : Int) (k : Nat) : List Int := Rw P rs (levs P ls rs trim) k
/-- starts twice -/
structure RoomOk (P : Int) (s : Stp) : Prop where
  ok : StpOk P s
  same : s.b = s.a
theorem lev0_len (trim : Int) : (levs P ls rs trim 0).length = P := (show (rowOf P fun t => t - FAR).length = P from rowOf_len ..)
theorem Rm_len (trim : Int) (k : Nat) : (Rm P ls rs trim k).length = P := Rw_len (lev0_len trim) k
theorem levR_ext (hP : 0 < P) (o : ∀ s ∈ rs, RoomOk P s) (trim : Int) (row : List Int) {x y : Int} (h : x ≤ y) : ext (levR P rs trim row) P x ≤ y ↔ ∀ s ∈ rs, ext row P (s.a x) + trim ≤ s.b y := by
  obtain ⟨e, h0, h1⟩ := split_t (show (0 : Int) < P by omega) x
  have hi : (x % P).toNat < P := by omega
  have en : (((x % P).toNat : Nat) : Int) = x % P := Int.toNat_of_nonneg h0
  have ed : (levR P rs trim row).getD (x % P).toNat 0 = rs.foldl (fun m s => max m (s.lb (ext row P (s.a (x % P)) + trim))) (-FAR) := by
    unfold levR
    rw [List.getD_eq_getElem?_getD, List.getElem?_map, List.getElem?_range hi]
    simp only [Option.map_some, Option.getD_some, en]
  have key : ext (levR P rs trim row) P x ≤ y ↔ rs.foldl (fun m s => max m (s.lb (ext row P (s.a (x % P)) + trim))) (-FAR) ≤ y - x / P * P := by
    unfold ext at ed ⊢
    rw [ed]
    omega
  rw [key, le_foldl]
  have hf : -FAR ≤ y - x / P * P := by unfold FAR; omega
  constructor
  · rintro ⟨_, h2⟩ s hs
    have z := ((o s hs).ok.gal _ _).mpr (h2 s hs)
    have e1 := (o s hs).ok.a.k (x % P) (x / P)
    have e2 := (o s hs).ok.b.k (y - x / P * P) (x / P)
    rw [← e] at e1
    rw [Int.sub_add_cancel] at e2
    have e3 := (ext_per row (show (0 : Int) < P by omega)).k (s.a (x % P)) (x / P)
    rw [e1, e3, e2]
    omega
  · intro h2
    refine ⟨hf, fun s hs => ((o s hs).ok.gal _ _).mp ?_⟩
    have z := h2 s hs
    have e1 := (o s hs).ok.a.k (x % P) (x / P)
    have e2 := (o s hs).ok.b.k (y - x / P * P) (x / P)
    rw [← e] at e1
    rw [Int.sub_add_cancel] at e2
    have e3 := (ext_per row (show (0 : Int) < P by omega)).k (s.a (x % P)) (x / P)
    rw [e1, e3, e2] at z
    omega
def RoomK (ls rs : List Stp) (trim : Int) : Nat → Int × Int → Prop
  | 0, _ => True
  | k + 1, q => (∀ c ∈ rs, SafeK ls k (cut c trim q)) ∧ RoomK ls rs trim k q ∧ ∀ s ∈ rs, RoomK ls rs trim k (s.a q.1, s.b q.2)
theorem R0_ext (hP : 0 < P) (trim : Int) (x : Int) : ext (Rm P ls rs trim 0) P x = x - FAR := ext_rowOf (f := fun t => t - FAR) hP (fun x => by show x + (P : Int) - FAR = x - FAR + P; omega) x
theorem lev_cut (hP : 0 < P) (ol : ∀ s ∈ ls, StpOk P s) (o : ∀ s ∈ rs, RoomOk P s) (trim : Int) (k : Nat) {x y : Int} (h : x ≤ y) : ext (levs P ls rs trim (k + 1)) P x ≤ y ↔ ∀ c ∈ rs, SafeK ls k (cut c trim (x, y)) := by
  show ext (levR P rs trim (L P ls k)) P x ≤ y ↔ _
  rw [levR_ext hP o trim _ h]
  constructor
  · intro z c hc
    exact (L_safe hP ol k _ _).mp (show ext (L P ls k) P (c.a x) ≤ c.b y - trim by have := z c hc; omega)
  · intro z c hc
    have : ext (L P ls k) P (c.a x) ≤ c.b y - trim := (L_safe hP ol k _ _).mpr (z c hc)
    omega
theorem Rm_room (hP : 0 < P) (ol : ∀ s ∈ ls, StpOk P s) (o : ∀ s ∈ rs, RoomOk P s) (trim : Int) : ∀ (k : Nat) {x y : Int}, x ≤ y → (ext (Rm P ls rs trim k) P x ≤ y ↔ RoomK ls rs trim k (x, y))
  | 0, x, y, h => by
    rw [R0_ext hP]
    unfold FAR
    constructor
    · intro _
      exact True.intro
    · intro _
      omega
  | k + 1, x, y, h => by
    rw [Rw_succ_le hP (fun s hs => (o s hs).ok), lev_cut hP ol o trim k h, Rm_room hP ol o trim k h]
    have st : ∀ s ∈ rs, s.a x ≤ s.b y := fun s hs => by
      rw [(o s hs).same]
      exact (o s hs).ok.a.mono _ _ h
    constructor
    · rintro ⟨h1, h2, h3⟩
      exact ⟨h1, h2, fun s hs => (Rm_room hP ol o trim k (st s hs)).mp (h3 s hs)⟩
    · rintro ⟨h1, h2, h3⟩
      exact ⟨h1, h2, fun s hs => (Rm_room hP ol o trim k (st s hs)).mpr (h3 s hs)⟩
theorem LastsR.step {trim : Int} {q : Int × Int} (h : LastsR ls rs trim q) {s : Stp} (hs : s ∈ rs) : LastsR ls rs trim (s.a q.1, s.b q.2) := fun w hw => h (s :: w) fun z hz => (List.mem_cons.mp hz).elim (fun e => e ▸ hs) (hw z)
theorem LastsR.room {trim : Int} : ∀ (k : Nat) {q : Int × Int}, LastsR ls rs trim q → RoomK ls rs trim k q
  | 0, _, _ => True.intro
  | k + 1, _, h => ⟨fun c hc => (h [] (fun _ z => nomatch z) c hc).safe k, LastsR.room k h, fun _ hs => LastsR.room k (h.step hs)⟩
theorem play_le (o : ∀ s ∈ rs, RoomOk P s) : ∀ (w : List Stp), (∀ s ∈ w, s ∈ rs) → ∀ {x y : Int}, x ≤ y → (play w (x, y)).1 ≤ (play w (x, y)).2
  | [], _, _, _, h => h
  | s :: w, hw, x, y, h => play_le o w (fun z hz => hw z (List.mem_cons_of_mem _ hz)) (by
    rw [(o s (hw s (List.mem_cons_self ..))).same]
    exact (o s (hw s (List.mem_cons_self ..))).ok.a.mono _ _ h)
/-- the last row tells which rooms last -/
theorem Rm_lasts (hP : 0 < P) (ol : ∀ s ∈ ls, StpOk P s) (o : ∀ s ∈ rs, RoomOk P s) (trim : Int) {k : Nat} (hL : L P ls (k + 1) = L P ls k) (hs : Rm P ls rs trim (k + 1) = Rm P ls rs trim k) {x y : Int} (h : x ≤ y) :
    ext (Rm P ls rs trim k) P x ≤ y ↔ LastsR ls rs trim (x, y) := by
  constructor
  · intro hh w
    induction w generalizing x y with
    | nil =>
      intro _ c hc
      rw [← hs] at hh
      have z := ((Rw_succ_le hP (fun s hs => (o s hs).ok) k x y).mp hh).1
      have z2 := (levR_ext hP o trim (L P ls k) h).mp z c hc
      exact (L_lasts hP ol hL _ _).mp (by show ext (L P ls k) P (c.a x) ≤ c.b y - trim; omega)
    | cons s w ih =>
      intro hw
      have hsm := hw s (List.mem_cons_self ..)
      refine ih (x := s.a x) (y := s.b y) ?_ ?_ fun z hz => hw z (List.mem_cons_of_mem _ hz)
      · rw [(o s hsm).same]
        exact (o s hsm).ok.a.mono _ _ h
      · rw [← hs] at hh
        exact Rw_stay hP (fun s hs => (o s hs).ok) hh hsm
  · intro hh
    exact (Rm_room hP ol o trim k h).mpr (hh.room k)
theorem LastsR.mono (ol : ∀ s ∈ ls, StpOk P s) (o : ∀ s ∈ rs, RoomOk P s) {trim x x' y y' : Int} (h : LastsR ls rs trim (x, y)) (hx : x' ≤ x) (hy : y ≤ y') : LastsR ls rs trim (x', y') := fun w hw c hc => by
  have h1 := h w hw c hc
  have h2 := play_mono (fun s hs => (o s hs).ok) w hw hx hy
  refine h1.mono ol ((o c hc).ok.a.mono _ _ h2.1) ?_
  have := (o c hc).ok.b.mono _ _ h2.2
  omega
theorem LastsR.shift (ol : ∀ s ∈ ls, StpOk P s) (o : ∀ s ∈ rs, RoomOk P s) {trim x y : Int} (h : LastsR ls rs trim (x, y)) (k : Int) : LastsR ls rs trim (x + k * P, y + k * P) := fun w hw c hc => by
  have h1 := (h w hw c hc).shift ol k
  rw [play_shift (fun s hs => (o s hs).ok) k k w hw]
  unfold cut at *
  simp only at *
  rw [(o c hc).ok.a.k, (o c hc).ok.b.k]
  have e : c.b (play w (x, y)).2 + k * (P : Int) - trim = c.b (play w (x, y)).2 - trim + k * P := by omega
  rw [e]
  exact h1
/-- far rooms last where lengths do -/
theorem room_far (hP : 0 < P) (ol : ∀ s ∈ ls, StpOk P s) (o : ∀ s ∈ rs, RoomOk P s) {trim : Int} (h0 : 0 ≤ trim) (hE : Ever ls) (x : Int) : LastsR ls rs trim (x, x + (2 + trim) * P) := fun w hw c hc => by
  obtain ⟨q, hq⟩ := hE
  have e : ∀ w : List Stp, (∀ s ∈ w, s ∈ rs) → ∀ x : Int, (play w (x, x + (2 + trim) * P)).2 = (play w (x, x + (2 + trim) * P)).1 + (2 + trim) * P := by
    intro w
    induction w with
    | nil => intro _ x; rfl
    | cons s w ih =>
      intro hw x
      have os := o s (hw s (List.mem_cons_self ..))
      have z := ih (fun z hz => hw z (List.mem_cons_of_mem _ hz)) (s.a x)
      show (play w (s.a x, s.b (x + (2 + trim) * P))).2 = (play w (s.a x, s.b (x + (2 + trim) * P))).1 + _
      rw [os.same, os.ok.a.k]
      exact z
  have ew := e w hw x
  generalize play w (x, x + (2 + trim) * P) = r at *
  obtain ⟨u, v⟩ := r
  simp only at ew
  subst ew
  have z := two_periods hP ol hq (c.a u)
  refine z.mono ol (Int.le_refl _) ?_
  show c.a u + 2 * (P : Int) ≤ c.b (u + (2 + trim) * P) - trim
  rw [(o c hc).same, (o c hc).ok.a.k, Int.add_mul]
  have : trim * 1 ≤ trim * P := Int.mul_le_mul_of_nonneg_left (by omega) h0
  omega
theorem Rm_mono (hP : 0 < P) (ol : ∀ s ∈ ls, StpOk P s) (o : ∀ s ∈ rs, RoomOk P s) {trim : Int} (h0 : 0 ≤ trim) (hE : Ever ls) (k : Nat) (x : Int) : ext (Rm P ls rs trim k) P x ≤ x + (2 + trim) * P := by
  have hp : 0 ≤ (2 + trim) * (P : Int) := Int.mul_nonneg (by omega) (by omega)
  exact (Rm_room hP ol o trim k (by omega)).mpr ((room_far hP ol o h0 hE x).room k)
/-- rows of rooms fall short of a bound -/
theorem Rm_falls (hP : 0 < P) (ol : ∀ s ∈ ls, StpOk P s) (o : ∀ s ∈ rs, RoomOk P s) {trim : Int} (h0 : 0 ≤ trim) (hE : Ever ls) {k : Nat} (hne : Rm P ls rs trim (k + 1) ≠ Rm P ls rs trim k) :
    gapTo ((2 + trim) * P + P + 1) (Rm P ls rs trim (k + 1)) < gapTo ((2 + trim) * P + P + 1) (Rm P ls rs trim k) := by
  refine gapTo_lt (by rw [Rm_len, Rm_len]) (Rw_getD_le hP (fun s hs => (o s hs).ok) (lev0_len trim) k) (fun i hi => ?_) fun z => hne z.symm
  rw [Rm_len] at hi
  rw [getD_ext hi]
  have h1 := Rm_mono (rs := rs) hP ol o h0 hE k (i : Int)
  omega
theorem Rm_keeps (hP : 0 < P) (o : ∀ s ∈ rs, RoomOk P s) {trim B : Int} (k : Nat) : gapTo B (Rm P ls rs trim (k + 1)) ≤ gapTo B (Rm P ls rs trim k) :=
  gapTo_le (by rw [Rm_len, Rm_len]) (Rw_getD_le hP (fun s hs => (o s hs).ok) (lev0_len trim) k)
/-- how a room breaks -/
theorem Rm_break (hP : 0 < P) (o : ∀ s ∈ rs, RoomOk P s) {trim : Int} {k : Nat} {x y : Int} (h : x ≤ y) (h1 : y < ext (Rm P ls rs trim (k + 1)) P x) (h0 : ext (Rm P ls rs trim k) P x ≤ y)
    (hc : ∀ c ∈ rs, ext (L P ls k) P (c.a x) ≤ c.b y - trim) : 1 ≤ k ∧ ∃ s ∈ rs, s.b y < ext (Rm P ls rs trim k) P (s.a x) := by
  have hl : ext (levs P ls rs trim (k + 1)) P x ≤ y := (levR_ext hP o trim (L P ls k) h).mpr fun s hs => by have := hc s hs; omega
  obtain ⟨s, hs, hb⟩ := Rw_break hP (fun s hs => (o s hs).ok) h1 h0 hl
  refine ⟨?_, s, hs, hb⟩
  cases k with
  | succ k => omega
  | zero =>
    exfalso
    rw [R0_ext hP, (o s hs).same] at hb
    have := (o s hs).ok.a.mono _ _ h
    unfold FAR at hb
    omega
end

/-! ### shelters -/
def laps (P c x : Int) : Int := -((c - x) / P)
def InSh (P : Int) (sh : List (Int × Int)) (q : Int × Int) : Prop := ∃ c ∈ sh, c.2 + laps P c.1 q.1 * P ≤ q.2
theorem laps_le {P : Int} (hP : 0 < P) {c x k : Int} (h : x ≤ c + k * P) : laps P c x ≤ k := by
  unfold laps
  obtain ⟨h1, h2, h3⟩ := divmod (c - x) P hP
  apply Classical.byContradiction
  intro hh
  have h4 : (c - x) / P + 1 ≤ -k := by omega
  have h5 := Int.mul_le_mul_of_nonneg_right h4 (Int.le_of_lt hP)
  rw [Int.add_mul, Int.neg_mul] at h5
  omega
theorem laps_ge {P : Int} (hP : 0 < P) (c x : Int) : x ≤ c + laps P c x * P := by
  unfold laps
  obtain ⟨h1, h2, h3⟩ := divmod (c - x) P hP
  rw [Int.neg_mul]
  omega
/-- the law's own laps -/
theorem laps_law {P : Int} (hP : 0 < P) (c x : Int) : (x - c) / P + (if c + (x - c) / P * P < x then 1 else 0) = laps P c x := by
  obtain ⟨h1, h2, h3⟩ := divmod (x - c) P hP
  have l1 := laps_ge hP c x
  have l2 := laps_le hP (c := c) (x := x) (k := (x - c) / P + 1) (by rw [Int.add_mul]; omega)
  have l3 : (x - c) / P ≤ laps P c x := by
    apply Classical.byContradiction
    intro hh
    have h5 := Int.mul_le_mul_of_nonneg_right (show laps P c x + 1 ≤ (x - c) / P by omega) (Int.le_of_lt hP)
    rw [Int.add_mul] at h5
    omega
  split
  · rename_i h
    by_cases e : laps P c x = (x - c) / P
    · rw [e] at l1
      omega
    · omega
  · rename_i h
    have := laps_le hP (c := c) (x := x) (k := (x - c) / P) (by omega)
    omega
/-- a rising row's corners -/
def corners (P : Nat) (R : Int → Int) : List (Int × Int) := ((List.range P).map fun (i : Nat) => ((i : Int), R i)).filter fun c => decide (c.2 < R (c.1 + 1))
theorem rises {P : Nat} (hP : 0 < P) {R : Int → Int} (hR : Per P R) (hm : ∀ x y, x ≤ y → R x ≤ R y) (x : Int) : ∃ t, x ≤ t ∧ R t = R x ∧ R t < R (t + 1) := by
  have key : ∀ n : Nat, R x < R (x + n) → ∃ t, x ≤ t ∧ R t = R x ∧ R t < R (t + 1) := by
    intro n
    induction n with
    | zero => intro h; simp at h
    | succ n ih =>
      intro h
      by_cases e : R x < R (x + n)
      · exact ih e
      · have h1 := hm x (x + n) (by omega)
        refine ⟨x + n, by omega, by omega, ?_⟩
        have e2 : x + (n : Int) + 1 = x + ((n + 1 : Nat) : Int) := by omega
        rw [e2]
        omega
  refine key P ?_
  rw [hR]
  omega
theorem corners_in {P : Nat} (hP : 0 < P) {R : Int → Int} (hR : Per P R) (hm : ∀ x y, x ≤ y → R x ≤ R y) {x y : Int} (h : R x ≤ y) : InSh P (corners P R) (x, y) := by
  obtain ⟨t, h1, h2, h3⟩ := rises hP hR hm x
  obtain ⟨e, h0, hlt⟩ := split_t (show (0 : Int) < P by omega) t
  have en : (((t % P).toNat : Nat) : Int) = t % P := Int.toNat_of_nonneg h0
  have e1 := hR.k (t % P) (t / P)
  rw [← e] at e1
  have e2 := hR.k (t % P + 1) (t / P)
  have e3 : t % P + 1 + t / P * P = t + 1 := by omega
  rw [e3] at e2
  refine ⟨(t % P, R (t % P)), List.mem_filter.mpr ⟨List.mem_map.mpr ⟨(t % P).toNat, List.mem_range.mpr (by omega), by rw [en]⟩, by simp only [decide_eq_true_eq]; omega⟩, ?_⟩
  have l := laps_le (show (0 : Int) < P by omega) (c := t % P) (x := x) (k := t / P) (by omega)
  have l2 := Int.mul_le_mul_of_nonneg_right l (show (0 : Int) ≤ P by omega)
  show R (t % P) + laps P (t % P) x * P ≤ y
  omega
theorem corners_ne {P : Nat} (hP : 0 < P) {R : Int → Int} (hR : Per P R) (hm : ∀ x y, x ≤ y → R x ≤ R y) : corners P R ≠ [] := by
  obtain ⟨c, hc, _⟩ := corners_in hP hR hm (Int.le_refl (R 0))
  exact List.ne_nil_of_mem hc
theorem corners_mem {P : Nat} {R : Int → Int} {c : Int × Int} (h : c ∈ corners P R) : c.2 = R c.1 := by
  obtain ⟨h1, _⟩ := List.mem_filter.mp h
  obtain ⟨i, _, e⟩ := List.mem_map.mp h1
  rw [← e]

/-! ### the law's own stairs -/
section
variable {P : Nat} {ls : List Stp}
/-- what holds of the law's row: no pair that lasts is below it -/
def Below (P : Nat) (ls : List Stp) (F : List Int) : Prop := ∀ x y, Lasts ls (x, y) → ext F P x ≤ y
def CanStay (P : Nat) (ls : List Stp) (F : List Int) (t p : Int) : Prop := ∀ s ∈ ls, ext F P (s.a t) ≤ s.b p
theorem below_base (hP : 0 < P) : Below P ls (base1 P) := fun x y h => by
  rw [base1_ext hP]
  exact h.sound
theorem Below.can {F : List Int} (h : Below P ls F) {t p : Int} (hl : Lasts ls (t, p)) : CanStay P ls F t p := fun _ hs => h _ _ (hl.step hs)
theorem ext_set {F : List Int} (hl : F.length = P) {i : Nat} (hi : i < P) (v x : Int) : ext (F.set i v) P x = if x % P = i then v + x / P * P else ext F P x := by
  obtain ⟨_, h0, h1⟩ := split_t (show (0 : Int) < P by omega) x
  unfold ext
  rw [List.getD_eq_getElem?_getD, List.getElem?_set, List.getD_eq_getElem?_getD]
  by_cases e : x % P = i
  · rw [if_pos (show i = (x % P).toNat by omega), if_pos e, if_pos (by omega)]
    rfl
  · rw [if_neg (show ¬ i = (x % P).toNat by omega), if_neg e]
theorem Below.set (hP : 0 < P) (o : ∀ s ∈ ls, StpOk P s) {F : List Int} (h : Below P ls F) (hl : F.length = P) {i : Nat} (hi : i < P) {v : Int} (hv : ∀ p : Int, F.getD i 0 ≤ p → p < v → ¬ CanStay P ls F i p) : Below P ls (F.set i v) := fun x y hh => by
  rw [ext_set hl hi]
  split
  · rename_i e
    obtain ⟨es, _, _⟩ := split_t (show (0 : Int) < P by omega) x
    have z := hh.shift o (-(x / P))
    have e1 : x + -(x / P) * (P : Int) = i := by rw [Int.neg_mul]; omega
    rw [e1] at z
    have b := h _ _ z
    rw [← getD_ext hi] at b
    have c := h.can z
    have nv : ¬ (y + -(x / P) * (P : Int) < v) := fun hlt => hv _ b hlt c
    rw [Int.neg_mul] at nv
    omega
  · exact h x y hh
theorem below_never (hP : 0 < P) (o : ∀ s ∈ ls, StpOk P s) {F : List Int} (h : Below P ls F) {i : Nat} (hi : i < P) (hv : ∀ p : Int, F.getD i 0 ≤ p → p ≤ i + 2 * P → ¬ CanStay P ls F i p) : ¬ Ever ls := fun ⟨_, hq⟩ => by
  have z := two_periods hP o hq (i : Int)
  have b := h _ _ z
  rw [← getD_ext hi] at b
  exact hv _ b (Int.le_refl _) (h.can z)
/-- closed rows tell what lasts -/
def Closed (P : Nat) (ls : List Stp) (F : List Int) : Prop := (∀ x, x < ext F P x) ∧ ∀ x, CanStay P ls F x (ext F P x)
theorem closed_of (hP : 0 < P) (o : ∀ s ∈ ls, StpOk P s) {F : List Int} (h1 : ∀ i : Nat, i < P → (i : Int) < F.getD i 0) (h2 : ∀ i : Nat, i < P → CanStay P ls F i (F.getD i 0)) : Closed P ls F := by
  have hp : (0 : Int) < P := by omega
  refine ⟨fun x => ?_, fun x s hs => ?_⟩
  · obtain ⟨e, h0, hlt⟩ := split_t hp x
    have z := h1 (x % P).toNat (by omega)
    unfold ext
    omega
  · obtain ⟨e, h0, hlt⟩ := split_t hp x
    have z := h2 (x % P).toNat (by omega) s hs
    rw [Int.toNat_of_nonneg h0] at z
    have e1 := (o s hs).a.k (x % P) (x / P)
    have e2 := (o s hs).b.k (F.getD (x % P).toNat 0) (x / P)
    rw [← e] at e1
    have e3 := (ext_per F hp).k (s.a (x % P)) (x / P)
    have e4 : ext F P x = F.getD (x % P).toNat 0 + x / P * P := rfl
    rw [e1, e3, e4, e2]
    omega
theorem Closed.lasts (o : ∀ s ∈ ls, StpOk P s) {F : List Int} (c : Closed P ls F) (hb : Below P ls F) (x y : Int) : ext F P x ≤ y ↔ Lasts ls (x, y) := by
  constructor
  · intro h w
    induction w generalizing x y with
    | nil =>
      intro _
      have := c.1 x
      show x < y
      omega
    | cons s w ih =>
      intro hw
      have hs := hw s (List.mem_cons_self ..)
      refine ih (s.a x) (s.b y) ?_ fun z hz => hw z (List.mem_cons_of_mem _ hz)
      exact Int.le_trans (c.2 x s hs) ((o s hs).b.mono _ _ h)
  · exact hb x y
end
end CM
namespace CM
/-! ### the least time that is carried to a goal -/
theorem PM.low {P : Int} (hP : 0 < P) {f : Int → Int} (h : PM P f) (g : Int) : ∃ n : Nat, f (-(n : Int)) < g := by
  obtain ⟨h1, h2, h3⟩ := divmod (f 0 - g) P hP
  obtain ⟨k, hk⟩ : ∃ k : Int, f 0 - g < k * P := ⟨(f 0 - g) / P + 1, by rw [Int.add_mul]; omega⟩
  refine ⟨(k * P).toNat, ?_⟩
  have e := Per.k h.per 0 (-k)
  have e3 := h.mono (-((k * P).toNat : Int)) (0 + -k * P) (by rw [Int.neg_mul]; omega)
  rw [e, Int.neg_mul] at e3
  omega
theorem PM.high {P : Int} (hP : 0 < P) {f : Int → Int} (h : PM P f) (g : Int) : ∃ n : Nat, g ≤ f (n : Int) := by
  obtain ⟨h1, h2, h3⟩ := divmod (g - f 0) P hP
  obtain ⟨k, hk⟩ : ∃ k : Int, g - f 0 < k * P := ⟨(g - f 0) / P + 1, by rw [Int.add_mul]; omega⟩
  refine ⟨(k * P).toNat, ?_⟩
  have e := Per.k h.per 0 k
  have e3 := h.mono (0 + k * P) ((k * P).toNat : Int) (by omega)
  rw [e] at e3
  omega
theorem PM.least {P : Int} (hP : 0 < P) {f : Int → Int} (h : PM P f) (g : Int) : ∃ t, g ≤ f t ∧ f (t - 1) < g := by
  obtain ⟨m, hm⟩ := h.low hP g
  obtain ⟨n, hn⟩ := h.high hP g
  obtain ⟨k, hk, hmin⟩ := least_exists (p := fun k : Nat => g ≤ f (-(m : Int) + k)) ⟨m + n, by
    have e : -(m : Int) + ((m + n : Nat) : Int) = n := by omega
    rw [e]
    exact hn⟩
  refine ⟨-(m : Int) + k, hk, ?_⟩
  apply Classical.byContradiction
  intro hh
  cases k with
  | zero =>
    simp at hk
    omega
  | succ k =>
    have := hmin k (by
      have e : -(m : Int) + ((k + 1 : Nat) : Int) - 1 = -(m : Int) + k := by omega
      rw [e] at hh
      omega)
    omega
theorem least_gal {P : Int} {f : Int → Int} (h : PM P f) {g l : Int} (h1 : g ≤ f l) (h0 : f (l - 1) < g) (t : Int) : g ≤ f t ↔ l ≤ t := by
  constructor
  · intro z
    apply Classical.byContradiction
    intro hh
    have := h.mono t (l - 1) (by omega)
    omega
  · intro z
    have := h.mono l t z
    omega
open Classical in
noncomputable def lb (f : Int → Int) (g : Int) : Int := if h : ∃ t, g ≤ f t ∧ f (t - 1) < g then h.choose else 0
theorem lb_gal {P : Int} (hP : 0 < P) {f : Int → Int} (h : PM P f) (g t : Int) : g ≤ f t ↔ lb f g ≤ t := by
  have e := h.least hP g
  unfold lb
  rw [dif_pos e]
  exact least_gal h e.choose_spec.1 e.choose_spec.2 t
theorem lb_is {P : Int} (hP : 0 < P) {f : Int → Int} (h : PM P f) {g l : Int} (h1 : g ≤ f l) (h0 : f (l - 1) < g) : lb f g = l := by
  have a := (lb_gal hP h g l).mp h1
  have b := (least_gal h h1 h0 (lb f g)).mp ((lb_gal hP h g _).mpr (Int.le_refl _))
  omega
theorem lb_per {P : Int} (hP : 0 < P) {f : Int → Int} (h : PM P f) : Per P (lb f) := (StpOk.lb_per (s := ⟨f, f, lb f⟩) ⟨h, h, lb_gal hP h⟩)

/-! ### periods -/
def ns (ps : List Prg) : List Int := ps.flatMap fun p => p.vias.map (·.n)
def perStep (m n : Int) : Int := m * n / (Int.gcd m n : Int)
def perGo (m : Int) (l : List Int) : Int := l.foldl perStep m
theorem perStep_lcm {m n : Int} (hm : 0 < m) (hn : 0 < n) : perStep m n = (Nat.lcm m.toNat n.toNat : Int) := by
  obtain ⟨a, rfl⟩ := Int.eq_ofNat_of_zero_le (Int.le_of_lt hm)
  obtain ⟨b, rfl⟩ := Int.eq_ofNat_of_zero_le (Int.le_of_lt hn)
  unfold perStep Int.gcd Nat.lcm
  simp only [Int.natAbs_natCast, Int.toNat_natCast]
  rw [← Int.natCast_mul, ← Int.natCast_ediv]
theorem perStep_pos {m n : Int} (hm : 0 < m) (hn : 0 < n) : 0 < perStep m n := by
  rw [perStep_lcm hm hn]
  have := Nat.lcm_pos (m := m.toNat) (n := n.toNat) (by omega) (by omega)
  omega
theorem dvd_of_toNat {m n : Int} (hm : 0 < m) (hn : 0 < n) (h : m.toNat ∣ n.toNat) : m ∣ n := by
  obtain ⟨k, hk⟩ := h
  refine ⟨k, ?_⟩
  have e : (n.toNat : Int) = ((m.toNat * k : Nat) : Int) := by rw [hk]
  rw [Int.natCast_mul, Int.toNat_of_nonneg (by omega), Int.toNat_of_nonneg (by omega)] at e
  exact e
theorem toNat_dvd {m n : Int} (hm : 0 < m) (h : m ∣ n) (hn : 0 < n) : m.toNat ∣ n.toNat := by
  obtain ⟨k, rfl⟩ := h
  have hk : 0 < k := by
    apply Classical.byContradiction
    intro z
    have := Int.mul_le_mul_of_nonneg_left (show k ≤ 0 by omega) (Int.le_of_lt hm)
    omega
  refine ⟨k.toNat, ?_⟩
  have e : ((m * k).toNat : Int) = ((m.toNat * k.toNat : Nat) : Int) := by
    rw [Int.natCast_mul, Int.toNat_of_nonneg (by omega), Int.toNat_of_nonneg (by omega), Int.toNat_of_nonneg (by omega)]
  omega
theorem perGo_pos : ∀ (l : List Int) {m : Int}, 0 < m → (∀ n ∈ l, 0 < n) → 0 < perGo m l
  | [], _, h, _ => h
  | n :: r, _, h, hl => perGo_pos r (perStep_pos h (hl n (List.mem_cons_self ..))) fun z hz => hl z (List.mem_cons_of_mem _ hz)
theorem perStep_dvd {m n : Int} (hm : 0 < m) (hn : 0 < n) : m ∣ perStep m n ∧ n ∣ perStep m n := by
  have hp := perStep_pos hm hn
  rw [perStep_lcm hm hn] at *
  exact ⟨dvd_of_toNat hm hp (by rw [Int.toNat_natCast]; exact Nat.dvd_lcm_left _ _), dvd_of_toNat hn hp (by rw [Int.toNat_natCast]; exact Nat.dvd_lcm_right _ _)⟩
theorem perGo_dvd : ∀ (l : List Int) {m : Int}, 0 < m → (∀ n ∈ l, 0 < n) → m ∣ perGo m l ∧ ∀ n ∈ l, n ∣ perGo m l
  | [], m, _, _ => ⟨Int.dvd_refl m, fun _ z => nomatch z⟩
  | n :: r, m, h, hl => by
    have hn := hl n (List.mem_cons_self ..)
    obtain ⟨a, b⟩ := perGo_dvd r (perStep_pos h hn) fun z hz => hl z (List.mem_cons_of_mem _ hz)
    obtain ⟨c, d⟩ := perStep_dvd h hn
    refine ⟨Int.dvd_trans c a, fun z hz => ?_⟩
    rcases List.mem_cons.mp hz with e | hz
    · rw [e]
      exact Int.dvd_trans d a
    · exact b z hz
theorem perGo_of : ∀ (l : List Int) {m M : Int}, 0 < m → 0 < M → (∀ n ∈ l, 0 < n) → m ∣ M → (∀ n ∈ l, n ∣ M) → perGo m l ∣ M
  | [], _, _, _, _, _, h, _ => h
  | n :: r, m, M, h, hM, hl, hm, hd => by
    have hn := hl n (List.mem_cons_self ..)
    refine perGo_of r (perStep_pos h hn) hM (fun z hz => hl z (List.mem_cons_of_mem _ hz)) ?_ fun z hz => hd z (List.mem_cons_of_mem _ hz)
    have hp := perStep_pos h hn
    refine dvd_of_toNat hp hM ?_
    rw [perStep_lcm h hn, Int.toNat_natCast]
    exact Nat.lcm_dvd (toNat_dvd h hm hM) (toNat_dvd hn (hd n (List.mem_cons_self ..)) hM)
def period (ps : List Prg) : Int := perGo 1 (ns ps)
theorem ns_mem {ps : List Prg} {p : Prg} (hp : p ∈ ps) {v : Via} (hv : v ∈ p.vias) : v.n ∈ ns ps := List.mem_flatMap.mpr ⟨p, hp, List.mem_map.mpr ⟨v, hv, rfl⟩⟩
theorem ns_pos {ps : List Prg} (o : ∀ p ∈ ps, p.Ok) : ∀ n ∈ ns ps, 0 < n := fun n hn => by
  obtain ⟨p, hp, hq⟩ := List.mem_flatMap.mp hn
  obtain ⟨v, hv, rfl⟩ := List.mem_map.mp hq
  exact ((o p hp).vias v hv).n
theorem period_pos {ps : List Prg} (o : ∀ p ∈ ps, p.Ok) : 0 < period ps := perGo_pos _ (by omega) (ns_pos o)
theorem period_dvd {ps : List Prg} (o : ∀ p ∈ ps, p.Ok) {p : Prg} (hp : p ∈ ps) {v : Via} (hv : v ∈ p.vias) : v.n ∣ period ps := (perGo_dvd _ (by omega) (ns_pos o)).2 _ (ns_mem hp hv)
theorem period_le {ps : List Prg} (o : ∀ p ∈ ps, p.Ok) {M : Int} (hM : 0 < M) (h : ∀ n ∈ ns ps, n ∣ M) : period ps ≤ M :=
  Int.le_of_dvd hM (perGo_of _ (by omega) hM (ns_pos o) (Int.one_dvd M) h)
theorem carry_per {ps : List Prg} (o : ∀ p ∈ ps, p.Ok) {p : Prg} (hp : p ∈ ps) (side : Bool) : PM (period ps) (carry p side) := carry_pm (o p hp) side fun v hv => period_dvd o hp hv

/-! ### a studio's steps -/
noncomputable def stpL (p : Prg) : Stp := ⟨carry p false, carry p true, lb (carry p true)⟩
noncomputable def stpR (p : Prg) : Stp := ⟨carry p false, carry p false, lb (carry p false)⟩
noncomputable def lsOf (ps : List Prg) : List Stp := ps.map stpL
noncomputable def rsOf (ps : List Prg) : List Stp := ps.map stpR
theorem ls_ok {ps : List Prg} (o : ∀ p ∈ ps, p.Ok) : ∀ s ∈ lsOf ps, StpOk (period ps) s := fun s hs => by
  obtain ⟨p, hp, rfl⟩ := List.mem_map.mp hs
  exact ⟨carry_per o hp _, carry_per o hp _, lb_gal (period_pos o) (carry_per o hp _)⟩
theorem rs_ok {ps : List Prg} (o : ∀ p ∈ ps, p.Ok) : ∀ s ∈ rsOf ps, RoomOk (period ps) s := fun s hs => by
  obtain ⟨p, hp, rfl⟩ := List.mem_map.mp hs
  exact ⟨⟨carry_per o hp _, carry_per o hp _, lb_gal (period_pos o) (carry_per o hp _)⟩, rfl⟩

/-! ### how many keys there are -/
theorem nodup_lt : ∀ {n : Nat} {l : List Nat}, l.Nodup → (∀ x ∈ l, x < n) → l.length ≤ n
  | 0, [], _, _ => Nat.le_refl _
  | 0, x :: _, _, h => absurd (h x (List.mem_cons_self ..)) (Nat.not_lt_zero _)
  | n + 1, l, hd, h => by
    have h1 : (l.erase n).length + 1 ≥ l.length := by
      have := List.length_erase (a := n) (l := l)
      split at this <;> omega
    have h2 := nodup_lt (n := n) (hd.erase n) fun x hx => by
      have m := (List.Nodup.mem_erase_iff hd).mp hx
      have := h x m.2
      omega
    omega
def keyN (W : Nat) (k : Int × Int) : Nat := k.1.toNat * W + k.2.toNat
theorem keyN_inj {W : Nat} {a b : Int × Int} (ha : 0 ≤ a.1 ∧ 0 ≤ a.2 ∧ a.2 < W) (hb : 0 ≤ b.1 ∧ 0 ≤ b.2 ∧ b.2 < W) (h : keyN W a = keyN W b) : a = b := by
  unfold keyN at h
  have h1 : a.1.toNat = b.1.toNat := by
    have e1 : (a.1.toNat * W + a.2.toNat) / W = a.1.toNat := by
      rw [Nat.mul_comm, Nat.mul_add_div (by omega), Nat.div_eq_of_lt (by omega)]
      omega
    have e2 : (b.1.toNat * W + b.2.toNat) / W = b.1.toNat := by
      rw [Nat.mul_comm, Nat.mul_add_div (by omega), Nat.div_eq_of_lt (by omega)]
      omega
    rw [← e1, ← e2, h]
  rw [h1] at h
  exact Prod.ext (by omega) (by omega)
theorem nodup_map {α β : Type} {f : α → β} : ∀ {l : List α}, l.Nodup → (∀ a ∈ l, ∀ b ∈ l, f a = f b → a = b) → (l.map f).Nodup
  | [], _, _ => List.nodup_nil
  | x :: l, hd, h => by
    rw [List.map_cons]
    obtain ⟨h1, h2⟩ := List.nodup_cons.mp hd
    refine List.nodup_cons.mpr ⟨fun hm => ?_, nodup_map h2 fun a ha b hb => h a (List.mem_cons_of_mem _ ha) b (List.mem_cons_of_mem _ hb)⟩
    obtain ⟨y, hy, e⟩ := List.mem_map.mp hm
    have := h y (List.mem_cons_of_mem _ hy) x (List.mem_cons_self ..) e
    exact h1 (this ▸ hy)
theorem keys_le {P W : Nat} {l : List (Int × Int)} (hd : l.Nodup) (h : ∀ k ∈ l, (0 ≤ k.1 ∧ k.1 < P) ∧ 0 ≤ k.2 ∧ k.2 < W) : l.length ≤ P * W := by
  have := nodup_lt (n := P * W) (l := l.map (keyN W)) (nodup_map hd fun a ha b hb e => keyN_inj ⟨(h a ha).1.1, (h a ha).2⟩ ⟨(h b hb).1.1, (h b hb).2⟩ e) fun x hx => by
    obtain ⟨k, hk, rfl⟩ := List.mem_map.mp hx
    obtain ⟨⟨h1, h2⟩, h3, h4⟩ := h k hk
    unfold keyN
    have : (k.1.toNat + 1) * W ≤ P * W := Nat.mul_le_mul_right W (by omega)
    rw [Nat.add_mul] at this
    omega
  rw [List.length_map] at this
  exact this
end CM
set_option Elab.async false
set_option linter.all false
set_option maxRecDepth 100000
set_option maxHeartbeats 1000000
namespace CZ
open PySem PySem.Spec PyProof.Rows L2
/-! ### a def by its body; its call -/
structure Rn (P : Program) (w : World) (K : PySem.W.Frag) (mg : Str → Option Value) (base : Heap) (k : Nat) (f : Addr) (sp : Sp) : Prop where
  ex : ∃ (fd : FuncData) (ps : List Str), FnOk P w K mg base CX0 k f fd ps sp ∧ Binds K fd ps []
  kp : PySem.W.keepIn K (.ref f) = true
section
variable {P : Program} {w : World} {K : PySem.W.Frag} {mg : Str → Option Value} {base : Heap} {k : Nat} {f : Addr} {sp sp' : Sp}
theorem Rn.r (R : Rn P w K mg base k f sp) : FnR P w K mg base CX0 k f sp := by
  obtain ⟨fd, ps, F, b⟩ := R.ex
  exact (F.raw b .nil).imp fun vs H Q E h => by rw [List.append_nil]; exact h
theorem Rn.imp (R : Rn P w K mg base k f sp) (h : ∀ vs H Q E, sp' vs H Q E → sp vs H Q E) : Rn P w K mg base k f sp' := by
  obtain ⟨fd, ps, F, b⟩ := R.ex
  exact ⟨⟨fd, ps, F.imp h, b⟩, R.kp⟩
theorem rn_of {x qual : Str} {st : Stmt} {N ps : List Str} (u : ∃ fd, FunD K x qual (defArgs st) (defBody st) (defScope st) [] [] f fd) (S : FnScope N ps (defScope st))
    (hb : ∀ (kV doc pm : Value) (an : Option Addr) (cdv ct : Value) (us : List Value), us.length = ps.length → bindArgs (PySem.W.fnOf x qual (defArgs st) (defBody st) (defScope st) .none kV doc pm an cdv ct) ⟨us, []⟩ = pure (ps.zip us))
    (len : ∀ vs H Q E, sp vs H Q E → vs.length = ps.length)
    (hbody : ∀ (cdv : Value) (A : Around) (outer : List Env) (s : Shared) (H : Hp) (vs : List V) (Q : VK) (E : XK), Room k (A.deeper (envOfC qual (defScope st) s.heap.objs.size f cdv)) → sp vs H Q E →
      ∃ t, PSs (cxOf CX0 P w K mg base N qual (defScope st) f cdv A outer s H E).nox (defBody st) t ∧ t { nx := fun _ H' => Q .non H', rt := Q } (start N vs) H) : Rn P w K mg base (k + 1) f sp := by
  obtain ⟨fd, F⟩ := u
  refine ⟨⟨fd, ps, F.ok S len fun cdv A outer s H vs Q E hr hs => ?_, F.bindsN hb⟩, F.kp⟩
  obtain ⟨t, h, q⟩ := hbody cdv A outer s H vs Q E hr hs
  exact ⟨t, h.nox, q⟩
end
section
variable {X : Cx} {k j : Nat} {f C p1 : Addr} {x m : Str} {sp : Sp} {p pos apos : Pos} {e o : Expr} {es : List Expr} {ta : TE} {t : TA}
/-- x(e, ..) -/
def tR (sp : Sp) (t : TA) : TE := fun σ H Q => t σ H fun vs H1 => sp vs H1 Q E0
theorem sp_nil (sp : Sp) (Q : VK) : (fun vs H1 => sp (vs ++ []) H1 Q E0) = fun vs H1 => sp vs H1 Q E0 := by funext vs H1; rw [List.append_nil]
theorem pe_r (R : Rn X.prog X.w X.K X.mg X.base k f sp) (hm : X.mg x = some (.ref f)) (hr : Room j X.A) (hg : Gl X x) (ha : PA X (e :: es) t) (hk : k ≤ j := by first | decide | omega)
    (hdb : (x == ("__debug__" : Str)) = false := by decide) (he : starEach (e :: es) X.env = (false, eval e X.env) :: starEach es X.env := by rfl) (hpl : (backTo pos (starEach es X.env)).any (·.1) = false := by rfl) :
    PE X (.Call (.Name x p) (e :: es) [] pos) (tR sp t) := by
  obtain ⟨fd, ps, F, b⟩ := R.ex
  have z := pe_call (p := p) (pos := pos) F (hr.mono hk) hg hm R.kp b .nil pass0 ha hdb he hpl
  refine ⟨fun pins s σ H Q I h => z.run pins s σ H Q I ?_⟩
  show t σ H fun vs H1 => sp (vs ++ []) H1 Q E0
  rw [sp_nil]
  exact h
theorem pe_r0 (R : Rn X.prog X.w X.K X.mg X.base k f sp) (hm : X.mg x = some (.ref f)) (hr : Room j X.A) (hg : Gl X x) (hk : k ≤ j := by first | decide | omega) (hdb : (x == ("__debug__" : Str)) = false := by decide) :
    PE X (.Call (.Name x p) [] [] pos) (tR sp tNil) := by
  obtain ⟨fd, ps, F, b⟩ := R.ex
  exact pe_call0 (p := p) (pos := pos) F (hr.mono hk) hg hm R.kp b .nil pass0 hdb
/-- o.m(e, ..), o with slots -/
theorem pe_ms {pl : Sem Bool} (he : PE X o ta) (c : SlX.SCls X.K C) (hm : Meth X.K C m f) (R : Rn X.prog X.w X.K X.mg X.base k f sp) (hr : Room j X.A) (ha : PA X (e :: es) t) (hk : k ≤ j := by first | decide | omega)
    (hst : starEach (e :: es) X.env = (false, eval e X.env) :: starEach es X.env := by rfl) (hpl : (backTo pos (starEach es X.env)).any (·.1) = false := by rfl)
    (ht : eval (.Call (.Attribute o m apos) (e :: es) [] pos) X.env = (do
      let ov ← eval o X.env
      standAt apos.atName
      let (f, first) ← holding [ov] (getMethod ov m pl)
      callWith pos f first (backTo pos (starEach (e :: es) X.env)) (backToKw pos (keywordEach [] X.env))) := by rfl) :
    PE X (.Call (.Attribute o m apos) (e :: es) [] pos) (SlX.tMethSl C sp E0 ta t) := SlX.pe_methSl (pl := pl) he c hm R.r (hr.mono hk) pass0 ha hst hpl ht
theorem pe_ms0 {pl : Sem Bool} (he : PE X o ta) (c : SlX.SCls X.K C) (hm : Meth X.K C m f) (R : Rn X.prog X.w X.K X.mg X.base k f sp) (hr : Room j X.A) (hk : k ≤ j := by first | decide | omega)
    (ht : eval (.Call (.Attribute o m apos) [] [] pos) X.env = (do
      let ov ← eval o X.env
      standAt apos.atName
      let (f, first) ← holding [ov] (getMethod ov m pl)
      callWith pos f first (backTo pos (starEach [] X.env)) (backToKw pos (keywordEach [] X.env))) := by rfl) :
    PE X (.Call (.Attribute o m apos) [] [] pos) (SlX.tMethSl C sp E0 ta tNil) := SlX.pe_methSl0 (pl := pl) he c hm R.r (hr.mono hk) pass0 ht
/-- o.f, a property, o with slots -/
theorem pe_pr (he : PE X e ta) (c : SlX.SCls X.K C) (q : Prp X.K C m p1 f) (R : Rn X.prog X.w X.K X.mg X.base k f sp) (hr : Room j X.A) (hk : k + 1 ≤ j := by first | decide | omega) (hb : attributeBase e m X.env (eval e X.env) = eval e X.env := by rfl) :
    PE X (.Attribute e m pos) (SlX.tPropSl C sp E0 ta) := SlX.pe_propSl he c q.at_ q.get q.tak q.rec_ R.r (hr.mono hk) (fun _ _ _ _ z => z) hb
/-- o.m(e, ..), o of a class with a dict -/
theorem pe_mdR {pl : Sem Bool} (he : PE X o ta) (c : Cls X.K C) (hm : Meth X.K C m f) (R : Rn X.prog X.w X.K X.mg X.base k f sp) (hr : Room j X.A) (ha : PA X (e :: es) t) (hk : k ≤ j := by first | decide | omega)
    (hst : starEach (e :: es) X.env = (false, eval e X.env) :: starEach es X.env := by rfl) (hpl : (backTo pos (starEach es X.env)).any (·.1) = false := by rfl)
    (ht : eval (.Call (.Attribute o m apos) (e :: es) [] pos) X.env = (do
      let ov ← eval o X.env
      standAt apos.atName
      let (f, first) ← holding [ov] (getMethod ov m pl)
      callWith pos f first (backTo pos (starEach (e :: es) X.env)) (backToKw pos (keywordEach [] X.env))) := by rfl) :
    PE X (.Call (.Attribute o m apos) (e :: es) [] pos) (tMethR C m sp E0 ta t) := pe_methR (pl := pl) he c hm R.r (hr.mono hk) pass0 ha hst hpl ht
theorem pe_prD (he : PE X e ta) (c : Cls X.K C) (q : Prp X.K C m p1 f) (R : Rn X.prog X.w X.K X.mg X.base k f sp) (hr : Room j X.A) (hk : k + 1 ≤ j := by first | decide | omega) (hb : attributeBase e m X.env (eval e X.env) = eval e X.env := by rfl) :
    PE X (.Attribute e m pos) (tProp C sp [] E0 ta) := by
  obtain ⟨fd, ps, F, b⟩ := R.ex
  exact pe_prop he c ⟨q.at_, q.get, q.tak, q.rec_⟩ F (hr.mono hk) b .nil pass0 hb
/-- C(e, ..) -/
theorem pe_new (M : Mk X.K C f) (R : Rn X.prog X.w X.K X.mg X.base k f sp) (hm : X.mg x = some (.ref C)) (hr : Room j X.A) (hg : Gl X x) (ha : PA X (e :: es) t) (hk : k + 1 ≤ j := by first | decide | omega) (hdb : (x == ("__debug__" : Str)) = false := by decide)
    (he : starEach (e :: es) X.env = (false, eval e X.env) :: starEach es X.env := by rfl) (hpl : (backTo pos (starEach es X.env)).any (·.1) = false := by rfl) : PE X (.Call (.Name x p) (e :: es) [] pos) (StX.tMakeR C sp E0 t) :=
  StX.pe_makeR M R.r (hr.mono hk) hg hm pass0 ha hdb he hpl
theorem pe_new0 (M : Mk X.K C f) (R : Rn X.prog X.w X.K X.mg X.base k f sp) (hm : X.mg x = some (.ref C)) (hr : Room j X.A) (hg : Gl X x) (hk : k + 1 ≤ j := by first | decide | omega) (hdb : (x == ("__debug__" : Str)) = false := by decide) :
    PE X (.Call (.Name x p) [] [] pos) (tMake C sp [] E0 tNil) := by
  obtain ⟨fd, ps, F, b⟩ := R.ex
  exact pe_make0 M F (hr.mono hk) hg hm b .nil pass0 hdb
/-- ** of any base -/
def CPowW (i j : Int) : Prop := 0 ≤ j ∧ (Builtin.Int.intBits i : Int) * j ≤ 2 ^ 27
theorem op_powW : OpR X (binaryOp .Pow) (rI CPowW fun i j => .int (i ^ j.toNat)) := opI fun _ _ _ _ _ _ _ hc q => pow_int hc.1 hc.2 q
end

/-! ### rules whose reading names the written part: told by its letter -/
section
variable {X : Cx} {e o l e2 : Expr} {f : Str} {pos apos tpos p : Pos} {ta te tl to : TE} {t : TGs} {es elts : List Expr} {k n kk : Nat} {tg : Expr}
theorem ix_tupK (K : PySem.W.Frag) (h : X.K = K := by rfl) : IxR X (rIxT K) := by subst h; exact ix_tup
theorem ix_listK (K : PySem.W.Frag) (h : X.K = K := by rfl) : IxR X (rIxL K) := by subst h; exact ix_list
theorem op_catTK (K : PySem.W.Frag) (h : X.K = K := by rfl) : OpR X (binaryOp .Add) (rCatT K) := by subst h; exact op_catT
theorem op_in_seqK (K : PySem.W.Frag) (h : X.K = K := by rfl) : OpR X (compareOp .In) (rIn K false) := by subst h; exact op_in_seq
theorem op_notIn_seqK (K : PySem.W.Frag) (h : X.K = K := by rfl) : OpR X (compareOp .NotIn) (rIn K true) := by subst h; exact op_notIn_seq
theorem call_len_seqK (K : PySem.W.Frag) (h : X.K = K := by rfl) : CallR X (.builtin "len") (fun xs H Q => ∃ p ys, xs = [.ref p] ∧ (SqL K H p ys ∨ SqT K H p ys) ∧ Q (.int ys.length) H) := by subst h; exact call_len_seq
theorem call_isiK_ (K : PySem.W.Frag) (h : X.K = K := by rfl) : CallR X (.builtin "isinstance") (rIsi K) := by subst h; exact call_isi
theorem pe_slK (K : PySem.W.Frag) (he : PE X e ta) (h : X.K = K := by rfl) (hb : attributeBase e f X.env (eval e X.env) = eval e X.env := by rfl) : PE X (.Attribute e f pos) (SlX.tSl K ta f) := by subst h; exact SlX.pe_sl he hb
theorem pg_tupK (K : PySem.W.Frag) (hc : X.calm = true) (ht : PGs X es t) (h : X.K = K := by rfl)
    (hn : (assignEach es X.env).length = n := by rfl) (hst : (assignEach es X.env).findIdx? (·.1) = none := by rfl) : PG X (.Tuple es k pos) (gTup K n t) := by subst h; exact pg_tup hc ht hn hst
theorem pi_listK (K : PySem.W.Frag) (hl : PE X l tl) (h : X.K = K := by rfl) : PI X tg l (iList K tl) := by subst h; exact pi_list hl
theorem pi_tupK (K : PySem.W.Frag) (hl : PE X l tl) (h : X.K = K := by rfl) : PI X tg l (iTup K tl) := by subst h; exact pi_tup hl
theorem pe_joinK (K : PySem.W.Frag) (ho : PE X o to) (he : PE X e te) (h : X.K = K := by rfl) (hs : starEach [e] X.env = [(false, eval e X.env)] := by rfl) (hbase : attributeBase o "join" X.env (eval o X.env) = eval o X.env := by rfl) (hline : (apos.endLine == pos.line) = true := by rfl) :
    PE X (.Call (.Attribute o "join" apos) [e] [] pos) (tM1 (fun x xs H Q => ∃ a p, ∃ ys : List Str, x = .str a ∧ xs = [.ref p] ∧ (SqL K H p (ys.map V.str) ∨ SqT K H p (ys.map V.str)) ∧
      (ys.map (·.length)).sum + ys.length * a.length ≤ 16777216 ∧ Q (.str (Txt.join a ys)) H) to te) := by subst h; exact pe_join ho he hs hbase hline
end
/-! ### heaps that grow -/
abbrev Ex := Evl.Ex
/-- all but one object stays -/
def ExB (d : Addr) (H H' : Hp) : Prop := ∀ a o, a ≠ d → H a = some o → H' a = some o
theorem ExB.refl (d : Addr) (H : Hp) : ExB d H H := fun _ _ _ h => h
theorem ExB.trans {d : Addr} {H H1 H2 : Hp} (a : ExB d H H1) (b : ExB d H1 H2) : ExB d H H2 := fun x o n h => b x o n (a x o n h)
theorem ExB.of {d : Addr} {H H' : Hp} (a : Ex H H') : ExB d H H' := fun x o _ h => a x o h
theorem ExB.ex {d : Addr} {H H' : Hp} (a : ExB d H H') (h : H d = none) : Ex H H' := fun x o e => a x o (ne_of_none e h) e
theorem ExB.upd {d : Addr} {H H' : Hp} {o : HO} (a : ExB d H H') : ExB d H (L2.upd H' d o) := fun x u n h => by rw [upd_ne n]; exact a x u n h
theorem exb_upd {d : Addr} {H : Hp} {o : HO} : ExB d H (L2.upd H d o) := (ExB.refl d H).upd
theorem ExB.new {d q : Addr} {H H' : Hp} {o : HO} (a : ExB d H H') (h : H' q = none) : ExB d H (L2.upd H' q o) := fun x u n e => by
  have e1 := a x u n e
  rw [upd_ne (ne_of_none e1 h)]
  exact e1
end CZ
set_option Elab.async false
set_option linter.all false
set_option maxRecDepth 100000
set_option maxHeartbeats 2000000
namespace CZ
open PySem PySem.Spec PyProof.Rows L2
/-- a period that stands in the program -/
def Pd (T : Int) : Prop := 0 < T ∧ T ≤ 50000
def spPlaced (K : PySem.W.Frag) : Sp := fun vs H Q _ => ∃ (p : Addr) (row : List Int) (T t : Int), vs = [.ref p, .int T, .int t] ∧ SqL K H p (row.map V.int) ∧ (row.length : Int) = T ∧ Pd T ∧ Q (.int (CM.ext row T t)) H
/-- numbers as they are rounded here -/
def Sm (i : Int) : Prop := -(2 ^ 62) < i ∧ i < 2 ^ 62
def spCommon : Sp := fun vs H Q _ => ∃ a b : Int, vs = [.int a, .int b] ∧ Q (.int ((Int.gcd a b : Nat) : Int)) H
def spNearest : Sp := fun vs H Q _ => ∃ (a u : Int) (b : Bool), vs = [.int a, .int u, .bl b] ∧ 0 < u ∧ u ≤ 100000000 ∧ Q (.int (CM.rnd (if b then .near else .low) a u)) H
def howS : CM.How → Str
  | .down => "down"
  | .up => "up"
  | .near => "near"
  | .low => "low"
def spRoundTo : Sp := fun vs H Q _ => ∃ (a u : Int) (h : CM.How), vs = [.int a, .int u, .str (howS h)] ∧ 0 < u ∧ u ≤ 100000000 ∧ Q (.int (CM.rnd h a u)) H
theorem str_ne {a b : Str} (h : decide (a = b) = false) : decide (V.str a = V.str b) = false := by
  rw [decide_eq_false_iff_not] at h ⊢
  exact fun z => h (V.str.inj z)
theorem str_eq {a : Str} : decide (V.str a = V.str a) = true := decide_eq_true rfl
section
variable {P : Program} {w : World} {K : PySem.W.Frag} {mg : Str → Option Value} {base : Heap}
theorem r_placed (Z : Zed K mg base) : Rn P w K mg base 1 (a_placed K) (spPlaced K) := by
  refine rn_of (u_placed Z) sco_placed (fun _ _ _ _ _ _ us hl => match us, hl with | [_, _, _], _ => rfl) (fun vs H Q E h => ?_) (fun cdv A outer s H vs Q E hr h => ?_)
  · obtain ⟨p, row, T, t, rfl, _⟩ := h
    rfl
  · obtain ⟨p, row, T, t, rfl, hL, hl, ⟨h0, h1⟩, k⟩ := h
    refine ⟨_, (pss_one (ps_ret (pe_op op_add (pe_ix (ix_listK K) (pv 0) (pe_op op_mod (pe_callTy call_int1 (by rfl) (f_int Z) (by decide +kernel) (pa_cons (pv 2) pa_nil)) (pv 1)) (fun _ _ => rfl)) (pe_op op_mul (pe_op op_fdiv (pe_callTy call_int1 (by rfl) (f_int Z) (by decide +kernel) (pa_cons (pv 2) pa_nil)) (pv 1)) (pv 1))))), ?_⟩
    have hm0 := Int.emod_nonneg t (show T ≠ 0 by omega)
    have hm1 := Int.emod_lt_of_pos t h0
    refine ⟨_, rfl, _, rfl, .inl ⟨_, rfl, _, rfl, _, _, rfl, rfl, h0, p, _, _, (row.map V.int)[(t % T).toNat]'(by rw [List.length_map]; omega), rfl, rfl, hL, at_of (Int.toNat_of_nonneg hm0).symm (List.getElem?_eq_getElem _), ?_⟩⟩
    refine ⟨_, rfl, .inl ⟨_, rfl, _, rfl, _, _, rfl, rfl, ⟨h0, by omega⟩, _, rfl, _, _, rfl, rfl, .inr (by omega), row[(t % T).toNat]'(by omega), _, List.getElem_map .., rfl, ?_⟩⟩
    have e : row[(t % T).toNat]'(by omega) + t / T * T = CM.ext row T t := by
      unfold CM.ext
      rw [List.getD_eq_getElem?_getD, List.getElem?_eq_getElem (by omega)]
      rfl
    show Q (.int (row[(t % T).toNat]'(by omega) + t / T * T)) H
    rw [e]
    exact k
theorem gcd_step {a b : Int} (ha : 0 ≤ a) (hb : 0 < b) : Int.gcd b (a % b) = Int.gcd a b := by
  obtain ⟨x, rfl⟩ := Int.eq_ofNat_of_zero_le ha
  obtain ⟨y, rfl⟩ := Int.eq_ofNat_of_zero_le (Int.le_of_lt hb)
  unfold Int.gcd
  rw [← Int.natCast_emod]
  simp only [Int.natAbs_natCast]
  rw [Nat.gcd_comm x y, Nat.gcd_rec y x, Nat.gcd_comm]
theorem r_common (Z : Zed K mg base) : Rn P w K mg base 1 (a_common K) spCommon := by
  refine rn_of (u_common Z) sco_common (fun _ _ _ _ _ _ us hl => match us, hl with | [_, _], _ => rfl) (fun vs H Q E h => ?_) (fun cdv A outer s H vs Q E hr h => ?_)
  · obtain ⟨a, b, rfl, _⟩ := h
    rfl
  · obtain ⟨a, b, rfl, k⟩ := h
    refine ⟨_, (pss_cons (ps_par (i := 0) (j := 1) rfl sco_common.nd rfl rfl (by decide) rfl rfl (pa_cons (pe_callB call_abs (by rfl) (f_abs Z) (by decide +kernel) (pa_cons (pv 0) pa_nil)) (pa_cons (pe_callB call_abs (by rfl) (f_abs Z) (by decide +kernel) (pa_cons (pv 1) pa_nil)) pa_nil)) (by rfl))
      (pss_cons (ps_while PassesOwn.never (pt_cmpR op_gt (pv 1) pe_int (nomark _))
        (pss_one (ps_par (i := 0) (j := 1) rfl sco_common.nd rfl rfl (by decide) rfl rfl (pa_cons (pv 1) (pa_cons (pe_op op_mod (pv 0) (pv 1)) pa_nil)) (by rfl))))
      (pss_one (ps_ret (pv 0))))), ?_⟩
    refine ⟨_, rfl, _, rfl, _, rfl, _, rfl, _, _, rfl, ?_⟩
    refine while_by (fun σ H' => H' = H ∧ ∃ x y : Int, σ = [some (.int x), some (.int y)] ∧ 0 ≤ x ∧ 0 ≤ y ∧ Int.gcd x y = Int.gcd a b) (fun σ _ => match σ with | [_, some (.int y)] => y.toNat | _ => 0) ⟨rfl, _, _, rfl, by split <;> omega, by split <;> omega, ?_⟩ ?_ ?_
    · split <;> split <;> simp
    · rintro σ H' ⟨rfl, x, y, rfl, hx, hy, hg⟩
      refine ⟨_, rfl, _, _, rfl, rfl, _, rfl, ?_⟩
      refine ite2 (fun hc => ?_) (fun hc => ?_)
      · have hc : 0 < y := of_decide_eq_true hc
        refine ⟨_, rfl, _, rfl, _, rfl, _, _, rfl, rfl, hc, _, _, rfl, ⟨rfl, _, _, rfl, hy, Int.emod_nonneg _ (by omega), ?_⟩, ?_⟩
        · rw [gcd_step hx hc, hg]
        · have := Int.emod_lt_of_pos x hc
          show (x % y).toNat < y.toNat
          omega
      · have hc : ¬ 0 < y := fun z => hc (decide_eq_true z)
        have e : y = 0 := by omega
        subst e
        refine ⟨_, rfl, ?_⟩
        have e2 : ((Int.gcd x 0 : Nat) : Int) = x := by simp [Int.gcd_zero_right]; omega
        rw [← hg, e2] at k
        exact k
    · intro σ H' Q1 Q2 hq h1
      obtain ⟨v, h1, i, j, h2, h3, c, h4, h5⟩ := h1
      exact ⟨v, h1, i, j, h2, h3, c, h4, hq _ _ h5⟩
theorem r_nearest (Z : Zed K mg base) : Rn P w K mg base 1 (a_nearest K) spNearest := by
  refine rn_of (u_nearest Z) sco_nearest (fun _ _ _ _ _ _ us hl => match us, hl with | [_, _, _], _ => rfl) (fun vs H Q E h => ?_) (fun cdv A outer s H vs Q E hr h => ?_)
  · obtain ⟨a, u, b, rfl, _⟩ := h
    rfl
  · obtain ⟨a, u, b, rfl, h0, h1, k⟩ := h
    refine ⟨_, (pss_cons (ps_if (pt_val (pv 2))
        (pss_one (ps_ret (pe_op op_fdiv (pe_op op_add (pe_op op_mul (C8.pe_gc (by rfl) (k_PAIR_rounding Z)) (pv 0)) (pv 1)) (pe_op op_mul (C8.pe_gc (by rfl) (k_PAIR_rounding Z)) (pv 1)))))
        pss_nil)
      (pss_one (ps_ret (pe_un un_neg (pe_op op_fdiv (pe_op op_sub (pv 1) (pe_op op_mul (C8.pe_gc (by rfl) (k_PAIR_rounding Z)) (pv 0))) (pe_op op_mul (C8.pe_gc (by rfl) (k_PAIR_rounding Z)) (pv 1))))))), ?_⟩
    refine ⟨_, rfl, b, rfl, ?_⟩
    cases b with
    | true => exact iteT ⟨_, rfl, _, _, rfl, rfl, .inl ⟨by decide, by decide⟩, _, rfl, _, _, rfl, rfl, _, rfl, _, _, rfl, rfl, .inl ⟨by decide, by decide⟩, _, _, rfl, rfl, ⟨by omega, by omega⟩, k⟩
    | false => exact iteF ⟨_, rfl, _, rfl, _, _, rfl, rfl, .inl ⟨by decide, by decide⟩, _, _, rfl, rfl, _, rfl, _, _, rfl, rfl, .inl ⟨by decide, by decide⟩, _, _, rfl, rfl, ⟨by omega, by omega⟩, _, rfl, k⟩
theorem r_round_to (Z : Zed K mg base) : Rn P w K mg base 2 (a_round_to K) spRoundTo := by
  have R_nearest := r_nearest (P := P) (w := w) Z
  refine rn_of (u_round_to Z) sco_round_to (fun _ _ _ _ _ _ us hl => match us, hl with | [_, _, _], _ => rfl) (fun vs H Q E h => ?_) (fun cdv A outer s H vs Q E hr h => ?_)
  · obtain ⟨a, u, b, rfl, _⟩ := h
    rfl
  · obtain ⟨a, u, b, rfl, h0, h1, k⟩ := h
    refine ⟨_, (pss_cons (ps_if (pt_cmpR op_eq (pv 2) (C8.pe_gc (by rfl) (k_DOWN Z)) (nomark _))
        (pss_one (ps_ret (pe_op op_fdiv (pv 0) (pv 1))))
        pss_nil)
      (pss_cons (ps_if (pt_cmpR op_eq (pv 2) (C8.pe_gc (by rfl) (k_UP Z)) (nomark _))
        (pss_one (ps_ret (pe_un un_neg (pe_op op_fdiv (pe_un un_neg (pv 0)) (pv 1)))))
        pss_nil)
      (pss_one (ps_ret (pe_r R_nearest (g_nearest Z) hr (by rfl) (pa_cons (pv 0) (pa_cons (pv 1) (pa_cons (pe_cmpR op_eq (pv 2) (C8.pe_gc (by rfl) (k_NEAR Z)) (nomark _)) pa_nil)))))))), ?_⟩
    refine ⟨_, rfl, by cases b <;> rfl, _, rfl, ?_⟩
    cases b with
    | down =>
      rw [show decide (V.str (howS .down) = V.str "down") = true from str_eq]
      exact iteT ⟨_, rfl, _, rfl, _, _, rfl, rfl, ⟨h0, by omega⟩, k⟩
    | up =>
      rw [show decide (V.str (howS .up) = V.str "down") = false from str_ne (by decide +kernel)]
      refine iteF ⟨_, rfl, rfl, _, rfl, ?_⟩
      rw [show decide (V.str (howS .up) = V.str "up") = true from str_eq]
      exact iteT ⟨_, rfl, _, rfl, _, rfl, _, _, rfl, rfl, ⟨h0, by omega⟩, _, rfl, k⟩
    | near =>
      rw [show decide (V.str (howS .near) = V.str "down") = false from str_ne (by decide +kernel)]
      refine iteF ⟨_, rfl, rfl, _, rfl, ?_⟩
      rw [show decide (V.str (howS .near) = V.str "up") = false from str_ne (by decide +kernel)]
      refine iteF ⟨_, rfl, _, rfl, _, rfl, rfl, a, u, true, ?_, h0, h1, k⟩
      rw [show decide (V.str (howS .near) = V.str "near") = true from str_eq]
    | low =>
      rw [show decide (V.str (howS .low) = V.str "down") = false from str_ne (by decide +kernel)]
      refine iteF ⟨_, rfl, rfl, _, rfl, ?_⟩
      rw [show decide (V.str (howS .low) = V.str "up") = false from str_ne (by decide +kernel)]
      refine iteF ⟨_, rfl, _, rfl, _, rfl, rfl, a, u, false, ?_, h0, h1, k⟩
      rw [show decide (V.str (howS .low) = V.str "near") = false from str_ne (by decide +kernel)]
end
end CZ
set_option Elab.async false
set_option linter.all false
set_option maxRecDepth 100000
set_option maxHeartbeats 2000000
namespace CZ
open PySem PySem.Spec PyProof.Rows L2
/-! ### lists whose items are told one by one -/
def Pw {α : Type} (R : V → α → Prop) (xs : List V) (as : List α) : Prop := xs.length = as.length ∧ ∀ (i : Nat) (x : V) (a : α), xs[i]? = some x → as[i]? = some a → R x a
theorem Pw.mono {α : Type} {R R' : V → α → Prop} {xs : List V} {as : List α} (h : Pw R xs as) (k : ∀ x a, R x a → R' x a) : Pw R' xs as := ⟨h.1, fun i x a e1 e2 => k x a (h.2 i x a e1 e2)⟩
theorem Pw.nil {α : Type} {R : V → α → Prop} : Pw R [] ([] : List α) := ⟨rfl, fun _ _ _ e => nomatch (show (none : Option V) = some _ from e)⟩
theorem Pw.snoc {α : Type} {R : V → α → Prop} {xs : List V} {as : List α} {x : V} {a : α} (h : Pw R xs as) (r : R x a) : Pw R (xs ++ [x]) (as ++ [a]) := by
  refine ⟨by rw [List.length_append, List.length_append, h.1]; rfl, fun i y b e1 e2 => ?_⟩
  by_cases hi : i < xs.length
  · rw [List.getElem?_append_left hi] at e1
    rw [List.getElem?_append_left (by rw [← h.1]; exact hi)] at e2
    exact h.2 i y b e1 e2
  · rw [List.getElem?_append_right (by omega)] at e1
    rw [List.getElem?_append_right (by rw [← h.1]; omega)] at e2
    rw [← h.1] at e2
    cases hj : i - xs.length with
    | zero =>
      rw [hj] at e1 e2
      cases e1
      cases e2
      exact r
    | succ j =>
      rw [hj] at e1
      simp at e1
theorem Pw.at {α : Type} {R : V → α → Prop} {xs : List V} {as : List α} (h : Pw R xs as) {i : Nat} {x : V} (e : xs[i]? = some x) : ∃ a, as[i]? = some a ∧ R x a := by
  have hi := (List.getElem?_eq_some_iff.mp e).1
  exact ⟨as[i]'(by rw [← h.1]; exact hi), List.getElem?_eq_getElem _, h.2 i x _ e (List.getElem?_eq_getElem _)⟩
theorem Pw.to {α : Type} {R : V → α → Prop} {xs : List V} {as : List α} (h : Pw R xs as) {i : Nat} {a : α} (e : as[i]? = some a) : ∃ x, xs[i]? = some x ∧ R x a := by
  have hi := (List.getElem?_eq_some_iff.mp e).1
  exact ⟨xs[i]'(by rw [h.1]; exact hi), List.getElem?_eq_getElem _, h.2 i _ a (List.getElem?_eq_getElem _) e⟩
theorem Pw.map {α β : Type} {R : V → α → Prop} {R' : V → β → Prop} {xs : List V} {as : List α} {f : α → β} (h : Pw R xs as) (k : ∀ x a, a ∈ as → R x a → R' x (f a)) : Pw R' xs (as.map f) := by
  refine ⟨by rw [List.length_map]; exact h.1, fun i x b e1 e2 => ?_⟩
  rw [List.getElem?_map] at e2
  obtain ⟨a, ea, r⟩ := h.at e1
  rw [ea] at e2
  cases e2
  exact k x a (List.mem_of_getElem? ea) r
/-! ### a heap without an object -/
def hid (d : Addr) (H : Hp) : Hp := fun a => if a = d then none else H a
theorem hid_ne {d a : Addr} {H : Hp} (h : a ≠ d) : hid d H a = H a := if_neg h
theorem hid_at {d : Addr} {H : Hp} : hid d H d = none := if_pos rfl
theorem hid_ex {d : Addr} {H : Hp} : Ex (hid d H) H := fun a o e => by
  unfold hid at e
  split at e
  · cases e
  · exact e
theorem hid_mono {d : Addr} {H H' : Hp} (h : ExB d H H') : Ex (hid d H) (hid d H') := fun a o e => by
  unfold hid at e ⊢
  split at e
  · cases e
  · rename_i n
    rw [if_neg n]
    exact h a o n e
theorem ex_hid {d : Addr} {H H' : Hp} (h : Ex H H') (n : H d = none) : Ex H (hid d H') := fun a o e => by
  rw [hid_ne (ne_of_none e n)]
  exact h a o e
/-! ### a comprehension without a test -/
section
variable {J : It} {n : Nat} {G : Hp → Prop} {Y : Nat → Hp → V → Hp → Prop}
theorem lc_all (w : Walk J n G Y) {g : TG} {te : TE} {vs : List Nat} {σ : L2.St} {H1 : Hp} {D : Addr} {Qd : Hp → Prop} (R : Nat → V → Hp → Prop) (hD : H1 D = none) (hn : n ≤ 90000)
    (mono : ∀ i y H H', Ex H H' → R i y H → R i y H') (hG : ∀ H, Ex H1 H → G H)
    (hs : ∀ i x H H' (Qe : V → Hp → Prop), i < n → Ex H1 H → H D ≠ none → Y i H x H' → (∀ y H4, Ex H H4 → R i y (hid D H4) → Qe y H4) → g x (wipe σ vs) H' fun σ2 H2 => wipe σ2 vs = wipe σ vs ∧ te σ2 H2 Qe)
    (gm : ∀ x σ H (Q Q' : L2.St → Hp → Prop), (∀ σ2 H2, Q σ2 H2 → Q' σ2 H2) → g x σ H Q → g x σ H Q')
    (hd : ∀ H' ys, Ex H1 H' → H' D = some (.lst ys) → ys.length = n → (∀ i y, ys[i]? = some y → R i y (hid D H')) → Qd H') :
    ∃ W : Nat → Nat → Hp → Prop, (∃ m, W 0 m (upd H1 D (.lst []))) ∧ ∀ i m H, W i m H →
      (J.stop i H ∧ Qd H) ∨ (J.go i H ∧ ∃ Nx : Hp → Prop, (∀ H', Nx H' → ∃ m', m' < m ∧ W (i + 1) m' H') ∧ ∀ x H', J.yld i H x H' → g x (wipe σ vs) H' fun σ2 H2 => wipe σ2 vs = wipe σ vs ∧ tYes σ2 H2 fun b H3 =>
        if b = true then te σ2 H3 fun y H4 => ∃ acc, H4 D = some (.lst acc) ∧ acc.length < sizeLine ∧ Nx (upd H4 D (.lst (acc ++ [y]))) else Nx H3) := by
  refine lc_it w (fun i H => Ex H1 H ∧ ∃ ys, H D = some (.lst ys) ∧ ys.length = i ∧ ∀ j y, ys[j]? = some y → R j y (hid D H)) ⟨Evl.Ex.new hD, [], upd_same, rfl, fun j y e => by simp at e⟩ (fun i H hi p => hG H p.1) (fun i x H H' hi p hy => ?_) fun H p => ?_
  · obtain ⟨e1, ys, h1, h2, h3⟩ := p
    refine gm _ _ _ _ _ ?_ (hs i x H H' (fun y H4 => ∃ acc, H4 D = some (.lst acc) ∧ acc.length < sizeLine ∧ (Ex H1 (upd H4 D (.lst (acc ++ [y]))) ∧ ∃ ys, upd H4 D (.lst (acc ++ [y])) D = some (.lst ys) ∧ ys.length = i + 1 ∧ ∀ j z, ys[j]? = some z → R j z (hid D (upd H4 D (.lst (acc ++ [y])))))) hi e1 (by rw [h1]; exact fun z => nomatch z) hy (fun y H4 e4 r => ?_))
    · rintro σ2 H2 ⟨h4, h5⟩
      exact ⟨h4, h5⟩
    · have hh : ∀ o, hid D (upd H4 D o) = hid D H4 := fun o => by
        funext a
        unfold hid
        split
        · rfl
        · rename_i na
          exact upd_ne na
      refine ⟨ys, e4 D _ h1, Evl.sz_lt (by omega), Evl.Ex.mut (e1.trans e4) hD, ys ++ [y], upd_same, by rw [List.length_append, h2]; rfl, fun j z ez => ?_⟩
      rw [hh]
      by_cases hj : j < ys.length
      · rw [List.getElem?_append_left hj] at ez
        exact mono _ _ _ _ (hid_mono (ExB.of e4)) (h3 j z ez)
      · rw [List.getElem?_append_right (by omega)] at ez
        cases hk : j - ys.length with
        | zero =>
          rw [hk] at ez
          cases ez
          have : j = i := by omega
          rw [this]
          exact r
        | succ k =>
          rw [hk] at ez
          simp at ez
  · obtain ⟨e1, ys, h1, h2, h3⟩ := p
    exact hd H ys e1 h1 h2 h3
end
theorem gname_mono {i : Nat} : ∀ (x : V) (σ : L2.St) (H : Hp) (Q Q' : L2.St → Hp → Prop), (∀ σ2 H2, Q σ2 H2 → Q' σ2 H2) → gName i x σ H Q → gName i x σ H Q' := fun _ _ _ _ _ h q => h _ _ q
/-- a comprehension of numbers -/
theorem ints_of {ys : List V} {f : Nat → Int} {n : Nat} (hl : ys.length = n) (h : ∀ i y, ys[i]? = some y → y = V.int (f i)) : ys = ((List.range n).map f).map V.int := by
  apply List.ext_getElem
  · simp [hl]
  · intro i h1 h2
    rw [h i _ (List.getElem?_eq_getElem h1)]
    simp
/-! ### while, without more ado -/
def WNx (Pv : L2.St → Hp → Prop) (μ : L2.St → Hp → Nat) (n : Nat) (D : Ends) (tb : TS) (σ : L2.St) (H : Hp) : Prop := ∃ N : L2.St → Hp → Prop, (∀ σ' H', N σ' H' → ∃ m', m' < n ∧ (Pv σ' H' ∧ μ σ' H' = m')) ∧ tb { D with nx := N, ct := N, bk := D.nx } σ H
theorem WNx.go {Pv : L2.St → Hp → Prop} {μ : L2.St → Hp → Nat} {n : Nat} {D : Ends} {tb : TS} {σ : L2.St} {H : Hp} (h : tb { D with nx := fun σ' H' => Pv σ' H' ∧ μ σ' H' < n, ct := fun σ' H' => Pv σ' H' ∧ μ σ' H' < n, bk := D.nx } σ H) : WNx Pv μ n D tb σ H :=
  ⟨_, fun _ _ z => ⟨_, z.2, z.1, rfl⟩, h⟩
theorem while_w {c : TT} {tb : TS} {D : Ends} {σ : L2.St} {H : Hp} (Pv : L2.St → Hp → Prop) (μ : L2.St → Hp → Nat) (h0 : Pv σ H)
    (hs : ∀ σ H, Pv σ H → c σ H fun b H1 => if b = true then WNx Pv μ (μ σ H) D tb σ H1 else D.nx σ H1) : tWhile c tb D σ H := by
  refine ⟨fun m σ H => Pv σ H ∧ μ σ H = m, ⟨_, h0, rfl⟩, ?_⟩
  rintro m σ H ⟨p, rfl⟩
  exact hs σ H p
/-! ### what is known, and what is new -/
/-- G is known in H; behind, G' is known in H': what it has more is new -/
structure Grow (G H G' H' : Hp) : Prop where
  gg : Ex G G'
  gh : Ex G' H'
  hh : Ex H H'
  nw : ∀ a, G' a ≠ none → G a ≠ none ∨ H a = none
def ov (G H H' : Hp) : Hp := fun a => match G a with
  | some o => some o
  | none => match H a with
    | some _ => none
    | none => H' a
theorem ov_grow {G H H' : Hp} (e : Ex G H) (e2 : Ex H H') : Grow G H (ov G H H') H' where
  gg := fun a o h => by unfold ov; rw [h]
  gh := fun a o h => by
    unfold ov at h
    cases q : G a with
    | some u =>
      rw [q] at h
      cases h
      exact e2 _ _ (e _ _ q)
    | none =>
      rw [q] at h
      cases r : H a with
      | some u => rw [r] at h; cases h
      | none => rw [r] at h; exact h
  hh := e2
  nw := fun a h => by
    unfold ov at h
    cases q : G a with
    | some u => exact .inl fun z => nomatch z
    | none =>
      rw [q] at h
      cases r : H a with
      | some u => rw [r] at h; exact absurd rfl h
      | none => exact .inr rfl
theorem ov_new {G H H' : Hp} {a : Addr} (e : Ex G H) (h : H a = none) : ov G H H' a = H' a := by
  unfold ov
  rw [Evl.fresh_back e h]
  show (match H a with | some _ => none | none => H' a) = H' a
  rw [h]
theorem Grow.off {G H G' H' : Hp} (g : Grow G H G' H') {d : Addr} (h1 : G d = none) (h2 : H d ≠ none) : G' d = none := by
  cases e : G' d with
  | none => rfl
  | some o => exact ((g.nw d (by rw [e]; exact fun z => nomatch z)).elim (fun z => absurd h1 z) fun z => absurd z h2)
theorem Grow.hid {G H G' H' : Hp} (g : Grow G H G' H') {d : Addr} (h1 : G d = none) (h2 : H d ≠ none) : Ex G' (hid d H') := ex_hid g.gh (g.off h1 h2)
theorem Grow.refl {G H : Hp} (e : Ex G H) : Grow G H G H := ⟨Evl.Ex.refl _, e, Evl.Ex.refl _, fun _ h => .inl h⟩
theorem Grow.trans {G H G1 H1 G2 H2 : Hp} (a : Grow G H G1 H1) (b : Grow G1 H1 G2 H2) : Grow G H G2 H2 where
  gg := a.gg.trans b.gg
  gh := b.gh
  hh := a.hh.trans b.hh
  nw := fun x h => (b.nw x h).elim (a.nw x) fun z => .inr (Evl.fresh_back a.hh z)
/-! ### instances with slots -/
theorem slt_at2 {H H' : Hp} {a C dx : Addr} {vs : List (Option V)} (h : SlX.Slt H a C dx vs) (ea : H' a = H a) (ed : H' dx = H dx) : SlX.Slt H' a C dx vs := by
  rcases h with ⟨h1, h2⟩ | ⟨h1, h2⟩
  · exact .inl ⟨ea.trans h1, h2⟩
  · exact .inr ⟨ea.trans h1, ed.trans h2⟩
theorem slt_ex {H H' : Hp} {a C dx : Addr} {vs : List (Option V)} (e : Ex H H') (h : SlX.Slt H a C dx vs) : SlX.Slt H' a C dx vs := by
  rcases h with ⟨h1, h2⟩ | ⟨h1, h2⟩
  · exact .inl ⟨e _ _ h1, h2⟩
  · exact .inr ⟨e _ _ h1, e _ _ h2⟩
theorem ex_slH {H0 H : Hp} {a C dx : Addr} {vs : List (Option V)} (e : Ex H0 H) (ha : H0 a = none) (hd : H0 dx = none) : Ex H0 (SlX.slH H a C dx vs) := fun b o h => by
  rw [SlX.slH_ne (ne_of_none h ha) (ne_of_none h hd)]
  exact e b o h
theorem ex_made {H0 : Hp} {a C dx : Addr} (ha : H0 a = none) (hd : H0 dx = none) : Ex H0 (upd (upd H0 dx (.own a)) a (.ins C dx [])) := fun b o h => by
  rw [upd_ne (ne_of_none h ha), upd_ne (ne_of_none h hd)]
  exact h
theorem slt_some {H : Hp} {a C dx : Addr} {vs : List (Option V)} (h : SlX.Slt H a C dx vs) : H a ≠ none := by
  rcases h with ⟨h, _⟩ | ⟨h, _⟩ <;> rw [h] <;> exact fun z => nomatch z
/-- a new instance, as its __init__ finds it -/
structure Made (H0 H : Hp) (a C dx : Addr) : Prop where
  na : H0 a = none
  nd : H0 dx = none
  ne : dx ≠ a
  is : H = upd (upd H0 dx (.own a)) a (.ins C dx [])
theorem Made.slt {H0 H : Hp} {a C dx : Addr} (m : Made H0 H a C dx) : SlX.Slt H a C dx [] := .inl ⟨by rw [m.is]; exact upd_same, rfl⟩
theorem Made.ex {H0 H : Hp} {a C dx : Addr} (m : Made H0 H a C dx) : Ex H0 H := by
  rw [m.is]
  exact ex_made m.na m.nd
theorem ov_slt {G H0 H : Hp} {a C dx : Addr} {vs : List (Option V)} (e : Ex G H0) (ha : H0 a = none) (hd : H0 dx = none) (h : SlX.Slt H a C dx vs) : SlX.Slt (ov G H0 H) a C dx vs := slt_at2 h (ov_new e ha) (ov_new e hd)
/-! ### small help -/
theorem ifT {b : Bool} {p q : Prop} (hb : b = true) (h : p) : if b = true then p else q := by rw [if_pos hb]; exact h
theorem ifF {b : Bool} {p q : Prop} (hb : b = false) (h : q) : if b = true then p else q := by rw [if_neg (by rw [hb]; decide)]; exact h
theorem bls_of {ys : List V} {n : Nat} {f : Nat → Bool → Prop} (hl : ys.length = n) (h : ∀ i y, ys[i]? = some y → ∃ b, y = V.bl b ∧ f i b) : ∃ bs : List Bool, ys = bs.map V.bl ∧ bs.length = n ∧ ∀ i b, bs[i]? = some b → f i b := by
  refine ⟨ys.map fun y => match y with | .bl z => z | _ => false, ?_, by rw [List.length_map]; exact hl, fun i b e => ?_⟩
  · rw [List.map_map]
    apply List.ext_getElem
    · simp
    · intro i a b
      obtain ⟨z, ez, _⟩ := h i _ (List.getElem?_eq_getElem a)
      simp [ez]
  · rw [List.getElem?_map] at e
    cases ey : ys[i]? with
    | none => rw [ey] at e; cases e
    | some y =>
      obtain ⟨z2, ez, hz⟩ := h i y ey
      rw [ey, ez] at e
      cases e
      exact hz
theorem all_of {bs : List Bool} (h : ∀ (i : Nat) (b : Bool), bs[i]? = some b → b = true) : bs.all id = true := by
  rw [List.all_eq_true]
  intro b hb
  obtain ⟨i, hi⟩ := List.getElem?_of_mem hb
  exact h i b hi
theorem all_not {bs : List Bool} (h : ∃ i : Nat, bs[i]? = some false) : bs.all id = false := by
  obtain ⟨i, hi⟩ := h
  rw [List.all_eq_false]
  exact ⟨false, List.mem_of_getElem? hi, by simp⟩
end CZ
set_option Elab.async false
set_option linter.all false
set_option maxRecDepth 100000
set_option maxHeartbeats 2000000
namespace CZ
open PySem PySem.Spec PyProof.Rows L2
/-! ### maps -/
/-- the row of the least times by which a row's map comes to each goal -/
noncomputable def lrow (T : Nat) (f : Int → Int) : List Int := CM.rowOf T (CM.lb f)
def spLeastTimes (K : PySem.W.Frag) : Sp := fun vs H Q _ => ∃ (r : Addr) (T : Nat) (f : Int → Int), vs = [.int T, .ref r] ∧ SqL K H r ((CM.rowOf T f).map V.int) ∧ Pd T ∧ CM.PM T f ∧
  ∀ (p : Addr) (H' : Hp), H p = none → Ex H H' → H' p = some (.lst ((lrow T f).map V.int)) → Q (.ref p) H'
section
variable {P : Program} {w : World} {K : PySem.W.Frag} {mg : Str → Option Value} {base : Heap}
theorem r_least_times (Z : Zed K mg base) : Rn P w K mg base 2 (a_least_times K) (spLeastTimes K) := by
  have R_placed := r_placed (P := P) (w := w) Z
  refine rn_of (u_least_times Z) sco_least_times (fun _ _ _ _ _ _ us hl => match us, hl with | [_, _], _ => rfl) (fun vs H Q E h => ?_) (fun cdv A outer s H vs Q E hr h => ?_)
  · obtain ⟨r, T, f, rfl, _⟩ := h
    rfl
  · obtain ⟨r, T, f, rfl, hL, hP, hf, k⟩ := h
    refine ⟨_, (pss_cons (ps_par (i := 2) (j := 3) rfl sco_least_times.nd rfl rfl (by decide) rfl rfl (pa_cons (pe_lst pa_nil) (pa_cons (pe_op op_sub (pe_op op_sub (pe_un un_neg pe_int) (pv 0)) (pe_callB (cr_max rfl) (by rfl) (f_max Z) (by decide +kernel) (pa_cons (pe_lc (own := [("later", 5)]) (g := gName 5) (tt := tYes) rfl sco_least_times.nd (pi_listK K (pv 1)) (blkOk_by (by kernel_rfl)) (fun _ _ _ _ _ => (pg_name (i := 5) sco_least_times.nd rfl (Or.inl rfl))) (fun _ _ _ _ _ => pts_nil) (fun _ _ _ _ _ => (pe_callB call_abs (by rfl) (f_abs Z) (by decide +kernel) (pa_cons (pv 5) pa_nil)))) pa_nil))) pa_nil)) (by rfl))
      (pss_cons (ps_for PassesOwn.never rfl (pi_range1 (by rfl) (f_range Z) (pa_cons (pv 0) pa_nil)) (pg_name (i := 4) sco_least_times.nd rfl (Or.inl rfl))
        (pss_cons (ps_while PassesOwn.never (pt_cmpR op_lt (pe_r R_placed (g_placed Z) hr (by rfl) (pa_cons (pv 1) (pa_cons (pv 0) (pa_cons (pv 3) pa_nil)))) (pv 4) (nomark _))
          (pss_one (ps_aug (i := 3) sco_least_times.nd rfl (Or.inl rfl) pe_int ip_add)))
        (pss_one (ps_expr (pe_bm PySem.F.plainAttrs_list PySem.F.slot_list_append PySem.F.type_list_append mt_append (pv 2) (pa_cons (pv 3) pa_nil))))))
      (pss_one (ps_ret (pv 2))))), ?_⟩
    have hT : 0 < T := by have := hP.1; omega
    refine ⟨Nat.zero_le _, fun l hl => ?_⟩
    have hLe : ∀ {H' : Hp}, Ex H H' → SqL K H' r ((CM.rowOf T f).map V.int) := fun e => Evl.ex_l e hL
    have hlen : ((CM.rowOf T f).length : Int) = T := by rw [CM.rowOf_len]
    have el : Ex H (upd H l (.lst [])) := Evl.Ex.new hl
    refine ⟨_, rfl, _, rfl, _, _, rfl, rfl, _, rfl, r, rfl, ⟨_, hLe el⟩, fun D hD => ?_⟩
    refine lc_all walk_list (fun i y _ => ∃ z : Int, y = .int z ∧ ∀ u, (CM.rowOf T f)[i]? = some u → u ≤ z) hD (by rw [List.length_map, CM.rowOf_len]; have := hP.2; omega) (fun _ _ _ _ _ h => h) (fun H' e => hLe (el.trans e)) (fun i x H1 H2 Qe hi e1 _ hy q => ?_) gname_mono (fun H' ys e1 h1 h2 h3 => ?_)
    · obtain ⟨rfl, hx⟩ := hy
      obtain ⟨u, hu, rfl⟩ : ∃ u, (CM.rowOf T f)[i]? = some u ∧ x = .int u := by
        rw [List.getElem?_map] at hx
        cases e : (CM.rowOf T f)[i]? with
        | none => rw [e] at hx; cases hx
        | some u => rw [e] at hx; cases hx; exact ⟨u, rfl, rfl⟩
      refine ⟨rfl, _, rfl, _, rfl, q _ _ (Evl.Ex.refl _) ⟨_, rfl, fun v hv => ?_⟩⟩
      rw [hu] at hv
      cases hv
      split <;> omega
    · have hys : ∃ ns : List Int, ys = ns.map V.int ∧ ns.length = T ∧ ∀ (i : Nat) (u z : Int), (CM.rowOf T f)[i]? = some u → ns[i]? = some z → u ≤ z := by
        rw [List.length_map, CM.rowOf_len] at h2
        refine ⟨ys.map fun y => match y with | .int z => z | _ => 0, ?_, by rw [List.length_map]; exact h2, fun i u z e e2 => ?_⟩
        · rw [List.map_map]
          apply List.ext_getElem
          · simp
          · intro i a b
            obtain ⟨z, ez, _⟩ := h3 i _ (List.getElem?_eq_getElem a)
            simp [ez]
        · rw [List.getElem?_map] at e2
          cases ey : ys[i]? with
          | none => rw [ey] at e2; cases e2
          | some y =>
            obtain ⟨z2, ez, hz⟩ := h3 i y ey
            rw [ey, ez] at e2
            cases e2
            exact hz u e
      obtain ⟨ns, rfl, hn, hu⟩ := hys
      refine ⟨D, ns, rfl, Evl.sq_of h1, by omega, fun m hm hle => ⟨_, _, rfl, rfl, _, _, rfl, ?_⟩⟩
      have hfm : ∀ x : Int, f x ≤ m + x := fun x => by
        obtain ⟨e, h0, h1⟩ := CM.split_t (show (0 : Int) < T by omega) x
        have e2 := hf.k (x % T) (x / T)
        rw [← e] at e2
        have e3 := CM.rowOf_at (f := f) (show (x % T).toNat < T by omega)
        rw [Int.toNat_of_nonneg h0] at e3
        have e4 := hu _ _ _ e3 (List.getElem?_eq_getElem (show (x % T).toNat < ns.length by omega))
        have := hle _ (List.getElem_mem (show (x % T).toNat < ns.length by omega))
        omega
      have eH : Ex H H' := el.trans e1
      refine ⟨_, rfl, T, rfl, by omega, (by have := hP.2; omega), for_range (lo := 0) (n := ((T : Int)).toNat) (fun i σ H2 => ∃ (t : Int) (g : Option V), σ = [some (.int T), some (.ref r), some (.ref l), some (.int t), g, none] ∧ Ex H H2 ∧ H2 l = some (.lst (((List.range i).map fun (j : Nat) => CM.lb f (j : Int)).map V.int)) ∧ f (t - 1) < i) ⟨_, _, rfl, eH, e1 _ _ upd_same, ?_⟩ ?_ ?_⟩
      · have := hfm (-1 - (T : Int) - m - 1)
        show f (-1 - (T : Int) - m - 1) < 0
        omega
      · rintro i σ H2 hi ⟨t, g, rfl, e2, hl2, ht⟩
        show _
        refine while_by (fun σ H3 => ∃ (t : Int), σ = [some (.int T), some (.ref r), some (.ref l), some (.int t), some (.int (0 + (i : Int))), none] ∧ H3 = H2 ∧ f (t - 1) < i) (fun σ _ => match σ with | [_, _, _, some (.int t), _, _] => (CM.lb f i - t).toNat | _ => 0) ⟨t, rfl, rfl, ht⟩ ?_ ?_
        · rintro σ H3 ⟨t, rfl, rfl, ht⟩
          refine ⟨_, rfl, _, rfl, _, rfl, r, _, T, t, rfl, hLe e2, hlen, hP, _, rfl, _, _, rfl, rfl, _, rfl, ?_⟩
          rw [CM.ext_rowOf hT hf.per]
          refine ite2 (fun hc => ?_) (fun hc => ?_)
          · have hc : f t < 0 + (i : Int) := of_decide_eq_true hc
            refine ⟨_, rfl, _, _, rfl, rfl, ⟨t + 1, rfl, rfl, by rw [Int.add_sub_cancel]; omega⟩, ?_⟩
            have h1 : ¬ (i : Int) ≤ f t := by omega
            rw [CM.lb_gal (show (0 : Int) < T by omega) hf] at h1
            show (CM.lb f i - (t + 1)).toNat < (CM.lb f i - t).toNat
            omega
          · have hc : ¬ f t < 0 + (i : Int) := fun z => hc (decide_eq_true z)
            have hlb : CM.lb f i = t := CM.lb_is (show (0 : Int) < T by omega) hf (by omega) ht
            refine ⟨_, rfl, .inl ⟨rfl, _, SqL.of hl2⟩, _, rfl, l, _, _, rfl, rfl, hl2, Evl.sz_lt (by simp; have := hP.2; omega), ?_⟩
            refine ⟨t, _, rfl, Evl.Ex.mut e2 hl, ?_, ?_⟩
            · rw [upd_same, List.range_succ, List.map_append, List.map_append]
              simp only [List.map_cons, List.map_nil]
              rw [hlb]
            · omega
        · intro σ H3 Q1 Q2 hq h1
          obtain ⟨v, h1, v2, h2, v3, h3, p, row, T2, t2, e, h4, h5, h6, v4, h7, i2, j2, h8, h9, c, h10, h11⟩ := h1
          exact ⟨v, h1, v2, h2, v3, h3, p, row, T2, t2, e, h4, h5, h6, v4, h7, i2, j2, h8, h9, c, h10, hq _ _ h11⟩
      · rintro σ H2 ⟨t, g, rfl, e2, hl2, ht⟩
        exact ⟨_, rfl, k l H2 hl e2 hl2⟩
end
/-- a Map of the map f -/
structure MapAt (K : PySem.W.Frag) (H : Hp) (v : V) (T : Nat) (f : Int → Int) : Prop where
  ex : ∃ a dx r l, v = .ref a ∧ SlX.Slt H a (C_Map K) dx [some (.ref l), some (.int T), some (.ref r)] ∧ SqL K H r ((CM.rowOf T f).map V.int) ∧ SqL K H l ((lrow T f).map V.int)
  pd : Pd T
  pm : CM.PM T f
theorem MapAt.mono {K : PySem.W.Frag} {H H' : Hp} {v : V} {T : Nat} {f : Int → Int} (h : MapAt K H v T f) (e : Ex H H') : MapAt K H' v T f := by
  obtain ⟨⟨a, dx, r, l, h1, h2, h3, h4⟩, h5, h6⟩ := h
  exact ⟨⟨a, dx, r, l, h1, slt_ex e h2, Evl.ex_l e h3, Evl.ex_l e h4⟩, h5, h6⟩
def spMapInit (K : PySem.W.Frag) : Sp := fun vs H Q _ => ∃ (G H0 : Hp) (a dx r : Addr) (T : Nat) (f : Int → Int), vs = [.ref a, .int T, .ref r] ∧ Made H0 H a (C_Map K) dx ∧ Ex G H0 ∧ SqL K G r ((CM.rowOf T f).map V.int) ∧ Pd T ∧ CM.PM T f ∧
  ∀ (G' H' : Hp), Grow G H0 G' H' → MapAt K G' (.ref a) T f → Q .non H'
def spMapAt (K : PySem.W.Frag) : Sp := fun vs H Q _ => ∃ (v : V) (T : Nat) (f : Int → Int) (t : Int), vs = [v, .int t] ∧ MapAt K H v T f ∧ Q (.int (f t)) H
def spMapLeast (K : PySem.W.Frag) : Sp := fun vs H Q _ => ∃ (v : V) (T : Nat) (f : Int → Int) (t : Int), vs = [v, .int t] ∧ MapAt K H v T f ∧ Q (.int (CM.lb f t)) H
section
variable {P : Program} {w : World} {K : PySem.W.Frag} {mg : Str → Option Value} {base : Heap}
theorem r_Map_init (Z : Zed K mg base) : Rn P w K mg base 3 (a_Map_init K) (spMapInit K) := by
  have R_least_times := r_least_times (P := P) (w := w) Z
  refine rn_of (u_Map_init Z) sco_Map_init (fun _ _ _ _ _ _ us hl => match us, hl with | [_, _, _], _ => rfl) (fun vs H Q E h => ?_) (fun cdv A outer s H vs Q E hr h => ?_)
  · obtain ⟨G, H0, a, dx, r, T, f, rfl, _⟩ := h
    rfl
  · obtain ⟨G, H0, a, dx, r, T, f, rfl, m, eG, hL, hP, hf, k⟩ := h
    refine ⟨_, (pss_cons (SlX.ps_sl (pv 0) (pv 1))
      (pss_cons (SlX.ps_sl (pv 0) (pv 2))
      (pss_one (SlX.ps_sl (pv 0) (pe_r R_least_times (g_least_times Z) hr (by rfl) (pa_cons (pv 1) (pa_cons (pv 2) pa_nil))))))), ?_⟩
    have hL0 := Evl.ex_l eG hL
    refine ⟨_, rfl, _, rfl, a, _, dx, _, _, _, rfl, m.slt, sc_Map Z, sl_Map_own_period Z, ?_⟩
    refine ⟨_, rfl, _, rfl, a, _, dx, _, _, _, rfl, SlX.slH_slt m.ne, sc_Map Z, sl_Map_own_row Z, ?_⟩
    rw [SlX.slH_twice m.ne]
    have e1 : Ex H0 (SlX.slH H a (C_Map K) dx [none, some (.int T), some (.ref r)]) := ex_slH m.ex m.na m.nd
    refine ⟨_, rfl, _, rfl, r, T, f, rfl, Evl.ex_l e1 hL0, hP, hf, fun l H1 hl e2 h2 => ?_⟩
    refine ⟨_, rfl, a, _, dx, _, _, _, rfl, slt_ex e2 (SlX.slH_slt m.ne), sc_Map Z, sl_Map_own_least Z, ?_⟩
    have hl0 : H0 l = none := Evl.fresh_back e1 hl
    have nla : l ≠ a := fun z => by rw [z] at hl; exact slt_some (SlX.slH_slt m.ne) hl
    have nld : l ≠ dx := fun z => by
      rw [z] at hl
      unfold SlX.slH at hl
      rw [upd_ne m.ne, upd_same] at hl
      cases hl
    have eF := ex_slH (C := C_Map K) (vs := [some (.ref l), some (.int T), some (.ref r)]) (e1.trans e2) m.na m.nd
    refine k _ _ (ov_grow eG eF) ⟨⟨a, dx, r, l, rfl, ov_slt eG m.na m.nd (SlX.slH_slt m.ne), Evl.ex_l (ov_grow eG eF).gg hL, Evl.sq_of ?_⟩, hP, hf⟩
    rw [ov_new eG hl0, SlX.slH_ne nla nld]
    exact h2
theorem r_Map_at (Z : Zed K mg base) : Rn P w K mg base 2 (a_Map_at K) (spMapAt K) := by
  have R_placed := r_placed (P := P) (w := w) Z
  refine rn_of (u_Map_at Z) sco_Map_at (fun _ _ _ _ _ _ us hl => match us, hl with | [_, _], _ => rfl) (fun vs H Q E h => ?_) (fun cdv A outer s H vs Q E hr h => ?_)
  · obtain ⟨v, T, f, t, rfl, _⟩ := h
    rfl
  · obtain ⟨v, T, f, t, rfl, ⟨⟨a, dx, r, l, rfl, hs, h1, h2⟩, hP, hf⟩, k⟩ := h
    refine ⟨_, (pss_one (ps_ret (pe_r R_placed (g_placed Z) hr (by rfl) (pa_cons (pe_slK K (pv 0)) (pa_cons (pe_slK K (pv 0)) (pa_cons (pv 1) pa_nil)))))), ?_⟩
    refine ⟨_, rfl, a, _, dx, _, _, _, _, rfl, hs, sc_Map Z, sl_Map_own_row Z, rfl, _, rfl, a, _, dx, _, _, _, _, rfl, hs, sc_Map Z, sl_Map_own_period Z, rfl, _, rfl, r, _, T, t, rfl, h1, by rw [CM.rowOf_len], hP, ?_⟩
    rw [CM.ext_rowOf (by have := hP.1; omega) hf.per]
    exact k
theorem r_Map_least (Z : Zed K mg base) : Rn P w K mg base 2 (a_Map_least K) (spMapLeast K) := by
  have R_placed := r_placed (P := P) (w := w) Z
  refine rn_of (u_Map_least Z) sco_Map_least (fun _ _ _ _ _ _ us hl => match us, hl with | [_, _], _ => rfl) (fun vs H Q E h => ?_) (fun cdv A outer s H vs Q E hr h => ?_)
  · obtain ⟨v, T, f, t, rfl, _⟩ := h
    rfl
  · obtain ⟨v, T, f, t, rfl, ⟨⟨a, dx, r, l, rfl, hs, h1, h2⟩, hP, hf⟩, k⟩ := h
    refine ⟨_, (pss_one (ps_ret (pe_r R_placed (g_placed Z) hr (by rfl) (pa_cons (pe_slK K (pv 0)) (pa_cons (pe_slK K (pv 0)) (pa_cons (pv 1) pa_nil)))))), ?_⟩
    refine ⟨_, rfl, a, _, dx, _, _, _, _, rfl, hs, sc_Map Z, sl_Map_own_least Z, rfl, _, rfl, a, _, dx, _, _, _, _, rfl, hs, sc_Map Z, sl_Map_own_period Z, rfl, _, rfl, l, _, T, t, rfl, h2, by unfold lrow; rw [CM.rowOf_len], hP, ?_⟩
    unfold lrow
    rw [CM.ext_rowOf (by have := hP.1; omega) (CM.lb_per (show (0 : Int) < T by have := hP.1; omega) hf)]
    exact k
end
end CZ
set_option Elab.async false
set_option linter.all false
set_option maxRecDepth 100000
set_option maxHeartbeats 2000000
namespace CZ
open PySem PySem.Spec PyProof.Rows L2
/-! ### programs, as they stand -/
structure RatioAt (H : Hp) (v : V) (n d : Int) : Prop where
  ex : ∃ p, v = .ref p ∧ H p = some (.tup [.int n, .int d])
theorem RatioAt.mono {H H' : Hp} {v : V} {n d : Int} (h : RatioAt H v n d) (e : Ex H H') : RatioAt H' v n d := let ⟨p, h1, h2⟩ := h.ex; ⟨p, h1, e _ _ h2⟩
structure ViaAt (H : Hp) (v : V) (a : CM.Via) : Prop where
  ex : ∃ p q, v = .ref p ∧ H p = some (.tup [.ref q, .str (howS a.h.1), .str (howS a.h.2)]) ∧ H q = some (.tup [.int a.n, .int a.d])
theorem ViaAt.mono {H H' : Hp} {v : V} {a : CM.Via} (h : ViaAt H v a) (e : Ex H H') : ViaAt H' v a := let ⟨p, q, h1, h2, h3⟩ := h.ex; ⟨p, q, h1, e _ _ h2, e _ _ h3⟩
/-- numbers of a program are small -/
structure Fine (p : CM.Prg) : Prop where
  ok : p.Ok
  b1 : p.bd ≤ 9999
  b2 : -9999 ≤ p.bn ∧ p.bn ≤ 9999
  vn : ∀ v ∈ p.vias, v.n ≤ 9999 ∧ v.d ≤ 9999
  len : p.vias.length ≤ 3
def nmS (p : CM.Prg) : Str := ⟨p.name.toArray⟩
def sideS (b : Bool) : Str := if b then "end" else "start"
def howsOf (side : Bool) (p : CM.Prg) : List Str := p.vias.map (fun v => howS (CM.hw side v.h)) ++ [howS (CM.hw side p.back)]
def spCarriedHome (K : PySem.W.Frag) : Sp := fun vs H Q _ => ∃ (b : V) (l hl : Addr) (t : Int) (p : CM.Prg) (side : Bool) (xs : List V), vs = [b, .ref l, .ref hl, .int t] ∧ Fine p ∧ RatioAt H b p.bn p.bd ∧ SqL K H l xs ∧ Pw (fun v a => RatioAt H v a.n a.d) xs p.vias ∧
  SqL K H hl ((howsOf side p).map V.str) ∧ ∀ H', Ex H H' → Q (.int (CM.carry p side t)) H'
theorem viaGo_drop (side : Bool) {vs : List CM.Via} {i : Nat} {v : CM.Via} (e : vs[i]? = some v) (a u : Int) : CM.viaGo side (vs.drop i) a u = CM.viaGo side (vs.drop (i + 1)) (CM.rnd (CM.hw side v.h) (a * v.d) (u * v.n) * v.n) v.d := by
  have hi := (List.getElem?_eq_some_iff.mp e)
  rw [List.drop_eq_getElem_cons hi.1, hi.2]
  rfl
section
variable {P : Program} {w : World} {K : PySem.W.Frag} {mg : Str → Option Value} {base : Heap}
theorem r_carried_home (Z : Zed K mg base) : Rn P w K mg base 3 (a_carried_home K) (spCarriedHome K) := by
  have R_round_to := r_round_to (P := P) (w := w) Z
  refine rn_of (u_carried_home Z) sco_carried_home (fun _ _ _ _ _ _ us hl => match us, hl with | [_, _, _, _], _ => rfl) (fun vs H Q E h => ?_) (fun cdv A outer s H vs Q E hr h => ?_)
  · obtain ⟨b, l, hl, t, p, side, xs, rfl, _⟩ := h
    rfl
  · obtain ⟨b, l, hl, t, p, side, xs, rfl, hp, ⟨⟨q, rfl, hb⟩⟩, hL, hx, hh, k⟩ := h
    refine ⟨_, (pss_cons (ps_par (i := 4) (j := 5) rfl sco_carried_home.nd rfl rfl (by decide) rfl rfl (pa_cons (pe_op op_sub (pe_op op_mul (pv 3) (pe_ix (ix_tupK K) (pv 0) pe_int (fun _ _ => rfl))) (pe_ix (ix_tupK K) (pv 0) pe_int (fun _ _ => rfl))) (pa_cons (pe_ix (ix_tupK K) (pv 0) pe_int (fun _ _ => rfl)) pa_nil)) (by rfl))
      (pss_cons (ps_for PassesOwn.never rfl (pi_zip (by rfl) (f_zip Z) (pa_cons (pv 1) (pa_cons (pv 2) pa_nil))) (pg_tupK K (n := 2) rfl (pgs_cons (pg_name (i := 6) sco_carried_home.nd rfl (Or.inl rfl)) (pgs_cons (pg_name (i := 7) sco_carried_home.nd rfl (Or.inl rfl)) pgs_nil)))
        (pss_cons (ps_set (i := 8) sco_carried_home.nd rfl (Or.inl rfl) (pe_r R_round_to (g_round_to Z) hr (by rfl) (pa_cons (pe_op op_mul (pv 4) (pe_ix (ix_tupK K) (pv 6) pe_int (fun _ _ => rfl))) (pa_cons (pe_op op_mul (pv 5) (pe_ix (ix_tupK K) (pv 6) pe_int (fun _ _ => rfl))) (pa_cons (pv 7) pa_nil)))))
        (pss_one (ps_par (i := 4) (j := 5) rfl sco_carried_home.nd rfl rfl (by decide) rfl rfl (pa_cons (pe_op op_mul (pv 8) (pe_ix (ix_tupK K) (pv 6) pe_int (fun _ _ => rfl))) (pa_cons (pe_ix (ix_tupK K) (pv 6) pe_int (fun _ _ => rfl)) pa_nil)) (by rfl)))))
      (pss_one (ps_ret (pe_r R_round_to (g_round_to Z) hr (by rfl) (pa_cons (pe_op op_add (pe_op op_mul (pv 4) (pe_ix (ix_tupK K) (pv 0) pe_int (fun _ _ => rfl))) (pe_op op_mul (pe_ix (ix_tupK K) (pv 0) pe_int (fun _ _ => rfl)) (pv 5))) (pa_cons (pe_op op_mul (pv 5) (pe_ix (ix_tupK K) (pv 0) pe_int (fun _ _ => rfl))) (pa_cons (pe_ix (ix_listK K) (pv 2) (pe_un un_neg pe_int) (fun _ _ => rfl)) pa_nil)))))))), ?_⟩
    have b0 := hp.ok.bd
    have b1 := hp.b1
    have b2 := hp.b2
    refine ⟨_, rfl, _, rfl, q, _, 1, .int p.bd, rfl, rfl, SqT.of hb, rfl, _, _, rfl, rfl, .inr (by omega), _, rfl, q, _, 0, .int p.bn, rfl, rfl, SqT.of hb, rfl, _, _, rfl, rfl, ?_⟩
    refine ⟨_, rfl, q, _, 1, .int p.bd, rfl, rfl, SqT.of hb, rfl, _, _, rfl, ?_⟩
    have hn : p.vias.length = min xs.length ((howsOf side p).map V.str).length := by
      rw [hx.1, List.length_map]
      unfold howsOf
      rw [List.length_append, List.length_map]
      simp
    refine ⟨_, rfl, _, rfl, l, hl, xs, _, rfl, hL, hh, for_it (walk_zip hn) (fun i σ H' => ∃ (a u : Int) (o1 o2 o3 : Option V), σ = [some (.ref q), some (.ref l), some (.ref hl), some (.int t), some (.int a), some (.int u), o1, o2, o3] ∧ Ex H H' ∧
      0 < u ∧ u ≤ 9999 ∧ CM.viaGo side (p.vias.drop i) a u = CM.viaGo side p.vias (t * p.bd - p.bn) p.bd) ⟨_, _, _, _, _, rfl, Evl.Ex.refl _, b0, b1, rfl⟩ (fun i σ H' _ hv => ?_) (fun i x σ H1 H2 hi hv hy => ?_) (fun σ H' hv => ?_)⟩
    · obtain ⟨_, _, _, _, _, _, e, _⟩ := hv
      exact ⟨Evl.ex_l e hL, Evl.ex_l e hh⟩
    · obtain ⟨a, u, o1, o2, o3, rfl, e1, u0, u1, hg⟩ := hv
      obtain ⟨T, x1, y1, rfl, hT, rfl, hx1, hy1⟩ := hy
      have e2 : Ex H (upd H1 T (.tup [x1, y1])) := e1.trans (Evl.Ex.new hT)
      obtain ⟨v, hv, ⟨⟨r, rfl, hr2⟩⟩⟩ := hx.at hx1
      have hvm := List.mem_of_getElem? hv
      have v1 := hp.ok.vias v hvm
      have v2 := hp.vn v hvm
      have v0 := v1.n
      have v3 := v1.d
      have hy2 : y1 = .str (howS (CM.hw side v.h)) := by
        replace hy1 : ((howsOf side p).map V.str)[i]? = some y1 := hy1
        unfold howsOf at hy1
        rw [List.map_append, List.getElem?_append_left (by simpa using hi), List.map_map, List.getElem?_map, hv] at hy1
        cases hy1
        rfl
      subst hy2
      refine ⟨T, _, rfl, SqT.of upd_same, rfl, _, _, rfl, _, _, rfl, rfl, ?_⟩
      have hr3 := e2 _ _ hr2
      have z1 : 0 < u * v.n := Int.mul_pos u0 v0
      have z2 : u * v.n ≤ 9999 * 9999 := Int.mul_le_mul u1 v2.1 (by omega) (by omega)
      refine ⟨_, rfl, _, rfl, r, _, 1, .int v.d, rfl, rfl, SqT.of hr3, rfl, _, _, rfl, rfl, .inr (by omega), _, rfl, _, rfl, r, _, 0, .int v.n, rfl, rfl, SqT.of hr3, rfl, _, _, rfl, rfl, .inr (by omega), _, rfl, _, _, _, rfl, z1, by omega, ?_⟩
      refine ⟨_, rfl, _, rfl, r, _, 0, .int v.n, rfl, rfl, SqT.of hr3, rfl, _, _, rfl, rfl, .inr (by omega), _, rfl, r, _, 1, .int v.d, rfl, rfl, SqT.of hr3, rfl, _, _, rfl, ?_⟩
      exact ⟨_, _, _, _, _, rfl, e2, v3, v2.2, by rw [← hg, viaGo_drop side hv]⟩
    · obtain ⟨a, u, o1, o2, o3, rfl, e1, u0, u1, hg⟩ := hv
      rw [List.drop_length] at hg
      have hb1 := e1 _ _ hb
      have z1 : 0 < u * p.bd := Int.mul_pos u0 b0
      have z2 : u * p.bd ≤ 9999 * 9999 := Int.mul_le_mul u1 b1 (by omega) (by omega)
      refine ⟨_, rfl, _, rfl, q, _, 1, .int p.bd, rfl, rfl, SqT.of hb1, rfl, _, _, rfl, rfl, .inr (by omega), _, rfl, q, _, 0, .int p.bn, rfl, rfl, SqT.of hb1, rfl, _, rfl, _, _, rfl, rfl, .inl (by omega), _, _, rfl, rfl, ?_⟩
      refine ⟨_, rfl, _, rfl, q, _, 1, .int p.bd, rfl, rfl, SqT.of hb1, rfl, _, _, rfl, rfl, .inr (by omega), _, rfl, _, rfl, hl, _, -1, .str (howS (CM.hw side p.back)), rfl, rfl, Evl.ex_l e1 hh, ?_, _, _, CM.hw side p.back, rfl, z1, by omega, ?_⟩
      · unfold howsOf
        rw [List.map_append]
        exact atI_last _ _
      · have e : CM.rnd (CM.hw side p.back) (a * p.bd + p.bn * u) (u * p.bd) = CM.carry p side t := by
          unfold CM.carry
          rw [← hg]
          rfl
        show Q (.int (CM.rnd (CM.hw side p.back) (a * p.bd + p.bn * u) (u * p.bd))) H'
        rw [e]
        exact k _ e1
end
/-! ### a Program -/
structure PrAt (K : PySem.W.Frag) (H : Hp) (v : V) (p : CM.Prg) : Prop where
  ex : ∃ a dx l bk bv xs, v = .ref a ∧ SlX.Slt H a (C_Program K) dx [some (.ref bk), some bv, some (.str (nmS p)), some (.ref l)] ∧ ((bv = .non ∧ p.bn = 0 ∧ p.bd = 1) ∨ RatioAt H bv p.bn p.bd) ∧
    SqL K H l xs ∧ Pw (ViaAt H) xs p.vias ∧ H bk = some (.tup [.str (howS p.back.1), .str (howS p.back.2)])
theorem PrAt.mono {K : PySem.W.Frag} {H H' : Hp} {v : V} {p : CM.Prg} (h : PrAt K H v p) (e : Ex H H') : PrAt K H' v p := by
  obtain ⟨a, dx, l, bk, bv, xs, h1, h2, h3, h4, h5, h6⟩ := h.ex
  exact ⟨a, dx, l, bk, bv, xs, h1, slt_ex e h2, h3.imp id fun z => z.mono e, Evl.ex_l e h4, h5.mono fun _ _ z => z.mono e, e _ _ h6⟩
def spBegin (K : PySem.W.Frag) : Sp := fun vs H Q _ => ∃ (v : V) (p : CM.Prg), vs = [v] ∧ PrAt K H v p ∧ ∀ b H', Ex H H' → RatioAt H' b p.bn p.bd → Q b H'
def spSteps (K : PySem.W.Frag) : Sp := fun vs H Q _ => ∃ (v : V) (p : CM.Prg), vs = [v] ∧ PrAt K H v p ∧ Fine p ∧ ∀ (l : Addr) (xs : List V) H', H l = none → Ex H H' → H' l = some (.lst xs) → Pw (fun v a => RatioAt H' v a.n a.d) xs p.vias → Q (.ref l) H'
def spHows (K : PySem.W.Frag) : Sp := fun vs H Q _ => ∃ (v : V) (p : CM.Prg) (side : Bool), vs = [v, .str (sideS side)] ∧ PrAt K H v p ∧ Fine p ∧ ∀ (l : Addr) H', H l = none → Ex H H' → H' l = some (.lst ((howsOf side p).map V.str)) → Q (.ref l) H'
def spCarried (K : PySem.W.Frag) : Sp := fun vs H Q _ => ∃ (v : V) (p : CM.Prg) (side : Bool) (t : Int), vs = [v, .str (sideS side), .int t] ∧ PrAt K H v p ∧ Fine p ∧ ∀ H', Ex H H' → Q (.int (CM.carry p side t)) H'
section
variable {P : Program} {w : World} {K : PySem.W.Frag} {mg : Str → Option Value} {base : Heap}
theorem r_Program_begin (Z : Zed K mg base) : Rn P w K mg base 1 (a_Program_begin K) (spBegin K) := by
  refine rn_of (u_Program_begin Z) sco_Program_begin (fun _ _ _ _ _ _ us hl => match us, hl with | [_], _ => rfl) (fun vs H Q E h => ?_) (fun cdv A outer s H vs Q E hr h => ?_)
  · obtain ⟨v, p, rfl, _⟩ := h
    rfl
  · obtain ⟨v, p, rfl, ⟨a, dx, l, bk, bv, xs, rfl, h2, h3, h4, h5, h6⟩, k⟩ := h
    refine ⟨_, (pss_one (ps_ret (pe_ifExp (pt_cmpR op_isN (pe_slK K (pv 0)) pe_non (nomark _)) (pe_tup (pa_cons pe_int (pa_cons pe_int pa_nil))) (pe_slK K (pv 0))))), ?_⟩
    refine ⟨_, rfl, a, _, dx, _, _, _, _, rfl, h2, sc_Program Z, sl_Program_own_begin Z, rfl, rfl, _, rfl, ?_⟩
    rcases h3 with ⟨rfl, e1, e2⟩ | ⟨⟨q, rfl, hq⟩⟩
    · rw [decide_eq_true rfl]
      refine iteT ⟨by show 2 ≤ sizeLine; decide, fun q hq => k _ _ (Evl.Ex.new hq) ⟨q, rfl, ?_⟩⟩
      rw [upd_same, e1, e2]
    · rw [decide_eq_false (fun z => nomatch z)]
      exact iteF ⟨_, rfl, a, _, dx, _, _, _, _, rfl, h2, sc_Program Z, sl_Program_own_begin Z, rfl, k _ _ (Evl.Ex.refl _) ⟨q, rfl, hq⟩⟩
theorem pw_of {α : Type} {R : V → α → Prop} {ys : List V} {as : List α} (hl : ys.length = as.length) (h : ∀ (i : Nat) y, ys[i]? = some y → ∃ a, as[i]? = some a ∧ R y a) : Pw R ys as := ⟨hl, fun i x a e1 e2 => by
  obtain ⟨b, e3, r⟩ := h i x e1
  rw [e2] at e3
  cases e3
  exact r⟩
theorem r_Program_steps (Z : Zed K mg base) : Rn P w K mg base 1 (a_Program_steps K) (spSteps K) := by
  refine rn_of (u_Program_steps Z) sco_Program_steps (fun _ _ _ _ _ _ us hl => match us, hl with | [_], _ => rfl) (fun vs H Q E h => ?_) (fun cdv A outer s H vs Q E hr h => ?_)
  · obtain ⟨v, p, rfl, _⟩ := h
    rfl
  · obtain ⟨v, p, rfl, ⟨a, dx, l, bk, bv, xs, rfl, h2, h3, h4, h5, h6⟩, hf, k⟩ := h
    refine ⟨_, (pss_one (ps_ret (pe_lc (own := [("via", 1)]) (g := gName 1) (tt := tYes) rfl sco_Program_steps.nd (pi_listK K (pe_slK K (pv 0))) (blkOk_by (by kernel_rfl)) (fun _ _ _ _ _ => (pg_name (i := 1) sco_Program_steps.nd rfl (Or.inl rfl))) (fun _ _ _ _ _ => pts_nil) (fun _ _ _ _ _ => (pe_ix (ix_tupK K) (pv 1) pe_int (fun _ _ => rfl)))))), ?_⟩
    refine ⟨_, rfl, a, _, dx, _, _, _, _, rfl, h2, sc_Program Z, sl_Program_own_vias Z, rfl, l, rfl, ⟨_, h4⟩, fun D hD => ?_⟩
    refine lc_all walk_list (fun i y H' => ∃ v : CM.Via, p.vias[i]? = some v ∧ RatioAt H' y v.n v.d) hD (by rw [h5.1]; have := hf.len; omega) (fun i y H1 H2 e ⟨v, h1, h2⟩ => ⟨v, h1, h2.mono e⟩) (fun H' e => Evl.ex_l e h4) (fun i x H1 H2 Qe hi e1 _ hy q => ?_) gname_mono (fun H' ys e1 h1 hn h7 => ?_)
    · obtain ⟨rfl, hx⟩ := hy
      obtain ⟨v, hv, ⟨⟨r, q2, rfl, hr1, hr2⟩⟩⟩ := h5.at hx
      refine ⟨rfl, _, rfl, r, _, 0, .ref q2, rfl, rfl, SqT.of (e1 _ _ hr1), rfl, q _ _ (Evl.Ex.refl _) ⟨v, hv, ⟨q2, rfl, ex_hid e1 hD _ _ hr2⟩⟩⟩
    · exact k D ys H' hD e1 h1 (pw_of (by rw [hn, h5.1]) fun i y e => let ⟨v, h1, h2⟩ := h7 i y e; ⟨v, h1, h2.mono hid_ex⟩)
theorem r_Program_hows (Z : Zed K mg base) : Rn P w K mg base 1 (a_Program_hows K) (spHows K) := by
  refine rn_of (u_Program_hows Z) sco_Program_hows (fun _ _ _ _ _ _ us hl => match us, hl with | [_, _], _ => rfl) (fun vs H Q E h => ?_) (fun cdv A outer s H vs Q E hr h => ?_)
  · obtain ⟨v, p, side, rfl, _⟩ := h
    rfl
  · obtain ⟨v, p, side, rfl, ⟨a, dx, l, bk, bv, xs, rfl, h2, h3, h4, h5, h6⟩, hf, k⟩ := h
    refine ⟨_, (pss_cons (ps_set (i := 2) sco_Program_hows.nd rfl (Or.inr rfl) (pe_bm PySem.F.plainAttrs_tuple PySem.F.slot_tuple_index PySem.F.type_tuple_index mt_tup_index (C8.pe_gc (by rfl) (k_SIDES Z)) (pa_cons (pv 1) pa_nil)))
      (pss_one (ps_ret (pe_op op_cat (pe_lc (own := [("via", 3)]) (g := gName 3) (tt := tYes) rfl sco_Program_hows.nd (pi_listK K (pe_slK K (pv 0))) (blkOk_by (by kernel_rfl)) (fun _ _ _ _ _ => (pg_name (i := 3) sco_Program_hows.nd rfl (Or.inl rfl))) (fun _ _ _ _ _ => pts_nil) (fun _ _ _ _ _ => (pe_ix (ix_tupK K) (pv 3) (pe_op op_add pe_int (pv 2)) (fun _ _ => rfl)))) (pe_lst (pa_cons (pe_ix (ix_tupK K) (pe_slK K (pv 0)) (pv 2) (fun _ _ => rfl)) pa_nil)))))), ?_⟩
    obtain ⟨ob, ob1, ob2, ob3⟩ := td_SIDES Z
    have hb : (if side then (1 : Nat) else 0) < 2 := by cases side <;> decide
    refine ⟨.inr (.inl ⟨rfl, ob, ob1, ob2, ob3⟩), _, rfl, ?_⟩
    refine ⟨_, ["start", "end"], sideS side, if side then 1 else 0, rfl, rfl, t_SIDES Z H, ?_, ?_, ?_⟩
    · cases side <;> rfl
    · cases side with
      | false => intro m hm; exact absurd hm (Nat.not_lt_zero _)
      | true =>
        intro m hm
        have e : m = 0 := by
          have : m < 1 := hm
          omega
        subst e
        exact fun z => absurd (Option.some.inj z) (by decide +kernel)
    · refine ⟨_, rfl, a, _, dx, _, _, _, _, rfl, h2, sc_Program Z, sl_Program_own_vias Z, rfl, l, rfl, ⟨_, h4⟩, fun D hD => ?_⟩
      refine lc_all walk_list (fun i y H' => ∃ v : CM.Via, p.vias[i]? = some v ∧ y = .str (howS (CM.hw side v.h))) hD (by rw [h5.1]; have := hf.len; omega) (fun i y H1 H2 e h => h) (fun H' e => Evl.ex_l e h4) (fun i x H1 H2 Qe hi e1 _ hy q => ?_) gname_mono (fun H' ys e1 h1 hn h7 => ?_)
      · obtain ⟨rfl, hx⟩ := hy
        obtain ⟨v, hv, ⟨⟨r, q2, rfl, hr1, hr2⟩⟩⟩ := h5.at hx
        refine ⟨rfl, _, rfl, _, rfl, _, _, rfl, rfl, r, _, _, .str (howS (CM.hw side v.h)), rfl, rfl, SqT.of (e1 _ _ hr1), ?_, q _ _ (Evl.Ex.refl _) ⟨v, hv, rfl⟩⟩
        cases side <;> rfl
      · have hys : ys = (p.vias.map fun v => howS (CM.hw side v.h)).map V.str := by
          apply List.ext_getElem?
          intro i
          cases e : ys[i]? with
          | none =>
            rw [List.map_map, List.getElem?_map, List.getElem?_eq_none (by have := List.getElem?_eq_none_iff.mp e; rw [hn, h5.1] at this; exact this)]
            rfl
          | some y =>
            obtain ⟨v, h8, rfl⟩ := h7 i y e
            rw [List.map_map, List.getElem?_map, h8]
            rfl
        refine ⟨_, rfl, a, _, dx, _, _, _, _, rfl, slt_ex e1 h2, sc_Program Z, sl_Program_own_back Z, rfl, _, rfl, bk, _, _, .str (howS (CM.hw side p.back)), rfl, rfl, SqT.of (e1 _ _ h6), ?_, ?_⟩
        · cases side <;> rfl
        · refine ⟨by show 1 ≤ sizeLine; decide, fun q hq => ⟨D, q, _, _, rfl, rfl, by rw [upd_ne (ne_of_none (by rw [h1]) hq)]; exact h1, upd_same, ?_, fun q2 hq2 => ?_⟩⟩
          · exact Nat.le_of_lt (Evl.sz_lt (by rw [hn, h5.1]; have := hf.len; simp; omega))
          · have e2 := (e1.trans (Evl.Ex.new (o := .lst [.str (howS (CM.hw side p.back))]) hq))
            refine k q2 _ (Evl.fresh_back e2 hq2) (e2.trans (Evl.Ex.new hq2)) ?_
            rw [upd_same, hys]
            unfold howsOf
            rw [List.map_append]
            rfl
theorem r_Program_carried (Z : Zed K mg base) : Rn P w K mg base 4 (a_Program_carried K) (spCarried K) := by
  have R_carried_home := r_carried_home (P := P) (w := w) Z
  have R_Program_begin := r_Program_begin (P := P) (w := w) Z
  have R_Program_steps := r_Program_steps (P := P) (w := w) Z
  have R_Program_hows := r_Program_hows (P := P) (w := w) Z
  refine rn_of (u_Program_carried Z) sco_Program_carried (fun _ _ _ _ _ _ us hl => match us, hl with | [_, _, _], _ => rfl) (fun vs H Q E h => ?_) (fun cdv A outer s H vs Q E hr h => ?_)
  · obtain ⟨v, p, side, t, rfl, _⟩ := h
    rfl
  · obtain ⟨v, p, side, t, rfl, hp, hf, k⟩ := h
    have hp0 := hp
    obtain ⟨a, dx, l, bk, bv, xs, rfl, h2, h3, h4, h5, h6⟩ := hp
    refine ⟨_, (pss_one (ps_ret (pe_r R_carried_home (g_carried_home Z) hr (by rfl) (pa_cons (pe_pr (pv 0) (sc_Program Z) (p_Program_begin Z) R_Program_begin hr) (pa_cons (pe_pr (pv 0) (sc_Program Z) (p_Program_steps Z) R_Program_steps hr) (pa_cons (pe_ms (pv 0) (sc_Program Z) (m_Program_hows Z) R_Program_hows hr (pa_cons (pv 1) pa_nil)) (pa_cons (pv 2) pa_nil))))))), ?_⟩
    refine ⟨_, rfl, a, dx, _, rfl, h2, _, p, rfl, hp0, fun b H1 e1 hb => ?_⟩
    refine ⟨_, rfl, a, dx, _, rfl, slt_ex e1 h2, _, p, rfl, hp0.mono e1, hf, fun l2 xs2 H2 _ e2 hl2 hx2 => ?_⟩
    have e12 := e1.trans e2
    refine ⟨_, rfl, a, dx, _, rfl, slt_ex e12 h2, _, rfl, _, p, side, rfl, hp0.mono e12, hf, fun l3 H3 _ e3 hl3 => ?_⟩
    exact ⟨_, rfl, b, l2, l3, t, p, side, xs2, rfl, hf, hb.mono (e2.trans e3), Evl.ex_l e3 (SqL.of hl2), hx2.mono (fun _ _ z => z.mono e3), SqL.of hl3, fun H4 e4 => k _ ((e12.trans e3).trans e4)⟩
/-- a Program that has but its name -/
def spPrInit (K : PySem.W.Frag) : Sp := fun vs H Q _ => ∃ (H0 : Hp) (a dx : Addr) (n : Str), vs = [.ref a, .str n] ∧ Made H0 H a (C_Program K) dx ∧
  ∀ (l : Addr) (H' : Hp), H0 l = none → l ≠ a → l ≠ dx → Ex H0 H' → SlX.Slt H' a (C_Program K) dx [some .non, some .non, some (.str n), some (.ref l)] → H' l = some (.lst []) → Q .non H'
theorem r_Program_init (Z : Zed K mg base) : Rn P w K mg base 1 (a_Program_init K) (spPrInit K) := by
  refine rn_of (u_Program_init Z) sco_Program_init (fun _ _ _ _ _ _ us hl => match us, hl with | [_, _], _ => rfl) (fun vs H Q E h => ?_) (fun cdv A outer s H vs Q E hr h => ?_)
  · obtain ⟨H0, a, dx, n, rfl, _⟩ := h
    rfl
  · obtain ⟨H0, a, dx, n, rfl, m, k⟩ := h
    refine ⟨_, (pss_cons (SlX.ps_sl (pv 0) (pv 1))
      (pss_cons (SlX.ps_sl (pv 0) pe_non)
      (pss_cons (SlX.ps_sl (pv 0) (pe_lst pa_nil))
      (pss_one (SlX.ps_sl (pv 0) pe_non))))), ?_⟩
    refine ⟨_, rfl, _, rfl, a, _, dx, _, _, _, rfl, m.slt, sc_Program Z, sl_Program_own_name Z, ?_⟩
    refine ⟨_, rfl, a, _, dx, _, _, _, rfl, SlX.slH_slt m.ne, sc_Program Z, sl_Program_own_begin Z, ?_⟩
    rw [SlX.slH_twice m.ne]
    refine ⟨by decide, fun l hl => ?_⟩
    have nla : l ≠ a := fun z => by rw [z] at hl; exact slt_some (SlX.slH_slt m.ne) hl
    have nld : l ≠ dx := fun z => by
      rw [z] at hl
      unfold SlX.slH at hl
      rw [upd_ne m.ne, upd_same] at hl
      cases hl
    have e1 := ex_slH (C := C_Program K) (vs := [none, some .non, some (.str n)]) m.ex m.na m.nd
    have e2 := e1.trans (Evl.Ex.new (o := .lst []) hl)
    have hs : SlX.Slt (upd (SlX.slH H a (C_Program K) dx [none, some .non, some (.str n)]) l (.lst [])) a (C_Program K) dx [none, some .non, some (.str n)] := slt_ex (Evl.Ex.new hl) (SlX.slH_slt m.ne)
    refine ⟨_, rfl, a, _, dx, _, _, _, rfl, hs, sc_Program Z, sl_Program_own_vias Z, ?_⟩
    refine ⟨_, rfl, a, _, dx, _, _, _, rfl, SlX.slH_slt m.ne, sc_Program Z, sl_Program_own_back Z, ?_⟩
    rw [SlX.slH_twice m.ne]
    refine k l _ (Evl.fresh_back e1 hl) nla nld (ex_slH e2 m.na m.nd) (SlX.slH_slt m.ne) ?_
    rw [SlX.slH_ne nla nld, upd_same]
end
end CZ
set_option Elab.async false
set_option linter.all false
set_option maxRecDepth 100000
set_option maxHeartbeats 2000000
namespace CZ
open PySem PySem.Spec PyProof.Rows L2
/-! ### words -/
/-- a number of one figure -/
def dgL (z : Int) : List Nat := if z < 0 then [45, 48 + z.natAbs] else [48 + z.natAbs]
def ratL (n d : Int) : List Nat := if d = 1 then dgL n else dgL n ++ (47 :: dgL d)
/-- small ratios in least terms -/
structure Sml (n d : Int) : Prop where
  n1 : -9 ≤ n ∧ n ≤ 9
  d1 : 1 ≤ d ∧ d ≤ 9
  co : Int.gcd n d = 1
def spNumberIn : Sp := fun vs H Q _ => ∃ n : Nat, vs = [.str (SX.S [48 + n])] ∧ n ≤ 9 ∧ ∀ H', Ex H H' → Q (.int n) H'
def spIntegerIn : Sp := fun vs H Q _ => ∃ z : Int, vs = [.str (SX.S (dgL z))] ∧ -9 ≤ z ∧ z ≤ 9 ∧ ∀ H', Ex H H' → Q (.int z) H'
def spRatioIn : Sp := fun vs H Q _ => ∃ n d : Int, vs = [.str (SX.S (ratL n d))] ∧ Sml n d ∧ ∀ b H', Ex H H' → RatioAt H' b n d → Q b H'
section
variable {P : Program} {w : World} {K : PySem.W.Frag} {mg : Str → Option Value} {base : Heap}
theorem r_number_in (Z : Zed K mg base) : Rn P w K mg base 1 (a_number_in K) spNumberIn := by
  refine rn_of (u_number_in Z) sco_number_in (fun _ _ _ _ _ _ us hl => match us, hl with | [_], _ => rfl) (fun vs H Q E h => ?_) (fun cdv A outer s H vs Q E hr h => ?_)
  · obtain ⟨n, rfl, _⟩ := h
    rfl
  · obtain ⟨n, rfl, hn, k⟩ := h
    refine ⟨_, (pss_cons (ps_if (PW.pt (pw_or (pt_cmpR op_eq (pv 0) pe_str (nomark _)) (pw_or (pt_not (pt_val (pe_callB (cr_all rfl) (by rfl) (f_all Z) (by decide +kernel) (pa_cons (pe_lc (own := [("figure", 1)]) (g := gName 1) (tt := tYes) rfl sco_number_in.nd (pi_str (pv 0)) (blkOk_by (by kernel_rfl)) (fun _ _ _ _ _ => (pg_name (i := 1) sco_number_in.nd rfl (Or.inl rfl))) (fun _ _ _ _ _ => pts_nil) (fun _ _ _ _ _ => (pe_cmpR op_in_sign (pv 1) (C8.pe_gc (by rfl) (k_FIGURES Z)) rfl))) pa_nil)))) (pw_or1 (PW.pt (pw_and (pt_cmpR op_ne (pv 0) pe_str (nomark _)) (pw_and1 (pt_cmpR op_eq (pe_ix ix_str (pv 0) pe_int (fun _ _ => rfl)) pe_str (nomark _)))))))))
        (pss_one (ps_ret pe_non))
        pss_nil)
      (pss_one (ps_ret (pe_callTy call_int_str (by rfl) (f_int Z) (by decide +kernel) (pa_cons (pv 0) pa_nil))))), ?_⟩
    have hm : ∀ m : Nat, m ≤ 9 → decide (48 + m ∈ (Str.ofString "0123456789").cps.toList) = true ∧ decide (SX.S [48 + m] = Str.ofString "") = false ∧ (!decide (SX.S [48 + m] = Str.ofString "0") && decide ((⟨#[48 + m]⟩ : Str) = Str.ofString "0")) = false ∧ intText? (SX.S [48 + m]) = some ((m : Nat) : Int) := by decide +kernel
    obtain ⟨m1, m2, m3, m4⟩ := hm n hn
    refine ⟨_, rfl, rfl, _, rfl, ifF (str_ne m2) ?_⟩
    refine ⟨_, rfl, _, rfl, fun D hD => ?_⟩
    refine lc_all walk_str (fun i y H' => y = .bl true) hD (by show 1 ≤ 90000; decide) (fun i y H1 H2 e h => h) (fun H' e => trivial) (fun i x H1 H2 Qe hi e1 _ hy q => ?_) gname_mono (fun H' ys e1 h1 hn2 h7 => ?_)
    · obtain ⟨rfl, c, hc, rfl⟩ := hy
      have hi0 : i = 0 := by have : i < 1 := hi; omega
      subst hi0
      cases hc
      exact ⟨rfl, _, rfl, _, _, rfl, rfl, q _ _ (Evl.Ex.refl _) (congrArg V.bl m1)⟩
    · obtain ⟨bs, rfl, h8, h9⟩ := bls_of (f := fun _ b => b = true) hn2 fun i y e => ⟨true, h7 i y e, rfl⟩
      have ha := all_of h9
      refine ⟨D, bs, rfl, SqL.of h1, _, rfl, ?_⟩
      rw [ha]
      refine ifF rfl ⟨_, rfl, rfl, _, rfl, ?_⟩
      have fin : tRet (tCB (fun xs H Q => ∃ a n, xs = [V.str a] ∧ intText? a = some n ∧ a.length ≤ 640 ∧ Q (V.int n) H) (tCons (tVar 0) tNil)) { nx := fun x H' => Q V.non H', rt := Q } (L2.start N_number_in [V.str (SX.S [48 + n])]) H' :=
        ⟨_, rfl, _, _, rfl, m4, by show 1 ≤ 640; decide, k _ e1⟩
      by_cases h0 : n = 0
      · subst h0
        exact ifF (by rw [decide_eq_true (show V.str (SX.S [48 + 0]) = V.str (Str.ofString "0") from rfl)]; rfl) (ifF rfl fin)
      · have m5 : ∀ m : Nat, m ≤ 9 → m ≠ 0 → decide (SX.S [48 + m] = Str.ofString "0") = false ∧ decide ((⟨#[48 + m]⟩ : Str) = Str.ofString "0") = false := by decide +kernel
        obtain ⟨m6, m7⟩ := m5 n hn h0
        exact ifT (by rw [str_ne m6]; rfl) ⟨_, rfl, _, 0, 48 + n, rfl, rfl, by show 1 ≤ sizeLine; decide, rfl, rfl, _, rfl, ifF (str_ne m7) fin⟩
theorem r_integer_in (Z : Zed K mg base) : Rn P w K mg base 2 (a_integer_in K) spIntegerIn := by
  have R_number_in := r_number_in (P := P) (w := w) Z
  refine rn_of (u_integer_in Z) sco_integer_in (fun _ _ _ _ _ _ us hl => match us, hl with | [_], _ => rfl) (fun vs H Q E h => ?_) (fun cdv A outer s H vs Q E hr h => ?_)
  · obtain ⟨z, rfl, _⟩ := h
    rfl
  · obtain ⟨z, rfl, h1, h2, k⟩ := h
    refine ⟨_, (pss_cons (ps_if (pt_not (pt_val (pe_m1 PySem.F.slot_str_startswith PySem.F.type_str_startswith mt_startswith (pv 0) pe_str)))
        (pss_one (ps_ret (pe_r R_number_in (g_number_in Z) hr (by rfl) (pa_cons (pv 0) pa_nil))))
        pss_nil)
      (pss_cons (ps_set (i := 1) sco_integer_in.nd rfl (Or.inl rfl) (pe_r R_number_in (g_number_in Z) hr (by rfl) (pa_cons (pe_slice C8.sl_txt (pv 0) (po_some pe_int) po_none) pa_nil)))
      (pss_one (ps_ret (pe_ifExp (PW.pt (pw_or (pt_cmpR op_isN (pv 1) pe_non (nomark _)) (pw_or1 (pt_cmpR op_eq (pv 1) pe_int (nomark _))))) pe_non (pe_un un_neg (pv 1))))))), ?_⟩
    have hm : ∀ m : Nat, m ≤ 9 → Txt.startswith (SX.S [48 + m]) (Str.ofString "-") = false ∧ Txt.startswith (SX.S [45, 48 + m]) (Str.ofString "-") = true := by decide +kernel
    have z0 : z.natAbs ≤ 9 := by omega
    obtain ⟨m1, m2⟩ := hm z.natAbs z0
    by_cases hz : z < 0
    · have e : dgL z = [45, 48 + z.natAbs] := if_pos hz
      rw [e]
      refine ⟨_, rfl, ⟨_, rfl⟩, _, _, rfl, rfl, _, rfl, ?_⟩
      rw [m2]
      have hs : Txt.slice (SX.S [45, 48 + z.natAbs]) (some 1) none = SX.S [48 + z.natAbs] := SX.from_app [45] [48 + z.natAbs] rfl
      refine ifF rfl ⟨_, rfl, _, rfl, _, rfl, by show 2 ≤ sizeLine; decide, ?_⟩
      refine ⟨z.natAbs, by rw [hs], z0, fun H' e1 => ?_⟩
      refine ⟨_, rfl, rfl, _, rfl, ifF (decide_eq_false fun z => nomatch z) ⟨_, rfl, rfl, _, rfl, ifF (decide_eq_false fun y => by injection y with y; omega) ⟨_, rfl, _, rfl, ?_⟩⟩⟩
      have e2 : -((z.natAbs : Nat) : Int) = z := by omega
      show Q (.int (-((z.natAbs : Nat) : Int))) H'
      rw [e2]
      exact k _ e1
    · have e : dgL z = [48 + z.natAbs] := if_neg hz
      rw [e]
      refine ⟨_, rfl, ⟨_, rfl⟩, _, _, rfl, rfl, _, rfl, ?_⟩
      rw [m1]
      refine ifT rfl ⟨_, rfl, z.natAbs, rfl, z0, fun H' e1 => ?_⟩
      have e2 : ((z.natAbs : Nat) : Int) = z := by omega
      rw [e2]
      exact k _ e1
theorem r_ratio_in (Z : Zed K mg base) : Rn P w K mg base 3 (a_ratio_in K) spRatioIn := by
  have R_number_in := r_number_in (P := P) (w := w) Z
  have R_integer_in := r_integer_in (P := P) (w := w) Z
  have R_common := r_common (P := P) (w := w) Z
  refine rn_of (u_ratio_in Z) sco_ratio_in (fun _ _ _ _ _ _ us hl => match us, hl with | [_], _ => rfl) (fun vs H Q E h => ?_) (fun cdv A outer s H vs Q E hr h => ?_)
  · obtain ⟨n, d, rfl, _⟩ := h
    rfl
  · obtain ⟨n, d, rfl, h1, k⟩ := h
    refine ⟨_, (pss_cons (ps_set (i := 1) sco_ratio_in.nd rfl (Or.inl rfl) (pe_split (pv 0) (C8.pe_gc (by rfl) (k_SLASH Z))))
      (pss_cons (ps_par (i := 2) (j := 3) rfl sco_ratio_in.nd rfl rfl (by decide) rfl rfl (pa_cons (pe_r R_integer_in (g_integer_in Z) hr (by rfl) (pa_cons (pe_ix (ix_listK K) (pv 1) pe_int (fun _ _ => rfl)) pa_nil)) (pa_cons (pe_ifExp (pt_cmpR op_eq (pe_callB (call_len_seqK K) (by rfl) (f_len Z) (by decide +kernel) (pa_cons (pv 1) pa_nil)) (C8.pe_gc (by rfl) (k_PAIR_rounding Z)) (nomark _)) (pe_r R_number_in (g_number_in Z) hr (by rfl) (pa_cons (pe_ix (ix_listK K) (pv 1) pe_int (fun _ _ => rfl)) pa_nil)) pe_int) pa_nil)) (by rfl))
      (pss_cons (ps_if (PW.pt (pw_or (pt_cmpR op_gt (pe_callB (call_len_seqK K) (by rfl) (f_len Z) (by decide +kernel) (pa_cons (pv 1) pa_nil)) (C8.pe_gc (by rfl) (k_PAIR_rounding Z)) (nomark _)) (pw_or (pt_cmpR op_isN (pv 2) pe_non (nomark _)) (pw_or (pt_cmpR op_isN (pv 3) pe_non (nomark _)) (pw_or1 (pt_cmpR op_eq (pv 3) pe_int (nomark _)))))))
        (pss_one (ps_ret pe_non))
        pss_nil)
      (pss_cons (ps_if (PW.pt (pw_or (PW.pt (pw_and (pt_cmpR op_eq (pe_callB (call_len_seqK K) (by rfl) (f_len Z) (by decide +kernel) (pa_cons (pv 1) pa_nil)) (C8.pe_gc (by rfl) (k_PAIR_rounding Z)) (nomark _)) (pw_and1 (pt_cmpR op_eq (pv 3) pe_int (nomark _))))) (pw_or1 (pt_cmpR op_ne (pe_r R_common (g_common Z) hr (by rfl) (pa_cons (pv 2) (pa_cons (pv 3) pa_nil))) pe_int (nomark _)))))
        (pss_one (ps_ret pe_non))
        pss_nil)
      (pss_one (ps_ret (pe_tup (pa_cons (pv 2) (pa_cons (pv 3) pa_nil))))))))), ?_⟩
    have hz : (SX.S (ratL n d)).length + 2 ≤ sizeLine := by
      rw [SX.S_len]
      have : (ratL n d).length ≤ 5 := by
        unfold ratL dgL
        split <;> split <;> (try split) <;> simp
      exact Nat.le_of_lt (Evl.sz_lt (by omega))
    have hsp : Txt.split (SX.S (ratL n d)) (Str.ofString "/") = (if d = 1 then [dgL n] else [dgL n, dgL d]).map SX.S := by
      have hd : ∀ z : Int, (47 : Nat) ∉ dgL z := fun z => by
        unfold dgL
        split <;> simp <;> omega
      have e1 : (Str.ofString "/") = SX.S [47] := by decide +kernel
      rw [e1, SX.split_S (by decide) (by decide)]
      congr 1
      unfold ratL
      split
      · exact SX.spl_join (parts := [dgL n]) (by simp) (by intro p hp; simp at hp; rw [hp]; exact hd n)
      · exact SX.spl_join (parts := [dgL n, dgL d]) (by simp) (by intro p hp; simp at hp; rcases hp with hp | hp <;> rw [hp] <;> exact hd _)
    refine ⟨_, rfl, ⟨_, rfl⟩, _, _, rfl, rfl, by decide, hz, fun l hl => ?_⟩
    rw [hsp]
    have el := Evl.Ex.new (o := .lst (((if d = 1 then [dgL n] else [dgL n, dgL d]).map SX.S).map V.str)) hl
    have hL : (upd H l (.lst (((if d = 1 then [dgL n] else [dgL n, dgL d]).map SX.S).map V.str))) l = _ := upd_same
    revert el hL
    generalize upd H l (.lst (((if d = 1 then [dgL n] else [dgL n, dgL d]).map SX.S).map V.str)) = H1
    intro el hL
    refine ⟨_, rfl, l, _, _, .str (SX.S (dgL n)), rfl, rfl, SqL.of hL, by split <;> rfl, n, rfl, h1.n1.1, h1.n1.2, fun H2 e2 => ?_⟩
    have hL2 : SqL K H2 l ((((if d = 1 then [dgL n] else [dgL n, dgL d]).map SX.S)).map V.str) := Evl.ex_l e2 (SqL.of hL)
    have hg : ((Int.gcd n d : Nat) : Int) = 1 := by rw [h1.co]; rfl
    by_cases hd1 : d = 1
    · subst hd1
      have len1 : ((((if (1 : Int) = 1 then [dgL n] else [dgL n, dgL 1]).map SX.S)).map V.str).length = 1 := rfl
      refine ⟨_, rfl, l, _, rfl, .inl hL2, rfl, _, rfl, ifF (by rw [len1]; rfl) ?_⟩
      refine ⟨_, _, rfl, ?_⟩
      refine ⟨_, rfl, l, _, rfl, .inl hL2, _, _, rfl, rfl, _, rfl, ifF (by rw [len1]; rfl) ?_⟩
      refine ⟨_, rfl, rfl, _, rfl, ifF (decide_eq_false fun z => nomatch z) ⟨_, rfl, rfl, _, rfl, ifF (decide_eq_false fun z => nomatch z) ⟨_, rfl, rfl, _, rfl, ifF (by decide) ?_⟩⟩⟩
      refine ⟨_, rfl, l, _, rfl, .inl hL2, rfl, _, rfl, ifF (by rw [len1]; rfl) (ifF rfl ?_)⟩
      refine ⟨_, rfl, _, rfl, n, 1, rfl, rfl, _, rfl, ifF (by rw [hg]; rfl) ⟨_, rfl, _, rfl, by show 2 ≤ sizeLine; decide, fun q hq => k _ _ ((el.trans e2).trans (Evl.Ex.new hq)) ⟨q, rfl, upd_same⟩⟩⟩
    · have len1 : ((((if d = 1 then [dgL n] else [dgL n, dgL d]).map SX.S)).map V.str) = [.str (SX.S (dgL n)), .str (SX.S (dgL d))] := by rw [if_neg hd1]; rfl
      rw [len1] at hL2
      have hd2 := h1.d1
      have dd : dgL d = [48 + d.natAbs] := if_neg (by omega)
      have dn : ((d.natAbs : Nat) : Int) = d := by omega
      refine ⟨_, rfl, l, _, rfl, .inl hL2, rfl, _, rfl, ifT rfl ?_⟩
      refine ⟨_, rfl, l, _, 1, .str (SX.S (dgL d)), rfl, rfl, hL2, rfl, d.natAbs, by rw [dd], by omega, fun H3 e3 => ?_⟩
      rw [dn]
      have hL3 := Evl.ex_l e3 hL2
      refine ⟨_, _, rfl, ?_⟩
      refine ⟨_, rfl, l, _, rfl, .inl hL3, _, _, rfl, rfl, _, rfl, ifF rfl ?_⟩
      refine ⟨_, rfl, rfl, _, rfl, ifF (decide_eq_false fun z => nomatch z) ⟨_, rfl, rfl, _, rfl, ifF (decide_eq_false fun z => nomatch z) ⟨_, rfl, rfl, _, rfl, ifF (decide_eq_false fun y => by injection y with y; omega) ?_⟩⟩⟩
      refine ⟨_, rfl, l, _, rfl, .inl hL3, rfl, _, rfl, ifT rfl ⟨_, rfl, rfl, _, rfl, ifF (decide_eq_false fun y => by injection y with y; omega) ?_⟩⟩
      refine ⟨_, rfl, _, rfl, n, d, rfl, rfl, _, rfl, ifF (by rw [hg]; rfl) ⟨_, rfl, _, rfl, by show 2 ≤ sizeLine; decide, fun q hq => k _ _ (((el.trans e2).trans e3).trans (Evl.Ex.new hq)) ⟨q, rfl, upd_same⟩⟩⟩
end
end CZ
set_option Elab.async false
set_option linter.all false
set_option maxRecDepth 100000
set_option maxHeartbeats 1000000
namespace CZ
open PySem PySem.Spec PyProof.Rows L2
/-! ### a == [], a != [], a != () -/
section
variable {X : Cx}
def rEqNil (K : PySem.W.Frag) : R2 := fun x y H Q => ∃ a b xs, x = .ref a ∧ y = .ref b ∧ SqL K H a xs ∧ SqL K H b [] ∧ Q (.bl xs.isEmpty) H
def rNeNil (K : PySem.W.Frag) : R2 := fun x y H Q => ∃ a b xs, x = .ref a ∧ y = .ref b ∧ SqL K H a xs ∧ SqL K H b [] ∧ Q (.bl (!xs.isEmpty)) H
def rNeNilT (K : PySem.W.Frag) : R2 := fun x y H Q => ∃ a b xs, x = .ref a ∧ y = .ref b ∧ SqT K H a xs ∧ SqT K H b [] ∧ Q (.bl (!xs.isEmpty)) H
theorem vals_nil {us : List Value} (r : Vals [] us) : us = [] := by cases r; rfl
theorem op_eqNil (hu : X.A.units < cLine) : OpR X (compareOp .Eq) (rEqNil X.K) := by
  intro pins s σ H x y v u Q I rx ry h
  obtain ⟨a, b, xs, rfl, rfl, ha, hb, q⟩ := h
  cases (show v = Value.ref a from rx)
  cases (show u = Value.ref b from ry)
  obtain ⟨us, r1, p1, _⟩ := I.list ha
  obtain ⟨ws, r2, p2, _⟩ := I.list hb
  have e := vals_nil r2
  subst e
  cases xs with
  | nil =>
    have e := vals_nil r1
    subst e
    exact SeqAt.RcAt.lists (e := fun _ => true) p1.isList p2.isList rfl hu (fun j h1 _ => absurd h1 (Nat.not_lt_zero j)) X.prog X.w _ _ ⟨.bl true, H, I, rfl, q⟩
  | cons x xs =>
    have hn : us.length = xs.length + 1 := by rw [← r1.length]; rfl
    exact SeqAt.RcAt.lists_lengths p1.isList p2.isList (by simp only [List.size_toArray, hn]; rfl) hu X.prog X.w _ _ ⟨.bl false, H, I, rfl, q⟩
theorem op_neNil (hu : X.A.units < cLine) : OpR X (compareOp .NotEq) (rNeNil X.K) := by
  intro pins s σ H x y v u Q I rx ry h
  obtain ⟨a, b, xs, rfl, rfl, ha, hb, q⟩ := h
  cases (show v = Value.ref a from rx)
  cases (show u = Value.ref b from ry)
  obtain ⟨us, r1, p1, _⟩ := I.list ha
  obtain ⟨ws, r2, p2, _⟩ := I.list hb
  have e := vals_nil r2
  subst e
  cases xs with
  | nil =>
    have e := vals_nil r1
    subst e
    exact SeqAt.RcNeAt.lists (e := fun _ => true) p1.isList p2.isList rfl hu (fun j h1 _ => absurd h1 (Nat.not_lt_zero j)) X.prog X.w _ _ ⟨.bl false, H, I, rfl, q⟩
  | cons x xs =>
    have hn : us.length = xs.length + 1 := by rw [← r1.length]; rfl
    exact SeqAt.RcNeAt.lists_lengths p1.isList p2.isList (by simp only [List.size_toArray, hn]; rfl) hu X.prog X.w _ _ ⟨.bl true, H, I, rfl, q⟩
theorem op_neNilT (hu : X.A.units < cLine) : OpR X (compareOp .NotEq) (rNeNilT X.K) := by
  intro pins s σ H x y v u Q I rx ry h
  obtain ⟨a, b, xs, rfl, rfl, ha, hb, q⟩ := h
  cases (show v = Value.ref a from rx)
  cases (show u = Value.ref b from ry)
  obtain ⟨us, r1, p1, _⟩ := I.tuple ha
  obtain ⟨ws, r2, p2, _⟩ := I.tuple hb
  have e := vals_nil r2
  subst e
  have hm : min us.toArray.size ([] : List Value).toArray.size = 0 := by simp
  have hR := SeqAt.RcNeAt.tuples (e := fun _ => true) (show s.heap.IsTuple a us.toArray from p1) (show s.heap.IsTuple b ([] : List Value).toArray from p2) hu (fun j _ h2 => absurd h2 (Nat.not_lt_zero j))
  rw [hm] at hR
  refine hR X.prog X.w _ _ ⟨.bl _, H, I, rfl, ?_⟩
  cases xs with
  | nil =>
    have e := vals_nil r1
    subst e
    exact q
  | cons x xs =>
    have hn : us.length = xs.length + 1 := by rw [← r1.length]; rfl
    have e2 : (!((List.range 0).all (fun _ => true) && us.toArray.size == ([] : List Value).toArray.size)) = true := by simp [hn]
    rw [e2]
    exact q
theorem op_eqNilK (K : PySem.W.Frag) (hu : X.A.units < cLine) (h : X.K = K := by rfl) : OpR X (compareOp .Eq) (rEqNil K) := by subst h; exact op_eqNil hu
theorem op_neNilK (K : PySem.W.Frag) (hu : X.A.units < cLine) (h : X.K = K := by rfl) : OpR X (compareOp .NotEq) (rNeNil K) := by subst h; exact op_neNil hu
theorem op_neNilTK (K : PySem.W.Frag) (hu : X.A.units < cLine) (h : X.K = K := by rfl) : OpR X (compareOp .NotEq) (rNeNilT K) := by subst h; exact op_neNilT hu
end
end CZ
set_option Elab.async false
set_option linter.all false
set_option maxRecDepth 100000
set_option maxHeartbeats 2000000
namespace CZ
open PySem PySem.Spec PyProof.Rows L2
/-! ### list(zip(a, b)) -/
theorem zip_no_len : typeLookup (.type "zip") "__len__" = pure none := am_miss_of_fast (by decide +kernel)
theorem zip_no_hint : typeLookup (.type "zip") "__length_hint__" = pure none := am_miss_of_fast (by decide +kernel)
section
variable {prog : Program} {w : World} {A : Around} {E : Value → Shared → Prop} {s : Shared}
theorem zip_hint {z : Addr} {Q : Bool → Shared → Prop} (hT : s.TypeIs (.ref z) "zip") (h : Q true s) : wpAny (model prog w) A (Builtin.List.listLengthHint (.ref z)) Q E s := by
  unfold Builtin.List.listLengthHint
  refine wpAny_bind (wpAny_specialOf hT zip_no_len ?_)
  refine wpAny_ite_split (fun hab => absurd hab (by decide)) (fun _ => ?_)
  refine wpAny_ite_split (fun hab => absurd hab (by decide)) (fun _ => ?_)
  refine wpAny_bind (wpAny_specialOf hT zip_no_hint ?_)
  exact wpAny_pure h
end
/-- the zip as it stands at turn i -/
structure ZAt (z TI TO i1 i2 a b S : Addr) (i : Nat) (h : Heap) : Prop where
  ti : IsPair h TI (.ref i1) (.ref i2)
  it1 : h.IsListIter i1 a i
  it2 : h.IsListIter i2 b i
  to : ∃ o, h.get? TO = some o
  zz : (IsZip h z TI TO .none ∧ ∃ x y, IsPair h TO x y) ∨ ∃ T f oT, IsZipHeld h z TI TO T f ∧ h.get? T = some oT ∧ T ≠ z ∧ T ≠ i1 ∧ T ≠ i2 ∧ T ≠ S
/-- what the list holds behind some turns -/
def ZHas (K : PySem.W.Frag) (H : Hp) (xs ys accV : List V) : Prop := ∀ (j : Nat) (v : V), accV[j]? = some v → ∃ t x y, v = .ref t ∧ H t = some (.tup [x, y]) ∧ xs[j]? = some x ∧ ys[j]? = some y
theorem ZHas.mono {K : PySem.W.Frag} {H H' : Hp} {xs ys accV : List V} (h : ZHas K H xs ys accV) (e : ∀ a o, H a = some o → (∃ t, o = .tup t) → H' a = some o) : ZHas K H' xs ys accV := fun j v hv => by
  obtain ⟨t, x, y, h1, h2, h3⟩ := h j v hv
  exact ⟨t, x, y, h1, e _ _ h2 ⟨_, rfl⟩, h3⟩
section
variable {X : Cx} {pins : List (Addr × Obj)} {σ : L2.St}
theorem zl_loop {z TI TO i1 i2 a b S : Addr} (D : ZipApart z TI TO i1 i2 a b) (hS : S ≠ z ∧ S ≠ TI ∧ S ≠ TO ∧ S ≠ i1 ∧ S ≠ i2 ∧ S ≠ a ∧ S ≠ b) {xs ys : List V} {A : Around} {res : Value} {R : Result → Shared → Prop} (hA : A.in1.handled = none) {n : Nat} (hn : n = min xs.length ys.length) (hz : n ≤ 100000) (H0 : Hp) :
    ∀ (k i : Nat) (s : Shared) (H : Hp) (accV : List V), n - i = k → i ≤ n → Inv X pins σ H s → (∀ c ∈ [z, TI, TO, i1, i2], FpOk X pins H c) → ZAt z TI TO i1 i2 a b S i s.heap → H S = some (.lst accV) → accV.length = i → ZHas X.K H xs ys accV →
      SqL X.K H a xs → SqL X.K H b ys → (∀ c o, c ≠ S → H0 c = some o → H c = some o) →
      (∀ s' H' accV', Inv X pins σ H' s' → H' S = some (.lst accV') → accV'.length = n → ZHas X.K H' xs ys accV' → (∀ c o, c ≠ S → H0 c = some o → H' c = some o) → R (.ok (.ret res)) s') →
      codeAny (model X.prog X.w) A (.builtin "list.extend.loop" ⟨[.ref S, .ref z, res], []⟩) R s := by
  obtain ⟨nz, nTI, nTO, n1, n2, na, nb⟩ := hS
  intro k
  induction k with
  | zero =>
    intro i s H accV hk hi I hf Zt hSl hl hacc hqx hqy hk0 hR
    have hin : i = n := by omega
    subst hin
    refine codeAny_builtin PySem.F.entry_extend_loop ?_
    rw [Around.under_plainId PySem.F.plain_extend_loop _]
    show wpAny _ A.in1 (pyNext (.ref z) >>= _) _ _ s
    obtain ⟨its, rv, p, _⟩ := I.list hqx
    obtain ⟨its2, rv2, p2, _⟩ := I.list hqy
    have l1 := rv.length
    have l2 := rv2.length
    have he : its.toArray[i]? = none ∨ its2.toArray[i]? = none := by
      rcases Nat.le_total xs.length ys.length with q | q
      · exact .inl (by simp; omega)
      · exact .inr (by simp; omega)
    obtain ⟨hTI, h1, h2, ⟨oTO, hTOx⟩, zz⟩ := Zt
    refine wpAny_bind ?_
    rcases zz with ⟨hz, x0, y0, hTO⟩ | ⟨T, f, oT, hz, hT, _⟩
    · refine wpAny_pyNext_zip_end hA D hz hTI hTO h1 h2 p.isList p2.isList he fun h' hk => wpAny_pure ?_
      exact hR _ H accV (I.turnedL (t' := s.toks) (ch := [z, TI, TO, i1, i2]) (fun c o hb q => hk c o (fun q' => hb (by simp [q'])) (fun q' => hb (by simp [q'])) (fun q' => hb (by simp [q'])) (fun q' => hb (by simp [q'])) q) hf) hSl hl hacc hk0
    · refine wpAny_pyNext_zip_end_held hA D hz hT hTI h1 h2 p.isList p2.isList he fun h' hk => wpAny_pure ?_
      exact hR _ H accV (I.turnedL (t' := s.toks) (ch := [z, TI, TO, i1, i2]) (fun c o hb q => hk c o (fun q' => hb (by simp [q'])) (fun q' => hb (by simp [q'])) (fun q' => hb (by simp [q'])) q) hf) hSl hl hacc hk0
  | succ k ih =>
    intro i s H accV hk hi I hf Zt hSl hl hacc hqx hqy hk0 hR
    have hlt : i < n := by omega
    refine codeAny_builtin PySem.F.entry_extend_loop ?_
    rw [Around.under_plainId PySem.F.plain_extend_loop _]
    show wpAny _ A.in1 (pyNext (.ref z) >>= _) _ _ s
    obtain ⟨its, rv, p, _⟩ := I.list hqx
    obtain ⟨its2, rv2, p2, _⟩ := I.list hqy
    have hx : xs[i]? = some (xs[i]'(by omega)) := List.getElem?_eq_getElem _
    have hy : ys[i]? = some (ys[i]'(by omega)) := List.getElem?_eq_getElem _
    generalize xs[i]'(by omega) = x at hx
    generalize ys[i]'(by omega) = y at hy
    obtain ⟨u, hu, ru⟩ := rv.get hx
    obtain ⟨u2, hu2, ru2⟩ := rv2.get hy
    obtain ⟨hTI, h1, h2, ⟨oTO, hTOx⟩, zz⟩ := Zt
    obtain ⟨zl, sits, sn, sr, shl, se⟩ := I.lstM hSl
    have lt : ∀ {c o}, s.heap.get? c = some o → s.heap.objs.size ≠ c := fun e => Nat.ne_of_gt (Heap.lt_size e)
    have t1 : s.heap.objs.size ≠ i1 := let ⟨_, e, _⟩ := h1; lt e
    have t2 : s.heap.objs.size ≠ i2 := let ⟨_, e, _⟩ := h2; lt e
    have tS : s.heap.objs.size ≠ S := lt se
    have fin : ∀ (h' : Heap), IsPair h' s.heap.objs.size u u2 → ZAt z TI TO i1 i2 a b S (i + 1) h' → (∀ c o, c ∉ [z, TI, TO, i1, i2] → s.heap.get? c = some o → h'.get? c = some o) →
        wpAny (model X.prog X.w) A.in1 (updateSeq S (·.push (.ref s.heap.objs.size)) >>= fun _ => (pure (.again (.builtin "list.extend.loop" ⟨[.ref S, .ref z, res], []⟩)) : Sem Fin))
          (fun fin s' => match fin with | .done f => R (.ok f) s' | .again c' => c'.quiet = true ∧ codeAny (model X.prog X.w) A c' R s') (fun e s' => R (.error e) s') { s with heap := h' } := by
      intro h' hT Zt' hkp
      have new : ObjOk X.prog X.w (upd H s.heap.objs.size (.tup [x, y])) h' s.heap.objs.size (.tup [x, y]) :=
        ⟨by show 2 ≤ sizeLine; decide, [u, u2], .cons ru (.cons ru2 .nil), ⟨_, hT, rfl, _, rfl⟩⟩
      have I1 : Inv X pins σ (upd H s.heap.objs.size (.tup [x, y])) { s with heap := h' } := I.turnedNew (t' := s.toks) (ch := [z, TI, TO, i1, i2]) hkp hf (Nat.le_refl _) new
      have fr : H s.heap.objs.size = none := I.hok.fresh (Nat.le_refl _)
      have hS1 : (upd H s.heap.objs.size (.tup [x, y])) S = some (.lst accV) := by rw [upd_ne (Ne.symm tS)]; exact hSl
      have se' : h'.get? S = some { cls := .type "list", data := .seq sits.toArray sn } := hkp S _ (by simp; exact ⟨nz, nTI, nTO, n1, n2⟩) se
      have hsz : sits.toArray.size = i := by rw [List.size_toArray, ← sr.length, hl]
      have I2 := I1.lset (its' := sits ++ [.ref s.heap.objs.size]) (f := (·.push (.ref s.heap.objs.size))) (ys := accV ++ [.ref s.heap.objs.size]) (t' := s.toks) hS1 se' (by simp) (sr.append (.cons (show RelV (.ref s.heap.objs.size) (.ref s.heap.objs.size) from rfl) .nil)) (Evl.sz_of (by rw [List.length_append, hl]; show i + 1 ≤ 100000; omega))
      refine wpAny_bind ?_
      refine wpAny_updateSeq se' rfl (wpAny_pure ⟨plainId_quiet PySem.F.plain_extend_loop _, ?_⟩) (by rw [hsz]; exact Evl.sz_of (by omega)) (by show (sits.toArray.push _).size ≤ sizeLine + 1; rw [Array.size_push, hsz]; have := Evl.sz_of (n := i) (by omega); omega)
      have hne : ∀ c ∈ [z, TI, TO, i1, i2], c ≠ S ∧ c ≠ s.heap.objs.size := fun c hc => by
        have e' : c = z ∨ c = TI ∨ c = TO ∨ c = i1 ∨ c = i2 := by simpa using hc
        have hTO : TO ≠ s.heap.objs.size := Ne.symm (lt hTOx)
        have hzz : z ≠ s.heap.objs.size := by
          rcases zz with ⟨q, _⟩ | ⟨T, f, oT, q, _⟩
          · exact Ne.symm (lt q)
          · exact Ne.symm (lt q)
        rcases e' with q | q | q | q | q <;> rw [q]
        · exact ⟨Ne.symm nz, hzz⟩
        · exact ⟨Ne.symm nTI, Ne.symm (lt hTI)⟩
        · exact ⟨Ne.symm nTO, hTO⟩
        · exact ⟨Ne.symm n1, Ne.symm t1⟩
        · exact ⟨Ne.symm n2, Ne.symm t2⟩
      have oth : ∀ c, c ≠ S → (upd (upd H s.heap.objs.size (.tup [x, y])) S (.lst (accV ++ [.ref s.heap.objs.size]))) c = (upd H s.heap.objs.size (.tup [x, y])) c := fun c h => upd_ne h
      have keepH : ∀ c o, c ≠ S → H c = some o → (upd (upd H s.heap.objs.size (.tup [x, y])) S (.lst (accV ++ [.ref s.heap.objs.size]))) c = some o := fun c o h e => by rw [oth c h, upd_ne (ne_of_none e fr)]; exact e
      have kz : ∀ c, c ≠ S → ∀ o, h'.get? c = some o → (h'.update S (Obj.mapSeq (·.push (.ref s.heap.objs.size)))).get? c = some o := fun c hc o e => (Heap.get?_update_other _ _ (Ne.symm hc)).trans e
      refine ih (i + 1) _ _ (accV ++ [.ref s.heap.objs.size]) (by omega) hlt I2 (fun c hc => ?_) ?_ upd_same (by rw [List.length_append, hl]; rfl) (fun j v hv => ?_) ?_ ?_ (fun c o hc e => keepH c o hc (hk0 c o hc e)) hR
      · have q := hf c hc
        have q2 := hne c hc
        exact ⟨by rw [oth c q2.1, upd_ne q2.2]; exact q.1, q.2⟩
      · obtain ⟨a1, a2, a3, ⟨ot, a5⟩, a4⟩ := Zt'
        refine ⟨kz _ (Ne.symm nTI) _ a1, a2.at (kz _ (Ne.symm n1)), a3.at (kz _ (Ne.symm n2)), ⟨ot, kz _ (Ne.symm nTO) _ a5⟩, ?_⟩
        rcases a4 with ⟨q1, x0, y0, q2⟩ | ⟨T, f, oT, q1, q2, q3, q4, q5, q6⟩
        · exact .inl ⟨kz _ (Ne.symm nz) _ q1, x0, y0, kz _ (Ne.symm nTO) _ q2⟩
        · exact .inr ⟨T, f, oT, kz _ (Ne.symm nz) _ q1, kz _ q6 _ q2, q3, q4, q5, q6⟩
      · by_cases hj : j < accV.length
        · rw [List.getElem?_append_left hj] at hv
          obtain ⟨t, x', y', e1, e2, e3⟩ := hacc j v hv
          exact ⟨t, x', y', e1, keepH _ _ (fun q => by rw [q, hSl] at e2; cases e2) e2, e3⟩
        · rw [List.getElem?_append_right (by omega)] at hv
          cases hjj : j - accV.length with
          | succ m => rw [hjj] at hv; simp at hv
          | zero =>
            rw [hjj] at hv
            cases hv
            have hji : j = i := by omega
            subst hji
            exact ⟨_, x, y, rfl, by rw [oth _ tS]; exact upd_same, hx, hy⟩
      · exact hqx.elim (fun q => .inl (q.elim (fun q => .inl (keepH _ _ (Ne.symm na) q)) fun ⟨o, q⟩ => .inr ⟨o, keepH _ _ (Ne.symm na) q⟩)) .inr
      · exact hqy.elim (fun q => .inl (q.elim (fun q => .inl (keepH _ _ (Ne.symm nb) q)) fun ⟨o, q⟩ => .inr ⟨o, keepH _ _ (Ne.symm nb) q⟩)) .inr
    refine wpAny_bind ?_
    rcases zz with ⟨hz, x0, y0, hTO⟩ | ⟨T, f, oT, hz, hT, r1, r2, r3, r4⟩
    · refine wpAny_pyNext_zip_item D hz hTI hTO h1 h2 p.isList p2.isList (x := u) (y := u2) (by simpa using hu) (by simpa using hu2) fun h' z' TO' h1' h2' hT hsz hk => ?_
      exact fin h' hT ⟨hk _ _ D.TIz D.TITO D.TIi1 D.TIi2 hTI, h1', h2', ⟨_, TO'⟩, .inr ⟨_, false, _, z', hT, lt hz, t1, t2, tS⟩⟩ fun c o hb q => hk c o (fun q' => hb (by simp [q'])) (fun q' => hb (by simp [q'])) (fun q' => hb (by simp [q'])) (fun q' => hb (by simp [q'])) q
    · refine wpAny_pyNext_zip_item_held D hz hT hTI h1 h2 p.isList p2.isList (x := u) (y := u2) (by simpa using hu) (by simpa using hu2) fun h' z' h1' h2' hT' hsz hk => ?_
      exact fin h' hT' ⟨hk _ _ D.TIz D.TIi1 D.TIi2 hTI, h1', h2', ⟨oTO, hk _ _ D.TOz D.TOi1 D.TOi2 hTOx⟩, .inr ⟨T, true, oT, z', hk _ _ r1 r2 r3 hT, r1, r2, r3, r4⟩⟩ fun c o hb q => hk c o (fun q' => hb (by simp [q'])) (fun q' => hb (by simp [q'])) (fun q' => hb (by simp [q'])) q
/-- list(z), z a zip as it was made -/
theorem zl_call {H : Hp} {s : Shared} {z TI TO i1 i2 a b : Addr} (D : ZipApart z TI TO i1 i2 a b) (I : Inv X pins σ H s) (hf : ∀ c ∈ [z, TI, TO, i1, i2], FpOk X pins H c) (hz : IsZip s.heap z TI TO .none) (hTI : IsPair s.heap TI (.ref i1) (.ref i2)) (hTO : ∃ x y, IsPair s.heap TO x y)
    (h1 : s.heap.IsListIter i1 a 0) (h2 : s.heap.IsListIter i2 b 0) {xs ys : List V} (hqx : SqL X.K H a xs) (hqy : SqL X.K H b ys) (hn : min xs.length ys.length ≤ 100000) {A : Around} {Q : Value → Shared → Prop} {E : Value → Shared → Prop} (hA : A.handled = none)
    (hQ : ∀ S s' H' accV, H S = none → Inv X pins σ H' s' → H' S = some (.lst accV) → accV.length = min xs.length ys.length → ZHas X.K H' xs ys accV → Ex H H' → Q (.ref S) s') : wpAny (model X.prog X.w) A (call (.type "list") [.ref z]) Q E s := by
  obtain ⟨tx, ty, hTO⟩ := hTO
  obtain ⟨its, rv, p, _⟩ := I.list hqx
  obtain ⟨its2, rv2, p2, _⟩ := I.list hqy
  refine PySem.callType_codes (Q₁ := fun obj s₁ => obj = .ref s.heap.objs.size ∧ s₁ = { s with heap := s.heap.push { cls := .type "list", data := .seq #[] } }) PySem.F.called_list (PySem.F.typeCall_list_1 _) PySem.F.entry_list_init
    (code_list_new _ ⟨rfl, rfl⟩) fun obj s₁ h₁ => ?_
  obtain ⟨rfl, rfl⟩ := h₁
  generalize hS0 : s.heap.objs.size = S
  have hS : (s.heap.push { cls := .type "list", data := .seq #[] }).get? S = some { cls := .type "list", data := .seq #[] } := by rw [← hS0]; exact Heap.get?_push_size _ rfl
  have lt : ∀ {c o}, s.heap.get? c = some o → S ≠ c := fun e => by rw [← hS0]; exact Nat.ne_of_gt (Heap.lt_size e)
  have n1 : S ≠ i1 := let ⟨_, e, _⟩ := h1; lt e
  have n2 : S ≠ i2 := let ⟨_, e, _⟩ := h2; lt e
  have na : S ≠ a := by rw [← hS0]; exact Nat.ne_of_gt p.lt
  have nb : S ≠ b := by rw [← hS0]; exact Nat.ne_of_gt p2.lt
  refine ⟨⟨_, hS, rfl⟩, PySem.F.args_list_init_2 _ _, ?_⟩
  show wpAny _ _ (do let old ← Builtin.List.listItems (.ref S); Builtin.List.listUpdate (.ref S) (fun _ => #[]); letGo old.toList.reverse; Builtin.List.listExtendWith (.ref S) (.ref z) .none) _ _ _
  refine wpAny_bind ?_
  unfold Builtin.List.listItems
  refine wpAny_bind (wpAny_seqItems hS rfl (wpAny_pure ?_))
  show wpAny _ _ (updateSeq S (fun _ => #[]) >>= fun _ => letGo (#[] : Array Value).toList.reverse >>= fun _ => Builtin.List.listExtendWith (.ref S) (.ref z) .none) _ _ _
  refine wpAny_bind (wpAny_updateSeq hS rfl ?_)
  have hS2 := Heap.get?_update_self (Obj.mapSeq (fun _ => (#[] : Array Value))) hS rfl
  have k1 : ∀ c o, s.heap.get? c = some o → ((s.heap.push { cls := .type "list", data := .seq #[] }).update S (Obj.mapSeq (fun _ => (#[] : Array Value)))).get? c = some o :=
    fun c o e => (Heap.get?_update_other _ _ (lt e)).trans (Heap.get?_push_of_some _ e)
  revert hS2 k1
  generalize ((s.heap.push { cls := .type "list", data := .seq #[] }).update S (Obj.mapSeq (fun _ => (#[] : Array Value)))) = h₂
  intro hS2 k1
  refine wpAny_bind (wpAny_letGo ?_)
  unfold Builtin.List.listExtendWith
  have hTy : (⟨h₂, s.gens, s.drawn, s.toks, s.os⟩ : Shared).TypeIs (.ref z) "zip" := ⟨_, k1 _ _ hz, rfl⟩
  refine wpAny_bind (wpAny_typeOf (T := "zip") hTy ?_)
  have q1 : Builtin.List.listSameRef (.ref S) (.ref z) = false := by simp [Builtin.List.listSameRef, lt hz]
  simp only [q1, show (Value.type "zip" == Value.type "list") = false from by decide, show (Value.type "zip" == Value.type "tuple") = false from by decide, Bool.or_false, Bool.false_eq_true, if_false]
  refine wpAny_bind (wpAny_pyIter_zip (k1 _ _ hz) ?_)
  refine wpAny_bind (wpAny_holding (zip_hint hTy ?_))
  refine wpAny_ite_split (fun _ => ?_) (fun q => absurd rfl q)
  refine wpAny_bind (wpAny_rule ?_)
  refine wpAny_bind ?_
  show wpAny _ _ (updateSeq S (·.push .none) >>= fun _ => updateSeq S (·.pop)) _ _ _
  refine wpAny_bind (wpAny_updateSeq hS2 rfl ?_)
  have hS3 := Heap.get?_update_self (Obj.mapSeq (·.push Value.none)) hS2 rfl
  refine wpAny_updateSeq (hz := by seq_fits) hS3 rfl ?_
  have hS4 := Heap.get?_update_self (Obj.mapSeq (·.pop)) hS3 rfl
  have k2 : ∀ c o, s.heap.get? c = some o → ((h₂.update S (Obj.mapSeq (·.push Value.none))).update S (Obj.mapSeq (·.pop))).get? c = some o :=
    fun c o e => (Heap.get?_update_other _ _ (lt e)).trans ((Heap.get?_update_other _ _ (lt e)).trans (k1 c o e))
  revert hS4 k2
  generalize ((h₂.update S (Obj.mapSeq (·.push Value.none))).update S (Obj.mapSeq (·.pop))) = h₃
  intro hS4 k2
  refine wpAny_pure ⟨plainId_quiet PySem.F.plain_extend_loop _, ?_⟩
  have I1 : Inv X pins σ (upd H S (.lst [])) { s with heap := h₃ } := I.laid (t' := s.toks) k2 (by rw [hS0]; exact Nat.le_refl _) (show ObjOk X.prog X.w _ _ _ (.lst []) from ⟨Nat.zero_le _, [], _, .nil, hS4⟩)
  have fr : H S = none := I.hok.fresh (by rw [hS0]; exact Nat.le_refl _)
  refine zl_loop D ⟨lt hz, lt hTI, lt hTO, n1, n2, na, nb⟩ (xs := xs) (ys := ys) (A := A.in1) (by exact hA) rfl hn (upd H S (.lst [])) _ 0 _ (upd H S (.lst [])) [] rfl (Nat.zero_le _) I1 (fun c hc => ?_) ⟨k2 _ _ hTI, h1.at fun o e => k2 _ o e, h2.at fun o e => k2 _ o e, ⟨_, k2 _ _ hTO⟩, .inl ⟨k2 _ _ hz, tx, ty, k2 _ _ hTO⟩⟩ upd_same rfl (fun j v hv => by simp at hv) ?_ ?_ (fun _ _ _ e => e) (fun s' H' accV' I' hS' hl' hh' hk' => ?_)
  · have q := hf c hc
    have ncS : c ≠ S := by
      have e' : c = z ∨ c = TI ∨ c = TO ∨ c = i1 ∨ c = i2 := by simpa using hc
      rcases e' with q | q | q | q | q <;> rw [q]
      · exact Ne.symm (lt hz)
      · exact Ne.symm (lt hTI)
      · exact Ne.symm (lt hTO)
      · exact Ne.symm n1
      · exact Ne.symm n2
    exact ⟨by rw [upd_ne ncS]; exact q.1, q.2⟩
  · exact Evl.ex_l (Evl.Ex.new fr) hqx
  · exact Evl.ex_l (Evl.Ex.new fr) hqy
  · exact ⟨rfl, hQ S s' H' accV' fr I' hS' hl' hh' fun c o e => hk' c o (ne_of_none e fr) (by rw [upd_ne (ne_of_none e fr)]; exact e)⟩
end
section
variable {X : Cx} {e e2 : Expr} {ta : TA} {p p2 pos pos2 : Pos}
def tListZip (K : PySem.W.Frag) (ta : TA) : TE := fun σ H Q => ta σ H fun vs H1 => ∃ a b xs ys, vs = [.ref a, .ref b] ∧ SqL K H1 a xs ∧ SqL K H1 b ys ∧ min xs.length ys.length ≤ 100000 ∧
  ∀ q zs H', H1 q = none → Ex H1 H' → H' q = some (.lst zs) → zs.length = min xs.length ys.length → ZHas K H' xs ys zs → Q (.ref q) H'
theorem pe_listzip (hc : X.calm = true) (hgl : Gl X "list") (hml : X.mg "list" = none) (hg : Gl X "zip") (hm : X.mg "zip" = none) (ha : PA X [e, e2] ta)
    (na : starEach [Expr.Call (.Name "zip" p2) [e, e2] [] pos2] X.env = (false, eval (Expr.Call (.Name "zip" p2) [e, e2] [] pos2) X.env) :: starEach [] X.env := by rfl)
    (hs : starEach [e, e2] X.env = (false, eval e X.env) :: starEach [e2] X.env := by rfl) (hpl : (backTo pos2 (starEach [e2] X.env)).any (·.1) = false := by rfl) :
    PE X (.Call (.Name "list" p) [.Call (.Name "zip" p2) [e, e2] [] pos2] [] pos) (tListZip X.K ta) := by
  refine ⟨fun pins s σ H Q I h => ?_⟩
  refine Call_ (ld_blt I hgl hml boot_list (PyProof.Rows.callWith_type1 (args_cons (thn (Q := fun x s1 => ∃ H1 z TI TO i1 i2 a b xs ys, x = Value.ref z ∧ Inv X pins σ H1 s1 ∧ ZipApart z TI TO i1 i2 a b ∧ (∀ c ∈ [z, TI, TO, i1, i2], FpOk X pins H1 c) ∧ IsZip s1.heap z TI TO .none ∧
      IsPair s1.heap TI (.ref i1) (.ref i2) ∧ (∃ x y, IsPair s1.heap TO x y) ∧ s1.heap.IsListIter i1 a 0 ∧ s1.heap.IsListIter i2 b 0 ∧ SqL X.K H1 a xs ∧ SqL X.K H1 b ys ∧ min xs.length ys.length ≤ 100000 ∧
      ∀ q zs H', H1 q = none → Ex H1 H' → H' q = some (.lst zs) → zs.length = min xs.length ys.length → ZHas X.K H' xs ys zs → Q (.ref q) H') ?_ fun x s1 ⟨H1, z, TI, TO, i1, i2, a, b, xs, ys, ex, I1, D, hf, h1, h2, h3, h4, h5, h6, h7, h8, q⟩ => args_nil ?_) na) na))
  · refine Call_ (ld_blt I hg hm PyProof.Rows.boot_zip (PyProof.Rows.callWith_type1 (thn (ha.run pos2 pins s σ H _ I h) fun us s1 ⟨vs, H1, I1, r1, q1⟩ => ?_) hs hpl))
    obtain ⟨a, b, xs, ys, ex, hqx, hqy, hz, q⟩ := q1
    subst ex
    cases r1 with
    | cons r rr =>
      cases rr with
      | cons r' rr =>
        cases rr
        cases r
        cases r'
        obtain ⟨its, rv, p1, _⟩ := I1.list hqx
        obtain ⟨its2, rv2, p2, _⟩ := I1.list hqy
        have la : a < s1.heap.objs.size := p1.lt
        have lb : b < s1.heap.objs.size := p2.lt
        refine call_zip_2 p1.isList p2.isList fun h' hz' hTI hTO h1 h2 hsz hk => ?_
        have I2 : Inv X pins σ H1 { s1 with heap := h' } := I1.kept (t' := s1.toks) hk
        refine ⟨H1, s1.heap.objs.size + 4, s1.heap.objs.size + 2, s1.heap.objs.size + 3, s1.heap.objs.size, s1.heap.objs.size + 1, a, b, xs, ys, rfl, I2, PySem.W.ktu_apart s1.heap.objs.size a b la lb, fun c hcm => ?_, hz', hTI, ⟨_, _, hTO⟩, h1, h2, hqx, hqy, hz, q⟩
        have e' : c = s1.heap.objs.size + 4 ∨ c = s1.heap.objs.size + 2 ∨ c = s1.heap.objs.size + 3 ∨ c = s1.heap.objs.size ∨ c = s1.heap.objs.size + 1 := by simpa using hcm
        have hle : s1.heap.objs.size ≤ c := by
          rcases e' with z | z | z | z | z
          · rw [z]; exact Nat.le_add_right _ _
          · rw [z]; exact Nat.le_add_right _ _
          · rw [z]; exact Nat.le_add_right _ _
          · rw [z]; exact Nat.le_refl _
          · rw [z]; exact Nat.le_add_right _ _
        exact I1.fpOk hle (I1.hok.fresh hle)
  · subst ex
    exact zl_call D I1 hf h1 h2 h3 h4 h5 h6 h7 h8 (I1.ok.hd hc) fun S s' H' accV hS I' hS' hl' hh' he' => ⟨.ref S, H', I', rfl, q S accV H' hS he' hS' hl' hh'⟩
theorem pe_listzipK (K : PySem.W.Frag) (hc : X.calm = true) (hgl : Gl X "list") (hml : X.mg "list" = none) (hg : Gl X "zip") (hm : X.mg "zip" = none) (ha : PA X [e, e2] ta) (h : X.K = K := by rfl)
    (na : starEach [Expr.Call (.Name "zip" p2) [e, e2] [] pos2] X.env = (false, eval (Expr.Call (.Name "zip" p2) [e, e2] [] pos2) X.env) :: starEach [] X.env := by rfl)
    (hs : starEach [e, e2] X.env = (false, eval e X.env) :: starEach [e2] X.env := by rfl) (hpl : (backTo pos2 (starEach [e2] X.env)).any (·.1) = false := by rfl) :
    PE X (.Call (.Name "list" p) [.Call (.Name "zip" p2) [e, e2] [] pos2] [] pos) (tListZip K ta) := by subst h; exact pe_listzip hc hgl hml hg hm ha na hs hpl
end
end CZ
set_option Elab.async false
set_option linter.all false
set_option maxRecDepth 100000
set_option maxHeartbeats 2000000
namespace CZ
open PySem PySem.Spec PyProof.Rows L2
/-! ### tuple(d) of a dict; repr(b) -/
section
variable {prog : Program} {w : World} {A : Around} {E : Value → Shared → Prop} {s : Shared} {r d : Addr} {n : Nat} {Pi : Nat → Value → Prop} {OK : Heap → Prop}
theorem code_tuple_new_dict {Q₁ : Value → Shared → Prop} (K : PySem.W.KdlSrc prog w "dict" r d n Pi OK) (hh : A.handled = none) (hok : OK s.heap) (hn : n ≤ sizeLine)
    (h : ∀ (h' : Heap) (tk : Nat) (acc : Array Value), (∀ b o, s.heap.get? b = some o → h'.get? b = some o) → ItemsOf Pi acc n →
      Q₁ (.ref h'.objs.size) { s with heap := h'.push { cls := .type "tuple", data := .seq acc }, toks := tk }) :
    codeAny (model prog w) A (.call (.builtin "tuple.__new__") ⟨[.type "tuple", .ref r], []⟩) (wants Q₁ E) s := by
  refine codeAny_of_tree ?_
  show wpAny _ A.in1 (do checkBuiltinCall "tuple.__new__" ⟨[.type "tuple", .ref r], []⟩; again (.builtin "tuple.__new__" ⟨[.type "tuple", .ref r], []⟩)) _ _ s
  refine wpAny_bind (wpAny_of_eq (PySem.F.newCall_tuple_1 _) (wpAny_pure ⟨plainId_quiet PySem.F.plain_tuple_new _, codeAny_builtin PySem.F.entry_tuple_new ?_⟩))
  rw [Around.under_plainId PySem.F.plain_tuple_new _]
  have hsub := sub_tuple_self
  have hinit := init_tuple_lookup
  have hmh := madeHere_tuple
  have hTI : s.TypeIs (.ref r) "dict" := K.type s hok
  have hh1 : A.in1.handled = none := hh
  wp_walk using wpAny_typeOf hTI, PySem.W.kdu_collect (A := A.in1) K hh1 hok hn
  intro h' tk acc hk hacc
  show wpAny _ _ (Builtin.Tuple.tupleExact acc.toList.toArray >>= fun v => ret v) _ _ _
  unfold Builtin.Tuple.tupleExact
  refine wpAny_bind (wpAny_newObj_type ?_ (by show acc.toList.toArray.size ≤ sizeLine; simp only [Array.toArray_toList]; rw [hacc.1]; exact hn))
  refine wpAny_pure ?_
  have e : acc.toList.toArray = acc := by simp
  rw [e]
  exact h h' tk acc hk hacc
theorem call_tuple_dict {Q : Value → Shared → Prop} (K : PySem.W.KdlSrc prog w "dict" r d n Pi OK) (hh : A.handled = none) (hok : OK s.heap) (hn : n ≤ sizeLine)
    (hQ : ∀ (h' : Heap) (tk : Nat) (acc : Array Value), (∀ b o, s.heap.get? b = some o → h'.get? b = some o) → ItemsOf Pi acc n →
      Q (.ref h'.objs.size) { s with heap := h'.push { cls := .type "tuple", data := .seq acc }, toks := tk }) :
    wpAny (model prog w) A (call (.type "tuple") [.ref r]) Q E s := by
  refine callType_codes (Q₁ := fun obj s₁ => s₁.TypeIs obj "tuple" ∧ Q obj s₁) PySem.F.called_tuple (PySem.F.typeCall_tuple_1 _) PySem.F.entry_object_init
    (code_tuple_new_dict (A := A.in1) K hh hok hn fun h' tk acc hk hacc => ⟨⟨_, Heap.get?_push_size _ rfl, rfl⟩, hQ h' tk acc hk hacc⟩) fun obj s₁ h₁ => ?_
  exact ⟨h₁.1, PySem.F.args_object_init_2 obj _, object_init_meets PySem.F.called_tuple.init.lookup PySem.F.called_tuple.made (by decide) prog w A.in1 _ s₁ ⟨h₁.1, rfl, h₁.2⟩⟩
end
def rTupleD : List V → Hp → VK → Prop := fun xs H Q => ∃ p kvs, xs = [.ref p] ∧ H p = some (.dK kvs) ∧ ∀ q, H q = none → Q (.ref q) (upd H q (.tup (kvs.map fun kv => kV kv.1)))
theorem call_tuple_dK {X : Cx} (hc : X.calm = true) : CallR X (.type "tuple") rTupleD := by
  intro pins s σ H xs us Q I r h
  obtain ⟨p, kvs, e, hk, q⟩ := h
  subst e
  obtain ⟨u, eu, rx⟩ := vals1 r
  subst eu
  obtain rfl : u = Value.ref p := rx
  obtain ⟨z, lo, vs, rk, hd⟩ := (show ObjOk X.prog X.w H s.heap p (.dK kvs) from I.hok p _ hk)
  obtain ⟨ep, hat⟩ := hd.dictAt
  have hl : kvs.length = vs.length := Paired.length rk
  refine call_tuple_dict (PySem.W.kdl_dict (knd := mixKind X.prog X.w) (kvs := vs) (ep := ep) lo) (I.ok.hd hc) hat (by rw [← hl]; exact z) fun h' tk acc' hkeep hacc => ?_
  have I1 : Inv X pins σ H { s with heap := h', toks := tk } := I.kept (t' := tk) hkeep
  have hv : Vals (kvs.map fun kv => kV kv.1) acc'.toList := by
    have el : acc'.toList.length = acc'.size := by simp
    refine vals_of_at (by rw [List.length_map, el, hacc.1, hl]) fun j x w h1 h2 => ?_
    obtain ⟨k, y, hky, hi⟩ := hacc.2 j w (by rw [← Array.getElem?_toList]; exact h2)
    have e1 : (kvs.map (·.1))[j]? = some k := by
      rw [KV.keys rk, List.getElem?_map, hky] <;> rfl
    have e2 : (kvs.map fun kv => kV kv.1)[j]? = some (kV k) := by
      have e3 : (kvs.map fun kv => kV kv.1) = (kvs.map (·.1)).map kV := by rw [List.map_map] <;> rfl
      rw [e3, List.getElem?_map, e1] <;> rfl
    rw [e2] at h1
    cases h1
    exact keyIs_rel hi
  have hz : (kvs.map fun kv => kV kv.1).length ≤ sizeLine := by rw [List.length_map]; exact z
  refine ⟨.ref h'.objs.size, upd H h'.objs.size (.tup (kvs.map fun kv => kV kv.1)), I1.laid (t' := tk) (fun b o e => Heap.get?_push_of_some _ e) (Nat.le_refl _) (show ObjOk X.prog X.w _ _ _ (.tup (kvs.map fun kv => kV kv.1)) from ⟨hz, acc'.toList, hv, ?_⟩), rfl, q _ (I1.hok.fresh (Nat.le_refl _))⟩
  rw [Array.toArray_toList]
  exact IsTup.new _ _
def boolS (b : Bool) : Str := if b then "True" else "False"
theorem call_repr_bool {X : Cx} : CallR X (.builtin "repr") (fun xs H Q => ∃ b, xs = [.bl b] ∧ Q (.str (boolS b)) H) := by
  intro pins s σ H xs us Q I r h
  obtain ⟨b, rfl, q⟩ := h
  obtain ⟨u, rfl, rx⟩ := vals1 r
  obtain rfl : u = Value.bool b := rx
  exact PySem.P.repr_of_bool ⟨.str _, H, I.tok _, ⟨_, rfl⟩, q⟩
/-! ### a def of one argument and two that are None if left out -/
structure RnD (P : Program) (w : World) (K : PySem.W.Frag) (mg : Str → Option Value) (base : Heap) (k : Nat) (f : Addr) (sp : Sp) : Prop where
  ex : ∃ (fd : FuncData) (ps : List Str) (ds : List Value), FnOk P w K mg base CX0 k f fd ps sp ∧ Binds K fd ps ds ∧ Vals [.non, .non] ds
  kp : PySem.W.keepIn K (.ref f) = true
section
variable {X : Cx} {k j : Nat} {f : Addr} {x : Str} {sp : Sp} {p pos : Pos} {e : Expr} {es : List Expr} {t : TA}
def tRD (sp : Sp) (t : TA) : TE := fun σ H Q => t σ H fun vs H1 => sp (vs ++ [.non, .non]) H1 Q E0
theorem pe_ri (R : RnD X.prog X.w X.K X.mg X.base k f sp) (hm : X.mg x = some (.ref f)) (hr : Room j X.A) (hg : Gl X x) (ha : PA X (e :: es) t) (hk : k ≤ j := by first | decide | omega)
    (hdb : (x == ("__debug__" : Str)) = false := by decide) (he : starEach (e :: es) X.env = (false, eval e X.env) :: starEach es X.env := by rfl) (hpl : (backTo pos (starEach es X.env)).any (·.1) = false := by rfl) :
    PE X (.Call (.Name x p) (e :: es) [] pos) (tRD sp t) := by
  obtain ⟨fd, ps, ds, F, b, d⟩ := R.ex
  have z := pe_call (p := p) (pos := pos) F (hr.mono hk) hg hm R.kp b d pass0 ha hdb he hpl
  exact ⟨fun pins s σ H Q I h => z.run pins s σ H Q I h⟩
end
end CZ
set_option Elab.async false
set_option linter.all false
set_option maxRecDepth 100000
set_option maxHeartbeats 2000000
namespace CZ
open PySem PySem.Spec PyProof.Rows L2
/-! ### lists of numbers compared; flat tuples compared -/
section
variable {X : Cx}
def eqAll : List V → List V → Bool
  | [], [] => true
  | x :: xs, y :: ys => eqV x y && eqAll xs ys
  | _, _ => false
theorem eqAll_range : ∀ {xs ys : List V}, xs.length = ys.length → ((List.range xs.length).all fun j => eqV (xs.getD j .non) (ys.getD j .non)) = eqAll xs ys
  | [], [], _ => rfl
  | [], _ :: _, h => by simp at h
  | _ :: _, [], h => by simp at h
  | x :: xs, y :: ys, h => by
    have ih := eqAll_range (xs := xs) (ys := ys) (by simpa using h)
    rw [List.length_cons, List.range_succ_eq_map, List.all_cons, List.all_map]
    show (eqV x y && _) = (eqV x y && eqAll xs ys)
    rw [← ih]
    rfl
theorem eqAll_ints : ∀ {ns ms : List Int}, ns.length = ms.length → eqAll (ns.map V.int) (ms.map V.int) = decide (ns = ms)
  | [], [], _ => rfl
  | [], _ :: _, h => by simp at h
  | _ :: _, [], h => by simp at h
  | n :: ns, m :: ms, h => by
    have ih := eqAll_ints (ns := ns) (ms := ms) (by simpa using h)
    show ((n == m) && eqAll _ _) = _
    rw [ih]
    by_cases h1 : n = m <;> by_cases h2 : ns = ms <;> simp [h1, h2]
def rEqInts (K : PySem.W.Frag) : R2 := fun x y H Q => ∃ a b, ∃ ns ms : List Int, x = .ref a ∧ y = .ref b ∧ SqL K H a (ns.map V.int) ∧ SqL K H b (ms.map V.int) ∧ Q (.bl (decide (ns = ms))) H
def rFlatT (K : PySem.W.Frag) (neg : Bool) : R2 := fun x y H Q => ∃ a b xs ys, x = .ref a ∧ y = .ref b ∧ SqT K H a xs ∧ SqT K H b ys ∧ xs.length = ys.length ∧ xs.all flatV = true ∧ ys.all flatV = true ∧ Q (.bl (neg != eqAll xs ys)) H
theorem items_eq {A : Around} {s : Shared} {xs ys : List V} {us ws : List Value} (r1 : Vals xs us) (r2 : Vals ys ws) (f1 : xs.all flatV = true) (f2 : ys.all flatV = true) (j : Nat) (h1 : j < us.toArray.size) (h2 : j < ws.toArray.size) :
    SeqAt.EqAt A s us.toArray[j] ws.toArray[j] (eqV (xs.getD j .non) (ys.getD j .non)) := by
  have l1 := r1.length
  have l2 := r2.length
  have q1 : j < xs.length := by rw [l1]; simpa using h1
  have q2 : j < ys.length := by rw [l2]; simpa using h2
  obtain ⟨u, hu, ru⟩ := r1.get (List.getElem?_eq_getElem q1)
  obtain ⟨w, hw, rw'⟩ := r2.get (List.getElem?_eq_getElem q2)
  have e1 : us.toArray[j] = u := by
    have := (List.getElem?_eq_some_iff.mp hu).2
    simpa using this
  have e2 : ws.toArray[j] = w := by
    have := (List.getElem?_eq_some_iff.mp hw).2
    simpa using this
  rw [e1, e2, List.getD_eq_getElem?_getD, List.getElem?_eq_getElem q1, List.getD_eq_getElem?_getD, List.getElem?_eq_getElem q2]
  exact eqAt_V ru rw' (List.all_eq_true.mp f1 _ (List.getElem_mem q1)) (List.all_eq_true.mp f2 _ (List.getElem_mem q2))
theorem flat_ints (ns : List Int) : (ns.map V.int).all flatV = true := by
  rw [List.all_eq_true]
  intro x hx
  obtain ⟨n, _, rfl⟩ := List.mem_map.mp hx
  rfl
theorem op_eqInts (hu : X.A.units < cLine) : OpR X (compareOp .Eq) (rEqInts X.K) := by
  intro pins s σ H x y v u Q I rx ry h
  obtain ⟨a, b, ns, ms, rfl, rfl, ha, hb, q⟩ := h
  cases (show v = Value.ref a from rx)
  cases (show u = Value.ref b from ry)
  obtain ⟨us, r1, p1, _⟩ := I.list ha
  obtain ⟨ws, r2, p2, _⟩ := I.list hb
  have l1 := r1.length
  have l2 := r2.length
  by_cases hl : (ns.map V.int).length = (ms.map V.int).length
  · have hsz : us.toArray.size = ws.toArray.size := by simp only [List.size_toArray]; omega
    refine SeqAt.RcAt.lists (e := fun j => eqV ((ns.map V.int).getD j .non) ((ms.map V.int).getD j .non)) p1.isList p2.isList hsz hu (items_eq r1 r2 (flat_ints _) (flat_ints _)) X.prog X.w _ _ ⟨.bl _, H, I, rfl, ?_⟩
    rw [List.size_toArray, ← l1, eqAll_range hl, eqAll_ints (by simpa using hl)]
    exact q
  · have hne : ns ≠ ms := fun z => hl (by rw [z])
    refine SeqAt.RcAt.lists_lengths p1.isList p2.isList ?_ hu X.prog X.w _ _ ⟨.bl false, H, I, rfl, ?_⟩
    · simp only [List.size_toArray, bne_iff_ne, ne_eq]
      omega
    · rw [decide_eq_false hne] at q
      exact q
theorem op_eqFT (hu : X.A.units < cLine) : OpR X (compareOp .Eq) (rFlatT X.K false) := by
  intro pins s σ H x y v u Q I rx ry h
  obtain ⟨a, b, xs, ys, rfl, rfl, ha, hb, hl, f1, f2, q⟩ := h
  cases (show v = Value.ref a from rx)
  cases (show u = Value.ref b from ry)
  obtain ⟨us, r1, p1, _⟩ := I.tuple ha
  obtain ⟨ws, r2, p2, _⟩ := I.tuple hb
  have l1 := r1.length
  have l2 := r2.length
  refine SeqAt.RcAt.tuples (e := fun j => eqV (xs.getD j .non) (ys.getD j .non)) (show s.heap.IsTuple a us.toArray from p1) (show s.heap.IsTuple b ws.toArray from p2) hu (items_eq r1 r2 f1 f2) X.prog X.w _ _ ⟨.bl _, H, I, rfl, ?_⟩
  have hm : min us.toArray.size ws.toArray.size = xs.length := by simp only [List.size_toArray]; omega
  have hs : (us.toArray.size == ws.toArray.size) = true := by simp only [List.size_toArray, beq_iff_eq]; omega
  rw [hm, hs, Bool.and_true, eqAll_range hl]
  simpa using q
theorem op_neFT (hu : X.A.units < cLine) : OpR X (compareOp .NotEq) (rFlatT X.K true) := by
  intro pins s σ H x y v u Q I rx ry h
  obtain ⟨a, b, xs, ys, rfl, rfl, ha, hb, hl, f1, f2, q⟩ := h
  cases (show v = Value.ref a from rx)
  cases (show u = Value.ref b from ry)
  obtain ⟨us, r1, p1, _⟩ := I.tuple ha
  obtain ⟨ws, r2, p2, _⟩ := I.tuple hb
  have l1 := r1.length
  have l2 := r2.length
  refine SeqAt.RcNeAt.tuples (e := fun j => eqV (xs.getD j .non) (ys.getD j .non)) (show s.heap.IsTuple a us.toArray from p1) (show s.heap.IsTuple b ws.toArray from p2) hu (items_eq r1 r2 f1 f2) X.prog X.w _ _ ⟨.bl _, H, I, rfl, ?_⟩
  have hm : min us.toArray.size ws.toArray.size = xs.length := by simp only [List.size_toArray]; omega
  have hs : (us.toArray.size == ws.toArray.size) = true := by simp only [List.size_toArray, beq_iff_eq]; omega
  rw [hm, hs, Bool.and_true, eqAll_range hl]
  simpa using q
theorem op_eqIntsK (K : PySem.W.Frag) (hu : X.A.units < cLine) (h : X.K = K := by rfl) : OpR X (compareOp .Eq) (rEqInts K) := by subst h; exact op_eqInts hu
theorem op_eqFTK (K : PySem.W.Frag) (hu : X.A.units < cLine) (h : X.K = K := by rfl) : OpR X (compareOp .Eq) (rFlatT K false) := by subst h; exact op_eqFT hu
theorem op_neFTK (K : PySem.W.Frag) (hu : X.A.units < cLine) (h : X.K = K := by rfl) : OpR X (compareOp .NotEq) (rFlatT K true) := by subst h; exact op_neFT hu
end
/-- a tuple's type -/
theorem tyx_t {K : PySem.W.Frag} {H : Hp} {a : Addr} {xs : List V} (h : SqT K H a xs) : TyX K H (.ref a) (.type "tuple") := by
  rcases h with (h | ⟨o, h⟩) | ⟨o, its, n, h1, h2, _⟩
  · exact .base (.tup h)
  · exact .fTuple h
  · exact .kTuple h1 h2
end CZ
set_option Elab.async false
set_option linter.all false
set_option maxRecDepth 100000
set_option maxHeartbeats 2000000
namespace CZ
open PySem PySem.Spec PyProof.Rows L2
/-! ### lines and words -/
def howL : CM.How → List Nat
  | .down => [100, 111, 119, 110]
  | .up => [117, 112]
  | .near => [110, 101, 97, 114]
  | .low => [108, 111, 119]
theorem howL_S (h : CM.How) : SX.S (howL h) = howS h := by cases h <;> decide +kernel
theorem howL_32 (h : CM.How) : (32 : Nat) ∉ howL h := by cases h <;> decide
theorem dgL_32 (z : Int) : (32 : Nat) ∉ dgL z := by
  unfold dgL
  split <;> simp <;> omega
theorem ratL_32 (n d : Int) : (32 : Nat) ∉ ratL n d := by
  unfold ratL
  split
  · exact dgL_32 n
  · intro h
    rcases List.mem_append.mp h with h | h
    · exact dgL_32 n h
    · rcases List.mem_cons.mp h with h | h
      · cases h
      · exact dgL_32 d h
theorem dgL_len (z : Int) : (dgL z).length ≤ 2 := by unfold dgL; split <;> simp
theorem ratL_len (n d : Int) : (ratL n d).length ≤ 5 := by
  have h1 := dgL_len n
  have h2 := dgL_len d
  unfold ratL
  split
  · omega
  · rw [List.length_append, List.length_cons]; omega
theorem starts_pre (a b : List Nat) : Txt.startswith (SX.S a) (SX.S b) = TL.pre b a := by
  unfold Txt.startswith TL.pre
  rw [StrLaws.subAt_eq, SX.S_len, SX.S_len]
  show (decide (0 + b.length ≤ a.length) && ((a.drop 0).take b.length == b)) = (a.take b.length == b)
  rw [List.drop_zero]
  cases h : (a.take b.length == b)
  · rw [Bool.and_false]
  · have e := eq_of_beq h
    have : b.length ≤ a.length := by
      have := congrArg List.length e
      rw [List.length_take] at this
      omega
    rw [Bool.and_true, decide_eq_true (by omega)]
/-- what stands between the blanks -/
def spWordsBehind : Sp := fun vs H Q _ => (∃ (hd : List Nat) (ws : List (List Nat)), vs = [.str (SX.S (hd ++ 32 :: TL.joinL [32] ws)), .str (SX.S hd)] ∧ ws ≠ [] ∧ (∀ p ∈ ws, (32 : Nat) ∉ p) ∧ (hd ++ 32 :: TL.joinL [32] ws).length ≤ 1000 ∧
    ∀ (l : Addr) H', H l = none → Ex H H' → H' l = some (.lst ((ws.map SX.S).map V.str)) → Q (.ref l) H') ∨
  ∃ (hd ln : List Nat), vs = [.str (SX.S ln), .str (SX.S hd)] ∧ ln.length ≤ 1000 ∧ hd.length ≤ 1000 ∧ TL.pre (hd ++ [32]) ln = false ∧ Q .non H
def spToldRatio : Sp := fun vs H Q _ => ∃ n d least : Int, vs = [.str (SX.S (ratL n d)), .int least] ∧ Sml n d ∧ least ≤ n ∧ ∀ b H', Ex H H' → RatioAt H' b n d → Q b H'
/-- a program's name -/
structure Nm (n : List Nat) : Prop where
  len : 0 < n.length ∧ n.length ≤ 8
  az : ∀ c ∈ n, 97 ≤ c ∧ c ≤ 122
def spIsWord : Sp := fun vs H Q _ => ∃ n : List Nat, vs = [.str (SX.S n)] ∧ Nm n ∧ ∀ H', Ex H H' → Q (.bl true) H'
section
variable {P : Program} {w : World} {K : PySem.W.Frag} {mg : Str → Option Value} {base : Heap}
theorem r_words_behind (Z : Zed K mg base) : Rn P w K mg base 1 (a_words_behind K) spWordsBehind := by
  refine rn_of (u_words_behind Z) sco_words_behind (fun _ _ _ _ _ _ us hl => match us, hl with | [_, _], _ => rfl) (fun vs H Q E h => ?_) (fun cdv A outer s H vs Q E hr h => ?_)
  · rcases h with ⟨hd, ws, rfl, _⟩ | ⟨hd, ws, rfl, _⟩ <;> rfl
  · refine ⟨_, (pss_one (ps_ret (pe_ifExp (pt_val (pe_m1 PySem.F.slot_str_startswith PySem.F.type_str_startswith mt_startswith (pv 0) (pe_op op_add_str (pv 1) (C8.pe_gc (by rfl) (k_BLANK Z))))) (pe_split (pe_slice C8.sl_txt (pv 0) (po_some (pe_op op_add (pe_callB call_len_str (by rfl) (f_len Z) (by decide +kernel) (pa_cons (pv 1) pa_nil)) pe_int)) po_none) (C8.pe_gc (by rfl) (k_BLANK Z))) pe_non))), ?_⟩
    have eb : (Str.ofString " ") = SX.S [32] := by decide +kernel
    rcases h with ⟨hd, ws, rfl, hne, h32, hlen, k⟩ | ⟨hd, ln, rfl, hl1, hl2, hp, k⟩
    · have hlh : hd.length ≤ 1000 := by rw [List.length_append] at hlen; omega
      refine ⟨_, rfl, ⟨_, rfl⟩, _, rfl, _, _, rfl, rfl, Evl.sz_of (by rw [eb, SX.S_len, SX.S_len]; simp; omega), _, _, rfl, rfl, _, rfl, ?_⟩
      have e1 : Txt.startswith (SX.S (hd ++ 32 :: TL.joinL [32] ws)) (SX.S hd ++ Str.ofString " ") = true := by
        rw [eb, SX.S_cat, starts_pre]
        unfold TL.pre
        rw [show hd ++ 32 :: TL.joinL [32] ws = (hd ++ [32]) ++ TL.joinL [32] ws by simp, List.take_left]
        exact beq_self_eq_true _
      refine ifT e1 ⟨_, rfl, _, rfl, _, rfl, Evl.sz_of (by rw [SX.S_len]; omega), _, _, rfl, rfl, _, rfl, _, rfl, Evl.sz_of (by rw [SX.S_len]; omega), ?_⟩
      have e2 : Txt.slice (SX.S (hd ++ 32 :: TL.joinL [32] ws)) (some (((SX.S hd).length : Int) + 1)) none = SX.S (TL.joinL [32] ws) := by
        rw [show hd ++ 32 :: TL.joinL [32] ws = (hd ++ [32]) ++ TL.joinL [32] ws by simp]
        exact SX.from_app _ _ (by rw [SX.S_len, List.length_append]; rfl)
      rw [e2]
      have hj : (TL.joinL [32] ws).length ≤ 1000 := by rw [List.length_append, List.length_cons] at hlen; omega
      refine ⟨⟨_, rfl⟩, _, _, rfl, rfl, by decide, Evl.sz_of (by rw [SX.S_len]; omega), fun l hl => ?_⟩
      rw [eb, SX.split_S (by decide) (by decide), SX.spl_join hne h32]
      exact k l _ hl (Evl.Ex.new hl) upd_same
    · refine ⟨_, rfl, ⟨_, rfl⟩, _, rfl, _, _, rfl, rfl, Evl.sz_of (by rw [eb, SX.S_len, SX.S_len]; simp; omega), _, _, rfl, rfl, _, rfl, ?_⟩
      refine ifF ?_ k
      rw [eb, SX.S_cat, starts_pre, hp]
theorem r_told_ratio (Z : Zed K mg base) : Rn P w K mg base 4 (a_told_ratio K) spToldRatio := by
  have R_ratio_in := r_ratio_in (P := P) (w := w) Z
  refine rn_of (u_told_ratio Z) sco_told_ratio (fun _ _ _ _ _ _ us hl => match us, hl with | [_, _], _ => rfl) (fun vs H Q E h => ?_) (fun cdv A outer s H vs Q E hr h => ?_)
  · obtain ⟨n, d, least, rfl, _⟩ := h
    rfl
  · obtain ⟨n, d, least, rfl, hs, hle, k⟩ := h
    refine ⟨_, (pss_cons (ps_set (i := 2) sco_told_ratio.nd rfl (Or.inl rfl) (pe_r R_ratio_in (g_ratio_in Z) hr (by rfl) (pa_cons (pv 0) pa_nil)))
      (pss_cons (ps_if (PW.pt (pw_or (pt_cmpR op_isN (pv 2) pe_non (nomark _)) (pw_or (pt_not (pt_chain op_le op_le (pv 1) (pe_ix (ix_tupK K) (pv 2) pe_int (fun _ _ => rfl)) (C8.pe_gc (by rfl) (k_MOST_FIGURES Z)))) (pw_or1 (pt_cmpR op_gt (pe_ix (ix_tupK K) (pv 2) pe_int (fun _ _ => rfl)) (C8.pe_gc (by rfl) (k_MOST_FIGURES Z)) (nomark _))))))
        (pss_one (ps_ret pe_non))
        pss_nil)
      (pss_one (ps_ret (pv 2))))), ?_⟩
    refine ⟨_, rfl, n, d, rfl, hs, fun b H1 e1 hb => ?_⟩
    obtain ⟨q, rfl, hq⟩ := hb.ex
    have h1 := hs.n1
    have h2 := hs.d1
    refine ⟨_, rfl, rfl, _, rfl, ifF (decide_eq_false fun z => nomatch z) ?_⟩
    refine ⟨_, rfl, _, rfl, q, _, 0, .int n, rfl, rfl, SqT.of hq, rfl, _, _, rfl, rfl, _, rfl, ifT (decide_eq_true hle) ⟨_, _, rfl, rfl, _, rfl, ?_⟩⟩
    rw [decide_eq_true (show n ≤ 9999 by omega)]
    refine ifF rfl ⟨_, rfl, q, _, 1, .int d, rfl, rfl, SqT.of hq, rfl, _, _, rfl, rfl, _, rfl, ifF (decide_eq_false (by omega)) ⟨_, rfl, k _ _ e1 hb⟩⟩
theorem r_is_word (Z : Zed K mg base) : Rn P w K mg base 1 (a_is_word K) spIsWord := by
  refine rn_of (u_is_word Z) sco_is_word (fun _ _ _ _ _ _ us hl => match us, hl with | [_], _ => rfl) (fun vs H Q E h => ?_) (fun cdv A outer s H vs Q E hr h => ?_)
  · obtain ⟨n, rfl, _⟩ := h
    rfl
  · obtain ⟨n, rfl, hn, k⟩ := h
    refine ⟨_, (pss_one (ps_ret (pe_and (pe_callB (call_isiK_ K) (by rfl) (f_isinstance Z) (by decide +kernel) (pa_cons (pv 0) (pa_cons (pe_bltn (v := .ty "str") (by rfl) (f_str Z) boot_str rfl) pa_nil))) (pe_and (pe_chain op_lt op_le pe_int (pe_callB call_len_str (by rfl) (f_len Z) (by decide +kernel) (pa_cons (pv 0) pa_nil)) (C8.pe_gc (by rfl) (k_MOST_LETTERS Z))) (pe_one (pe_callB (cr_all rfl) (by rfl) (f_all Z) (by decide +kernel) (pa_cons (pe_lc (own := [("letter", 1)]) (g := gName 1) (tt := tYes) rfl sco_is_word.nd (pi_str (pv 0)) (blkOk_by (by kernel_rfl)) (fun _ _ _ _ _ => (pg_name (i := 1) sco_is_word.nd rfl (Or.inl rfl))) (fun _ _ _ _ _ => pts_nil) (fun _ _ _ _ _ => (pe_cmpR op_in_sign (pv 1) (C8.pe_gc (by rfl) (k_SMALL Z)) rfl))) pa_nil))))))), ?_⟩
    refine ⟨_, rfl, _, .ty "str", _, _, true, rfl, .ty _, .base (.str _), kit_ty (by decide +kernel), _, rfl, ifT rfl ?_⟩
    have hl := hn.len
    refine ⟨_, rfl, _, rfl, Evl.sz_of (by rw [SX.S_len]; omega), _, _, rfl, rfl, _, rfl, ifT (decide_eq_true (by rw [SX.S_len]; omega)) ⟨_, _, rfl, rfl, _, rfl, ifT (decide_eq_true (by rw [SX.S_len]; omega)) ?_⟩⟩
    refine ⟨_, rfl, _, rfl, fun D hD => ?_⟩
    refine lc_all walk_str (fun i y H' => y = .bl true) hD (by show n.length ≤ 90000; omega) (fun i y H1 H2 e h => h) (fun H' e => trivial) (fun i x H1 H2 Qe hi e1 _ hy q => ?_) gname_mono (fun H' ys e1 h1 hn2 h7 => ?_)
    · obtain ⟨rfl, c, hc, rfl⟩ := hy
      have hcm : c ∈ n := by
        have h2 : n.toArray[i]? = some c := hc
        rw [List.getElem?_toArray] at h2
        exact List.mem_of_getElem? h2
      have hcz := hn.az c hcm
      have hall : ∀ m : Nat, m < 26 → decide (97 + m ∈ (Str.ofString "abcdefghijklmnopqrstuvwxyz").cps.toList) = true := by decide +kernel
      have hm := hall (c - 97) (by omega)
      rw [show 97 + (c - 97) = c by omega] at hm
      exact ⟨rfl, _, rfl, _, _, rfl, rfl, q _ _ (Evl.Ex.refl _) (congrArg V.bl hm)⟩
    · obtain ⟨bs, rfl, h8, h9⟩ := bls_of (f := fun _ b => b = true) hn2 fun i y e => ⟨true, h7 i y e, rfl⟩
      have ha := all_of h9
      refine ⟨D, bs, rfl, SqL.of h1, ?_⟩
      rw [ha]
      exact k _ e1
end
--
/-! ### the reader -/
def off (l : List Addr) (H : Hp) : Hp := fun a => if a ∈ l then none else H a
theorem off_in {l : List Addr} {H : Hp} {a : Addr} (h : a ∈ l) : off l H a = none := if_pos h
theorem off_out {l : List Addr} {H : Hp} {a : Addr} (h : a ∉ l) : off l H a = H a := if_neg h
theorem off_ex {l : List Addr} {H : Hp} : Ex (off l H) H := fun a o e => by
  unfold off at e
  split at e
  · cases e
  · exact e
/-- all but these objects stays -/
def Keep (l : List Addr) (H H' : Hp) : Prop := ∀ a o, a ∉ l → H a = some o → H' a = some o
theorem Keep.refl {l : List Addr} {H : Hp} : Keep l H H := fun _ _ _ h => h
theorem Keep.of {l : List Addr} {H H' : Hp} (e : Ex H H') : Keep l H H' := fun a o _ h => e a o h
theorem Keep.trans {l : List Addr} {H H1 H2 : Hp} (a : Keep l H H1) (b : Keep l H1 H2) : Keep l H H2 := fun x o n h => b x o n (a x o n h)
theorem Keep.upd {l : List Addr} {H H' : Hp} {a : Addr} {o : HO} (k : Keep l H H') (h : a ∈ l) : Keep l H (L2.upd H' a o) := fun x u n e => by
  rw [upd_ne (fun z => n (by rw [z]; exact h))]
  exact k x u n e
theorem Keep.off {l : List Addr} {H H' : Hp} (k : Keep l H H') : Ex (CZ.off l H) (CZ.off l H') := fun a o e => by
  unfold CZ.off at e ⊢
  split at e
  · cases e
  · rename_i n
    rw [if_neg n]
    exact k a o n e
theorem Keep.ex {l : List Addr} {H0 H H' : Hp} (k : Keep l H H') (e : Ex H0 H) (h : ∀ a ∈ l, H0 a = none) : Ex H0 H' := fun a o q => k a o (fun z => by rw [h a z] at q; cases q) (e a o q)
inductive Ln where
  | trim (n : Nat)
  | prog (n : List Nat)
  | frm (n d : Int)
  | via (v : CM.Via)
  | back (h : CM.How × CM.How)
def Ln.hd : Ln → List Nat
  | .trim _ => [116, 114, 105, 109]
  | .prog _ => [112, 114, 111, 103, 114, 97, 109]
  | .frm _ _ => [32, 32, 102, 114, 111, 109]
  | .via _ => [32, 32, 118, 105, 97]
  | .back _ => [32, 32, 98, 97, 99, 107]
def Ln.ws : Ln → List (List Nat)
  | .trim n => [[48 + n]]
  | .prog n => [n]
  | .frm n d => [ratL n d]
  | .via v => [ratL v.n v.d, howL v.h.1, howL v.h.2]
  | .back h => [howL h.1, howL h.2]
def Ln.L (l : Ln) : List Nat := l.hd ++ 32 :: TL.joinL [32] l.ws
structure Cur where
  nm : List Nat
  bn : Int
  bd : Int
  hasB : Bool
  vias : List CM.Via
structure RS where
  trim : Option Nat
  done : List CM.Prg
  cur : Option Cur
/-- what a line does -/
inductive RStep : RS → Ln → RS → Prop where
  | trim {n : Nat} (h : n ≤ 9) : RStep ⟨none, [], none⟩ (.trim n) ⟨some n, [], none⟩
  | prog {t : Option Nat} {done : List CM.Prg} {n : List Nat} (h : Nm n) (hl : done.length < 4) (hn : ∀ p ∈ done, p.name ≠ n) : RStep ⟨t, done, none⟩ (.prog n) ⟨t, done, some ⟨n, 0, 1, false, []⟩⟩
  | frm {t : Option Nat} {done : List CM.Prg} {nm : List Nat} {n d : Int} (h : Sml n d) : RStep ⟨t, done, some ⟨nm, 0, 1, false, []⟩⟩ (.frm n d) ⟨t, done, some ⟨nm, n, d, true, []⟩⟩
  | via {t : Option Nat} {done : List CM.Prg} {c : Cur} {v : CM.Via} (h : Sml v.n v.d) (h1 : 1 ≤ v.n) (hl : c.vias.length < 3) : RStep ⟨t, done, some c⟩ (.via v) ⟨t, done, some { c with vias := c.vias ++ [v] }⟩
  | back {t : Option Nat} {done : List CM.Prg} {c : Cur} {h : CM.How × CM.How} (hv : c.vias ≠ []) : RStep ⟨t, done, some c⟩ (.back h) ⟨t, done ++ [⟨c.nm, c.bn, c.bd, c.vias, h⟩], none⟩
def trV : Option Nat → V
  | none => .non
  | some n => .int n
/-- the object of a reader -/
structure RdO (K : PySem.W.Frag) (H : Hp) (ra pl : Addr) (tv : V) (xs : List V) : Prop where
  ex : ∃ dx, H ra = some (.ins (C_Reader K) dx [("own_trim", tv), ("own_programs", .ref pl)])
  pl : H pl = some (.lst xs)
/-- the program that is being read -/
structure CurAt (K : PySem.W.Frag) (H G : Hp) (a dx l : Addr) (c : Cur) : Prop where
  ne : dx ≠ a ∧ l ≠ a ∧ l ≠ dx
  ex : ∃ bv vs, SlX.Slt H a (C_Program K) dx [some .non, some bv, some (.str (SX.S c.nm)), some (.ref l)] ∧ ((c.hasB = false ∧ bv = .non ∧ c.bn = 0 ∧ c.bd = 1) ∨ (c.hasB = true ∧ RatioAt G bv c.bn c.bd)) ∧ H l = some (.lst vs) ∧ Pw (ViaAt G) vs c.vias
def RdW (K : PySem.W.Frag) (H : Hp) (ra : Addr) (ow : List Addr) (t : Option Nat) (done : List CM.Prg) : Prop := ∃ pl xs, ow = [ra, pl] ∧ RdO K H ra pl (trV t) xs ∧ Pw (PrAt K (off ow H)) xs done
def RdCa (K : PySem.W.Frag) (H : Hp) (ra : Addr) (ow : List Addr) (t : Option Nat) (done : List CM.Prg) (c : Cur) (a : Addr) : Prop := ∃ pl xs dx l, ow = [ra, pl, a, dx, l] ∧ RdO K H ra pl (trV t) (xs ++ [.ref a]) ∧ Pw (PrAt K (off ow H)) xs done ∧ CurAt K H (off ow H) a dx l c
def RdC (K : PySem.W.Frag) (H : Hp) (ra : Addr) (ow : List Addr) (t : Option Nat) (done : List CM.Prg) (c : Cur) : Prop := ∃ a, RdCa K H ra ow t done c a
def RdAt (K : PySem.W.Frag) (H : Hp) (ra : Addr) (ow : List Addr) (s : RS) : Prop := match s.cur with
  | none => RdW K H ra ow s.trim s.done
  | some c => RdC K H ra ow s.trim s.done c
def spTakes (K : PySem.W.Frag) : Sp := fun vs H Q _ => ∃ (ra : Addr) (ow : List Addr) (s s' : RS) (l : Ln), vs = [.ref ra, .str (SX.S l.L)] ∧ RdAt K H ra ow s ∧ RStep s l s' ∧ s.done.length ≤ 4 ∧
  ∀ H' ow', RdAt K H' ra ow' s' → Keep ow H H' → (∀ b ∈ ow', b ∈ ow ∨ H b = none) → Q (.bl true) H'
end CZ
set_option Elab.async false
set_option linter.all false
set_option maxRecDepth 100000
set_option maxHeartbeats 2000000
namespace CZ
open PySem PySem.Spec PyProof.Rows L2
theorem rd_l1 {tv pv : V} : ([("own_trim", tv), ("own_programs", pv)] : List (Str × V)).lookup (Str.ofString "own_trim") = some tv := rfl
theorem rd_l2 {tv pv : V} : ([("own_trim", tv), ("own_programs", pv)] : List (Str × V)).lookup (Str.ofString "own_programs") = some pv := by
  show (match ((Str.ofString "own_programs") == (Str.ofString "own_trim")) with | true => some tv | false => List.lookup _ _) = _
  rw [show ((Str.ofString "own_programs") == (Str.ofString "own_trim")) = false by decide +kernel]
  rfl
theorem rd_no {tv pv : V} {m : Str} (h1 : (m == ("own_trim" : Str)) = false) (h2 : (m == ("own_programs" : Str)) = false) : ([("own_trim", tv), ("own_programs", pv)] : List (Str × V)).lookup m = none := by
  rw [List.lookup_cons, h1, List.lookup_cons, h2]
  rfl
def spRdInit (K : PySem.W.Frag) : Sp := fun vs H Q _ => ∃ (ra dx : Addr), vs = [.ref ra] ∧ H ra = some (.ins (C_Reader K) dx []) ∧ ∀ pl H', H pl = none → Keep [ra] H H' → RdO K H' ra pl .non [] → Q .non H'
def spIsWhole (K : PySem.W.Frag) : Sp := fun vs H Q _ => ∃ (ra : Addr) (ow : List Addr) (s : RS), vs = [.ref ra] ∧ RdAt K H ra ow s ∧ ∀ H', Ex H H' → Q (.bl s.cur.isNone) H'
def LnNot (hd ln : List Nat) : Prop := ln.length ≤ 1000 ∧ TL.pre (hd ++ [32]) ln = false
def spTakesTrim (K : PySem.W.Frag) : Sp := fun vs H Q _ => (∃ (ra : Addr) (ow : List Addr) (n : Nat), vs = [.ref ra, .str (SX.S (Ln.trim n).L)] ∧ n ≤ 9 ∧ RdW K H ra ow none [] ∧ ∀ H', RdW K H' ra ow (some n) [] → Keep ow H H' → Q (.bl true) H') ∨
  ∃ (v : V) (ln : List Nat), vs = [v, .str (SX.S ln)] ∧ LnNot [116, 114, 105, 109] ln ∧ Q (.bl false) H
theorem atI_neg1 {xs : List V} (h : 0 < xs.length) (hi : xs.length - 1 < xs.length) : atI xs (-1) = some (xs[xs.length - 1]'hi) := by
  rcases List.eq_nil_or_concat xs with e | ⟨ys, v, e⟩
  · rw [e] at h; cases h
  · rw [List.concat_eq_append] at e
    subst e
    have q : (ys ++ [v])[(ys ++ [v]).length - 1]'hi = v := by simp
    rw [q]
    exact atI_last ys v
theorem off_grow {ow ow' : List Addr} {H H' : Hp} (k : Keep ow H H') (f : ∀ b ∈ ow', b ∈ ow ∨ H b = none) : Ex (off ow H) (off ow' H') := fun a o e => by
  unfold off at e ⊢
  split at e
  · cases e
  · rename_i n
    rw [if_neg fun z => (f a z).elim n fun q => by rw [q] at e; cases e]
    exact k a o n e
theorem RdO.ex2 {K : PySem.W.Frag} {H H' : Hp} {ra pl : Addr} {tv : V} {xs : List V} (h : RdO K H ra pl tv xs) (e : Ex H H') : RdO K H' ra pl tv xs := let ⟨⟨dx, h1⟩, h2⟩ := h; ⟨⟨dx, e _ _ h1⟩, e _ _ h2⟩
theorem RdW.mono {K : PySem.W.Frag} {H H' : Hp} {ra : Addr} {ow : List Addr} {t : Option Nat} {done : List CM.Prg} (h : RdW K H ra ow t done) (e : Ex H H') : RdW K H' ra ow t done := by
  obtain ⟨pl, xs, h1, h2, h3⟩ := h
  exact ⟨pl, xs, h1, h2.ex2 e, h3.mono fun _ _ z => z.mono (Keep.of e).off⟩
theorem CurAt.mono {K : PySem.W.Frag} {H H' G G' : Hp} {a dx l : Addr} {c : Cur} (h : CurAt K H G a dx l c) (e : Ex H H') (e2 : Ex G G') : CurAt K H' G' a dx l c := by
  obtain ⟨h1, bv, vs, h2, h3, h4, h5⟩ := h
  exact ⟨h1, bv, vs, slt_ex e h2, h3.imp id fun z => ⟨z.1, z.2.mono e2⟩, e _ _ h4, h5.mono fun _ _ z => z.mono e2⟩
theorem RdCa.mono {K : PySem.W.Frag} {H H' : Hp} {ra : Addr} {ow : List Addr} {t : Option Nat} {done : List CM.Prg} {c : Cur} {a : Addr} (h : RdCa K H ra ow t done c a) (e : Ex H H') : RdCa K H' ra ow t done c a := by
  obtain ⟨pl, xs, dx, l, h1, h2, h3, h4⟩ := h
  exact ⟨pl, xs, dx, l, h1, h2.ex2 e, h3.mono fun _ _ z => z.mono (Keep.of e).off, h4.mono e (Keep.of e).off⟩
theorem slt_not {H : Hp} {a C dx : Addr} {v : Option V} {vs : List (Option V)} (h : SlX.Slt H a C dx (v :: vs)) : (∀ ts, H a ≠ some (.tup ts) ∧ H dx ≠ some (.tup ts)) ∧ (∀ ts, H a ≠ some (.lst ts) ∧ H dx ≠ some (.lst ts)) ∧ (∀ C d fs, H dx ≠ some (.ins C d fs)) ∧ H dx ≠ none ∧ H a ≠ none := by
  rcases h with ⟨_, e⟩ | ⟨h1, h2⟩
  · cases e
  · rw [h1, h2]
    refine ⟨fun ts => ⟨fun z => ?_, fun z => nomatch z⟩, ⟨fun ts => ⟨fun z => ?_, fun z => nomatch z⟩, fun _ _ _ z => (nomatch z), fun z => (nomatch z), fun z => (nomatch z)⟩⟩
    · unfold SlX.SlO at z
      cases z
    · unfold SlX.SlO at z
      cases z
theorem Keep.slH {l : List Addr} {H H' : Hp} {a C dx : Addr} {vs : List (Option V)} (k : Keep l H H') (h1 : a ∈ l) (h2 : dx ∈ l) : Keep l H (SlX.slH H' a C dx vs) := fun x o n e => by
  rw [SlX.slH_ne (fun z => n (by rw [z]; exact h1)) (fun z => n (by rw [z]; exact h2))]
  exact k x o n e
theorem tup_off {K : PySem.W.Frag} {H : Hp} {ra pl a dx l q : Addr} {ts : List V} {tv : V} {xs : List V} {v : Option V} {vs : List (Option V)} (hO : RdO K H ra pl tv xs) (hs : SlX.Slt H a (C_Program K) dx (v :: vs)) (hl : ∃ us, H l = some (.lst us)) (h : H q = some (.tup ts)) : q ∉ [ra, pl, a, dx, l] := by
  obtain ⟨⟨d, h1⟩, h2⟩ := hO
  obtain ⟨us, h3⟩ := hl
  have h4 := (slt_not hs).1 ts
  intro hm
  have e' : q = ra ∨ q = pl ∨ q = a ∨ q = dx ∨ q = l := by simpa using hm
  rcases e' with rfl | rfl | rfl | rfl | rfl
  · rw [h1] at h; cases h
  · rw [h2] at h; cases h
  · exact h4.1 h
  · exact h4.2 h
  · rw [h3] at h; cases h
theorem not_pre {hd ln : List Nat} (h : LnNot hd ln) : ln.length ≤ 1000 ∧ TL.pre (hd ++ [32]) ln = false := h
theorem how_in (h : CM.How) : inV (.str (SX.S (howL h))) [V.str "down", V.str "low", V.str "near", V.str "up"] = true := by cases h <;> decide +kernel
def spTakesProgram (K : PySem.W.Frag) : Sp := fun vs H Q _ => ∃ (ra : Addr) (ow : List Addr) (t : Option Nat) (done : List CM.Prg) (n : List Nat), vs = [.ref ra, .str (SX.S (Ln.prog n).L)] ∧ Nm n ∧ done.length < 4 ∧ (∀ p ∈ done, p.name ≠ n) ∧ RdW K H ra ow t done ∧
  ∀ H' ow', RdC K H' ra ow' t done ⟨n, 0, 1, false, []⟩ → Keep ow H H' → (∀ b ∈ ow', b ∈ ow ∨ H b = none) → Q (.bl true) H'
def spTakesFrom (K : PySem.W.Frag) : Sp := fun vs H Q _ => (∃ (ra : Addr) (ow : List Addr) (t : Option Nat) (done : List CM.Prg) (a : Addr) (nm : List Nat) (n d : Int), vs = [.ref ra, .ref a, .str (SX.S (Ln.frm n d).L)] ∧ Sml n d ∧ RdCa K H ra ow t done ⟨nm, 0, 1, false, []⟩ a ∧
  ∀ H', RdCa K H' ra ow t done ⟨nm, n, d, true, []⟩ a → Keep ow H H' → Q (.bl true) H') ∨
  ∃ (v w : V) (ln : List Nat), vs = [v, w, .str (SX.S ln)] ∧ LnNot [32, 32, 102, 114, 111, 109] ln ∧ Q (.bl false) H
def spTakesVia (K : PySem.W.Frag) : Sp := fun vs H Q _ => (∃ (ra : Addr) (ow : List Addr) (t : Option Nat) (done : List CM.Prg) (a : Addr) (c : Cur) (v : CM.Via), vs = [.ref ra, .ref a, .str (SX.S (Ln.via v).L)] ∧ Sml v.n v.d ∧ 1 ≤ v.n ∧ c.vias.length < 3 ∧ RdCa K H ra ow t done c a ∧
  ∀ H', RdCa K H' ra ow t done { c with vias := c.vias ++ [v] } a → Keep ow H H' → Q (.bl true) H') ∨
  ∃ (v w : V) (ln : List Nat), vs = [v, w, .str (SX.S ln)] ∧ LnNot [32, 32, 118, 105, 97] ln ∧ Q (.bl false) H
def spTakesBack (K : PySem.W.Frag) : Sp := fun vs H Q _ => ∃ (ra : Addr) (ow : List Addr) (t : Option Nat) (done : List CM.Prg) (a : Addr) (c : Cur) (h : CM.How × CM.How), vs = [.ref ra, .ref a, .str (SX.S (Ln.back h).L)] ∧ c.vias ≠ [] ∧ RdCa K H ra ow t done c a ∧
  ∀ H' ow', RdW K H' ra ow' t (done ++ [⟨c.nm, c.bn, c.bd, c.vias, h⟩]) → Keep ow H H' → (∀ b ∈ ow', b ∈ ow ∨ H b = none) → Q (.bl true) H'
section
variable {P : Program} {w : World} {K : PySem.W.Frag} {mg : Str → Option Value} {base : Heap}
theorem r_Reader_init (Z : Zed K mg base) : Rn P w K mg base 1 (a_Reader_init K) (spRdInit K) := by
  refine rn_of (u_Reader_init Z) sco_Reader_init (fun _ _ _ _ _ _ us hl => match us, hl with | [_], _ => rfl) (fun vs H Q E h => ?_) (fun cdv A outer s H vs Q E hr h => ?_)
  · obtain ⟨ra, dx, rfl, _⟩ := h
    rfl
  · obtain ⟨ra, dx, rfl, hi, k⟩ := h
    refine ⟨_, (pss_cons (ps_fld (pv 0) pe_non rfl)
      (pss_one (ps_fld (pv 0) (pe_lst pa_nil) rfl))), ?_⟩
    refine ⟨_, rfl, ra, _, dx, _, rfl, hi, cl_Reader Z, na_Reader_own_trim Z, by decide, by decide, fun l hl => ?_⟩
    have hl0 : H l = none := by
      have nla : l ≠ ra := fun z => by rw [z, upd_same] at hl; cases hl
      rw [upd_ne nla] at hl
      exact hl
    have nla : l ≠ ra := fun z => by rw [z, hi] at hl0; cases hl0
    refine ⟨_, rfl, ra, _, dx, _, rfl, by rw [upd_ne (Ne.symm nla)]; exact upd_same, cl_Reader Z, na_Reader_own_programs Z, by decide, ?_⟩
    refine k l _ hl0 (((Keep.refl.upd (by simp)).trans (Keep.of (Evl.Ex.new hl))).upd (by simp)) ⟨⟨dx, ?_⟩, ?_⟩
    · rw [upd_same]
      rfl
    · rw [upd_ne nla, upd_same]
theorem r_Reader_is_whole (Z : Zed K mg base) : Rn P w K mg base 1 (a_Reader_is_whole K) (spIsWhole K) := by
  refine rn_of (u_Reader_is_whole Z) sco_Reader_is_whole (fun _ _ _ _ _ _ us hl => match us, hl with | [_], _ => rfl) (fun vs H Q E h => ?_) (fun cdv A outer s H vs Q E hr h => ?_)
  · obtain ⟨ra, ow, s, rfl, _⟩ := h
    rfl
  · obtain ⟨ra, ow, st, rfl, hs, k⟩ := h
    refine ⟨_, (pss_one (ps_ret (pe_or (pe_cmpR (op_eqNilK K hr.units0) (pe_fld (pv 0) rfl) (pe_lst pa_nil) (nomark _)) (pe_one (pe_cmpR op_notN (pe_slK K (pe_ix (ix_listK K) (pe_fld (pv 0) rfl) (pe_un un_neg pe_int) (fun _ _ => rfl))) pe_non (nomark _)))))), ?_⟩
    obtain ⟨t, done, cur⟩ := st
    cases cur with
    | none =>
      obtain ⟨pl, xs, rfl, ⟨⟨dx, hi⟩, hl⟩, hp⟩ := hs
      refine ⟨_, rfl, ra, _, dx, _, .ref pl, rfl, hi, cl_Reader Z, na_Reader_own_programs Z, rd_l2, by decide, fun e he => ?_⟩
      have e1 : Ex H (upd H e (.lst [])) := Evl.Ex.new he
      refine ⟨pl, e, xs, rfl, rfl, SqL.of (e1 _ _ hl), SqL.of upd_same, _, rfl, ?_⟩
      cases hx : xs with
      | nil => exact ifT rfl (k _ e1)
      | cons x0 r0 =>
        rw [← hx]
        have hne : 0 < xs.length := by rw [hx]; simp
        refine ifF (by rw [hx]; rfl) ?_
        have hlast : xs[xs.length - 1]? = some (xs[xs.length - 1]'(by omega)) := List.getElem?_eq_getElem _
        obtain ⟨p, hpp, hp2⟩ := hp.at hlast
        obtain ⟨a, dx2, l, bk, bv, vs, hv, h2, _⟩ := hp2.ex
        refine ⟨_, rfl, ra, _, dx, _, .ref pl, rfl, e1 _ _ hi, cl_Reader Z, na_Reader_own_programs Z, rd_l2, _, rfl, pl, xs, -1, .ref a, rfl, rfl, SqL.of (e1 _ _ hl), ?_, ?_⟩
        · rw [← hv]
          exact atI_neg1 hne _
        · refine ⟨a, _, dx2, _, _, _, _, rfl, slt_ex e1 (slt_ex off_ex h2), sc_Program Z, sl_Program_own_back Z, rfl, rfl, ?_⟩
          rw [decide_eq_false (fun z => nomatch z)]
          exact k _ e1
    | some c =>
      obtain ⟨a, pl, xs, dx2, l, rfl, ⟨⟨dx, hi⟩, hl⟩, hp, ⟨hne, bv, vs, hc1, hc2, hc3, hc4⟩⟩ := hs
      refine ⟨_, rfl, ra, _, dx, _, .ref pl, rfl, hi, cl_Reader Z, na_Reader_own_programs Z, rd_l2, by decide, fun e he => ?_⟩
      have e1 : Ex H (upd H e (.lst [])) := Evl.Ex.new he
      refine ⟨pl, e, xs ++ [.ref a], rfl, rfl, SqL.of (e1 _ _ hl), SqL.of upd_same, _, rfl, ifF (by cases xs <;> rfl) ?_⟩
      refine ⟨_, rfl, ra, _, dx, _, .ref pl, rfl, e1 _ _ hi, cl_Reader Z, na_Reader_own_programs Z, rd_l2, _, rfl, pl, _, -1, .ref a, rfl, rfl, SqL.of (e1 _ _ hl), atI_last _ _, ?_⟩
      refine ⟨a, _, dx2, _, _, _, _, rfl, slt_ex e1 hc1, sc_Program Z, sl_Program_own_back Z, rfl, rfl, ?_⟩
      exact k _ e1
theorem r_Reader_takes_trim (Z : Zed K mg base) : Rn P w K mg base 2 (a_Reader_takes_trim K) (spTakesTrim K) := by
  have R_words_behind := r_words_behind (P := P) (w := w) Z
  have R_number_in := r_number_in (P := P) (w := w) Z
  refine rn_of (u_Reader_takes_trim Z) sco_Reader_takes_trim (fun _ _ _ _ _ _ us hl => match us, hl with | [_, _], _ => rfl) (fun vs H Q E h => ?_) (fun cdv A outer s H vs Q E hr h => ?_)
  · rcases h with ⟨ra, ow, n, rfl, _⟩ | ⟨v, ln, rfl, _⟩ <;> rfl
  · refine ⟨_, (pss_cons (ps_set (i := 2) sco_Reader_takes_trim.nd rfl (Or.inl rfl) (pe_r R_words_behind (g_words_behind Z) hr (by rfl) (pa_cons (pv 1) (pa_cons (C8.pe_gc (by rfl) (k_TRIM Z)) pa_nil))))
      (pss_cons (ps_if (PW.pt (pw_or (pt_cmpR op_isN (pv 2) pe_non (nomark _)) (pw_or (pt_cmpR op_ne (pe_callB (call_len_seqK K) (by rfl) (f_len Z) (by decide +kernel) (pa_cons (pv 2) pa_nil)) pe_int (nomark _)) (pw_or (pt_cmpR op_notN (pe_fld (pv 0) rfl) pe_non (nomark _)) (pw_or1 (pt_cmpR (op_neNilK K hr.units0) (pe_fld (pv 0) rfl) (pe_lst pa_nil) (nomark _)))))))
        (pss_one (ps_ret pe_bl))
        pss_nil)
      (pss_cons (ps_set (i := 3) sco_Reader_takes_trim.nd rfl (Or.inl rfl) (pe_r R_number_in (g_number_in Z) hr (by rfl) (pa_cons (pe_ix (ix_listK K) (pv 2) pe_int (fun _ _ => rfl)) pa_nil)))
      (pss_cons (ps_if (PW.pt (pw_or (pt_cmpR op_isN (pv 3) pe_non (nomark _)) (pw_or1 (pt_cmpR op_gt (pv 3) (C8.pe_gc (by rfl) (k_MOST_TRIM Z)) (nomark _)))))
        (pss_one (ps_ret pe_bl))
        pss_nil)
      (pss_cons (ps_fld (pv 0) (pv 3) rfl)
      (pss_one (ps_ret pe_bl))))))), ?_⟩
    have eT : Str.ofString "trim" = SX.S [116, 114, 105, 109] := by decide +kernel
    rcases h with ⟨ra, ow, n, rfl, hn, ⟨pl, xs, rfl, ⟨⟨dx, hi⟩, hl⟩, hp⟩, k⟩ | ⟨v, ln, rfl, hl, k⟩
    · have hx : xs = [] := List.eq_nil_of_length_eq_zero (by rw [hp.1]; rfl)
      subst hx
      refine ⟨_, rfl, .inl ⟨[116, 114, 105, 109], [[48 + n]], by rw [eT]; rfl, by simp, by simp; omega, by simp [TL.joinL], fun l H1 hl1 e1 hL1 => ?_⟩⟩
      refine ⟨_, rfl, rfl, _, rfl, ifF (decide_eq_false fun z => nomatch z) ⟨_, rfl, l, _, rfl, .inl (SqL.of hL1), rfl, _, rfl, ifF rfl ?_⟩⟩
      refine ⟨_, rfl, ra, _, dx, _, .non, rfl, e1 _ _ hi, cl_Reader Z, na_Reader_own_trim Z, rd_l1, rfl, _, rfl, ifF rfl ?_⟩
      refine ⟨_, rfl, ra, _, dx, _, .ref pl, rfl, e1 _ _ hi, cl_Reader Z, na_Reader_own_programs Z, rd_l2, by decide, fun e he => ?_⟩
      have e2 : Ex H1 (upd H1 e (.lst [])) := Evl.Ex.new he
      refine ⟨pl, e, [], rfl, rfl, SqL.of (e2 _ _ (e1 _ _ hl)), SqL.of upd_same, _, rfl, ifF rfl ?_⟩
      refine ⟨_, rfl, l, _, 0, .str (SX.S [48 + n]), rfl, rfl, SqL.of (e2 _ _ hL1), rfl, n, rfl, hn, fun H3 e3 => ?_⟩
      refine ⟨_, rfl, rfl, _, rfl, ifF (decide_eq_false fun z => nomatch z) ⟨_, rfl, _, _, rfl, rfl, _, rfl, ifF (decide_eq_false (by omega)) ?_⟩⟩
      have e13 := (e1.trans e2).trans e3
      refine ⟨_, rfl, _, rfl, ra, _, dx, _, rfl, e13 _ _ hi, cl_Reader Z, na_Reader_own_trim Z, by show 2 < 1000; decide, ?_⟩
      have npr : pl ≠ ra := fun z => by rw [z, hi] at hl; cases hl
      exact k _ ⟨pl, [], rfl, ⟨⟨dx, by rw [upd_same]; rfl⟩, by rw [upd_ne npr]; exact e13 _ _ hl⟩, Pw.nil⟩ ((Keep.of e13).upd (by simp))
    · refine ⟨_, rfl, .inr ⟨[116, 114, 105, 109], ln, by rw [eT], hl.1, by decide, hl.2, ?_⟩⟩
      exact ⟨_, rfl, rfl, _, rfl, ifT rfl k⟩
theorem r_Reader_takes_program (Z : Zed K mg base) : Rn P w K mg base 3 (a_Reader_takes_program K) (spTakesProgram K) := by
  have R_words_behind := r_words_behind (P := P) (w := w) Z
  have R_is_word := r_is_word (P := P) (w := w) Z
  have R_Reader_is_whole := r_Reader_is_whole (P := P) (w := w) Z
  have R_Program_init := r_Program_init (P := P) (w := w) Z
  refine rn_of (u_Reader_takes_program Z) sco_Reader_takes_program (fun _ _ _ _ _ _ us hl => match us, hl with | [_, _], _ => rfl) (fun vs H Q E h => ?_) (fun cdv A outer s H vs Q E hr h => ?_)
  · obtain ⟨ra, ow, t, done, n, rfl, _⟩ := h
    rfl
  · refine ⟨_, (pss_cons (ps_set (i := 2) sco_Reader_takes_program.nd rfl (Or.inl rfl) (pe_r R_words_behind (g_words_behind Z) hr (by rfl) (pa_cons (pv 1) (pa_cons (C8.pe_gc (by rfl) (k_PROGRAM Z)) pa_nil))))
      (pss_cons (ps_if (PW.pt (pw_or (pt_cmpR op_isN (pv 2) pe_non (nomark _)) (pw_or (pt_cmpR op_ne (pe_callB (call_len_seqK K) (by rfl) (f_len Z) (by decide +kernel) (pa_cons (pv 2) pa_nil)) pe_int (nomark _)) (pw_or (pt_not (pt_val (pe_r R_is_word (g_is_word Z) hr (by rfl) (pa_cons (pe_ix (ix_listK K) (pv 2) pe_int (fun _ _ => rfl)) pa_nil)))) (pw_or1 (pt_not (pt_val (pe_prD (pv 0) (cl_Reader Z) (p_Reader_is_whole Z) R_Reader_is_whole hr))))))))
        (pss_one (ps_ret pe_bl))
        pss_nil)
      (pss_cons (ps_if (PW.pt (pw_or (pt_cmpR op_eq (pe_callB (call_len_seqK K) (by rfl) (f_len Z) (by decide +kernel) (pa_cons (pe_fld (pv 0) rfl) pa_nil)) (C8.pe_gc (by rfl) (k_MOST_PROGRAMS Z)) (nomark _)) (pw_or1 (pt_cmpR (op_in_seqK K) (pe_ix (ix_listK K) (pv 2) pe_int (fun _ _ => rfl)) (pe_lc (own := [("one", 3)]) (g := gName 3) (tt := tYes) rfl sco_Reader_takes_program.nd (pi_listK K (pe_fld (pv 0) rfl)) (blkOk_by (by kernel_rfl)) (fun _ _ _ _ _ => (pg_name (i := 3) sco_Reader_takes_program.nd rfl (Or.inl rfl))) (fun _ _ _ _ _ => pts_nil) (fun _ _ _ _ _ => (pe_slK K (pv 3)))) rfl))))
        (pss_one (ps_ret pe_bl))
        pss_nil)
      (pss_cons (ps_expr (pe_bm PySem.F.plainAttrs_list PySem.F.slot_list_append PySem.F.type_list_append mt_append (pe_fld (pv 0) rfl) (pa_cons (pe_new (mk_Program Z) R_Program_init (g_Program Z) hr (by rfl) (pa_cons (pe_ix (ix_listK K) (pv 2) pe_int (fun _ _ => rfl)) pa_nil)) pa_nil)))
      (pss_one (ps_ret pe_bl)))))), ?_⟩
    have eT : Str.ofString "program" = SX.S [112, 114, 111, 103, 114, 97, 109] := by decide +kernel
    obtain ⟨ra, ow, t, done, n, rfl, hn, hd4, hnew, hW, k⟩ := h
    have hn32 : (32 : Nat) ∉ n := fun h => by have := hn.az 32 h; omega
    refine ⟨_, rfl, .inl ⟨[112, 114, 111, 103, 114, 97, 109], [n], by rw [eT]; rfl, by simp, by simpa using hn32, by have := hn.len; show n.length + 8 ≤ 1000; omega, fun l H1 hl1 e1 hL1 => ?_⟩⟩
    refine ⟨_, rfl, rfl, _, rfl, ifF (decide_eq_false fun z => nomatch z) ⟨_, rfl, l, _, rfl, .inl (SqL.of hL1), rfl, _, rfl, ifF rfl ?_⟩⟩
    refine ⟨_, rfl, l, _, 0, .str (SX.S n), rfl, rfl, SqL.of hL1, rfl, n, rfl, hn, fun H2 e2 => ⟨_, rfl, ifF rfl ?_⟩⟩
    have hW2 := hW.mono (e1.trans e2)
    obtain ⟨pl, xs, rfl, ⟨⟨dx, hi⟩, hl⟩, hp⟩ := hW2
    refine ⟨_, rfl, ra, dx, _, rfl, hi, ra, [ra, pl], ⟨t, done, none⟩, rfl, ⟨pl, xs, rfl, ⟨⟨dx, hi⟩, hl⟩, hp⟩, fun H3 e3 => ⟨_, rfl, ifF rfl ?_⟩⟩
    refine ⟨_, rfl, ra, _, dx, _, .ref pl, rfl, e3 _ _ hi, cl_Reader Z, na_Reader_own_programs Z, rd_l2, pl, _, rfl, .inl (SqL.of (e3 _ _ hl)), rfl, _, rfl, ifF (decide_eq_false fun y => by injection y with y; have := hp.1; omega) ?_⟩
    refine ⟨_, rfl, l, _, 0, .str (SX.S n), rfl, rfl, SqL.of (e3 _ _ (e2 _ _ hL1)), rfl, ?_⟩
    refine ⟨_, rfl, ra, _, dx, _, .ref pl, rfl, e3 _ _ hi, cl_Reader Z, na_Reader_own_programs Z, rd_l2, pl, rfl, ⟨_, SqL.of (e3 _ _ hl)⟩, fun D hD => ?_⟩
    refine lc_all walk_list (fun i y H' => ∃ p ∈ done, y = .str (nmS p)) hD (by rw [hp.1]; omega) (fun i y H1 H2 e h => h) (fun H' e => Evl.ex_l e (SqL.of (e3 _ _ hl))) (fun i x H4 H5 Qe hi2 e4 _ hy q => ?_) gname_mono (fun H4 ys e4 h1 hn4 h7 => ?_)
    · obtain ⟨rfl, hx⟩ := hy
      obtain ⟨p, hpp, hp2⟩ := hp.at hx
      obtain ⟨a, dx2, l2, bk, bv, vs, rfl, h2, _⟩ := hp2.ex
      refine ⟨rfl, _, rfl, a, _, dx2, _, _, _, _, rfl, slt_ex e4 (slt_ex e3 (slt_ex off_ex h2)), sc_Program Z, sl_Program_own_name Z, rfl, q _ _ (Evl.Ex.refl _) ⟨p, List.mem_of_getElem? hpp, rfl⟩⟩
    · have hin : inV (.str (SX.S n)) ys = false := by
        unfold inV
        rw [List.any_eq_false]
        intro y hy
        obtain ⟨i, hi3⟩ := List.getElem?_of_mem hy
        obtain ⟨p, hpm, rfl⟩ := h7 i y hi3
        show ¬ ((nmS p == SX.S n) = true)
        have hne := hnew p hpm
        intro hq
        exact hne (SX.S_inj (eq_of_beq hq))
      refine ⟨D, ys, rfl, .inl (SqL.of h1), rfl, ?_, _, rfl, ?_⟩
      · rw [List.all_eq_true]
        intro y hy
        obtain ⟨i, hi3⟩ := List.getElem?_of_mem hy
        obtain ⟨p, hpm, rfl⟩ := h7 i y hi3
        rfl
      · refine ifF (show (if false = true then !inV (.str (SX.S n)) ys else inV (.str (SX.S n)) ys) = false by rw [hin]; rfl) ?_
        have e04 := e3.trans e4
        have hl4 := e04 _ _ hl
        have hi4 := e04 _ _ hi
        refine ⟨_, rfl, ra, _, dx, _, .ref pl, rfl, hi4, cl_Reader Z, na_Reader_own_programs Z, rd_l2, .inl ⟨rfl, _, SqL.of hl4⟩, _, rfl, l, _, 0, .str (SX.S n), rfl, rfl, SqL.of (e04 _ _ (e2 _ _ hL1)), rfl, ?_⟩
        intro a da ha hda hne
        refine ⟨H4, a, da, SX.S n, rfl, ⟨ha, hda, hne, rfl⟩, fun lv H5 hlv n1 n2 e5 hs5 hlv5 => ⟨rfl, ?_⟩⟩
        have hl5 := e5 _ _ hl4
        have npa : pl ≠ a := ne_of_none hl4 ha
        have npd : pl ≠ da := ne_of_none hl4 hda
        have npl : pl ≠ lv := ne_of_none hl4 hlv
        have npr : ra ≠ pl := fun z => by rw [z, hl4] at hi4; cases hi4
        refine ⟨pl, xs, _, rfl, rfl, hl5, Evl.sz_lt (by rw [hp.1]; omega), ?_⟩
        have eHH4 : Ex H H4 := (e1.trans e2).trans e04
        have kp : Keep [ra, pl] H (upd H5 pl (.lst (xs ++ [.ref a]))) := (Keep.of (eHH4.trans e5)).upd (by simp)
        have fr : ∀ b ∈ [ra, pl, a, da, lv], b ∈ [ra, pl] ∨ H b = none := fun b hb => by
          have e' : b = ra ∨ b = pl ∨ b = a ∨ b = da ∨ b = lv := by simpa using hb
          rcases e' with rfl | rfl | rfl | rfl | rfl
          · exact .inl (by simp)
          · exact .inl (by simp)
          · exact .inr (Evl.fresh_back eHH4 ha)
          · exact .inr (Evl.fresh_back eHH4 hda)
          · exact .inr (Evl.fresh_back eHH4 hlv)
        obtain ⟨pl', xs', e0, h01, h02⟩ := hW
        injection e0 with _ e0
        injection e0 with e0 _
        subst e0
        have hxx : xs' = xs := by
          have q1 := (e1.trans e2) _ _ h01.pl
          rw [hl] at q1
          cases q1
          rfl
        subst hxx
        refine k _ _ ⟨a, pl, xs', da, lv, rfl, ⟨⟨dx, by rw [upd_ne npr]; exact e5 _ _ hi4⟩, upd_same⟩, h02.mono fun _ _ z => z.mono (off_grow kp fr), ⟨hne, n1, n2⟩, .non, [], slt_at2 hs5 (upd_ne (Ne.symm npa)) (upd_ne (Ne.symm npd)), .inl ⟨rfl, rfl, rfl, rfl⟩, by rw [upd_ne (Ne.symm npl)]; exact hlv5, Pw.nil⟩ kp fr
theorem r_Reader_takes_from (Z : Zed K mg base) : Rn P w K mg base 5 (a_Reader_takes_from K) (spTakesFrom K) := by
  have R_words_behind := r_words_behind (P := P) (w := w) Z
  have R_told_ratio := r_told_ratio (P := P) (w := w) Z
  refine rn_of (u_Reader_takes_from Z) sco_Reader_takes_from (fun _ _ _ _ _ _ us hl => match us, hl with | [_, _, _], _ => rfl) (fun vs H Q E h => ?_) (fun cdv A outer s H vs Q E hr h => ?_)
  · rcases h with ⟨ra, ow, t, done, a, nm, n, d, rfl, _⟩ | ⟨v, w, ln, rfl, _⟩ <;> rfl
  · refine ⟨_, (pss_cons (ps_set (i := 3) sco_Reader_takes_from.nd rfl (Or.inl rfl) (pe_r R_words_behind (g_words_behind Z) hr (by rfl) (pa_cons (pv 2) (pa_cons (C8.pe_gc (by rfl) (k_FROM Z)) pa_nil))))
      (pss_cons (ps_if (PW.pt (pw_or (pt_cmpR op_isN (pv 3) pe_non (nomark _)) (pw_or (pt_cmpR op_ne (pe_callB (call_len_seqK K) (by rfl) (f_len Z) (by decide +kernel) (pa_cons (pv 3) pa_nil)) pe_int (nomark _)) (pw_or (pt_cmpR op_notN (pe_slK K (pv 1)) pe_non (nomark _)) (pw_or1 (pt_cmpR (op_neNilK K hr.units0) (pe_slK K (pv 1)) (pe_lst pa_nil) (nomark _)))))))
        (pss_one (ps_ret pe_bl))
        pss_nil)
      (pss_cons (SlX.ps_sl (pv 1) (pe_r R_told_ratio (g_told_ratio Z) hr (by rfl) (pa_cons (pe_ix (ix_listK K) (pv 3) pe_int (fun _ _ => rfl)) (pa_cons (pe_un un_neg (C8.pe_gc (by rfl) (k_MOST_FIGURES Z))) pa_nil))))
      (pss_one (ps_ret (pe_cmpR op_notN (pe_slK K (pv 1)) pe_non (nomark _))))))), ?_⟩
    have eT : Str.ofString "  from" = SX.S [32, 32, 102, 114, 111, 109] := by decide +kernel
    rcases h with ⟨ra, ow, t, done, a, nm, n, d, rfl, hsm, hC, k⟩ | ⟨v, w, ln, rfl, hl, k⟩
    · refine ⟨_, rfl, .inl ⟨[32, 32, 102, 114, 111, 109], [ratL n d], by rw [eT]; rfl, by simp, by simpa using ratL_32 n d, by have := ratL_len n d; simp [TL.joinL]; omega, fun l1 H1 hl1 e1 hL1 => ?_⟩⟩
      refine ⟨_, rfl, rfl, _, rfl, ifF (decide_eq_false fun z => nomatch z) ⟨_, rfl, l1, _, rfl, .inl (SqL.of hL1), rfl, _, rfl, ifF rfl ?_⟩⟩
      have hC1 := hC.mono e1
      obtain ⟨pl, xs, dx, l, rfl, hO, hp, ⟨hne, bv, vs, hc1, hc2, hc3, hc4⟩⟩ := hC1
      have hb : bv = .non := hc2.elim (fun z => z.2.1) fun z => nomatch z.1
      subst hb
      have hv0 : vs = [] := List.eq_nil_of_length_eq_zero (by rw [hc4.1]; rfl)
      subst hv0
      refine ⟨_, rfl, a, _, dx, _, _, _, _, rfl, hc1, sc_Program Z, sl_Program_own_begin Z, rfl, rfl, _, rfl, ifF (by rw [decide_eq_true rfl]; rfl) ?_⟩
      refine ⟨_, rfl, a, _, dx, _, _, _, _, rfl, hc1, sc_Program Z, sl_Program_own_vias Z, rfl, by decide, fun e he => ?_⟩
      have e2 : Ex H1 (upd H1 e (.lst [])) := Evl.Ex.new he
      refine ⟨l, e, [], rfl, rfl, SqL.of (e2 _ _ hc3), SqL.of upd_same, _, rfl, ifF rfl ?_⟩
      refine ⟨_, rfl, l1, _, 0, .str (SX.S (ratL n d)), rfl, rfl, SqL.of (e2 _ _ hL1), rfl, _, rfl, n, d, -9999, rfl, hsm, by have := hsm.n1; omega, fun b H3 e3 hb => ?_⟩
      have e13 := e2.trans e3
      refine ⟨_, rfl, a, _, dx, _, _, _, rfl, slt_ex e13 hc1, sc_Program Z, sl_Program_own_begin Z, ?_⟩
      obtain ⟨q, rfl, hq⟩ := hb.ex
      refine ⟨_, rfl, a, _, dx, _, _, _, _, rfl, SlX.slH_slt hne.1, sc_Program Z, sl_Program_own_begin Z, rfl, rfl, ?_⟩
      rw [decide_eq_false (fun z => nomatch z)]
      have hO3 := hO.ex2 e13
      have hc13 := slt_ex e13 hc1
      have hqo := tup_off hO3 hc13 ⟨_, e13 _ _ hc3⟩ hq
      obtain ⟨nn1, nn2, nn3, nn4, nn5⟩ := slt_not hc13
      have nn2 := fun ts => nn2 ts
      obtain ⟨⟨d0, hi3⟩, hl3⟩ := hO3
      have r1 : ra ≠ dx := fun z => nn3 _ _ _ (by rw [← z]; exact hi3)
      have r2 : pl ≠ a := fun z => (nn2 _).1 (by rw [← z]; exact hl3)
      have r3 : pl ≠ dx := fun z => (nn2 _).2 (by rw [← z]; exact hl3)
      have r4 : ra ≠ a := fun z => by
        rcases hc13 with ⟨_, z2⟩ | ⟨z2, _⟩
        · cases z2
        · rw [← z, hi3] at z2
          unfold SlX.SlO at z2
          cases z2
      have kp : Keep [ra, pl, a, dx, l] H1 (SlX.slH H3 a (C_Program K) dx (SlX.putS 1 (.ref q) [some .non, some .non, some (.str (SX.S nm)), some (.ref l)])) := (Keep.of e13).slH (by simp) (by simp)
      refine k _ ⟨pl, xs, dx, l, rfl, ⟨⟨d0, by rw [SlX.slH_ne r4 r1]; exact hi3⟩, by rw [SlX.slH_ne r2 r3]; exact hl3⟩, hp.mono fun _ _ z => z.mono kp.off, hne, .ref q, [], SlX.slH_slt hne.1, .inr ⟨rfl, q, rfl, ?_⟩, ?_, Pw.nil⟩ ((Keep.of e1).trans kp)
      · rw [off_out hqo, SlX.slH_ne (fun z => hqo (by rw [z]; simp)) (fun z => hqo (by rw [z]; simp))]
        exact hq
      · rw [SlX.slH_ne hne.2.1 hne.2.2]
        exact e13 _ _ hc3
    · refine ⟨_, rfl, .inr ⟨[32, 32, 102, 114, 111, 109], ln, by rw [eT], hl.1, by decide, hl.2, ?_⟩⟩
      exact ⟨_, rfl, rfl, _, rfl, ifT rfl k⟩
end
end CZ
set_option Elab.async false
set_option linter.all false
set_option maxRecDepth 100000
set_option maxHeartbeats 2000000
namespace CZ
open PySem PySem.Spec PyProof.Rows L2
/-- how the reader's own objects stand apart -/
theorem rd_apart {K : PySem.W.Frag} {H : Hp} {ra pl a dx l : Addr} {tv : V} {xs : List V} {v : Option V} {vs : List (Option V)} (hO : RdO K H ra pl tv xs) (hs : SlX.Slt H a (C_Program K) dx (v :: vs)) (hl : ∃ us, H l = some (.lst us)) : ra ≠ a ∧ ra ≠ dx ∧ pl ≠ a ∧ pl ≠ dx ∧ ra ≠ pl ∧ ra ≠ l := by
  obtain ⟨⟨d0, hi3⟩, hl3⟩ := hO
  obtain ⟨us, hl⟩ := hl
  obtain ⟨nn1, nn2, nn3, nn4, nn5⟩ := slt_not hs
  have nn2 := fun ts => nn2 ts
  refine ⟨fun z => ?_, ⟨fun z => nn3 _ _ _ (by rw [← z]; exact hi3), ⟨fun z => (nn2 _).1 (by rw [← z]; exact hl3), ⟨fun z => (nn2 _).2 (by rw [← z]; exact hl3), ⟨fun z => (by rw [z, hl3] at hi3; cases hi3), fun z => (by rw [z, hl] at hi3; cases hi3)⟩⟩⟩⟩⟩
  rcases hs with ⟨_, z2⟩ | ⟨z2, _⟩
  · cases z2
  · rw [← z, hi3] at z2
    unfold SlX.SlO at z2
    cases z2
section
variable {P : Program} {w : World} {K : PySem.W.Frag} {mg : Str → Option Value} {base : Heap}
theorem r_Reader_takes_via (Z : Zed K mg base) : Rn P w K mg base 5 (a_Reader_takes_via K) (spTakesVia K) := by
  have R_words_behind := r_words_behind (P := P) (w := w) Z
  have R_told_ratio := r_told_ratio (P := P) (w := w) Z
  refine rn_of (u_Reader_takes_via Z) sco_Reader_takes_via (fun _ _ _ _ _ _ us hl => match us, hl with | [_, _, _], _ => rfl) (fun vs H Q E h => ?_) (fun cdv A outer s H vs Q E hr h => ?_)
  · rcases h with ⟨ra, ow, t, done, a, c, v, rfl, _⟩ | ⟨v, w, ln, rfl, _⟩ <;> rfl
  · refine ⟨_, (pss_cons (ps_set (i := 3) sco_Reader_takes_via.nd rfl (Or.inl rfl) (pe_r R_words_behind (g_words_behind Z) hr (by rfl) (pa_cons (pv 2) (pa_cons (C8.pe_gc (by rfl) (k_VIA Z)) pa_nil))))
      (pss_cons (ps_if (PW.pt (pw_or (pt_cmpR op_isN (pv 3) pe_non (nomark _)) (pw_or (pt_cmpR op_ne (pe_callB (call_len_seqK K) (by rfl) (f_len Z) (by decide +kernel) (pa_cons (pv 3) pa_nil)) (C8.pe_gc (by rfl) (k_TRIPLE Z)) (nomark _)) (pw_or1 (pt_cmpR op_eq (pe_callB (call_len_seqK K) (by rfl) (f_len Z) (by decide +kernel) (pa_cons (pe_slK K (pv 1)) pa_nil)) (C8.pe_gc (by rfl) (k_MOST_VIAS Z)) (nomark _))))))
        (pss_one (ps_ret pe_bl))
        pss_nil)
      (pss_cons (ps_set (i := 4) sco_Reader_takes_via.nd rfl (Or.inl rfl) (pe_r R_told_ratio (g_told_ratio Z) hr (by rfl) (pa_cons (pe_ix (ix_listK K) (pv 3) pe_int (fun _ _ => rfl)) (pa_cons pe_int pa_nil))))
      (pss_cons (ps_if (PW.pt (pw_or (pt_cmpR op_isN (pv 4) pe_non (nomark _)) (pw_or1 (pt_not (pt_val (pe_callB (cr_all rfl) (by rfl) (f_all Z) (by decide +kernel) (pa_cons (pe_lc (own := [("how", 5)]) (g := gName 5) (tt := tYes) rfl sco_Reader_takes_via.nd (pi_listK K (pe_slice sl_list (pv 3) (po_some pe_int) po_none)) (blkOk_by (by kernel_rfl)) (fun _ _ _ _ _ => (pg_name (i := 5) sco_Reader_takes_via.nd rfl (Or.inl rfl))) (fun _ _ _ _ _ => pts_nil) (fun _ _ _ _ _ => (pe_cmpR (op_in_seqK K) (pv 5) (C8.pe_gc (by rfl) (k_HOWS Z)) rfl))) pa_nil)))))))
        (pss_one (ps_ret pe_bl))
        pss_nil)
      (pss_cons (ps_expr (pe_bm PySem.F.plainAttrs_list PySem.F.slot_list_append PySem.F.type_list_append mt_append (pe_slK K (pv 1)) (pa_cons (pe_tup (pa_cons (pv 4) (StX.pa_star (pe_slice sl_list (pv 3) (po_some pe_int) po_none) pa_nil))) pa_nil)))
      (pss_one (ps_ret pe_bl))))))), ?_⟩
    have eT : Str.ofString "  via" = SX.S [32, 32, 118, 105, 97] := by decide +kernel
    rcases h with ⟨ra, ow, t, done, a, c, v, rfl, hsm, hv1, hv3, hC, k⟩ | ⟨v, w, ln, rfl, hl, k⟩
    · have hh : ∀ h : CM.How, (howL h).length ≤ 4 := fun h => by cases h <;> decide
      refine ⟨_, rfl, .inl ⟨[32, 32, 118, 105, 97], [ratL v.n v.d, howL v.h.1, howL v.h.2], by rw [eT]; rfl, by simp, ?_, ?_, fun l1 H1 hl1 e1 hL1 => ?_⟩⟩
      · intro p hp
        have e' : p = ratL v.n v.d ∨ p = howL v.h.1 ∨ p = howL v.h.2 := by simpa using hp
        rcases e' with rfl | rfl | rfl
        · exact ratL_32 _ _
        · exact howL_32 _
        · exact howL_32 _
      · have h1 := ratL_len v.n v.d
        have h2 := hh v.h.1
        have h3 := hh v.h.2
        simp [TL.joinL]
        omega
      refine ⟨_, rfl, rfl, _, rfl, ifF (decide_eq_false fun z => nomatch z) ⟨_, rfl, l1, _, rfl, .inl (SqL.of hL1), rfl, _, rfl, ifF rfl ?_⟩⟩
      have hC1 := hC.mono e1
      obtain ⟨pl, xs, dx, l, rfl, hO, hp, ⟨hne, bv, us, hc1, hc2, hc3, hc4⟩⟩ := hC1
      refine ⟨_, rfl, a, _, dx, _, _, _, _, rfl, hc1, sc_Program Z, sl_Program_own_vias Z, rfl, l, _, rfl, .inl (SqL.of hc3), rfl, _, rfl, ifF (decide_eq_false fun y => by injection y with y; have := hc4.1; omega) ?_⟩
      refine ⟨_, rfl, l1, _, 0, .str (SX.S (ratL v.n v.d)), rfl, rfl, SqL.of hL1, rfl, v.n, v.d, 1, rfl, hsm, hv1, fun b H3 e3 hb => ?_⟩
      obtain ⟨q, rfl, hq⟩ := hb.ex
      refine ⟨_, rfl, rfl, _, rfl, ifF (decide_eq_false fun z => nomatch z) ?_⟩
      refine ⟨_, rfl, _, rfl, l1, _, rfl, SqL.of (e3 _ _ hL1), fun ls hls => ⟨ls, rfl, ⟨_, SqL.of upd_same⟩, fun D hD => ?_⟩⟩
      have e4 := Evl.Ex.new (o := .lst (cutV (([ratL v.n v.d, howL v.h.1, howL v.h.2].map SX.S).map V.str) (some 1) none)) hls
      have hcut : cutV (([ratL v.n v.d, howL v.h.1, howL v.h.2].map SX.S).map V.str) (some 1) none = [.str (SX.S (howL v.h.1)), .str (SX.S (howL v.h.2))] := rfl
      have hLs : (upd H3 ls (.lst (cutV (([ratL v.n v.d, howL v.h.1, howL v.h.2].map SX.S).map V.str) (some 1) none))) ls = some (.lst [.str (SX.S (howL v.h.1)), .str (SX.S (howL v.h.2))]) := by rw [upd_same, hcut]
      refine lc_all walk_list (fun i y H' => y = .bl true) hD (by show 2 ≤ 90000; decide) (fun i y H1 H2 e h => h) (fun H' e => Evl.ex_l e (SqL.of upd_same)) (fun i x H4 H5 Qe hi2 e5 _ hy q => ?_) gname_mono (fun H4 ys e5 h1 hn4 h7 => ?_)
      · obtain ⟨rfl, hx⟩ := hy
        have hxx : ∃ h : CM.How, x = .str (SX.S (howL h)) := by
          have hm := List.mem_of_getElem? hx
          rw [hcut] at hm
          have e' : x = .str (SX.S (howL v.h.1)) ∨ x = .str (SX.S (howL v.h.2)) := by simpa using hm
          rcases e' with rfl | rfl
          · exact ⟨_, rfl⟩
          · exact ⟨_, rfl⟩
        obtain ⟨h, rfl⟩ := hxx
        exact ⟨rfl, _, rfl, He.ga K "HOWS", _, rfl, .inr (t_HOWS Z _), rfl, rfl, q _ _ (Evl.Ex.refl _) (congrArg V.bl (how_in h))⟩
      · obtain ⟨bs, rfl, h8, h9⟩ := bls_of (f := fun _ b => b = true) hn4 fun i y e => ⟨true, h7 i y e, rfl⟩
        have ha := all_of h9
        refine ⟨D, bs, rfl, SqL.of h1, _, rfl, ?_⟩
        rw [ha]
        have e14 := (e3.trans e4).trans e5
        refine ifF rfl ⟨_, rfl, a, _, dx, _, _, _, _, rfl, slt_ex e14 hc1, sc_Program Z, sl_Program_own_vias Z, rfl, .inl ⟨rfl, us, SqL.of (e14 _ _ hc3)⟩, ?_⟩
        refine ⟨_, rfl, _, rfl, _, rfl, l1, _, rfl, SqL.of (e14 _ _ hL1), fun ls2 hls2 => ⟨ls2, _, rfl, .inr (SqL.of upd_same), Evl.sz_of (by show 3 ≤ 100000; decide), fun T hT => ?_⟩⟩
        have e6 := e14.trans (Evl.Ex.new (o := .lst (cutV (([ratL v.n v.d, howL v.h.1, howL v.h.2].map SX.S).map V.str) (some 1) none)) hls2)
        have e7 := e6.trans (Evl.Ex.new (o := .tup (.ref q :: (cutV (([ratL v.n v.d, howL v.h.1, howL v.h.2].map SX.S).map V.str) (some 1) none ++ []))) hT)
        refine ⟨l, us, _, rfl, rfl, e7 _ _ hc3, Evl.sz_lt (by rw [hc4.1]; omega), ?_⟩
        have hO7 := hO.ex2 e7
        have hc17 := slt_ex e7 hc1
        have hqo := tup_off hO7 hc17 ⟨_, e7 _ _ hc3⟩ ((((e4.trans e5).trans (Evl.Ex.new hls2)).trans (Evl.Ex.new hT)) _ _ hq)
        have hTo := tup_off hO7 hc17 ⟨_, e7 _ _ hc3⟩ upd_same
        obtain ⟨r4, r1, r2, r3, r5, r6⟩ := rd_apart hO7 hc17 ⟨_, e7 _ _ hc3⟩
        have hpl : pl ≠ l := fun z => by
          have h1 := hO7.pl
          rw [z, e7 _ _ hc3] at h1
          injection h1 with h1
          injection h1 with h1
          have h2 := congrArg (fun zs => zs.getLast?) h1
          have h3 : us.getLast? = some (.ref a) := by simpa using h2
          have hm := List.mem_of_getLast? h3
          obtain ⟨i, hi⟩ := List.getElem?_of_mem hm
          obtain ⟨w1, _, hw⟩ := hc4.at hi
          obtain ⟨p1, q1, hp1, hp2, _⟩ := hw.ex
          cases hp1
          have hp3 := e7 _ _ (off_ex _ _ hp2)
          exact ((slt_not hc17).1 _).1 hp3
        obtain ⟨⟨d0, hi7⟩, hl7⟩ := hO7
        have kp : Keep [ra, pl, a, dx, l] H1 (upd (upd (upd H4 ls2 (.lst (cutV (([ratL v.n v.d, howL v.h.1, howL v.h.2].map SX.S).map V.str) (some 1) none))) T (.tup (.ref q :: (cutV (([ratL v.n v.d, howL v.h.1, howL v.h.2].map SX.S).map V.str) (some 1) none ++ [])))) l (.lst (us ++ [.ref T]))) := (Keep.of e7).upd (by simp)
        refine k _ ⟨pl, xs, dx, l, rfl, ⟨⟨d0, by rw [upd_ne r6]; exact hi7⟩, by rw [upd_ne hpl]; exact hl7⟩, hp.mono fun _ _ z => z.mono kp.off, hne, bv, us ++ [.ref T], slt_at2 hc17 (upd_ne (Ne.symm hne.2.1)) (upd_ne (Ne.symm hne.2.2)), hc2.imp id fun z => ⟨z.1, z.2.mono kp.off⟩, upd_same, ?_⟩ ((Keep.of e1).trans kp)
        refine (hc4.mono fun _ _ z => z.mono kp.off).snoc ⟨T, q, rfl, ?_, ?_⟩
        · rw [off_out hTo, upd_ne (fun z => hTo (by rw [z]; simp)), upd_same, hcut, howL_S, howL_S]
          rfl
        · rw [off_out hqo, upd_ne (fun z => hqo (by rw [z]; simp))]
          exact (((e4.trans e5).trans (Evl.Ex.new hls2)).trans (Evl.Ex.new hT)) _ _ hq
    · refine ⟨_, rfl, .inr ⟨[32, 32, 118, 105, 97], ln, by rw [eT], hl.1, by decide, hl.2, ?_⟩⟩
      exact ⟨_, rfl, rfl, _, rfl, ifT rfl k⟩
theorem r_Reader_takes_back (Z : Zed K mg base) : Rn P w K mg base 2 (a_Reader_takes_back K) (spTakesBack K) := by
  have R_words_behind := r_words_behind (P := P) (w := w) Z
  refine rn_of (u_Reader_takes_back Z) sco_Reader_takes_back (fun _ _ _ _ _ _ us hl => match us, hl with | [_, _, _], _ => rfl) (fun vs H Q E h => ?_) (fun cdv A outer s H vs Q E hr h => ?_)
  · obtain ⟨ra, ow, t, done, a, c, v, rfl, _⟩ := h
    rfl
  · refine ⟨_, (pss_cons (ps_set (i := 3) sco_Reader_takes_back.nd rfl (Or.inl rfl) (pe_r R_words_behind (g_words_behind Z) hr (by rfl) (pa_cons (pv 2) (pa_cons (C8.pe_gc (by rfl) (k_BACK Z)) pa_nil))))
      (pss_cons (ps_if (PW.pt (pw_or (pt_cmpR op_isN (pv 3) pe_non (nomark _)) (pw_or (pt_cmpR op_ne (pe_callB (call_len_seqK K) (by rfl) (f_len Z) (by decide +kernel) (pa_cons (pv 3) pa_nil)) (C8.pe_gc (by rfl) (k_PAIR_studios Z)) (nomark _)) (pw_or (pt_cmpR (op_eqNilK K hr.units0) (pe_slK K (pv 1)) (pe_lst pa_nil) (nomark _)) (pw_or1 (pt_not (pt_val (pe_callB (cr_all rfl) (by rfl) (f_all Z) (by decide +kernel) (pa_cons (pe_lc (own := [("how", 4)]) (g := gName 4) (tt := tYes) rfl sco_Reader_takes_back.nd (pi_listK K (pv 3)) (blkOk_by (by kernel_rfl)) (fun _ _ _ _ _ => (pg_name (i := 4) sco_Reader_takes_back.nd rfl (Or.inl rfl))) (fun _ _ _ _ _ => pts_nil) (fun _ _ _ _ _ => (pe_cmpR (op_in_seqK K) (pv 4) (C8.pe_gc (by rfl) (k_HOWS Z)) rfl))) pa_nil)))))))))
        (pss_one (ps_ret pe_bl))
        pss_nil)
      (pss_cons (SlX.ps_sl (pv 1) (pe_callTy call_tuple_of (by rfl) (f_tuple Z) (by decide +kernel) (pa_cons (pv 3) pa_nil)))
      (pss_one (ps_ret pe_bl))))), ?_⟩
    have eT : Str.ofString "  back" = SX.S [32, 32, 98, 97, 99, 107] := by decide +kernel
    obtain ⟨ra, ow, t, done, a, c, v, rfl, hv, hC, k⟩ := h
    have hh : ∀ h : CM.How, (howL h).length ≤ 4 := fun h => by cases h <;> decide
    refine ⟨_, rfl, .inl ⟨[32, 32, 98, 97, 99, 107], [howL v.1, howL v.2], by rw [eT]; rfl, by simp, ?_, ?_, fun l1 H1 hl1 e1 hL1 => ?_⟩⟩
    · intro p hp
      have e' : p = howL v.1 ∨ p = howL v.2 := by simpa using hp
      rcases e' with rfl | rfl
      · exact howL_32 _
      · exact howL_32 _
    · have h2 := hh v.1
      have h3 := hh v.2
      simp [TL.joinL]
      omega
    refine ⟨_, rfl, rfl, _, rfl, ifF (decide_eq_false fun z => nomatch z) ⟨_, rfl, l1, _, rfl, .inl (SqL.of hL1), rfl, _, rfl, ifF rfl ?_⟩⟩
    have hC1 := hC.mono e1
    obtain ⟨pl, xs, dx, l, rfl, hO, hp, ⟨hne, bv, us, hc1, hc2, hc3, hc4⟩⟩ := hC1
    refine ⟨_, rfl, a, _, dx, _, _, _, _, rfl, hc1, sc_Program Z, sl_Program_own_vias Z, rfl, by decide, fun e he => ?_⟩
    have e2 : Ex H1 (upd H1 e (.lst [])) := Evl.Ex.new he
    have hus : us.isEmpty = false := by
      cases us with
      | nil => exact absurd (List.eq_nil_of_length_eq_zero hc4.1.symm) hv
      | cons _ _ => rfl
    refine ⟨l, e, us, rfl, rfl, SqL.of (e2 _ _ hc3), SqL.of upd_same, _, rfl, ifF hus ?_⟩
    refine ⟨_, rfl, l1, rfl, ⟨_, SqL.of (e2 _ _ hL1)⟩, fun D hD => ?_⟩
    refine lc_all walk_list (fun i y H' => y = .bl true) hD (by show 2 ≤ 90000; decide) (fun i y H1 H2 e h => h) (fun H' e => Evl.ex_l e (SqL.of (e2 _ _ hL1))) (fun i x H4 H5 Qe hi2 e4 _ hy q => ?_) gname_mono (fun H4 ys e4 h1 hn4 h7 => ?_)
    · obtain ⟨rfl, hx⟩ := hy
      have hxx : ∃ h : CM.How, x = .str (SX.S (howL h)) := by
        have hm := List.mem_of_getElem? hx
        have e' : x = .str (SX.S (howL v.1)) ∨ x = .str (SX.S (howL v.2)) := by simpa using hm
        rcases e' with rfl | rfl
        · exact ⟨_, rfl⟩
        · exact ⟨_, rfl⟩
      obtain ⟨h, rfl⟩ := hxx
      exact ⟨rfl, _, rfl, He.ga K "HOWS", _, rfl, .inr (t_HOWS Z _), rfl, rfl, q _ _ (Evl.Ex.refl _) (congrArg V.bl (how_in h))⟩
    · obtain ⟨bs, rfl, h8, h9⟩ := bls_of (f := fun _ b => b = true) hn4 fun i y e => ⟨true, h7 i y e, rfl⟩
      have ha := all_of h9
      refine ⟨D, bs, rfl, SqL.of h1, _, rfl, ?_⟩
      rw [ha]
      have e04 := e2.trans e4
      refine ifF rfl ⟨_, rfl, l1, _, rfl, .inl ⟨SqL.of (e04 _ _ hL1), fun bk hbk => ?_⟩⟩
      have e5 := e04.trans (Evl.Ex.new (o := .tup (([howL v.1, howL v.2].map SX.S).map V.str)) hbk)
      refine ⟨_, rfl, a, _, dx, _, _, _, rfl, slt_ex e5 hc1, sc_Program Z, sl_Program_own_back Z, ?_⟩
      have hO5 := hO.ex2 e5
      have hc15 := slt_ex e5 hc1
      have hbo := tup_off hO5 hc15 ⟨_, e5 _ _ hc3⟩ upd_same
      obtain ⟨r4, r1, r2, r3, r5, r6⟩ := rd_apart hO5 hc15 ⟨_, e5 _ _ hc3⟩
      obtain ⟨⟨d0, hi7⟩, hl7⟩ := hO5
      have hpl : pl ≠ l := fun z => by
        have h1 := hl7
        rw [z, e5 _ _ hc3] at h1
        injection h1 with h1
        injection h1 with h1
        have h2 := congrArg (fun zs => zs.getLast?) h1
        have h3 : us.getLast? = some (.ref a) := by simpa using h2
        have hm := List.mem_of_getLast? h3
        obtain ⟨i, hi⟩ := List.getElem?_of_mem hm
        obtain ⟨w1, _, hw⟩ := hc4.at hi
        obtain ⟨p1, q1, hp1, hp2, _⟩ := hw.ex
        cases hp1
        have hp3 := e5 _ _ (off_ex _ _ hp2)
        exact ((slt_not hc15).1 _).1 hp3
      generalize hHf : upd H4 bk (.tup (([howL v.1, howL v.2].map SX.S).map V.str)) = H6 at *
      have hbk6 : H6 bk = some (.tup [.str (howS v.1), .str (howS v.2)]) := by
        rw [← hHf, upd_same, ← howL_S, ← howL_S]
        rfl
      generalize hvs : SlX.putS 0 (.ref bk) [some .non, some bv, some (.str (SX.S c.nm)), some (.ref l)] = vs'
      have hvs' : vs' = [some (.ref bk), some bv, some (.str (SX.S c.nm)), some (.ref l)] := hvs.symm
      subst hvs'
      have kp : Keep [ra, pl, a, dx, l] H1 (SlX.slH H6 a (C_Program K) dx [some (.ref bk), some bv, some (.str (SX.S c.nm)), some (.ref l)]) := (Keep.of e5).slH (by simp) (by simp)
      have sub : Ex (off [ra, pl, a, dx, l] H1) (off [ra, pl] (SlX.slH H6 a (C_Program K) dx [some (.ref bk), some bv, some (.str (SX.S c.nm)), some (.ref l)])) := off_grow kp (by simp)
      refine k _ [ra, pl] ⟨pl, xs ++ [.ref a], rfl, ⟨⟨d0, by rw [SlX.slH_ne r4 r1]; exact hi7⟩, by rw [SlX.slH_ne r2 r3]; exact hl7⟩, (hp.mono fun _ _ z => z.mono sub).snoc ?_⟩ ((Keep.of e1).trans kp) (fun b hb => .inl (by simp at hb ⊢; rcases hb with h | h <;> simp [h]))
      refine ⟨a, dx, l, bk, bv, us, rfl, ?_, ?_, ?_, hc4.mono fun _ _ z => z.mono sub, ?_⟩
      · exact slt_at2 (SlX.slH_slt hne.1) (off_out (by simp; exact ⟨Ne.symm r4, Ne.symm r2⟩)) (off_out (by simp; exact ⟨Ne.symm r1, Ne.symm r3⟩))
      · exact hc2.imp (fun z => z.2) fun z => z.2.mono sub
      · exact SqL.of (by rw [off_out (by simp; exact ⟨Ne.symm r6, Ne.symm hpl⟩), SlX.slH_ne hne.2.1 hne.2.2]; exact e5 _ _ hc3)
      · rw [off_out (fun z => hbo (by simp at z ⊢; rcases z with z | z <;> simp [z])), SlX.slH_ne (fun z => hbo (by rw [z]; simp)) (fun z => hbo (by rw [z]; simp))]
        exact hbk6
end
end CZ
set_option Elab.async false
set_option linter.all false
set_option maxRecDepth 100000
set_option maxHeartbeats 2000000
namespace CZ
open PySem PySem.Spec PyProof.Rows L2
theorem howL_len (h : CM.How) : (howL h).length ≤ 4 := by cases h <;> decide
theorem ln_len {s s' : RS} {l : Ln} (h : RStep s l s') : l.L.length ≤ 40 := by
  cases h with
  | trim h => show 6 ≤ 40; decide
  | @prog _ _ n h _ _ => have := h.len; show n.length + 8 ≤ 40; omega
  | @frm _ _ _ n d h => have := ratL_len n d; show (ratL n d).length + 7 ≤ 40; omega
  | @via _ _ c v h _ _ =>
    have h1 := ratL_len v.n v.d
    have h2 := howL_len v.h.1
    have h3 := howL_len v.h.2
    simp [Ln.L, Ln.hd, Ln.ws, TL.joinL]
    omega
  | @back _ _ c v h =>
    have h2 := howL_len v.1
    have h3 := howL_len v.2
    simp [Ln.L, Ln.hd, Ln.ws, TL.joinL]
    omega
inductive Runs : RS → List Ln → RS → Prop where
  | nil (s : RS) : Runs s [] s
  | cons {s s' s'' : RS} {l : Ln} {ls : List Ln} (h : RStep s l s') (hd : s.done.length ≤ 4) (r : Runs s' ls s'') : Runs s (l :: ls) s''
def spReadLines (K : PySem.W.Frag) : Sp := fun vs H Q _ => ∃ (ls : List Ln) (t : Option Nat) (done : List CM.Prg), vs = [.str (SX.S (TL.joinL [10] (ls.map Ln.L)))] ∧ ls ≠ [] ∧ (∀ l ∈ ls, (10 : Nat) ∉ l.L) ∧ (TL.joinL [10] (ls.map Ln.L)).length ≤ 90000 ∧ ls.length ≤ 90000 ∧ Runs ⟨none, [], none⟩ ls ⟨t, done, none⟩ ∧ done ≠ [] ∧ done.length ≤ 4 ∧
  ∀ ra H', Ex H H' → (∃ pl xs, RdO K H' ra pl (trV t) xs ∧ Pw (PrAt K H') xs done) → Q (.ref ra) H'
def spPeriodOf (K : PySem.W.Frag) : Sp := fun vs H Q _ => ∃ (l : Addr) (xs : List V) (ps : List CM.Prg) (M : Int), vs = [.ref l] ∧ SqL K H l xs ∧ Pw (PrAt K H) xs ps ∧ (∀ p ∈ ps, Fine p) ∧ 0 < M ∧ M ≤ 50000 ∧ (∀ n ∈ CM.ns ps, n ∣ M) ∧ ∀ H', Ex H H' → Q (.int (CM.period ps)) H'
section
variable {P : Program} {w : World} {K : PySem.W.Frag} {mg : Str → Option Value} {base : Heap}
theorem r_Reader_takes (Z : Zed K mg base) : Rn P w K mg base 6 (a_Reader_takes K) (spTakes K) := by
  have R_Reader_is_whole := r_Reader_is_whole (P := P) (w := w) Z
  have R_Reader_takes_trim := r_Reader_takes_trim (P := P) (w := w) Z
  have R_Reader_takes_program := r_Reader_takes_program (P := P) (w := w) Z
  have R_Reader_takes_from := r_Reader_takes_from (P := P) (w := w) Z
  have R_Reader_takes_via := r_Reader_takes_via (P := P) (w := w) Z
  have R_Reader_takes_back := r_Reader_takes_back (P := P) (w := w) Z
  refine rn_of (u_Reader_takes Z) sco_Reader_takes (fun _ _ _ _ _ _ us hl => match us, hl with | [_, _], _ => rfl) (fun vs H Q E h => ?_) (fun cdv A outer s H vs Q E hr h => ?_)
  · obtain ⟨ra, ow, s, s', l, rfl, _⟩ := h
    rfl
  · refine ⟨_, (pss_cons (ps_if (pt_val (pe_prD (pv 0) (cl_Reader Z) (p_Reader_is_whole Z) R_Reader_is_whole hr))
        (pss_one (ps_ret (pe_or (pe_mdR (pv 0) (cl_Reader Z) (m_Reader_takes_trim Z) R_Reader_takes_trim hr (pa_cons (pv 1) pa_nil)) (pe_one (pe_mdR (pv 0) (cl_Reader Z) (m_Reader_takes_program Z) R_Reader_takes_program hr (pa_cons (pv 1) pa_nil))))))
        pss_nil)
      (pss_cons (ps_set (i := 2) sco_Reader_takes.nd rfl (Or.inl rfl) (pe_ix (ix_listK K) (pe_fld (pv 0) rfl) (pe_un un_neg pe_int) (fun _ _ => rfl)))
      (pss_one (ps_ret (pe_or (pe_mdR (pv 0) (cl_Reader Z) (m_Reader_takes_from Z) R_Reader_takes_from hr (pa_cons (pv 2) (pa_cons (pv 1) pa_nil))) (pe_or (pe_mdR (pv 0) (cl_Reader Z) (m_Reader_takes_via Z) R_Reader_takes_via hr (pa_cons (pv 2) (pa_cons (pv 1) pa_nil))) (pe_one (pe_mdR (pv 0) (cl_Reader Z) (m_Reader_takes_back Z) R_Reader_takes_back hr (pa_cons (pv 2) (pa_cons (pv 1) pa_nil)))))))))), ?_⟩
    obtain ⟨ra, ow, st, st', l, rfl, hR, hS, hd, k⟩ := h
    have hlen := ln_len hS
    have hob : ∃ dx tv pl, H ra = some (.ins (C_Reader K) dx [("own_trim", tv), ("own_programs", .ref pl)]) := by
      obtain ⟨t, done, cur⟩ := st
      cases cur with
      | none => obtain ⟨pl, xs, _, ⟨⟨dx, hi⟩, _⟩, _⟩ := hR; exact ⟨dx, _, pl, hi⟩
      | some c => obtain ⟨a, pl, xs, _, _, _, ⟨⟨dx, hi⟩, _⟩, _⟩ := hR; exact ⟨dx, _, pl, hi⟩
    obtain ⟨dx, tv, pl, hi⟩ := hob
    refine ⟨_, rfl, ra, dx, _, rfl, hi, ra, ow, st, rfl, hR, fun H1 e1 => ⟨_, rfl, ?_⟩⟩
    have hi1 := e1 _ _ hi
    cases hS with
    | trim hn =>
      refine ifT rfl ⟨_, rfl, ra, dx, _, rfl, hi1, rd_no (by decide +kernel) (by decide +kernel), _, rfl, .inl ⟨ra, ow, _, rfl, hn, RdW.mono hR e1, fun H2 h2 k2 => ⟨_, rfl, ifT rfl ?_⟩⟩⟩
      exact k _ ow h2 ((Keep.of e1).trans k2) fun b hb => .inl hb
    | prog hn hl hne =>
      refine ifT rfl ⟨_, rfl, ra, dx, _, rfl, hi1, rd_no (by decide +kernel) (by decide +kernel), _, rfl, .inr ⟨_, _, rfl, ⟨by omega, rfl⟩, _, rfl, ifF rfl ?_⟩⟩
      refine ⟨_, rfl, ra, dx, _, rfl, hi1, rd_no (by decide +kernel) (by decide +kernel), _, rfl, ra, ow, _, _, _, rfl, hn, hl, hne, RdW.mono hR e1, fun H2 ow' h2 k2 f2 => ?_⟩
      exact k _ ow' h2 ((Keep.of e1).trans k2) fun b hb => (f2 b hb).imp id fun z => Evl.fresh_back e1 z
    | frm hsm =>
      obtain ⟨a, hC⟩ := hR
      have hC1 := hC.mono e1
      obtain ⟨pl', xs, dx2, l2, rfl, ⟨⟨d0, hi0⟩, hl⟩, _⟩ := id hC1
      have hi0' := hi0
      rw [hi1] at hi0'
      cases hi0'
      refine ifF rfl ⟨_, rfl, ra, _, _, _, .ref pl, rfl, hi0, cl_Reader Z, na_Reader_own_programs Z, rd_l2, _, rfl, pl, _, -1, .ref a, rfl, rfl, SqL.of hl, atI_last _ _, ?_⟩
      refine ⟨_, rfl, ra, _, _, rfl, hi0, rd_no (by decide +kernel) (by decide +kernel), _, rfl, _, rfl, .inl ⟨ra, _, _, _, a, _, _, _, rfl, hsm, hC1, fun H2 h2 k2 => ⟨_, rfl, ifT rfl ?_⟩⟩⟩
      exact k _ _ ⟨a, h2⟩ ((Keep.of e1).trans k2) fun b hb => .inl hb
    | via hsm h1 h3 =>
      obtain ⟨a, hC⟩ := hR
      have hC1 := hC.mono e1
      obtain ⟨pl', xs, dx2, l2, rfl, ⟨⟨d0, hi0⟩, hl⟩, _⟩ := id hC1
      have hi0' := hi0
      rw [hi1] at hi0'
      cases hi0'
      refine ifF rfl ⟨_, rfl, ra, _, _, _, .ref pl, rfl, hi0, cl_Reader Z, na_Reader_own_programs Z, rd_l2, _, rfl, pl, _, -1, .ref a, rfl, rfl, SqL.of hl, atI_last _ _, ?_⟩
      refine ⟨_, rfl, ra, _, _, rfl, hi0, rd_no (by decide +kernel) (by decide +kernel), _, rfl, _, rfl, .inr ⟨_, _, _, rfl, ⟨by omega, rfl⟩, _, rfl, ifF rfl ?_⟩⟩
      refine ⟨_, rfl, ra, _, _, rfl, hi0, rd_no (by decide +kernel) (by decide +kernel), _, rfl, _, rfl, .inl ⟨ra, _, _, _, a, _, _, rfl, hsm, h1, h3, hC1, fun H2 h2 k2 => ⟨_, rfl, ifT rfl ?_⟩⟩⟩
      exact k _ _ ⟨a, h2⟩ ((Keep.of e1).trans k2) fun b hb => .inl hb
    | back hv =>
      obtain ⟨a, hC⟩ := hR
      have hC1 := hC.mono e1
      obtain ⟨pl', xs, dx2, l2, rfl, ⟨⟨d0, hi0⟩, hl⟩, _⟩ := id hC1
      have hi0' := hi0
      rw [hi1] at hi0'
      cases hi0'
      refine ifF rfl ⟨_, rfl, ra, _, _, _, .ref pl, rfl, hi0, cl_Reader Z, na_Reader_own_programs Z, rd_l2, _, rfl, pl, _, -1, .ref a, rfl, rfl, SqL.of hl, atI_last _ _, ?_⟩
      refine ⟨_, rfl, ra, _, _, rfl, hi0, rd_no (by decide +kernel) (by decide +kernel), _, rfl, _, rfl, .inr ⟨_, _, _, rfl, ⟨by omega, rfl⟩, _, rfl, ifF rfl ?_⟩⟩
      refine ⟨_, rfl, ra, _, _, rfl, hi0, rd_no (by decide +kernel) (by decide +kernel), _, rfl, _, rfl, .inr ⟨_, _, _, rfl, ⟨by omega, rfl⟩, _, rfl, ifF rfl ?_⟩⟩
      refine ⟨_, rfl, ra, _, _, rfl, hi0, rd_no (by decide +kernel) (by decide +kernel), _, rfl, _, rfl, ra, _, _, _, a, _, _, rfl, hv, hC1, fun H2 ow' h2 k2 f2 => ?_⟩
      exact k _ ow' h2 ((Keep.of e1).trans k2) fun b hb => (f2 b hb).imp id fun z => Evl.fresh_back e1 z
theorem r_read_lines (Z : Zed K mg base) : Rn P w K mg base 7 (a_read_lines K) (spReadLines K) := by
  have R_Reader_init := r_Reader_init (P := P) (w := w) Z
  have R_Reader_is_whole := r_Reader_is_whole (P := P) (w := w) Z
  have R_Reader_takes := r_Reader_takes (P := P) (w := w) Z
  refine rn_of (u_read_lines Z) sco_read_lines (fun _ _ _ _ _ _ us hl => match us, hl with | [_], _ => rfl) (fun vs H Q E h => ?_) (fun cdv A outer s H vs Q E hr h => ?_)
  · obtain ⟨ls, t, done, rfl, _⟩ := h
    rfl
  · refine ⟨_, (pss_cons (ps_if (pt_not (pt_val (pe_callB (call_isiK_ K) (by rfl) (f_isinstance Z) (by decide +kernel) (pa_cons (pv 0) (pa_cons (pe_bltn (v := .ty "str") (by rfl) (f_str Z) boot_str rfl) pa_nil)))))
        (pss_one ps_never)
        pss_nil)
      (pss_cons (ps_par (i := 1) (j := 2) rfl sco_read_lines.nd rfl rfl (by decide) rfl rfl (pa_cons (pe_new0 (mk_Reader Z) R_Reader_init (g_Reader Z) hr (by rfl)) (pa_cons (pe_split (pv 0) (C8.pe_gc (by rfl) (k_FEED Z))) pa_nil)) (by rfl))
      (pss_cons (ps_for PassesOwn.never rfl (pi_enum (by rfl) (f_enumerate Z) (pa_cons (pv 2) pa_nil)) (pg_tupK K (n := 2) rfl (pgs_cons (pg_name (i := 3) sco_read_lines.nd rfl (Or.inl rfl)) (pgs_cons (pg_name (i := 4) sco_read_lines.nd rfl (Or.inl rfl)) pgs_nil)))
        (pss_one (ps_if (pt_not (pt_val (pe_mdR (pv 1) (cl_Reader Z) (m_Reader_takes Z) R_Reader_takes hr (pa_cons (pv 4) pa_nil))))
          (pss_one ps_never)
          pss_nil)))
      (pss_cons (ps_if (PW.pt (pw_or (pt_cmpR (op_eqNilK K hr.units0) (pe_fld (pv 1) rfl) (pe_lst pa_nil) (nomark _)) (pw_or1 (pt_not (pt_val (pe_prD (pv 1) (cl_Reader Z) (p_Reader_is_whole Z) R_Reader_is_whole hr))))))
        (pss_one ps_never)
        pss_nil)
      (pss_one (ps_ret (pv 1))))))), ?_⟩
    obtain ⟨ls, t, done, rfl, hne, h10, hlen, hll, hruns, hdn, hd4, k⟩ := h
    refine ⟨_, rfl, _, .ty "str", _, _, true, rfl, .ty _, .base (.str _), kit_ty (by decide +kernel), _, rfl, ifF rfl ?_⟩
    intro ra dx hra hdx hne2
    refine ⟨ra, dx, rfl, upd_same, fun pl H1 hpl k1 hO => ⟨rfl, ?_⟩⟩
    have em := ex_made (C := C_Reader K) hra hdx
    have hpl0 := Evl.fresh_back em hpl
    have e1 : Ex H H1 := k1.ex em (by simpa using hra)
    refine ⟨_, rfl, ⟨_, rfl⟩, _, _, rfl, rfl, by decide, Evl.sz_of (by rw [SX.S_len]; omega), fun l hl => ?_⟩
    have hsplit : Txt.split (SX.S (TL.joinL [10] (ls.map Ln.L))) (Str.ofString "\n") = (ls.map Ln.L).map SX.S := by
      rw [show Str.ofString "\n" = SX.S [10] by decide +kernel, SX.split_S (by decide) (by decide), SX.spl_join (by simpa using hne) (by
        intro p hp
        obtain ⟨l, hl, rfl⟩ := List.mem_map.mp hp
        exact h10 l hl)]
    rw [hsplit]
    refine ⟨_, _, rfl, ?_⟩
    have e2 := Evl.Ex.new (o := .lst (((ls.map Ln.L).map SX.S).map V.str)) hl
    have hlen2 : (((ls.map Ln.L).map SX.S).map V.str).length = ls.length := by simp
    generalize hHl : upd H1 l (.lst (((ls.map Ln.L).map SX.S).map V.str)) = H2 at *
    have hl2 : H2 l = some (.lst (((ls.map Ln.L).map SX.S).map V.str)) := by rw [← hHl, upd_same]
    have hl0 : H l = none := Evl.fresh_back e1 hl
    have hrl : l ≠ ra ∧ l ≠ pl := ⟨fun z => (by obtain ⟨⟨_, h1⟩, _⟩ := hO; rw [z, h1] at hl; cases hl), fun z => (by have h1 := hO.pl; rw [z, h1] at hl; cases hl)⟩
    refine ⟨_, rfl, l, _, rfl, SqL.of hl2, for_it (walk_enum (xs := ((ls.map Ln.L).map SX.S).map V.str)) (fun i σ H' => ∃ (st : RS) (ow : List Addr) (o1 o2 : Option V), σ = [some (.str (SX.S (TL.joinL [10] (ls.map Ln.L)))), some (.ref ra), some (.ref l), o1, o2] ∧ RdAt K H' ra ow st ∧ Runs st (ls.drop i) ⟨t, done, none⟩ ∧ Ex H H' ∧ (∀ b ∈ ow, H b = none ∧ b ≠ l) ∧ H' l = some (.lst (((ls.map Ln.L).map SX.S).map V.str))) ?_ (fun i σ H' _ hv => ?_) (fun i x σ H3 H4 hi hv hy => ?_) (fun σ H' hv => ?_)⟩
    · refine ⟨⟨none, [], none⟩, [ra, pl], none, none, rfl, ⟨pl, [], rfl, hO.ex2 e2, Pw.nil⟩, hruns, e1.trans e2, fun b hb => ?_, hl2⟩
      have e' : b = ra ∨ b = pl := by simpa using hb
      rcases e' with rfl | rfl
      · exact ⟨hra, Ne.symm hrl.1⟩
      · exact ⟨hpl0, Ne.symm hrl.2⟩
    · obtain ⟨_, _, _, _, _, _, _, _, _, h⟩ := hv
      exact SqL.of h
    · obtain ⟨st, ow, o1, o2, rfl, hR, hrun, e3, how, hl3⟩ := hv
      obtain ⟨T, x1, y1, rfl, hT, rfl, hx1, hy1⟩ := hy
      have hi' : i < ls.length := by rw [← hlen2]; exact hi
      have hx1 : x1 = .int (i : Nat) := by
        injection hx1 with hx1
        exact hx1.symm
      subst hx1
      have hyv : y1 = .str (SX.S (ls[i]'hi').L) := by
        have hy1 : (((ls.map Ln.L).map SX.S).map V.str)[i]? = some y1 := hy1
        simp only [List.map_map, List.getElem?_map, List.getElem?_eq_getElem hi', Option.map_some] at hy1
        injection hy1 with hy1
        exact hy1.symm
      subst hyv
      refine ⟨T, _, rfl, SqT.of upd_same, rfl, _, _, rfl, _, _, rfl, rfl, ?_⟩
      rw [List.drop_eq_getElem_cons hi'] at hrun
      cases hrun with
      | cons hS hd hrun' =>
        have e4 := Evl.Ex.new (o := .tup [.int (i : Nat), .str (SX.S (ls[i]'hi').L)]) hT
        have hR4 : RdAt K (upd H3 T (.tup [.int (i : Nat), .str (SX.S (ls[i]'hi').L)])) ra ow st := by
          obtain ⟨t0, d0, cur⟩ := st
          cases cur with
          | none => exact RdW.mono hR e4
          | some c => obtain ⟨a, h⟩ := hR; exact ⟨a, h.mono e4⟩
        have hob : ∃ dx tv pl, H3 ra = some (.ins (C_Reader K) dx [("own_trim", tv), ("own_programs", .ref pl)]) := by
          obtain ⟨t, done, cur⟩ := st
          cases cur with
          | none => obtain ⟨pl, xs, _, ⟨⟨dx, hi⟩, _⟩, _⟩ := hR; exact ⟨dx, _, pl, hi⟩
          | some c => obtain ⟨a, pl, xs, _, _, _, ⟨⟨dx, hi⟩, _⟩, _⟩ := hR; exact ⟨dx, _, pl, hi⟩
        obtain ⟨dx3, tv3, pl3, hi3⟩ := hob
        refine ⟨_, rfl, ra, dx3, _, rfl, e4 _ _ hi3, rd_no (by decide +kernel) (by decide +kernel), _, rfl, ra, ow, st, _, _, rfl, hR4, hS, hd, fun H5 ow' hR5 k5 f5 => ?_⟩
        refine ⟨_, rfl, ifF rfl ?_⟩
        have howT : ∀ b ∈ ow', H b = none ∧ b ≠ l := fun b hb => by
          rcases f5 b hb with h | h
          · exact how b h
          · exact ⟨Evl.fresh_back (e3.trans e4) h, fun z => (by rw [z, e4 _ _ hl3] at h; cases h)⟩
        exact ⟨_, ow', _, _, rfl, hR5, hrun', k5.ex (e3.trans e4) fun a ha => (how a ha).1, howT, k5 l _ (fun z => (how l z).2 rfl) (e4 _ _ hl3)⟩
    · obtain ⟨st, ow, o1, o2, rfl, hR, hrun, e3, how, hl3⟩ := hv
      rw [hlen2, List.drop_length] at hrun
      cases hrun
      obtain ⟨pl4, xs, rfl, ⟨⟨dx4, hi4⟩, hl4⟩, hp⟩ := id hR
      have hxn : xs.isEmpty = false := by
        cases xs with
        | nil => exact absurd (List.eq_nil_of_length_eq_zero hp.1.symm) hdn
        | cons _ _ => rfl
      refine ⟨_, rfl, ra, _, dx4, _, .ref pl4, rfl, hi4, cl_Reader Z, na_Reader_own_programs Z, rd_l2, by decide, fun e he => ?_⟩
      have e5 := Evl.Ex.new (o := .lst []) he
      refine ⟨pl4, e, xs, rfl, rfl, SqL.of (e5 _ _ hl4), SqL.of upd_same, _, rfl, ifF hxn ?_⟩
      refine ⟨_, rfl, ra, dx4, _, rfl, e5 _ _ hi4, ra, [ra, pl4], ⟨t, done, none⟩, rfl, RdW.mono hR e5, fun H6 e6 => ⟨_, rfl, ifF rfl ⟨_, rfl, ?_⟩⟩⟩
      exact k ra _ ((e3.trans e5).trans e6) ⟨pl4, xs, ⟨⟨dx4, (e5.trans e6) _ _ hi4⟩, (e5.trans e6) _ _ hl4⟩, hp.mono fun _ _ z => z.mono ((off_ex.trans e5).trans e6)⟩
theorem r_period_of (Z : Zed K mg base) : Rn P w K mg base 3 (a_period_of K) (spPeriodOf K) := by
  have R_common := r_common (P := P) (w := w) Z
  have R_Program_steps := r_Program_steps (P := P) (w := w) Z
  refine rn_of (u_period_of Z) sco_period_of (fun _ _ _ _ _ _ us hl => match us, hl with | [_], _ => rfl) (fun vs H Q E h => ?_) (fun cdv A outer s H vs Q E hr h => ?_)
  · obtain ⟨l, xs, ps, M, rfl, _⟩ := h
    rfl
  · refine ⟨_, (pss_cons (ps_set (i := 1) sco_period_of.nd rfl (Or.inl rfl) pe_int)
      (pss_cons (ps_for PassesOwn.never rfl (pi_listK K (pv 0)) (pg_name (i := 2) sco_period_of.nd rfl (Or.inl rfl))
        (pss_one (ps_for PassesOwn.never rfl (pi_listK K (pe_pr (pv 2) (sc_Program Z) (p_Program_steps Z) R_Program_steps hr)) (pg_tupK K (n := 2) rfl (pgs_cons (pg_name (i := 3) sco_period_of.nd rfl (Or.inl rfl)) (pgs_cons (pg_name (i := 4) sco_period_of.nd rfl (Or.inl rfl)) pgs_nil)))
          (pss_one (ps_set (i := 1) sco_period_of.nd rfl (Or.inl rfl) (pe_op op_fdiv (pe_op op_mul (pv 1) (pv 3)) (pe_r R_common (g_common Z) hr (by rfl) (pa_cons (pv 1) (pa_cons (pv 3) pa_nil)))))))))
      (pss_one (ps_ret (pv 1))))), ?_⟩
    obtain ⟨l, xs, ps, M, rfl, hL, hp, hf, hM0, hM1, hdv, k⟩ := h
    have okk : ∀ p ∈ ps, p.Ok := fun p h => (hf p h).ok
    have hns := CM.ns_pos okk
    refine ⟨_, rfl, l, rfl, ⟨_, hL⟩, for_it (walk_list (xs := xs)) (fun i σ H' => ∃ (o1 o2 o3 : Option V), σ = [some (.ref l), some (.int (CM.perGo 1 (CM.ns (ps.take i)))), o1, o2, o3] ∧ Ex H H') ⟨_, _, _, rfl, Evl.Ex.refl _⟩ (fun i σ H' _ hv => ?_) (fun i x σ H1 H2 hi hv hy => ?_) (fun σ H' hv => ?_)⟩
    · obtain ⟨_, _, _, _, e⟩ := hv
      exact Evl.ex_l e hL
    · obtain ⟨o1, o2, o3, rfl, e1⟩ := hv
      obtain ⟨rfl, hx⟩ := hy
      obtain ⟨p, hpp, hp2⟩ := hp.at hx
      have hpm := List.mem_of_getElem? hpp
      have hp3 := hp2.mono e1
      obtain ⟨a, dx, l2, bk, bv, vs, rfl, h2, _⟩ := hp3.ex
      refine ⟨_, rfl, a, dx, _, rfl, h2, _, p, rfl, hp3, hf p hpm, fun ls zs H3 hls e3 hls2 hz => ?_⟩
      have hip : i < ps.length := (List.getElem?_eq_some_iff.mp hpp).1
      have hpi : ps[i] = p := (List.getElem?_eq_some_iff.mp hpp).2
      have htake : CM.ns (ps.take (i + 1)) = CM.ns (ps.take i) ++ p.vias.map (·.n) := by
        rw [List.take_succ, hpp]
        unfold CM.ns
        rw [List.flatMap_append]
        simp
      have hsub : ∀ j, ∀ n ∈ CM.ns (ps.take i) ++ (p.vias.map (·.n)).take j, n ∈ CM.ns ps := fun j n hn => by
        have h1 : n ∈ CM.ns (ps.take (i + 1)) := by
          rw [htake]
          rcases List.mem_append.mp hn with h | h
          · exact List.mem_append_left _ h
          · exact List.mem_append_right _ (List.mem_of_mem_take h)
        obtain ⟨p', hp', hn'⟩ := List.mem_flatMap.mp h1
        exact List.mem_flatMap.mpr ⟨p', List.mem_of_mem_take hp', hn'⟩
      refine ⟨ls, rfl, ⟨_, SqL.of hls2⟩, for_it (walk_list (xs := zs)) (fun j σ H' => ∃ (o2 o3 : Option V), σ = [some (.ref l), some (.int (CM.perGo 1 (CM.ns (ps.take i) ++ (p.vias.map (·.n)).take j))), some (.ref a), o2, o3] ∧ Ex H3 H') ⟨_, _, by rw [List.take_zero, List.append_nil]; rfl, Evl.Ex.refl _⟩ (fun j σ H' _ hv => ?_) (fun j y σ H4 H5 hj hv hy => ?_) (fun σ H' hv => ?_)⟩
      · obtain ⟨_, _, _, e⟩ := hv
        exact Evl.ex_l e (SqL.of hls2)
      · obtain ⟨o2, o3, rfl, e4⟩ := hv
        obtain ⟨rfl, hy⟩ := hy
        obtain ⟨v, hv, hr⟩ := hz.at hy
        obtain ⟨q, rfl, hq⟩ := (hr.mono e4).ex
        have hvm := List.mem_of_getElem? hv
        refine ⟨q, _, rfl, SqT.of hq, rfl, _, _, rfl, _, _, rfl, rfl, ?_⟩
        have hm0 : 0 < CM.perGo 1 (CM.ns (ps.take i) ++ (p.vias.map (·.n)).take j) := CM.perGo_pos _ (by omega) fun n hn => hns n (hsub j n hn)
        have hmM : CM.perGo 1 (CM.ns (ps.take i) ++ (p.vias.map (·.n)).take j) ≤ M := Int.le_of_dvd hM0 (CM.perGo_of _ (by omega) hM0 (fun n hn => hns n (hsub j n hn)) (Int.one_dvd M) fun n hn => hdv n (hsub j n hn))
        have hv0 := ((okk p hpm).vias v hvm).n
        have hv1 := ((hf p hpm).vn v hvm).1
        have htk : (p.vias.map (·.n)).take (j + 1) = (p.vias.map (·.n)).take j ++ [v.n] := by
          rw [List.take_succ, List.getElem?_map, hv]
          rfl
        have hstep : CM.perGo 1 (CM.ns (ps.take i) ++ (p.vias.map (·.n)).take (j + 1)) = CM.perStep (CM.perGo 1 (CM.ns (ps.take i) ++ (p.vias.map (·.n)).take j)) v.n := by
          rw [htk, ← List.append_assoc]
          unfold CM.perGo
          rw [List.foldl_append]
          rfl
        have hg0 : 0 < ((Int.gcd (CM.perGo 1 (CM.ns (ps.take i) ++ (p.vias.map (·.n)).take j)) v.n : Nat) : Int) := by
          have := Int.gcd_pos_of_ne_zero_left v.n (show CM.perGo 1 (CM.ns (ps.take i) ++ (p.vias.map (·.n)).take j) ≠ 0 by omega)
          omega
        generalize CM.perGo 1 (CM.ns (ps.take i) ++ (p.vias.map (·.n)).take j) = m at *
        refine ⟨_, rfl, _, rfl, _, _, rfl, rfl, .inr (by omega), _, rfl, _, rfl, m, v.n, rfl, _, _, rfl, rfl, ⟨hg0, ?_⟩, ?_⟩
        · have hg1 : ((Int.gcd m v.n : Nat) : Int) ≤ v.n := Int.le_of_dvd hv0 (by first | exact Int.gcd_dvd_right | exact Int.gcd_dvd_right _ _)
          omega
        · exact ⟨_, _, by rw [hstep]; rfl, e4⟩
      · obtain ⟨o2, o3, rfl, e4⟩ := hv
        refine ⟨some (.ref a), o2, o3, ?_, (e1.trans e3).trans e4⟩
        rw [htake, show zs.length = (p.vias.map (·.n)).length by rw [hz.1, List.length_map], List.take_length]
    · obtain ⟨o1, o2, o3, rfl, e1⟩ := hv
      rw [hp.1, List.take_length]
      exact ⟨_, rfl, k _ e1⟩
end
end CZ
set_option Elab.async false
set_option linter.all false
set_option maxRecDepth 100000
set_option maxHeartbeats 2000000
namespace CZ
open PySem PySem.Spec PyProof.Rows L2
/-! ### levels -/
structure LvI (K : PySem.W.Frag) where
  C : Addr
  At : Hp → V → Prop
  row : Nat → List Int
  last : Nat → Bool
def spLRow (K : PySem.W.Frag) (LV : LvI K) : Sp := fun vs H Q _ => ∃ (v : V) (m : Nat), vs = [v, .int m] ∧ LV.At H v ∧ m ≤ 90000 ∧ ∀ l H', Ex H H' → SqL K H' l ((LV.row m).map V.int) → Q (.ref l) H'
def spLLast (K : PySem.W.Frag) (LV : LvI K) : Sp := fun vs H Q _ => ∃ (v : V) (m : Nat), vs = [v, .int m] ∧ LV.At H v ∧ m ≤ 90000 ∧ Q (.bl (LV.last m)) H
structure LvOk (P : Program) (w : World) (K : PySem.W.Frag) (mg : Str → Option Value) (base : Heap) (kL : Nat) (LV : LvI K) : Prop where
  sc : SlX.SCls K LV.C
  mono : ∀ {H H' v}, LV.At H v → Ex H H' → LV.At H' v
  slt : ∀ {H v}, LV.At H v → ∃ a dx vs, v = .ref a ∧ SlX.Slt H a LV.C dx vs
  row : ∃ f, Meth K LV.C "row" f ∧ Rn P w K mg base kL f (spLRow K LV)
  last : ∃ f, Meth K LV.C "is_last" f ∧ Rn P w K mg base kL f (spLLast K LV)
def WN (W : Nat → L2.St → Hp → Prop) (n : Nat) (D : Ends) (tb : TS) (σ : L2.St) (H : Hp) : Prop := ∃ N : L2.St → Hp → Prop, (∀ σ' H', N σ' H' → ∃ m', m' < n ∧ W m' σ' H') ∧ tb { D with nx := N, ct := N, bk := D.nx } σ H
theorem WN.go {W : Nat → L2.St → Hp → Prop} {n : Nat} {D : Ends} {tb : TS} {σ : L2.St} {H : Hp} (h : tb { D with nx := fun σ' H' => ∃ m', m' < n ∧ W m' σ' H', ct := fun σ' H' => ∃ m', m' < n ∧ W m' σ' H', bk := D.nx } σ H) : WN W n D tb σ H := ⟨_, fun _ _ z => z, h⟩
theorem while_m {c : TT} {tb : TS} {D : Ends} {σ : L2.St} {H : Hp} (W : Nat → L2.St → Hp → Prop) (n : Nat) (h0 : W n σ H) (hs : ∀ n σ H, W n σ H → c σ H fun b H1 => if b = true then WN W n D tb σ H1 else D.nx σ H1) : tWhile c tb D σ H := ⟨W, ⟨n, h0⟩, hs⟩
/-! ### stairs that are built -/
structure StD where
  T : Nat
  steps : List CM.Stp
  rw : Nat → List Int
structure RowAt (K : PySem.W.Frag) (G : Hp) (S : StD) (v : V) (k : Nat) : Prop where
  ex : ∃ r, v = .ref r ∧ SqL K G r ((S.rw k).map V.int)
structure StepAt (K : PySem.W.Frag) (T : Nat) (G : Hp) (v : V) (s : CM.Stp) : Prop where
  ex : ∃ p x1 x2, v = .ref p ∧ G p = some (.tup [x1, x2]) ∧ MapAt K G x1 T s.a ∧ MapAt K G x2 T s.b
  lb : s.lb = CM.lb s.b
theorem RowAt.mono {K : PySem.W.Frag} {G G' : Hp} {S : StD} {v : V} {k : Nat} (h : RowAt K G S v k) (e : Ex G G') : RowAt K G' S v k := let ⟨⟨r, h1, h2⟩⟩ := h; ⟨⟨r, h1, Evl.ex_l e h2⟩⟩
theorem StepAt.mono {K : PySem.W.Frag} {T : Nat} {G G' : Hp} {v : V} {s : CM.Stp} (h : StepAt K T G v s) (e : Ex G G') : StepAt K T G' v s := let ⟨⟨p, x1, x2, h1, h2, h3, h4⟩, h5⟩ := h; ⟨⟨p, x1, x2, h1, e _ _ h2, h3.mono e, h4.mono e⟩, h5⟩
structure SA (K : PySem.W.Frag) (H : Hp) (sa dx rl : Addr) (lv : V) (S : StD) (m : Nat) (b : Bool) : Prop where
  pd : Pd S.T
  ne : dx ≠ sa ∧ rl ≠ sa ∧ rl ≠ dx
  ex : ∃ stl xs ss, SlX.Slt H sa (C_Stairs K) dx [some (.bl b), some lv, some (.int S.T), some (.ref rl), some (.ref stl)] ∧ H rl = some (.lst xs) ∧ Pw (RowAt K (off [sa, dx, rl] H) S) xs (List.range m) ∧ SqL K (off [sa, dx, rl] H) stl ss ∧ Pw (StepAt K S.T (off [sa, dx, rl] H)) ss S.steps
  m1 : 1 ≤ m
  len : ∀ k, (S.rw k).length = S.T
theorem SA.mono {K : PySem.W.Frag} {H H' : Hp} {sa dx rl : Addr} {lv : V} {S : StD} {m : Nat} {b : Bool} (h : SA K H sa dx rl lv S m b) (e : Ex H H') : SA K H' sa dx rl lv S m b := by
  obtain ⟨h1, h2, ⟨stl, xs, ss, h3, h4, h5, h6, h7⟩, h8, h9⟩ := h
  have eo := (Keep.of (l := [sa, dx, rl]) e).off
  exact ⟨h1, h2, ⟨stl, xs, ss, slt_ex e h3, e _ _ h4, h5.mono fun _ _ z => z.mono eo, Evl.ex_l eo h6, h7.mono fun _ _ z => z.mono eo⟩, h8, h9⟩
def spRaised (K : PySem.W.Frag) : Sp := fun vs H Q _ => ∃ (sa dx rl : Addr) (lv : V) (S : StD) (m : Nat) (b : Bool) (t : Nat), vs = [.ref sa, .int t] ∧ SA K H sa dx rl lv S m b ∧ t < S.T ∧ Q (.int (CM.up S.steps (CM.ext (S.rw (m - 1)) S.T) t)) H
theorem atI_nat {xs : List V} {i : Nat} {v : V} (h : xs[i]? = some v) : atI xs (i : Int) = some v := at_of rfl h
theorem getD_lem {l : List Int} {i : Nat} (h : i < l.length) : l[i]? = some (l.getD i 0) := by
  rw [List.getD_eq_getElem?_getD, List.getElem?_eq_getElem h]
  rfl
theorem map_at {ns : List Int} {i : Nat} {n : Int} (h : ns[i]? = some n) : (ns.map V.int)[i]? = some (V.int n) := by rw [List.getElem?_map, h]; rfl
section
variable {P : Program} {w : World} {K : PySem.W.Frag} {mg : Str → Option Value} {base : Heap}
theorem r_Stairs_raised (Z : Zed K mg base) : Rn P w K mg base 3 (a_Stairs_raised K) (spRaised K) := by
  have R_placed := r_placed (P := P) (w := w) Z
  have R_Map_at := r_Map_at (P := P) (w := w) Z
  have R_Map_least := r_Map_least (P := P) (w := w) Z
  refine rn_of (u_Stairs_raised Z) sco_Stairs_raised (fun _ _ _ _ _ _ us hl => match us, hl with | [_, _], _ => rfl) (fun vs H Q E h => ?_) (fun cdv A outer s H vs Q E hr h => ?_)
  · obtain ⟨sa, dx, rl, lv, S, m, b, t, rfl, _⟩ := h
    rfl
  · refine ⟨_, (pss_cons (ps_set (i := 2) sco_Stairs_raised.nd rfl (Or.inl rfl) (pe_ix (ix_listK K) (pe_slK K (pv 0)) (pe_un un_neg pe_int) (fun _ _ => rfl)))
      (pss_cons (ps_set (i := 3) sco_Stairs_raised.nd rfl (Or.inl rfl) (pe_ix (ix_listK K) (pv 2) (pv 1) (fun _ _ => rfl)))
      (pss_cons (ps_for PassesOwn.never rfl (pi_listK K (pe_slK K (pv 0))) (pg_tupK K (n := 2) rfl (pgs_cons (pg_name (i := 4) sco_Stairs_raised.nd rfl (Or.inl rfl)) (pgs_cons (pg_name (i := 5) sco_Stairs_raised.nd rfl (Or.inl rfl)) pgs_nil)))
        (pss_one (ps_set (i := 3) sco_Stairs_raised.nd rfl (Or.inl rfl) (pe_callB (call_max2 rfl) (by rfl) (f_max Z) (by decide +kernel) (pa_cons (pe_callTy call_int1 (by rfl) (f_int Z) (by decide +kernel) (pa_cons (pv 3) pa_nil)) (pa_cons (pe_ms (pv 5) (sc_Map Z) (m_Map_least Z) R_Map_least hr (pa_cons (pe_r R_placed (g_placed Z) hr (by rfl) (pa_cons (pv 2) (pa_cons (pe_slK K (pv 0)) (pa_cons (pe_ms (pv 4) (sc_Map Z) (m_Map_at Z) R_Map_at hr (pa_cons (pv 1) pa_nil)) pa_nil)))) pa_nil)) pa_nil))))))
      (pss_one (ps_ret (pv 3)))))), ?_⟩
    obtain ⟨sa, dx, rl, lv, S, m, b, t, rfl, ⟨hP, hne, ⟨stl, xs, ss, hs, hl, hrow, hst, hss⟩, m1, hlen⟩, ht, k⟩ := h
    have hm1 : xs.length = m := by rw [hrow.1, List.length_range]
    have hlast : xs[xs.length - 1]? = some (xs[xs.length - 1]'(by omega)) := List.getElem?_eq_getElem _
    obtain ⟨k0, hk0, ⟨⟨r, hr1, hr2⟩⟩⟩ := hrow.at hlast
    have ek0 : k0 = m - 1 := by
      rw [List.getElem?_range (by omega)] at hk0
      cases hk0
      omega
    subst ek0
    refine ⟨_, rfl, sa, _, dx, _, _, _, _, rfl, hs, sc_Stairs Z, sl_Stairs_own_rows Z, rfl, _, rfl, rl, xs, -1, .ref r, rfl, rfl, SqL.of hl, by rw [← hr1]; exact atI_neg1 (by omega) _, ?_⟩
    have hr3 := Evl.ex_l off_ex hr2
    have htl : (S.rw (m - 1))[t]? = some ((S.rw (m - 1))[t]'(by rw [hlen]; exact ht)) := List.getElem?_eq_getElem _
    have hext : CM.ext (S.rw (m - 1)) S.T t = (S.rw (m - 1))[t]'(by rw [hlen]; exact ht) := by
      rw [CM.ext_at _ (by omega) (by omega), List.getD_eq_getElem?_getD]
      simp [hlen, ht]
    refine ⟨_, rfl, _, rfl, r, _, t, _, rfl, rfl, hr3, atI_nat (map_at htl), ?_⟩
    rw [← hext]
    refine ⟨_, rfl, sa, _, dx, _, _, _, _, rfl, hs, sc_Stairs Z, sl_Stairs_own_steps Z, rfl, stl, rfl, ⟨_, Evl.ex_l off_ex hst⟩, for_it (walk_list (xs := ss)) (fun i σ H' => H' = H ∧ ∃ (o1 o2 : Option V), σ = [some (.ref sa), some (.int t), some (.ref r), some (.int (CM.up (S.steps.take i) (CM.ext (S.rw (m - 1)) S.T) t)), o1, o2]) ⟨rfl, _, _, rfl⟩ (fun i σ H' _ hv => ?_) (fun i x σ H1 H2 hi hv hy => ?_) (fun σ H' hv => ?_)⟩
    · obtain ⟨rfl, _⟩ := hv
      exact Evl.ex_l off_ex hst
    · obtain ⟨rfl, o1, o2, rfl⟩ := hv
      obtain ⟨rfl, hx⟩ := hy
      obtain ⟨s, hsp, ⟨⟨p, x1, x2, rfl, hp1, hp2, hp3⟩, hlb⟩⟩ := hss.at hx
      have hp2' := hp2.mono off_ex
      have hp3' := hp3.mono off_ex
      obtain ⟨a1, dx1, _, _, rfl, hs1, _⟩ := hp2'.ex
      obtain ⟨a2, dx2, _, _, rfl, hs2, _⟩ := hp3'.ex
      refine ⟨p, _, rfl, SqT.of (off_ex _ _ hp1), rfl, _, _, rfl, _, _, rfl, rfl, ?_⟩
      refine ⟨_, rfl, .inl ⟨_, rfl, _, rfl, a2, dx2, _, rfl, hs2, _, rfl, _, rfl, sa, _, dx, _, _, _, _, rfl, hs, sc_Stairs Z, sl_Stairs_own_period Z, rfl, _, rfl, a1, dx1, _, rfl, hs1, _, rfl, _, S.T, s.a, t, rfl, hp2', ?_⟩⟩
      refine ⟨r, _, S.T, s.a t, rfl, hr3, by rw [hlen], hP, ?_⟩
      refine ⟨_, S.T, s.b, _, rfl, hp3', _, _, rfl, ?_⟩
      have htk : S.steps.take (i + 1) = S.steps.take i ++ [s] := by rw [List.take_succ, hsp]; rfl
      have hup : CM.up (S.steps.take (i + 1)) (CM.ext (S.rw (m - 1)) S.T) t = max (CM.up (S.steps.take i) (CM.ext (S.rw (m - 1)) S.T) t) (CM.lb s.b (CM.ext (S.rw (m - 1)) S.T (s.a t))) := by
        rw [htk]
        unfold CM.up
        rw [List.foldl_append, ← hlb]
        rfl
      refine ⟨rfl, some (.ref a1), some (.ref a2), ?_⟩
      rw [hup]
      have emax : ∀ a b : Int, (if b > a then b else a) = max a b := fun a b => by
        by_cases h : b > a
        · rw [if_pos h]; omega
        · rw [if_neg h]; omega
      rw [emax]
      rfl
    · obtain ⟨rfl, o1, o2, rfl⟩ := hv
      rw [hss.1, List.take_length]
      exact ⟨_, rfl, k⟩
end
theorem gtup2_mono {K : PySem.W.Frag} {i j : Nat} {x : V} {σ : L2.St} {H : Hp} {Q Q' : L2.St → Hp → Prop} (h : ∀ σ2 H2, Q σ2 H2 → Q' σ2 H2) (g : gTup K 2 (gCons (gName i) (gCons (gName j) gNil)) x σ H Q) : gTup K 2 (gCons (gName i) (gCons (gName j) gNil)) x σ H Q' := by
  obtain ⟨p, xs, rfl, hT, hl, x1, r1, rfl, x2, r2, rfl, h3, hq⟩ := g
  exact ⟨p, _, rfl, hT, hl, x1, _, rfl, x2, _, rfl, h3, h _ _ hq⟩
/-- two rows compared as the machine does it -/
theorem max_if (a b : Int) : (if b > a then b else a) = max a b := by
  by_cases h : b > a
  · rw [if_pos h]; omega
  · rw [if_neg h]; omega
def spRise (K : PySem.W.Frag) (LV : LvI K) : Sp := fun vs H Q _ => ∃ (sa dx rl : Addr) (lv : V) (S : StD) (m : Nat), vs = [.ref sa] ∧ SA K H sa dx rl lv S m false ∧ LV.At (off [sa, dx, rl] H) lv ∧ m ≤ 80000 ∧ (LV.row m).length = S.T ∧ S.rw m = CM.nextRow S.T S.steps (LV.row m) (S.rw (m - 1)) ∧
  ∀ H', Keep [sa, dx, rl] H H' → ((SA K H' sa dx rl lv S m true ∧ S.rw m = S.rw (m - 1) ∧ LV.last m = true) ∨ (SA K H' sa dx rl lv S (m + 1) false ∧ ¬ (S.rw m = S.rw (m - 1) ∧ LV.last m = true))) → Q .non H'
section
variable {P : Program} {w : World} {K : PySem.W.Frag} {mg : Str → Option Value} {base : Heap}
theorem r_Stairs_rise (Z : Zed K mg base) {kL : Nat} {LV : LvI K} (ok : LvOk P w K mg base kL LV) : Rn P w K mg base (kL + 4) (a_Stairs_rise K) (spRise K LV) := by
  have R_Stairs_raised := r_Stairs_raised (P := P) (w := w) Z
  have scL := ok.sc
  obtain ⟨fr, mL_row, R_LEVEL_row⟩ := ok.row
  obtain ⟨fl, mL_is_last, R_LEVEL_is_last⟩ := ok.last
  refine rn_of (u_Stairs_rise Z) sco_Stairs_rise (fun _ _ _ _ _ _ us hl => match us, hl with | [_], _ => rfl) (fun vs H Q E h => ?_) (fun cdv A outer s H vs Q E hr h => ?_)
  · obtain ⟨sa, dx, rl, lv, S, m, rfl, _⟩ := h
    rfl
  · refine ⟨_, (pss_cons (ps_par (i := 1) (j := 2) rfl sco_Stairs_rise.nd rfl rfl (by decide) rfl rfl (pa_cons (pe_callB (call_len_seqK K) (by rfl) (f_len Z) (by decide +kernel) (pa_cons (pe_slK K (pv 0)) pa_nil)) (pa_cons (pe_ix (ix_listK K) (pe_slK K (pv 0)) (pe_un un_neg pe_int) (fun _ _ => rfl)) pa_nil)) (by rfl))
      (pss_cons (ps_set (i := 3) sco_Stairs_rise.nd rfl (Or.inl rfl) (pe_ms (pe_slK K (pv 0)) scL mL_row R_LEVEL_row hr (pa_cons (pv 1) pa_nil)))
      (pss_cons (ps_setLc (i := 4) (own := [("time", 5), ("least", 6)]) (tt := tYes) rfl sco_Stairs_rise.nd rfl rfl (sw_true rfl rfl rfl (by decide +kernel)) (pi_enum (by rfl) (f_enumerate Z) (pa_cons (pv 3) pa_nil)) (blkOk_by (by kernel_rfl)) (fun _ _ _ _ _ => (pg_tupK K (n := 2) rfl (pgs_cons (pg_name (i := 5) sco_Stairs_rise.nd rfl (Or.inl rfl)) (pgs_cons (pg_name (i := 6) sco_Stairs_rise.nd rfl (Or.inl rfl)) pgs_nil)))) (fun _ _ _ _ _ => pts_nil) (fun _ _ _ _ _ => (pe_callB (call_max2 rfl) (by rfl) (f_max Z) (by decide +kernel) (pa_cons (pe_callTy call_int1 (by rfl) (f_int Z) (by decide +kernel) (pa_cons (pv 6) pa_nil)) (pa_cons (pe_ms (pv 0) (sc_Stairs Z) (m_Stairs_raised Z) R_Stairs_raised hr (pa_cons (pv 5) pa_nil)) pa_nil)))))
      (pss_one (ps_if (PW.pt (pw_and (pt_cmpR (op_eqIntsK K hr.units0) (pv 4) (pv 2) (nomark _)) (pw_and1 (pt_val (pe_ms (pe_slK K (pv 0)) scL mL_is_last R_LEVEL_is_last hr (pa_cons (pv 1) pa_nil))))))
        (pss_one (SlX.ps_sl (pv 0) pe_bl))
        (pss_one (ps_expr (pe_bm PySem.F.plainAttrs_list PySem.F.slot_list_append PySem.F.type_list_append mt_append (pe_slK K (pv 0)) (pa_cons (pv 4) pa_nil))))))))), ?_⟩
    obtain ⟨sa, dx, rl, lv, S, m, rfl, hSA, hLV, hmb, hll, hnext, k⟩ := h
    obtain ⟨hP, hne, ⟨stl, xs, ss, hs, hl, hrow, hst, hss⟩, m1, hlen⟩ := id hSA
    have hm1 : xs.length = m := by rw [hrow.1, List.length_range]
    have hlast : xs[xs.length - 1]? = some (xs[xs.length - 1]'(by omega)) := List.getElem?_eq_getElem _
    obtain ⟨k0, hk0, ⟨⟨r, hr1, hr2⟩⟩⟩ := hrow.at hlast
    have ek0 : k0 = m - 1 := by
      rw [List.getElem?_range (by omega)] at hk0
      cases hk0
      omega
    subst ek0
    refine ⟨_, rfl, sa, _, dx, _, _, _, _, rfl, hs, sc_Stairs Z, sl_Stairs_own_rows Z, rfl, rl, _, rfl, .inl (SqL.of hl), ?_⟩
    refine ⟨_, rfl, sa, _, dx, _, _, _, _, rfl, hs, sc_Stairs Z, sl_Stairs_own_rows Z, rfl, _, rfl, rl, xs, -1, .ref r, rfl, rfl, SqL.of hl, by rw [← hr1]; exact atI_neg1 (by omega) _, ?_⟩
    rw [hm1]
    refine ⟨_, _, rfl, ?_⟩
    obtain ⟨la, ld, lvs, rfl, hls⟩ := ok.slt (ok.mono hLV off_ex)
    refine ⟨_, rfl, sa, _, dx, _, _, _, _, rfl, hs, sc_Stairs Z, sl_Stairs_own_level Z, rfl, la, ld, _, rfl, hls, _, rfl, _, m, rfl, ok.mono hLV off_ex, by omega, fun lr H1 e1 hlr => ?_⟩
    refine ⟨_, rfl, lr, _, rfl, hlr, fun D hD => ?_⟩
    have hlen2 : ((LV.row m).map V.int).length = S.T := by rw [List.length_map, hll]
    refine lc_all (walk_enum (xs := (LV.row m).map V.int)) (fun i y H' => y = .int ((S.rw m).getD i 0)) hD (by rw [hlen2]; have := hP.2; omega) (fun i y H1 H2 e h => h) (fun H' e => Evl.ex_l e hlr) (fun i x H2 H3 Qe hi e2 _ hy q => ?_) (fun x σ H2 Qa Qb hq hg => ?_) (fun H2 ys e2 h1 hn h7 => ?_)
    · obtain ⟨T, x1, y1, rfl, hT, rfl, hx1, hy1⟩ := hy
      have hi' : i < S.T := by rw [← hlen2]; exact hi
      injection hx1 with hx1
      subst hx1
      have hyv : y1 = .int ((LV.row m)[i]'(by rw [hll]; exact hi')) := by
        have h2 : ((LV.row m).map V.int)[i]? = some y1 := hy1
        rw [List.getElem?_map, List.getElem?_eq_getElem (by rw [hll]; exact hi')] at h2
        injection h2 with h2
        exact h2.symm
      subst hyv
      refine ⟨T, _, rfl, SqT.of upd_same, rfl, _, _, rfl, _, _, rfl, rfl, ?_⟩
      have e3 : Ex H2 (upd H2 T (.tup [.int (i : Nat), .int ((LV.row m)[i]'(by rw [hll]; exact hi'))])) := Evl.Ex.new hT
      refine ⟨rfl, _, rfl, .inl ⟨_, rfl, _, rfl, sa, dx, _, rfl, slt_ex ((e1.trans e2).trans e3) hs, _, rfl, sa, dx, rl, _, S, m, false, i, rfl, hSA.mono ((e1.trans e2).trans e3), hi', _, _, rfl, q _ _ e3 ?_⟩⟩
      rw [max_if, hnext]
      unfold CM.nextRow
      rw [List.getD_eq_getElem?_getD, List.getElem?_map, List.getElem?_range hi']
      show V.int _ = V.int (max ((LV.row m).getD i 0) _)
      rw [List.getD_eq_getElem?_getD, List.getElem?_eq_getElem (by rw [hll]; exact hi')]
      rfl
    · exact gtup2_mono hq hg
    · have hys : ys = (S.rw m).map V.int := by
        apply List.ext_getElem
        · rw [hn, hlen2, List.length_map, hlen]
        · intro i a b
          rw [h7 i _ (List.getElem?_eq_getElem a), List.getElem_map]
          have hb : i < (S.rw m).length := by simpa using b
          rw [List.getD_eq_getElem?_getD, List.getElem?_eq_getElem hb]
          rfl
      subst hys
      have e02 := e1.trans e2
      have hSA2 := hSA.mono e02
      refine ⟨_, rfl, _, rfl, D, r, S.rw m, S.rw (m - 1), rfl, rfl, SqL.of h1, Evl.ex_l e02 (Evl.ex_l off_ex hr2), _, rfl, ?_⟩
      have hnn := slt_not hs
      have hDo : D ∉ [sa, dx, rl] := fun z => by
        have hD0 := Evl.fresh_back e1 hD
        have e' : D = sa ∨ D = dx ∨ D = rl := by simpa using z
        rcases e' with q | q | q
        · rw [q] at hD0; exact hnn.2.2.2.2 hD0
        · rw [q] at hD0; exact hnn.2.2.2.1 hD0
        · rw [q, hl] at hD0; cases hD0
      have grow : ¬ (S.rw m = S.rw (m - 1) ∧ LV.last m = true) → tDrop (tBM K "list" rAppend (SlX.tSl K (tVar 0) (Str.ofString "own_rows")) (tCons (tVar 4) tNil)) { nx := fun x H' => Q V.non H', rt := Q } ((((List.set (L2.start N_Stairs_rise [V.ref sa]) 1 (some (V.int m))).set 2 (some (V.ref r))).set 3 (some (V.ref lr))).set 4 (some (V.ref D))) H2 := by
        intro hno
        obtain ⟨_, _, ⟨stl2, xs2, ss2, hs2, hl2, hrow2, hst2, hss2⟩, _, _⟩ := id hSA2
        refine ⟨_, rfl, sa, _, dx, _, _, _, _, rfl, hs2, sc_Stairs Z, sl_Stairs_own_rows Z, rfl, .inl ⟨rfl, _, SqL.of hl2⟩, _, rfl, rl, xs2, _, rfl, rfl, hl2, Evl.sz_lt (by rw [hrow2.1, List.length_range]; omega), ?_⟩
        have kp : Keep [sa, dx, rl] H2 (upd H2 rl (.lst (xs2 ++ [.ref D]))) := Keep.refl.upd (by simp)
        refine k _ ((Keep.of e02).trans kp) (.inr ⟨⟨hP, hne, ⟨stl2, xs2 ++ [.ref D], ss2, slt_at2 hs2 (upd_ne (Ne.symm hne.2.1)) (upd_ne (Ne.symm hne.2.2)), upd_same, ?_, Evl.ex_l kp.off hst2, hss2.mono fun _ _ z => z.mono kp.off⟩, by omega, hlen⟩, hno⟩)
        rw [List.range_succ]
        exact (hrow2.mono fun _ _ z => z.mono kp.off).snoc ⟨D, rfl, SqL.of (by rw [off_out hDo, upd_ne (fun z => hDo (by rw [z]; simp))]; exact h1)⟩
      by_cases heq : S.rw m = S.rw (m - 1)
      · refine ifT (decide_eq_true heq) ?_
        have hLV2 := ok.mono (ok.mono hLV off_ex) e02
        obtain ⟨_, _, ⟨stl2, xs2, ss2, hs2, hl2, hrow2, hst2, hss2⟩, _, _⟩ := id hSA2
        refine ⟨_, rfl, sa, _, dx, _, _, _, _, rfl, hs2, sc_Stairs Z, sl_Stairs_own_level Z, rfl, la, ld, _, rfl, slt_ex e02 hls, _, rfl, _, m, rfl, hLV2, by omega, _, rfl, ?_⟩
        cases hlb : LV.last m with
        | true =>
          refine ifT rfl ⟨_, rfl, sa, _, dx, _, _, _, rfl, hs2, sc_Stairs Z, sl_Stairs_is_stable Z, ?_⟩
          have kp : Keep [sa, dx, rl] H2 (SlX.slH H2 sa (C_Stairs K) dx [some (.bl true), some (.ref la), some (.int S.T), some (.ref rl), some (.ref stl2)]) := Keep.refl.slH (by simp) (by simp)
          exact k _ ((Keep.of e02).trans kp) (.inl ⟨⟨hP, hne, ⟨stl2, xs2, ss2, SlX.slH_slt hne.1, by rw [SlX.slH_ne hne.2.1 hne.2.2]; exact hl2, hrow2.mono fun _ _ z => z.mono kp.off, Evl.ex_l kp.off hst2, hss2.mono fun _ _ z => z.mono kp.off⟩, m1, hlen⟩, heq, hlb⟩)
        | false => exact ifF rfl (grow fun z => by rw [hlb] at z; cases z.2)
      · exact ifF (decide_eq_false heq) (ifF rfl (grow fun z => heq z.1))
/-- what the settling needs: rows by rows, a measure that falls -/
structure SetOk (K : PySem.W.Frag) (LV : LvI K) (S : StD) (most : Option Int) (μ : Nat → Nat) : Prop where
  ll : ∀ m, 1 ≤ m → (LV.row m).length = S.T
  nx : ∀ m, 1 ≤ m → S.rw m = CM.nextRow S.T S.steps (LV.row m) (S.rw (m - 1))
  fall : ∀ m, 1 ≤ m → (∀ B, most = some B → CM.ext (S.rw (m - 1)) S.T 0 ≤ B) → ¬ (S.rw m = S.rw (m - 1) ∧ LV.last m = true) → μ (m + 1) < μ m
def mostV : Option Int → V
  | none => .non
  | some B => .int B
def spSettle (K : PySem.W.Frag) (LV : LvI K) : Sp := fun vs H Q _ => ∃ (sa dx rl : Addr) (lv : V) (S : StD) (m : Nat) (most : Option Int) (μ : Nat → Nat) (N : Nat), vs = [.ref sa, mostV most] ∧ SA K H sa dx rl lv S m false ∧ LV.At (off [sa, dx, rl] H) lv ∧ SetOk K LV S most μ ∧ m + μ m ≤ N ∧ N ≤ 80000 ∧
  ∀ H' m', Keep [sa, dx, rl] H H' → m' ≤ N → ((SA K H' sa dx rl lv S m' true ∧ S.rw m' = S.rw (m' - 1) ∧ LV.last m' = true) ∨ (SA K H' sa dx rl lv S m' false ∧ ∃ B, most = some B ∧ B < CM.ext (S.rw (m' - 1)) S.T 0)) → Q .non H'
theorem r_Stairs_settle (Z : Zed K mg base) {kL : Nat} {LV : LvI K} (ok : LvOk P w K mg base kL LV) : Rn P w K mg base (kL + 5) (a_Stairs_settle K) (spSettle K LV) := by
  have R_Stairs_rise := r_Stairs_rise (P := P) (w := w) Z ok
  refine rn_of (u_Stairs_settle Z) sco_Stairs_settle (fun _ _ _ _ _ _ us hl => match us, hl with | [_, _], _ => rfl) (fun vs H Q E h => ?_) (fun cdv A outer s H vs Q E hr h => ?_)
  · obtain ⟨sa, dx, rl, lv, S, m, most, μ, N, rfl, _⟩ := h
    rfl
  · refine ⟨_, (pss_one (ps_while PassesOwn.never (PW.pt (pw_and (pt_not (pt_val (pe_slK K (pv 0)))) (pw_and1 (PW.pt (pw_or (pt_cmpR op_isN (pv 1) pe_non (nomark _)) (pw_or1 (pt_cmpR op_le (pe_ix (ix_listK K) (pe_ix (ix_listK K) (pe_slK K (pv 0)) (pe_un un_neg pe_int) (fun _ _ => rfl)) pe_int (fun _ _ => rfl)) (pv 1) (nomark _))))))))
        (pss_one (ps_expr (pe_ms0 (pv 0) (sc_Stairs Z) (m_Stairs_rise Z) R_Stairs_rise hr))))), ?_⟩
    obtain ⟨sa, dx, rl, lv, S, m, most, μ, N, rfl, hSA, hLV, hok, hbd, hN, k⟩ := h
    refine while_m (fun n σ H' => σ = [some (.ref sa), some (mostV most)] ∧ Keep [sa, dx, rl] H H' ∧ ∃ m' b, SA K H' sa dx rl lv S m' b ∧ LV.At (off [sa, dx, rl] H') lv ∧ m' + μ m' ≤ N ∧ (b = true → S.rw m' = S.rw (m' - 1) ∧ LV.last m' = true) ∧ n = if b then 0 else μ m' + 1)
      (μ m + 1) ⟨rfl, Keep.refl, m, false, hSA, hLV, hbd, fun z => (nomatch z), rfl⟩ ?_
    rintro n σ H1 ⟨rfl, hk, m', b, hS1, hL1, hb1, hst1, rfl⟩
    obtain ⟨hP, hne, ⟨stl, xs, ss, hs, hl, hrow, hst, hss⟩, m1, hlen⟩ := id hS1
    refine ⟨_, rfl, sa, _, dx, _, _, _, _, rfl, hs, sc_Stairs Z, sl_Stairs_is_stable Z, rfl, _, rfl, ?_⟩
    cases b with
    | true => exact ifF rfl (ifF rfl (k _ m' hk (by omega) (.inl ⟨hS1, hst1 rfl⟩)))
    | false =>
      refine ifT rfl ?_
      have go : (∀ B, most = some B → CM.ext (S.rw (m' - 1)) S.T 0 ≤ B) → WN (fun n σ H' => σ = [some (.ref sa), some (mostV most)] ∧ Keep [sa, dx, rl] H H' ∧ ∃ m' b, SA K H' sa dx rl lv S m' b ∧ LV.At (off [sa, dx, rl] H') lv ∧ m' + μ m' ≤ N ∧ (b = true → S.rw m' = S.rw (m' - 1) ∧ LV.last m' = true) ∧ n = if b then 0 else μ m' + 1) (if false = true then 0 else μ m' + 1)
          { nx := fun x H' => Q V.non H', rt := Q } (tDrop (SlX.tMethSl (C_Stairs K) (spRise K LV) E0 (tVar 0) tNil)) [some (.ref sa), some (mostV most)] H1 := by
        intro hB
        refine WN.go ⟨_, rfl, sa, dx, _, rfl, hs, sa, dx, rl, lv, S, m', rfl, hS1, hL1, by omega, hok.ll m' m1, hok.nx m' m1, fun H2 k2 h2 => ?_⟩
        have hL2 := ok.mono hL1 k2.off
        rcases h2 with ⟨h2, h3, h4⟩ | ⟨h2, h3⟩
        · exact ⟨0, by show 0 < μ m' + 1; omega, rfl, hk.trans k2, m', true, h2, hL2, hb1, fun _ => ⟨h3, h4⟩, rfl⟩
        · have hf := hok.fall m' m1 hB h3
          exact ⟨μ (m' + 1) + 1, by show μ (m' + 1) + 1 < μ m' + 1; omega, rfl, hk.trans k2, m' + 1, false, h2, hL2, by omega, fun z => (nomatch z), rfl⟩
      cases most with
      | none =>
        refine ⟨_, rfl, rfl, _, rfl, ifT (decide_eq_true rfl) (ifT rfl (go fun B z => nomatch z))⟩
      | some B =>
        refine ⟨_, rfl, rfl, _, rfl, ifF (decide_eq_false fun z => nomatch z) ?_⟩
        have hm1 : xs.length = m' := by rw [hrow.1, List.length_range]
        have hlast : xs[xs.length - 1]? = some (xs[xs.length - 1]'(by omega)) := List.getElem?_eq_getElem _
        obtain ⟨k0, hk0, ⟨⟨r, hr1, hr2⟩⟩⟩ := hrow.at hlast
        have ek0 : k0 = m' - 1 := by
          rw [List.getElem?_range (by omega)] at hk0
          cases hk0
          omega
        subst ek0
        have hT := hP.1
        have h0l : (S.rw (m' - 1))[0]? = some (CM.ext (S.rw (m' - 1)) S.T 0) := by
          rw [CM.ext_at _ (by omega) hT]
          exact getD_lem (show 0 < (S.rw (m' - 1)).length by rw [hlen]; omega)
        refine ⟨_, rfl, sa, _, dx, _, _, _, _, rfl, hs, sc_Stairs Z, sl_Stairs_own_rows Z, rfl, _, rfl, rl, xs, -1, .ref r, rfl, rfl, SqL.of hl, by rw [← hr1]; exact atI_neg1 (by omega) _, r, _, 0, _, rfl, rfl, Evl.ex_l off_ex hr2, atI_nat (i := 0) (map_at h0l), ?_⟩
        refine ⟨_, rfl, _, _, rfl, rfl, _, rfl, ?_⟩
        by_cases hB : CM.ext (S.rw (m' - 1)) S.T 0 ≤ B
        · exact ifT (decide_eq_true hB) (go fun B' z => by cases z; exact hB)
        · exact ifF (decide_eq_false hB) (k _ m' hk (by omega) (.inr ⟨hS1, B, rfl, by omega⟩))
/-- new stairs -/
def spStInit (K : PySem.W.Frag) (LV : LvI K) : Sp := fun vs H Q _ => ∃ (H0 : Hp) (sa dx stl : Addr) (lv : V) (ss : List V) (S : StD), vs = [.ref sa, .int S.T, .ref stl, lv] ∧ Made H0 H sa (C_Stairs K) dx ∧ Pd S.T ∧ LV.At H0 lv ∧ SqL K H0 stl ss ∧ Pw (StepAt K S.T H0) ss S.steps ∧ S.rw 0 = LV.row 0 ∧ (∀ k, (S.rw k).length = S.T) ∧
  ∀ H' rl, Ex H0 H' → H0 rl = none → SA K H' sa dx rl lv S 1 false → LV.At (off [sa, dx, rl] H') lv → Q .non H'
theorem r_Stairs_init (Z : Zed K mg base) {kL : Nat} {LV : LvI K} (ok : LvOk P w K mg base kL LV) : Rn P w K mg base (kL + 1) (a_Stairs_init K) (spStInit K LV) := by
  have scL := ok.sc
  obtain ⟨fr, mL_row, R_LEVEL_row⟩ := ok.row
  refine rn_of (u_Stairs_init Z) sco_Stairs_init (fun _ _ _ _ _ _ us hl => match us, hl with | [_, _, _, _], _ => rfl) (fun vs H Q E h => ?_) (fun cdv A outer s H vs Q E hr h => ?_)
  · obtain ⟨H0, sa, dx, stl, lv, ss, S, rfl, _⟩ := h
    rfl
  · refine ⟨_, (pss_cons (SlX.ps_sl (pv 0) (pv 1))
      (pss_cons (SlX.ps_sl (pv 0) (pv 2))
      (pss_cons (SlX.ps_sl (pv 0) (pv 3))
      (pss_cons (SlX.ps_sl (pv 0) (pe_lst (pa_cons (pe_ms (pv 3) scL mL_row R_LEVEL_row hr (pa_cons pe_int pa_nil)) pa_nil)))
      (pss_one (SlX.ps_sl (pv 0) pe_bl)))))), ?_⟩
    obtain ⟨H0, sa, dx, stl, lv, ss, S, rfl, m, hP, hLV, hst, hss, h0, hlen, k⟩ := h
    refine ⟨_, rfl, _, rfl, sa, _, dx, _, _, _, rfl, m.slt, sc_Stairs Z, sl_Stairs_own_period Z, ?_⟩
    refine ⟨_, rfl, _, rfl, sa, _, dx, _, _, _, rfl, SlX.slH_slt m.ne, sc_Stairs Z, sl_Stairs_own_steps Z, ?_⟩
    rw [SlX.slH_twice m.ne]
    refine ⟨_, rfl, _, rfl, sa, _, dx, _, _, _, rfl, SlX.slH_slt m.ne, sc_Stairs Z, sl_Stairs_own_level Z, ?_⟩
    rw [SlX.slH_twice m.ne]
    have e1 := ex_slH (C := C_Stairs K) (vs := [none, some lv, some (.int S.T), none, some (.ref stl)]) m.ex m.na m.nd
    have hLV1 := ok.mono hLV e1
    obtain ⟨la, ld, lvs, rfl, hls⟩ := ok.slt hLV1
    have hs1 : SlX.Slt (SlX.slH H sa (C_Stairs K) dx [none, some (.ref la), some (.int S.T), none, some (.ref stl)]) sa (C_Stairs K) dx [none, some (.ref la), some (.int S.T), none, some (.ref stl)] := SlX.slH_slt m.ne
    refine ⟨_, rfl, la, ld, _, rfl, hls, _, 0, rfl, hLV1, by decide, fun lr H1 e2 hlr => ⟨by show 1 ≤ sizeLine; decide, fun rl hrl => ?_⟩⟩
    have e3 := e2.trans (Evl.Ex.new (o := .lst [.ref lr]) hrl)
    have hs3 := slt_ex e3 hs1
    refine ⟨_, rfl, sa, _, dx, _, _, _, rfl, hs3, sc_Stairs Z, sl_Stairs_own_rows Z, ?_⟩
    refine ⟨_, rfl, sa, _, dx, _, _, _, rfl, SlX.slH_slt m.ne, sc_Stairs Z, sl_Stairs_is_stable Z, ?_⟩
    rw [SlX.slH_twice m.ne]
    have hnn := slt_not (slt_ex e2 hs1)
    have nla : rl ≠ sa := fun z => hnn.2.2.2.2 (by rw [← z]; exact hrl)
    have nld : rl ≠ dx := fun z => hnn.2.2.2.1 (by rw [← z]; exact hrl)
    have hrl0 : H0 rl = none := Evl.fresh_back (e1.trans e2) hrl
    have eF : Ex H0 (SlX.slH (upd H1 rl (.lst [.ref lr])) sa (C_Stairs K) dx [some (.bl false), some (.ref la), some (.int S.T), some (.ref rl), some (.ref stl)]) := ex_slH (e1.trans e3) m.na m.nd
    have eO : Ex H0 (off [sa, dx, rl] (SlX.slH (upd H1 rl (.lst [.ref lr])) sa (C_Stairs K) dx [some (.bl false), some (.ref la), some (.int S.T), some (.ref rl), some (.ref stl)])) := fun a o h => by
      have ha : a ∉ [sa, dx, rl] := fun z => by
        have e' : a = sa ∨ a = dx ∨ a = rl := by simpa using z
        rcases e' with q | q | q
        · rw [q, m.na] at h; cases h
        · rw [q, m.nd] at h; cases h
        · rw [q, hrl0] at h; cases h
      rw [off_out ha]
      exact eF a o h
    have hlr2 : SqL K (off [sa, dx, rl] (SlX.slH (upd H1 rl (.lst [.ref lr])) sa (C_Stairs K) dx [some (.bl false), some (.ref la), some (.int S.T), some (.ref rl), some (.ref stl)])) lr ((LV.row 0).map V.int) := by
      have hn2 := hnn.2.1
      have key : ∀ o, H1 lr = some o → (∃ zs, o = .lst zs) ∨ (∃ u zs, o = .frz u (.lst zs)) → off [sa, dx, rl] (SlX.slH (upd H1 rl (.lst [.ref lr])) sa (C_Stairs K) dx [some (.bl false), some (.ref la), some (.int S.T), some (.ref rl), some (.ref stl)]) lr = some o := fun o ho hk => by
        have hlo : lr ∉ [sa, dx, rl] := fun z => by
          have e' : lr = sa ∨ lr = dx ∨ lr = rl := by simpa using z
          have hs1' := slt_ex e2 hs1
          rcases hs1' with ⟨_, q0⟩ | ⟨q1, q2⟩
          · cases q0
          rcases e' with q | q | q
          · rw [q, q1] at ho
            unfold SlX.SlO at ho
            rcases hk with ⟨zs, rfl⟩ | ⟨u, zs, rfl⟩ <;> cases ho
          · rw [q, q2] at ho
            rcases hk with ⟨zs, rfl⟩ | ⟨u, zs, rfl⟩ <;> cases ho
          · rw [q, hrl] at ho; cases ho
        rw [off_out hlo, SlX.slH_ne (fun z => hlo (by rw [z]; simp)) (fun z => hlo (by rw [z]; simp)), upd_ne (fun z => hlo (by rw [z]; simp))]
        exact ho
      rcases hlr with (h | ⟨u, h⟩) | h
      · exact .inl (.inl (key _ h (.inl ⟨_, rfl⟩)))
      · exact .inl (.inr ⟨u, key _ h (.inr ⟨_, _, rfl⟩)⟩)
      · exact .inr h
    refine k _ rl eF hrl0 ⟨hP, ⟨m.ne, nla, nld⟩, ⟨stl, [.ref lr], ss, SlX.slH_slt m.ne, by rw [SlX.slH_ne nla nld, upd_same], ?_, Evl.ex_l eO hst, hss.mono fun _ _ z => z.mono eO⟩, by decide, hlen⟩ (ok.mono hLV eO)
    exact Pw.nil.snoc ⟨lr, rfl, by rw [h0]; exact hlr2⟩
end
end CZ
set_option Elab.async false
set_option linter.all false
set_option maxRecDepth 100000
set_option maxHeartbeats 2000000
namespace CZ
open PySem PySem.Spec PyProof.Rows L2
/-! ### stairs that stand -/
structure StF (K : PySem.W.Frag) (H : Hp) (v : V) (S : StD) (m : Nat) (b : Bool) : Prop where
  pd : Pd S.T
  ex : ∃ sa dx rl stl lv xs ss, v = .ref sa ∧ SlX.Slt H sa (C_Stairs K) dx [some (.bl b), some lv, some (.int S.T), some (.ref rl), some (.ref stl)] ∧ SqL K H rl xs ∧ Pw (RowAt K H S) xs (List.range m) ∧ SqL K H stl ss ∧ Pw (StepAt K S.T H) ss S.steps
  m1 : 1 ≤ m
  mb : m ≤ 80001
  len : ∀ k, (S.rw k).length = S.T
  sl : S.steps.length ≤ 100
theorem StF.mono {K : PySem.W.Frag} {H H' : Hp} {v : V} {S : StD} {m : Nat} {b : Bool} (h : StF K H v S m b) (e : Ex H H') : StF K H' v S m b := by
  obtain ⟨h1, ⟨sa, dx, rl, stl, lv, xs, ss, h2, h3, h4, h5, h6, h7⟩, h8, h9, h10, h11⟩ := h
  exact ⟨h1, ⟨sa, dx, rl, stl, lv, xs, ss, h2, slt_ex e h3, Evl.ex_l e h4, h5.mono fun _ _ z => z.mono e, Evl.ex_l e h6, h7.mono fun _ _ z => z.mono e⟩, h8, h9, h10, h11⟩
theorem SA.f {K : PySem.W.Frag} {H : Hp} {sa dx rl : Addr} {lv : V} {S : StD} {m : Nat} {b : Bool} (h : SA K H sa dx rl lv S m b) (hm : m ≤ 80001) (hs : S.steps.length ≤ 100) : StF K H (.ref sa) S m b := by
  obtain ⟨h1, h2, ⟨stl, xs, ss, h3, h4, h5, h6, h7⟩, h8, h9⟩ := h
  exact ⟨h1, ⟨sa, dx, rl, stl, lv, xs, ss, rfl, h3, SqL.of h4, h5.mono fun _ _ z => z.mono off_ex, Evl.ex_l off_ex h6, h7.mono fun _ _ z => z.mono off_ex⟩, h8, hm, h9, hs⟩
def rwF (S : StD) (k : Nat) (t : Int) : Int := CM.ext (S.rw k) S.T t
def spRowOf (K : PySem.W.Frag) : Sp := fun vs H Q _ => ∃ (v : V) (S : StD) (m : Nat) (b : Bool) (k : Nat), vs = [v, .int k] ∧ StF K H v S m b ∧ (b = true ∨ k < m) ∧ ∀ r, SqL K H r ((S.rw (min k (m - 1))).map V.int) → Q (.ref r) H
def spStLeast (K : PySem.W.Frag) : Sp := fun vs H Q _ => ∃ (v : V) (S : StD) (m : Nat) (b : Bool) (k : Nat) (t : Int), vs = [v, .int k, .int t] ∧ StF K H v S m b ∧ (b = true ∨ k < m) ∧ Q (.int (rwF S (min k (m - 1)) t)) H
def spStLast (K : PySem.W.Frag) : Sp := fun vs H Q _ => ∃ (v : V) (S : StD) (m : Nat) (b : Bool) (t : Int), vs = [v, .int t] ∧ StF K H v S m b ∧ Q (.int (rwF S (m - 1) t)) H
def spSoonest (K : PySem.W.Frag) : Sp := fun vs H Q _ => ∃ (v : V) (S : StD) (m : Nat) (b : Bool) (q : Addr) (x y most : Int) (k : Nat), vs = [v, .ref q, .int most] ∧ StF K H v S m b ∧ SqT K H q [.int x, .int y] ∧ k ≤ m - 1 ∧ (k : Int) ≤ most ∧ y < rwF S k x ∧
  ∀ j : Nat, j ≤ k → y < rwF S j x → (∀ i, i < j → rwF S i x ≤ y) → Q (.int j) H
def spBreaking1 (K : PySem.W.Frag) : Sp := fun vs H Q _ => ∃ (v : V) (S : StD) (m : Nat) (b : Bool) (x y : Int) (left : Nat), vs = [v, .int x, .int y, .int left] ∧ StF K H v S m b ∧ left ≤ m - 1 ∧ (∃ s ∈ S.steps, s.b y < rwF S left (s.a x)) ∧
  ∀ (i : Nat) (s : CM.Stp) H', Ex H H' → S.steps[i]? = some s → s.b y < rwF S left (s.a x) → Q (.int i) H'
def spBroken (K : PySem.W.Frag) : Sp := fun vs H Q _ => ∃ (v : V) (S : StD) (m : Nat) (b : Bool) (q : Addr) (x y : Int) (k : Nat), vs = [v, .ref q, .int k] ∧ StF K H v S m b ∧ SqT K H q [.int x, .int y] ∧ k ≤ m - 1 ∧ y < rwF S k x ∧ (∀ i, i < k → rwF S i x ≤ y) ∧
  (∀ j x y, y < rwF S (j + 1) x → rwF S j x ≤ y → ∃ s ∈ S.steps, s.b y < rwF S j (s.a x)) ∧ (∀ j x y, rwF S (j + 1) x ≤ y → ∀ s ∈ S.steps, rwF S j (s.a x) ≤ s.b y) ∧
  ∀ (l : Addr) (ws : List (Nat × CM.Stp)) H', Ex H H' → SqL K H' l (ws.map fun w => V.int w.1) → (∀ w ∈ ws, S.steps[w.1]? = some w.2) → ws.length ≤ k → (CM.play (ws.map (·.2)) (x, y)).2 < rwF S 0 (CM.play (ws.map (·.2)) (x, y)).1 → Q (.ref l) H'
def PairL (H : Hp) (v : V) (c : Int × Int) : Prop := ∃ p, v = .ref p ∧ H p = some (.tup [.int c.1, .int c.2])
def spCorners (K : PySem.W.Frag) : Sp := fun vs H Q _ => ∃ (v : V) (S : StD) (m : Nat) (b : Bool), vs = [v] ∧ StF K H v S m b ∧
  ∀ (p : Addr) (xs : List V) H', Ex H H' → H' p = some (.tup xs) → Pw (PairL H') xs (CM.corners S.T (rwF S (m - 1))) → Q (.ref p) H'
theorem min_if (a b : Int) : (if b < a then b else a) = min a b := by
  by_cases h : b < a
  · rw [if_pos h]; omega
  · rw [if_neg h]; omega
section
variable {P : Program} {w : World} {K : PySem.W.Frag} {mg : Str → Option Value} {base : Heap}
theorem r_Stairs_row_of (Z : Zed K mg base) {kL : Nat} {LV : LvI K} (ok : LvOk P w K mg base kL LV) : Rn P w K mg base (kL + 5) (a_Stairs_row_of K) (spRowOf K) := by
  have R_Stairs_rise := r_Stairs_rise (P := P) (w := w) Z ok
  refine rn_of (u_Stairs_row_of Z) sco_Stairs_row_of (fun _ _ _ _ _ _ us hl => match us, hl with | [_, _], _ => rfl) (fun vs H Q E h => ?_) (fun cdv A outer s H vs Q E hr h => ?_)
  · obtain ⟨v, S, m, b, k, rfl, _⟩ := h
    rfl
  · refine ⟨_, (pss_cons (ps_while PassesOwn.never (PW.pt (pw_and (pt_not (pt_val (pe_slK K (pv 0)))) (pw_and1 (pt_cmpR op_le (pe_callB (call_len_seqK K) (by rfl) (f_len Z) (by decide +kernel) (pa_cons (pe_slK K (pv 0)) pa_nil)) (pv 1) (nomark _)))))
        (pss_one (ps_expr (pe_ms0 (pv 0) (sc_Stairs Z) (m_Stairs_rise Z) R_Stairs_rise hr))))
      (pss_one (ps_ret (pe_ix (ix_listK K) (pe_slK K (pv 0)) (pe_callB (call_min2 rfl) (by rfl) (f_min Z) (by decide +kernel) (pa_cons (pe_callTy call_int1 (by rfl) (f_int Z) (by decide +kernel) (pa_cons (pv 1) pa_nil)) (pa_cons (pe_op op_sub (pe_callB (call_len_seqK K) (by rfl) (f_len Z) (by decide +kernel) (pa_cons (pe_slK K (pv 0)) pa_nil)) pe_int) pa_nil))) (fun _ _ => rfl))))), ?_⟩
    obtain ⟨v, S, m, b, k, rfl, hS, hk, kk⟩ := h
    obtain ⟨hP, ⟨sa, dx, rl, stl, lv, xs, ss, rfl, hs, hl, hrow, hst, hss⟩, m1, mb, hlen, _⟩ := id hS
    have hm1 : xs.length = m := by rw [hrow.1, List.length_range]
    refine while_m (fun n σ H' => σ = [some (.ref sa), some (.int k)] ∧ H' = H) 0 ⟨rfl, rfl⟩ ?_
    rintro n σ H1 ⟨rfl, rfl⟩
    have fin : tRet (tOp (rIxL K) (SlX.tSl K (tVar 0) (Str.ofString "own_rows")) (tCB (fun xs H Q => ∃ i j, xs = [V.int i, V.int j] ∧ Q (V.int (if j < i then j else i)) H) (tCons (tCB (fun xs H Q => (∃ i, xs = [V.int i] ∧ Q (V.int i) H) ∨ ∃ k, xs = [V.bl k] ∧ Q (V.int (if k then 1 else 0)) H) (tCons (tVar 1) tNil)) (tCons (tOp (rI0 fun i j => V.int (i - j)) (tCB (fun xs H Q => ∃ p ys, xs = [V.ref p] ∧ (SqL K H p ys ∨ SqT K H p ys) ∧ Q (V.int ↑ys.length) H) (tCons (SlX.tSl K (tVar 0) (Str.ofString "own_rows")) tNil)) (tC (V.int 1))) tNil)))) { nx := fun x H' => Q V.non H', rt := Q } [some (.ref sa), some (.int k)] H1 := by
      have hi : min k (m - 1) < xs.length := by omega
      obtain ⟨k0, hk0, ⟨⟨r, hr1, hr2⟩⟩⟩ := hrow.at (List.getElem?_eq_getElem hi)
      have ek0 : k0 = min k (m - 1) := by
        rw [List.getElem?_range (by omega)] at hk0
        cases hk0
        rfl
      subst ek0
      refine ⟨_, rfl, sa, _, dx, _, _, _, _, rfl, hs, sc_Stairs Z, sl_Stairs_own_rows Z, rfl, _, rfl, .inl ⟨_, rfl, _, rfl, sa, _, dx, _, _, _, _, rfl, hs, sc_Stairs Z, sl_Stairs_own_rows Z, rfl, rl, _, rfl, .inl hl, _, _, rfl, rfl, _, _, rfl, rl, xs, _, .ref r, rfl, rfl, hl, ?_, kk r hr2⟩⟩
      rw [min_if, show min (k : Int) ((xs.length : Int) - 1) = ((min k (m - 1) : Nat) : Int) by omega, ← hr1]
      exact atI_nat (List.getElem?_eq_getElem hi)
    refine ⟨_, rfl, sa, _, dx, _, _, _, _, rfl, hs, sc_Stairs Z, sl_Stairs_is_stable Z, rfl, _, rfl, ?_⟩
    cases b with
    | true => exact ifF rfl (ifF rfl fin)
    | false =>
      have hkm : k < m := hk.elim (fun z => nomatch z) id
      refine ifT rfl ⟨_, rfl, sa, _, dx, _, _, _, _, rfl, hs, sc_Stairs Z, sl_Stairs_own_rows Z, rfl, rl, _, rfl, .inl hl, _, rfl, _, _, rfl, rfl, _, rfl, ifF (decide_eq_false (by rw [hm1]; omega)) fin⟩
theorem r_Stairs_least (Z : Zed K mg base) {kL : Nat} {LV : LvI K} (ok : LvOk P w K mg base kL LV) : Rn P w K mg base (kL + 6) (a_Stairs_least K) (spStLeast K) := by
  have R_Stairs_row_of := r_Stairs_row_of (P := P) (w := w) Z ok
  have R_placed := r_placed (P := P) (w := w) Z
  refine rn_of (u_Stairs_least Z) sco_Stairs_least (fun _ _ _ _ _ _ us hl => match us, hl with | [_, _, _], _ => rfl) (fun vs H Q E h => ?_) (fun cdv A outer s H vs Q E hr h => ?_)
  · obtain ⟨v, S, m, b, k, t, rfl, _⟩ := h
    rfl
  · refine ⟨_, (pss_one (ps_ret (pe_r R_placed (g_placed Z) hr (by rfl) (pa_cons (pe_ms (pv 0) (sc_Stairs Z) (m_Stairs_row_of Z) R_Stairs_row_of hr (pa_cons (pv 1) pa_nil)) (pa_cons (pe_slK K (pv 0)) (pa_cons (pv 2) pa_nil)))))), ?_⟩
    obtain ⟨v, S, m, b, k, t, rfl, hS, hk, kk⟩ := h
    obtain ⟨hP, ⟨sa, dx, rl, stl, lv, xs, ss, rfl, hs, hl, hrow, hst, hss⟩, m1, mb, hlen, _⟩ := id hS
    refine ⟨_, rfl, sa, dx, _, rfl, hs, _, rfl, _, S, m, b, k, rfl, hS, hk, fun r hr2 => ?_⟩
    exact ⟨_, rfl, sa, _, dx, _, _, _, _, rfl, hs, sc_Stairs Z, sl_Stairs_own_period Z, rfl, _, rfl, r, _, S.T, t, rfl, hr2, by rw [hlen], hP, kk⟩
theorem r_Stairs_last (Z : Zed K mg base) : Rn P w K mg base 2 (a_Stairs_last K) (spStLast K) := by
  have R_placed := r_placed (P := P) (w := w) Z
  refine rn_of (u_Stairs_last Z) sco_Stairs_last (fun _ _ _ _ _ _ us hl => match us, hl with | [_, _], _ => rfl) (fun vs H Q E h => ?_) (fun cdv A outer s H vs Q E hr h => ?_)
  · obtain ⟨v, S, m, b, t, rfl, _⟩ := h
    rfl
  · refine ⟨_, (pss_one (ps_ret (pe_r R_placed (g_placed Z) hr (by rfl) (pa_cons (pe_ix (ix_listK K) (pe_slK K (pv 0)) (pe_un un_neg pe_int) (fun _ _ => rfl)) (pa_cons (pe_slK K (pv 0)) (pa_cons (pv 1) pa_nil)))))), ?_⟩
    obtain ⟨v, S, m, b, t, rfl, hS, kk⟩ := h
    obtain ⟨hP, ⟨sa, dx, rl, stl, lv, xs, ss, rfl, hs, hl, hrow, hst, hss⟩, m1, mb, hlen, _⟩ := id hS
    have hm1 : xs.length = m := by rw [hrow.1, List.length_range]
    have hlast : xs[xs.length - 1]? = some (xs[xs.length - 1]'(by omega)) := List.getElem?_eq_getElem _
    obtain ⟨k0, hk0, ⟨⟨r, hr1, hr2⟩⟩⟩ := hrow.at hlast
    have ek0 : k0 = m - 1 := by
      rw [List.getElem?_range (by omega)] at hk0
      cases hk0
      omega
    subst ek0
    refine ⟨_, rfl, sa, _, dx, _, _, _, _, rfl, hs, sc_Stairs Z, sl_Stairs_own_rows Z, rfl, _, rfl, rl, xs, -1, .ref r, rfl, rfl, hl, by rw [← hr1]; exact atI_neg1 (by omega) _, ?_⟩
    exact ⟨_, rfl, sa, _, dx, _, _, _, _, rfl, hs, sc_Stairs Z, sl_Stairs_own_period Z, rfl, _, rfl, r, _, S.T, t, rfl, hr2, by rw [hlen], hP, kk⟩
theorem r_Stairs_soonest (Z : Zed K mg base) {kL : Nat} {LV : LvI K} (ok : LvOk P w K mg base kL LV) : Rn P w K mg base (kL + 7) (a_Stairs_soonest K) (spSoonest K) := by
  have R_Stairs_least := r_Stairs_least (P := P) (w := w) Z ok
  refine rn_of (u_Stairs_soonest Z) sco_Stairs_soonest (fun _ _ _ _ _ _ us hl => match us, hl with | [_, _, _], _ => rfl) (fun vs H Q E h => ?_) (fun cdv A outer s H vs Q E hr h => ?_)
  · obtain ⟨v, S, m, b, q, x, y, most, k, rfl, _⟩ := h
    rfl
  · refine ⟨_, (pss_cons (ps_set (i := 3) sco_Stairs_soonest.nd rfl (Or.inl rfl) pe_int)
      (pss_cons (ps_while PassesOwn.never (PW.pt (pw_and (pt_cmpR op_le (pv 3) (pv 2) (nomark _)) (pw_and1 (pt_cmpR op_ge (pe_ix (ix_tupK K) (pv 1) pe_int (fun _ _ => rfl)) (pe_ms (pv 0) (sc_Stairs Z) (m_Stairs_least Z) R_Stairs_least hr (pa_cons (pv 3) (pa_cons (pe_ix (ix_tupK K) (pv 1) pe_int (fun _ _ => rfl)) pa_nil))) (nomark _)))))
        (pss_cons (ps_if (PW.pt (pw_and (pt_val (pe_slK K (pv 0))) (pw_and1 (pt_cmpR op_ge (pv 3) (pe_callB (call_len_seqK K) (by rfl) (f_len Z) (by decide +kernel) (pa_cons (pe_slK K (pv 0)) pa_nil)) (nomark _)))))
          (pss_one (ps_ret pe_non))
          pss_nil)
        (pss_one (ps_aug (i := 3) sco_Stairs_soonest.nd rfl (Or.inl rfl) pe_int ip_add))))
      (pss_one (ps_ret (pe_ifExp (pt_cmpR op_le (pv 3) (pv 2) (nomark _)) (pv 3) pe_non))))), ?_⟩
    obtain ⟨v, S, m, b, q, x, y, most, k, rfl, hS, hq, hkm, hkmost, hyk, kk⟩ := h
    obtain ⟨hP, ⟨sa, dx, rl, stl, lv, xs, ss, rfl, hs, hl, hrow, hst, hss⟩, m1, mb, hlen, _⟩ := id hS
    have hm1 : xs.length = m := by rw [hrow.1, List.length_range]
    refine while_m (fun n σ H' => H' = H ∧ ∃ j : Nat, σ = [some (.ref sa), some (.ref q), some (.int most), some (.int j)] ∧ j ≤ k ∧ (∀ i, i < j → rwF S i x ≤ y) ∧ n = k - j) k ⟨rfl, 0, rfl, Nat.zero_le _, fun i hi => absurd hi (Nat.not_lt_zero _), by omega⟩ ?_
    rintro n σ H1 ⟨rfl, j, rfl, hjk, hjl, rfl⟩
    refine ⟨_, rfl, _, rfl, _, _, rfl, rfl, _, rfl, ifT (decide_eq_true (by omega)) ?_⟩
    refine ⟨_, rfl, q, _, 1, .int y, rfl, rfl, hq, rfl, _, rfl, sa, dx, _, rfl, hs, _, rfl, _, rfl, q, _, 0, .int x, rfl, rfl, hq, rfl, _, S, m, b, j, x, rfl, hS, .inr (by omega), _, _, rfl, rfl, _, rfl, ?_⟩
    rw [show min j (m - 1) = j by omega]
    by_cases hy : y < rwF S j x
    · refine ifF (decide_eq_false (by omega)) ?_
      exact ⟨_, rfl, _, rfl, _, _, rfl, rfl, _, rfl, ifT (decide_eq_true (by omega)) ⟨_, rfl, kk j hjk hy hjl⟩⟩
    · refine ifT (decide_eq_true (by omega)) ?_
      have hjk2 : j < k := by
        rcases Nat.lt_or_eq_of_le hjk with h | h
        · exact h
        · rw [h] at hy; exact absurd hyk hy
      refine WN.go ⟨_, rfl, sa, _, dx, _, _, _, _, rfl, hs, sc_Stairs Z, sl_Stairs_is_stable Z, rfl, _, rfl, ?_⟩
      have fin : tAug 3 (tC (.int 1)) (ipI fun i j => i + j) { nx := fun σ' H' => ∃ m', m' < k - j ∧ H' = H1 ∧ ∃ j : Nat, σ' = [some (.ref sa), some (.ref q), some (.int most), some (.int j)] ∧ j ≤ k ∧ (∀ i, i < j → rwF S i x ≤ y) ∧ m' = k - j, rt := Q } [some (.ref sa), some (.ref q), some (.int most), some (.int j)] H1 := by
        refine ⟨_, rfl, _, _, rfl, rfl, k - (j + 1), by omega, rfl, j + 1, rfl, by omega, fun i hi => ?_, rfl⟩
        rcases Nat.lt_or_eq_of_le (Nat.le_of_lt_succ hi) with h | h
        · exact hjl i h
        · rw [h]; omega
      cases b with
      | false => exact ifF rfl (ifF rfl fin)
      | true => exact ifT rfl ⟨_, rfl, _, rfl, sa, _, dx, _, _, _, _, rfl, hs, sc_Stairs Z, sl_Stairs_own_rows Z, rfl, rl, _, rfl, .inl hl, _, _, rfl, rfl, _, rfl, ifF (decide_eq_false (by rw [hm1]; omega)) fin⟩
theorem r_Stairs_breaking (Z : Zed K mg base) {kL : Nat} {LV : LvI K} (ok : LvOk P w K mg base kL LV) : Rn P w K mg base (kL + 7) (a_Stairs_breaking K) (spBreaking1 K) := by
  have R_Stairs_least := r_Stairs_least (P := P) (w := w) Z ok
  have R_Map_at := r_Map_at (P := P) (w := w) Z
  refine rn_of (u_Stairs_breaking Z) sco_Stairs_breaking (fun _ _ _ _ _ _ us hl => match us, hl with | [_, _, _, _], _ => rfl) (fun vs H Q E h => ?_) (fun cdv A outer s H vs Q E hr h => ?_)
  · obtain ⟨v, S, m, b, x, y, left, rfl, _⟩ := h
    rfl
  · refine ⟨_, (pss_cons (ps_for PassesOwn.never rfl (pi_enum (by rfl) (f_enumerate Z) (pa_cons (pe_slK K (pv 0)) pa_nil)) (pg_tupK K (n := 2) rfl (pgs_cons (pg_name (i := 4) sco_Stairs_breaking.nd rfl (Or.inl rfl)) (pgs_cons (pg_tupK K (n := 2) rfl (pgs_cons (pg_name (i := 5) sco_Stairs_breaking.nd rfl (Or.inl rfl)) (pgs_cons (pg_name (i := 6) sco_Stairs_breaking.nd rfl (Or.inl rfl)) pgs_nil))) pgs_nil)))
        (pss_one (ps_if (pt_cmpR op_lt (pe_ms (pv 6) (sc_Map Z) (m_Map_at Z) R_Map_at hr (pa_cons (pv 2) pa_nil)) (pe_ms (pv 0) (sc_Stairs Z) (m_Stairs_least Z) R_Stairs_least hr (pa_cons (pv 3) (pa_cons (pe_ms (pv 5) (sc_Map Z) (m_Map_at Z) R_Map_at hr (pa_cons (pv 1) pa_nil)) pa_nil))) (nomark _))
          (pss_one (ps_ret (pv 4)))
          pss_nil)))
      (pss_one (ps_ret pe_non))), ?_⟩
    obtain ⟨v, S, m, b, x, y, left, rfl, hS, hlm, ⟨s0, hs0, hs1⟩, kk⟩ := h
    obtain ⟨hP, ⟨sa, dx, rl, stl, lv, xs, ss, rfl, hs, hl, hrow, hst, hss⟩, m1, mb, hlen, _⟩ := id hS
    refine ⟨_, rfl, sa, _, dx, _, _, _, _, rfl, hs, sc_Stairs Z, sl_Stairs_own_steps Z, rfl, stl, ss, rfl, hst, for_it (walk_enum (xs := ss)) (fun i σ H' => Ex H H' ∧ (∃ (o1 o2 o3 : Option V), σ = [some (.ref sa), some (.int x), some (.int y), some (.int left), o1, o2, o3]) ∧ ∀ (j : Nat) s, j < i → S.steps[j]? = some s → ¬ s.b y < rwF S left (s.a x)) ⟨Evl.Ex.refl _, ⟨_, _, _, rfl⟩, fun j _ hj => absurd hj (Nat.not_lt_zero _)⟩ (fun i σ H' _ hv => ?_) (fun i x1 σ H1 H2 hi hv hy => ?_) (fun σ H' hv => ?_)⟩
    · exact Evl.ex_l hv.1 hst
    · obtain ⟨e1, ⟨o1, o2, o3, rfl⟩, hno⟩ := hv
      obtain ⟨T, u1, u2, rfl, hT, rfl, hx1, hx2⟩ := hy
      injection hx1 with hx1
      subst hx1
      have hx2 : ss[i]? = some u2 := hx2
      obtain ⟨st, hsp, ⟨⟨p, z1, z2, rfl, hp1, hp2, hp3⟩, hlb⟩⟩ := hss.at hx2
      have e2 : Ex H (upd H1 T (.tup [.int (i : Nat), .ref p])) := e1.trans (Evl.Ex.new hT)
      have hp2' := hp2.mono e2
      have hp3' := hp3.mono e2
      obtain ⟨a1, dx1, _, _, rfl, hs1', _⟩ := hp2'.ex
      obtain ⟨a2, dx2, _, _, rfl, hs2', _⟩ := hp3'.ex
      refine ⟨T, _, rfl, SqT.of upd_same, rfl, _, _, rfl, _, _, rfl, ⟨p, _, rfl, SqT.of (e2 _ _ hp1), rfl, _, _, rfl, _, _, rfl, rfl, ?_⟩⟩
      refine ⟨rfl, _, rfl, a2, dx2, _, rfl, hs2', _, rfl, _, S.T, st.b, y, rfl, hp3', _, rfl, sa, dx, _, rfl, slt_ex e2 hs, _, rfl, _, rfl, a1, dx1, _, rfl, hs1', _, rfl, _, S.T, st.a, x, rfl, hp2', _, S, m, b, left, st.a x, rfl, hS.mono e2, .inr (by omega), _, _, rfl, rfl, _, rfl, ?_⟩
      rw [show min left (m - 1) = left by omega]
      by_cases hc : st.b y < rwF S left (st.a x)
      · exact ifT (decide_eq_true hc) ⟨_, rfl, kk i st _ e2 hsp hc⟩
      · refine ifF (decide_eq_false hc) ⟨e2, ⟨_, _, _, rfl⟩, fun j s hj hsj => ?_⟩
        rcases Nat.lt_or_eq_of_le (Nat.le_of_lt_succ hj) with h | h
        · exact hno j s h hsj
        · rw [h, hsp] at hsj
          cases hsj
          exact hc
    · obtain ⟨e1, _, hno⟩ := hv
      obtain ⟨j, hj⟩ := List.getElem?_of_mem hs0
      exact absurd hs1 (hno j s0 (by rw [hss.1]; exact (List.getElem?_eq_some_iff.mp hj).1) hj)
end
end CZ
set_option Elab.async false
set_option linter.all false
set_option maxRecDepth 100000
set_option maxHeartbeats 2000000
namespace CZ
open PySem PySem.Spec PyProof.Rows L2
theorem PairL.mono {H H' : Hp} {v : V} {c : Int × Int} (h : PairL H v c) (e : Ex H H') : PairL H' v c := let ⟨p, h1, h2⟩ := h; ⟨p, h1, e _ _ h2⟩
section
variable {P : Program} {w : World} {K : PySem.W.Frag} {mg : Str → Option Value} {base : Heap}
theorem r_Stairs_broken (Z : Zed K mg base) {kL : Nat} {LV : LvI K} (ok : LvOk P w K mg base kL LV) : Rn P w K mg base (kL + 8) (a_Stairs_broken K) (spBroken K) := by
  have R_Stairs_breaking := r_Stairs_breaking (P := P) (w := w) Z ok
  have R_Map_at := r_Map_at (P := P) (w := w) Z
  refine rn_of (u_Stairs_broken Z) sco_Stairs_broken (fun _ _ _ _ _ _ us hl => match us, hl with | [_, _, _], _ => rfl) (fun vs H Q E h => ?_) (fun cdv A outer s H vs Q E hr h => ?_)
  · obtain ⟨v, S, m, b, q, x, y, k, rfl, _⟩ := h
    rfl
  · refine ⟨_, (pss_cons (ps_asg (pv 1) (pg_tupK K (n := 2) rfl (pgs_cons (pg_name (i := 3) sco_Stairs_broken.nd rfl (Or.inl rfl)) (pgs_cons (pg_name (i := 4) sco_Stairs_broken.nd rfl (Or.inl rfl)) pgs_nil))))
      (pss_cons (ps_set (i := 5) sco_Stairs_broken.nd rfl (Or.inl rfl) (pe_lst pa_nil))
      (pss_cons (ps_for PassesOwn.never rfl (pi_range3 (by rfl) (f_range Z) (pa_cons (pe_op op_sub (pv 2) pe_int) (pa_cons (pe_un un_neg pe_int) (pa_cons (pe_un un_neg pe_int) pa_nil)))) (pg_name (i := 6) sco_Stairs_broken.nd rfl (Or.inl rfl))
        (pss_cons (ps_set (i := 7) sco_Stairs_broken.nd rfl (Or.inl rfl) (pe_ms (pv 0) (sc_Stairs Z) (m_Stairs_breaking Z) R_Stairs_breaking hr (pa_cons (pv 3) (pa_cons (pv 4) (pa_cons (pv 6) pa_nil)))))
        (pss_cons (ps_asg (pe_ix (ix_listK K) (pe_slK K (pv 0)) (pv 7) (fun _ _ => rfl)) (pg_tupK K (n := 2) rfl (pgs_cons (pg_name (i := 8) sco_Stairs_broken.nd rfl (Or.inl rfl)) (pgs_cons (pg_name (i := 9) sco_Stairs_broken.nd rfl (Or.inl rfl)) pgs_nil))))
        (pss_cons (ps_par (i := 3) (j := 4) rfl sco_Stairs_broken.nd rfl rfl (by decide) rfl rfl (pa_cons (pe_ms (pv 8) (sc_Map Z) (m_Map_at Z) R_Map_at hr (pa_cons (pv 3) pa_nil)) (pa_cons (pe_ms (pv 9) (sc_Map Z) (m_Map_at Z) R_Map_at hr (pa_cons (pv 4) pa_nil)) pa_nil)) (by rfl))
        (pss_one (ps_expr (pe_bm PySem.F.plainAttrs_list PySem.F.slot_list_append PySem.F.type_list_append mt_append (pv 5) (pa_cons (pv 7) pa_nil))))))))
      (pss_one (ps_ret (pv 5)))))), ?_⟩
    obtain ⟨v, S, m, b, q, x, y, k, rfl, hS, hq, hkm, hyk, hlow, hbrk, hstay, kk⟩ := h
    obtain ⟨hP, ⟨sa, dx, rl, stl, lv, xs, ss, rfl, hs, hl, hrow, hst, hss⟩, m1, mb, hlen, _⟩ := id hS
    refine ⟨_, rfl, q, _, rfl, hq, rfl, _, _, rfl, _, _, rfl, rfl, by decide, fun fl hfl => ?_⟩
    have e0 : Ex H (upd H fl (.lst [])) := Evl.Ex.new hfl
    refine ⟨_, rfl, _, _, rfl, rfl, _, rfl, _, rfl, (k : Int) - 1, -1, -1, k, rfl, ?_, for_rangeC (lo := (k : Int) - 1) (c := -1) (n := k) (fun i σ H' => ∃ (ws : List (Nat × CM.Stp)) (x' y' : Int) (o1 o2 o3 o4 : Option V), σ = [some (.ref sa), some (.ref q), some (.int k), some (.int x'), some (.int y'), some (.ref fl), o1, o2, o3, o4] ∧ Ex H H' ∧ H' fl = some (.lst (ws.map fun w => V.int w.1)) ∧ (∀ w ∈ ws, S.steps[w.1]? = some w.2) ∧ ws.length = i ∧ CM.play (ws.map (·.2)) (x, y) = (x', y') ∧ y' < rwF S (k - i) x' ∧ ∀ j, j < k - i → rwF S j x' ≤ y') ?_ (fun i σ H1 hi hv => ?_) (fun σ H' hv => ?_)⟩
    · have h1 := RgC.neg (i := (k : Int) - 1) (j := -1) (by omega) (by omega) (by decide) (by decide)
      rw [show ((k : Int) - 1 - -1).toNat = k by omega] at h1
      exact h1
    · exact ⟨[], x, y, _, _, _, _, rfl, e0, upd_same, fun _ z => (nomatch z), rfl, rfl, hyk, hlow⟩
    · obtain ⟨ws, x', y', o1, o2, o3, o4, rfl, e1, hfl1, hw, hwl, hpl, hy, hlo⟩ := hv
      have el : (k : Int) - 1 + (i : Nat) * (-1) = ((k - i - 1 : Nat) : Int) := by omega
      rw [el]
      have hy2 : y' < rwF S (k - i - 1 + 1) x' := by rw [show k - i - 1 + 1 = k - i by omega]; exact hy
      have hlo2 := hlo (k - i - 1) (by omega)
      refine ⟨_, rfl, sa, dx, _, rfl, slt_ex e1 hs, _, rfl, _, rfl, _, rfl, _, S, m, b, x', y', k - i - 1, rfl, hS.mono e1, by omega, hbrk _ _ _ hy2 hlo2, fun j st H2 e2 hst2 hbr => ?_⟩
      have e12 := e1.trans e2
      obtain ⟨u, hu, ⟨⟨p, z1, z2, rfl, hp1, hp2, hp3⟩, hlb⟩⟩ := hss.to hst2
      have hp2' := hp2.mono e12
      have hp3' := hp3.mono e12
      obtain ⟨a1, dx1, _, _, rfl, hs1', _⟩ := hp2'.ex
      obtain ⟨a2, dx2, _, _, rfl, hs2', _⟩ := hp3'.ex
      refine ⟨_, rfl, sa, _, dx, _, _, _, _, rfl, slt_ex e12 hs, sc_Stairs Z, sl_Stairs_own_steps Z, rfl, _, rfl, stl, ss, j, .ref p, rfl, rfl, Evl.ex_l e12 hst, atI_nat hu, ?_⟩
      refine ⟨p, _, rfl, SqT.of (e12 _ _ hp1), rfl, _, _, rfl, _, _, rfl, rfl, ?_⟩
      refine ⟨_, rfl, a1, dx1, _, rfl, hs1', _, rfl, _, S.T, st.a, x', rfl, hp2', _, rfl, a2, dx2, _, rfl, hs2', _, rfl, _, S.T, st.b, y', rfl, hp3', _, _, rfl, ?_⟩
      have hfl2 := e2 _ _ hfl1
      have hstm := List.mem_of_getElem? hst2
      refine ⟨_, rfl, .inl ⟨rfl, _, SqL.of hfl2⟩, _, rfl, fl, _, _, rfl, rfl, hfl2, Evl.sz_lt (by rw [List.length_map]; omega), ?_⟩
      refine ⟨ws ++ [(j, st)], st.a x', st.b y', _, _, _, _, rfl, Evl.Ex.mut e12 hfl, ?_, ?_, ?_, ?_, ?_, ?_⟩
      · rw [upd_same, List.map_append]
        rfl
      · intro w hw2
        rcases List.mem_append.mp hw2 with h | h
        · exact hw w h
        · have e := List.mem_singleton.mp h
          rw [e]
          exact hst2
      · rw [List.length_append, hwl]; rfl
      · rw [List.map_append, CM.play_app, hpl]
        rfl
      · rw [show k - (i + 1) = k - i - 1 by omega]
        exact hbr
      · intro j2 hj2
        exact hstay j2 x' y' (hlo (j2 + 1) (by omega)) st hstm
    · obtain ⟨ws, x', y', o1, o2, o3, o4, rfl, e1, hfl1, hw, hwl, hpl, hy, hlo⟩ := hv
      refine ⟨_, rfl, kk fl ws H' e1 (SqL.of hfl1) hw (by omega) ?_⟩
      rw [hpl]
      rw [Nat.sub_self] at hy
      exact hy
theorem r_Stairs_corners (Z : Zed K mg base) : Rn P w K mg base 3 (a_Stairs_corners K) (spCorners K) := by
  have R_Stairs_last := r_Stairs_last (P := P) (w := w) Z
  refine rn_of (u_Stairs_corners Z) sco_Stairs_corners (fun _ _ _ _ _ _ us hl => match us, hl with | [_], _ => rfl) (fun vs H Q E h => ?_) (fun cdv A outer s H vs Q E hr h => ?_)
  · obtain ⟨v, S, m, b, rfl, _⟩ := h
    rfl
  · refine ⟨_, (pss_cons (ps_set (i := 1) sco_Stairs_corners.nd rfl (Or.inl rfl) (pe_lst pa_nil))
      (pss_cons (ps_for PassesOwn.never rfl (pi_range1 (by rfl) (f_range Z) (pa_cons (pe_slK K (pv 0)) pa_nil)) (pg_name (i := 2) sco_Stairs_corners.nd rfl (Or.inl rfl))
        (pss_one (ps_if (pt_cmpR op_lt (pe_ms (pv 0) (sc_Stairs Z) (m_Stairs_last Z) R_Stairs_last hr (pa_cons (pv 2) pa_nil)) (pe_ms (pv 0) (sc_Stairs Z) (m_Stairs_last Z) R_Stairs_last hr (pa_cons (pe_op op_add (pv 2) pe_int) pa_nil)) (nomark _))
          (pss_one (ps_expr (pe_bm PySem.F.plainAttrs_list PySem.F.slot_list_append PySem.F.type_list_append mt_append (pv 1) (pa_cons (pe_tup (pa_cons (pv 2) (pa_cons (pe_ms (pv 0) (sc_Stairs Z) (m_Stairs_last Z) R_Stairs_last hr (pa_cons (pv 2) pa_nil)) pa_nil))) pa_nil))))
          pss_nil)))
      (pss_one (ps_ret (pe_callTy call_tuple_of (by rfl) (f_tuple Z) (by decide +kernel) (pa_cons (pv 1) pa_nil)))))), ?_⟩
    obtain ⟨v, S, m, b, rfl, hS, kk⟩ := h
    obtain ⟨hP, ⟨sa, dx, rl, stl, lv, xs, ss, rfl, hs, hl, hrow, hst, hss⟩, m1, mb, hlen, _⟩ := id hS
    refine ⟨by decide, fun fl hfl => ?_⟩
    have e0 : Ex H (upd H fl (.lst [])) := Evl.Ex.new hfl
    have hT := hP.1
    have hT2 := hP.2
    refine ⟨_, rfl, sa, _, dx, _, _, _, _, rfl, slt_ex e0 hs, sc_Stairs Z, sl_Stairs_own_period Z, rfl, S.T, rfl, by omega, by omega, for_range (lo := 0) (n := ((S.T : Int)).toNat) (fun i σ H' => ∃ (o1 : Option V) (ys : List V), σ = [some (.ref sa), some (.ref fl), o1] ∧ Ex H H' ∧ H' fl = some (.lst ys) ∧ ys.length ≤ i ∧ Pw (PairL (hid fl H')) ys (((List.range i).map fun (j : Nat) => ((j : Int), rwF S (m - 1) j)).filter fun c => decide (c.2 < rwF S (m - 1) (c.1 + 1)))) ⟨_, [], rfl, e0, upd_same, Nat.le_refl _, Pw.nil⟩ (fun i σ H1 hi hv => ?_) (fun σ H' hv => ?_)⟩
    · obtain ⟨o1, ys, rfl, e1, hfl1, hyl, hpw⟩ := hv
      rw [Int.zero_add]
      refine ⟨_, rfl, sa, dx, _, rfl, slt_ex e1 hs, _, rfl, _, S, m, b, i, rfl, hS.mono e1, _, rfl, sa, dx, _, rfl, slt_ex e1 hs, _, rfl, _, _, rfl, rfl, _, S, m, b, (i : Int) + 1, rfl, hS.mono e1, _, _, rfl, rfl, _, rfl, ?_⟩
      have hr : (List.range (i + 1)).map (fun (j : Nat) => ((j : Int), rwF S (m - 1) j)) = (List.range i).map (fun (j : Nat) => ((j : Int), rwF S (m - 1) j)) ++ [((i : Int), rwF S (m - 1) i)] := by rw [List.range_succ, List.map_append]; rfl
      by_cases hc : rwF S (m - 1) i < rwF S (m - 1) ((i : Int) + 1)
      · refine ifT (decide_eq_true hc) ?_
        refine ⟨_, rfl, .inl ⟨rfl, _, SqL.of hfl1⟩, _, rfl, _, rfl, sa, dx, _, rfl, slt_ex e1 hs, _, rfl, _, S, m, b, i, rfl, hS.mono e1, by show 2 ≤ sizeLine; decide, fun T hT => ?_⟩
        have hflT : fl ≠ T := ne_of_none hfl1 hT
        have e2 : Ex H1 (upd H1 T (.tup [.int (i : Nat), .int (rwF S (m - 1) i)])) := Evl.Ex.new hT
        refine ⟨fl, ys, _, rfl, rfl, e2 _ _ hfl1, Evl.sz_lt (by omega), ?_⟩
        have eh : Ex (hid fl H1) (hid fl (upd (upd H1 T (.tup [.int (i : Nat), .int (rwF S (m - 1) i)])) fl (.lst (ys ++ [.ref T])))) := hid_mono ((ExB.of e2).upd)
        refine ⟨_, ys ++ [.ref T], rfl, Evl.Ex.mut (e1.trans e2) hfl, upd_same, by rw [List.length_append]; simp; exact hyl, ?_⟩
        rw [hr, List.filter_append, List.filter_cons_of_pos (by exact decide_eq_true hc)]
        refine (hpw.mono fun _ _ z => z.mono eh).snoc ⟨T, rfl, ?_⟩
        rw [hid_ne (Ne.symm hflT), upd_ne (Ne.symm hflT), upd_same]
      · refine ifF (decide_eq_false hc) ⟨_, ys, rfl, e1, hfl1, by omega, ?_⟩
        rw [hr, List.filter_append, List.filter_cons_of_neg (by intro z; exact hc (of_decide_eq_true z)), List.filter_nil, List.append_nil]
        exact hpw
    · obtain ⟨o1, ys, rfl, e1, hfl1, hyl, hpw⟩ := hv
      refine ⟨_, rfl, fl, ys, rfl, .inl ⟨SqL.of hfl1, fun p hp => ?_⟩⟩
      have e2 : Ex H' (upd H' p (.tup ys)) := Evl.Ex.new hp
      exact kk p ys _ (e1.trans e2) upd_same (hpw.mono fun _ _ z => (z.mono hid_ex).mono e2)
end
end CZ
set_option Elab.async false
set_option linter.all false
set_option maxRecDepth 100000
set_option maxHeartbeats 2000000
namespace CZ
open PySem PySem.Spec PyProof.Rows L2
theorem Rn.up {P : Program} {w : World} {K : PySem.W.Frag} {mg : Str → Option Value} {base : Heap} {k k' : Nat} {f : Addr} {sp : Sp} (R : Rn P w K mg base k f sp) (h : k ≤ k') : Rn P w K mg base k' f sp := by
  obtain ⟨fd, ps, F, b⟩ := R.ex
  exact ⟨⟨fd, ps, F.mono h, b⟩, R.kp⟩
/-! ### the two levels -/
/-- a plain level of the row r -/
structure LevAt (K : PySem.W.Frag) (r : List Int) (H : Hp) (v : V) : Prop where
  ex : ∃ a dx l, v = .ref a ∧ SlX.Slt H a (C_Level K) dx [some (.ref l)] ∧ SqL K H l (r.map V.int)
theorem LevAt.mono {K : PySem.W.Frag} {r : List Int} {H H' : Hp} {v : V} (h : LevAt K r H v) (e : Ex H H') : LevAt K r H' v := let ⟨a, dx, l, h1, h2, h3⟩ := h.ex; ⟨a, dx, l, h1, slt_ex e h2, Evl.ex_l e h3⟩
def LV1 (K : PySem.W.Frag) (r : List Int) : LvI K := ⟨C_Level K, LevAt K r, fun _ => r, fun _ => true⟩
def spLevInit (K : PySem.W.Frag) : Sp := fun vs H Q _ => ∃ (H0 : Hp) (a dx l : Addr) (r : List Int), vs = [.ref a, .ref l] ∧ Made H0 H a (C_Level K) dx ∧ SqL K H0 l (r.map V.int) ∧ ∀ H', Ex H0 H' → LevAt K r H' (.ref a) → Q .non H'
/-- a room's level: the starts' maps, the trim, the lengths' stairs that stand -/
structure RoomAt (K : PySem.W.Frag) (D : StD) (ml : Nat) (trim : Int) (rs : List CM.Stp) (H : Hp) (v : V) : Prop where
  ex : ∃ a dx sa l xs, v = .ref a ∧ SlX.Slt H a (C_RoomLevel K) dx [some (.ref sa), some (.ref l), some (.int D.T), some (.int trim)] ∧ SqL K H l xs ∧ Pw (fun v s => MapAt K H v D.T s.a) xs rs ∧ StF K H (.ref sa) D ml true
  lb : ∀ s ∈ rs, s.lb = CM.lb s.a
theorem RoomAt.mono {K : PySem.W.Frag} {D : StD} {ml : Nat} {trim : Int} {rs : List CM.Stp} {H H' : Hp} {v : V} (h : RoomAt K D ml trim rs H v) (e : Ex H H') : RoomAt K D ml trim rs H' v := by
  obtain ⟨⟨a, dx, sa, l, xs, h1, h2, h3, h4, h5⟩, h6⟩ := h
  exact ⟨⟨a, dx, sa, l, xs, h1, slt_ex e h2, Evl.ex_l e h3, h4.mono fun _ _ z => z.mono e, h5.mono e⟩, h6⟩
/-- the room's level rows: of the lengths' rows as they stand -/
def lvR (D : StD) (ml : Nat) (trim : Int) (rs : List CM.Stp) : Nat → List Int
  | 0 => CM.rowOf D.T fun t => t - CM.FAR
  | k + 1 => CM.levR D.T rs trim (D.rw (min k (ml - 1)))
def LV2 (K : PySem.W.Frag) (D : StD) (ml : Nat) (trim : Int) (rs : List CM.Stp) : LvI K := ⟨C_RoomLevel K, RoomAt K D ml trim rs, lvR D ml trim rs, fun m => decide (ml ≤ m)⟩
def spRoomInit (K : PySem.W.Frag) : Sp := fun vs H Q _ => ∃ (H0 : Hp) (a dx l sa : Addr) (D : StD) (ml : Nat) (trim : Int) (rs : List CM.Stp) (xs : List V), vs = [.ref a, .int D.T, .ref l, .int trim, .ref sa] ∧ Made H0 H a (C_RoomLevel K) dx ∧ SqL K H0 l xs ∧ Pw (fun v s => MapAt K H0 v D.T s.a) xs rs ∧ StF K H0 (.ref sa) D ml true ∧ (∀ s ∈ rs, s.lb = CM.lb s.a) ∧
  ∀ H', Ex H0 H' → RoomAt K D ml trim rs H' (.ref a) → Q .non H'
def spRoomLeast (K : PySem.W.Frag) : Sp := fun vs H Q _ => ∃ (v : V) (r : Addr) (t : Int) (D : StD) (ml : Nat) (trim : Int) (rs : List CM.Stp) (row : List Int), vs = [v, .ref r, .int t] ∧ RoomAt K D ml trim rs H v ∧ SqL K H r (row.map V.int) ∧ row.length = D.T ∧
  Q (.int (rs.foldl (fun m s => max m (s.lb (CM.ext row D.T (s.a t) + trim))) (-CM.FAR))) H
section
variable {P : Program} {w : World} {K : PySem.W.Frag} {mg : Str → Option Value} {base : Heap}
theorem r_Level_init (Z : Zed K mg base) : Rn P w K mg base 1 (a_Level_init K) (spLevInit K) := by
  refine rn_of (u_Level_init Z) sco_Level_init (fun _ _ _ _ _ _ us hl => match us, hl with | [_, _], _ => rfl) (fun vs H Q E h => ?_) (fun cdv A outer s H vs Q E hr h => ?_)
  · obtain ⟨H0, a, dx, l, r, rfl, _⟩ := h
    rfl
  · refine ⟨_, (pss_one (SlX.ps_sl (pv 0) (pv 1))), ?_⟩
    obtain ⟨H0, a, dx, l, r, rfl, m, hL, k⟩ := h
    refine ⟨_, rfl, _, rfl, a, _, dx, _, _, _, rfl, m.slt, sc_Level Z, sl_Level_own_row Z, ?_⟩
    have e1 : Ex H0 (SlX.slH H a (C_Level K) dx [some (.ref l)]) := ex_slH m.ex m.na m.nd
    exact k _ e1 ⟨a, dx, l, rfl, SlX.slH_slt m.ne, Evl.ex_l e1 hL⟩
theorem r_Level_row (Z : Zed K mg base) (r : List Int) : Rn P w K mg base 1 (a_Level_row K) (spLRow K (LV1 K r)) := by
  refine rn_of (u_Level_row Z) sco_Level_row (fun _ _ _ _ _ _ us hl => match us, hl with | [_, _], _ => rfl) (fun vs H Q E h => ?_) (fun cdv A outer s H vs Q E hr h => ?_)
  · obtain ⟨v, m, rfl, _⟩ := h
    rfl
  · refine ⟨_, (pss_one (ps_ret (pe_slK K (pv 0)))), ?_⟩
    obtain ⟨v, m, rfl, ⟨a, dx, l, rfl, h2, h3⟩, hm, k⟩ := h
    exact ⟨_, rfl, a, _, dx, _, _, _, _, rfl, h2, sc_Level Z, sl_Level_own_row Z, rfl, k l _ (Evl.Ex.refl _) h3⟩
theorem r_Level_is_last (Z : Zed K mg base) (r : List Int) : Rn P w K mg base 1 (a_Level_is_last K) (spLLast K (LV1 K r)) := by
  refine rn_of (u_Level_is_last Z) sco_Level_is_last (fun _ _ _ _ _ _ us hl => match us, hl with | [_, _], _ => rfl) (fun vs H Q E h => ?_) (fun cdv A outer s H vs Q E hr h => ?_)
  · obtain ⟨v, m, rfl, _⟩ := h
    rfl
  · refine ⟨_, (pss_one (ps_ret pe_bl)), ?_⟩
    obtain ⟨v, m, rfl, _, hm, k⟩ := h
    exact k
theorem ok1 (Z : Zed K mg base) (r : List Int) : LvOk P w K mg base 1 (LV1 K r) where
  sc := sc_Level Z
  mono := fun h e => LevAt.mono h e
  slt := fun {H v} h => let ⟨a, dx, l, h1, h2, _⟩ := LevAt.ex h; ⟨a, dx, _, h1, h2⟩
  row := ⟨_, m_Level_row Z, r_Level_row Z r⟩
  last := ⟨_, m_Level_is_last Z, r_Level_is_last Z r⟩
theorem r_RoomLevel_init (Z : Zed K mg base) : Rn P w K mg base 1 (a_RoomLevel_init K) (spRoomInit K) := by
  refine rn_of (u_RoomLevel_init Z) sco_RoomLevel_init (fun _ _ _ _ _ _ us hl => match us, hl with | [_, _, _, _, _], _ => rfl) (fun vs H Q E h => ?_) (fun cdv A outer s H vs Q E hr h => ?_)
  · obtain ⟨H0, a, dx, l, sa, D, ml, trim, rs, xs, rfl, _⟩ := h
    rfl
  · refine ⟨_, (pss_cons (SlX.ps_sl (pv 0) (pv 1))
      (pss_cons (SlX.ps_sl (pv 0) (pv 2))
      (pss_cons (SlX.ps_sl (pv 0) (pv 3))
      (pss_one (SlX.ps_sl (pv 0) (pv 4)))))), ?_⟩
    obtain ⟨H0, a, dx, l, sa, D, ml, trim, rs, xs, rfl, m, hL, hx, hS, hlb, k⟩ := h
    refine ⟨_, rfl, _, rfl, a, _, dx, _, _, _, rfl, m.slt, sc_RoomLevel Z, sl_RoomLevel_own_period Z, ?_⟩
    refine ⟨_, rfl, _, rfl, a, _, dx, _, _, _, rfl, SlX.slH_slt m.ne, sc_RoomLevel Z, sl_RoomLevel_own_maps Z, ?_⟩
    rw [SlX.slH_twice m.ne]
    refine ⟨_, rfl, _, rfl, a, _, dx, _, _, _, rfl, SlX.slH_slt m.ne, sc_RoomLevel Z, sl_RoomLevel_own_trim Z, ?_⟩
    rw [SlX.slH_twice m.ne]
    refine ⟨_, rfl, _, rfl, a, _, dx, _, _, _, rfl, SlX.slH_slt m.ne, sc_RoomLevel Z, sl_RoomLevel_own_lengths Z, ?_⟩
    rw [SlX.slH_twice m.ne]
    have e1 : Ex H0 (SlX.slH H a (C_RoomLevel K) dx [some (.ref sa), some (.ref l), some (.int D.T), some (.int trim)]) := ex_slH m.ex m.na m.nd
    exact k _ e1 ⟨⟨a, dx, sa, l, xs, rfl, SlX.slH_slt m.ne, Evl.ex_l e1 hL, hx.mono fun _ _ z => z.mono e1, hS.mono e1⟩, hlb⟩
theorem r_RoomLevel_least (Z : Zed K mg base) : Rn P w K mg base 3 (a_RoomLevel_least K) (spRoomLeast K) := by
  have R_placed := r_placed (P := P) (w := w) Z
  have R_Map_at := r_Map_at (P := P) (w := w) Z
  have R_Map_least := r_Map_least (P := P) (w := w) Z
  refine rn_of (u_RoomLevel_least Z) sco_RoomLevel_least (fun _ _ _ _ _ _ us hl => match us, hl with | [_, _, _], _ => rfl) (fun vs H Q E h => ?_) (fun cdv A outer s H vs Q E hr h => ?_)
  · obtain ⟨v, r, t, D, ml, trim, rs, row, rfl, _⟩ := h
    rfl
  · refine ⟨_, (pss_cons (ps_set (i := 3) sco_RoomLevel_least.nd rfl (Or.inl rfl) (pe_un un_neg (C8.pe_gc (by rfl) (k_FAR Z))))
      (pss_cons (ps_for PassesOwn.never rfl (pi_listK K (pe_slK K (pv 0))) (pg_name (i := 4) sco_RoomLevel_least.nd rfl (Or.inl rfl))
        (pss_one (ps_set (i := 3) sco_RoomLevel_least.nd rfl (Or.inl rfl) (pe_callB (call_max2 rfl) (by rfl) (f_max Z) (by decide +kernel) (pa_cons (pv 3) (pa_cons (pe_ms (pv 4) (sc_Map Z) (m_Map_least Z) R_Map_least hr (pa_cons (pe_op op_add (pe_r R_placed (g_placed Z) hr (by rfl) (pa_cons (pv 1) (pa_cons (pe_slK K (pv 0)) (pa_cons (pe_ms (pv 4) (sc_Map Z) (m_Map_at Z) R_Map_at hr (pa_cons (pv 2) pa_nil)) pa_nil)))) (pe_slK K (pv 0))) pa_nil)) pa_nil))))))
      (pss_one (ps_ret (pv 3))))), ?_⟩
    obtain ⟨v, r, t, D, ml, trim, rs, row, rfl, ⟨⟨a, dx, sa, l, xs, rfl, hs, hL, hx, hS⟩, hlb⟩, hrow, hrl, k⟩ := h
    refine ⟨_, rfl, _, rfl, a, _, dx, _, _, _, _, rfl, hs, sc_RoomLevel Z, sl_RoomLevel_own_maps Z, rfl, l, rfl, ⟨_, hL⟩, for_it (walk_list (xs := xs)) (fun i σ H' => H' = H ∧ ∃ (o1 : Option V), σ = [some (.ref a), some (.ref r), some (.int t), some (.int ((rs.take i).foldl (fun m s => max m (s.lb (CM.ext row D.T (s.a t) + trim))) (-CM.FAR))), o1]) ⟨rfl, _, rfl⟩ (fun i σ H' _ hv => ?_) (fun i x σ H1 H2 hi hv hy => ?_) (fun σ H' hv => ?_)⟩
    · obtain ⟨rfl, _⟩ := hv
      exact hL
    · obtain ⟨rfl, o1, rfl⟩ := hv
      obtain ⟨rfl, hxx⟩ := hy
      obtain ⟨s, hsp, hm⟩ := hx.at hxx
      obtain ⟨a1, dx1, _, _, rfl, hs1, _⟩ := hm.ex
      refine ⟨_, rfl, _, rfl, a1, dx1, _, rfl, hs1, _, rfl, _, rfl, a, _, dx, _, _, _, _, rfl, hs, sc_RoomLevel Z, sl_RoomLevel_own_period Z, rfl, _, rfl, a1, dx1, _, rfl, hs1, _, rfl, _, D.T, s.a, t, rfl, hm, ?_⟩
      refine ⟨r, row, D.T, s.a t, rfl, hrow, by rw [hrl], hm.pd, _, rfl, a, _, dx, _, _, _, _, rfl, hs, sc_RoomLevel Z, sl_RoomLevel_own_trim Z, rfl, _, _, rfl, rfl, _, D.T, s.a, _, rfl, hm, _, _, rfl, ?_⟩
      refine ⟨rfl, some (.ref a1), ?_⟩
      rw [max_if, List.take_succ, hsp]
      show _ = [_, _, _, some (V.int ((rs.take i ++ [s]).foldl _ _)), _]
      rw [List.foldl_append, ← hlb s (List.mem_of_getElem? hsp)]
      rfl
    · obtain ⟨rfl, o1, rfl⟩ := hv
      rw [hx.1, List.take_length]
      exact ⟨_, rfl, k⟩
theorem r_RoomLevel_row (Z : Zed K mg base) (D : StD) (ml : Nat) (trim : Int) (rs : List CM.Stp) : Rn P w K mg base 7 (a_RoomLevel_row K) (spLRow K (LV2 K D ml trim rs)) := by
  have R_RoomLevel_least := r_RoomLevel_least (P := P) (w := w) Z
  have R_Stairs_row_of := r_Stairs_row_of (P := P) (w := w) Z (ok1 Z [])
  refine rn_of (u_RoomLevel_row Z) sco_RoomLevel_row (fun _ _ _ _ _ _ us hl => match us, hl with | [_, _], _ => rfl) (fun vs H Q E h => ?_) (fun cdv A outer s H vs Q E hr h => ?_)
  · obtain ⟨v, m, rfl, _⟩ := h
    rfl
  · refine ⟨_, (pss_cons (ps_if (pt_cmpR op_eq (pv 1) pe_int (nomark _))
        (pss_one (ps_ret (pe_lc (own := [("time", 3)]) (g := gName 3) (tt := tYes) rfl sco_RoomLevel_row.nd (pi_range1 (by rfl) (f_range Z) (pa_cons (pe_slK K (pv 0)) pa_nil)) (blkOk_by (by kernel_rfl)) (fun _ _ _ _ _ => (pg_name (i := 3) sco_RoomLevel_row.nd rfl (Or.inl rfl))) (fun _ _ _ _ _ => pts_nil) (fun _ _ _ _ _ => (pe_op op_sub (pv 3) (C8.pe_gc (by rfl) (k_FAR Z)))))))
        pss_nil)
      (pss_cons (ps_set (i := 2) sco_RoomLevel_row.nd rfl (Or.inr rfl) (pe_ms (pe_slK K (pv 0)) (sc_Stairs Z) (m_Stairs_row_of Z) R_Stairs_row_of hr (pa_cons (pe_op op_sub (pv 1) pe_int) pa_nil)))
      (pss_one (ps_ret (pe_lc (own := [("time", 3)]) (g := gName 3) (tt := tYes) rfl sco_RoomLevel_row.nd (pi_range1 (by rfl) (f_range Z) (pa_cons (pe_slK K (pv 0)) pa_nil)) (blkOk_by (by kernel_rfl)) (fun _ _ _ _ _ => (pg_name (i := 3) sco_RoomLevel_row.nd rfl (Or.inl rfl))) (fun _ _ _ _ _ => pts_nil) (fun _ _ _ _ _ => (pe_ms (pv 0) (sc_RoomLevel Z) (m_RoomLevel_least Z) R_RoomLevel_least hr (pa_cons (pv 2) (pa_cons (pv 3) pa_nil))))))))), ?_⟩
    obtain ⟨v, m, rfl, hA, hm, k⟩ := h
    obtain ⟨⟨a, dx, sa, l, xs, rfl, hs, hL, hx, hS⟩, hlb⟩ := id hA
    have hT := hS.pd.1
    have hT2 := hS.pd.2
    refine ⟨_, rfl, rfl, _, rfl, ?_⟩
    cases m with
    | zero =>
      refine ifT (decide_eq_true rfl) ?_
      refine ⟨_, rfl, a, _, dx, _, _, _, _, rfl, hs, sc_RoomLevel Z, sl_RoomLevel_own_period Z, rfl, D.T, rfl, by omega, by omega, fun Dd hD => ?_⟩
      refine lc_all (walk_range (lo := 0) (n := ((D.T : Int)).toNat)) (fun i y H' => y = .int ((i : Int) - CM.FAR)) hD (by omega) (fun i y H1 H2 e h => h) (fun H' e => trivial) (fun i x H1 H2 Qe hi e1 _ hy q => ?_) gname_mono (fun H' ys e1 h1 hn h7 => ?_)
      · obtain ⟨rfl, hx1⟩ := hy
        subst hx1
        exact ⟨rfl, _, rfl, _, _, rfl, rfl, q _ _ (Evl.Ex.refl _) (by show V.int (0 + (i : Int) - CM.FAR) = _; rw [Int.zero_add])⟩
      · rw [show ((D.T : Int)).toNat = D.T by omega] at hn
        refine k Dd H' e1 (SqL.of ?_)
        rw [h1, ints_of hn h7]
        rfl
    | succ m =>
      refine ifF (decide_eq_false fun y => by injection y with y; omega) ?_
      obtain ⟨sdx, _⟩ : ∃ dxs, True := ⟨dx, trivial⟩
      obtain ⟨_, ⟨sa', dxs, rl, stl, lv, xs', ss, e0, hss, _⟩, _⟩ := id hS
      cases e0
      refine ⟨_, rfl, a, _, dx, _, _, _, _, rfl, hs, sc_RoomLevel Z, sl_RoomLevel_own_lengths Z, rfl, sa, dxs, _, rfl, hss, _, rfl, _, _, rfl, rfl, ?_⟩
      refine ⟨_, D, ml, true, m, by show [V.ref sa, V.int (((m + 1 : Nat) : Int) - 1)] = _; rw [show ((m + 1 : Nat) : Int) - 1 = m by omega], hS, .inl rfl, fun r hr2 => ?_⟩
      refine ⟨_, rfl, a, _, dx, _, _, _, _, rfl, hs, sc_RoomLevel Z, sl_RoomLevel_own_period Z, rfl, D.T, rfl, by omega, by omega, fun Dd hD => ?_⟩
      refine lc_all (walk_range (lo := 0) (n := ((D.T : Int)).toNat)) (fun i y H' => y = .int (rs.foldl (fun m' s => max m' (s.lb (CM.ext (D.rw (min m (ml - 1))) D.T (s.a (i : Int)) + trim))) (-CM.FAR))) hD (by omega) (fun i y H1 H2 e h => h) (fun H' e => trivial) (fun i x H1 H2 Qe hi e1 _ hy q => ?_) gname_mono (fun H' ys e1 h1 hn h7 => ?_)
      · obtain ⟨rfl, hx1⟩ := hy
        subst hx1
        refine ⟨rfl, _, rfl, a, dx, _, rfl, slt_ex e1 hs, _, rfl, _, rfl, _, r, _, D, ml, trim, rs, _, rfl, RoomAt.mono hA e1, Evl.ex_l e1 hr2, hS.len _, q _ _ (Evl.Ex.refl _) ?_⟩
        rw [Int.zero_add]
      · rw [show ((D.T : Int)).toNat = D.T by omega] at hn
        refine k Dd H' e1 (SqL.of ?_)
        rw [h1, ints_of hn h7]
        rfl
theorem r_RoomLevel_is_last (Z : Zed K mg base) (D : StD) (ml : Nat) (trim : Int) (rs : List CM.Stp) : Rn P w K mg base 1 (a_RoomLevel_is_last K) (spLLast K (LV2 K D ml trim rs)) := by
  refine rn_of (u_RoomLevel_is_last Z) sco_RoomLevel_is_last (fun _ _ _ _ _ _ us hl => match us, hl with | [_, _], _ => rfl) (fun vs H Q E h => ?_) (fun cdv A outer s H vs Q E hr h => ?_)
  · obtain ⟨v, m, rfl, _⟩ := h
    rfl
  · refine ⟨_, (pss_one (ps_ret (pe_and (pe_slK K (pe_slK K (pv 0))) (pe_one (pe_cmpR op_ge (pv 1) (pe_callB (call_len_seqK K) (by rfl) (f_len Z) (by decide +kernel) (pa_cons (pe_slK K (pe_slK K (pv 0))) pa_nil)) (nomark _)))))), ?_⟩
    obtain ⟨v, m, rfl, hA, hm, k⟩ := h
    obtain ⟨⟨a, dx, sa, l, xs, rfl, hs, hL, hx, hS⟩, hlb⟩ := id hA
    obtain ⟨_, ⟨sa', dxs, rl, stl, lv, xs', ss, e0, hss, hrl, hrow, _⟩, _⟩ := id hS
    cases e0
    have hlen : xs'.length = ml := by rw [hrow.1, List.length_range]
    refine ⟨_, rfl, a, _, dx, _, _, _, _, rfl, hs, sc_RoomLevel Z, sl_RoomLevel_own_lengths Z, rfl, sa, _, dxs, _, _, _, _, rfl, hss, sc_Stairs Z, sl_Stairs_is_stable Z, rfl, _, rfl, ifT rfl ?_⟩
    refine ⟨_, rfl, _, rfl, a, _, dx, _, _, _, _, rfl, hs, sc_RoomLevel Z, sl_RoomLevel_own_lengths Z, rfl, sa, _, dxs, _, _, _, _, rfl, hss, sc_Stairs Z, sl_Stairs_own_rows Z, rfl, rl, _, rfl, .inl hrl, _, _, rfl, rfl, ?_⟩
    have e : decide ((xs'.length : Int) ≤ (m : Int)) = decide (ml ≤ m) := by
      rw [hlen]
      by_cases h : ml ≤ m
      · rw [decide_eq_true h, decide_eq_true (by omega)]
      · rw [decide_eq_false h, decide_eq_false (by omega)]
    show Q (.bl (decide ((xs'.length : Int) ≤ (m : Int)))) H
    rw [e]
    exact k
theorem ok2 (Z : Zed K mg base) (D : StD) (ml : Nat) (trim : Int) (rs : List CM.Stp) : LvOk P w K mg base 7 (LV2 K D ml trim rs) where
  sc := sc_RoomLevel Z
  mono := fun h e => RoomAt.mono h e
  slt := fun {H v} h => let ⟨a, dx, sa, l, xs, h1, h2, _⟩ := RoomAt.ex h; ⟨a, dx, _, h1, h2⟩
  row := ⟨_, m_RoomLevel_row Z, r_RoomLevel_row Z D ml trim rs⟩
  last := ⟨_, m_RoomLevel_is_last Z, (r_RoomLevel_is_last Z D ml trim rs).up (by decide)⟩
end
end CZ
set_option Elab.async false
set_option linter.all false
set_option maxRecDepth 100000
set_option maxHeartbeats 2000000
namespace CZ
open PySem PySem.Spec PyProof.Rows L2
theorem dc_it {J : It} {n : Nat} {G : Hp → Prop} {Y : Nat → Hp → V → Hp → Prop} (w : Walk J n G Y) {g : TG} {tt : TT} {tk tv : TE} {vs : List Nat} {σ : L2.St} {H1 : Hp} {D : Addr} {Qd : Hp → Prop} (Pv : Nat → Hp → Prop) (h0 : Pv 0 (upd H1 D (.dK []))) (hG : ∀ i H, i ≤ n → Pv i H → G H)
    (hs : ∀ i x H H', i < n → Pv i H → Y i H x H' → g x (wipe σ vs) H' fun σ2 H2 => wipe σ2 vs = wipe σ vs ∧ tt σ2 H2 fun b H3 =>
      if b = true then tk σ2 H3 fun y H4 => tv σ2 H4 fun z H5 => ∃ kvs k, y = kV k ∧ H5 D = some (.dK kvs) ∧ kvs.length < sizeLine ∧ Pv (i + 1) (upd H5 D (.dK (putK kvs k z))) else Pv (i + 1) H3) (hd : ∀ H, Pv n H → Qd H) :
    ∃ W : Nat → Nat → Hp → Prop, (∃ m, W 0 m (upd H1 D (.dK []))) ∧ ∀ i m H, W i m H →
      (J.stop i H ∧ Qd H) ∨ (J.go i H ∧ ∃ Nx : Hp → Prop, (∀ H', Nx H' → ∃ m', m' < m ∧ W (i + 1) m' H') ∧ ∀ x H', J.yld i H x H' → g x (wipe σ vs) H' fun σ2 H2 => wipe σ2 vs = wipe σ vs ∧ tt σ2 H2 fun b H3 =>
        if b = true then tk σ2 H3 fun y H4 => tv σ2 H4 fun z H5 => ∃ kvs k, y = kV k ∧ H5 D = some (.dK kvs) ∧ kvs.length < sizeLine ∧ Nx (upd H5 D (.dK (putK kvs k z))) else Nx H3) := by
  refine ⟨fun i m H => m = n - i ∧ i ≤ n ∧ Pv i H, ⟨n, by simp, Nat.zero_le _, h0⟩, ?_⟩
  rintro i m H ⟨rfl, hi, p⟩
  have q := hG i H hi p
  by_cases hlt : i < n
  · refine .inr ⟨w.goes i H hlt q, Pv (i + 1), fun H' p' => ⟨n - (i + 1), by omega, rfl, hlt, p'⟩, fun x H' y => hs i x H H' hlt p (w.yields i H x H' hlt q y)⟩
  · have e : i = n := by omega
    subst e
    exact .inl ⟨w.stops H q, hd H p⟩
theorem valV_no {kvs : List (Key × V)} {k : Key} (h : k ∉ kvs.map (·.1)) : valV kvs k = none := by
  unfold valV
  rw [List.find?_eq_none.mpr]
  · rfl
  · intro x hx z
    exact h (List.mem_map.mpr ⟨x, hx, of_decide_eq_true z⟩)
/-! ### a studio -/
structure Lo where
  trim : Nat
  ps : List CM.Prg
def Lo.T (lo : Lo) : Nat := (CM.period lo.ps).toNat
structure LoOk (lo : Lo) : Prop where
  ne : lo.ps ≠ []
  len : lo.ps.length ≤ 3
  fine : ∀ p ∈ lo.ps, Fine p
  names : ∀ (i j : Nat) (p q : CM.Prg), lo.ps[i]? = some p → lo.ps[j]? = some q → p.name = q.name → i = j
  dv : ∀ n ∈ CM.ns lo.ps, n ∣ 60
  trim : lo.trim ≤ 9
theorem LoOk.ok {lo : Lo} (o : LoOk lo) : ∀ p ∈ lo.ps, p.Ok := fun p h => (o.fine p h).ok
theorem LoOk.eqT {lo : Lo} (o : LoOk lo) : (lo.T : Int) = CM.period lo.ps := by
  have := CM.period_pos o.ok
  unfold Lo.T
  omega
theorem LoOk.T1 {lo : Lo} (o : LoOk lo) : 0 < lo.T ∧ lo.T ≤ 60 := by
  have h1 := CM.period_pos o.ok
  have h2 := CM.period_le o.ok (M := 60) (by decide) o.dv
  have := o.eqT
  omega
theorem LoOk.pd {lo : Lo} (o : LoOk lo) : Pd lo.T := by
  have := o.T1
  exact ⟨by omega, by omega⟩
theorem LoOk.pm {lo : Lo} (o : LoOk lo) {p : CM.Prg} (h : p ∈ lo.ps) (side : Bool) : CM.PM lo.T (CM.carry p side) := by
  rw [o.eqT]
  exact CM.carry_per o.ok h side
structure MapsL (K : PySem.W.Frag) (G : Hp) (lo : Lo) (side : Bool) (l : Addr) : Prop where
  ex : ∃ xs, SqL K G l xs ∧ Pw (fun v p => MapAt K G v lo.T (CM.carry p side)) xs lo.ps
theorem MapsL.mono {K : PySem.W.Frag} {G G' : Hp} {lo : Lo} {side : Bool} {l : Addr} (h : MapsL K G lo side l) (e : Ex G G') : MapsL K G' lo side l := let ⟨xs, h1, h2⟩ := h.ex; ⟨xs, Evl.ex_l e h1, h2.mono fun _ _ z => z.mono e⟩
def keyS (s : Str) : Key := .inr s
def keyNm (p : CM.Prg) : Key := .inr (nmS p)
structure StuF (K : PySem.W.Frag) (G : Hp) (v : V) (lo : Lo) (kd : Addr) : Prop where
  ex : ∃ a dx mp pd tx l0 l1 kvs, v = .ref a ∧ SlX.Slt G a (C_Studio K) dx [some (.ref kd), some (.ref mp), some (.int lo.T), some (.ref pd), some (.str tx), some (.int lo.trim)] ∧
    G mp = some (.dK [(keyS "start", .ref l0), (keyS "end", .ref l1)]) ∧ MapsL K G lo false l0 ∧ MapsL K G lo true l1 ∧ G pd = some (.dK kvs) ∧ kvs.map (·.1) = lo.ps.map keyNm
  ok : LoOk lo
theorem StuF.mono {K : PySem.W.Frag} {G G' : Hp} {v : V} {lo : Lo} {kd : Addr} (h : StuF K G v lo kd) (e : Ex G G') : StuF K G' v lo kd := by
  obtain ⟨⟨a, dx, mp, pd, tx, l0, l1, kvs, h1, h2, h3, h4, h5, h6, h7⟩, h8⟩ := h
  exact ⟨⟨a, dx, mp, pd, tx, l0, l1, kvs, h1, slt_ex e h2, e _ _ h3, h4.mono e, h5.mono e, e _ _ h6, h7⟩, h8⟩
/-- a new studio's object and its slots stand apart from what a program is made of -/
theorem PrAt.off {K : PySem.W.Frag} {H : Hp} {v : V} {p : CM.Prg} {a C dx : Addr} (h : PrAt K H v p) (ha : H a = some (.ins C dx [])) (hd : H dx = some (.own a)) : PrAt K (CZ.off [a, dx] H) v p := by
  have key : ∀ x o, H x = some o → (∀ C d fs, o ≠ .ins C d fs) → (∀ y, o ≠ .own y) → CZ.off [a, dx] H x = some o := fun x o h1 h2 h3 => by
    rw [off_out]
    · exact h1
    · intro z
      have e' : x = a ∨ x = dx := by simpa using z
      rcases e' with rfl | rfl
      · rw [ha] at h1; cases h1; exact h2 _ _ _ rfl
      · rw [hd] at h1; cases h1; exact h3 _ rfl
  have kl : ∀ l xs, SqL K H l xs → SqL K (CZ.off [a, dx] H) l xs := fun l xs h => by
    rcases h with (h | ⟨o, h⟩) | h
    · exact .inl (.inl (key _ _ h (fun _ _ _ z => nomatch z) (fun _ z => nomatch z)))
    · exact .inl (.inr ⟨o, key _ _ h (fun _ _ _ z => nomatch z) (fun _ z => nomatch z)⟩)
    · exact .inr h
  have kt : ∀ l xs, H l = some (.tup xs) → CZ.off [a, dx] H l = some (.tup xs) := fun l xs h => key _ _ h (fun _ _ _ z => nomatch z) (fun _ z => nomatch z)
  obtain ⟨⟨b, d, l, bk, bv, xs, h1, h2, h3, h4, h5, h6⟩⟩ := h
  refine ⟨⟨b, d, l, bk, bv, xs, h1, ?_, h3.imp id fun ⟨⟨q, e1, e2⟩⟩ => ⟨q, e1, kt _ _ e2⟩, kl _ _ h4, h5.mono fun _ _ ⟨⟨q1, q2, e1, e2, e3⟩⟩ => ⟨q1, q2, e1, kt _ _ e2, kt _ _ e3⟩, kt _ _ h6⟩⟩
  rcases h2 with ⟨_, e⟩ | ⟨e1, e2⟩
  · cases e
  · exact .inr ⟨key _ _ e1 (fun _ _ _ z => by unfold SlX.SlO at z; cases z) (fun _ z => by unfold SlX.SlO at z; cases z), key _ _ e2 (fun _ _ _ z => nomatch z) (fun _ z => nomatch z)⟩
theorem sq_off {K : PySem.W.Frag} {H : Hp} {a C dx l : Addr} {xs : List V} (ha : H a = some (.ins C dx [])) (hd : H dx = some (.own a)) (h : H l = some (.lst xs)) : CZ.off [a, dx] H l = some (.lst xs) := by
  rw [off_out]
  · exact h
  · intro z
    have e' : l = a ∨ l = dx := by simpa using z
    rcases e' with rfl | rfl
    · rw [ha] at h; cases h
    · rw [hd] at h; cases h
def spStudioInit (K : PySem.W.Frag) : Sp := fun vs H Q _ => ∃ (H0 : Hp) (a dx : Addr) (lo : Lo) (ls : List Ln), vs = [.ref a, .str (SX.S (TL.joinL [10] (ls.map Ln.L)))] ∧ Made H0 H a (C_Studio K) dx ∧ LoOk lo ∧ ls ≠ [] ∧ (∀ l ∈ ls, (10 : Nat) ∉ l.L) ∧ (TL.joinL [10] (ls.map Ln.L)).length ≤ 90000 ∧ ls.length ≤ 90000 ∧ Runs ⟨none, [], none⟩ ls ⟨some lo.trim, lo.ps, none⟩ ∧
  ∀ H' kd, Ex H0 H' → H0 kd = none → H' kd = some (.dK []) → StuF K (hid kd H') (.ref a) lo kd → Q .non H'
def MpI (K : PySem.W.Frag) (G : Hp) (lo : Lo) : Nat → List (Key × V) → Prop
  | 0, kvs => kvs = []
  | 1, kvs => ∃ l, kvs = [(keyS "start", .ref l)] ∧ MapsL K G lo false l
  | _, kvs => ∃ l l2, kvs = [(keyS "start", .ref l), (keyS "end", .ref l2)] ∧ MapsL K G lo false l ∧ MapsL K G lo true l2
theorem MpI.mono {K : PySem.W.Frag} {G G' : Hp} {lo : Lo} (e : Ex G G') : ∀ {i : Nat} {kvs : List (Key × V)}, MpI K G lo i kvs → MpI K G' lo i kvs
  | 0, _, h => h
  | 1, _, ⟨l, h1, h2⟩ => ⟨l, h1, h2.mono e⟩
  | _ + 2, _, ⟨l, l2, h1, h2, h3⟩ => ⟨l, l2, h1, h2.mono e, h3.mono e⟩
section
variable {P : Program} {w : World} {K : PySem.W.Frag} {mg : Str → Option Value} {base : Heap}
theorem r_Studio_init (Z : Zed K mg base) : Rn P w K mg base 8 (a_Studio_init K) (spStudioInit K) := by
  have R_read_lines := r_read_lines (P := P) (w := w) Z
  have R_period_of := r_period_of (P := P) (w := w) Z
  have R_Program_carried := r_Program_carried (P := P) (w := w) Z
  have R_Map_init := r_Map_init (P := P) (w := w) Z
  refine rn_of (u_Studio_init Z) sco_Studio_init (fun _ _ _ _ _ _ us hl => match us, hl with | [_, _], _ => rfl) (fun vs H Q E h => ?_) (fun cdv A outer s H vs Q E hr h => ?_)
  · obtain ⟨H0, a, dx, lo, ls, rfl, _⟩ := h
    rfl
  · refine ⟨_, (pss_cons (ps_set (i := 2) sco_Studio_init.nd rfl (Or.inl rfl) (pe_r R_read_lines (g_read_lines Z) hr (by rfl) (pa_cons (pv 1) pa_nil)))
      (pss_cons (SlX.ps_sl (pv 0) (pv 1))
      (pss_cons (SlX.ps_sl (pv 0) (pe_fld (pv 2) rfl))
      (pss_cons (SlX.ps_sl (pv 0) (pe_dc (own := [("program", 5)]) (g := gName 5) (tt := tYes) rfl sco_Studio_init.nd (pi_listK K (pe_fld (pv 2) rfl)) (blkOk_by (by kernel_rfl)) (fun _ _ _ _ _ => (pg_name (i := 5) sco_Studio_init.nd rfl (Or.inl rfl))) (fun _ _ _ _ _ => pts_nil) (fun _ _ _ _ _ => (pe_slK K (pv 5))) (fun _ _ _ _ _ => (pv 5))))
      (pss_cons (SlX.ps_sl (pv 0) (pe_r R_period_of (g_period_of Z) hr (by rfl) (pa_cons (pe_fld (pv 2) rfl) pa_nil)))
      (pss_cons (ps_if (pt_cmpR op_gt (pe_slK K (pv 0)) (C8.pe_gc (by rfl) (k_MOST_PERIOD Z)) (nomark _))
        (pss_one ps_never)
        pss_nil)
      (pss_cons (SlX.ps_sl (pv 0) pe_dnewK)
      (pss_cons (ps_for PassesOwn.never rfl (pi_tupK K (C8.pe_gc (by rfl) (k_SIDES Z))) (pg_name (i := 3) sco_Studio_init.nd rfl (Or.inr rfl))
        (pss_cons (ps_setLc (i := 4) (own := [("one", 6)]) (g := gName 6) (tt := tYes) rfl sco_Studio_init.nd rfl rfl (sw_true rfl rfl rfl (by decide +kernel)) (pi_listK K (pe_fld (pv 2) rfl)) (blkOk_by (by kernel_rfl)) (fun _ _ _ _ _ => (pg_name (i := 6) sco_Studio_init.nd rfl (Or.inr rfl))) (fun _ _ _ _ _ => pts_nil) (fun _ _ _ _ _ => (pe_lc (own := [("time", 8)]) (g := gName 8) (tt := tYes) rfl sco_Studio_init.nd (pi_range1 (by rfl) (f_range Z) (pa_cons (pe_slK K (pv 0)) pa_nil)) (blkOk_by (by kernel_rfl)) (fun _ _ _ _ _ => (pg_name (i := 8) sco_Studio_init.nd rfl (Or.inl rfl))) (fun _ _ _ _ _ => pts_nil) (fun _ _ _ _ _ => (pe_ms (pv 6) (sc_Program Z) (m_Program_carried Z) R_Program_carried hr (pa_cons (pv 3) (pa_cons (pv 8) pa_nil)))))))
        (pss_one (ps_dput (hu_of hr) (pe_slK K (pv 0)) (pv 3) (pe_lc (own := [("row", 7)]) (g := gName 7) (tt := tYes) rfl sco_Studio_init.nd (pi_listK K (pv 4)) (blkOk_by (by kernel_rfl)) (fun _ _ _ _ _ => (pg_name (i := 7) sco_Studio_init.nd rfl (Or.inl rfl))) (fun _ _ _ _ _ => pts_nil) (fun _ _ _ _ _ => (pe_new (mk_Map Z) R_Map_init (g_Map Z) hr (by rfl) (pa_cons (pe_slK K (pv 0)) (pa_cons (pv 7) pa_nil))))) rfl))))
      (pss_one (SlX.ps_sl (pv 0) pe_dnewK)))))))))), ?_⟩
    obtain ⟨H0, a, dx, lo, ls, rfl, m, hok, hne, h10, hlen, hll, hruns, k⟩ := h
    refine ⟨_, rfl, ls, some lo.trim, lo.ps, rfl, hne, h10, hlen, hll, hruns, hok.ne, by have := hok.len; omega, fun ra H1 e1 hR => ?_⟩
    obtain ⟨pl, xs, hO, hp⟩ := hR
    have ha1 : H1 a = some (.ins (C_Studio K) dx []) := e1 _ _ (by rw [m.is]; exact upd_same)
    have hd1 : H1 dx = some (.own a) := e1 _ _ (by rw [m.is, upd_ne m.ne]; exact upd_same)
    have hra : ra ∉ [a, dx] := fun z => by
      obtain ⟨⟨d0, h1⟩, _⟩ := hO
      have e' : ra = a ∨ ra = dx := by simpa using z
      rcases e' with e | e
      · rw [e, ha1] at h1
        injection h1 with h1
        injection h1 with _ _ h1
        cases h1
      · rw [e, hd1] at h1; cases h1
    have hpl := sq_off (K := K) ha1 hd1 hO.pl
    obtain ⟨⟨d0, hra1⟩, hpl1⟩ := hO
    have hra2 : off [a, dx] H1 ra = some (.ins (C_Reader K) d0 [("own_trim", .int lo.trim), ("own_programs", .ref pl)]) := by rw [off_out hra]; exact hra1
    have hpo : Pw (PrAt K (off [a, dx] H1)) xs lo.ps := hp.mono fun _ _ z => z.off ha1 hd1
    have ga : off [a, dx] H1 a = none := off_in (by simp)
    have gd : off [a, dx] H1 dx = none := off_in (by simp)
    have e01 : Ex H0 (off [a, dx] H1) := fun x o h => by
      rw [off_out (fun z => by
        have e' : x = a ∨ x = dx := by simpa using z
        rcases e' with e | e
        · rw [e, m.na] at h; cases h
        · rw [e, m.nd] at h; cases h)]
      exact e1 _ _ (m.ex _ _ h)
    have eG : Ex (off [a, dx] H1) H1 := off_ex
    refine ⟨_, rfl, _, rfl, a, _, dx, _, _, _, rfl, slt_ex e1 m.slt, sc_Studio Z, sl_Studio_own_text Z, ?_⟩
    generalize hG : off [a, dx] H1 = G at *
    have e2 : Ex G (SlX.slH H1 a (C_Studio K) dx (SlX.putS 4 (.str (SX.S (TL.joinL [10] (ls.map Ln.L)))) [])) := ex_slH eG ga gd
    refine ⟨_, rfl, ra, _, d0, _, .int lo.trim, rfl, e2 _ _ hra2, cl_Reader Z, na_Reader_own_trim Z, rd_l1, _, rfl, a, _, dx, _, _, _, rfl, SlX.slH_slt m.ne, sc_Studio Z, sl_Studio_own_trim Z, ?_⟩
    rw [SlX.slH_twice m.ne]
    have e3 : Ex G (SlX.slH H1 a (C_Studio K) dx (SlX.putS 5 (.int lo.trim) (SlX.putS 4 (.str (SX.S (TL.joinL [10] (ls.map Ln.L)))) []))) := ex_slH eG ga gd
    have hs3 : SlX.Slt (SlX.slH H1 a (C_Studio K) dx (SlX.putS 5 (.int lo.trim) (SlX.putS 4 (.str (SX.S (TL.joinL [10] (ls.map Ln.L)))) []))) a (C_Studio K) dx (SlX.putS 5 (.int lo.trim) (SlX.putS 4 (.str (SX.S (TL.joinL [10] (ls.map Ln.L)))) [])) := SlX.slH_slt m.ne
    refine ⟨_, rfl, ra, _, d0, _, .ref pl, rfl, e3 _ _ hra2, cl_Reader Z, na_Reader_own_programs Z, rd_l2, pl, rfl, ⟨_, SqL.of (e3 _ _ hpl)⟩, fun D hD => ?_⟩
    have eH3 := e3
    generalize hH3 : SlX.slH H1 a (C_Studio K) dx (SlX.putS 5 (.int lo.trim) (SlX.putS 4 (.str (SX.S (TL.joinL [10] (ls.map Ln.L)))) [])) = H3 at *
    have hDG : G D = none := Evl.fresh_back e3 hD
    refine dc_it (walk_list (xs := xs)) (fun i H' => Keep [D] H3 H' ∧ ∃ kvs, H' D = some (.dK kvs) ∧ kvs.map (·.1) = (lo.ps.take i).map keyNm) ⟨Keep.refl.upd (by simp), [], upd_same, rfl⟩ (fun i H' hi hv => ?_) (fun i x H4 H5 hi hv hy => ?_) (fun H4 hv => ?_)
    · exact Evl.ex_l (hv.1.ex e3 (by simpa using hDG)) (SqL.of hpl)
    · obtain ⟨rfl, hx⟩ := hy
      obtain ⟨k4, kvs, hkv, hkk⟩ := hv
      have e4 : Ex G H5 := k4.ex e3 (by simpa using hDG)
      obtain ⟨p, hpp, hp2⟩ := hpo.at hx
      obtain ⟨a', dx', l', bk, bv, vs', rfl, h2, _⟩ := (hp2.mono e4).ex
      refine ⟨rfl, _, rfl, a', _, dx', _, _, _, _, rfl, h2, sc_Program Z, sl_Program_own_name Z, rfl, _, rfl, kvs, keyNm p, rfl, hkv, ?_, (k4.upd (by simp)), kvs ++ [(keyNm p, .ref a')], ?_, ?_⟩
      · have h1 := congrArg List.length hkk
        rw [List.length_map, List.length_map, List.length_take] at h1
        have := hok.len
        exact Evl.sz_lt (by omega)
      · rw [upd_same, putK_new]
        refine valV_no ?_
        rw [hkk]
        intro hm
        obtain ⟨q, hq, hqe⟩ := List.mem_map.mp hm
        obtain ⟨j, hj⟩ := List.getElem?_of_mem hq
        have hjl := (List.getElem?_eq_some_iff.mp hj).1
        rw [List.length_take] at hjl
        rw [List.getElem?_take_of_lt (by omega)] at hj
        have hnm : q.name = p.name := by
          unfold keyNm nmS at hqe
          injection hqe with hqe
          exact SX.S_inj hqe
        have := hok.names j i q p hj hpp hnm
        omega
      · rw [List.map_append, hkk, List.take_succ, hpp, List.map_append]
        rfl
    · obtain ⟨k4, kvs, hkv, hkk⟩ := hv
      rw [hpo.1, List.take_length] at hkk
      have hs3n := slt_not hs3
      have hDa : a ≠ D := fun z => hs3n.2.2.2.2 (by rw [z]; exact hD)
      have hDd : dx ≠ D := fun z => hs3n.2.2.2.1 (by rw [z]; exact hD)
      have hs4 : SlX.Slt H4 a (C_Studio K) dx (SlX.putS 5 (.int lo.trim) (SlX.putS 4 (.str (SX.S (TL.joinL [10] (ls.map Ln.L)))) [])) := by
        rcases hs3 with ⟨_, z⟩ | ⟨z1, z2⟩
        · cases z
        · exact .inr ⟨k4 _ _ (by simpa using hDa) z1, k4 _ _ (by simpa using hDd) z2⟩
      have e4 : Ex G H4 := k4.ex e3 (by simpa using hDG)
      refine ⟨_, rfl, a, _, dx, _, _, _, rfl, hs4, sc_Studio Z, sl_Studio_own_programs Z, ?_⟩
      -- what is known behind the programs
      have sub : ∀ {X0 X1 : Hp}, Ex X0 X1 → X0 a = none → X0 dx = none → Ex X0 (off [a, dx] X1) := fun e z1 z2 x o h => by
        rw [off_out (fun z => by
          have e' : x = a ∨ x = dx := by simpa using z
          rcases e' with e | e
          · rw [e, z1] at h; cases h
          · rw [e, z2] at h; cases h)]
        exact e _ _ h
      have eG4 : Ex G (off [a, dx] H4) := sub e4 ga gd
      have ga4 : off [a, dx] H4 a = none := off_in (by simp)
      have gd4 : off [a, dx] H4 dx = none := off_in (by simp)
      have hD4 : off [a, dx] H4 D = some (.dK kvs) := by rw [off_out (by simp; exact ⟨Ne.symm hDa, Ne.symm hDd⟩)]; exact hkv
      have e4o : Ex (off [a, dx] H4) H4 := off_ex
      have e0G := e01.trans eG4
      have hra4 := eG4 _ _ hra2
      have hpl4 := eG4 _ _ hpl
      have hpo4 := hpo.mono fun _ _ z => z.mono eG4
      generalize hG4 : off [a, dx] H4 = G4 at *
      have e5 : Ex G4 (SlX.slH H4 a (C_Studio K) dx (SlX.putS 3 (.ref D) (SlX.putS 5 (.int lo.trim) (SlX.putS 4 (.str (SX.S (TL.joinL [10] (ls.map Ln.L)))) [])))) := ex_slH e4o ga4 gd4
      have hs5 : SlX.Slt (SlX.slH H4 a (C_Studio K) dx (SlX.putS 3 (.ref D) (SlX.putS 5 (.int lo.trim) (SlX.putS 4 (.str (SX.S (TL.joinL [10] (ls.map Ln.L)))) [])))) a (C_Studio K) dx _ := SlX.slH_slt m.ne
      refine ⟨_, rfl, ra, _, d0, _, .ref pl, rfl, e5 _ _ hra4, cl_Reader Z, na_Reader_own_programs Z, rd_l2, pl, xs, lo.ps, 60, rfl, SqL.of (e5 _ _ hpl4), hpo4.mono (fun _ _ z => z.mono e5), hok.fine, by decide, by decide, hok.dv, fun H6 e6 => ?_⟩
      rw [← hok.eqT]
      refine ⟨_, rfl, a, _, dx, _, _, _, rfl, slt_ex e6 hs5, sc_Studio Z, sl_Studio_own_period Z, ?_⟩
      have e7 : Ex G4 (SlX.slH H6 a (C_Studio K) dx (SlX.putS 2 (.int lo.T) (SlX.putS 3 (.ref D) (SlX.putS 5 (.int lo.trim) (SlX.putS 4 (.str (SX.S (TL.joinL [10] (ls.map Ln.L)))) []))))) := ex_slH (e5.trans e6) ga4 gd4
      have hs7 : SlX.Slt (SlX.slH H6 a (C_Studio K) dx (SlX.putS 2 (.int lo.T) (SlX.putS 3 (.ref D) (SlX.putS 5 (.int lo.trim) (SlX.putS 4 (.str (SX.S (TL.joinL [10] (ls.map Ln.L)))) []))))) a (C_Studio K) dx _ := SlX.slH_slt m.ne
      have hT := hok.T1
      refine ⟨_, rfl, a, _, dx, _, _, _, _, rfl, hs7, sc_Studio Z, sl_Studio_own_period Z, rfl, _, _, rfl, rfl, _, rfl, ifF (decide_eq_false (by omega)) ?_⟩
      intro mp hmp
      generalize hH7 : SlX.slH H6 a (C_Studio K) dx (SlX.putS 2 (.int lo.T) (SlX.putS 3 (.ref D) (SlX.putS 5 (.int lo.trim) (SlX.putS 4 (.str (SX.S (TL.joinL [10] (ls.map Ln.L)))) [])))) = H7 at *
      have e8 : Ex H7 (upd H7 mp (.dK [])) := Evl.Ex.new hmp
      refine ⟨_, rfl, a, _, dx, _, _, _, rfl, slt_ex e8 hs7, sc_Studio Z, sl_Studio_own_maps Z, ?_⟩
      have hs7n := slt_not hs7
      have nmpa : mp ≠ a := fun z => hs7n.2.2.2.2 (by rw [← z]; exact hmp)
      have nmpd : mp ≠ dx := fun z => hs7n.2.2.2.1 (by rw [← z]; exact hmp)
      have hmpG : G4 mp = none := Evl.fresh_back e7 hmp
      have e9 : Ex G4 (SlX.slH (upd H7 mp (.dK [])) a (C_Studio K) dx (SlX.putS 1 (.ref mp) (SlX.putS 2 (.int lo.T) (SlX.putS 3 (.ref D) (SlX.putS 5 (.int lo.trim) (SlX.putS 4 (.str (SX.S (TL.joinL [10] (ls.map Ln.L)))) [])))))) := ex_slH (e7.trans e8) ga4 gd4
      have hmp9 : (SlX.slH (upd H7 mp (.dK [])) a (C_Studio K) dx (SlX.putS 1 (.ref mp) (SlX.putS 2 (.int lo.T) (SlX.putS 3 (.ref D) (SlX.putS 5 (.int lo.trim) (SlX.putS 4 (.str (SX.S (TL.joinL [10] (ls.map Ln.L)))) [])))))) mp = some (.dK []) := by rw [SlX.slH_ne nmpa nmpd, upd_same]
      have hs9 : SlX.Slt (SlX.slH (upd H7 mp (.dK [])) a (C_Studio K) dx (SlX.putS 1 (.ref mp) (SlX.putS 2 (.int lo.T) (SlX.putS 3 (.ref D) (SlX.putS 5 (.int lo.trim) (SlX.putS 4 (.str (SX.S (TL.joinL [10] (ls.map Ln.L)))) [])))))) a (C_Studio K) dx (SlX.putS 1 (.ref mp) (SlX.putS 2 (.int lo.T) (SlX.putS 3 (.ref D) (SlX.putS 5 (.int lo.trim) (SlX.putS 4 (.str (SX.S (TL.joinL [10] (ls.map Ln.L)))) []))))) := SlX.slH_slt m.ne
      generalize hH9 : SlX.slH (upd H7 mp (.dK [])) a (C_Studio K) dx (SlX.putS 1 (.ref mp) (SlX.putS 2 (.int lo.T) (SlX.putS 3 (.ref D) (SlX.putS 5 (.int lo.trim) (SlX.putS 4 (.str (SX.S (TL.joinL [10] (ls.map Ln.L)))) []))))) = H9 at *
      generalize hvs9 : SlX.putS 1 (.ref mp) (SlX.putS 2 (.int lo.T) (SlX.putS 3 (.ref D) (SlX.putS 5 (.int lo.trim) (SlX.putS 4 (.str (SX.S (TL.joinL [10] (ls.map Ln.L)))) [])))) = vs9 at *
      have hvs9' : vs9 = [none, some (.ref mp), some (.int lo.T), some (.ref D), some (.str (SX.S (TL.joinL [10] (ls.map Ln.L)))), some (.int lo.trim)] := hvs9.symm
      subst hvs9'
      refine ⟨He.ga K "SIDES", rfl, ⟨_, t_SIDES Z H9⟩, for_it (walk_tup (xs := [V.str "start", V.str "end"])) (fun i σ H' => ∃ (o1 o2 o3 o4 o5 o6 : Option V) (kv : List (Key × V)), σ = [some (.ref a), some (.str (SX.S (TL.joinL [10] (ls.map Ln.L)))), some (.ref ra), o1, o2, o3, o4, o5, o6] ∧ Keep [mp] H9 H' ∧ H' mp = some (.dK kv) ∧ MpI K (off [a, dx, mp] H') lo i kv) ?_ (fun i σ H' _ hv => t_SIDES Z H') (fun i x σ H10 H10' hi hv hy => ?_) (fun σ H10 hv => ?_)⟩
      · exact ⟨_, _, _, _, _, _, [], rfl, Keep.refl, hmp9, rfl⟩
      · obtain ⟨rfl, hx⟩ := hy
        obtain ⟨o1, o2, o3, o4, o5, o6, kv, rfl, k10, hkv10, hM⟩ := hv
        have hside : ∃ side : Bool, x = .str (sideS side) ∧ i = (if side then 1 else 0) := by
          match i, hi, hx with
          | 0, _, hx => cases hx; exact ⟨false, rfl, rfl⟩
          | 1, _, hx => cases hx; exact ⟨true, rfl, rfl⟩
        obtain ⟨side, rfl, hi2⟩ := hside
        have e10 : Ex G4 H10' := k10.ex e9 (by simpa using hmpG)
        have hs10 : SlX.Slt H10' a (C_Studio K) dx [none, some (.ref mp), some (.int lo.T), some (.ref D), some (.str (SX.S (TL.joinL [10] (ls.map Ln.L)))), some (.int lo.trim)] := by
          rcases hs9 with ⟨_, z⟩ | ⟨z1, z2⟩
          · cases z
          · exact .inr ⟨k10 _ _ (by simpa using Ne.symm nmpa) z1, k10 _ _ (by simpa using Ne.symm nmpd) z2⟩
        refine ⟨_, rfl, ra, _, d0, _, .ref pl, rfl, e10 _ _ hra4, cl_Reader Z, na_Reader_own_programs Z, rd_l2, pl, rfl, ⟨_, SqL.of (e10 _ _ hpl4)⟩, fun D1 hD1 => ?_⟩
        refine lc_all (walk_list (xs := xs)) (fun i y H' => ∃ l p, lo.ps[i]? = some p ∧ y = .ref l ∧ SqL K (off [a, dx, mp] H') l ((CM.rowOf lo.T (CM.carry p side)).map V.int)) hD1 (by have := hok.len; have := hpo.1; omega) (fun i y X1 X2 e ⟨l, p, h1, h2, h3⟩ => ⟨l, p, h1, h2, Evl.ex_l (Keep.of e).off h3⟩) (fun H' e => Evl.ex_l e (SqL.of (e10 _ _ hpl4))) (fun j x1 H11 H11' Qe hj e11 hn1 hy1 q => ?_) gname_mono (fun H12 rows e12 hrows hrn hrow => ?_)
        · obtain ⟨rfl, hxj⟩ := hy1
          obtain ⟨p, hpp, hp2⟩ := hpo4.at hxj
          have hp11 := hp2.mono (e10.trans e11)
          have hpm := List.mem_of_getElem? hpp
          obtain ⟨a', dx', _, _, _, _, hx1, h2, _⟩ := hp11.ex
          subst hx1
          refine ⟨rfl, _, rfl, a, _, dx, _, _, _, _, rfl, slt_ex e11 hs10, sc_Studio Z, sl_Studio_own_period Z, rfl, lo.T, rfl, by omega, by omega, fun D2 hD2 => ?_⟩
          have nD : D1 ≠ D2 := fun z => hn1 (by rw [z]; exact hD2)
          refine lc_all (walk_range (lo := 0) (n := ((lo.T : Int)).toNat)) (fun t y H' => y = .int (CM.carry p side (t : Int))) hD2 (by omega) (fun i y X1 X2 e h => h) (fun H' e => trivial) (fun t x2 H13 H13' Qe2 ht e13 _ hy2 q2 => ?_) gname_mono (fun H13 ys e13 hys hyn h7 => ?_)
          · obtain ⟨rfl, hx2⟩ := hy2
            subst hx2
            refine ⟨rfl, _, rfl, a', dx', _, rfl, slt_ex e13 h2, _, rfl, _, rfl, _, p, side, 0 + (t : Int), rfl, hp11.mono e13, hok.fine p hpm, fun H14 e14 => q2 _ _ e14 (by rw [Int.zero_add])⟩
          · rw [show ((lo.T : Int)).toNat = lo.T by omega] at hyn
            refine q (.ref D2) H13 e13 ⟨D2, p, hpp, rfl, SqL.of ?_⟩
            have hs11n := slt_not (slt_ex e11 hs10)
            have hD2o : D2 ∉ [a, dx, mp] := fun z => by
              have e' : D2 = a ∨ D2 = dx ∨ D2 = mp := by simpa using z
              rcases e' with e | e | e
              · exact hs11n.2.2.2.2 (by rw [← e]; exact hD2)
              · exact hs11n.2.2.2.1 (by rw [← e]; exact hD2)
              · rw [e, e11 _ _ hkv10] at hD2; cases hD2
            rw [off_out hD2o, hid_ne (Ne.symm nD), hys, ints_of hyn h7]
            rfl
        · have e12' := e10.trans e12
          refine ⟨_, rfl, D1, rfl, ⟨_, SqL.of hrows⟩, fun D2 hD2 => ?_⟩
          have nD : D1 ≠ D2 := ne_of_none hrows hD2
          refine lc_all (walk_list (xs := rows)) (fun i y H' => ∃ p, lo.ps[i]? = some p ∧ MapAt K (off [a, dx, mp] H') y lo.T (CM.carry p side)) hD2 (by have := hok.len; have := hpo.1; omega) (fun i y X1 X2 e ⟨p, h1, h2⟩ => ⟨p, h1, h2.mono (Keep.of e).off⟩) (fun H' e => Evl.ex_l e (SqL.of hrows)) (fun j x1 H13 H13' Qe hj e13 hn2 hy1 q => ?_) gname_mono (fun H14 maps e14 hmaps hmn hmap => ?_)
          · obtain ⟨rfl, hxj⟩ := hy1
            obtain ⟨l, p, hpp, rfl, hl⟩ := hrow j _ hxj
            have hpm := List.mem_of_getElem? hpp
            refine ⟨rfl, _, rfl, a, _, dx, _, _, _, _, rfl, slt_ex (e12.trans e13) hs10, sc_Studio Z, sl_Studio_own_period Z, rfl, _, rfl, fun x2 d2 hx2 hd2 hne3 => ?_⟩
            have eh : Ex (off [a, dx, mp] (hid D1 H12)) (off [D2, a, dx, mp] H13') := fun x o h => by
              have hxm : x ∉ [a, dx, mp] := fun z => by rw [off_in z] at h; cases h
              rw [off_out hxm] at h
              have hx12 := hid_ex _ _ h
              have hx2 : x ≠ D2 := ne_of_none hx12 hD2
              rw [off_out (fun z => (List.mem_cons.mp z).elim hx2 hxm)]
              exact e13 _ _ hx12
            have hs13n := slt_not (slt_ex (e12.trans e13) hs10)
            have hol : ∀ d ∈ [D2, a, dx, mp], off [D2, a, dx, mp] H13' d = none ∧ H13' d ≠ none := fun d hd => ⟨off_in hd, by
              have e' : d = D2 ∨ d = a ∨ d = dx ∨ d = mp := by simpa using hd
              rcases e' with rfl | rfl | rfl | rfl
              · exact hn2
              · exact hs13n.2.2.2.2
              · exact hs13n.2.2.2.1
              · rw [(e12.trans e13) _ _ hkv10]; exact fun z => nomatch z⟩
            refine ⟨off [D2, a, dx, mp] H13', H13', x2, d2, l, lo.T, CM.carry p side, rfl, ⟨hx2, hd2, hne3, rfl⟩, off_ex, Evl.ex_l eh hl, hok.pd, hok.pm hpm side, fun G' H15 gr hm15 => ⟨rfl, ?_⟩⟩
            refine q _ _ gr.hh ⟨p, hpp, hm15.mono fun x o h => ?_⟩
            have hxo : x ∉ [D2, a, dx, mp] := fun z => by
              rw [gr.off (hol x z).1 (hol x z).2] at h
              cases h
            rw [off_out (fun z => hxo (List.mem_cons_of_mem _ z)), hid_ne (fun z => hxo (by rw [z]; simp))]
            exact gr.gh _ _ h
          · have e14' := e12'.trans e14
            have hs14 := slt_ex (e12.trans e14) hs10
            have hmp14 := (e12.trans e14) _ _ hkv10
            refine ⟨_, rfl, a, _, dx, _, _, _, _, rfl, hs14, sc_Studio Z, sl_Studio_own_maps Z, rfl, _, rfl, mp, _, rfl, DPut.k (k := keyS (sideS side)) hmp14 ?_, ?_⟩
            · have : kv.length ≤ 1 := by
                cases side with
                | false => rw [hi2] at hM; rw [show kv = [] from hM]; decide
                | true =>
                  rw [hi2] at hM
                  obtain ⟨l, h, _⟩ := hM
                  rw [h]
                  exact Nat.le_refl 1
              exact Evl.sz_lt (by omega)
            have nmD2 : mp ≠ D2 := ne_of_none (e12 _ _ hkv10) hD2
            have naD2 : a ≠ D2 := fun z => (slt_not (slt_ex e12 hs10)).2.2.2.2 (by rw [z]; exact hD2)
            have ndD2 : dx ≠ D2 := fun z => (slt_not (slt_ex e12 hs10)).2.2.2.1 (by rw [z]; exact hD2)
            have kp : Keep [mp] H10' (upd H14 mp (.dK (putK kv (keyS (sideS side)) (.ref D2)))) := (Keep.of (e12.trans e14)).upd (by simp)
            have kp3 : Keep [a, dx, mp] H10' (upd H14 mp (.dK (putK kv (keyS (sideS side)) (.ref D2)))) := (Keep.of (e12.trans e14)).upd (by simp)
            have hML : MapsL K (off [a, dx, mp] (upd H14 mp (.dK (putK kv (keyS (sideS side)) (.ref D2))))) lo side D2 := by
              refine ⟨maps, SqL.of (by rw [off_out (by simp; exact ⟨Ne.symm naD2, Ne.symm ndD2, Ne.symm nmD2⟩), upd_ne (Ne.symm nmD2)]; exact hmaps), ?_⟩
              have hrl : rows.length = lo.ps.length := by rw [hrn, hpo.1]
              refine pw_of (by rw [hmn, hrl]) fun i y e => ?_
              obtain ⟨p, h1, h2⟩ := hmap i y e
              refine ⟨p, h1, h2.mono fun x o h => ?_⟩
              have hxm : x ∉ [a, dx, mp] := fun z => by rw [off_in z] at h; cases h
              rw [off_out hxm] at h
              rw [off_out hxm, upd_ne (fun z => hxm (by rw [z]; simp))]
              exact hid_ex _ _ h
            have hML2 := hM.mono kp3.off
            refine ⟨_, _, _, _, _, _, _, rfl, k10.trans kp, upd_same, ?_⟩
            cases side with
            | false =>
              rw [hi2] at hML2 ⊢
              rw [show kv = [] from hML2] at hML ⊢
              exact ⟨D2, rfl, hML⟩
            | true =>
              rw [hi2] at hML2 ⊢
              obtain ⟨l, h, h2⟩ := hML2
              subst h
              refine ⟨l, D2, ?_, h2, hML⟩
              rw [putK_new _ (valV_no fun hm => absurd (List.mem_singleton.mp hm) (show ¬ keyS (sideS true) = keyS (Str.ofString "start") by decide +kernel))]
              rfl
      · obtain ⟨o1, o2, o3, o4, o5, o6, kv, rfl, k10, hkv10, hM⟩ := hv
        obtain ⟨l0, l1, rfl, hM0, hM1⟩ : ∃ l l2, kv = [(keyS "start", .ref l), (keyS "end", .ref l2)] ∧ MapsL K (off [a, dx, mp] H10) lo false l ∧ MapsL K (off [a, dx, mp] H10) lo true l2 := hM
        have hs10 : SlX.Slt H10 a (C_Studio K) dx [none, some (.ref mp), some (.int lo.T), some (.ref D), some (.str (SX.S (TL.joinL [10] (ls.map Ln.L)))), some (.int lo.trim)] := by
          rcases hs9 with ⟨_, z⟩ | ⟨z1, z2⟩
          · cases z
          · exact .inr ⟨k10 _ _ (by simpa using Ne.symm nmpa) z1, k10 _ _ (by simpa using Ne.symm nmpd) z2⟩
        intro kd hkd
        have e11 : Ex H10 (upd H10 kd (.dK [])) := Evl.Ex.new hkd
        refine ⟨_, rfl, a, _, dx, _, _, _, rfl, slt_ex e11 hs10, sc_Studio Z, sl_Studio_own_kept Z, ?_⟩
        have hsn := slt_not hs10
        have nka : kd ≠ a := fun z => hsn.2.2.2.2 (by rw [← z]; exact hkd)
        have nkd : kd ≠ dx := fun z => hsn.2.2.2.1 (by rw [← z]; exact hkd)
        have nkm : kd ≠ mp := fun z => by rw [z, hkv10] at hkd; cases hkd
        have e10 : Ex G4 H10 := k10.ex e9 (by simpa using hmpG)
        have hkd0 : H0 kd = none := Evl.fresh_back (e0G.trans e10) hkd
        have eF : Ex H0 (SlX.slH (upd H10 kd (.dK [])) a (C_Studio K) dx [some (.ref kd), some (.ref mp), some (.int lo.T), some (.ref D), some (.str (SX.S (TL.joinL [10] (ls.map Ln.L)))), some (.int lo.trim)]) := ex_slH ((e0G.trans e10).trans e11) m.na m.nd
        have eO : Ex (off [a, dx, mp] H10) (hid kd (SlX.slH (upd H10 kd (.dK [])) a (C_Studio K) dx [some (.ref kd), some (.ref mp), some (.int lo.T), some (.ref D), some (.str (SX.S (TL.joinL [10] (ls.map Ln.L)))), some (.int lo.trim)])) := fun x o h => by
          have hxm : x ∉ [a, dx, mp] := fun z => by rw [off_in z] at h; cases h
          rw [off_out hxm] at h
          have hxk : x ≠ kd := ne_of_none h hkd
          rw [hid_ne hxk, SlX.slH_ne (fun z => hxm (by rw [z]; simp)) (fun z => hxm (by rw [z]; simp)), upd_ne hxk]
          exact h
        refine k _ kd eF hkd0 (by rw [SlX.slH_ne nka nkd, upd_same]) ⟨⟨a, dx, mp, D, SX.S (TL.joinL [10] (ls.map Ln.L)), l0, l1, kvs, rfl, ?_, ?_, hM0.mono eO, hM1.mono eO, ?_, hkk⟩, hok⟩
        · exact slt_at2 (SlX.slH_slt m.ne) (hid_ne (Ne.symm nka)) (hid_ne (Ne.symm nkd))
        · rw [hid_ne (Ne.symm nkm), SlX.slH_ne nmpa nmpd, upd_ne (Ne.symm nkm)]
          exact hkv10
        · have hD10 := e10 _ _ hD4
          have nDk : D ≠ kd := ne_of_none hD10 hkd
          rw [hid_ne nDk, SlX.slH_ne (Ne.symm hDa) (Ne.symm hDd), upd_ne nDk]
          exact hD10
end
end CZ
set_option Elab.async false
set_option linter.all false
set_option maxRecDepth 100000
set_option maxHeartbeats 2000000
namespace CZ
open PySem PySem.Spec PyProof.Rows L2
/-! ### what is no dict stands apart from one -/
section
variable {K : PySem.W.Frag} {H : Hp} {kd : Addr} {kvs0 : List (Key × V)}
theorem keep_hid (hk : H kd = some (.dK kvs0)) {x : Addr} {o : HO} (h : H x = some o) (hn : ∀ kvs, o ≠ .dK kvs) : hid kd H x = some o := by
  rw [hid_ne]
  · exact h
  · intro z
    rw [z, hk] at h
    cases h
    exact hn _ rfl
theorem slt_hid (hk : H kd = some (.dK kvs0)) {a C dx : Addr} {v : Option V} {vs : List (Option V)} (h : SlX.Slt H a C dx (v :: vs)) : SlX.Slt (hid kd H) a C dx (v :: vs) := by
  rcases h with ⟨_, e⟩ | ⟨e1, e2⟩
  · cases e
  · exact .inr ⟨keep_hid hk e1 (fun _ z => by unfold SlX.SlO at z; cases z), keep_hid hk e2 (fun _ z => nomatch z)⟩
theorem sq_hid (hk : H kd = some (.dK kvs0)) {l : Addr} {xs : List V} (h : SqL K H l xs) : SqL K (hid kd H) l xs := by
  rcases h with (h | ⟨o, h⟩) | h
  · exact .inl (.inl (keep_hid hk h fun _ z => nomatch z))
  · exact .inl (.inr ⟨o, keep_hid hk h fun _ z => nomatch z⟩)
  · exact .inr h
theorem MapAt.hid (hk : H kd = some (.dK kvs0)) {v : V} {T : Nat} {f : Int → Int} (h : MapAt K H v T f) : MapAt K (CZ.hid kd H) v T f := by
  obtain ⟨⟨a, dx, r, l, h1, h2, h3, h4⟩, h5, h6⟩ := h
  exact ⟨⟨a, dx, r, l, h1, slt_hid hk h2, sq_hid hk h3, sq_hid hk h4⟩, h5, h6⟩
theorem StepAt.hid (hk : H kd = some (.dK kvs0)) {v : V} {T : Nat} {s : CM.Stp} (h : StepAt K T H v s) : StepAt K T (CZ.hid kd H) v s := by
  obtain ⟨⟨p, x1, x2, h1, h2, h3, h4⟩, h5⟩ := h
  exact ⟨⟨p, x1, x2, h1, keep_hid hk h2 (fun _ z => nomatch z), h3.hid hk, h4.hid hk⟩, h5⟩
theorem RowAt.hid (hk : H kd = some (.dK kvs0)) {S : StD} {v : V} {k : Nat} (h : RowAt K H S v k) : RowAt K (CZ.hid kd H) S v k := let ⟨⟨r, h1, h2⟩⟩ := h; ⟨⟨r, h1, sq_hid hk h2⟩⟩
theorem StF.hid (hk : H kd = some (.dK kvs0)) {v : V} {S : StD} {m : Nat} {b : Bool} (h : StF K H v S m b) : StF K (CZ.hid kd H) v S m b := by
  obtain ⟨h1, ⟨sa, dx, rl, stl, lv, xs, ss, h2, h3, h4, h5, h6, h7⟩, h8, h9, h10, h11⟩ := h
  exact ⟨h1, ⟨sa, dx, rl, stl, lv, xs, ss, h2, slt_hid hk h3, sq_hid hk h4, h5.mono fun _ _ z => z.hid hk, sq_hid hk h6, h7.mono fun _ _ z => z.hid hk⟩, h8, h9, h10, h11⟩
end
/-! ### a studio's state -/
noncomputable def Lo.ls (lo : Lo) : List CM.Stp := CM.lsOf lo.ps
noncomputable def Lo.rs (lo : Lo) : List CM.Stp := CM.rsOf lo.ps
noncomputable def Lo.SL (lo : Lo) : StD := ⟨lo.T, lo.ls, CM.L lo.T lo.ls⟩
noncomputable def Lo.SR (lo : Lo) : StD := ⟨lo.T, lo.rs, CM.Rm lo.T lo.ls lo.rs lo.trim⟩
inductive KS where
  | k0
  | kn (m : Nat)
  | km (ml : Nat)
  | ke (ml mr : Nat)
/-- the lengths' stairs as they stand -/
structure LenSt (K : PySem.W.Frag) (H : Hp) (s : V) (lo : Lo) (m : Nat) (b : Bool) : Prop where
  f : StF K H s lo.SL m b
  mle : m ≤ 11000
  st : b = true → lo.SL.rw m = lo.SL.rw (m - 1)
  nv : b = false → 2 * (lo.T : Int) < rwF lo.SL (m - 1) 0
structure RoomSt (K : PySem.W.Frag) (H : Hp) (r : V) (lo : Lo) (ml mr : Nat) : Prop where
  f : StF K H r lo.SR mr true
  st : lo.SR.rw mr = lo.SR.rw (mr - 1)
  le : ml ≤ mr
theorem LenSt.mono {K : PySem.W.Frag} {H H' : Hp} {s : V} {lo : Lo} {m : Nat} {b : Bool} (h : LenSt K H s lo m b) (e : Ex H H') : LenSt K H' s lo m b := ⟨h.f.mono e, h.mle, h.st, h.nv⟩
theorem RoomSt.mono {K : PySem.W.Frag} {H H' : Hp} {s : V} {lo : Lo} {ml mr : Nat} (h : RoomSt K H s lo ml mr) (e : Ex H H') : RoomSt K H' s lo ml mr := ⟨h.f.mono e, h.st, h.le⟩
def Kept (K : PySem.W.Frag) (G H : Hp) (kd : Addr) (lo : Lo) : KS → Prop
  | .k0 => H kd = some (.dK [])
  | .kn m => ∃ s, H kd = some (.dK [(keyS "length", s)]) ∧ LenSt K G s lo m false
  | .km ml => ∃ s, H kd = some (.dK [(keyS "length", s)]) ∧ LenSt K G s lo ml true
  | .ke ml mr => ∃ s r, H kd = some (.dK [(keyS "length", s), (keyS "room", r)]) ∧ LenSt K G s lo ml true ∧ RoomSt K G r lo ml mr
structure StuAt (K : PySem.W.Frag) (H : Hp) (v : V) (lo : Lo) (kd : Addr) (st : KS) : Prop where
  f : StuF K (hid kd H) v lo kd
  k : Kept K (hid kd H) H kd lo st
theorem StuAt.dict {K : PySem.W.Frag} {H : Hp} {v : V} {lo : Lo} {kd : Addr} {st : KS} (h : StuAt K H v lo kd st) : ∃ kvs, H kd = some (.dK kvs) := by
  have k := h.k
  cases st with
  | k0 => exact ⟨_, k⟩
  | kn m => obtain ⟨_, h, _⟩ := k; exact ⟨_, h⟩
  | km m => obtain ⟨_, h, _⟩ := k; exact ⟨_, h⟩
  | ke m r => obtain ⟨_, _, h, _⟩ := k; exact ⟨_, h⟩
theorem StuAt.mono {K : PySem.W.Frag} {H H' : Hp} {v : V} {lo : Lo} {kd : Addr} {st : KS} (h : StuAt K H v lo kd st) (e : Ex H H') : StuAt K H' v lo kd st := by
  have eh : Ex (hid kd H) (hid kd H') := hid_mono (ExB.of e)
  refine ⟨h.f.mono eh, ?_⟩
  have k := h.k
  cases st with
  | k0 => exact e _ _ k
  | kn m => obtain ⟨s, h1, h2⟩ := k; exact ⟨s, e _ _ h1, h2.mono eh⟩
  | km m => obtain ⟨s, h1, h2⟩ := k; exact ⟨s, e _ _ h1, h2.mono eh⟩
  | ke m r => obtain ⟨s, r, h1, h2, h3⟩ := k; exact ⟨s, r, e _ _ h1, h2.mono eh, h3.mono eh⟩
theorem StuAt.u {K : PySem.W.Frag} {H : Hp} {v : V} {lo : Lo} {kd : Addr} {st : KS} (h : StuAt K H v lo kd st) : StuF K H v lo kd := h.f.mono hid_ex
theorem LoOk.lok {lo : Lo} (o : LoOk lo) : ∀ s ∈ lo.ls, CM.StpOk lo.T s := fun s hs => by rw [o.eqT]; exact CM.ls_ok o.ok s hs
theorem LoOk.rok {lo : Lo} (o : LoOk lo) : ∀ s ∈ lo.rs, CM.RoomOk lo.T s := fun s hs => by rw [o.eqT]; exact CM.rs_ok o.ok s hs
/-! ### specs -/
def kindOf (b : Bool) : Str := if b then "room" else "length"
def spTrim (K : PySem.W.Frag) : Sp := fun vs H Q _ => ∃ v lo kd, vs = [v] ∧ StuF K H v lo kd ∧ Q (.int lo.trim) H
def spPeriod (K : PySem.W.Frag) : Sp := fun vs H Q _ => ∃ v lo kd, vs = [v] ∧ StuF K H v lo kd ∧ Q (.int lo.T) H
def spPrograms (K : PySem.W.Frag) : Sp := fun vs H Q _ => ∃ v lo kd, vs = [v] ∧ StuF K H v lo kd ∧ ∀ q H', H q = none → Ex H H' → H' q = some (.tup (lo.ps.map fun p => V.str (nmS p))) → Q (.ref q) H'
def spIsAny (K : PySem.W.Frag) : Sp := fun vs H Q _ => ∃ v lo kd kind, vs = [v, .str kind] ∧ StuF K H v lo kd ∧ ((kind = Str.ofString "gap" ∧ Q (.bl true) H) ∨ (∃ b, kind = kindOf b ∧ Q (.bl false) H))
def spStepsOf (K : PySem.W.Frag) : Sp := fun vs H Q _ => ∃ v lo kd b, vs = [v, .str (kindOf b)] ∧ StuF K H v lo kd ∧ ∀ l xs H', Ex H H' → H' l = some (.lst xs) → Pw (StepAt K lo.T H') xs (if b then lo.rs else lo.ls) → Q (.ref l) H'
section
variable {P : Program} {w : World} {K : PySem.W.Frag} {mg : Str → Option Value} {base : Heap}
theorem r_Studio_trim (Z : Zed K mg base) : Rn P w K mg base 1 (a_Studio_trim K) (spTrim K) := by
  refine rn_of (u_Studio_trim Z) sco_Studio_trim (fun _ _ _ _ _ _ us hl => match us, hl with | [_], _ => rfl) (fun vs H Q E h => ?_) (fun cdv A outer s H vs Q E hr h => ?_)
  · obtain ⟨v, lo, kd, rfl, _⟩ := h
    rfl
  · refine ⟨_, (pss_one (ps_ret (pe_slK K (pv 0)))), ?_⟩
    obtain ⟨v, lo, kd, rfl, ⟨⟨a, dx, mp, pd, tx, l0, l1, kvs, rfl, hs, _⟩, _⟩, k⟩ := h
    exact ⟨_, rfl, a, _, dx, _, _, _, _, rfl, hs, sc_Studio Z, sl_Studio_own_trim Z, rfl, k⟩
theorem r_Studio_period (Z : Zed K mg base) : Rn P w K mg base 1 (a_Studio_period K) (spPeriod K) := by
  refine rn_of (u_Studio_period Z) sco_Studio_period (fun _ _ _ _ _ _ us hl => match us, hl with | [_], _ => rfl) (fun vs H Q E h => ?_) (fun cdv A outer s H vs Q E hr h => ?_)
  · obtain ⟨v, lo, kd, rfl, _⟩ := h
    rfl
  · refine ⟨_, (pss_one (ps_ret (pe_slK K (pv 0)))), ?_⟩
    obtain ⟨v, lo, kd, rfl, ⟨⟨a, dx, mp, pd, tx, l0, l1, kvs, rfl, hs, _⟩, _⟩, k⟩ := h
    exact ⟨_, rfl, a, _, dx, _, _, _, _, rfl, hs, sc_Studio Z, sl_Studio_own_period Z, rfl, k⟩
theorem r_Studio_programs (Z : Zed K mg base) : Rn P w K mg base 1 (a_Studio_programs K) (spPrograms K) := by
  refine rn_of (u_Studio_programs Z) sco_Studio_programs (fun _ _ _ _ _ _ us hl => match us, hl with | [_], _ => rfl) (fun vs H Q E h => ?_) (fun cdv A outer s H vs Q E hr h => ?_)
  · obtain ⟨v, lo, kd, rfl, _⟩ := h
    rfl
  · refine ⟨_, (pss_one (ps_ret (pe_callTy (call_tuple_dK rfl) (by rfl) (f_tuple Z) (by decide +kernel) (pa_cons (pe_slK K (pv 0)) pa_nil)))), ?_⟩
    obtain ⟨v, lo, kd, rfl, ⟨⟨a, dx, mp, pd, tx, l0, l1, kvs, rfl, hs, _, _, _, hpd, hkk⟩, _⟩, k⟩ := h
    refine ⟨_, rfl, a, _, dx, _, _, _, _, rfl, hs, sc_Studio Z, sl_Studio_own_programs Z, rfl, pd, kvs, rfl, hpd, fun q hq => k q _ hq (Evl.Ex.new hq) ?_⟩
    have e : (kvs.map fun kv => kV kv.1) = lo.ps.map fun p => V.str (nmS p) := by
      have e1 : (kvs.map fun kv => kV kv.1) = (kvs.map (·.1)).map kV := by rw [List.map_map]; rfl
      rw [e1, hkk, List.map_map]
      rfl
    rw [upd_same, e]
theorem r_is_any (Z : Zed K mg base) : Rn P w K mg base 3 (a_is_any K) (spIsAny K) := by
  have R_Studio_trim := r_Studio_trim (P := P) (w := w) Z
  refine rn_of (u_is_any Z) sco_is_any (fun _ _ _ _ _ _ us hl => match us, hl with | [_, _], _ => rfl) (fun vs H Q E h => ?_) (fun cdv A outer s H vs Q E hr h => ?_)
  · obtain ⟨v, lo, kd, kind, rfl, _⟩ := h
    rfl
  · refine ⟨_, (pss_one (ps_ret (pe_or (pe_and (pe_cmpR op_eq (pv 1) (C8.pe_gc (by rfl) (k_GAP Z)) (nomark _)) (pe_one (pe_cmpR op_notN (pe_pr (pv 0) (sc_Studio Z) (p_Studio_trim Z) R_Studio_trim hr) pe_non (nomark _)))) (pe_one (pe_and (pe_cmpR op_eq (pv 1) (C8.pe_gc (by rfl) (k_ROOM Z)) (nomark _)) (pe_one (pe_cmpR op_isN (pe_pr (pv 0) (sc_Studio Z) (p_Studio_trim Z) R_Studio_trim hr) pe_non (nomark _)))))))), ?_⟩
    obtain ⟨v, lo, kd, kind, rfl, hF, h⟩ := h
    obtain ⟨⟨a, dx, mp, pd, tx, l0, l1, kvs, rfl, hs, _⟩, _⟩ := id hF
    rcases h with ⟨rfl, k⟩ | ⟨b, rfl, k⟩
    · exact ⟨_, rfl, rfl, _, rfl, ifT (decide_eq_true rfl) ⟨_, rfl, a, dx, _, rfl, hs, _, lo, kd, rfl, hF, rfl, _, rfl, ifT rfl k⟩⟩
    · refine ⟨_, rfl, by cases b <;> rfl, _, rfl, ifF (by cases b <;> exact str_ne (by decide +kernel)) ⟨_, rfl, ifF rfl ⟨_, rfl, by cases b <;> rfl, _, rfl, ?_⟩⟩⟩
      cases b with
      | true => exact ifT (decide_eq_true rfl) ⟨_, rfl, a, dx, _, rfl, hs, _, lo, kd, rfl, hF, rfl, k⟩
      | false => exact ifF (str_ne (by decide +kernel)) k
theorem r_steps_of (Z : Zed K mg base) : Rn P w K mg base 1 (a_steps_of K) (spStepsOf K) := by
  refine rn_of (u_steps_of Z) sco_steps_of (fun _ _ _ _ _ _ us hl => match us, hl with | [_, _], _ => rfl) (fun vs H Q E h => ?_) (fun cdv A outer s H vs Q E hr h => ?_)
  · obtain ⟨v, lo, kd, b, rfl, _⟩ := h
    rfl
  · refine ⟨_, (pss_cons (ps_par (i := 2) (j := 3) rfl sco_steps_of.nd rfl rfl (by decide) rfl rfl (pa_cons (pe_dget (hu_of hr) (pe_slK K (pv 0)) (C8.pe_gc (by rfl) (k_START Z)) (fun _ _ => rfl)) (pa_cons (pe_dget (hu_of hr) (pe_slK K (pv 0)) (C8.pe_gc (by rfl) (k_END Z)) (fun _ _ => rfl)) pa_nil)) (by rfl))
      (pss_cons (ps_if (pt_cmpR op_eq (pv 1) (C8.pe_gc (by rfl) (k_LENGTH Z)) (nomark _))
        (pss_one (ps_ret (pe_listzipK K rfl (by rfl) (f_list Z) (by rfl) (f_zip Z) (pa_cons (pv 2) (pa_cons (pv 3) pa_nil)))))
        pss_nil)
      (pss_one (ps_ret (pe_ifExp (pt_cmpR op_eq (pv 1) (C8.pe_gc (by rfl) (k_GAP Z)) (nomark _)) (pe_listzipK K rfl (by rfl) (f_list Z) (by rfl) (f_zip Z) (pa_cons (pv 3) (pa_cons (pv 2) pa_nil))) (pe_listzipK K rfl (by rfl) (f_list Z) (by rfl) (f_zip Z) (pa_cons (pv 2) (pa_cons (pv 2) pa_nil)))))))), ?_⟩
    obtain ⟨v, lo, kd, b, rfl, ⟨⟨a, dx, mp, pd, tx, l0, l1, kvs, rfl, hs, hmp, ⟨xs0, hl0, hx0⟩, ⟨xs1, hl1, hx1⟩, _⟩, hok⟩, k⟩ := h
    have g0 : DGet H mp (.str "start") (some (.ref l0)) := DGet.k (k := keyS "start") hmp
    have g1 : DGet H mp (.str "end") (some (.ref l1)) := by
      have h1 := DGet.k (k := keyS "end") hmp
      have h2 : valV [(keyS "start", V.ref l0), (keyS "end", V.ref l1)] (keyS "end") = some (.ref l1) := by
        have hne : ¬ keyS "start" = keyS "end" := by decide +kernel
        simp [valV, List.find?_cons, hne]
      rw [h2] at h1
      exact h1
    have hlen := hok.len
    refine ⟨_, rfl, a, _, dx, _, _, _, _, rfl, hs, sc_Studio Z, sl_Studio_own_maps Z, rfl, mp, _, rfl, g0, _, rfl, a, _, dx, _, _, _, _, rfl, hs, sc_Studio Z, sl_Studio_own_maps Z, rfl, mp, _, rfl, g1, _, _, rfl, ?_⟩
    refine ⟨_, rfl, by cases b <;> rfl, _, rfl, ?_⟩
    cases b with
    | false =>
      refine ifT (decide_eq_true rfl) ⟨_, rfl, _, rfl, l0, l1, xs0, xs1, rfl, hl0, hl1, by rw [hx0.1]; omega, fun q zs H' hq e hqz hzn hzz => ?_⟩
      refine k q zs H' e hqz (pw_of (by rw [hzn, hx0.1, hx1.1, Nat.min_self]; exact (List.length_map ..).symm) fun i y hy => ?_)
      obtain ⟨t, x, x', rfl, ht, h1, h2⟩ := hzz i y hy
      obtain ⟨p, hp, hm⟩ := hx0.at h1
      obtain ⟨p', hp', hm'⟩ := hx1.at h2
      rw [hp] at hp'
      cases hp'
      exact ⟨CM.stpL p, by show (lo.ps.map CM.stpL)[i]? = _; rw [List.getElem?_map, hp]; rfl, ⟨t, x, x', rfl, ht, hm.mono e, hm'.mono e⟩, rfl⟩
    | true =>
      refine ifF (str_ne (by decide +kernel)) ⟨_, rfl, rfl, _, rfl, ifF (str_ne (by decide +kernel)) ⟨_, rfl, _, rfl, l0, l0, xs0, xs0, rfl, hl0, hl0, by rw [hx0.1]; omega, fun q zs H' hq e hqz hzn hzz => ?_⟩⟩
      refine k q zs H' e hqz (pw_of (by rw [hzn, hx0.1, Nat.min_self]; exact (List.length_map ..).symm) fun i y hy => ?_)
      obtain ⟨t, x, x', rfl, ht, h1, h2⟩ := hzz i y hy
      obtain ⟨p, hp, hm⟩ := hx0.at h1
      obtain ⟨p', hp', hm'⟩ := hx0.at h2
      rw [hp] at hp'
      cases hp'
      exact ⟨CM.stpR p, by show (lo.ps.map CM.stpR)[i]? = _; rw [List.getElem?_map, hp]; rfl, ⟨t, x, x', rfl, ht, hm.mono e, hm'.mono e⟩, rfl⟩
end
end CZ
set_option Elab.async false
set_option linter.all false
set_option maxRecDepth 100000
set_option maxHeartbeats 2000000
namespace CZ
open PySem PySem.Spec PyProof.Rows L2
/-! ### the settling, as numbers -/
theorem gap_le {B : Int} {c : Nat} : ∀ {r : List Int}, (∀ x ∈ r, B - x ≤ c) → CM.gapTo B r ≤ r.length * c
  | [], _ => by simp [CM.gapTo]
  | x :: r, h => by
    have ih := gap_le (r := r) fun y hy => h y (List.mem_cons_of_mem _ hy)
    have h1 := h x (List.mem_cons_self ..)
    unfold CM.gapTo at ih ⊢
    rw [List.map_cons, List.sum_cons, List.length_cons, Nat.add_mul]
    omega
theorem Lo.ls_len (lo : Lo) : lo.ls.length = lo.ps.length := List.length_map ..
theorem Lo.rs_len (lo : Lo) : lo.rs.length = lo.ps.length := List.length_map ..
theorem LoOk.sL {lo : Lo} (o : LoOk lo) (k : Nat) : (lo.SL.rw k).length = lo.T := CM.L_len k
theorem LoOk.sR {lo : Lo} (o : LoOk lo) (k : Nat) : (lo.SR.rw k).length = lo.T := CM.Rm_len _ k
theorem setL {K : PySem.W.Frag} {lo : Lo} (o : LoOk lo) : SetOk K (LV1 K (CM.base1 lo.T)) lo.SL (some (2 * (lo.T : Int))) (fun m => CM.gapTo (3 * lo.T + 1) (CM.L lo.T lo.ls (m - 1))) where
  ll := fun m _ => (CM.rowOf_len _ _ : (CM.base1 lo.T).length = lo.T)
  nx := fun m hm => by
    obtain ⟨k, rfl⟩ : ∃ k, m = k + 1 := ⟨m - 1, by omega⟩
    rfl
  fall := fun m hm hB hne => by
    obtain ⟨k, rfl⟩ : ∃ k, m = k + 1 := ⟨m - 1, by omega⟩
    exact CM.L_falls o.T1.1 o.lok (k := k) (hB _ rfl) fun z => hne ⟨z, rfl⟩
theorem setL_bound {lo : Lo} (o : LoOk lo) : 1 + CM.gapTo (3 * lo.T + 1) (CM.L lo.T lo.ls (1 - 1)) ≤ 11000 := by
  have hT := o.T1
  have h := gap_le (B := 3 * lo.T + 1) (c := 180) (r := CM.L lo.T lo.ls 0) fun x hx => by
    obtain ⟨i, _, rfl⟩ := List.mem_map.mp hx
    show 3 * (lo.T : Int) + 1 - ((i : Int) + 1) ≤ (180 : Nat)
    omega
  rw [CM.L_len] at h
  have : lo.T * 180 ≤ 60 * 180 := Nat.mul_le_mul_right _ hT.2
  show 1 + CM.gapTo (3 * lo.T + 1) (CM.L lo.T lo.ls 0) ≤ 11000
  omega
theorem L_stable {lo : Lo} {ml : Nat} (hs : lo.SL.rw ml = lo.SL.rw (ml - 1)) (h1 : 1 ≤ ml) (k : Nat) : lo.SL.rw (min k (ml - 1)) = lo.SL.rw k := by
  by_cases h : k ≤ ml - 1
  · rw [Nat.min_eq_left h]
  · rw [Nat.min_eq_right (by omega)]
    have hs2 : CM.L lo.T lo.ls (ml - 1 + 1) = CM.L lo.T lo.ls (ml - 1) := by rw [show ml - 1 + 1 = ml by omega]; exact hs
    have h3 := CM.L_same hs2 (k - (ml - 1))
    rw [show ml - 1 + (k - (ml - 1)) = k by omega] at h3
    exact h3.symm
theorem lvR_eq {lo : Lo} {ml : Nat} (hs : lo.SL.rw ml = lo.SL.rw (ml - 1)) (h1 : 1 ≤ ml) : ∀ k, lvR lo.SL ml lo.trim lo.rs k = CM.levs lo.T lo.ls lo.rs lo.trim k
  | 0 => rfl
  | k + 1 => by
    show CM.levR lo.T lo.rs lo.trim (lo.SL.rw (min k (ml - 1))) = CM.levR lo.T lo.rs lo.trim (CM.L lo.T lo.ls k)
    rw [L_stable hs h1]
    rfl
theorem ever {lo : Lo} (o : LoOk lo) {ml : Nat} (hs : lo.SL.rw ml = lo.SL.rw (ml - 1)) (h1 : 1 ≤ ml) : CM.Ever lo.ls := by
  refine CM.ever_of o.T1.1 o.lok (k := ml - 1) ?_
  rw [show ml - 1 + 1 = ml by omega]
  exact hs
/-- how much the rows of rooms may yet rise -/
noncomputable def muR (lo : Lo) (ml : Nat) : Nat → Nat
  | 0 => 0
  | 1 => 1 + CM.gapTo ((2 + lo.trim) * lo.T + lo.T + 1) (CM.Rm lo.T lo.ls lo.rs lo.trim 1) + ml
  | m + 2 => CM.gapTo ((2 + lo.trim) * lo.T + lo.T + 1) (CM.Rm lo.T lo.ls lo.rs lo.trim (m + 1)) + (ml - (m + 2))
theorem setR {K : PySem.W.Frag} {lo : Lo} (o : LoOk lo) {ml : Nat} (hs : lo.SL.rw ml = lo.SL.rw (ml - 1)) (h1 : 1 ≤ ml) : SetOk K (LV2 K lo.SL ml lo.trim lo.rs) lo.SR none (muR lo ml) where
  ll := fun m _ => by
    show (lvR lo.SL ml lo.trim lo.rs m).length = lo.T
    cases m with
    | zero => exact (CM.rowOf_len lo.T _ : (CM.rowOf lo.T fun t => t - CM.FAR).length = lo.T)
    | succ m => show (CM.levR lo.T lo.rs lo.trim _).length = lo.T; simp [CM.levR]
  nx := fun m hm => by
    obtain ⟨k, rfl⟩ : ∃ k, m = k + 1 := ⟨m - 1, by omega⟩
    show CM.Rm lo.T lo.ls lo.rs lo.trim (k + 1) = CM.nextRow lo.T lo.rs (lvR lo.SL ml lo.trim lo.rs (k + 1)) (CM.Rm lo.T lo.ls lo.rs lo.trim k)
    rw [lvR_eq hs h1]
    rfl
  fall := fun m hm _ hne => by
    obtain ⟨k, rfl⟩ : ∃ k, m = k + 1 := ⟨m - 1, by omega⟩
    have hE := ever o hs h1
    cases k with
    | zero =>
      show CM.gapTo _ (CM.Rm lo.T lo.ls lo.rs lo.trim 1) + (ml - 2) < 1 + CM.gapTo _ (CM.Rm lo.T lo.ls lo.rs lo.trim 1) + ml
      omega
    | succ k =>
      show CM.gapTo _ (CM.Rm lo.T lo.ls lo.rs lo.trim (k + 1 + 1)) + (ml - (k + 3)) < CM.gapTo _ (CM.Rm lo.T lo.ls lo.rs lo.trim (k + 1)) + (ml - (k + 2))
      by_cases hr : CM.Rm lo.T lo.ls lo.rs lo.trim (k + 1 + 1) = CM.Rm lo.T lo.ls lo.rs lo.trim (k + 1)
      · have hl : ¬ ml ≤ k + 2 := fun z => hne ⟨hr, decide_eq_true z⟩
        have hk := CM.Rm_keeps o.T1.1 (ls := lo.ls) o.rok (trim := lo.trim) (B := (2 + (lo.trim : Int)) * lo.T + lo.T + 1) (k + 1)
        omega
      · have hk := CM.Rm_falls o.T1.1 o.lok o.rok (trim := lo.trim) (by omega) hE (k := k + 1) hr
        omega
theorem Rm1_ge {lo : Lo} (o : LoOk lo) (hne : lo.rs ≠ []) (i : Nat) (hi : i < lo.T) : (i : Int) ≤ (CM.Rm lo.T lo.ls lo.rs lo.trim 1).getD i 0 := by
  rw [CM.getD_ext hi]
  apply Classical.byContradiction
  intro hc
  have hT := o.T1.1
  have h1 := (CM.Rw_succ_le hT (fun s hs => (o.rok s hs).ok) 0 (i : Int) (i : Int)).mp (show CM.ext (CM.Rm lo.T lo.ls lo.rs lo.trim 1) lo.T i ≤ i by omega)
  have h2 := (CM.lev_cut hT o.lok o.rok lo.trim 0 (Int.le_refl (i : Int))).mp h1.1
  obtain ⟨s, hs⟩ := List.exists_mem_of_ne_nil _ hne
  have h3 := h2 s hs
  have h4 : CM.Sound (CM.cut s lo.trim ((i : Int), (i : Int))) := h3
  have h5 : s.a i < s.b i - lo.trim := h4
  rw [(o.rok s hs).same] at h5
  omega
theorem setR_bound {lo : Lo} (o : LoOk lo) {ml : Nat} (hml : ml ≤ 11000) : 1 + muR lo ml 1 ≤ 79000 := by
  have hT := o.T1
  have hne : lo.rs ≠ [] := fun z => o.ne (List.map_eq_nil_iff.mp z)
  have htr := o.trim
  have hm : (2 + (lo.trim : Int)) * lo.T ≤ 11 * lo.T := Int.mul_le_mul_of_nonneg_right (by omega) (by omega)
  have h := gap_le (B := (2 + (lo.trim : Int)) * lo.T + lo.T + 1) (c := 721) (r := CM.Rm lo.T lo.ls lo.rs lo.trim 1) fun x hx => by
    obtain ⟨i, hi⟩ := List.getElem?_of_mem hx
    have hil := (List.getElem?_eq_some_iff.mp hi).1
    rw [CM.Rm_len] at hil
    have h1 := Rm1_ge o hne i hil
    rw [List.getD_eq_getElem?_getD, hi] at h1
    have h1 : (i : Int) ≤ x := h1
    omega
  rw [CM.Rm_len] at h
  have : lo.T * 721 ≤ 60 * 721 := Nat.mul_le_mul_right _ hT.2
  show 1 + (1 + CM.gapTo ((2 + (lo.trim : Int)) * lo.T + lo.T + 1) (CM.Rm lo.T lo.ls lo.rs lo.trim 1) + ml) ≤ 79000
  omega
end CZ
set_option Elab.async false
set_option linter.all false
set_option maxRecDepth 100000
set_option maxHeartbeats 2000000
namespace CZ
open PySem PySem.Spec PyProof.Rows L2
def spNo : Sp := fun _ _ _ _ => False
def LenOf : KS → Nat → Bool → Prop
  | .k0, _, _ => False
  | .kn m, m', b => m' = m ∧ b = false
  | .km m, m', b => m' = m ∧ b = true
  | .ke m _, m', b => m' = m ∧ b = true
def ksOf (m : Nat) (b : Bool) : KS := if b then .km m else .kn m
def spLevL (K : PySem.W.Frag) : Sp := fun vs H Q _ => ∃ v lo kd, vs = [v, .str (Str.ofString "length")] ∧ StuF K H v lo kd ∧ ∀ u H', Ex H H' → LevAt K (CM.base1 lo.T) H' u → Q u H'
def spLevR (K : PySem.W.Frag) : Sp := fun vs H Q _ => ∃ v lo kd ml, vs = [v, .str (Str.ofString "room")] ∧ StuAt K H v lo kd (.km ml) ∧ ∀ u H', Ex H H' → RoomAt K lo.SL ml lo.trim lo.rs H' u → Q u H'
def spStL (K : PySem.W.Frag) : Sp := fun vs H Q _ => ∃ v lo kd, vs = [v, .str (Str.ofString "length")] ∧
  ((StuAt K H v lo kd .k0 ∧ ∀ s H' m b, ExB kd H H' → StuAt K H' v lo kd (ksOf m b) → LenSt K H' s lo m b → Q s H') ∨
   ∃ st, StuAt K H v lo kd st ∧ st ≠ .k0 ∧ ∀ s m b, LenOf st m b → LenSt K H s lo m b → Q s H)
def spStR (K : PySem.W.Frag) : Sp := fun vs H Q _ => ∃ v lo kd ml, vs = [v, .str (Str.ofString "room")] ∧
  ((StuAt K H v lo kd (.km ml) ∧ ∀ r H' mr, ExB kd H H' → StuAt K H' v lo kd (.ke ml mr) → RoomSt K H' r lo ml mr → Q r H') ∨
   ∃ mr, StuAt K H v lo kd (.ke ml mr) ∧ ∀ r, RoomSt K H r lo ml mr → Q r H)
def spStairs (K : PySem.W.Frag) : Sp := fun vs H Q E => spStL K vs H Q E ∨ spStR K vs H Q E
def spIsEver (K : PySem.W.Frag) : Sp := fun vs H Q _ => ∃ v lo kd kind, vs = [v, .str (kindOf kind)] ∧
  ((StuAt K H v lo kd .k0 ∧ ∀ H' m b, ExB kd H H' → StuAt K H' v lo kd (ksOf m b) → Q (.bl b) H') ∨
   ∃ st m b, StuAt K H v lo kd st ∧ LenOf st m b ∧ Q (.bl b) H)
theorem lenOf_ne {st : KS} {m : Nat} {b : Bool} (h : LenOf st m b) : st ≠ .k0 := fun z => by rw [z] at h; exact h
theorem StuAt.len {K : PySem.W.Frag} {H : Hp} {v : V} {lo : Lo} {kd : Addr} {st : KS} (hS : StuAt K H v lo kd st) (hne : st ≠ .k0) : ∃ s kvs m b, H kd = some (.dK kvs) ∧ valV kvs (keyS "length") = some s ∧ LenOf st m b ∧ LenSt K H s lo m b := by
  have kk := hS.k
  cases st with
  | k0 => exact absurd rfl hne
  | kn m =>
    obtain ⟨s, h1, h2⟩ := kk
    exact ⟨s, _, m, false, h1, valV_pos rfl, ⟨rfl, rfl⟩, h2.mono hid_ex⟩
  | km m =>
    obtain ⟨s, h1, h2⟩ := kk
    exact ⟨s, _, m, true, h1, valV_pos rfl, ⟨rfl, rfl⟩, h2.mono hid_ex⟩
  | ke m mr =>
    obtain ⟨s, r, h1, h2, _⟩ := kk
    exact ⟨s, _, m, true, h1, valV_pos rfl, ⟨rfl, rfl⟩, h2.mono hid_ex⟩
section
variable {P : Program} {w : World} {K : PySem.W.Frag} {mg : Str → Option Value} {base : Heap}
theorem r_stairs_of_no (Z : Zed K mg base) : Rn P w K mg base 1 (a_stairs_of K) spNo := rn_of (u_stairs_of Z) sco_stairs_of (fun _ _ _ _ _ _ us hl => match us, hl with | [_, _], _ => rfl) (fun vs H Q E h => h.elim) (fun cdv A outer s H vs Q E hr h => h.elim)
theorem r_is_ever_no (Z : Zed K mg base) : Rn P w K mg base 1 (a_is_ever K) spNo := rn_of (u_is_ever Z) sco_is_ever (fun _ _ _ _ _ _ us hl => match us, hl with | [_, _], _ => rfl) (fun vs H Q E h => h.elim) (fun cdv A outer s H vs Q E hr h => h.elim)
theorem r_level_of_L (Z : Zed K mg base) : Rn P w K mg base 3 (a_level_of K) (spLevL K) := by
  have R_RoomLevel_init := r_RoomLevel_init (P := P) (w := w) Z
  have R_Level_init := r_Level_init (P := P) (w := w) Z
  have R_Studio_period := r_Studio_period (P := P) (w := w) Z
  have R_Studio_trim := r_Studio_trim (P := P) (w := w) Z
  have R_stairs_of := r_stairs_of_no (P := P) (w := w) Z
  refine rn_of (u_level_of Z) sco_level_of (fun _ _ _ _ _ _ us hl => match us, hl with | [_, _], _ => rfl) (fun vs H Q E h => ?_) (fun cdv A outer s H vs Q E hr h => ?_)
  · obtain ⟨v, lo, kd, rfl, _⟩ := h
    rfl
  · refine ⟨_, (pss_cons (ps_if (pt_cmpR op_eq (pv 1) (C8.pe_gc (by rfl) (k_ROOM Z)) (nomark _))
        (pss_one (ps_ret (pe_new (mk_RoomLevel Z) R_RoomLevel_init (g_RoomLevel Z) hr (by rfl) (pa_cons (pe_pr (pv 0) (sc_Studio Z) (p_Studio_period Z) R_Studio_period hr) (pa_cons (pe_dget (hu_of hr) (pe_slK K (pv 0)) (C8.pe_gc (by rfl) (k_START Z)) (fun _ _ => rfl)) (pa_cons (pe_pr (pv 0) (sc_Studio Z) (p_Studio_trim Z) R_Studio_trim hr) (pa_cons (pe_r R_stairs_of (g_stairs_of Z) hr (by rfl) (pa_cons (pv 0) (pa_cons (C8.pe_gc (by rfl) (k_LENGTH Z)) pa_nil))) pa_nil)))))))
        pss_nil)
      (pss_one (ps_ret (pe_new (mk_Level Z) R_Level_init (g_Level Z) hr (by rfl) (pa_cons (pe_lc (own := [("time", 2)]) (g := gName 2) (tt := tYes) rfl sco_level_of.nd (pi_range1 (by rfl) (f_range Z) (pa_cons (pe_pr (pv 0) (sc_Studio Z) (p_Studio_period Z) R_Studio_period hr) pa_nil)) (blkOk_by (by kernel_rfl)) (fun _ _ _ _ _ => (pg_name (i := 2) sco_level_of.nd rfl (Or.inl rfl))) (fun _ _ _ _ _ => pts_nil) (fun _ _ _ _ _ => (pe_op op_add (pv 2) (pe_callTy call_int1 (by rfl) (f_int Z) (by decide +kernel) (pa_cons (pe_cmpR op_eq (pv 1) (C8.pe_gc (by rfl) (k_LENGTH Z)) (nomark _)) pa_nil))))) pa_nil))))), ?_⟩
    obtain ⟨v, lo, kd, rfl, hF, k⟩ := h
    obtain ⟨⟨a, dx, mp, pd, tx, l0, l1, kvs, rfl, hs, _⟩, hok⟩ := id hF
    have hT := hok.T1
    refine ⟨_, rfl, rfl, _, rfl, ifF (str_ne (by decide +kernel)) ?_⟩
    refine ⟨_, rfl, a, dx, _, rfl, hs, _, lo, kd, rfl, hF, lo.T, rfl, by omega, by omega, fun D hD => ?_⟩
    refine lc_all (walk_range (lo := 0) (n := ((lo.T : Int)).toNat)) (fun i y H' => y = .int ((i : Int) + 1)) hD (by omega) (fun i y H1 H2 e h => h) (fun H' e => trivial) (fun i x H1 H2 Qe hi e1 _ hy q => ?_) gname_mono (fun H1 ys e1 h1 hn h7 => ?_)
    · obtain ⟨rfl, hx1⟩ := hy
      subst hx1
      refine ⟨rfl, _, rfl, _, rfl, rfl, .inr ⟨_, rfl, _, _, rfl, rfl, q _ _ (Evl.Ex.refl _) ?_⟩⟩
      rw [decide_eq_true rfl]
      show V.int (0 + (i : Int) + 1) = _
      rw [Int.zero_add]
    · rw [show ((lo.T : Int)).toNat = lo.T by omega] at hn
      have hb : ys = (CM.base1 lo.T).map V.int := by
        rw [ints_of hn h7]
        rfl
      subst hb
      intro la ld hla hld hne
      refine ⟨H1, la, ld, D, CM.base1 lo.T, rfl, ⟨hla, hld, hne, rfl⟩, SqL.of h1, fun H2 e2 hl => ⟨rfl, ?_⟩⟩
      exact k _ H2 (e1.trans e2) hl
theorem walk_L (Z : Zed K mg base) {cdv : Value} {A : Around} {outer : List Env} {s : Shared} {H : Hp} {vs : List V} {Q : VK} {E : XK} (hr : Room 6 (A.deeper (envOfC "stairs_of" (defScope s_stairs_of) s.heap.objs.size (a_stairs_of K) cdv))) (h : spStL K vs H Q E) :
    ∃ t, PSs (cxOf CX0 P w K mg base N_stairs_of "stairs_of" (defScope s_stairs_of) (a_stairs_of K) cdv A outer s H E).nox (defBody s_stairs_of) t ∧ t { nx := fun _ H' => Q .non H', rt := Q } (L2.start N_stairs_of vs) H := by
  have R_steps_of := r_steps_of (P := P) (w := w) Z
  have R_level_of := r_level_of_L (P := P) (w := w) Z
  have R_is_ever := r_is_ever_no (P := P) (w := w) Z
  have R_Studio_period := r_Studio_period (P := P) (w := w) Z
  · obtain ⟨v, lo, kd, rfl, h⟩ := h
    have R_Stairs_init := r_Stairs_init (P := P) (w := w) Z (ok1 Z (CM.base1 lo.T))
    have R_Stairs_settle := r_Stairs_settle (P := P) (w := w) Z (ok1 Z (CM.base1 lo.T))
    refine ⟨_, (pss_cons (ps_if (pt_cmp (pc_dnotin (hu_of hr) (pv 1) (pe_slK K (pv 0))))
        (pss_cons (ps_set (i := 2) sco_stairs_of.nd rfl (Or.inl rfl) (pe_new (mk_Stairs Z) R_Stairs_init (g_Stairs Z) hr (by rfl) (pa_cons (pe_pr (pv 0) (sc_Studio Z) (p_Studio_period Z) R_Studio_period hr) (pa_cons (pe_r R_steps_of (g_steps_of Z) hr (by rfl) (pa_cons (pv 0) (pa_cons (pv 1) pa_nil))) (pa_cons (pe_r R_level_of (g_level_of Z) hr (by rfl) (pa_cons (pv 0) (pa_cons (pv 1) pa_nil))) pa_nil)))))
        (pss_cons (ps_if (pt_cmpR op_ne (pv 1) (C8.pe_gc (by rfl) (k_ROOM Z)) (nomark _))
          (pss_one (ps_expr (pe_ms (pv 2) (sc_Stairs Z) (m_Stairs_settle Z) R_Stairs_settle hr (pa_cons (pe_op op_mul pe_int (pe_pr (pv 0) (sc_Studio Z) (p_Studio_period Z) R_Studio_period hr)) pa_nil))))
          (pss_one (ps_if (pt_val (pe_r R_is_ever (g_is_ever Z) hr (by rfl) (pa_cons (pv 0) (pa_cons (C8.pe_gc (by rfl) (k_LENGTH Z)) pa_nil))))
            (pss_one (ps_expr (pe_ms (pv 2) (sc_Stairs Z) (m_Stairs_settle Z) R_Stairs_settle hr (pa_cons pe_non pa_nil))))
            pss_nil)))
        (pss_one (ps_dput (hu_of hr) (pe_slK K (pv 0)) (pv 1) (pv 2) rfl))))
        pss_nil)
      (pss_one (ps_ret (pe_dget (hu_of hr) (pe_slK K (pv 0)) (pv 1) (fun _ _ => rfl))))), ?_⟩
    rcases h with ⟨hS, k⟩ | ⟨st, hS, hne, k⟩
    · have hF := hS.u
      have hF0 := hS.f
      have hkd : H kd = some (.dK []) := hS.k
      obtain ⟨⟨a, dx, mp, pd, tx, l0, l1, kvs, rfl, hs, _⟩, hok⟩ := id hF
      refine ⟨_, rfl, _, rfl, a, _, dx, _, _, _, _, rfl, hs, sc_Studio Z, sl_Studio_own_kept Z, rfl, kd, _, rfl, DGet.k (k := keyS "length") hkd, _, rfl, ifT rfl ?_⟩
      refine ⟨_, rfl, a, dx, _, rfl, hs, _, lo, kd, rfl, hF, _, rfl, _, rfl, _, lo, kd, false, rfl, hF, fun stl ss H1 e1 hst hss => ?_⟩
      refine ⟨_, rfl, _, rfl, _, lo, kd, rfl, hF.mono e1, fun u H2 e2 hu => ?_⟩
      have e12 := e1.trans e2
      intro sa sd hsa hsd hsne
      refine ⟨H2, sa, sd, stl, u, ss, lo.SL, rfl, ⟨hsa, hsd, hsne, rfl⟩, hok.pd, hu, SqL.of (e2 _ _ hst), hss.mono (fun _ _ z => z.mono e2), rfl, hok.sL, fun H3 rl e3 hrl hSA hLV => ⟨rfl, ?_⟩⟩
      refine ⟨_, rfl, rfl, _, rfl, ifT (by rw [str_ne (by decide +kernel)]; rfl) ?_⟩
      have e13 := e12.trans e3
      obtain ⟨_, _, ⟨_, _, _, hsl, _⟩, _⟩ := id hSA
      refine ⟨_, rfl, sa, sd, _, rfl, hsl, _, rfl, a, dx, _, rfl, slt_ex e13 hs, _, lo, kd, rfl, hF.mono e13, _, _, rfl, rfl, .inl (by omega), ?_⟩
      refine ⟨sa, sd, rl, u, lo.SL, 1, some (2 * (lo.T : Int)), _, 11000, rfl, hSA, hLV, setL hok, setL_bound hok, by decide, fun H4 m k4 hm hres => ?_⟩
      have hn : ∀ b ∈ [sa, sd, rl], H b = none := fun b hb => by
        have e' : b = sa ∨ b = sd ∨ b = rl := by simpa using hb
        rcases e' with rfl | rfl | rfl
        · exact Evl.fresh_back e12 hsa
        · exact Evl.fresh_back e12 hsd
        · exact Evl.fresh_back e12 hrl
      have e14 : Ex H H4 := k4.ex e13 hn
      have hkd4 := e14 _ _ hkd
      obtain ⟨b, hSA4, hst4, hnv4⟩ : ∃ b, SA K H4 sa sd rl u lo.SL m b ∧ (b = true → lo.SL.rw m = lo.SL.rw (m - 1)) ∧ (b = false → 2 * (lo.T : Int) < rwF lo.SL (m - 1) 0) := by
        rcases hres with ⟨h1, h2, _⟩ | ⟨h1, B, hB, h2⟩
        · exact ⟨true, h1, fun _ => h2, fun z => nomatch z⟩
        · cases hB
          exact ⟨false, h1, fun z => (nomatch z), fun _ => h2⟩
      have hsll : lo.SL.steps.length ≤ 100 := by
        show lo.ls.length ≤ 100
        rw [lo.ls_len]
        have := hok.len
        omega
      have hlen4 : LenSt K (hid kd H4) (.ref sa) lo m b := ⟨(hSA4.f (by omega) hsll).hid hkd4, hm, hst4, hnv4⟩
      refine ⟨_, rfl, _, rfl, a, _, dx, _, _, _, _, rfl, slt_ex e14 hs, sc_Studio Z, sl_Studio_own_kept Z, rfl, _, rfl, kd, _, rfl, DPut.k (k := keyS "length") hkd4 (by decide), ?_⟩
      have hex : Ex (hid kd H4) (hid kd (upd H4 kd (.dK (putK [] (keyS "length") (.ref sa))))) := hid_mono exb_upd
      have hkd5 : (upd H4 kd (.dK (putK [] (keyS "length") (.ref sa)))) kd = some (.dK [(keyS "length", .ref sa)]) := upd_same
      have hF5 : StuF K (hid kd (upd H4 kd (.dK (putK [] (keyS "length") (.ref sa))))) (.ref a) lo kd := hF0.mono ((hid_mono (ExB.of e14)).trans hex)
      have hS5 : StuAt K (upd H4 kd (.dK (putK [] (keyS "length") (.ref sa)))) (.ref a) lo kd (ksOf m b) := by
        refine ⟨hF5, ?_⟩
        cases b with
        | true => exact ⟨.ref sa, hkd5, hlen4.mono hex⟩
        | false => exact ⟨.ref sa, hkd5, hlen4.mono hex⟩
      obtain ⟨⟨a', dx', mp', pd', tx', l0', l1', kvs', ea, hs', _⟩, _⟩ := hS5.u
      cases ea
      refine ⟨_, rfl, a, _, dx', _, _, _, _, rfl, hs', sc_Studio Z, sl_Studio_own_kept Z, rfl, _, rfl, kd, .ref sa, rfl, ?_, ?_⟩
      · have h1 := DGet.k (k := keyS "length") hkd5
        rw [valV_pos rfl] at h1
        exact h1
      · exact k _ _ m b (ExB.of e14 |>.upd) hS5 ((hlen4.mono hex).mono hid_ex)
    · have hF := hS.u
      obtain ⟨⟨a, dx, mp, pd, tx, l0, l1, kvs, rfl, hs, _⟩, hok⟩ := id hF
      obtain ⟨s, kvs', m, b, hkd, hv, hl, hls⟩ := hS.len hne
      have h1 := DGet.k (k := keyS "length") hkd
      rw [hv] at h1
      exact ⟨_, rfl, _, rfl, a, _, dx, _, _, _, _, rfl, hs, sc_Studio Z, sl_Studio_own_kept Z, rfl, kd, _, rfl, h1, _, rfl, ifF rfl ⟨_, rfl, a, _, dx, _, _, _, _, rfl, hs, sc_Studio Z, sl_Studio_own_kept Z, rfl, _, rfl, kd, s, rfl, h1, k s m b hl hls⟩⟩
theorem r_stairs_of_L (Z : Zed K mg base) : Rn P w K mg base 7 (a_stairs_of K) (spStL K) := by
  refine rn_of (u_stairs_of Z) sco_stairs_of (fun _ _ _ _ _ _ us hl => match us, hl with | [_, _], _ => rfl) (fun vs H Q E h => ?_) (fun cdv A outer s H vs Q E hr h => ?_)
  · obtain ⟨v, lo, kd, rfl, _⟩ := h
    rfl
  · exact walk_L Z hr h
theorem r_is_ever (Z : Zed K mg base) : Rn P w K mg base 8 (a_is_ever K) (spIsEver K) := by
  have R_stairs_of := r_stairs_of_L (P := P) (w := w) Z
  refine rn_of (u_is_ever Z) sco_is_ever (fun _ _ _ _ _ _ us hl => match us, hl with | [_, _], _ => rfl) (fun vs H Q E h => ?_) (fun cdv A outer s H vs Q E hr h => ?_)
  · obtain ⟨v, lo, kd, kind, rfl, _⟩ := h
    rfl
  · refine ⟨_, (pss_one (ps_ret (pe_slK K (pe_r R_stairs_of (g_stairs_of Z) hr (by rfl) (pa_cons (pv 0) (pa_cons (pe_ifExp (pt_cmpR op_eq (pv 1) (C8.pe_gc (by rfl) (k_ROOM Z)) (nomark _)) (C8.pe_gc (by rfl) (k_LENGTH Z)) (pv 1)) pa_nil)))))), ?_⟩
    obtain ⟨v, lo, kd, kind, rfl, h⟩ := h
    have go : tR (spStL K) (tCons (tC v) (tCons (tC (.str (Str.ofString "length"))) tNil)) (L2.start N_is_ever [v, .str (kindOf kind)]) H (fun x H1 => ∃ a C dx p vs i v, x = .ref a ∧ SlX.Slt H1 a C dx vs ∧ SlX.SCls K C ∧ SlX.Slot1 K C "is_stable" p i ∧ vs[i]? = some (some v) ∧ Q v H1) := by
      rcases h with ⟨hS, k⟩ | ⟨st, m, b, hS, hl, k⟩
      · refine ⟨v, lo, kd, rfl, .inl ⟨hS, fun s H' m b he hS' hls => ?_⟩⟩
        obtain ⟨_, ⟨sa, sd, rl, stl, lv, xs, ss, rfl, hsl, _⟩, _⟩ := hls.f
        exact ⟨sa, _, sd, _, _, _, _, rfl, hsl, sc_Stairs Z, sl_Stairs_is_stable Z, rfl, k H' m b he hS'⟩
      · refine ⟨v, lo, kd, rfl, .inr ⟨st, hS, lenOf_ne hl, fun s m' b' hl' hls => ?_⟩⟩
        obtain ⟨_, ⟨sa, sd, rl, stl, lv, xs, ss, rfl, hsl, _⟩, _⟩ := hls.f
        have eb : b' = b := by
          cases st with
          | k0 => exact hl.elim
          | kn m => rw [hl.2, hl'.2]
          | km m => rw [hl.2, hl'.2]
          | ke m r => rw [hl.2, hl'.2]
        subst eb
        exact ⟨sa, _, sd, _, _, _, _, rfl, hsl, sc_Stairs Z, sl_Stairs_is_stable Z, rfl, k⟩
    refine ⟨_, rfl, _, rfl, by cases kind <;> rfl, _, rfl, ?_⟩
    cases kind with
    | true => exact ifT (decide_eq_true rfl) go
    | false => exact ifF (str_ne (by decide +kernel)) ⟨_, rfl, go⟩
theorem r_level_of_R (Z : Zed K mg base) : Rn P w K mg base 8 (a_level_of K) (spLevR K) := by
  have R_RoomLevel_init := r_RoomLevel_init (P := P) (w := w) Z
  have R_Level_init := r_Level_init (P := P) (w := w) Z
  have R_Studio_period := r_Studio_period (P := P) (w := w) Z
  have R_Studio_trim := r_Studio_trim (P := P) (w := w) Z
  have R_stairs_of := r_stairs_of_L (P := P) (w := w) Z
  refine rn_of (u_level_of Z) sco_level_of (fun _ _ _ _ _ _ us hl => match us, hl with | [_, _], _ => rfl) (fun vs H Q E h => ?_) (fun cdv A outer s H vs Q E hr h => ?_)
  · obtain ⟨v, lo, kd, ml, rfl, _⟩ := h
    rfl
  · refine ⟨_, (pss_cons (ps_if (pt_cmpR op_eq (pv 1) (C8.pe_gc (by rfl) (k_ROOM Z)) (nomark _))
        (pss_one (ps_ret (pe_new (mk_RoomLevel Z) R_RoomLevel_init (g_RoomLevel Z) hr (by rfl) (pa_cons (pe_pr (pv 0) (sc_Studio Z) (p_Studio_period Z) R_Studio_period hr) (pa_cons (pe_dget (hu_of hr) (pe_slK K (pv 0)) (C8.pe_gc (by rfl) (k_START Z)) (fun _ _ => rfl)) (pa_cons (pe_pr (pv 0) (sc_Studio Z) (p_Studio_trim Z) R_Studio_trim hr) (pa_cons (pe_r R_stairs_of (g_stairs_of Z) hr (by rfl) (pa_cons (pv 0) (pa_cons (C8.pe_gc (by rfl) (k_LENGTH Z)) pa_nil))) pa_nil)))))))
        pss_nil)
      (pss_one (ps_ret (pe_new (mk_Level Z) R_Level_init (g_Level Z) hr (by rfl) (pa_cons (pe_lc (own := [("time", 2)]) (g := gName 2) (tt := tYes) rfl sco_level_of.nd (pi_range1 (by rfl) (f_range Z) (pa_cons (pe_pr (pv 0) (sc_Studio Z) (p_Studio_period Z) R_Studio_period hr) pa_nil)) (blkOk_by (by kernel_rfl)) (fun _ _ _ _ _ => (pg_name (i := 2) sco_level_of.nd rfl (Or.inl rfl))) (fun _ _ _ _ _ => pts_nil) (fun _ _ _ _ _ => (pe_op op_add (pv 2) (pe_callTy call_int1 (by rfl) (f_int Z) (by decide +kernel) (pa_cons (pe_cmpR op_eq (pv 1) (C8.pe_gc (by rfl) (k_LENGTH Z)) (nomark _)) pa_nil))))) pa_nil))))), ?_⟩
    obtain ⟨v, lo, kd, ml, rfl, hS, k⟩ := h
    have hF := hS.u
    obtain ⟨⟨a, dx, mp, pd, tx, l0, l1, kvs, rfl, hs, hmp, ⟨xs0, hl0, hx0⟩, _⟩, hok⟩ := id hF
    refine ⟨_, rfl, rfl, _, rfl, ifT (decide_eq_true rfl) ?_⟩
    refine ⟨_, rfl, a, dx, _, rfl, hs, _, lo, kd, rfl, hF, _, rfl, a, _, dx, _, _, _, _, rfl, hs, sc_Studio Z, sl_Studio_own_maps Z, rfl, mp, _, rfl, DGet.k (k := keyS "start") hmp, ?_⟩
    refine ⟨_, rfl, a, dx, _, rfl, hs, _, lo, kd, rfl, hF, _, rfl, _, lo, kd, rfl, .inr ⟨.km ml, hS, fun z => (nomatch z), fun s m b hl hls => ?_⟩⟩
    obtain ⟨rfl, rfl⟩ := hl
    obtain ⟨_, ⟨sa, sd, rl, stl, lv, xs, ss, rfl, hsl, _⟩, _⟩ := id hls.f
    intro ra rd hra hrd hne
    refine ⟨H, ra, rd, l0, sa, lo.SL, m, lo.trim, lo.rs, xs0, rfl, ⟨hra, hrd, hne, rfl⟩, hl0, hx0.map (f := CM.stpR) (fun x p _ h => h), hls.f, ?_, fun H2 e2 hl => ⟨rfl, k _ H2 e2 hl⟩⟩
    intro s hs2
    obtain ⟨p, _, rfl⟩ := List.mem_map.mp hs2
    rfl
theorem r_stairs_of (Z : Zed K mg base) : Rn P w K mg base 13 (a_stairs_of K) (spStairs K) := by
  have R_steps_of := r_steps_of (P := P) (w := w) Z
  have R_Studio_period := r_Studio_period (P := P) (w := w) Z
  have RL := r_stairs_of_L (P := P) (w := w) Z
  refine rn_of (u_stairs_of Z) sco_stairs_of (fun _ _ _ _ _ _ us hl => match us, hl with | [_, _], _ => rfl) (fun vs H Q E h => ?_) (fun cdv A outer s H vs Q E hr h => ?_)
  · rcases h with ⟨v, lo, kd, rfl, _⟩ | ⟨v, lo, kd, ml, rfl, _⟩ <;> rfl
  · rcases h with hL | ⟨v, lo, kd, ml, rfl, h⟩
    · exact walk_L Z (hr.mono (by decide)) hL
    · rcases h with ⟨hS, k⟩ | ⟨mr, hS, k⟩
      · have hF := hS.u
        have hF0 := hS.f
        obtain ⟨sv, hkd, hlenS⟩ : ∃ s, H kd = some (.dK [(keyS "length", s)]) ∧ LenSt K (hid kd H) s lo ml true := hS.k
        obtain ⟨⟨a, dx, mp, pd, tx, l0, l1, kvs, rfl, hs, _⟩, hok⟩ := id hF
        have hst := hlenS.st rfl
        have hml1 := hlenS.f.m1
        have ok := ok2 (P := P) (w := w) Z lo.SL ml lo.trim lo.rs
        have R_level_of := r_level_of_R (P := P) (w := w) Z
        have R_is_ever := r_is_ever (P := P) (w := w) Z
        have R_Stairs_init := r_Stairs_init (P := P) (w := w) Z ok
        have R_Stairs_settle := r_Stairs_settle (P := P) (w := w) Z ok
        refine ⟨_, (pss_cons (ps_if (pt_cmp (pc_dnotin (hu_of hr) (pv 1) (pe_slK K (pv 0))))
        (pss_cons (ps_set (i := 2) sco_stairs_of.nd rfl (Or.inl rfl) (pe_new (mk_Stairs Z) R_Stairs_init (g_Stairs Z) hr (by rfl) (pa_cons (pe_pr (pv 0) (sc_Studio Z) (p_Studio_period Z) R_Studio_period hr) (pa_cons (pe_r R_steps_of (g_steps_of Z) hr (by rfl) (pa_cons (pv 0) (pa_cons (pv 1) pa_nil))) (pa_cons (pe_r R_level_of (g_level_of Z) hr (by rfl) (pa_cons (pv 0) (pa_cons (pv 1) pa_nil))) pa_nil)))))
        (pss_cons (ps_if (pt_cmpR op_ne (pv 1) (C8.pe_gc (by rfl) (k_ROOM Z)) (nomark _))
          (pss_one (ps_expr (pe_ms (pv 2) (sc_Stairs Z) (m_Stairs_settle Z) R_Stairs_settle hr (pa_cons (pe_op op_mul pe_int (pe_pr (pv 0) (sc_Studio Z) (p_Studio_period Z) R_Studio_period hr)) pa_nil))))
          (pss_one (ps_if (pt_val (pe_r R_is_ever (g_is_ever Z) hr (by rfl) (pa_cons (pv 0) (pa_cons (C8.pe_gc (by rfl) (k_LENGTH Z)) pa_nil))))
            (pss_one (ps_expr (pe_ms (pv 2) (sc_Stairs Z) (m_Stairs_settle Z) R_Stairs_settle hr (pa_cons pe_non pa_nil))))
            pss_nil)))
        (pss_one (ps_dput (hu_of hr) (pe_slK K (pv 0)) (pv 1) (pv 2) rfl))))
        pss_nil)
      (pss_one (ps_ret (pe_dget (hu_of hr) (pe_slK K (pv 0)) (pv 1) (fun _ _ => rfl))))), ?_⟩
        have hno : valV [(keyS "length", sv)] (keyS "room") = none := valV_no fun hm => absurd (List.mem_singleton.mp hm) (show ¬ keyS (Str.ofString "room") = keyS (Str.ofString "length") by decide +kernel)
        have g0 : DGet H kd (.str "room") none := by
          have h1 := DGet.k (k := keyS "room") hkd
          rw [hno] at h1
          exact h1
        refine ⟨_, rfl, _, rfl, a, _, dx, _, _, _, _, rfl, hs, sc_Studio Z, sl_Studio_own_kept Z, rfl, kd, _, rfl, g0, _, rfl, ifT rfl ?_⟩
        refine ⟨_, rfl, a, dx, _, rfl, hs, _, lo, kd, rfl, hF, _, rfl, _, rfl, _, lo, kd, true, rfl, hF, fun stl ss H1 e1 hst1 hss => ?_⟩
        refine ⟨_, rfl, _, rfl, _, lo, kd, ml, rfl, hS.mono e1, fun u H2 e2 hu => ?_⟩
        have e12 := e1.trans e2
        intro sa sd hsa hsd hsne
        refine ⟨H2, sa, sd, stl, u, ss, lo.SR, rfl, ⟨hsa, hsd, hsne, rfl⟩, hok.pd, hu, SqL.of (e2 _ _ hst1), hss.mono (fun _ _ z => z.mono e2), rfl, hok.sR, fun H3 rl e3 hrl hSA hLV => ⟨rfl, ?_⟩⟩
        refine ⟨_, rfl, rfl, _, rfl, ifF (by rw [decide_eq_true rfl]; rfl) ?_⟩
        have e13 := e12.trans e3
        refine ⟨_, rfl, _, lo, kd, false, rfl, .inr ⟨.km ml, ml, true, hS.mono e13, ⟨rfl, rfl⟩, _, rfl, ifT rfl ?_⟩⟩
        obtain ⟨_, _, ⟨_, _, _, hsl, _⟩, _⟩ := id hSA
        refine ⟨_, rfl, sa, sd, _, rfl, hsl, sa, sd, rl, u, lo.SR, 1, none, muR lo ml, 79000, rfl, hSA, hLV, setR hok hst hml1, setR_bound hok hlenS.mle, by decide, fun H4 m k4 hm hres => ?_⟩
        have hn : ∀ b ∈ [sa, sd, rl], H b = none := fun b hb => by
          have e' : b = sa ∨ b = sd ∨ b = rl := by simpa using hb
          rcases e' with rfl | rfl | rfl
          · exact Evl.fresh_back e12 hsa
          · exact Evl.fresh_back e12 hsd
          · exact Evl.fresh_back e12 hrl
        have e14 : Ex H H4 := k4.ex e13 hn
        have hkd4 := e14 _ _ hkd
        rcases hres with ⟨hSA4, hst4, hla4⟩ | ⟨_, B, hB, _⟩
        · have hsll : lo.SR.steps.length ≤ 100 := by
            show lo.rs.length ≤ 100
            rw [lo.rs_len]
            have := hok.len
            omega
          have hroom4 : RoomSt K (hid kd H4) (.ref sa) lo ml m := ⟨(hSA4.f (by omega) hsll).hid hkd4, hst4, of_decide_eq_true hla4⟩
          refine ⟨_, rfl, _, rfl, a, _, dx, _, _, _, _, rfl, slt_ex e14 hs, sc_Studio Z, sl_Studio_own_kept Z, rfl, _, rfl, kd, _, rfl, DPut.k (k := keyS "room") hkd4 (by show 1 < sizeLine; decide), ?_⟩
          have hput : putK [(keyS "length", sv)] (keyS "room") (.ref sa) = [(keyS "length", sv), (keyS "room", .ref sa)] := putK_new _ hno
          rw [hput]
          have hex : Ex (hid kd H4) (hid kd (upd H4 kd (.dK [(keyS "length", sv), (keyS "room", .ref sa)]))) := hid_mono exb_upd
          have hkd5 : (upd H4 kd (.dK [(keyS "length", sv), (keyS "room", .ref sa)])) kd = some (.dK [(keyS "length", sv), (keyS "room", .ref sa)]) := upd_same
          have hex0 := (hid_mono (d := kd) (ExB.of e14)).trans hex
          have hF5 : StuF K (hid kd (upd H4 kd (.dK [(keyS "length", sv), (keyS "room", .ref sa)]))) (.ref a) lo kd := hF0.mono hex0
          have hS5 : StuAt K (upd H4 kd (.dK [(keyS "length", sv), (keyS "room", .ref sa)])) (.ref a) lo kd (.ke ml m) := ⟨hF5, sv, .ref sa, hkd5, hlenS.mono hex0, hroom4.mono hex⟩
          obtain ⟨⟨a', dx', mp', pd', tx', l0', l1', kvs', ea, hs', _⟩, _⟩ := hS5.u
          cases ea
          refine ⟨_, rfl, a, _, dx', _, _, _, _, rfl, hs', sc_Studio Z, sl_Studio_own_kept Z, rfl, _, rfl, kd, .ref sa, rfl, ?_, ?_⟩
          · have h1 := DGet.k (k := keyS "room") hkd5
            rw [valV_neg (show ¬ keyS (Str.ofString "length") = keyS (Str.ofString "room") by decide +kernel), valV_pos rfl] at h1
            exact h1
          · exact k _ _ m ((ExB.of e14).upd) hS5 ((hroom4.mono hex).mono hid_ex)
        · cases hB
      · have hF := hS.u
        obtain ⟨⟨a, dx, mp, pd, tx, l0, l1, kvs, rfl, hs, _⟩, hok⟩ := id hF
        obtain ⟨sv, rv, hkd, hlenS, hroom⟩ : ∃ s r, H kd = some (.dK [(keyS "length", s), (keyS "room", r)]) ∧ LenSt K (hid kd H) s lo ml true ∧ RoomSt K (hid kd H) r lo ml mr := hS.k
        have ok := ok2 (P := P) (w := w) Z lo.SL ml lo.trim lo.rs
        have R_level_of := r_level_of_R (P := P) (w := w) Z
        have R_is_ever := r_is_ever (P := P) (w := w) Z
        have R_Stairs_init := r_Stairs_init (P := P) (w := w) Z ok
        have R_Stairs_settle := r_Stairs_settle (P := P) (w := w) Z ok
        refine ⟨_, (pss_cons (ps_if (pt_cmp (pc_dnotin (hu_of hr) (pv 1) (pe_slK K (pv 0))))
        (pss_cons (ps_set (i := 2) sco_stairs_of.nd rfl (Or.inl rfl) (pe_new (mk_Stairs Z) R_Stairs_init (g_Stairs Z) hr (by rfl) (pa_cons (pe_pr (pv 0) (sc_Studio Z) (p_Studio_period Z) R_Studio_period hr) (pa_cons (pe_r R_steps_of (g_steps_of Z) hr (by rfl) (pa_cons (pv 0) (pa_cons (pv 1) pa_nil))) (pa_cons (pe_r R_level_of (g_level_of Z) hr (by rfl) (pa_cons (pv 0) (pa_cons (pv 1) pa_nil))) pa_nil)))))
        (pss_cons (ps_if (pt_cmpR op_ne (pv 1) (C8.pe_gc (by rfl) (k_ROOM Z)) (nomark _))
          (pss_one (ps_expr (pe_ms (pv 2) (sc_Stairs Z) (m_Stairs_settle Z) R_Stairs_settle hr (pa_cons (pe_op op_mul pe_int (pe_pr (pv 0) (sc_Studio Z) (p_Studio_period Z) R_Studio_period hr)) pa_nil))))
          (pss_one (ps_if (pt_val (pe_r R_is_ever (g_is_ever Z) hr (by rfl) (pa_cons (pv 0) (pa_cons (C8.pe_gc (by rfl) (k_LENGTH Z)) pa_nil))))
            (pss_one (ps_expr (pe_ms (pv 2) (sc_Stairs Z) (m_Stairs_settle Z) R_Stairs_settle hr (pa_cons pe_non pa_nil))))
            pss_nil)))
        (pss_one (ps_dput (hu_of hr) (pe_slK K (pv 0)) (pv 1) (pv 2) rfl))))
        pss_nil)
      (pss_one (ps_ret (pe_dget (hu_of hr) (pe_slK K (pv 0)) (pv 1) (fun _ _ => rfl))))), ?_⟩
        have g0 : DGet H kd (.str "room") (some rv) := by
          have h1 := DGet.k (k := keyS "room") hkd
          rw [valV_neg (show ¬ keyS (Str.ofString "length") = keyS (Str.ofString "room") by decide +kernel), valV_pos rfl] at h1
          exact h1
        exact ⟨_, rfl, _, rfl, a, _, dx, _, _, _, _, rfl, hs, sc_Studio Z, sl_Studio_own_kept Z, rfl, kd, _, rfl, g0, _, rfl, ifF rfl ⟨_, rfl, a, _, dx, _, _, _, _, rfl, hs, sc_Studio Z, sl_Studio_own_kept Z, rfl, _, rfl, kd, rv, rfl, g0, k rv (hroom.mono hid_ex)⟩⟩
end
end CZ
set_option Elab.async false
set_option linter.all false
set_option maxRecDepth 100000
set_option maxHeartbeats 2000000
namespace CZ
open PySem PySem.Spec PyProof.Rows L2
/-! ### small asks -/
def spIsInteger : Sp := fun vs H Q _ => ∃ i : Int, vs = [.int i, .non, .non] ∧ Q (.bl true) H
def spIsTuple (K : PySem.W.Frag) : Sp := fun vs H Q _ => ∃ (q : Addr) (xs : List V) (lo hi : Int), vs = [.ref q, .int lo, .int hi] ∧ SqT K H q xs ∧ lo ≤ xs.length ∧ (xs.length : Int) ≤ hi ∧ Q (.bl true) H
def spIsPair (K : PySem.W.Frag) : Sp := fun vs H Q _ => ∃ (q : Addr) (x y : Int), vs = [.ref q] ∧ SqT K H q [.int x, .int y] ∧ Q (.bl true) H
def spCheckPair (K : PySem.W.Frag) : Sp := fun vs H Q _ => ∃ (q : Addr) (x y : Int), vs = [.ref q] ∧ SqT K H q [.int x, .int y] ∧ Q .non H
def spIsSaid (K : PySem.W.Frag) : Sp := fun vs H Q _ => ∃ (s : Str) (q : Addr) (ws : List Str), vs = [.str s, .ref q] ∧ SqT K H q (ws.map V.str) ∧ s ∈ ws ∧ Q (.bl true) H
def spCheckKind : Sp := fun vs H Q _ => ∃ (s : Str), vs = [.str s] ∧ (s = Str.ofString "room" ∨ s = Str.ofString "gap") ∧ Q .non H
def spIsShelter (K : PySem.W.Frag) : Sp := fun vs H Q _ => ∃ (q : Addr) (xs : List V) (cs : List (Int × Int)), vs = [.ref q] ∧ SqT K H q xs ∧ Pw (PairL H) xs cs ∧ cs ≠ [] ∧ cs.length ≤ 1000 ∧ ∀ H', Ex H H' → Q (.bl true) H'
def spCheckShelter (K : PySem.W.Frag) : Sp := fun vs H Q _ => ∃ (q : Addr) (xs : List V) (cs : List (Int × Int)), vs = [.ref q] ∧ SqT K H q xs ∧ Pw (PairL H) xs cs ∧ cs ≠ [] ∧ cs.length ≤ 1000 ∧ ∀ H', Ex H H' → Q .non H'
def spSavedBy (K : PySem.W.Frag) : Sp := fun vs H Q _ => ∃ (l : Addr) (i : Nat) (q : Addr) (x y : Int) (T : Nat) (ss : List V) (steps : List CM.Stp) (s : CM.Stp), vs = [.ref l, .int i, .ref q] ∧ SqL K H l ss ∧ Pw (StepAt K T H) ss steps ∧ steps[i]? = some s ∧ SqT K H q [.int x, .int y] ∧
  ∀ p H', Ex H H' → H' p = some (.tup [.int (s.a x), .int (s.b y)]) → Q (.ref p) H'
def spHasPair (K : PySem.W.Frag) : Sp := fun vs H Q _ => ∃ (T : Nat) (q : Addr) (xs : List V) (cs : List (Int × Int)) (p : Addr) (x y : Int), vs = [.int T, .ref q, .ref p] ∧ Pd T ∧ SqT K H q xs ∧ Pw (PairL H) xs cs ∧ SqT K H p [.int x, .int y] ∧ ∀ b, (b = true ↔ CM.InSh T cs (x, y)) → Q (.bl b) H
theorem inV_str {s : Str} {ws : List Str} (h : s ∈ ws) : inV (.str s) (ws.map V.str) = true := by
  unfold inV
  rw [List.any_eq_true]
  exact ⟨.str s, List.mem_map.mpr ⟨s, h, rfl⟩, by show (s == s) = true; exact beq_self_eq_true s⟩
theorem flat_strs (ws : List Str) : (ws.map V.str).all flatV = true := by
  rw [List.all_eq_true]
  intro x hx
  obtain ⟨n, _, rfl⟩ := List.mem_map.mp hx
  rfl
section
variable {P : Program} {w : World} {K : PySem.W.Frag} {mg : Str → Option Value} {base : Heap}
theorem r_is_integer (Z : Zed K mg base) : RnD P w K mg base 1 (a_is_integer K) spIsInteger := by
  obtain ⟨fd, F⟩ := u_is_integer Z
  obtain ⟨ds, hd, hb⟩ := F.binds1 (ps := ps_is_integer) 1 0 (by simp) rfl (fun T kV doc pm an cdv ct us its hu hi => by
    match us, hu, its, hi with
    | [u], _, [i1, i2], _ => exact ⟨_, rfl, rfl⟩)
  refine ⟨⟨fd, ps_is_integer, ds, F.ok sco_is_integer ?_ (fun cdv A outer s H vs Q E hr h => ?_), hb, hd⟩, F.kp⟩
  · rintro vs H Q E ⟨i, rfl, _⟩
    rfl
  · obtain ⟨i, rfl, k⟩ := h
    have body : ∃ t, PSs (cxOf CX0 P w K mg base N_is_integer "is_integer" (defScope s_is_integer) (a_is_integer K) cdv A outer s H E).nox (defBody s_is_integer) t ∧ t { nx := fun _ H' => Q .non H', rt := Q } (L2.start N_is_integer [.int i, .non, .non]) H := by
      refine ⟨_, (pss_cons (ps_if (PW.pt (pw_or (pt_not (pt_val (pe_callB (call_isiK_ K) (by rfl) (f_isinstance Z) (by decide +kernel) (pa_cons (pv 0) (pa_cons (pe_bltn (v := .ty "int") (by rfl) (f_int Z) boot_int rfl) pa_nil))))) (pw_or1 (pt_val (pe_callB (call_isiK_ K) (by rfl) (f_isinstance Z) (by decide +kernel) (pa_cons (pv 0) (pa_cons (pe_bltn (v := .ty "bool") (by rfl) (f_bool Z) boot_bool rfl) pa_nil)))))))
        (pss_one (ps_ret pe_bl))
        pss_nil)
      (pss_one (ps_ret (pe_and (pe_or (pe_cmpR op_isN (pv 1) pe_non (nomark _)) (pe_one (pe_cmpR op_le (pv 1) (pv 0) (nomark _)))) (pe_one (pe_or (pe_cmpR op_isN (pv 2) pe_non (nomark _)) (pe_one (pe_cmpR op_le (pv 0) (pv 2) (nomark _))))))))), ?_⟩
      refine ⟨_, rfl, _, .ty "int", _, _, true, rfl, .ty _, .base (.int _), kit_ty (by decide +kernel), _, rfl, ifF rfl ?_⟩
      refine ⟨_, rfl, _, .ty "bool", _, _, false, rfl, .ty _, .base (.int _), kit_ty (by decide +kernel), _, rfl, ifF rfl ?_⟩
      exact ⟨_, rfl, rfl, _, rfl, ifT (decide_eq_true rfl) ⟨_, rfl, ifT rfl ⟨_, rfl, rfl, _, rfl, ifT (decide_eq_true rfl) k⟩⟩⟩
    obtain ⟨t, h, q⟩ := body
    exact ⟨t, h.nox, q⟩
theorem r_is_tuple (Z : Zed K mg base) : Rn P w K mg base 1 (a_is_tuple K) (spIsTuple K) := by
  refine rn_of (u_is_tuple Z) sco_is_tuple (fun _ _ _ _ _ _ us hl => match us, hl with | [_, _, _], _ => rfl) (fun vs H Q E h => ?_) (fun cdv A outer s H vs Q E hr h => ?_)
  · obtain ⟨q, xs, lo, hi, rfl, _⟩ := h
    rfl
  · refine ⟨_, (pss_one (ps_ret (pe_and (pe_callB (call_isiK_ K) (by rfl) (f_isinstance Z) (by decide +kernel) (pa_cons (pv 0) (pa_cons (pe_bltn (v := .ty "tuple") (by rfl) (f_tuple Z) boot_tuple rfl) pa_nil))) (pe_one (pe_chain op_le op_le (pv 1) (pe_callB (call_len_seqK K) (by rfl) (f_len Z) (by decide +kernel) (pa_cons (pv 0) pa_nil)) (pv 2)))))), ?_⟩
    obtain ⟨q, xs, lo, hi, rfl, hq, h1, h2, k⟩ := h
    refine ⟨_, rfl, _, .ty "tuple", _, _, true, rfl, .ty _, tyx_t hq, kit_ty (by decide +kernel), _, rfl, ifT rfl ?_⟩
    refine ⟨_, rfl, _, rfl, q, _, rfl, .inr hq, _, _, rfl, rfl, _, rfl, ifT (decide_eq_true h1) ⟨_, rfl, _, _, rfl, rfl, ?_⟩⟩
    show Q (.bl (decide ((xs.length : Int) ≤ hi))) H
    rw [decide_eq_true h2]
    exact k
theorem r_is_pair (Z : Zed K mg base) : Rn P w K mg base 2 (a_is_pair K) (spIsPair K) := by
  have R_is_tuple := r_is_tuple (P := P) (w := w) Z
  have R_is_integer := r_is_integer (P := P) (w := w) Z
  refine rn_of (u_is_pair Z) sco_is_pair (fun _ _ _ _ _ _ us hl => match us, hl with | [_], _ => rfl) (fun vs H Q E h => ?_) (fun cdv A outer s H vs Q E hr h => ?_)
  · obtain ⟨q, x, y, rfl, _⟩ := h
    rfl
  · refine ⟨_, (pss_one (ps_ret (pe_and (pe_r R_is_tuple (g_is_tuple Z) hr (by rfl) (pa_cons (pv 0) (pa_cons (C8.pe_gc (by rfl) (k_PAIR_films Z)) (pa_cons (C8.pe_gc (by rfl) (k_PAIR_films Z)) pa_nil)))) (pe_and (pe_ri R_is_integer (g_is_integer Z) hr (by rfl) (pa_cons (pe_ix (ix_tupK K) (pv 0) pe_int (fun _ _ => rfl)) pa_nil)) (pe_one (pe_ri R_is_integer (g_is_integer Z) hr (by rfl) (pa_cons (pe_ix (ix_tupK K) (pv 0) pe_int (fun _ _ => rfl)) pa_nil))))))), ?_⟩
    obtain ⟨q, x, y, rfl, hq, k⟩ := h
    refine ⟨_, rfl, q, _, 2, 2, rfl, hq, Int.le_refl 2, Int.le_refl 2, _, rfl, ifT rfl ?_⟩
    exact ⟨_, rfl, q, _, 0, .int x, rfl, rfl, hq, rfl, x, rfl, _, rfl, ifT rfl ⟨_, rfl, q, _, 1, .int y, rfl, rfl, hq, rfl, y, rfl, k⟩⟩
theorem r_check_pair (Z : Zed K mg base) : Rn P w K mg base 3 (a_check_pair K) (spCheckPair K) := by
  have R_is_pair := r_is_pair (P := P) (w := w) Z
  refine rn_of (u_check_pair Z) sco_check_pair (fun _ _ _ _ _ _ us hl => match us, hl with | [_], _ => rfl) (fun vs H Q E h => ?_) (fun cdv A outer s H vs Q E hr h => ?_)
  · obtain ⟨q, x, y, rfl, _⟩ := h
    rfl
  · refine ⟨_, (pss_one (ps_if (pt_not (pt_val (pe_r R_is_pair (g_is_pair Z) hr (by rfl) (pa_cons (pv 0) pa_nil))))
        (pss_one ps_never)
        pss_nil)), ?_⟩
    obtain ⟨q, x, y, rfl, hq, k⟩ := h
    exact ⟨_, rfl, q, x, y, rfl, hq, _, rfl, ifF rfl k⟩
theorem r_is_said (Z : Zed K mg base) : Rn P w K mg base 1 (a_is_said K) (spIsSaid K) := by
  refine rn_of (u_is_said Z) sco_is_said (fun _ _ _ _ _ _ us hl => match us, hl with | [_, _], _ => rfl) (fun vs H Q E h => ?_) (fun cdv A outer s H vs Q E hr h => ?_)
  · obtain ⟨x, q, ws, rfl, _⟩ := h
    rfl
  · refine ⟨_, (pss_one (ps_ret (pe_and (pe_callB (call_isiK_ K) (by rfl) (f_isinstance Z) (by decide +kernel) (pa_cons (pv 0) (pa_cons (pe_bltn (v := .ty "str") (by rfl) (f_str Z) boot_str rfl) pa_nil))) (pe_one (pe_cmpR (op_in_seqK K) (pv 0) (pv 1) rfl))))), ?_⟩
    obtain ⟨x, q, ws, rfl, hq, hm, k⟩ := h
    refine ⟨_, rfl, _, .ty "str", _, _, true, rfl, .ty _, .base (.str _), kit_ty (by decide +kernel), _, rfl, ifT rfl ⟨_, rfl, _, rfl, q, _, rfl, .inr hq, rfl, flat_strs ws, ?_⟩⟩
    show Q (.bl (if false = true then !inV (.str x) (ws.map V.str) else inV (.str x) (ws.map V.str))) H
    rw [inV_str hm]
    exact k
theorem r_check_kind (Z : Zed K mg base) : Rn P w K mg base 2 (a_check_kind K) spCheckKind := by
  have R_is_said := r_is_said (P := P) (w := w) Z
  refine rn_of (u_check_kind Z) sco_check_kind (fun _ _ _ _ _ _ us hl => match us, hl with | [_], _ => rfl) (fun vs H Q E h => ?_) (fun cdv A outer s H vs Q E hr h => ?_)
  · obtain ⟨x, rfl, _⟩ := h
    rfl
  · refine ⟨_, (pss_one (ps_if (pt_not (pt_val (pe_r R_is_said (g_is_said Z) hr (by rfl) (pa_cons (pv 0) (pa_cons (C8.pe_gc (by rfl) (k_KINDS Z)) pa_nil)))))
        (pss_one ps_never)
        pss_nil)), ?_⟩
    obtain ⟨x, rfl, hx, k⟩ := h
    refine ⟨_, rfl, x, _, ["length", "gap", "room"], rfl, t_KINDS Z H, ?_, _, rfl, ifF rfl k⟩
    rcases hx with rfl | rfl <;> simp
theorem r_is_shelter (Z : Zed K mg base) : Rn P w K mg base 3 (a_is_shelter K) (spIsShelter K) := by
  have R_is_pair := r_is_pair (P := P) (w := w) Z
  refine rn_of (u_is_shelter Z) sco_is_shelter (fun _ _ _ _ _ _ us hl => match us, hl with | [_], _ => rfl) (fun vs H Q E h => ?_) (fun cdv A outer s H vs Q E hr h => ?_)
  · obtain ⟨q, xs, cs, rfl, _⟩ := h
    rfl
  · refine ⟨_, (pss_one (ps_ret (pe_and (pe_callB (call_isiK_ K) (by rfl) (f_isinstance Z) (by decide +kernel) (pa_cons (pv 0) (pa_cons (pe_bltn (v := .ty "tuple") (by rfl) (f_tuple Z) boot_tuple rfl) pa_nil))) (pe_and (pe_cmpR (op_neNilTK K hr.units0) (pv 0) (pe_tup pa_nil) (nomark _)) (pe_one (pe_callB (cr_all rfl) (by rfl) (f_all Z) (by decide +kernel) (pa_cons (pe_lc (own := [("corner", 1)]) (g := gName 1) (tt := tYes) rfl sco_is_shelter.nd (pi_tupK K (pv 0)) (blkOk_by (by kernel_rfl)) (fun _ _ _ _ _ => (pg_name (i := 1) sco_is_shelter.nd rfl (Or.inl rfl))) (fun _ _ _ _ _ => pts_nil) (fun _ _ _ _ _ => (pe_r R_is_pair (g_is_pair Z) hr (by rfl) (pa_cons (pv 1) pa_nil)))) pa_nil))))))), ?_⟩
    obtain ⟨q, xs, cs, rfl, hq, hp, hne, hl, k⟩ := h
    refine ⟨_, rfl, _, .ty "tuple", _, _, true, rfl, .ty _, tyx_t hq, kit_ty (by decide +kernel), _, rfl, ifT rfl ?_⟩
    refine ⟨_, rfl, Nat.zero_le _, fun e he => ?_⟩
    have e1 : Ex H (upd H e (.tup [])) := Evl.Ex.new he
    have hxe : xs.isEmpty = false := by
      cases xs with
      | nil => exact absurd (List.eq_nil_of_length_eq_zero hp.1.symm) hne
      | cons _ _ => rfl
    refine ⟨q, e, xs, rfl, rfl, Evl.ex_t e1 hq, SqT.of upd_same, _, rfl, ifT (by rw [hxe]; rfl) ?_⟩
    refine ⟨_, rfl, q, rfl, ⟨_, Evl.ex_t e1 hq⟩, fun D hD => ?_⟩
    refine lc_all (walk_tup (xs := xs)) (fun i y H' => y = .bl true) hD (by rw [hp.1]; omega) (fun i y H1 H2 e h => h) (fun H' e => Evl.ex_t (e1.trans e) hq) (fun i x H1 H2 Qe hi e2 _ hy q2 => ?_) gname_mono (fun H' ys e2 h1 hn h7 => ?_)
    · obtain ⟨rfl, hx⟩ := hy
      obtain ⟨c, hc, t, rfl, ht⟩ := hp.at hx
      exact ⟨rfl, _, rfl, t, c.1, c.2, rfl, SqT.of ((e1.trans e2) _ _ ht), q2 _ _ (Evl.Ex.refl _) rfl⟩
    · obtain ⟨bs, rfl, h8, h9⟩ := bls_of (f := fun _ b => b = true) hn fun i y e => ⟨true, h7 i y e, rfl⟩
      have ha := all_of h9
      refine ⟨D, bs, rfl, SqL.of h1, ?_⟩
      rw [ha]
      exact k _ (e1.trans e2)
theorem r_check_shelter (Z : Zed K mg base) : Rn P w K mg base 4 (a_check_shelter K) (spCheckShelter K) := by
  have R_is_shelter := r_is_shelter (P := P) (w := w) Z
  refine rn_of (u_check_shelter Z) sco_check_shelter (fun _ _ _ _ _ _ us hl => match us, hl with | [_], _ => rfl) (fun vs H Q E h => ?_) (fun cdv A outer s H vs Q E hr h => ?_)
  · obtain ⟨q, xs, cs, rfl, _⟩ := h
    rfl
  · refine ⟨_, (pss_one (ps_if (pt_not (pt_val (pe_r R_is_shelter (g_is_shelter Z) hr (by rfl) (pa_cons (pv 0) pa_nil))))
        (pss_one ps_never)
        pss_nil)), ?_⟩
    obtain ⟨q, xs, cs, rfl, hq, hp, hne, hl, k⟩ := h
    exact ⟨_, rfl, q, xs, cs, rfl, hq, hp, hne, hl, fun H' e => ⟨_, rfl, ifF rfl (k H' e)⟩⟩
theorem r_saved_by (Z : Zed K mg base) : Rn P w K mg base 3 (a_saved_by K) (spSavedBy K) := by
  have R_Map_at := r_Map_at (P := P) (w := w) Z
  refine rn_of (u_saved_by Z) sco_saved_by (fun _ _ _ _ _ _ us hl => match us, hl with | [_, _, _], _ => rfl) (fun vs H Q E h => ?_) (fun cdv A outer s H vs Q E hr h => ?_)
  · obtain ⟨l, i, q, x, y, T, ss, steps, s, rfl, _⟩ := h
    rfl
  · refine ⟨_, (pss_cons (ps_asg (pe_ix (ix_listK K) (pv 0) (pv 1) (fun _ _ => rfl)) (pg_tupK K (n := 2) rfl (pgs_cons (pg_name (i := 3) sco_saved_by.nd rfl (Or.inl rfl)) (pgs_cons (pg_name (i := 4) sco_saved_by.nd rfl (Or.inl rfl)) pgs_nil))))
      (pss_one (ps_ret (pe_tup (pa_cons (pe_ms (pv 3) (sc_Map Z) (m_Map_at Z) R_Map_at hr (pa_cons (pe_ix (ix_tupK K) (pv 2) pe_int (fun _ _ => rfl)) pa_nil)) (pa_cons (pe_ms (pv 4) (sc_Map Z) (m_Map_at Z) R_Map_at hr (pa_cons (pe_ix (ix_tupK K) (pv 2) pe_int (fun _ _ => rfl)) pa_nil)) pa_nil)))))), ?_⟩
    obtain ⟨l, i, q, x, y, T, ss, steps, st, rfl, hl, hss, hst, hq, k⟩ := h
    obtain ⟨u, hu, ⟨⟨p, z1, z2, rfl, hp1, hp2, hp3⟩, _⟩⟩ := hss.to hst
    obtain ⟨a1, dx1, _, _, rfl, hs1', _⟩ := hp2.ex
    obtain ⟨a2, dx2, _, _, rfl, hs2', _⟩ := hp3.ex
    refine ⟨_, rfl, _, rfl, l, ss, i, .ref p, rfl, rfl, hl, atI_nat hu, p, _, rfl, SqT.of hp1, rfl, _, _, rfl, _, _, rfl, rfl, ?_⟩
    refine ⟨_, rfl, a1, dx1, _, rfl, hs1', _, rfl, q, _, 0, .int x, rfl, rfl, hq, rfl, _, T, st.a, x, rfl, hp2, _, rfl, a2, dx2, _, rfl, hs2', _, rfl, q, _, 1, .int y, rfl, rfl, hq, rfl, _, T, st.b, y, rfl, hp3, by show 2 ≤ sizeLine; decide, fun r hr2 => ?_⟩
    exact k r _ (Evl.Ex.new hr2) upd_same
theorem r_has_pair (Z : Zed K mg base) : Rn P w K mg base 1 (a_has_pair K) (spHasPair K) := by
  refine rn_of (u_has_pair Z) sco_has_pair (fun _ _ _ _ _ _ us hl => match us, hl with | [_, _, _], _ => rfl) (fun vs H Q E h => ?_) (fun cdv A outer s H vs Q E hr h => ?_)
  · obtain ⟨T, q, xs, cs, p, x, y, rfl, _⟩ := h
    rfl
  · refine ⟨_, (pss_cons (ps_for PassesOwn.never rfl (pi_tupK K (pv 1)) (pg_tupK K (n := 2) rfl (pgs_cons (pg_name (i := 3) sco_has_pair.nd rfl (Or.inl rfl)) (pgs_cons (pg_name (i := 4) sco_has_pair.nd rfl (Or.inl rfl)) pgs_nil)))
        (pss_cons (ps_set (i := 5) sco_has_pair.nd rfl (Or.inl rfl) (pe_un un_neg (pe_op op_fdiv (pe_op op_sub (pe_callTy call_int1 (by rfl) (f_int Z) (by decide +kernel) (pa_cons (pv 3) pa_nil)) (pe_callTy call_int1 (by rfl) (f_int Z) (by decide +kernel) (pa_cons (pe_ix (ix_tupK K) (pv 2) pe_int (fun _ _ => rfl)) pa_nil))) (pv 0))))
        (pss_one (ps_if (pt_cmpR op_ge (pe_ix (ix_tupK K) (pv 2) pe_int (fun _ _ => rfl)) (pe_op op_add (pv 4) (pe_op op_mul (pv 5) (pv 0))) (nomark _))
          (pss_one (ps_ret pe_bl))
          pss_nil))))
      (pss_one (ps_ret pe_bl))), ?_⟩
    obtain ⟨T, q, xs, cs, p, x, y, rfl, hT, hq, hp, hpp, k⟩ := h
    refine ⟨_, rfl, q, rfl, ⟨_, hq⟩, for_it (walk_tup (xs := xs)) (fun i σ H' => H' = H ∧ (∃ (o1 o2 o3 : Option V), σ = [some (.int T), some (.ref q), some (.ref p), o1, o2, o3]) ∧ ∀ (j : Nat) c, j < i → cs[j]? = some c → ¬ c.2 + CM.laps T c.1 x * T ≤ y) ⟨rfl, ⟨_, _, _, rfl⟩, fun j _ hj => absurd hj (Nat.not_lt_zero _)⟩ (fun i σ H' _ hv => ?_) (fun i x1 σ H1 H2 hi hv hy => ?_) (fun σ H' hv => ?_)⟩
    · obtain ⟨rfl, _⟩ := hv
      exact hq
    · obtain ⟨rfl, ⟨o1, o2, o3, rfl⟩, hno⟩ := hv
      obtain ⟨rfl, hx⟩ := hy
      obtain ⟨c, hc, t, rfl, ht⟩ := hp.at hx
      refine ⟨t, _, rfl, SqT.of ht, rfl, _, _, rfl, _, _, rfl, rfl, ?_⟩
      have h0 := hT.1
      have h1 := hT.2
      refine ⟨_, rfl, .inl ⟨_, rfl, _, rfl, p, _, 0, .int x, rfl, rfl, hpp, rfl, .inl ⟨_, rfl, _, _, rfl, rfl, _, rfl, _, _, rfl, rfl, ⟨h0, by omega⟩, _, rfl, ?_⟩⟩⟩
      refine ⟨_, rfl, p, _, 1, .int y, rfl, rfl, hpp, rfl, _, rfl, _, rfl, _, rfl, _, _, rfl, rfl, .inr (by omega), _, _, rfl, rfl, _, _, rfl, rfl, _, rfl, ?_⟩
      by_cases hcc : c.2 + CM.laps T c.1 x * T ≤ y
      · exact ifT (decide_eq_true hcc) (k true ⟨fun _ => ⟨c, List.mem_of_getElem? hc, hcc⟩, fun _ => rfl⟩)
      · refine ifF (decide_eq_false hcc) ⟨rfl, ⟨_, _, _, rfl⟩, fun j c' hj hcj => ?_⟩
        rcases Nat.lt_or_eq_of_le (Nat.le_of_lt_succ hj) with h | h
        · exact hno j c' h hcj
        · rw [h, hc] at hcj
          cases hcj
          exact hcc
    · obtain ⟨rfl, _, hno⟩ := hv
      refine k false ⟨fun z => (nomatch z), fun ⟨c, hc, hcc⟩ => ?_⟩
      obtain ⟨j, hj⟩ := List.getElem?_of_mem hc
      exact absurd hcc (hno j c (by rw [hp.1]; exact (List.getElem?_eq_some_iff.mp hj).1) hj)
end
end CZ
set_option Elab.async false
set_option linter.all false
set_option maxRecDepth 100000
set_option maxHeartbeats 2000000
namespace CZ
open PySem PySem.Spec PyProof.Rows L2
/-! ### what lasts, and what breaks -/
def namesV (ps : List CM.Prg) : List V := ps.map fun p => V.str (nmS p)
def LastsLo (lo : Lo) (q : Int × Int) : Prop := CM.Lasts lo.ls q
def LastsRo (lo : Lo) (q : Int × Int) : Prop := CM.LastsR lo.ls lo.rs lo.trim q
theorem len_lasts {K : PySem.W.Frag} {H : Hp} {s : V} {lo : Lo} {m : Nat} (hok : LoOk lo) (h : LenSt K H s lo m true) (x y : Int) : rwF lo.SL (m - 1) x ≤ y ↔ LastsLo lo (x, y) := by
  have h1 := h.f.m1
  have hs : CM.L lo.T lo.ls (m - 1 + 1) = CM.L lo.T lo.ls (m - 1) := by rw [show m - 1 + 1 = m by omega]; exact h.st rfl
  exact CM.L_lasts hok.T1.1 hok.lok hs x y
theorem len_never {K : PySem.W.Frag} {H : Hp} {s : V} {lo : Lo} {m : Nat} (hok : LoOk lo) (h : LenSt K H s lo m false) : ¬ CM.Ever lo.ls := CM.never_of hok.T1.1 hok.lok (h.nv rfl)
theorem len_ever {K : PySem.W.Frag} {H : Hp} {s : V} {lo : Lo} {m : Nat} (hok : LoOk lo) (h : LenSt K H s lo m true) : CM.Ever lo.ls := ever hok (h.st rfl) h.f.m1
theorem room_lasts {K : PySem.W.Frag} {H : Hp} {s r : V} {lo : Lo} {ml mr : Nat} (hok : LoOk lo) (h : LenSt K H s lo ml true) (h2 : RoomSt K H r lo ml mr) {x y : Int} (hxy : x ≤ y) : rwF lo.SR (mr - 1) x ≤ y ↔ LastsRo lo (x, y) := by
  have h1 := h.f.m1
  have h3 := h2.f.m1
  have h4 := h2.le
  have hs : CM.L lo.T lo.ls (mr - 1 + 1) = CM.L lo.T lo.ls (mr - 1) := by
    have q1 := L_stable (h.st rfl) h1 (mr - 1 + 1)
    have q2 := L_stable (h.st rfl) h1 (mr - 1)
    rw [show min (mr - 1 + 1) (ml - 1) = ml - 1 by omega] at q1
    rw [show min (mr - 1) (ml - 1) = ml - 1 by omega] at q2
    exact q1.symm.trans q2
  have hr : CM.Rm lo.T lo.ls lo.rs lo.trim (mr - 1 + 1) = CM.Rm lo.T lo.ls lo.rs lo.trim (mr - 1) := by rw [show mr - 1 + 1 = mr by omega]; exact h2.st
  exact CM.Rm_lasts hok.T1.1 hok.lok hok.rok lo.trim hs hr hxy
def spDoesLast (K : PySem.W.Frag) : Sp := fun vs H Q _ => ∃ v lo kd q x y,
  (vs = [v, .str (Str.ofString "length"), .ref q] ∧ SqT K H q [.int x, .int y] ∧ ∃ st, StuAt K H v lo kd st ∧ st ≠ .k0 ∧ ∀ b, (b = true ↔ LastsLo lo (x, y)) → Q (.bl b) H) ∨
  (vs = [v, .str (Str.ofString "room"), .ref q] ∧ SqT K H q [.int x, .int y] ∧ x ≤ y ∧ q ≠ kd ∧ ∃ ml, (StuAt K H v lo kd (.km ml) ∨ ∃ mr, StuAt K H v lo kd (.ke ml mr)) ∧
    ∀ H' mr b, ExB kd H H' → StuAt K H' v lo kd (.ke ml mr) → (b = true ↔ LastsRo lo (x, y)) → Q (.bl b) H')
def spNamesOf (K : PySem.W.Frag) : Sp := fun vs H Q _ => ∃ v lo kd l, ∃ ws : List (Nat × CM.Prg), vs = [v, .ref l] ∧ StuF K H v lo kd ∧ SqL K H l (ws.map fun w => V.int w.1) ∧ (∀ w ∈ ws, lo.ps[w.1]? = some w.2) ∧ ws.length ≤ 90000 ∧
  ∀ q H', Ex H H' → H' q = some (.tup (namesV (ws.map (·.2)))) → Q (.ref q) H'
section
variable {P : Program} {w : World} {K : PySem.W.Frag} {mg : Str → Option Value} {base : Heap}
theorem r_names_of (Z : Zed K mg base) : Rn P w K mg base 3 (a_names_of K) (spNamesOf K) := by
  have R_Studio_programs := r_Studio_programs (P := P) (w := w) Z
  refine rn_of (u_names_of Z) sco_names_of (fun _ _ _ _ _ _ us hl => match us, hl with | [_, _], _ => rfl) (fun vs H Q E h => ?_) (fun cdv A outer s H vs Q E hr h => ?_)
  · obtain ⟨v, lo, kd, l, ws, rfl, _⟩ := h
    rfl
  · refine ⟨_, (pss_one (ps_ret (pe_callTy call_tuple_of (by rfl) (f_tuple Z) (by decide +kernel) (pa_cons (pe_lc (own := [("number", 2)]) (g := gName 2) (tt := tYes) rfl sco_names_of.nd (pi_listK K (pv 1)) (blkOk_by (by kernel_rfl)) (fun _ _ _ _ _ => (pg_name (i := 2) sco_names_of.nd rfl (Or.inl rfl))) (fun _ _ _ _ _ => pts_nil) (fun _ _ _ _ _ => (pe_ix (ix_tupK K) (pe_pr (pv 0) (sc_Studio Z) (p_Studio_programs Z) R_Studio_programs hr) (pv 2) (fun _ _ => rfl)))) pa_nil)))), ?_⟩
    obtain ⟨v, lo, kd, l, ws, rfl, hF, hl, hw, hwl, k⟩ := h
    refine ⟨_, rfl, l, rfl, ⟨_, hl⟩, fun D hD => ?_⟩
    refine lc_all (walk_list (xs := ws.map fun w => V.int w.1)) (fun i y H' => ∃ w, ws[i]? = some w ∧ y = .str (nmS w.2)) hD (by rw [List.length_map]; omega) (fun i y H1 H2 e h => h) (fun H' e => Evl.ex_l e hl) (fun i x H1 H2 Qe hi e1 hn _ q => ?_) gname_mono (fun H1 ys e1 h1 hn h7 => ?_)
    · rename_i hy
      obtain ⟨rfl, hx⟩ := hy
      rw [List.getElem?_map] at hx
      cases hwi : ws[i]? with
      | none => rw [hwi] at hx; cases hx
      | some w =>
        rw [hwi] at hx
        cases hx
        have hF1 := hF.mono e1
        obtain ⟨⟨a, dx, mp, pd, tx, l0, l1, kvs, rfl, hs, _⟩, _⟩ := id hF1
        refine ⟨rfl, _, rfl, a, dx, _, rfl, hs, _, lo, kd, rfl, hF1, fun t H2 ht e2 ht2 => ?_⟩
        have hp := hw w (List.mem_of_getElem? hwi)
        refine ⟨_, rfl, t, _, w.1, .str (nmS w.2), rfl, rfl, SqT.of ht2, atI_nat (by rw [List.getElem?_map, hp]; rfl), q _ _ e2 ⟨w, hwi, rfl⟩⟩
    · rw [List.length_map] at hn
      have hys : ys = namesV (ws.map (·.2)) := by
        apply List.ext_getElem?
        intro i
        unfold namesV
        rw [List.map_map, List.getElem?_map]
        cases e : ys[i]? with
        | none =>
          rw [List.getElem?_eq_none (by have := List.getElem?_eq_none_iff.mp e; omega)]
          rfl
        | some y =>
          obtain ⟨w, h8, rfl⟩ := h7 i y e
          rw [h8]
          rfl
      subst hys
      refine ⟨D, _, rfl, .inl ⟨SqL.of h1, fun q hq => k q _ (e1.trans (Evl.Ex.new hq)) upd_same⟩⟩
theorem r_does_last (Z : Zed K mg base) : Rn P w K mg base 14 (a_does_last K) (spDoesLast K) := by
  have R_is_any := r_is_any (P := P) (w := w) Z
  have R_is_ever := r_is_ever (P := P) (w := w) Z
  have R_stairs_of := r_stairs_of (P := P) (w := w) Z
  have R_Stairs_last := r_Stairs_last (P := P) (w := w) Z
  refine rn_of (u_does_last Z) sco_does_last (fun _ _ _ _ _ _ us hl => match us, hl with | [_, _, _], _ => rfl) (fun vs H Q E h => ?_) (fun cdv A outer s H vs Q E hr h => ?_)
  · obtain ⟨v, lo, kd, q, x, y, ⟨rfl, _⟩ | ⟨rfl, _⟩⟩ := h <;> rfl
  · refine ⟨_, (pss_cons (ps_if (pt_val (pe_r R_is_any (g_is_any Z) hr (by rfl) (pa_cons (pv 0) (pa_cons (pv 1) pa_nil))))
        (pss_one (ps_ret pe_bl))
        pss_nil)
      (pss_one (ps_ret (pe_and (pe_r R_is_ever (g_is_ever Z) hr (by rfl) (pa_cons (pv 0) (pa_cons (pv 1) pa_nil))) (pe_one (pe_cmpR op_ge (pe_ix (ix_tupK K) (pv 2) pe_int (fun _ _ => rfl)) (pe_ms (pe_r R_stairs_of (g_stairs_of Z) hr (by rfl) (pa_cons (pv 0) (pa_cons (pv 1) pa_nil))) (sc_Stairs Z) (m_Stairs_last Z) R_Stairs_last hr (pa_cons (pe_ix (ix_tupK K) (pv 2) pe_int (fun _ _ => rfl)) pa_nil)) (nomark _))))))), ?_⟩
    obtain ⟨v, lo, kd, q, x, y, ⟨rfl, hq, st, hS, hne, k⟩ | ⟨rfl, hq, hxy, hqk, ml, hS, k⟩⟩ := h
    · have hok := hS.f.ok
      obtain ⟨sv, kvs', m, b, hkd, hv, hl, hls⟩ := hS.len hne
      refine ⟨_, rfl, _, rfl, v, lo, kd, _, rfl, hS.u, .inr ⟨false, rfl, _, rfl, ifF rfl ?_⟩⟩
      refine ⟨_, rfl, _, rfl, v, lo, kd, false, rfl, .inr ⟨st, m, b, hS, hl, _, rfl, ?_⟩⟩
      cases b with
      | false => exact ifF rfl (k false ⟨fun z => (nomatch z), fun z => absurd ⟨_, z⟩ (len_never hok hls)⟩)
      | true =>
        refine ifT rfl ⟨_, rfl, q, _, 1, .int y, rfl, rfl, hq, rfl, ?_⟩
        refine ⟨_, rfl, _, rfl, .inl ⟨v, lo, kd, rfl, .inr ⟨st, hS, hne, fun s2 m2 b2 hl2 hls2 => ?_⟩⟩⟩
        obtain ⟨_, ⟨sa, sd, rl, stl, lv, xs, ss, rfl, hsl, _⟩, _⟩ := id hls2.f
        refine ⟨sa, sd, _, rfl, hsl, _, rfl, q, _, 0, .int x, rfl, rfl, hq, rfl, _, lo.SL, m2, b2, x, rfl, hls2.f, _, _, rfl, rfl, ?_⟩
        have hb2 : b2 = true := by
          cases st with
          | k0 => exact hl.elim
          | kn m => cases hl.2
          | km m => exact hl2.2
          | ke m r => exact hl2.2
        subst hb2
        refine k _ ?_
        rw [← len_lasts hok hls2 x y]
        exact ⟨fun z => of_decide_eq_true z, fun z => decide_eq_true z⟩
    · have hS0 : ∃ st, StuAt K H v lo kd st ∧ LenOf st ml true := by
        rcases hS with h | ⟨mr, h⟩
        · exact ⟨_, h, rfl, rfl⟩
        · exact ⟨_, h, rfl, rfl⟩
      obtain ⟨st, hS1, hl⟩ := hS0
      have hok := hS1.f.ok
      refine ⟨_, rfl, _, rfl, v, lo, kd, _, rfl, hS1.u, .inr ⟨true, rfl, _, rfl, ifF rfl ?_⟩⟩
      refine ⟨_, rfl, _, rfl, v, lo, kd, true, rfl, .inr ⟨st, ml, true, hS1, hl, _, rfl, ifT rfl ?_⟩⟩
      refine ⟨_, rfl, q, _, 1, .int y, rfl, rfl, hq, rfl, _, rfl, _, rfl, .inr ⟨v, lo, kd, ml, rfl, ?_⟩⟩
      have fin : ∀ (r : V) (H' : Hp) (mr : Nat), ExB kd H H' → StuAt K H' v lo kd (.ke ml mr) → RoomSt K H' r lo ml mr → ∃ a dx vs, r = .ref a ∧ SlX.Slt H' a (C_Stairs K) dx vs ∧ tCons (tOp (rIxT K) (tVar 2) (tC (.int 0))) tNil (L2.start N_does_last [v, .str (Str.ofString "room"), .ref q]) H' fun ws H2 => spStLast K (r :: ws) H2 (fun z H3 => rI0 (fun i j => V.bl (decide (j ≤ i))) (.int y) z H3 fun b H4 => Q b H4) E0 := by
        intro r H' mr he hS' hr'
        obtain ⟨_, ⟨sa, sd, rl, stl, lv, xs, ss, rfl, hsl, _⟩, _⟩ := id hr'.f
        have hq' : SqT K H' q [.int x, .int y] := by
          rcases hq with (h | ⟨o, h⟩) | h
          · exact .inl (.inl (he _ _ hqk h))
          · exact .inl (.inr ⟨o, he _ _ hqk h⟩)
          · exact .inr h
        refine ⟨sa, sd, _, rfl, hsl, _, rfl, q, _, 0, .int x, rfl, rfl, hq', rfl, _, lo.SR, mr, true, x, rfl, hr'.f, _, _, rfl, rfl, ?_⟩
        obtain ⟨sv, rv, hkd, hlenS, hroom⟩ : ∃ s r, H' kd = some (.dK [(keyS "length", s), (keyS "room", r)]) ∧ LenSt K (hid kd H') s lo ml true ∧ RoomSt K (hid kd H') r lo ml mr := hS'.k
        refine k H' mr _ he hS' ?_
        rw [← room_lasts hok hlenS hroom hxy]
        exact ⟨fun z => of_decide_eq_true z, fun z => decide_eq_true z⟩
      rcases hS with h | ⟨mr, h⟩
      · exact .inl ⟨h, fun r H' mr he hS' hr' => fin r H' mr he hS' hr'⟩
      · exact .inr ⟨mr, h, fun r hr' => fin r H mr (ExB.refl _ _) h hr'⟩
end
end CZ
set_option Elab.async false
set_option linter.all false
set_option maxRecDepth 100000
set_option maxHeartbeats 4000000
namespace CZ
open PySem PySem.Spec PyProof.Rows L2
/-- a row of programs of the studio, not too long -/
def RowIn (lo : Lo) (ps1 : List CM.Prg) : Prop := (∀ p ∈ ps1, p ∈ lo.ps) ∧ ps1.length ≤ 90000
/-- a row of programs, then a cut, then a row: the length is gone -/
def BreaksAt (lo : Lo) (q : Int × Int) (ps1 : List CM.Prg) (p1 : CM.Prg) (ps2 : List CM.Prg) : Prop :=
  (CM.play (ps2.map CM.stpL) (CM.cut (CM.stpR p1) lo.trim (CM.play (ps1.map CM.stpR) q))).2 ≤ (CM.play (ps2.map CM.stpL) (CM.cut (CM.stpR p1) lo.trim (CM.play (ps1.map CM.stpR) q))).1
theorem SL_zero {lo : Lo} (o : LoOk lo) (x : Int) : rwF lo.SL 0 x = x + 1 := CM.base1_ext o.T1.1 x
theorem SL_brk {lo : Lo} (o : LoOk lo) (j : Nat) (x y : Int) (h1 : y < rwF lo.SL (j + 1) x) (h0 : rwF lo.SL j x ≤ y) : ∃ s ∈ lo.SL.steps, s.b y < rwF lo.SL j (s.a x) := by
  refine CM.Rw_break o.T1.1 o.lok (lev := fun _ => CM.base1 lo.T) h1 h0 ?_
  have h2 := CM.Rw_ge (lev := fun _ => CM.base1 lo.T) o.T1.1 o.lok (Nat.zero_le j) x
  have h3 : CM.ext (CM.base1 lo.T) lo.T x ≤ rwF lo.SL j x := h2
  exact Int.le_trans h3 h0
theorem SL_stay {lo : Lo} (o : LoOk lo) (j : Nat) (x y : Int) (h : rwF lo.SL (j + 1) x ≤ y) : ∀ s ∈ lo.SL.steps, rwF lo.SL j (s.a x) ≤ s.b y := fun _ hs => CM.Rw_stay o.T1.1 o.lok (lev := fun _ => CM.base1 lo.T) h hs
theorem to_prg {ps : List CM.Prg} {f : CM.Prg → CM.Stp} : ∀ {ws : List (Nat × CM.Stp)}, (∀ w ∈ ws, (ps.map f)[w.1]? = some w.2) → ∃ us : List (Nat × CM.Prg), us.map (·.1) = ws.map (·.1) ∧ (∀ u ∈ us, ps[u.1]? = some u.2) ∧ us.map (fun u => f u.2) = ws.map (·.2)
  | [], _ => ⟨[], rfl, fun _ z => (nomatch z), rfl⟩
  | w :: ws, h => by
    obtain ⟨us, h1, h2, h3⟩ := to_prg (ws := ws) fun x hx => h x (List.mem_cons_of_mem _ hx)
    have hw := h w (List.mem_cons_self ..)
    rw [List.getElem?_map] at hw
    cases hp : ps[w.1]? with
    | none => rw [hp] at hw; cases hw
    | some p =>
      rw [hp] at hw
      injection hw with hw
      refine ⟨(w.1, p) :: us, by rw [List.map_cons, List.map_cons, h1], fun u hu => ?_, by rw [List.map_cons, List.map_cons, h3, ← hw]⟩
      rcases List.mem_cons.mp hu with e | hu
      · rw [e]; exact hp
      · exact h2 u hu
def spRoomBroken (K : PySem.W.Frag) : Sp := fun vs H Q _ => ∃ v lo kd q x y ml mr, ∃ k : Nat, vs = [v, .ref q, .int k] ∧ StuAt K H v lo kd (.ke ml mr) ∧ SqT K H q [.int x, .int y] ∧ x ≤ y ∧ k ≤ mr - 1 ∧ y < rwF lo.SR k x ∧ (∀ i, i < k → rwF lo.SR i x ≤ y) ∧
  ∀ p H' t1 t2 nm ps1 p1 ps2, Ex H H' → H' p = some (.tup [.ref t1, .str nm, .ref t2]) → H' t1 = some (.tup (namesV ps1)) → H' t2 = some (.tup (namesV ps2)) → RowIn lo ps1 → p1 ∈ lo.ps → RowIn lo ps2 → BreaksAt lo (x, y) ps1 p1 ps2 → Q (.ref p) H'
section
variable {P : Program} {w : World} {K : PySem.W.Frag} {mg : Str → Option Value} {base : Heap}
theorem r_room_broken (Z : Zed K mg base) : Rn P w K mg base 14 (a_room_broken K) (spRoomBroken K) := by
  have R_stairs_of := r_stairs_of (P := P) (w := w) Z
  have R_Map_at := r_Map_at (P := P) (w := w) Z
  have R_Studio_trim := r_Studio_trim (P := P) (w := w) Z
  have R_Studio_programs := r_Studio_programs (P := P) (w := w) Z
  have R_names_of := r_names_of (P := P) (w := w) Z
  have R_Stairs_least := r_Stairs_least (P := P) (w := w) Z (ok1 Z [])
  have R_Stairs_soonest := r_Stairs_soonest (P := P) (w := w) Z (ok1 Z [])
  have R_Stairs_broken := r_Stairs_broken (P := P) (w := w) Z (ok1 Z [])
  have R_Stairs_breaking := r_Stairs_breaking (P := P) (w := w) Z (ok1 Z [])
  refine rn_of (u_room_broken Z) sco_room_broken (fun _ _ _ _ _ _ us hl => match us, hl with | [_, _, _], _ => rfl) (fun vs H Q E h => ?_) (fun cdv A outer s H vs Q E hr h => ?_)
  · obtain ⟨v, lo, kd, q, x, y, ml, mr, k, rfl, _⟩ := h
    rfl
  · refine ⟨_, (pss_cons (ps_par3 (i := 3) (j := 4) (l := 5) rfl sco_room_broken.nd rfl rfl rfl (by decide) (by decide) (by decide) rfl rfl rfl (pa_cons (pe_r R_stairs_of (g_stairs_of Z) hr (by rfl) (pa_cons (pv 0) (pa_cons (C8.pe_gc (by rfl) (k_ROOM Z)) pa_nil))) (pa_cons (pe_r R_stairs_of (g_stairs_of Z) hr (by rfl) (pa_cons (pv 0) (pa_cons (C8.pe_gc (by rfl) (k_LENGTH Z)) pa_nil))) (pa_cons (pe_dget (hu_of hr) (pe_slK K (pv 0)) (C8.pe_gc (by rfl) (k_START Z)) (fun _ _ => rfl)) pa_nil))) (by rfl))
      (pss_cons (ps_asg (pv 1) (pg_tupK K (n := 2) rfl (pgs_cons (pg_name (i := 6) sco_room_broken.nd rfl (Or.inl rfl)) (pgs_cons (pg_name (i := 7) sco_room_broken.nd rfl (Or.inl rfl)) pgs_nil))))
      (pss_cons (ps_set (i := 8) sco_room_broken.nd rfl (Or.inl rfl) (pe_lst pa_nil))
      (pss_cons (ps_for PassesOwn.never rfl (pi_range3 (by rfl) (f_range Z) (pa_cons (pe_op op_sub (pv 2) pe_int) (pa_cons (pe_un un_neg pe_int) (pa_cons (pe_un un_neg pe_int) pa_nil)))) (pg_name (i := 9) sco_room_broken.nd rfl (Or.inl rfl))
        (pss_cons (ps_for PassesOwn.never rfl (pi_enum (by rfl) (f_enumerate Z) (pa_cons (pv 5) pa_nil)) (pg_tupK K (n := 2) rfl (pgs_cons (pg_name (i := 10) sco_room_broken.nd rfl (Or.inl rfl)) (pgs_cons (pg_name (i := 11) sco_room_broken.nd rfl (Or.inl rfl)) pgs_nil)))
          (pss_cons (ps_set (i := 12) sco_room_broken.nd rfl (Or.inl rfl) (pe_tup (pa_cons (pe_ms (pv 11) (sc_Map Z) (m_Map_at Z) R_Map_at hr (pa_cons (pv 6) pa_nil)) (pa_cons (pe_op op_sub (pe_ms (pv 11) (sc_Map Z) (m_Map_at Z) R_Map_at hr (pa_cons (pv 7) pa_nil)) (pe_pr (pv 0) (sc_Studio Z) (p_Studio_trim Z) R_Studio_trim hr)) pa_nil))))
          (pss_one (ps_if (pt_cmpR op_lt (pe_ix (ix_tupK K) (pv 12) pe_int (fun _ _ => rfl)) (pe_ms (pv 4) (sc_Stairs Z) (m_Stairs_least Z) R_Stairs_least hr (pa_cons (pv 9) (pa_cons (pe_ix (ix_tupK K) (pv 12) pe_int (fun _ _ => rfl)) pa_nil))) (nomark _))
            (pss_cons (ps_set (i := 13) sco_room_broken.nd rfl (Or.inl rfl) (pe_ms (pv 4) (sc_Stairs Z) (m_Stairs_broken Z) R_Stairs_broken hr (pa_cons (pv 12) (pa_cons (pe_ms (pv 4) (sc_Stairs Z) (m_Stairs_soonest Z) R_Stairs_soonest hr (pa_cons (pv 12) (pa_cons (pv 9) pa_nil))) pa_nil))))
            (pss_one (ps_ret (pe_tup (pa_cons (pe_r R_names_of (g_names_of Z) hr (by rfl) (pa_cons (pv 0) (pa_cons (pv 8) pa_nil))) (pa_cons (pe_ix (ix_tupK K) (pe_pr (pv 0) (sc_Studio Z) (p_Studio_programs Z) R_Studio_programs hr) (pv 10) (fun _ _ => rfl)) (pa_cons (pe_r R_names_of (g_names_of Z) hr (by rfl) (pa_cons (pv 0) (pa_cons (pv 13) pa_nil))) pa_nil)))))))
            pss_nil))))
        (pss_cons (ps_set (i := 10) sco_room_broken.nd rfl (Or.inl rfl) (pe_ms (pv 3) (sc_Stairs Z) (m_Stairs_breaking Z) R_Stairs_breaking hr (pa_cons (pv 6) (pa_cons (pv 7) (pa_cons (pv 9) pa_nil)))))
        (pss_cons (ps_par (i := 6) (j := 7) rfl sco_room_broken.nd rfl rfl (by decide) rfl rfl (pa_cons (pe_ms (pe_ix (ix_listK K) (pv 5) (pv 10) (fun _ _ => rfl)) (sc_Map Z) (m_Map_at Z) R_Map_at hr (pa_cons (pv 6) pa_nil)) (pa_cons (pe_ms (pe_ix (ix_listK K) (pv 5) (pv 10) (fun _ _ => rfl)) (sc_Map Z) (m_Map_at Z) R_Map_at hr (pa_cons (pv 7) pa_nil)) pa_nil)) (by rfl))
        (pss_one (ps_expr (pe_bm PySem.F.plainAttrs_list PySem.F.slot_list_append PySem.F.type_list_append mt_append (pv 8) (pa_cons (pv 10) pa_nil))))))))
      (pss_one (ps_ret pe_non)))))), ?_⟩
    obtain ⟨v, lo, kd, q, x, y, ml, mr, k, rfl, hS, hq, hxy, hkm, hyk, hlow, kk⟩ := h
    have hF := hS.u
    obtain ⟨⟨a, dx, mp, pd, tx, l0, l1, kvs, rfl, hs, hmp, ⟨xs0, hl0, hx0⟩, _⟩, hok⟩ := id hF
    have hlen3 := hok.len
    refine ⟨_, rfl, .inr ⟨_, lo, kd, ml, rfl, .inr ⟨mr, hS, fun rv hroom => ?_⟩⟩⟩
    refine ⟨_, rfl, .inl ⟨_, lo, kd, rfl, .inr ⟨_, hS, fun z => (nomatch z), fun lv m b hl hlenS => ?_⟩⟩⟩
    obtain ⟨rfl, rfl⟩ := hl
    refine ⟨_, rfl, a, _, dx, _, _, _, _, rfl, hs, sc_Studio Z, sl_Studio_own_maps Z, rfl, mp, _, rfl, DGet.k (k := keyS "start") hmp, _, _, _, rfl, ?_⟩
    refine ⟨_, rfl, q, _, rfl, hq, rfl, _, _, rfl, _, _, rfl, rfl, by decide, fun nl hnl => ?_⟩
    have e0 : Ex H (upd H nl (.lst [])) := Evl.Ex.new hnl
    obtain ⟨_, ⟨ra, rd, _, _, _, _, _, rfl, hrs, _⟩, _⟩ := id hroom.f
    obtain ⟨_, ⟨la, ld, _, _, _, _, _, rfl, hls, _⟩, _⟩ := id hlenS.f
    have hmr := hroom.f.mb
    refine ⟨_, rfl, _, _, rfl, rfl, _, rfl, _, rfl, (k : Int) - 1, -1, -1, k, rfl, ?_, for_rangeC (lo := (k : Int) - 1) (c := -1) (n := k) (fun i σ H' => ∃ (ws : List (Nat × CM.Prg)) (x' y' : Int) (o1 o2 o3 o4 o5 : Option V), σ = [some (.ref a), some (.ref q), some (.int k), some (.ref ra), some (.ref la), some (.ref l0), some (.int x'), some (.int y'), some (.ref nl), o1, o2, o3, o4, o5] ∧
      Ex H H' ∧ H' nl = some (.lst (ws.map fun w => V.int w.1)) ∧ (∀ w ∈ ws, lo.ps[w.1]? = some w.2) ∧ ws.length = i ∧ CM.play (ws.map fun w => CM.stpR w.2) (x, y) = (x', y') ∧ x' ≤ y' ∧ y' < rwF lo.SR (k - i) x' ∧ ∀ j, j < k - i → rwF lo.SR j x' ≤ y') ?_ (fun i σ H1 hi hv => ?_) (fun σ H' hv => ?_)⟩
    · have h1 := RgC.neg (i := (k : Int) - 1) (j := -1) (by omega) (by omega) (by decide) (by decide)
      rw [show ((k : Int) - 1 - -1).toNat = k by omega] at h1
      exact h1
    · exact ⟨[], x, y, _, _, _, _, _, rfl, e0, upd_same, fun _ z => (nomatch z), rfl, rfl, hxy, hyk, hlow⟩
    · obtain ⟨ws, x', y', o1, o2, o3, o4, o5, rfl, e1, hnl1, hw, hwl, hpl, hxy', hy, hlo⟩ := hv
      have el : (k : Int) - 1 + (i : Nat) * (-1) = ((k - i - 1 : Nat) : Int) := by omega
      rw [el]
      have hy2 : y' < rwF lo.SR (k - i - 1 + 1) x' := by rw [show k - i - 1 + 1 = k - i by omega]; exact hy
      have hlo2 := hlo (k - i - 1) (by omega)
      generalize hlf : k - i - 1 = lf at *
      refine ⟨_, rfl, l0, xs0, rfl, Evl.ex_l e1 hl0, for_it (walk_enum (xs := xs0)) (fun i2 σ H' => ∃ (o2 o3 o4 o5 : Option V), σ = [some (.ref a), some (.ref q), some (.int k), some (.ref ra), some (.ref la), some (.ref l0), some (.int x'), some (.int y'), some (.ref nl), some (.int lf), o2, o3, o4, o5] ∧ Ex H1 H' ∧ ∀ (j : Nat) p, j < i2 → lo.ps[j]? = some p → ¬ CM.carry p false y' - lo.trim < rwF lo.SL lf (CM.carry p false x')) ⟨_, _, _, _, rfl, Evl.Ex.refl _, fun j p hj => absurd hj (Nat.not_lt_zero _)⟩ (fun i2 σ H' _ hv => ?_) (fun i2 x2 σ H2 H2' hi2 hv hy3 => ?_) (fun σ H2 hv => ?_)⟩
      · obtain ⟨_, _, _, _, _, e, _⟩ := hv
        exact Evl.ex_l (e1.trans e) hl0
      · obtain ⟨o2, o3, o4, o5, rfl, e2, hno⟩ := hv
        obtain ⟨T, u1, u2, rfl, hT, rfl, hx1, hx2⟩ := hy3
        injection hx1 with hx1
        subst hx1
        have hx2 : xs0[i2]? = some u2 := hx2
        obtain ⟨p, hpp, hm⟩ := hx0.at hx2
        have e3 : Ex H (upd H2 T (.tup [.int (i2 : Nat), u2])) := (e1.trans e2).trans (Evl.Ex.new hT)
        have hm3 := hm.mono e3
        obtain ⟨a1, dx1, _, _, rfl, hs1', _⟩ := id hm3.ex
        refine ⟨T, _, rfl, SqT.of upd_same, rfl, _, _, rfl, _, _, rfl, rfl, ?_⟩
        refine ⟨_, rfl, a1, dx1, _, rfl, hs1', _, rfl, _, lo.T, CM.carry p false, x', rfl, hm3, _, rfl, a1, dx1, _, rfl, hs1', _, rfl, _, lo.T, CM.carry p false, y', rfl, hm3, _, rfl, a, dx, _, rfl, slt_ex e3 hs, _, lo, kd, rfl, hF.mono e3, _, _, rfl, rfl, by show 2 ≤ sizeLine; decide, fun c hc => ?_⟩
        have e4 := e3.trans (Evl.Ex.new (o := .tup [.int (CM.carry p false x'), .int (CM.carry p false y' - lo.trim)]) hc)
        have hct : (upd (upd H2 T (.tup [.int (i2 : Nat), .ref a1])) c (.tup [.int (CM.carry p false x'), .int (CM.carry p false y' - lo.trim)])) c = some (.tup [.int (CM.carry p false x'), .int (CM.carry p false y' - lo.trim)]) := upd_same
        generalize hH4 : upd (upd H2 T (.tup [.int (i2 : Nat), .ref a1])) c (.tup [.int (CM.carry p false x'), .int (CM.carry p false y' - lo.trim)]) = H4 at *
        have e24 : Ex H2 H4 := by rw [← hH4]; exact (Evl.Ex.new hT).trans (Evl.Ex.new hc)
        have hlen4 := hlenS.mono e4
        refine ⟨_, rfl, c, _, 1, .int (CM.carry p false y' - lo.trim), rfl, rfl, SqT.of hct, rfl, _, rfl, la, ld, _, rfl, slt_ex e4 hls, _, rfl, _, rfl, c, _, 0, .int (CM.carry p false x'), rfl, rfl, SqT.of hct, rfl, _, lo.SL, m, true, lf, _, rfl, hlen4.f, .inl rfl, _, _, rfl, rfl, _, rfl, ?_⟩
        have hmin : ∀ z, rwF lo.SL (min lf (m - 1)) z = rwF lo.SL lf z := fun z => by
          unfold rwF
          rw [L_stable (hlenS.st rfl) hlenS.f.m1]
        rw [hmin]
        by_cases hcc : CM.carry p false y' - lo.trim < rwF lo.SL lf (CM.carry p false x')
        · refine ifT (decide_eq_true hcc) ?_
          refine ⟨_, rfl, la, ld, _, rfl, slt_ex e4 hls, _, rfl, _, rfl, la, ld, _, rfl, slt_ex e4 hls, _, rfl, _, rfl, _, lo.SL, m, true, c, _, _, (lf : Int), min lf (m - 1), rfl, hlen4.f, SqT.of hct, by omega, by omega, by rw [hmin]; exact hcc, fun j hj hjy hjl => ?_⟩
          refine ⟨_, lo.SL, m, true, c, _, _, j, rfl, hlen4.f, SqT.of hct, by omega, hjy, hjl, SL_brk hok, SL_stay hok, fun l ws2 H5 e5 hl5 hw5 hwl5 hpl5 => ?_⟩
          obtain ⟨us, hu1, hu2, hu3⟩ := to_prg (ps := lo.ps) (f := CM.stpL) (ws := ws2) hw5
          have e15 := e4.trans e5
          refine ⟨_, rfl, _, rfl, _, lo, kd, nl, ws, rfl, hF.mono e15, SqL.of (e5 _ _ (e24 _ _ (e2 _ _ hnl1))), hw, by omega, fun t1 H6 e6 ht1 => ?_⟩
          have e16 := e15.trans e6
          refine ⟨_, rfl, a, dx, _, rfl, slt_ex e16 hs, _, lo, kd, rfl, hF.mono e16, fun t H7 ht e7 ht7 => ?_⟩
          refine ⟨_, rfl, t, _, i2, .str (nmS p), rfl, rfl, SqT.of ht7, atI_nat (by rw [List.getElem?_map, hpp]; rfl), ?_⟩
          have e17 := e16.trans e7
          have hl7 : SqL K H7 l (us.map fun w => V.int w.1) := by
            have h1 : (us.map fun w => V.int w.1) = (ws2.map fun w => V.int w.1) := by
              have h2 := congrArg (List.map fun (n : Nat) => V.int n) hu1
              rw [List.map_map, List.map_map] at h2
              exact h2
            rw [h1]
            exact Evl.ex_l (e6.trans e7) hl5
          have hul : us.length = ws2.length := by
            have := congrArg List.length hu1
            rw [List.length_map, List.length_map] at this
            exact this
          refine ⟨_, rfl, _, rfl, _, lo, kd, l, us, rfl, hF.mono e17, hl7, hu2, by have := hlenS.mle; omega, fun t2 H8 e8 ht2 => ?_⟩
          refine ⟨by show 3 ≤ sizeLine; decide, fun r hr2 => ?_⟩
          have e9 := Evl.Ex.new (o := .tup [.ref t1, .str (nmS p), .ref t2]) hr2
          refine kk r _ t1 t2 (nmS p) (ws.map (·.2)) p (us.map (·.2)) ((e17.trans e8).trans e9) upd_same (e9 _ _ (e8 _ _ (e7 _ _ ht1))) (e9 _ _ ht2) ?_ (List.mem_of_getElem? hpp) ?_ ?_
          · refine ⟨fun p' hp' => ?_, by rw [List.length_map]; omega⟩
            obtain ⟨w', hw', rfl⟩ := List.mem_map.mp hp'
            exact List.mem_of_getElem? (hw w' hw')
          · refine ⟨fun p' hp' => ?_, by rw [List.length_map]; have := hlenS.mle; omega⟩
            obtain ⟨w', hw', rfl⟩ := List.mem_map.mp hp'
            exact List.mem_of_getElem? (hu2 w' hw')
          · unfold BreaksAt
            rw [List.map_map, List.map_map]
            have h1 : CM.play (ws.map (CM.stpR ∘ fun x => x.2)) (x, y) = (x', y') := hpl
            have h2 : us.map (CM.stpL ∘ fun x => x.2) = ws2.map (·.2) := hu3
            rw [h1, h2]
            have h3 := hpl5
            rw [SL_zero hok] at h3
            exact Int.lt_add_one_iff.mp h3
        · refine ifF (decide_eq_false hcc) ⟨_, _, _, _, rfl, e2.trans e24, fun j p' hj hjp => ?_⟩
          rcases Nat.lt_or_eq_of_le (Nat.le_of_lt_succ hj) with h | h
          · exact hno j p' h hjp
          · rw [h, hpp] at hjp
            cases hjp
            exact hcc
      · obtain ⟨o2, o3, o4, o5, rfl, e2, hno⟩ := hv
        have e12 := e1.trans e2
        have hcut : ∀ c ∈ lo.rs, CM.ext (CM.L lo.T lo.ls lf) lo.T (c.a x') ≤ c.b y' - lo.trim := fun c hc => by
          obtain ⟨p, hp, rfl⟩ := List.mem_map.mp hc
          obtain ⟨j, hj⟩ := List.getElem?_of_mem hp
          have h1 := hno j p (by rw [hx0.1]; exact (List.getElem?_eq_some_iff.mp hj).1) hj
          exact Int.not_lt.mp h1
        obtain ⟨hlf1, s0, hs0, hs0b⟩ := CM.Rm_break hok.T1.1 hok.rok (ls := lo.ls) (trim := lo.trim) hxy' hy2 hlo2 hcut
        refine ⟨_, rfl, ra, rd, _, rfl, slt_ex e12 hrs, _, rfl, _, rfl, _, rfl, _, lo.SR, mr, true, x', y', lf, rfl, hroom.f.mono e12, by omega, ⟨s0, hs0, hs0b⟩, fun j st H3 e3 hst hbr => ?_⟩
        have e13 := e12.trans e3
        obtain ⟨p, hpp, hpe⟩ : ∃ p, lo.ps[j]? = some p ∧ CM.stpR p = st := by
          have h1 : (lo.ps.map CM.stpR)[j]? = some st := hst
          rw [List.getElem?_map] at h1
          cases hp : lo.ps[j]? with
          | none => rw [hp] at h1; cases h1
          | some p => rw [hp] at h1; cases h1; exact ⟨p, rfl, rfl⟩
        subst hpe
        obtain ⟨u, hu, hm⟩ := hx0.to hpp
        have hm3 := hm.mono e13
        obtain ⟨a1, dx1, _, _, rfl, hs1', _⟩ := id hm3.ex
        refine ⟨_, rfl, _, rfl, l0, xs0, j, .ref a1, rfl, rfl, Evl.ex_l e13 hl0, atI_nat hu, a1, dx1, _, rfl, hs1', _, rfl, _, lo.T, CM.carry p false, x', rfl, hm3, ?_⟩
        refine ⟨_, rfl, _, rfl, l0, xs0, j, .ref a1, rfl, rfl, Evl.ex_l e13 hl0, atI_nat hu, a1, dx1, _, rfl, hs1', _, rfl, _, lo.T, CM.carry p false, y', rfl, hm3, _, _, rfl, ?_⟩
        have hnl3 := (e2.trans e3) _ _ hnl1
        refine ⟨_, rfl, .inl ⟨rfl, _, SqL.of hnl3⟩, _, rfl, nl, _, _, rfl, rfl, hnl3, Evl.sz_lt (by rw [List.length_map]; omega), ?_⟩
        have hstm := List.mem_of_getElem? hst
        refine ⟨ws ++ [(j, p)], CM.carry p false x', CM.carry p false y', _, _, _, _, _, rfl, Evl.Ex.mut e13 hnl, ?_, ?_, ?_, ?_, ?_, ?_, ?_⟩
        · rw [upd_same, List.map_append]
          rfl
        · intro w hw2
          rcases List.mem_append.mp hw2 with h | h
          · exact hw w h
          · have e := List.mem_singleton.mp h
            rw [e]
            exact hpp
        · rw [List.length_append, hwl]; rfl
        · rw [List.map_append, CM.play_app, hpl]
          rfl
        · exact (hok.rok _ hstm).ok.a.mono _ _ hxy'
        · exact hbr
        · intro j2 hj2
          exact CM.Rw_stay hok.T1.1 (fun s hs => (hok.rok s hs).ok) (lev := CM.levs lo.T lo.ls lo.rs lo.trim) (hlo (j2 + 1) (by omega)) hstm
    · obtain ⟨ws, x', y', o1, o2, o3, o4, o5, rfl, e1, hnl1, hw, hwl, hpl, hxy', hy, hlo⟩ := hv
      exfalso
      rw [Nat.sub_self] at hy
      have h1 : rwF lo.SR 0 x' = x' - CM.FAR := CM.R0_ext (ls := lo.ls) (rs := lo.rs) hok.T1.1 lo.trim x'
      rw [h1] at hy
      unfold CM.FAR at hy
      omega
end
end CZ
set_option Elab.async false
set_option linter.all false
set_option maxRecDepth 100000
set_option maxHeartbeats 4000000
namespace CZ
open PySem PySem.Spec PyProof.Rows L2
/-- a row of programs by which the length (0, 2 T) is gone -/
def NeverBy (lo : Lo) (ps1 : List CM.Prg) : Prop := (CM.play (ps1.map CM.stpL) (0, 2 * (lo.T : Int))).2 ≤ (CM.play (ps1.map CM.stpL) (0, 2 * (lo.T : Int))).1
def spBreaking (K : PySem.W.Frag) : Sp := fun vs H Q _ => ∃ v lo kd q x y,
  (vs = [v, .str (Str.ofString "room"), .ref q] ∧ SqT K H q [.int x, .int y] ∧ x ≤ y ∧ -1000000 ≤ x ∧ y ≤ 1000000 ∧ ∃ ml mr, StuAt K H v lo kd (.ke ml mr) ∧ ¬ LastsRo lo (x, y) ∧
    ∀ p H' t1 t2 ps1 p1 ps2, Ex H H' → H' p = some (.tup [.ref t1, .ref t2]) → H' t1 = some (.tup (namesV ps1)) → H' t2 = some (.tup (namesV ps2)) → RowIn lo ps1 → p1 ∈ lo.ps → RowIn lo ps2 → BreaksAt lo (x, y) ps1 p1 ps2 → Q (.ref p) H') ∨
  (vs = [v, .str (Str.ofString "length"), .ref q] ∧ SqT K H q [.int 0, .int (2 * (lo.T : Int))] ∧ ∃ m, StuAt K H v lo kd (.kn m) ∧
    ∀ p H' t1 ps1, Ex H H' → H' p = some (.tup [.ref t1]) → H' t1 = some (.tup (namesV ps1)) → RowIn lo ps1 → NeverBy lo ps1 → Q (.ref p) H')
def spNeverRow (K : PySem.W.Frag) : Sp := fun vs H Q _ => ∃ v lo kd m, vs = [v, .str (Str.ofString "room")] ∧ StuAt K H v lo kd (.kn m) ∧
    ∀ t1 H' ps1, Ex H H' → H' t1 = some (.tup (namesV ps1)) → RowIn lo ps1 → NeverBy lo ps1 → Q (.ref t1) H'
def SoundRo (lo : Lo) (q : Int × Int) : Prop := ∀ s ∈ lo.rs, LastsLo lo (CM.cut s lo.trim q)
def spIsSound (K : PySem.W.Frag) : Sp := fun vs H Q _ => ∃ v lo kd q x y st, vs = [v, .str (Str.ofString "room"), .ref q] ∧ SqT K H q [.int x, .int y] ∧ StuAt K H v lo kd st ∧ st ≠ .k0 ∧ ∀ b H', Ex H H' → (b = true ↔ SoundRo lo (x, y)) → Q (.bl b) H'
/-- a shelter is shut: every corner is sound, and what a program saves of it is in it -/
def ShutRo (lo : Lo) (cs : List (Int × Int)) : Prop := ∀ c ∈ cs, SoundRo lo c ∧ ∀ s ∈ lo.rs, CM.InSh lo.T cs (s.a c.1, s.b c.2)
def spIsShut (K : PySem.W.Frag) : Sp := fun vs H Q _ => ∃ v lo kd q xs cs st, vs = [v, .str (Str.ofString "room"), .ref q] ∧ SqT K H q xs ∧ Pw (PairL H) xs cs ∧ StuAt K H v lo kd st ∧ st ≠ .k0 ∧ ∀ b H', Ex H H' → (b = true ↔ ShutRo lo cs) → Q (.bl b) H'
def spIsClosed (K : PySem.W.Frag) : Sp := fun vs H Q _ => ∃ v lo kd q xs cs st, vs = [v, .str (Str.ofString "room"), .ref q] ∧ SqT K H q xs ∧ Pw (PairL H) xs cs ∧ cs ≠ [] ∧ cs.length ≤ 1000 ∧ StuAt K H v lo kd st ∧ st ≠ .k0 ∧ ∀ b H', Ex H H' → (b = true ↔ ShutRo lo cs) → Q (.bl b) H'
section
variable {P : Program} {w : World} {K : PySem.W.Frag} {mg : Str → Option Value} {base : Heap}
theorem least_nat {p : Nat → Prop} {n : Nat} (h : p n) : ∃ k, k ≤ n ∧ p k ∧ ∀ i, i < k → ¬ p i := by
  obtain ⟨k, h1, h2⟩ := CM.least_exists ⟨n, h⟩
  exact ⟨k, h2 n h, h1, fun i hi z => by have := h2 i z; omega⟩
theorem r_breaking (Z : Zed K mg base) : Rn P w K mg base 15 (a_breaking K) (spBreaking K) := by
  have R_stairs_of := r_stairs_of (P := P) (w := w) Z
  have R_room_broken := r_room_broken (P := P) (w := w) Z
  have R_names_of := r_names_of (P := P) (w := w) Z
  have R_Stairs_soonest := r_Stairs_soonest (P := P) (w := w) Z (ok1 Z [])
  have R_Stairs_broken := r_Stairs_broken (P := P) (w := w) Z (ok1 Z [])
  refine rn_of (u_breaking Z) sco_breaking (fun _ _ _ _ _ _ us hl => match us, hl with | [_, _, _], _ => rfl) (fun vs H Q E h => ?_) (fun cdv A outer s H vs Q E hr h => ?_)
  · obtain ⟨v, lo, kd, q, x, y, ⟨rfl, _⟩ | ⟨rfl, _⟩⟩ := h <;> rfl
  · refine ⟨_, (pss_cons (ps_set (i := 3) sco_breaking.nd rfl (Or.inl rfl) (pe_r R_stairs_of (g_stairs_of Z) hr (by rfl) (pa_cons (pv 0) (pa_cons (pv 1) pa_nil))))
      (pss_cons (ps_set (i := 4) sco_breaking.nd rfl (Or.inl rfl) (pe_ms (pv 3) (sc_Stairs Z) (m_Stairs_soonest Z) R_Stairs_soonest hr (pa_cons (pv 2) (pa_cons (C8.pe_gc (by rfl) (k_FAR Z)) pa_nil))))
      (pss_cons (ps_if (pt_cmpR op_eq (pv 1) (C8.pe_gc (by rfl) (k_ROOM Z)) (nomark _))
        (pss_cons (ps_asg (pe_r R_room_broken (g_room_broken Z) hr (by rfl) (pa_cons (pv 0) (pa_cons (pv 2) (pa_cons (pv 4) pa_nil)))) (pg_tupK K (n := 3) rfl (pgs_cons (pg_name (i := 5) sco_breaking.nd rfl (Or.inl rfl)) (pgs_cons (pg_name (i := 6) sco_breaking.nd rfl (Or.inl rfl)) (pgs_cons (pg_name (i := 7) sco_breaking.nd rfl (Or.inl rfl)) pgs_nil)))))
        (pss_one (ps_ret (pe_tup (pa_cons (pv 5) (pa_cons (pv 7) pa_nil))))))
        pss_nil)
      (pss_one (ps_ret (pe_tup (pa_cons (pe_r R_names_of (g_names_of Z) hr (by rfl) (pa_cons (pv 0) (pa_cons (pe_ms (pv 3) (sc_Stairs Z) (m_Stairs_broken Z) R_Stairs_broken hr (pa_cons (pv 2) (pa_cons (pv 4) pa_nil))) pa_nil))) pa_nil))))))), ?_⟩
    obtain ⟨v, lo, kd, q, x, y, ⟨rfl, hq, hxy, hx1, hy1, ml, mr, hS, hno, kk⟩ | ⟨rfl, hq, m, hS, kk⟩⟩ := h
    · have hok := hS.f.ok
      refine ⟨_, rfl, _, rfl, .inr ⟨v, lo, kd, ml, rfl, .inr ⟨mr, hS, fun rv hroom => ?_⟩⟩⟩
      obtain ⟨sv, rv2, hkd, hlenS, hroom2⟩ : ∃ s r, H kd = some (.dK [(keyS "length", s), (keyS "room", r)]) ∧ LenSt K (hid kd H) s lo ml true ∧ RoomSt K (hid kd H) r lo ml mr := hS.k
      have hlast : y < rwF lo.SR (mr - 1) x := Int.not_le.mp fun z => hno ((room_lasts hok hlenS hroom2 hxy).mp z)
      obtain ⟨_, ⟨ra, rd, _, _, _, _, _, rfl, hrs, _⟩, _⟩ := id hroom.f
      have hmb := hroom.f.mb
      refine ⟨_, rfl, ra, rd, _, rfl, hrs, _, rfl, _, lo.SR, mr, true, q, x, y, _, mr - 1, rfl, hroom.f, hq, Nat.le_refl _, by omega, hlast, fun j hj hjy hjl => ?_⟩
      refine ⟨_, rfl, rfl, _, rfl, ifT (decide_eq_true rfl) ?_⟩
      refine ⟨_, rfl, _, rfl, _, rfl, v, lo, kd, q, x, y, ml, mr, j, rfl, hS, hq, hxy, hj, hjy, hjl, fun p H' t1 t2 nm ps1 p1 ps2 e hp ht1 ht2 hp1 hp2 hp3 hB => ?_⟩
      refine ⟨p, _, rfl, SqT.of hp, rfl, _, _, rfl, _, _, rfl, _, _, rfl, rfl, ?_⟩
      refine ⟨_, rfl, _, rfl, by show 2 ≤ sizeLine; decide, fun r hr2 => ?_⟩
      have e9 := Evl.Ex.new (o := .tup [.ref t1, .ref t2]) hr2
      exact kk r _ t1 t2 ps1 p1 ps2 (e.trans e9) upd_same (e9 _ _ ht1) (e9 _ _ ht2) hp1 hp2 hp3 hB
    · have hok := hS.f.ok
      have hF := hS.u
      have hT := hok.T1
      refine ⟨_, rfl, _, rfl, .inl ⟨v, lo, kd, rfl, .inr ⟨_, hS, fun z => (nomatch z), fun lv m2 b hl hlenS => ?_⟩⟩⟩
      obtain ⟨rfl, rfl⟩ := hl
      obtain ⟨_, ⟨la, ld, _, _, _, _, _, rfl, hls, _⟩, _⟩ := id hlenS.f
      have hmle := hlenS.mle
      refine ⟨_, rfl, la, ld, _, rfl, hls, _, rfl, _, lo.SL, m2, false, q, 0, 2 * (lo.T : Int), _, m2 - 1, rfl, hlenS.f, hq, Nat.le_refl _, by omega, hlenS.nv rfl, fun j hj hjy hjl => ?_⟩
      refine ⟨_, rfl, rfl, _, rfl, ifF (str_ne (by decide +kernel)) ?_⟩
      refine ⟨_, rfl, _, rfl, la, ld, _, rfl, hls, _, rfl, _, rfl, _, lo.SL, m2, false, q, _, _, j, rfl, hlenS.f, hq, hj, hjy, hjl, SL_brk hok, SL_stay hok, fun l ws2 H5 e5 hl5 hw5 hwl5 hpl5 => ?_⟩
      obtain ⟨us, hu1, hu2, hu3⟩ := to_prg (ps := lo.ps) (f := CM.stpL) (ws := ws2) hw5
      have hl7 : SqL K H5 l (us.map fun w => V.int w.1) := by
        have h1 : (us.map fun w => V.int w.1) = (ws2.map fun w => V.int w.1) := by
          have h2 := congrArg (List.map fun (n : Nat) => V.int n) hu1
          rw [List.map_map, List.map_map] at h2
          exact h2
        rw [h1]
        exact hl5
      have hul : us.length = ws2.length := by
        have := congrArg List.length hu1
        rw [List.length_map, List.length_map] at this
        exact this
      refine ⟨_, lo, kd, l, us, rfl, hF.mono e5, hl7, hu2, by omega, fun t1 H6 e6 ht1 => ?_⟩
      refine ⟨by show 1 ≤ sizeLine; decide, fun r hr2 => ?_⟩
      have e9 := Evl.Ex.new (o := .tup [.ref t1]) hr2
      refine kk r _ t1 (us.map (·.2)) ((e5.trans e6).trans e9) upd_same (e9 _ _ ht1) ?_ ?_
      · refine ⟨fun p' hp' => ?_, by rw [List.length_map]; omega⟩
        obtain ⟨w', hw', rfl⟩ := List.mem_map.mp hp'
        exact List.mem_of_getElem? (hu2 w' hw')
      · unfold NeverBy
        rw [List.map_map]
        have h2 : us.map (CM.stpL ∘ fun x => x.2) = ws2.map (·.2) := hu3
        rw [h2]
        have h3 := hpl5
        rw [SL_zero hok] at h3
        exact Int.lt_add_one_iff.mp h3
theorem r_never_row (Z : Zed K mg base) : Rn P w K mg base 16 (a_never_row K) (spNeverRow K) := by
  have R_breaking := r_breaking (P := P) (w := w) Z
  have R_Studio_period := r_Studio_period (P := P) (w := w) Z
  refine rn_of (u_never_row Z) sco_never_row (fun _ _ _ _ _ _ us hl => match us, hl with | [_, _], _ => rfl) (fun vs H Q E h => ?_) (fun cdv A outer s H vs Q E hr h => ?_)
  · obtain ⟨v, lo, kd, m, rfl, _⟩ := h
    rfl
  · refine ⟨_, (pss_one (ps_ret (pe_ix (ix_tupK K) (pe_r R_breaking (g_breaking Z) hr (by rfl) (pa_cons (pv 0) (pa_cons (pe_ifExp (pt_cmpR op_eq (pv 1) (C8.pe_gc (by rfl) (k_ROOM Z)) (nomark _)) (C8.pe_gc (by rfl) (k_LENGTH Z)) (pv 1)) (pa_cons (pe_tup (pa_cons pe_int (pa_cons (pe_op op_mul pe_int (pe_pr (pv 0) (sc_Studio Z) (p_Studio_period Z) R_Studio_period hr)) pa_nil))) pa_nil)))) pe_int (fun _ _ => rfl)))), ?_⟩
    obtain ⟨v, lo, kd, m, rfl, hS, kk⟩ := h
    have hok := hS.f.ok
    have hF := hS.u
    obtain ⟨⟨a, dx, mp, pd, tx, l0, l1, kvs, rfl, hs, _⟩, _⟩ := id hF
    refine ⟨_, rfl, _, rfl, rfl, _, rfl, ifT (decide_eq_true rfl) ?_⟩
    refine ⟨_, rfl, a, dx, _, rfl, hs, _, lo, kd, rfl, hF, _, _, rfl, rfl, .inl (by omega), by show 2 ≤ sizeLine; decide, fun q hq => ?_⟩
    have e1 := Evl.Ex.new (o := .tup [.int 0, .int (2 * (lo.T : Int))]) hq
    refine ⟨_, lo, kd, q, 0, 0, .inr ⟨rfl, SqT.of upd_same, m, hS.mono e1, fun p H' t1 ps1 e2 hp ht1 hp1 hN => ?_⟩⟩
    exact ⟨p, _, 0, .ref t1, rfl, rfl, SqT.of hp, rfl, kk t1 H' ps1 (e1.trans e2) ht1 hp1 hN⟩
theorem r_is_sound (Z : Zed K mg base) : Rn P w K mg base 15 (a_is_sound K) (spIsSound K) := by
  have R_is_any := r_is_any (P := P) (w := w) Z
  have R_steps_of := r_steps_of (P := P) (w := w) Z
  have R_does_last := r_does_last (P := P) (w := w) Z
  have R_Map_at := r_Map_at (P := P) (w := w) Z
  have R_Studio_trim := r_Studio_trim (P := P) (w := w) Z
  refine rn_of (u_is_sound Z) sco_is_sound (fun _ _ _ _ _ _ us hl => match us, hl with | [_, _, _], _ => rfl) (fun vs H Q E h => ?_) (fun cdv A outer s H vs Q E hr h => ?_)
  · obtain ⟨v, lo, kd, q, x, y, st, rfl, _⟩ := h
    rfl
  · refine ⟨_, (pss_cons (ps_if (pt_val (pe_r R_is_any (g_is_any Z) hr (by rfl) (pa_cons (pv 0) (pa_cons (pv 1) pa_nil))))
        (pss_one (ps_ret pe_bl))
        pss_nil)
      (pss_cons (ps_if (pt_cmpR op_ne (pv 1) (C8.pe_gc (by rfl) (k_ROOM Z)) (nomark _))
        (pss_one (ps_ret (pe_ifExp (pt_cmpR op_eq (pv 1) (C8.pe_gc (by rfl) (k_LENGTH Z)) (nomark _)) (pe_cmpR op_gt (pe_ix (ix_tupK K) (pv 2) pe_int (fun _ _ => rfl)) (pe_ix (ix_tupK K) (pv 2) pe_int (fun _ _ => rfl)) (nomark _)) (pe_cmpR op_ge (pe_ix (ix_tupK K) (pv 2) pe_int (fun _ _ => rfl)) (pe_ix (ix_tupK K) (pv 2) pe_int (fun _ _ => rfl)) (nomark _)))))
        pss_nil)
      (pss_cons (ps_setLc (i := 3) (own := [("one", 4), ("other", 5)]) (tt := tYes) rfl sco_is_sound.nd rfl rfl (sw_true rfl rfl rfl (by decide +kernel)) (pi_listK K (pe_r R_steps_of (g_steps_of Z) hr (by rfl) (pa_cons (pv 0) (pa_cons (C8.pe_gc (by rfl) (k_ROOM Z)) pa_nil)))) (blkOk_by (by kernel_rfl)) (fun _ _ _ _ _ => (pg_tupK K (n := 2) rfl (pgs_cons (pg_name (i := 4) sco_is_sound.nd rfl (Or.inl rfl)) (pgs_cons (pg_name (i := 5) sco_is_sound.nd rfl (Or.inl rfl)) pgs_nil)))) (fun _ _ _ _ _ => pts_nil) (fun _ _ _ _ _ => (pe_tup (pa_cons (pe_ms (pv 4) (sc_Map Z) (m_Map_at Z) R_Map_at hr (pa_cons (pe_ix (ix_tupK K) (pv 2) pe_int (fun _ _ => rfl)) pa_nil)) (pa_cons (pe_op op_sub (pe_ms (pv 4) (sc_Map Z) (m_Map_at Z) R_Map_at hr (pa_cons (pe_ix (ix_tupK K) (pv 2) pe_int (fun _ _ => rfl)) pa_nil)) (pe_pr (pv 0) (sc_Studio Z) (p_Studio_trim Z) R_Studio_trim hr)) pa_nil)))))
      (pss_one (ps_ret (pe_callB (cr_all rfl) (by rfl) (f_all Z) (by decide +kernel) (pa_cons (pe_lc (own := [("cut", 6)]) (g := gName 6) (tt := tYes) rfl sco_is_sound.nd (pi_listK K (pv 3)) (blkOk_by (by kernel_rfl)) (fun _ _ _ _ _ => (pg_name (i := 6) sco_is_sound.nd rfl (Or.inl rfl))) (fun _ _ _ _ _ => pts_nil) (fun _ _ _ _ _ => (pe_r R_does_last (g_does_last Z) hr (by rfl) (pa_cons (pv 0) (pa_cons (C8.pe_gc (by rfl) (k_LENGTH Z)) (pa_cons (pv 6) pa_nil)))))) pa_nil))))))), ?_⟩
    obtain ⟨v, lo, kd, q, x, y, st, rfl, hq, hS, hne, kk⟩ := h
    have hok := hS.f.ok
    have hF := hS.u
    have hlen := hok.len
    refine ⟨_, rfl, _, rfl, v, lo, kd, _, rfl, hF, .inr ⟨true, rfl, _, rfl, ifF rfl ?_⟩⟩
    refine ⟨_, rfl, rfl, _, rfl, ifF (by rw [decide_eq_true rfl]; rfl) ?_⟩
    refine ⟨_, rfl, v, lo, kd, true, rfl, hF, fun l ss H1 e1 hl hss => ?_⟩
    have hss : Pw (StepAt K lo.T H1) ss lo.rs := hss
    have hsl : ss.length ≤ 3 := by rw [hss.1, lo.rs_len]; exact hlen
    refine ⟨l, rfl, ⟨_, SqL.of hl⟩, fun D hD => ?_⟩
    refine lc_all (walk_list (xs := ss)) (fun i y' H' => ∃ s, lo.rs[i]? = some s ∧ PairL H' y' (CM.cut s lo.trim (x, y))) hD (by omega) (fun i y H1 H2 e ⟨s, h1, h2⟩ => ⟨s, h1, h2.mono e⟩) (fun H' e => Evl.ex_l e (SqL.of hl)) (fun i x1 H2 H2' Qe hi e2 hnD hy q2 => ?_) (fun x σ H2 Qa Qb hq hg => gtup2_mono hq hg) (fun H2 cuts e2 h1 hn h7 => ?_)
    · obtain ⟨rfl, hx⟩ := hy
      obtain ⟨st2, hst2, ⟨⟨p, z1, z2, rfl, hp1, hp2, hp3⟩, _⟩⟩ := hss.at hx
      have hp2' := hp2.mono e2
      obtain ⟨a1, dx1, _, _, rfl, hs1', _⟩ := id hp2'.ex
      have e02 := e1.trans e2
      have hF2 := hF.mono e02
      obtain ⟨⟨a, dx, mp, pd, tx, l0, l1, kvs, rfl, hs, _⟩, _⟩ := id hF2
      refine ⟨p, _, rfl, SqT.of (e2 _ _ hp1), rfl, _, _, rfl, _, _, rfl, rfl, ?_⟩
      refine ⟨rfl, _, rfl, a1, dx1, _, rfl, hs1', _, rfl, q, _, 0, .int x, rfl, rfl, Evl.ex_t e02 hq, rfl, _, lo.T, st2.a, x, rfl, hp2', _, rfl, a1, dx1, _, rfl, hs1', _, rfl, q, _, 1, .int y, rfl, rfl, Evl.ex_t e02 hq, rfl, _, lo.T, st2.a, y, rfl, hp2', _, rfl, a, dx, _, rfl, hs, _, lo, kd, rfl, hF2, _, _, rfl, rfl, by show 2 ≤ sizeLine; decide, fun c hc => ?_⟩
      refine q2 _ _ (Evl.Ex.new hc) ⟨st2, hst2, c, rfl, ?_⟩
      have hne : c ≠ D := fun z => hnD (by rw [← z]; exact hc)
      rw [hid_ne hne, upd_same]
      have hsame := (hok.rok st2 (List.mem_of_getElem? hst2)).same
      show _ = some (HO.tup [.int (st2.a x), .int (st2.b y - lo.trim)])
      rw [hsame]
    · have e02 := e1.trans e2
      refine ⟨_, rfl, D, rfl, ⟨_, SqL.of h1⟩, fun D2 hD2 => ?_⟩
      refine lc_all (walk_list (xs := cuts)) (fun i y' H' => ∃ s b, lo.rs[i]? = some s ∧ y' = .bl b ∧ (b = true ↔ LastsLo lo (CM.cut s lo.trim (x, y)))) hD2 (by omega) (fun i y H1 H2 e h => h) (fun H' e => Evl.ex_l e (SqL.of h1)) (fun i x1 H3 H3' Qe hi e3 hnD hy q2 => ?_) gname_mono (fun H3 ys e3 h3 hn3 h8 => ?_)
      · obtain ⟨rfl, hx⟩ := hy
        obtain ⟨st2, hst2, c, rfl, hc⟩ := h7 i _ hx
        have hc3 := e3 _ _ (hid_ex _ _ hc)
        refine ⟨rfl, _, rfl, _, rfl, v, lo, kd, c, _, _, .inl ⟨rfl, SqT.of hc3, st, hS.mono (e02.trans e3), hne, fun b hb => ?_⟩⟩
        exact q2 _ _ (Evl.Ex.refl _) ⟨st2, b, hst2, rfl, hb⟩
      · obtain ⟨bs, rfl, hbl, hbs⟩ := bls_of (f := fun i b => ∃ s, lo.rs[i]? = some s ∧ (b = true ↔ LastsLo lo (CM.cut s lo.trim (x, y)))) hn3 fun i y e => by
          obtain ⟨s, b, h1, h2, h3⟩ := h8 i y e
          exact ⟨b, h2, s, h1, h3⟩
        refine ⟨D2, bs, rfl, SqL.of h3, kk _ _ (e02.trans e3) ?_⟩
        rw [List.all_eq_true]
        constructor
        · intro hall s hs
          obtain ⟨j, hj⟩ := List.getElem?_of_mem hs
          have hjl : j < bs.length := by rw [hbl, hn, hss.1]; exact (List.getElem?_eq_some_iff.mp hj).1
          obtain ⟨s', hs', hb'⟩ := hbs j _ (List.getElem?_eq_getElem hjl)
          rw [hj] at hs'
          cases hs'
          exact hb'.mp (hall _ (List.getElem_mem hjl))
        · intro hso b hb
          obtain ⟨j, hj⟩ := List.getElem?_of_mem hb
          obtain ⟨s', hs', hb'⟩ := hbs j b hj
          exact hb'.mpr (hso s' (List.mem_of_getElem? hs'))
end
end CZ
set_option Elab.async false
set_option linter.all false
set_option maxRecDepth 100000
set_option maxHeartbeats 4000000
namespace CZ
open PySem PySem.Spec PyProof.Rows L2
theorem room_R {K : PySem.W.Frag} {H : Hp} {r : V} {lo : Lo} {ml mr : Nat} (hok : LoOk lo) (h2 : RoomSt K H r lo ml mr) : CM.Per lo.T (rwF lo.SR (mr - 1)) ∧ (∀ x, x ≤ rwF lo.SR (mr - 1) x) := by
  have hT := hok.T1.1
  have hp : CM.Per lo.T (rwF lo.SR (mr - 1)) := CM.ext_per _ (by omega)
  refine ⟨hp, fun x => ?_⟩
  have hne : lo.rs ≠ [] := fun z => hok.ne (List.map_eq_nil_iff.mp z)
  have h1 := h2.f.m1
  have e : lo.SR.rw (mr - 1) = lo.SR.rw mr := h2.st.symm
  have hge : rwF lo.SR 1 x ≤ rwF lo.SR (mr - 1) x := by
    unfold rwF
    rw [e]
    exact CM.Rw_ge (lev := CM.levs lo.T lo.ls lo.rs lo.trim) hT (fun s hs => (hok.rok s hs).ok) h1 x
  refine Int.le_trans ?_ hge
  obtain ⟨ex, h0, h3⟩ := CM.split_t (show (0 : Int) < lo.T by omega) x
  have hlt : (x % (lo.T : Int)).toNat < lo.T := by omega
  have h4 := Rm1_ge hok hne (x % lo.T).toNat hlt
  rw [CM.getD_ext hlt] at h4
  have h5 : rwF lo.SR 1 x = rwF lo.SR 1 (x % lo.T) + x / lo.T * lo.T := by
    have hq := (CM.ext_per (lo.SR.rw 1) (show (0 : Int) < lo.T by omega)).k (x % lo.T) (x / lo.T)
    rw [← ex] at hq
    exact hq
  rw [h5]
  have h6 : ((x % lo.T).toNat : Int) = x % lo.T := Int.toNat_of_nonneg h0
  rw [h6] at h4
  have h4 : x % lo.T ≤ rwF lo.SR 1 (x % lo.T) := h4
  omega
theorem room_mono {K : PySem.W.Frag} {H : Hp} {s r : V} {lo : Lo} {ml mr : Nat} (hok : LoOk lo) (h : LenSt K H s lo ml true) (h2 : RoomSt K H r lo ml mr) (x y : Int) (hxy : x ≤ y) : rwF lo.SR (mr - 1) x ≤ rwF lo.SR (mr - 1) y := by
  have hge := (room_R hok h2).2
  have h3 : LastsRo lo (y, rwF lo.SR (mr - 1) y) := (room_lasts hok h h2 (hge y)).mp (Int.le_refl _)
  have h4 : LastsRo lo (x, rwF lo.SR (mr - 1) y) := CM.LastsR.mono hok.lok hok.rok h3 hxy (Int.le_refl _)
  exact (room_lasts hok h h2 (by have := hge y; omega)).mpr h4
theorem corners_good {K : PySem.W.Frag} {H : Hp} {s r : V} {lo : Lo} {ml mr : Nat} (hok : LoOk lo) (h : LenSt K H s lo ml true) (h2 : RoomSt K H r lo ml mr) :
    ShutRo lo (CM.corners lo.T (rwF lo.SR (mr - 1))) ∧ CM.corners lo.T (rwF lo.SR (mr - 1)) ≠ [] ∧ ∀ x y, x ≤ y → LastsRo lo (x, y) → CM.InSh lo.T (CM.corners lo.T (rwF lo.SR (mr - 1))) (x, y) := by
  obtain ⟨hp, hge⟩ := room_R hok h2
  have hm := room_mono hok h h2
  have hin : ∀ x y, x ≤ y → LastsRo lo (x, y) → CM.InSh lo.T (CM.corners lo.T (rwF lo.SR (mr - 1))) (x, y) := fun x y hxy hl => CM.corners_in hok.T1.1 hp hm ((room_lasts hok h h2 hxy).mpr hl)
  refine ⟨fun c hc => ?_, CM.corners_ne hok.T1.1 hp hm, hin⟩
  have hc2 := CM.corners_mem hc
  have hcl : c.1 ≤ c.2 := by rw [hc2]; exact hge c.1
  have hl : LastsRo lo (c.1, c.2) := (room_lasts hok h h2 hcl).mp (by rw [hc2]; exact Int.le_refl _)
  refine ⟨fun s hs => hl [] (fun _ z => nomatch z) s hs, fun s hs => hin _ _ ?_ (CM.LastsR.step hl hs)⟩
  rw [(hok.rok s hs).same]
  exact (hok.rok s hs).ok.a.mono _ _ hcl
theorem cor_len {lo : Lo} (hok : LoOk lo) (R : Int → Int) : (CM.corners lo.T R).length ≤ 1000 := by
  have h1 : (CM.corners lo.T R).length ≤ _ := List.length_filter_le _ _
  rw [List.length_map, List.length_range] at h1
  have := hok.T1
  omega
def LastsTold (K : PySem.W.Frag) (lo : Lo) (x y : Int) (H : Hp) (p : Addr) (st : KS) : Prop :=
  (∃ m t1 ps1, st = .kn m ∧ ¬ CM.Ever lo.ls ∧ H p = some (.tup [.str (Str.ofString "never"), .ref t1]) ∧ H t1 = some (.tup (namesV ps1)) ∧ RowIn lo ps1 ∧ NeverBy lo ps1) ∨
  (∃ ml mr, st = .ke ml mr ∧ CM.Ever lo.ls ∧
    ((LastsRo lo (x, y) ∧ ∃ t xs cs, H p = some (.tup [.str (Str.ofString "lasts"), .ref t]) ∧ H t = some (.tup xs) ∧ Pw (PairL H) xs cs ∧ cs ≠ [] ∧ cs.length ≤ 1000 ∧ ShutRo lo cs ∧ CM.InSh lo.T cs (x, y)) ∨
     (¬ LastsRo lo (x, y) ∧ ∃ t1 t2 ps1 p1 ps2, H p = some (.tup [.str (Str.ofString "breaks"), .ref t1, .ref t2]) ∧ H t1 = some (.tup (namesV ps1)) ∧ H t2 = some (.tup (namesV ps2)) ∧ RowIn lo ps1 ∧ p1 ∈ lo.ps ∧ RowIn lo ps2 ∧ BreaksAt lo (x, y) ps1 p1 ps2)))
def KSok : KS → Prop
  | .km _ => False
  | _ => True
def spLasts (K : PySem.W.Frag) : Sp := fun vs H Q _ => ∃ v lo kd q x y,
  (vs = [v, .str (Str.ofString "gap"), .ref q] ∧ H q = some (.tup [.int x, .int y]) ∧ StuF K H v lo kd ∧ ∀ p H', Ex H H' → H' p = some (.tup [.str (Str.ofString "any")]) → Q (.ref p) H') ∨
  (vs = [v, .str (Str.ofString "room"), .ref q] ∧ H q = some (.tup [.int x, .int y]) ∧ x ≤ y ∧ -1000000 ≤ x ∧ y ≤ 1000000 ∧ ∃ st, StuAt K H v lo kd st ∧ KSok st ∧
    ∀ p H' st', ExB kd H H' → StuAt K H' v lo kd st' → KSok st' → st' ≠ .k0 → LastsTold K lo x y H' p st' → Q (.ref p) H')
theorem isEver_use {K : PySem.W.Frag} {H : Hp} {v : V} {lo : Lo} {kd : Addr} {st : KS} {kind : Bool} {Q : VK} {E : XK} (hS : StuAt K H v lo kd st) (k : ∀ H' st' m b, ExB kd H H' → StuAt K H' v lo kd st' → LenOf st' m b → Q (.bl b) H') : spIsEver K [v, .str (kindOf kind)] H Q E := by
  refine ⟨v, lo, kd, kind, rfl, ?_⟩
  cases st with
  | k0 => exact .inl ⟨hS, fun H' m b he hS' => k H' _ m b he hS' (by cases b <;> exact ⟨rfl, rfl⟩)⟩
  | kn m => exact .inr ⟨_, m, false, hS, ⟨rfl, rfl⟩, k H _ m false (ExB.refl _ _) hS ⟨rfl, rfl⟩⟩
  | km m => exact .inr ⟨_, m, true, hS, ⟨rfl, rfl⟩, k H _ m true (ExB.refl _ _) hS ⟨rfl, rfl⟩⟩
  | ke m r => exact .inr ⟨_, m, true, hS, ⟨rfl, rfl⟩, k H _ m true (ExB.refl _ _) hS ⟨rfl, rfl⟩⟩
theorem isEver_room {K : PySem.W.Frag} {H : Hp} {v : V} {lo : Lo} {kd : Addr} {st : KS} {Q : VK} {E : XK} (hS : StuAt K H v lo kd st) (k : ∀ H' st' m b, ExB kd H H' → StuAt K H' v lo kd st' → LenOf st' m b → Q (.bl b) H') : spIsEver K [v, .str (Str.ofString "room")] H Q E := isEver_use (kind := true) hS k
section
variable {P : Program} {w : World} {K : PySem.W.Frag} {mg : Str → Option Value} {base : Heap}
theorem r_is_shut (Z : Zed K mg base) : Rn P w K mg base 16 (a_is_shut K) (spIsShut K) := by
  have R_steps_of := r_steps_of (P := P) (w := w) Z
  have R_is_sound := r_is_sound (P := P) (w := w) Z
  have R_saved_by := r_saved_by (P := P) (w := w) Z
  have R_has_pair := r_has_pair (P := P) (w := w) Z
  have R_Studio_period := r_Studio_period (P := P) (w := w) Z
  refine rn_of (u_is_shut Z) sco_is_shut (fun _ _ _ _ _ _ us hl => match us, hl with | [_, _, _], _ => rfl) (fun vs H Q E h => ?_) (fun cdv A outer s H vs Q E hr h => ?_)
  · obtain ⟨v, lo, kd, q, xs, cs, st, rfl, _⟩ := h
    rfl
  · refine ⟨_, (pss_cons (ps_set (i := 3) sco_is_shut.nd rfl (Or.inl rfl) (pe_r R_steps_of (g_steps_of Z) hr (by rfl) (pa_cons (pv 0) (pa_cons (pv 1) pa_nil))))
      (pss_cons (ps_for PassesOwn.never rfl (pi_tupK K (pv 2)) (pg_name (i := 4) sco_is_shut.nd rfl (Or.inl rfl))
        (pss_cons (ps_if (pt_not (pt_val (pe_r R_is_sound (g_is_sound Z) hr (by rfl) (pa_cons (pv 0) (pa_cons (pv 1) (pa_cons (pv 4) pa_nil))))))
          (pss_one (ps_ret pe_bl))
          pss_nil)
        (pss_one (ps_for PassesOwn.never rfl (pi_range1 (by rfl) (f_range Z) (pa_cons (pe_callB (call_len_seqK K) (by rfl) (f_len Z) (by decide +kernel) (pa_cons (pv 3) pa_nil)) pa_nil)) (pg_name (i := 5) sco_is_shut.nd rfl (Or.inl rfl))
          (pss_one (ps_if (pt_not (pt_val (pe_r R_has_pair (g_has_pair Z) hr (by rfl) (pa_cons (pe_pr (pv 0) (sc_Studio Z) (p_Studio_period Z) R_Studio_period hr) (pa_cons (pv 2) (pa_cons (pe_r R_saved_by (g_saved_by Z) hr (by rfl) (pa_cons (pv 3) (pa_cons (pv 5) (pa_cons (pv 4) pa_nil)))) pa_nil))))))
            (pss_one (ps_ret pe_bl))
            pss_nil))))))
      (pss_one (ps_ret pe_bl)))), ?_⟩
    obtain ⟨v, lo, kd, q, xs, cs, st, rfl, hq, hp, hS, hne, kk⟩ := h
    have hok := hS.f.ok
    have hF := hS.u
    have hlen := hok.len
    refine ⟨_, rfl, _, rfl, v, lo, kd, true, rfl, hF, fun l ss H1 e1 hl hss => ?_⟩
    have hss : Pw (StepAt K lo.T H1) ss lo.rs := hss
    have hsl : ss.length ≤ 3 := by rw [hss.1, lo.rs_len]; exact hlen
    refine ⟨_, rfl, q, rfl, ⟨_, Evl.ex_t e1 hq⟩, for_it (walk_tup (xs := xs)) (fun i σ H' => (∃ (o1 o2 : Option V), σ = [some v, some (.str (Str.ofString "room")), some (.ref q), some (.ref l), o1, o2]) ∧ Ex H1 H' ∧ ∀ (j : Nat) c, j < i → cs[j]? = some c → SoundRo lo c ∧ ∀ s ∈ lo.rs, CM.InSh lo.T cs (s.a c.1, s.b c.2)) ⟨⟨_, _, rfl⟩, Evl.Ex.refl _, fun j _ hj => absurd hj (Nat.not_lt_zero _)⟩ (fun i σ H' _ hv => ?_) (fun i x1 σ H2 H2' hi hv hy => ?_) (fun σ H2 hv => ?_)⟩
    · exact Evl.ex_t (e1.trans hv.2.1) hq
    · obtain ⟨⟨o1, o2, rfl⟩, e2, hall⟩ := hv
      obtain ⟨rfl, hx⟩ := hy
      obtain ⟨c, hc, t, rfl, ht⟩ := hp.at hx
      have e02 := e1.trans e2
      refine ⟨_, rfl, _, rfl, _, rfl, v, lo, kd, t, c.1, c.2, st, rfl, SqT.of (e02 _ _ ht), hS.mono e02, hne, fun b H3 e3 hb => ⟨_, rfl, ?_⟩⟩
      have e03 := e02.trans e3
      have hcm := List.mem_of_getElem? hc
      cases b with
      | false =>
        refine ifT rfl (kk false H3 e03 ⟨fun z => (nomatch z), fun z => ?_⟩)
        have := hb.mpr (z c hcm).1
        cases this
      | true =>
        refine ifF rfl ?_
        have hso := hb.mp rfl
        refine ⟨_, rfl, l, _, rfl, .inl (SqL.of ((e2.trans e3) _ _ hl)), ss.length, rfl, by omega, by omega, for_range (lo := 0) (n := ((ss.length : Int)).toNat) (fun i2 σ H' => (∃ (o2 : Option V), σ = [some v, some (.str (Str.ofString "room")), some (.ref q), some (.ref l), some (.ref t), o2]) ∧ Ex H3 H' ∧ ∀ (j : Nat) s, j < i2 → lo.rs[j]? = some s → CM.InSh lo.T cs (s.a c.1, s.b c.2)) ⟨⟨_, rfl⟩, Evl.Ex.refl _, fun j _ hj => absurd hj (Nat.not_lt_zero _)⟩ (fun i2 σ H4 hi2 hv => ?_) (fun σ H4 hv => ?_)⟩
        · obtain ⟨⟨o2, rfl⟩, e4, hin⟩ := hv
          rw [Int.zero_add]
          have e04 := e03.trans e4
          have e14 := (e2.trans e3).trans e4
          obtain ⟨⟨a, dx, mp, pd, tx, l0, l1, kvs, hva, hs, _⟩, _⟩ := hF.mono e04
          have hi3 : i2 < lo.rs.length := by rw [← hss.1]; omega
          obtain ⟨s2, hs2⟩ : ∃ s, lo.rs[i2]? = some s := ⟨_, List.getElem?_eq_getElem hi3⟩
          subst hva
          refine ⟨_, rfl, a, dx, _, rfl, hs, _, lo, kd, rfl, hF.mono e04, _, rfl, _, rfl, _, rfl, _, rfl, l, i2, t, c.1, c.2, lo.T, ss, lo.rs, s2, rfl, SqL.of (e14 _ _ hl), hss.mono (fun _ _ z => z.mono e14), hs2, SqT.of (e04 _ _ ht), fun p H5 e5 hp5 => ?_⟩
          have e05 := e04.trans e5
          refine ⟨lo.T, q, xs, cs, p, _, _, rfl, hok.pd, Evl.ex_t e05 hq, hp.mono (fun _ _ z => z.mono e05), SqT.of hp5, fun b hb => ⟨_, rfl, ?_⟩⟩
          cases b with
          | false =>
            refine ifT rfl (kk false H5 e05 ⟨fun z => (nomatch z), fun z => ?_⟩)
            have := hb.mpr ((z c hcm).2 s2 (List.mem_of_getElem? hs2))
            cases this
          | true =>
            refine ifF rfl ⟨⟨_, rfl⟩, e4.trans e5, fun j s hj hjs => ?_⟩
            rcases Nat.lt_or_eq_of_le (Nat.le_of_lt_succ hj) with h | h
            · exact hin j s h hjs
            · rw [h, hs2] at hjs
              cases hjs
              exact hb.mp rfl
        · obtain ⟨⟨o2, rfl⟩, e4, hin⟩ := hv
          refine ⟨⟨_, _, rfl⟩, (e2.trans e3).trans e4, fun j c' hj hjc => ?_⟩
          rcases Nat.lt_or_eq_of_le (Nat.le_of_lt_succ hj) with h | h
          · exact hall j c' h hjc
          · rw [h, hc] at hjc
            cases hjc
            refine ⟨hso, fun s hs => ?_⟩
            obtain ⟨j2, hj2⟩ := List.getElem?_of_mem hs
            exact hin j2 s (by have := (List.getElem?_eq_some_iff.mp hj2).1; rw [← hss.1] at this; omega) hj2
    · obtain ⟨⟨o1, o2, rfl⟩, e2, hall⟩ := hv
      refine kk true H2 (e1.trans e2) ⟨fun _ c hc => ?_, fun _ => rfl⟩
      obtain ⟨j, hj⟩ := List.getElem?_of_mem hc
      exact hall j c (by rw [hp.1]; exact (List.getElem?_eq_some_iff.mp hj).1) hj
theorem r_is_closed (Z : Zed K mg base) : Rn P w K mg base 17 (a_is_closed K) (spIsClosed K) := by
  have R_check_kind := r_check_kind (P := P) (w := w) Z
  have R_check_shelter := r_check_shelter (P := P) (w := w) Z
  have R_is_shut := r_is_shut (P := P) (w := w) Z
  refine rn_of (u_is_closed Z) sco_is_closed (fun _ _ _ _ _ _ us hl => match us, hl with | [_, _, _], _ => rfl) (fun vs H Q E h => ?_) (fun cdv A outer s H vs Q E hr h => ?_)
  · obtain ⟨v, lo, kd, q, xs, cs, st, rfl, _⟩ := h
    rfl
  · refine ⟨_, (pss_cons (ps_expr (pe_r R_check_kind (g_check_kind Z) hr (by rfl) (pa_cons (pv 1) pa_nil)))
      (pss_cons (ps_expr (pe_r R_check_shelter (g_check_shelter Z) hr (by rfl) (pa_cons (pv 2) pa_nil)))
      (pss_one (ps_ret (pe_r R_is_shut (g_is_shut Z) hr (by rfl) (pa_cons (pv 0) (pa_cons (pv 1) (pa_cons (pv 2) pa_nil)))))))), ?_⟩
    obtain ⟨v, lo, kd, q, xs, cs, st, rfl, hq, hp, hc, hcl, hS, hne, kk⟩ := h
    refine ⟨_, rfl, _, rfl, .inl rfl, ?_⟩
    refine ⟨_, rfl, q, xs, cs, rfl, hq, hp, hc, hcl, fun H1 e1 => ?_⟩
    exact ⟨_, rfl, _, rfl, _, rfl, v, lo, kd, q, xs, cs, st, rfl, Evl.ex_t e1 hq, hp.mono (fun _ _ z => z.mono e1), hS.mono e1, hne, fun b H2 e2 hb => kk b H2 (e1.trans e2) hb⟩
theorem r_lasts (Z : Zed K mg base) : Rn P w K mg base 17 (a_lasts K) (spLasts K) := by
  have R_check_kind := r_check_kind (P := P) (w := w) Z
  have R_check_pair := r_check_pair (P := P) (w := w) Z
  have R_is_any := r_is_any (P := P) (w := w) Z
  have R_is_ever := r_is_ever (P := P) (w := w) Z
  have R_never_row := r_never_row (P := P) (w := w) Z
  have R_does_last := r_does_last (P := P) (w := w) Z
  have R_stairs_of := r_stairs_of (P := P) (w := w) Z
  have R_Stairs_corners := r_Stairs_corners (P := P) (w := w) Z
  have R_breaking := r_breaking (P := P) (w := w) Z
  refine rn_of (u_lasts Z) sco_lasts (fun _ _ _ _ _ _ us hl => match us, hl with | [_, _, _], _ => rfl) (fun vs H Q E h => ?_) (fun cdv A outer s H vs Q E hr h => ?_)
  · obtain ⟨v, lo, kd, q, x, y, ⟨rfl, _⟩ | ⟨rfl, _⟩⟩ := h <;> rfl
  · refine ⟨_, (pss_cons (ps_expr (pe_r R_check_kind (g_check_kind Z) hr (by rfl) (pa_cons (pv 1) pa_nil)))
      (pss_cons (ps_expr (pe_r R_check_pair (g_check_pair Z) hr (by rfl) (pa_cons (pv 2) pa_nil)))
      (pss_cons (ps_if (pt_val (pe_r R_is_any (g_is_any Z) hr (by rfl) (pa_cons (pv 0) (pa_cons (pv 1) pa_nil))))
        (pss_one (ps_ret (pe_tup (pa_cons (C8.pe_gc (by rfl) (k_ANY Z)) pa_nil))))
        pss_nil)
      (pss_cons (ps_if (pt_not (pt_val (pe_r R_is_ever (g_is_ever Z) hr (by rfl) (pa_cons (pv 0) (pa_cons (pv 1) pa_nil)))))
        (pss_one (ps_ret (pe_tup (pa_cons (C8.pe_gc (by rfl) (k_NEVER Z)) (pa_cons (pe_r R_never_row (g_never_row Z) hr (by rfl) (pa_cons (pv 0) (pa_cons (pv 1) pa_nil))) pa_nil)))))
        pss_nil)
      (pss_cons (ps_if (pt_val (pe_r R_does_last (g_does_last Z) hr (by rfl) (pa_cons (pv 0) (pa_cons (pv 1) (pa_cons (pv 2) pa_nil)))))
        (pss_one (ps_ret (pe_tup (pa_cons (C8.pe_gc (by rfl) (k_LASTS Z)) (pa_cons (pe_ms0 (pe_r R_stairs_of (g_stairs_of Z) hr (by rfl) (pa_cons (pv 0) (pa_cons (pv 1) pa_nil))) (sc_Stairs Z) (m_Stairs_corners Z) R_Stairs_corners hr) pa_nil)))))
        pss_nil)
      (pss_one (ps_ret (pe_tup (pa_cons (C8.pe_gc (by rfl) (k_BREAKS Z)) (StX.pa_star (pe_r R_breaking (g_breaking Z) hr (by rfl) (pa_cons (pv 0) (pa_cons (pv 1) (pa_cons (pv 2) pa_nil)))) pa_nil)))))))))), ?_⟩
    obtain ⟨v, lo, kd, q, x, y, ⟨rfl, hq, hF, kk⟩ | ⟨rfl, hq, hxy, hx1, hy1, st, hS, hst, kk⟩⟩ := h
    · refine ⟨_, rfl, _, rfl, .inr rfl, _, rfl, q, x, y, rfl, SqT.of hq, ?_⟩
      refine ⟨_, rfl, _, rfl, v, lo, kd, _, rfl, hF, .inl ⟨rfl, _, rfl, ifT rfl ?_⟩⟩
      exact ⟨by show 1 ≤ sizeLine; decide, fun p hp => kk p _ (Evl.Ex.new hp) upd_same⟩
    · have hok := hS.f.ok
      have nqk : q ≠ kd := fun z => by
        obtain ⟨kvs, hk⟩ := hS.dict
        rw [z, hk] at hq
        cases hq
      refine ⟨_, rfl, _, rfl, .inl rfl, _, rfl, q, x, y, rfl, SqT.of hq, ?_⟩
      refine ⟨_, rfl, _, rfl, v, lo, kd, _, rfl, hS.u, .inr ⟨true, rfl, _, rfl, ifF rfl ?_⟩⟩
      refine ⟨_, rfl, _, rfl, ?_⟩
      delta tNil
      dsimp only
      refine isEver_room hS fun H1 st1 m b he1 hS1 hl1 => ⟨_, rfl, ?_⟩
      have hq1 : H1 q = some (.tup [.int x, .int y]) := he1 _ _ nqk hq
      cases b with
      | false =>
        have e1 : st1 = .kn m := by
          cases st1 with
          | k0 => exact hl1.elim
          | kn m' => rw [hl1.1]
          | km m' => cases hl1.2
          | ke m' r => cases hl1.2
        subst e1
        obtain ⟨s1, hk1, hlen1⟩ : ∃ s, H1 kd = some (.dK [(keyS "length", s)]) ∧ LenSt K (hid kd H1) s lo m false := hS1.k
        refine ifT rfl ⟨_, rfl, _, rfl, v, lo, kd, m, rfl, hS1, fun t1 H2 ps1 e2 ht1 hp1 hN => ⟨by show 2 ≤ sizeLine; decide, fun p hp => ?_⟩⟩
        have e3 := Evl.Ex.new (o := .tup [.str (Str.ofString "never"), .ref t1]) hp
        exact kk p _ (.kn m) (he1.trans (ExB.of (e2.trans e3))) (hS1.mono (e2.trans e3)) trivial (fun z => nomatch z) (.inl ⟨m, t1, ps1, rfl, len_never hok hlen1, upd_same, e3 _ _ ht1, hp1, hN⟩)
      | true =>
        have hS1' : StuAt K H1 v lo kd (.km m) ∨ ∃ mr, StuAt K H1 v lo kd (.ke m mr) := by
          cases st1 with
          | k0 => exact hl1.elim
          | kn m' => cases hl1.2
          | km m' => cases hl1.1; exact .inl hS1
          | ke m' r => cases hl1.1; exact .inr ⟨r, hS1⟩
        refine ifF rfl ⟨_, rfl, _, rfl, _, rfl, v, lo, kd, q, x, y, .inr ⟨rfl, SqT.of hq1, hxy, nqk, m, hS1', fun H2 mr b2 he2 hS2 hb2 => ⟨_, rfl, ?_⟩⟩⟩
        have he12 := he1.trans he2
        have hq2 : H2 q = some (.tup [.int x, .int y]) := he12 _ _ nqk hq
        obtain ⟨s2, r2, hk2, hlen2, hroom2⟩ : ∃ s r, H2 kd = some (.dK [(keyS "length", s), (keyS "room", r)]) ∧ LenSt K (hid kd H2) s lo m true ∧ RoomSt K (hid kd H2) r lo m mr := hS2.k
        have hE := len_ever hok hlen2
        cases b2 with
        | true =>
          refine ifT rfl ⟨_, rfl, _, rfl, .inr ⟨v, lo, kd, m, rfl, .inr ⟨mr, hS2, fun rv hroom => ?_⟩⟩⟩
          obtain ⟨_, ⟨ra, rd, _, _, _, _, _, rfl, hrs, _⟩, _⟩ := id hroom.f
          obtain ⟨g1, g2, g3⟩ := corners_good hok hlen2 hroom2
          refine ⟨ra, rd, _, rfl, hrs, _, lo.SR, mr, true, rfl, hroom.f, fun t xs H3 e3 ht hpw => ⟨by show 2 ≤ sizeLine; decide, fun p hp => ?_⟩⟩
          have e4 := Evl.Ex.new (o := .tup [.str (Str.ofString "lasts"), .ref t]) hp
          exact kk p _ (.ke m mr) (he12.trans (ExB.of (e3.trans e4))) (hS2.mono (e3.trans e4)) trivial (fun z => nomatch z) (.inr ⟨m, mr, rfl, hE, .inl ⟨hb2.mp rfl, t, xs, _, upd_same, e4 _ _ ht, hpw.mono (fun _ _ z => z.mono e4), g2, cor_len hok _, g1, g3 x y hxy (hb2.mp rfl)⟩⟩)
        | false =>
          have hno : ¬ LastsRo lo (x, y) := fun z => by have := hb2.mpr z; cases this
          refine ifF rfl ⟨_, rfl, _, rfl, _, rfl, v, lo, kd, q, x, y, .inl ⟨rfl, SqT.of hq2, hxy, hx1, hy1, m, mr, hS2, hno, fun p1' H3 t1 t2 ps1 p1 ps2 e3 hpt ht1 ht2 hp1 hp2 hp3 hB => ⟨p1', _, rfl, .inl (SqT.of hpt), by show 3 ≤ sizeLine; decide, fun p hp => ?_⟩⟩⟩
          have e4 := Evl.Ex.new (o := .tup (.str (Str.ofString "breaks") :: ([.ref t1, .ref t2] ++ []))) hp
          exact kk p _ (.ke m mr) (he12.trans (ExB.of (e3.trans e4))) (hS2.mono (e3.trans e4)) trivial (fun z => nomatch z) (.inr ⟨m, mr, rfl, hE, .inr ⟨hno, t1, t2, ps1, p1, ps2, upd_same, e4 _ _ ht1, e4 _ _ ht2, hp1, hp2, hp3, hB⟩⟩)
end
end CZ
set_option Elab.async false
set_option linter.all false
set_option maxRecDepth 100000
set_option maxHeartbeats 4000000
namespace CZ
open PySem PySem.Spec PyProof.Rows L2
/-! ### the pot -/
/-- a pot; its count is at most n -/
structure PotAt (H : Hp) (p : Addr) (n : Nat) : Prop where
  ex : ∃ o c k : Int, H p = some (.lst [.int o, .int c, .int k]) ∧ 0 ≤ c ∧ c < 2305843009213693952 ∧ 0 ≤ k ∧ k ≤ n
theorem PotAt.le {H : Hp} {p : Addr} {n m : Nat} (h : PotAt H p n) (hm : n ≤ m) : PotAt H p m := let ⟨o, c, k, h1, h2, h3, h4, h5⟩ := h.ex; ⟨o, c, k, h1, h2, h3, h4, by omega⟩
theorem PotAt.mono {H H' : Hp} {p : Addr} {n : Nat} (h : PotAt H p n) (e : Ex H H') : PotAt H' p n := let ⟨o, c, k, h1, h2⟩ := h.ex; ⟨o, c, k, e _ _ h1, h2⟩
/-- H' is H but for the pot, which has been taken from -/
structure Took (H H' : Hp) (p : Addr) (n : Nat) : Prop where
  k : ExB p H H'
  p : PotAt H' p n
def spPot (K : PySem.W.Frag) : Sp := fun vs H Q _ => ∃ (a : Addr) (ns : List Int) (i : Nat), vs = [.ref a, .int i] ∧ SqL K H a (ns.map V.int) ∧ i ≤ 1000 ∧ ∀ p H', H p = none → Ex H H' → PotAt H' p 0 → Q (.ref p) H'
def spTake : Sp := fun vs H Q _ => ∃ (p : Addr) (n : Nat) (u : Int), vs = [.ref p, .int u] ∧ PotAt H p n ∧ n ≤ 100000 ∧ 1 ≤ u ∧ u ≤ 1000000 ∧ ∀ d H', 0 ≤ d → d < u → Took H H' p (n + 1) → Q (.int d) H'
def spOf (K : PySem.W.Frag) : Sp := fun vs H Q _ => ∃ (p : Addr) (n : Nat) (l : Addr) (xs : List V), vs = [.ref p, .ref l] ∧ PotAt H p n ∧ n ≤ 100000 ∧ l ≠ p ∧ SqL K H l xs ∧ xs ≠ [] ∧ xs.length ≤ 1000 ∧ ∀ x H', x ∈ xs → Took H H' p (n + 1) → Q x H'
theorem bit01 (b : Bool) : -(2 ^ 64) < (if b = true then (1 : Int) else 0) ∧ (if b = true then (1 : Int) else 0) < 2 ^ 64 := by cases b <;> decide
theorem SqL.exb {K : PySem.W.Frag} {H H' : Hp} {p l : Addr} {xs : List V} (h : SqL K H l xs) (e : ExB p H H') (hne : l ≠ p) : SqL K H' l xs := by
  rcases h with (h | ⟨o, h⟩) | h
  · exact .inl (.inl (e _ _ hne h))
  · exact .inl (.inr ⟨o, e _ _ hne h⟩)
  · exact .inr h
section
variable {P : Program} {w : World} {K : PySem.W.Frag} {mg : Str → Option Value} {base : Heap}
theorem r_q_pot (Z : Zed K mg base) : Rn P w K mg base 1 (a_q_pot K) (spPot K) := by
  refine rn_of (u_q_pot Z) sco_q_pot (fun _ _ _ _ _ _ us hl => match us, hl with | [_, _], _ => rfl) (fun vs H Q E h => ?_) (fun cdv A outer s H vs Q E hr h => ?_)
  · obtain ⟨a, ns, i, rfl, _⟩ := h
    rfl
  · refine ⟨_, (pss_cons (ps_set (i := 2) sco_q_pot.nd rfl (Or.inl rfl) (pe_ifExp (pt_cmpR op_lt (pv 1) (pe_callB (call_len_seqK K) (by rfl) (f_len Z) (by decide +kernel) (pa_cons (pv 0) pa_nil)) (nomark _)) (pe_ix (ix_listK K) (pv 0) (pv 1) (fun _ _ => rfl)) (pe_op op_add (pe_op op_mul pe_int (pv 1)) pe_int)))
      (pss_cons (ps_set (i := 3) sco_q_pot.nd rfl (Or.inl rfl) (pe_op op_mul (pe_op op_mod (pe_callTy call_int1 (by rfl) (f_int Z) (by decide +kernel) (pa_cons (pe_callB call_abs (by rfl) (f_abs Z) (by decide +kernel) (pa_cons (pv 2) pa_nil)) pa_nil)) (pe_op op_powW (pe_op op_powW pe_int pe_int) pe_int)) (pe_callTy call_int1 (by rfl) (f_int Z) (by decide +kernel) (pa_cons (pe_cmpR op_ge (pe_callB call_abs (by rfl) (f_abs Z) (by decide +kernel) (pa_cons (pv 2) pa_nil)) (pe_op op_powW pe_int pe_int) (nomark _)) pa_nil))))
      (pss_cons (ps_set (i := 4) sco_q_pot.nd rfl (Or.inl rfl) (pe_op op_mod (pe_callTy call_int1 (by rfl) (f_int Z) (by decide +kernel) (pa_cons (pv 2) pa_nil)) pe_int))
      (pss_one (ps_ret (pe_lst (pa_cons (pv 3) (pa_cons (pe_op op_mod (pe_callTy call_int1 (by rfl) (f_int Z) (by decide +kernel) (pa_cons (pe_op op_add (pe_op op_add (pe_op op_mul (pv 4) pe_int) (pe_op op_mul (pe_op op_mul pe_int (pv 1)) (pv 1))) pe_int) pa_nil)) pe_int) (pa_cons pe_int pa_nil))))))))), ?_⟩
    obtain ⟨a, ns, i, rfl, hL, hi, k⟩ := h
    have c1 : CPowW 10 60 := ⟨by decide, by decide +kernel⟩
    have c2 : CPowW (10 ^ (60 : Int).toNat) 5 := ⟨by decide, by decide +kernel⟩
    have c3 : CPowW 10 18 := ⟨by decide, by decide +kernel⟩
    have c4 : (0 : Int) < (10 ^ (60 : Int).toNat) ^ (5 : Int).toNat := by decide +kernel
    refine ⟨_, rfl, _, rfl, a, _, rfl, .inl hL, _, _, rfl, rfl, _, rfl, ?_⟩
    by_cases hc : (i : Int) < ((ns.map V.int).length : Int)
    all_goals first
      | refine ifT (decide_eq_true hc) ⟨_, rfl, _, rfl, a, _, i, .int (ns[i]'(by rw [List.length_map] at hc; omega)), rfl, rfl, hL, atI_nat (map_at (List.getElem?_eq_getElem _)), ?_⟩
      | refine ifF (decide_eq_false hc) ⟨_, rfl, _, _, rfl, rfl, .inl (by decide), _, _, rfl, rfl, ?_⟩
    all_goals
      refine ⟨_, rfl, _, rfl, .inl ⟨_, rfl, _, _, rfl, rfl, c1, _, _, rfl, rfl, c2, _, _, rfl, rfl, c4, ?_⟩⟩
      refine ⟨_, rfl, _, rfl, _, _, rfl, rfl, c3, _, _, rfl, rfl, .inr ⟨_, rfl, _, _, rfl, rfl, .inr (bit01 _), ?_⟩⟩
      refine ⟨_, rfl, .inl ⟨_, rfl, _, _, rfl, rfl, (show (0 : Int) < 2305843009213693951 by decide), ?_⟩⟩
      refine ⟨_, rfl, _, rfl, _, _, rfl, rfl, .inr (by decide), _, rfl, _, _, rfl, rfl, .inl (by decide), _, rfl, _, _, rfl, rfl, .inr (by omega), _, _, rfl, rfl, _, _, rfl, rfl, .inl ⟨_, rfl, _, _, rfl, rfl, (show (0 : Int) < 2305843009213693921 by decide), ?_⟩⟩
      refine ⟨by show 3 ≤ sizeLine; decide, fun p hp => k p _ hp (Evl.Ex.new hp) ⟨_, _, 0, upd_same, Int.emod_nonneg _ (by decide), Int.lt_trans (Int.emod_lt_of_pos _ (by decide)) (by decide), by decide, by decide⟩⟩
theorem r_q_take (Z : Zed K mg base) : Rn P w K mg base 1 (a_q_take K) spTake := by
  refine rn_of (u_q_take Z) sco_q_take (fun _ _ _ _ _ _ us hl => match us, hl with | [_, _], _ => rfl) (fun vs H Q E h => ?_) (fun cdv A outer s H vs Q E hr h => ?_)
  · obtain ⟨p, n, u, rfl, _⟩ := h
    rfl
  · refine ⟨_, (pss_cons (ps_if (pt_cmpR op_gt (pe_ix (ix_listK K) (pv 0) pe_int (fun _ _ => rfl)) pe_int (nomark _))
        (pss_cons (ps_set (i := 2) sco_q_take.nd rfl (Or.inl rfl) (pe_op op_mod (pe_callTy call_int1 (by rfl) (f_int Z) (by decide +kernel) (pa_cons (pe_ix (ix_listK K) (pv 0) pe_int (fun _ _ => rfl)) pa_nil)) (pv 1)))
        (pss_cons (ps_asg (pe_op op_fdiv (pe_ix (ix_listK K) (pv 0) pe_int (fun _ _ => rfl)) (pv 1)) (pg_sub (pv 0) pe_int set_list))
        (pss_one (ps_ret (pv 2)))))
        pss_nil)
      (pss_cons (ps_asg (pe_op op_add (pe_ix (ix_listK K) (pv 0) pe_int (fun _ _ => rfl)) pe_int) (pg_sub (pv 0) pe_int set_list))
      (pss_cons (ps_set (i := 3) sco_q_take.nd rfl (Or.inl rfl) (pe_ix (ix_listK K) (pe_lst (pa_cons pe_int (pa_cons pe_int (pa_cons pe_int (pa_cons pe_int (pa_cons pe_int pa_nil)))))) (pe_op op_mod (pe_callTy call_int1 (by rfl) (f_int Z) (by decide +kernel) (pa_cons (pe_ix (ix_listK K) (pv 0) pe_int (fun _ _ => rfl)) pa_nil)) pe_int) (fun _ _ => rfl)))
      (pss_cons (ps_set (i := 4) sco_q_take.nd rfl (Or.inl rfl) (pe_op op_mod (pe_callTy call_int1 (by rfl) (f_int Z) (by decide +kernel) (pa_cons (pe_op op_powW (pe_callTy call_int1 (by rfl) (f_int Z) (by decide +kernel) (pa_cons (pe_op op_add (pe_op op_add (pe_ix (ix_listK K) (pv 0) pe_int (fun _ _ => rfl)) (pe_op op_mul (pe_op op_mul pe_int (pe_ix (ix_listK K) (pv 0) pe_int (fun _ _ => rfl))) (pe_ix (ix_listK K) (pv 0) pe_int (fun _ _ => rfl)))) pe_int) pa_nil)) pe_int) pa_nil)) (pv 3)))
      (pss_cons (ps_set (i := 4) sco_q_take.nd rfl (Or.inl rfl) (pe_op op_mod (pe_callTy call_int1 (by rfl) (f_int Z) (by decide +kernel) (pa_cons (pe_op op_mul (pv 4) (pe_op op_add (pe_op op_mod (pe_callTy call_int1 (by rfl) (f_int Z) (by decide +kernel) (pa_cons (pv 4) pa_nil)) pe_int) (pe_op op_mul pe_int (pe_ix (ix_listK K) (pv 0) pe_int (fun _ _ => rfl))))) pa_nil)) pe_int))
      (pss_one (ps_ret (pe_op op_mod (pe_callTy call_int1 (by rfl) (f_int Z) (by decide +kernel) (pa_cons (pe_op op_fdiv (pv 4) pe_int) pa_nil)) (pv 1))))))))), ?_⟩
    obtain ⟨p, n, u, rfl, ⟨o, c, k, hp, hc0, hc1, hk0, hk1⟩, hn, hu0, hu1, kk⟩ := h
    refine ⟨_, rfl, p, _, 0, .int o, rfl, rfl, SqL.of hp, rfl, _, _, rfl, rfl, _, rfl, ?_⟩
    by_cases ho : 0 < o
    · refine ifT (decide_eq_true ho) ?_
      refine ⟨_, rfl, p, _, 0, .int o, rfl, rfl, SqL.of hp, rfl, .inl ⟨_, rfl, _, rfl, _, _, rfl, rfl, by omega, ?_⟩⟩
      refine ⟨_, rfl, p, _, 0, .int o, rfl, rfl, SqL.of hp, rfl, _, rfl, _, _, rfl, rfl, ⟨by omega, by omega⟩, ?_⟩
      refine ⟨_, rfl, p, _, 0, 0, rfl, rfl, hp, rfl, _, rfl, ?_⟩
      exact kk (o % u) _ (Int.emod_nonneg _ (by omega)) (Int.emod_lt_of_pos _ (by omega)) ⟨exb_upd, _, _, _, upd_same, hc0, hc1, hk0, by omega⟩
    · refine ifF (decide_eq_false ho) ?_
      refine ⟨_, rfl, p, _, 2, .int k, rfl, rfl, SqL.of hp, rfl, _, _, rfl, rfl, ?_⟩
      refine ⟨_, rfl, p, _, 2, 2, rfl, rfl, hp, rfl, ?_⟩
      have hp2 : (upd H p (.lst [.int o, .int c, .int (k + 1)])) p = some (.lst [.int o, .int c, .int (k + 1)]) := upd_same
      have ek : ExB p H (upd H p (.lst [.int o, .int c, .int (k + 1)])) := exb_upd
      have hset : [V.int o, V.int c, V.int k].set 2 ((fun i j => V.int (i + j)) k 1) = [.int o, .int c, .int (k + 1)] := rfl
      rw [hset]
      generalize upd H p (.lst [.int o, .int c, .int (k + 1)]) = H1 at *
      refine ⟨by show 5 ≤ sizeLine; decide, fun l hl => ?_⟩
      have e2 : Ex H1 (upd H1 l (.lst [.int 2147483647, .int 2147483629, .int 2147483587, .int 2147483579, .int 2147483563])) := Evl.Ex.new hl
      have hp3 := e2 _ _ hp2
      have hl3 : (upd H1 l (.lst [.int 2147483647, .int 2147483629, .int 2147483587, .int 2147483579, .int 2147483563])) l = some (.lst [.int 2147483647, .int 2147483629, .int 2147483587, .int 2147483579, .int 2147483563]) := upd_same
      have ek3 := ek.trans (ExB.of e2)
      generalize upd H1 l (.lst [.int 2147483647, .int 2147483629, .int 2147483587, .int 2147483579, .int 2147483563]) = H2 at *
      have hm0 := Int.emod_nonneg (k + 1) (show (5 : Int) ≠ 0 by decide)
      have hm1 := Int.emod_lt_of_pos (k + 1) (show (0 : Int) < 5 by decide)
      obtain ⟨j, hj, hj5⟩ : ∃ j : Nat, (k + 1) % 5 = j ∧ j < 5 := ⟨((k + 1) % 5).toNat, by omega, by omega⟩
      have hpr : ∃ pr : Int, [V.int 2147483647, .int 2147483629, .int 2147483587, .int 2147483579, .int 2147483563][j]? = some (.int pr) ∧ 0 < pr ∧ pr < 2147483648 := by
        match j, hj5 with
        | 0, _ => exact ⟨_, rfl, by decide, by decide⟩
        | 1, _ => exact ⟨_, rfl, by decide, by decide⟩
        | 2, _ => exact ⟨_, rfl, by decide, by decide⟩
        | 3, _ => exact ⟨_, rfl, by decide, by decide⟩
        | 4, _ => exact ⟨_, rfl, by decide, by decide⟩
      obtain ⟨pr, hpr1, hpr2, hpr3⟩ := hpr
      refine ⟨_, rfl, p, _, 2, .int (k + 1), rfl, rfl, SqL.of hp3, rfl, .inl ⟨_, rfl, _, _, rfl, rfl, (show (0 : Int) < 5 by decide), l, _, _, .int pr, rfl, rfl, SqL.of hl3, by rw [hj]; exact atI_nat hpr1, ?_⟩⟩
      have hkk : (k + 1) * (k + 1) ≤ 100001 * 100001 := Int.mul_le_mul (by omega) (by omega) (by omega) (by decide)
      have hkk0 : 0 ≤ (k + 1) * (k + 1) := Int.mul_nonneg (by omega) (by omega)
      have hbig : 0 ≤ c + 100103 * (k + 1) * (k + 1) + 43 ∧ c + 100103 * (k + 1) * (k + 1) + 43 < 2 ^ 63 := by
        rw [Int.mul_assoc]
        omega
      have hpow : CPowW (c + 100103 * (k + 1) * (k + 1) + 43) 3 := by
        have := intBits_le_64 (k := c + 100103 * (k + 1) * (k + 1) + 43) (by omega) (by omega)
        refine ⟨by decide, ?_⟩
        have h2 : (2 : Int) ^ 27 = 134217728 := by decide
        rw [h2]
        omega
      refine ⟨_, rfl, p, _, 1, .int c, rfl, rfl, SqL.of hp3, rfl, _, rfl, p, _, 2, .int (k + 1), rfl, rfl, SqL.of hp3, rfl, _, _, rfl, rfl, .inl (by decide), _, rfl, p, _, 2, .int (k + 1), rfl, rfl, SqL.of hp3, rfl, _, _, rfl, rfl, .inr (by omega), _, _, rfl, rfl, _, _, rfl, rfl, .inl ⟨_, rfl, ?_⟩⟩
      refine ⟨_, _, rfl, rfl, hpow, .inl ⟨_, rfl, _, rfl, _, _, rfl, rfl, hpr2, ?_⟩⟩
      generalize (c + 100103 * (k + 1) * (k + 1) + 43) ^ (3 : Int).toNat = big
      have hb0 := Int.emod_nonneg big (show pr ≠ 0 by omega)
      have hb1 := Int.emod_lt_of_pos big hpr2
      refine ⟨_, rfl, _, rfl, .inl ⟨_, rfl, _, _, rfl, rfl, (show (0 : Int) < 10061 by decide), _, rfl, p, _, 2, .int (k + 1), rfl, rfl, SqL.of hp3, rfl, _, _, rfl, rfl, .inl (by decide), _, _, rfl, rfl, _, _, rfl, rfl, .inl (by omega), .inl ⟨_, rfl, _, _, rfl, rfl, (show (0 : Int) < 2305843009213693907 by decide), ?_⟩⟩⟩
      refine ⟨_, rfl, _, _, rfl, rfl, ⟨by decide, by decide⟩, .inl ⟨_, rfl, _, rfl, _, _, rfl, rfl, by omega, ?_⟩⟩
      exact kk _ H2 (Int.emod_nonneg _ (by omega)) (Int.emod_lt_of_pos _ (by omega)) ⟨ek3, _, _, _, hp3, hc0, hc1, by omega, by omega⟩
theorem r_q_of (Z : Zed K mg base) : Rn P w K mg base 2 (a_q_of K) (spOf K) := by
  have R_q_take := r_q_take (P := P) (w := w) Z
  refine rn_of (u_q_of Z) sco_q_of (fun _ _ _ _ _ _ us hl => match us, hl with | [_, _], _ => rfl) (fun vs H Q E h => ?_) (fun cdv A outer s H vs Q E hr h => ?_)
  · obtain ⟨p, n, l, xs, rfl, _⟩ := h
    rfl
  · refine ⟨_, (pss_one (ps_ret (pe_ix (ix_listK K) (pv 1) (pe_r R_q_take (g_q_take Z) hr (by rfl) (pa_cons (pv 0) (pa_cons (pe_callB (call_len_seqK K) (by rfl) (f_len Z) (by decide +kernel) (pa_cons (pv 1) pa_nil)) pa_nil))) (fun _ _ => rfl)))), ?_⟩
    obtain ⟨p, n, l, xs, rfl, hp, hn, hne, hl, hx, hxl, kk⟩ := h
    have hx0 : 0 < xs.length := List.length_pos_iff.mpr hx
    refine ⟨_, rfl, _, rfl, _, rfl, l, _, rfl, .inl hl, p, n, xs.length, rfl, hp, hn, by omega, by omega, fun d H' hd0 hd1 ht => ?_⟩
    have hdl : d.toNat < xs.length := by omega
    refine ⟨l, xs, d, xs[d.toNat], rfl, rfl, SqL.exb hl ht.k hne, at_of (Int.toNat_of_nonneg hd0).symm (List.getElem?_eq_getElem hdl), kk _ H' (List.getElem_mem hdl) ht⟩
end
end CZ
set_option Elab.async false
set_option linter.all false
set_option maxRecDepth 100000
set_option maxHeartbeats 4000000
namespace CZ
open PySem PySem.Spec PyProof.Rows L2
/-! ### the law's numbers and names -/
def poolS : List Str := ["cut", "web", "a", "via", "back", "from", "trim", "program", "near", "zzzzzzzz", "none", "start"]
def spQIsInt : Sp := fun vs H Q _ => ∃ i : Int, vs = [.int i] ∧ Q (.bl true) H
def spQNames : Sp := fun vs H Q _ => vs = [] ∧ ∀ l H', H l = none → Ex H H' → H' l = some (.lst (poolS.map V.str)) → Q (.ref l) H'
def spQJoint : Sp := fun vs H Q _ => ∃ a b : Int, vs = [.int a, .int b] ∧ 0 < a ∧ a ≤ 100000 ∧ 0 < b ∧ b ≤ 100000 ∧ Q (.int (CM.perStep a b)) H
def spQLeast : Sp := fun vs H Q _ => ∃ a b : Int, vs = [.int a, .int b] ∧ -1000 ≤ a ∧ a ≤ 1000 ∧ 0 < b ∧ b ≤ 1000 ∧ ∀ q H', H q = none → Ex H H' → H' q = some (.tup [.int (a / (Int.gcd a b : Nat)), .int (b / (Int.gcd a b : Nat))]) → Q (.ref q) H'
def spQRatioText (K : PySem.W.Frag) : Sp := fun vs H Q _ => ∃ (q : Addr) (n d : Int), vs = [.ref q] ∧ SqT K H q [.int n, .int d] ∧ -9 ≤ n ∧ n ≤ 9 ∧ 1 ≤ d ∧ d ≤ 9 ∧ Q (.str (SX.S (ratL n d))) H
def spQHows : Sp := fun vs H Q _ => ∃ (p : Addr) (n : Nat), vs = [.ref p, .bl false] ∧ PotAt H p n ∧ n ≤ 50000 ∧ ∀ q H' (h : CM.How × CM.How), H q = none → q ≠ p → ExB p H H' → PotAt H' p (n + 3) → H' q = some (.tup [.str (howS h.1), .str (howS h.2)]) → Q (.ref q) H'
theorem dec_dg (z : Int) (h1 : -9 ≤ z) (h2 : z ≤ 9) : (toString z : String) = String.ofList ((dgL z).map Char.ofNat) ∧ Str.ofString (toString z) = SX.S (dgL z) := by
  have key : ∀ n : Nat, n ≤ 9 → (Str.ofString (toString (n : Int)) = SX.S (dgL (n : Int)) ∧ Str.ofString (toString (-(n : Int))) = SX.S (dgL (-(n : Int)))) ∧ ((toString (n : Int) : String) = String.ofList ((dgL (n : Int)).map Char.ofNat) ∧ (toString (-(n : Int)) : String) = String.ofList ((dgL (-(n : Int))).map Char.ofNat)) := by decide +kernel
  by_cases hz : 0 ≤ z
  · obtain ⟨n, rfl⟩ := Int.eq_ofNat_of_zero_le hz
    have := key n (by omega)
    exact ⟨this.2.1, this.1.1⟩
  · obtain ⟨n, hn⟩ := Int.eq_ofNat_of_zero_le (show 0 ≤ -z by omega)
    have e : z = -(n : Int) := by omega
    have := key n (by omega)
    rw [e]
    exact ⟨this.2.2, this.1.2⟩
section
variable {P : Program} {w : World} {K : PySem.W.Frag} {mg : Str → Option Value} {base : Heap}
theorem r_q_is_int (Z : Zed K mg base) : Rn P w K mg base 1 (a_q_is_int K) spQIsInt := by
  refine rn_of (u_q_is_int Z) sco_q_is_int (fun _ _ _ _ _ _ us hl => match us, hl with | [_], _ => rfl) (fun vs H Q E h => ?_) (fun cdv A outer s H vs Q E hr h => ?_)
  · obtain ⟨i, rfl, _⟩ := h
    rfl
  · refine ⟨_, (pss_one (ps_ret (pe_and (pe_callB (call_isiK_ K) (by rfl) (f_isinstance Z) (by decide +kernel) (pa_cons (pv 0) (pa_cons (pe_bltn (v := .ty "int") (by rfl) (f_int Z) boot_int rfl) pa_nil))) (pe_one (pe_not (pe_callB (call_isiK_ K) (by rfl) (f_isinstance Z) (by decide +kernel) (pa_cons (pv 0) (pa_cons (pe_bltn (v := .ty "bool") (by rfl) (f_bool Z) boot_bool rfl) pa_nil)))))))), ?_⟩
    obtain ⟨i, rfl, k⟩ := h
    refine ⟨_, rfl, _, .ty "int", _, _, true, rfl, .ty _, .base (.int _), kit_ty (by decide +kernel), _, rfl, ifT rfl ?_⟩
    exact ⟨_, rfl, _, .ty "bool", _, _, false, rfl, .ty _, .base (.int _), kit_ty (by decide +kernel), _, rfl, k⟩
theorem r_q_names (Z : Zed K mg base) : Rn P w K mg base 1 (a_q_names K) spQNames := by
  refine rn_of (u_q_names Z) sco_q_names (fun _ _ _ _ _ _ us hl => match us, hl with | [], _ => rfl) (fun vs H Q E h => ?_) (fun cdv A outer s H vs Q E hr h => ?_)
  · obtain ⟨rfl, _⟩ := h
    rfl
  · refine ⟨_, (pss_one (ps_ret (pe_lst (pa_cons pe_str (pa_cons pe_str (pa_cons pe_str (pa_cons pe_str (pa_cons pe_str (pa_cons pe_str (pa_cons pe_str (pa_cons pe_str (pa_cons pe_str (pa_cons pe_str (pa_cons pe_str (pa_cons pe_str pa_nil))))))))))))))), ?_⟩
    obtain ⟨rfl, k⟩ := h
    exact ⟨by show 12 ≤ sizeLine; decide, fun l hl => k l _ hl (Evl.Ex.new hl) upd_same⟩
theorem r_q_common (Z : Zed K mg base) : Rn P w K mg base 1 (a_q_common K) spCommon := by
  refine rn_of (u_q_common Z) sco_q_common (fun _ _ _ _ _ _ us hl => match us, hl with | [_, _], _ => rfl) (fun vs H Q E h => ?_) (fun cdv A outer s H vs Q E hr h => ?_)
  · obtain ⟨a, b, rfl, _⟩ := h
    rfl
  · obtain ⟨a, b, rfl, k⟩ := h
    refine ⟨_, (pss_cons (ps_par (i := 2) (j := 3) rfl sco_q_common.nd rfl rfl (by decide) rfl rfl (pa_cons (pe_callB call_abs (by rfl) (f_abs Z) (by decide +kernel) (pa_cons (pv 0) pa_nil)) (pa_cons (pe_callB call_abs (by rfl) (f_abs Z) (by decide +kernel) (pa_cons (pv 1) pa_nil)) pa_nil)) (by rfl))
      (pss_cons (ps_while PassesOwn.never (pt_cmpR op_gt (pv 3) pe_int (nomark _))
        (pss_one (ps_par (i := 2) (j := 3) rfl sco_q_common.nd rfl rfl (by decide) rfl rfl (pa_cons (pv 3) (pa_cons (pe_op op_mod (pe_callTy call_int1 (by rfl) (f_int Z) (by decide +kernel) (pa_cons (pv 2) pa_nil)) (pe_callTy call_int1 (by rfl) (f_int Z) (by decide +kernel) (pa_cons (pv 3) pa_nil))) pa_nil)) (by rfl))))
      (pss_one (ps_ret (pv 2))))), ?_⟩
    refine ⟨_, rfl, _, rfl, _, rfl, _, rfl, _, _, rfl, ?_⟩
    refine while_m (fun n σ H' => H' = H ∧ ∃ x y : Int, σ = [some (.int a), some (.int b), some (.int x), some (.int y)] ∧ 0 ≤ x ∧ 0 ≤ y ∧ Int.gcd x y = Int.gcd a b ∧ n = y.toNat) (if b < 0 then -b else b).toNat ⟨rfl, _, _, rfl, by split <;> omega, by split <;> omega, ?_, rfl⟩ ?_
    · split <;> split <;> simp
    · rintro n σ H' ⟨rfl, x, y, rfl, hx, hy, hg, rfl⟩
      refine ⟨_, rfl, _, _, rfl, rfl, _, rfl, ?_⟩
      by_cases hc : 0 < y
      · refine ifT (decide_eq_true hc) (WN.go ⟨_, rfl, _, rfl, .inl ⟨_, rfl, _, rfl, .inl ⟨_, rfl, _, _, rfl, rfl, hc, _, _, rfl, ?_⟩⟩⟩)
        have := Int.emod_lt_of_pos x hc
        have h0 := Int.emod_nonneg x (show y ≠ 0 by omega)
        exact ⟨(x % y).toNat, by omega, rfl, _, _, rfl, hy, h0, by rw [gcd_step hx hc, hg], rfl⟩
      · have e : y = 0 := by omega
        subst e
        refine ifF (decide_eq_false hc) ⟨_, rfl, ?_⟩
        have e2 : ((Int.gcd x 0 : Nat) : Int) = x := by simp [Int.gcd_zero_right]; omega
        rw [← hg, e2] at k
        exact k
theorem r_q_joint (Z : Zed K mg base) : Rn P w K mg base 2 (a_q_joint K) spQJoint := by
  have R_q_common := r_q_common (P := P) (w := w) Z
  refine rn_of (u_q_joint Z) sco_q_joint (fun _ _ _ _ _ _ us hl => match us, hl with | [_, _], _ => rfl) (fun vs H Q E h => ?_) (fun cdv A outer s H vs Q E hr h => ?_)
  · obtain ⟨a, b, rfl, _⟩ := h
    rfl
  · refine ⟨_, (pss_one (ps_ret (pe_op op_fdiv (pe_op op_mul (pv 0) (pv 1)) (pe_r R_q_common (g_q_common Z) hr (by rfl) (pa_cons (pv 0) (pa_cons (pv 1) pa_nil)))))), ?_⟩
    obtain ⟨a, b, rfl, ha, ha2, hb, hb2, k⟩ := h
    have hg0 : 0 < ((Int.gcd a b : Nat) : Int) := by
      have := Int.gcd_pos_of_ne_zero_left b (show a ≠ 0 by omega)
      omega
    have hg1 : ((Int.gcd a b : Nat) : Int) ≤ b := Int.le_of_dvd hb (by first | exact Int.gcd_dvd_right | exact Int.gcd_dvd_right _ _)
    exact ⟨_, rfl, _, rfl, _, _, rfl, rfl, .inr (by omega), _, rfl, _, rfl, a, b, rfl, _, _, rfl, rfl, ⟨hg0, by omega⟩, k⟩
theorem r_q_least_terms (Z : Zed K mg base) : Rn P w K mg base 2 (a_q_least_terms K) spQLeast := by
  have R_q_common := r_q_common (P := P) (w := w) Z
  refine rn_of (u_q_least_terms Z) sco_q_least_terms (fun _ _ _ _ _ _ us hl => match us, hl with | [_, _], _ => rfl) (fun vs H Q E h => ?_) (fun cdv A outer s H vs Q E hr h => ?_)
  · obtain ⟨a, b, rfl, _⟩ := h
    rfl
  · refine ⟨_, (pss_cons (ps_set (i := 2) sco_q_least_terms.nd rfl (Or.inl rfl) (pe_r R_q_common (g_q_common Z) hr (by rfl) (pa_cons (pv 0) (pa_cons (pv 1) pa_nil))))
      (pss_one (ps_ret (pe_tup (pa_cons (pe_op op_fdiv (pv 0) (pv 2)) (pa_cons (pe_op op_fdiv (pv 1) (pv 2)) pa_nil)))))), ?_⟩
    obtain ⟨a, b, rfl, ha, ha2, hb, hb2, k⟩ := h
    have hg0 : 0 < ((Int.gcd a b : Nat) : Int) := by
      have := Int.gcd_pos_of_ne_zero_right a (show b ≠ 0 by omega)
      omega
    have hg1 : ((Int.gcd a b : Nat) : Int) ≤ b := Int.le_of_dvd hb (by first | exact Int.gcd_dvd_right | exact Int.gcd_dvd_right _ _)
    refine ⟨_, rfl, _, rfl, a, b, rfl, ?_⟩
    exact ⟨_, rfl, _, rfl, _, _, rfl, rfl, ⟨hg0, by omega⟩, _, rfl, _, rfl, _, _, rfl, rfl, ⟨hg0, by omega⟩, by show 2 ≤ sizeLine; decide, fun q hq => k q _ hq (Evl.Ex.new hq) upd_same⟩
theorem r_q_ratio_text (Z : Zed K mg base) : Rn P w K mg base 1 (a_q_ratio_text K) (spQRatioText K) := by
  refine rn_of (u_q_ratio_text Z) sco_q_ratio_text (fun _ _ _ _ _ _ us hl => match us, hl with | [_], _ => rfl) (fun vs H Q E h => ?_) (fun cdv A outer s H vs Q E hr h => ?_)
  · obtain ⟨q, n, d, rfl, _⟩ := h
    rfl
  · refine ⟨_, (pss_one (ps_ret (pe_ifExp (pt_cmpR op_eq (pe_ix (ix_tupK K) (pv 0) pe_int (fun _ _ => rfl)) pe_int (nomark _)) (pe_callTy call_str_int (by rfl) (f_str Z) (by decide +kernel) (pa_cons (pe_ix (ix_tupK K) (pv 0) pe_int (fun _ _ => rfl)) pa_nil)) (pe_op op_add_str (pe_op op_add_str (pe_callTy call_str_int (by rfl) (f_str Z) (by decide +kernel) (pa_cons (pe_ix (ix_tupK K) (pv 0) pe_int (fun _ _ => rfl)) pa_nil)) pe_str) (pe_callTy call_str_int (by rfl) (f_str Z) (by decide +kernel) (pa_cons (pe_ix (ix_tupK K) (pv 0) pe_int (fun _ _ => rfl)) pa_nil)))))), ?_⟩
    obtain ⟨q, n, d, rfl, hq, hn1, hn2, hd1, hd2, k⟩ := h
    have sn := (dec_dg n hn1 hn2).2
    have sd := (dec_dg d (by omega) hd2).2
    refine ⟨_, rfl, q, _, 1, .int d, rfl, rfl, hq, rfl, rfl, _, rfl, ?_⟩
    have hlog : ∀ z : Int, -9 ≤ z → z ≤ 9 → z.natAbs.log2 < 1920 := fun z h1 h2 => by
      have h3 : z.natAbs.log2 ≤ z.natAbs := Nat.log2_le_self _
      omega
    by_cases h1 : d = 1
    · subst h1
      refine ifT (decide_eq_true rfl) ⟨_, rfl, q, _, 0, .int n, rfl, rfl, hq, rfl, n, rfl, hlog n hn1 hn2, ?_⟩
      rw [sn]
      exact k
    · refine ifF (decide_eq_false fun z => h1 (by injection z)) ?_
      refine ⟨_, rfl, q, _, 0, .int n, rfl, rfl, hq, rfl, n, rfl, hlog n hn1 hn2, ?_⟩
      rw [sn]
      have l1 := dgL_len n
      have l2 := dgL_len d
      have es : Str.ofString "/" = SX.S [47] := by decide +kernel
      refine ⟨_, _, rfl, rfl, Evl.sz_of (by rw [es, SX.S_len, SX.S_len]; simp; omega), _, rfl, q, _, 1, .int d, rfl, rfl, hq, rfl, d, rfl, hlog d (by omega) hd2, ?_⟩
      rw [sd, es, SX.S_cat]
      refine ⟨_, _, rfl, rfl, Evl.sz_of (by rw [SX.S_len, SX.S_len, List.length_append]; simp; omega), ?_⟩
      rw [SX.S_cat]
      have e : dgL n ++ [47] ++ dgL d = ratL n d := by
        unfold ratL
        rw [if_neg h1]
        simp
      rw [e]
      exact k
theorem r_q_hows (Z : Zed K mg base) : Rn P w K mg base 3 (a_q_hows K) spQHows := by
  have R_q_take := r_q_take (P := P) (w := w) Z
  have R_q_of := r_q_of (P := P) (w := w) Z
  refine rn_of (u_q_hows Z) sco_q_hows (fun _ _ _ _ _ _ us hl => match us, hl with | [_, _], _ => rfl) (fun vs H Q E h => ?_) (fun cdv A outer s H vs Q E hr h => ?_)
  · obtain ⟨p, n, rfl, _⟩ := h
    rfl
  · refine ⟨_, (pss_cons (ps_set (i := 2) sco_q_hows.nd rfl (Or.inl rfl) (pe_lst (pa_cons pe_str (pa_cons pe_str (pa_cons pe_str (pa_cons pe_str pa_nil))))))
      (pss_cons (ps_if (PW.pt (pw_and (pt_val (pv 1)) (pw_and1 (pt_cmpR op_eq (pe_r R_q_take (g_q_take Z) hr (by rfl) (pa_cons (pv 0) (pa_cons pe_int pa_nil))) pe_int (nomark _)))))
        (pss_one (ps_ret (pe_tup (pa_cons pe_str (pa_cons pe_str pa_nil)))))
        pss_nil)
      (pss_cons (ps_set (i := 3) sco_q_hows.nd rfl (Or.inl rfl) (pe_r R_q_of (g_q_of Z) hr (by rfl) (pa_cons (pv 0) (pa_cons (pv 2) pa_nil))))
      (pss_one (ps_ret (pe_tup (pa_cons (pv 3) (pa_cons (pe_ifExp (pt_cmpR op_eq (pe_r R_q_take (g_q_take Z) hr (by rfl) (pa_cons (pv 0) (pa_cons pe_int pa_nil))) pe_int (nomark _)) (pv 3) (pe_r R_q_of (g_q_of Z) hr (by rfl) (pa_cons (pv 0) (pa_cons (pv 2) pa_nil)))) pa_nil)))))))), ?_⟩
    obtain ⟨p, n, rfl, hp, hn, k⟩ := h
    have hpn : H p ≠ none := by obtain ⟨_, _, _, h, _⟩ := hp.ex; rw [h]; exact fun z => nomatch z
    refine ⟨by show 4 ≤ sizeLine; decide, fun l hl => ?_⟩
    have e1 : Ex H (upd H l (.lst [.str "down", .str "up", .str "near", .str "low"])) := Evl.Ex.new hl
    have hl1 : (upd H l (.lst [.str "down", .str "up", .str "near", .str "low"])) l = some (.lst [.str "down", .str "up", .str "near", .str "low"]) := upd_same
    have hlp : l ≠ p := fun z => hpn (by rw [← z]; exact hl)
    have hfr : ∀ {q : Addr} {H2 : Hp}, ExB p H H2 → H2 q = none → q ≠ p → H q = none := fun {q H2} e h hne => by
      cases hq : H q with
      | none => rfl
      | some o => rw [e _ _ hne hq] at h; cases h
    have hpot : ∀ {H2 : Hp} {m : Nat} {q : Addr}, PotAt H2 p m → H2 q = none → q ≠ p := fun {H2 m q} hp2 h z => by
      obtain ⟨_, _, _, h2, _⟩ := hp2.ex
      rw [z, h2] at h
      cases h
    refine ⟨_, rfl, _, rfl, ifF rfl (ifF rfl ?_)⟩
    refine ⟨_, rfl, _, rfl, p, n, l, _, rfl, hp.mono e1, by omega, hlp, SqL.of hl1, by simp, by decide, fun x H2 hx ht => ?_⟩
    have hhx : ∃ h : CM.How, x = .str (howS h) := by
      have e' : x = .str "down" ∨ x = .str "up" ∨ x = .str "near" ∨ x = .str "low" := by simpa using hx
      rcases e' with rfl | rfl | rfl | rfl
      · exact ⟨.down, rfl⟩
      · exact ⟨.up, rfl⟩
      · exact ⟨.near, rfl⟩
      · exact ⟨.low, rfl⟩
    obtain ⟨h1, rfl⟩ := hhx
    have ek2 : ExB p H H2 := (ExB.of e1).trans ht.k
    refine ⟨_, rfl, _, rfl, p, n + 1, 3, rfl, ht.p, by omega, by decide, by decide, fun d H3 hd0 hd1 ht3 => ?_⟩
    have ek3 := ek2.trans ht3.k
    refine ⟨rfl, _, rfl, ?_⟩
    by_cases hd : d = 0
    · subst hd
      refine ifT (decide_eq_true rfl) ⟨_, rfl, by show 2 ≤ sizeLine; decide, fun q hq => ?_⟩
      have hqp := hpot ht3.p hq
      exact k q _ (h1, h1) (hfr ek3 hq hqp) hqp (ek3.trans (ExB.of (Evl.Ex.new hq))) ((ht3.p.mono (Evl.Ex.new hq)).le (by omega)) upd_same
    · refine ifF (decide_eq_false fun z => hd (by injection z)) ?_
      have hl3 : H3 l = some (.lst [.str "down", .str "up", .str "near", .str "low"]) := (ht.k.trans ht3.k) _ _ hlp hl1
      refine ⟨_, rfl, _, rfl, p, n + 1 + 1, l, _, rfl, ht3.p, by omega, hlp, SqL.of hl3, by simp, by decide, fun x H4 hx ht4 => ?_⟩
      have hhx : ∃ h : CM.How, x = .str (howS h) := by
        have e' : x = .str "down" ∨ x = .str "up" ∨ x = .str "near" ∨ x = .str "low" := by simpa using hx
        rcases e' with rfl | rfl | rfl | rfl
        · exact ⟨.down, rfl⟩
        · exact ⟨.up, rfl⟩
        · exact ⟨.near, rfl⟩
        · exact ⟨.low, rfl⟩
      obtain ⟨h2, rfl⟩ := hhx
      have ek4 := ek3.trans ht4.k
      refine ⟨by show 2 ≤ sizeLine; decide, fun q hq => ?_⟩
      have hqp := hpot ht4.p hq
      exact k q _ (h1, h2) (hfr ek4 hq hqp) hqp (ek4.trans (ExB.of (Evl.Ex.new hq))) ((ht4.p.mono (Evl.Ex.new hq)).le (by omega)) upd_same
end
end CZ
set_option Elab.async false
set_option linter.all false
set_option maxRecDepth 100000
set_option maxHeartbeats 4000000
namespace CZ
open PySem PySem.Spec PyProof.Rows L2
/-! ### draws -/
theorem perm_erase {α : Type} : ∀ {l : List α} {k : Nat} {y : α}, l[k]? = some y → (y :: l.eraseIdx k).Perm l
  | [], k, y, h => by simp at h
  | x :: l, 0, y, h => by
    have e : x = y := by simpa using h
    rw [e]
    exact List.Perm.refl _
  | x :: l, k + 1, y, h => by
    have ih := perm_erase (l := l) (k := k) (y := y) (by simpa using h)
    show (y :: x :: l.eraseIdx k).Perm (x :: l)
    exact (List.Perm.swap x y _).trans (ih.cons x)
theorem seq_ix {d : Int} {n : Nat} (h0 : 0 ≤ d) (h1 : d < n) : seqIndex? d n = some d.toNat := by
  unfold seqIndex?
  simp only
  rw [if_neg (by omega : ¬ d < 0), if_pos (by rw [decide_eq_true h0, decide_eq_true h1]; rfl)]
theorem map_erase {α β : Type} (f : α → β) : ∀ (l : List α) (k : Nat), (l.map f).eraseIdx k = (l.eraseIdx k).map f
  | [], _ => rfl
  | _ :: _, 0 => rfl
  | x :: l, k + 1 => by
    show f x :: (l.map f).eraseIdx k = f x :: (l.eraseIdx k).map f
    rw [map_erase f l k]
def spSome (K : PySem.W.Frag) : Sp := fun vs H Q _ => ∃ (p : Addr) (n : Nat) (l : Addr) (k : Int), vs = [.ref p, .ref l, .int k] ∧ PotAt H p n ∧ n ≤ 50000 ∧ SqL K H l (poolS.map V.str) ∧ 1 ≤ k ∧ k ≤ 3 ∧
  ∀ q H' (zs : List Str), H q = none → ExB p H H' → PotAt H' p (n + 3) → q ≠ p → H' q = some (.lst (zs.map V.str)) → (zs.length : Int) = k → zs.Nodup → (∀ z ∈ zs, z ∈ poolS) → Q (.ref q) H'
/-- a via that is drawn -/
structure GVia (v : CM.Via) : Prop where
  sm : Sml v.n v.d
  n1 : 1 ≤ v.n
  dv : v.n ∣ 60
def spQVias (K : PySem.W.Frag) : Sp := fun vs H Q _ => ∃ (p : Addr) (n : Nat) (l : Addr) (ts : List Int), vs = [.ref p, .ref l] ∧ PotAt H p n ∧ n ≤ 40000 ∧ l ≠ p ∧ SqL K H l (ts.map V.int) ∧ ts ≠ [] ∧ ts.length ≤ 100 ∧ (∀ t ∈ ts, 1 ≤ t ∧ t ≤ 6) ∧
  ∀ q H' xs (as : List CM.Via), H q = none → ExB p H H' → PotAt H' p (n + 30) → q ≠ p → H' q = some (.lst xs) → Pw (ViaAt (hid p H')) xs as → as ≠ [] → as.length ≤ 3 → (∀ a ∈ as, GVia a) → Q (.ref q) H'
theorem gcd_fin : ∀ t : Fin 7, ∀ u : Fin 6, 1 ≤ t.val → 1 ≤ u.val → let g := Int.gcd (t.val : Int) (u.val : Int); (-9 ≤ (t.val : Int) / (g : Nat) ∧ (t.val : Int) / (g : Nat) ≤ 9) ∧ (1 ≤ (u.val : Int) / (g : Nat) ∧ (u.val : Int) / (g : Nat) ≤ 9) ∧ Int.gcd ((t.val : Int) / (g : Nat)) ((u.val : Int) / (g : Nat)) = 1 ∧ 1 ≤ (t.val : Int) / (g : Nat) ∧ (60 : Int) % ((t.val : Int) / (g : Nat)) = 0 := by decide +kernel
theorem gvia_of {t u : Int} (h1 : 1 ≤ t) (h2 : t ≤ 6) (h3 : 1 ≤ u) (h4 : u ≤ 5) (h : CM.How × CM.How) : GVia ⟨t / (Int.gcd t u : Nat), u / (Int.gcd t u : Nat), h⟩ := by
  obtain ⟨a, rfl⟩ := Int.eq_ofNat_of_zero_le (show 0 ≤ t by omega)
  obtain ⟨b, rfl⟩ := Int.eq_ofNat_of_zero_le (show 0 ≤ u by omega)
  have k := gcd_fin ⟨a, by omega⟩ ⟨b, by omega⟩ (by show 1 ≤ a; omega) (by show 1 ≤ b; omega)
  exact ⟨⟨k.1, k.2.1, k.2.2.1⟩, k.2.2.2.1, Int.dvd_of_emod_eq_zero k.2.2.2.2⟩
section
variable {P : Program} {w : World} {K : PySem.W.Frag} {mg : Str → Option Value} {base : Heap}
theorem r_q_some (Z : Zed K mg base) : Rn P w K mg base 2 (a_q_some K) (spSome K) := by
  have R_q_take := r_q_take (P := P) (w := w) Z
  refine rn_of (u_q_some Z) sco_q_some (fun _ _ _ _ _ _ us hl => match us, hl with | [_, _, _], _ => rfl) (fun vs H Q E h => ?_) (fun cdv A outer s H vs Q E hr h => ?_)
  · obtain ⟨p, n, l, k, rfl, _⟩ := h
    rfl
  · refine ⟨_, (pss_cons (ps_par (i := 3) (j := 4) rfl sco_q_some.nd rfl rfl (by decide) rfl rfl (pa_cons (pe_callTy call_list_of (by rfl) (f_list Z) (by decide +kernel) (pa_cons (pv 1) pa_nil)) (pa_cons (pe_lst pa_nil) pa_nil)) (by rfl))
      (pss_cons (ps_for PassesOwn.never rfl (pi_range1 (by rfl) (f_range Z) (pa_cons (pv 2) pa_nil)) (pg_name (i := 5) sco_q_some.nd rfl (Or.inl rfl))
        (pss_one (ps_expr (pe_bm PySem.F.plainAttrs_list PySem.F.slot_list_append PySem.F.type_list_append mt_append (pv 4) (pa_cons (pe_bm PySem.F.plainAttrs_list PySem.F.slot_list_pop PySem.F.type_list_pop mt_popAt (pv 3) (pa_cons (pe_r R_q_take (g_q_take Z) hr (by rfl) (pa_cons (pv 0) (pa_cons (pe_callB (call_len_seqK K) (by rfl) (f_len Z) (by decide +kernel) (pa_cons (pv 3) pa_nil)) pa_nil))) pa_nil)) pa_nil)))))
      (pss_one (ps_ret (pv 4))))), ?_⟩
    obtain ⟨p, n, l, k, rfl, hp, hn, hl, hk0, hk1, kk⟩ := h
    have hpn : H p ≠ none := by obtain ⟨_, _, _, h, _⟩ := hp.ex; rw [h]; exact fun z => nomatch z
    refine ⟨_, rfl, l, _, rfl, .inl hl, fun a1 ha1 => ?_⟩
    refine ⟨by decide, fun a2 ha2 => ?_⟩
    have e1 : Ex H (upd H a1 (.lst (poolS.map V.str))) := Evl.Ex.new ha1
    have e2 := e1.trans (Evl.Ex.new (o := .lst []) ha2)
    have n12 : a1 ≠ a2 := fun z => by rw [← z, upd_same] at ha2; cases ha2
    have ha20 : H a2 = none := Evl.fresh_back e1 ha2
    have n1p : a1 ≠ p := fun z => hpn (by rw [← z]; exact ha1)
    have n2p : a2 ≠ p := fun z => hpn (by rw [← z]; exact ha20)
    refine ⟨_, _, rfl, _, rfl, k, rfl, by omega, by omega, for_range (lo := 0) (n := k.toNat) (fun i σ H' => ∃ (o : Option V) (zs ls : List Str), σ = [some (.ref p), some (.ref l), some (.int k), some (.ref a1), some (.ref a2), o] ∧ Keep [p, a1, a2] H H' ∧ PotAt H' p (n + i) ∧ H' a1 = some (.lst (ls.map V.str)) ∧ H' a2 = some (.lst (zs.map V.str)) ∧ zs.length = i ∧ (zs ++ ls).Perm poolS) ?_ (fun i σ H1 hi hv => ?_) (fun σ H1 hv => ?_)⟩
    · exact ⟨_, [], poolS, rfl, Keep.of e2, hp.mono e2, by rw [upd_ne n12, upd_same], upd_same, rfl, List.Perm.refl _⟩
    · obtain ⟨o, zs, ls, rfl, k1, hp1, h1, h2, hz, hpm⟩ := hv
      have hlen : zs.length + ls.length = 12 := by
        have := hpm.length_eq
        rw [List.length_append] at this
        exact this
      refine ⟨_, rfl, .inl ⟨rfl, _, SqL.of h2⟩, _, rfl, .inl ⟨rfl, _, SqL.of h1⟩, _, rfl, _, rfl, a1, _, rfl, .inl (SqL.of h1), p, n + i, _, rfl, hp1, by omega, by rw [List.length_map]; omega, by rw [List.length_map]; omega, fun d H2 hd0 hd1 ht => ?_⟩
      rw [List.length_map] at hd1
      have hdl : d.toNat < ls.length := by omega
      have h1' := ht.k _ _ n1p h1
      have h2' := ht.k _ _ n2p h2
      refine ⟨a1, _, d, d.toNat, .str (ls[d.toNat]), rfl, rfl, h1', by omega, by omega, by rw [List.length_map]; exact seq_ix hd0 hd1, by rw [List.getElem?_map, List.getElem?_eq_getElem hdl]; rfl, ?_⟩
      have h2'' : (upd H2 a1 (.lst ((ls.map V.str).eraseIdx d.toNat))) a2 = some (.lst (zs.map V.str)) := by rw [upd_ne (Ne.symm n12)]; exact h2'
      refine ⟨a2, _, _, rfl, rfl, h2'', Evl.sz_lt (by rw [List.length_map]; omega), ?_⟩
      refine ⟨_, zs ++ [ls[d.toNat]], ls.eraseIdx d.toNat, rfl, ?_, ?_, ?_, ?_, by rw [List.length_append, hz]; rfl, ?_⟩
      · refine k1.trans (((Keep.upd (l := [p, a1, a2]) (H := H1) (H' := H2) ?_ (by simp)).upd (by simp)))
        intro a o hn ha
        exact ht.k a o (fun z => hn (by rw [z]; simp)) ha
      · obtain ⟨x, c, kk2, h3, h4⟩ := ht.p.ex
        exact ⟨x, c, kk2, by rw [upd_ne (Ne.symm n2p), upd_ne (Ne.symm n1p)]; exact h3, h4.1, h4.2.1, h4.2.2.1, by have := h4.2.2.2; omega⟩
      · rw [upd_ne n12, upd_same, map_erase]
      · rw [upd_same, List.map_append]
        rfl
      · rw [List.append_assoc]
        exact (List.Perm.append_left zs (perm_erase (List.getElem?_eq_getElem hdl))).trans hpm
    · obtain ⟨o, zs, ls, rfl, k1, hp1, h1, h2, hz, hpm⟩ := hv
      have hnd : (zs ++ ls).Nodup := hpm.nodup_iff.mpr (by decide +kernel)
      refine ⟨_, rfl, kk a2 H1 zs ha20 ?_ (hp1.le (by omega)) n2p h2 (by omega) (List.nodup_append.mp hnd).1 fun z hzm => hpm.mem_iff.mp (List.mem_append_left _ hzm)⟩
      intro a o hne ha
      exact k1 a o (fun z => by
        have e' : a = p ∨ a = a1 ∨ a = a2 := by simpa using z
        rcases e' with e | e | e
        · exact hne e
        · rw [e, ha1] at ha; cases ha
        · rw [e, ha20] at ha; cases ha) ha
theorem r_q_vias (Z : Zed K mg base) : Rn P w K mg base 4 (a_q_vias K) (spQVias K) := by
  have R_q_take := r_q_take (P := P) (w := w) Z
  have R_q_of := r_q_of (P := P) (w := w) Z
  have R_q_least_terms := r_q_least_terms (P := P) (w := w) Z
  have R_q_hows := r_q_hows (P := P) (w := w) Z
  refine rn_of (u_q_vias Z) sco_q_vias (fun _ _ _ _ _ _ us hl => match us, hl with | [_, _], _ => rfl) (fun vs H Q E h => ?_) (fun cdv A outer s H vs Q E hr h => ?_)
  · obtain ⟨p, n, l, ts, rfl, _⟩ := h
    rfl
  · refine ⟨_, (pss_cons (ps_set (i := 2) sco_q_vias.nd rfl (Or.inl rfl) (pe_lst pa_nil))
      (pss_cons (ps_for PassesOwn.never rfl (pi_range1 (by rfl) (f_range Z) (pa_cons (pe_r R_q_of (g_q_of Z) hr (by rfl) (pa_cons (pv 0) (pa_cons (pe_lst (pa_cons pe_int (pa_cons pe_int (pa_cons pe_int (pa_cons pe_int pa_nil))))) pa_nil))) pa_nil)) (pg_name (i := 3) sco_q_vias.nd rfl (Or.inl rfl))
        (pss_cons (ps_set (i := 4) sco_q_vias.nd rfl (Or.inl rfl) (pe_r R_q_least_terms (g_q_least_terms Z) hr (by rfl) (pa_cons (pe_r R_q_of (g_q_of Z) hr (by rfl) (pa_cons (pv 0) (pa_cons (pv 1) pa_nil))) (pa_cons (pe_op op_add pe_int (pe_r R_q_take (g_q_take Z) hr (by rfl) (pa_cons (pv 0) (pa_cons pe_int pa_nil)))) pa_nil))))
        (pss_one (ps_expr (pe_bm PySem.F.plainAttrs_list PySem.F.slot_list_append PySem.F.type_list_append mt_append (pv 2) (pa_cons (pe_op (op_catTK K) (pe_tup (pa_cons (pv 4) pa_nil)) (pe_r R_q_hows (g_q_hows Z) hr (by rfl) (pa_cons (pv 0) (pa_cons pe_bl pa_nil)))) pa_nil))))))
      (pss_one (ps_ret (pv 2))))), ?_⟩
    obtain ⟨p, n, l, ts, rfl, hp, hn, hlp, hl, hts, htl, htb, kk⟩ := h
    have hpn : H p ≠ none := by obtain ⟨_, _, _, h, _⟩ := hp.ex; rw [h]; exact fun z => nomatch z
    refine ⟨by decide, fun f hf => ?_⟩
    have e1 : Ex H (upd H f (.lst [])) := Evl.Ex.new hf
    have nfp : f ≠ p := fun z => hpn (by rw [← z]; exact hf)
    refine ⟨_, rfl, by show 4 ≤ sizeLine; decide, fun l4 hl4 => ?_⟩
    have e2 := e1.trans (Evl.Ex.new (o := .lst [.int 1, .int 1, .int 2, .int 3]) hl4)
    have nl4p : l4 ≠ p := fun z => hpn (by rw [← z]; exact Evl.fresh_back e1 hl4)
    have hf2 : (upd (upd H f (.lst [])) l4 (.lst [.int 1, .int 1, .int 2, .int 3])) f = some (.lst []) := by rw [upd_ne (fun z => by rw [← z, upd_same] at hl4; cases hl4), upd_same]
    refine ⟨p, n, l4, _, rfl, hp.mono e2, by omega, nl4p, SqL.of upd_same, by simp, by decide, fun x H2 hx ht => ?_⟩
    obtain ⟨c, rfl, hc0, hc1⟩ : ∃ c : Int, x = .int c ∧ 1 ≤ c ∧ c ≤ 3 := by
      have e' : x = .int 1 ∨ x = .int 2 ∨ x = .int 3 := by simpa using hx
      rcases e' with rfl | rfl | rfl
      · exact ⟨1, rfl, by decide, by decide⟩
      · exact ⟨2, rfl, by decide, by decide⟩
      · exact ⟨3, rfl, by decide, by decide⟩
    have k2 : Keep [p, f] H H2 := fun a o hna ha => ht.k a o (fun z => hna (by rw [z]; simp)) (e2 _ _ ha)
    refine ⟨c, rfl, by omega, by omega, for_range (lo := 0) (n := c.toNat) (fun i σ H' => ∃ (o1 o2 : Option V) (xs : List V) (as : List CM.Via), σ = [some (.ref p), some (.ref l), some (.ref f), o1, o2] ∧ Keep [p, f] H H' ∧ PotAt H' p (n + 1 + 5 * i) ∧ H' f = some (.lst xs) ∧ Pw (ViaAt (off [p, f] H')) xs as ∧ as.length = i ∧ ∀ a ∈ as, GVia a) ⟨_, _, [], [], rfl, k2, ht.p, ht.k _ _ nfp hf2, Pw.nil, rfl, fun _ z => nomatch z⟩ (fun i σ H3 hi hv => ?_) (fun σ H3 hv => ?_)⟩
    · obtain ⟨o1, o2, xs, as, rfl, k3, hp3, hf3, hpw, hal, hga⟩ := hv
      have hne0 : ∀ {q : Addr} {H4 : Hp} {m : Nat}, PotAt H4 p m → H4 q = none → q ≠ p := fun {q H4 m} h1 h2 z => by
        obtain ⟨_, _, _, h3, _⟩ := h1.ex
        rw [z, h3] at h2; cases h2
      have nlf : l ≠ f ∨ SqL K H3 l (ts.map V.int) := .inr (by
        rcases hl with (h | ⟨o, h⟩) | h
        · exact .inl (.inl (k3 _ _ (by simp; exact ⟨hlp, ne_of_none h hf⟩) h))
        · exact .inl (.inr ⟨o, k3 _ _ (by simp; exact ⟨hlp, ne_of_none h hf⟩) h⟩)
        · exact .inr h)
      have hl3 : SqL K H3 l (ts.map V.int) := nlf.elim (fun _ => by
        rcases hl with (h | ⟨o, h⟩) | h
        · exact .inl (.inl (k3 _ _ (by simp; exact ⟨hlp, ne_of_none h hf⟩) h))
        · exact .inl (.inr ⟨o, k3 _ _ (by simp; exact ⟨hlp, ne_of_none h hf⟩) h⟩)
        · exact .inr h) id
      refine ⟨_, rfl, _, rfl, p, n + 1 + 5 * i, l, _, rfl, hp3, by omega, hlp, hl3, by simpa using hts, by rw [List.length_map]; omega, fun x H4 hx ht4 => ?_⟩
      obtain ⟨t, htm, rfl⟩ := List.mem_map.mp hx
      obtain ⟨ht1, ht6⟩ := htb t htm
      refine ⟨_, rfl, p, _, 5, rfl, ht4.p, by omega, by decide, by decide, fun u H5 hu0 hu1 ht5 => ?_⟩
      refine ⟨_, _, rfl, rfl, ?_⟩
      refine ⟨t, 1 + u, rfl, by omega, by omega, by omega, by omega, fun q H6 hq e6 hq6 => ?_⟩
      have hqp := hne0 ht5.p hq
      refine ⟨_, rfl, .inl ⟨rfl, _, SqL.of (e6 _ _ (ht5.k _ _ nfp (ht4.k _ _ nfp hf3)))⟩, ?_⟩
      refine ⟨_, rfl, by show 1 ≤ sizeLine; decide, fun r hr2 => ?_⟩
      have e7 := Evl.Ex.new (o := .tup [.ref q]) hr2
      have hpot6 := (ht5.p.mono e6).mono e7
      have hrp := hne0 (ht5.p.mono e6) hr2
      refine ⟨_, rfl, p, _, rfl, hpot6, by omega, fun hq2 H8 h hh2 hh2p ek8 hp8 hh8 => ?_⟩
      have hr8 := ek8 _ _ hrp (show (upd H6 r (.tup [.ref q])) r = some (.tup [.ref q]) from upd_same)
      refine ⟨r, hq2, _, _, rfl, rfl, SqT.of hr8, SqT.of hh8, by simp, by show 3 ≤ sizeLine; decide, fun z => (nomatch z), fun _ T hT => ?_⟩
      have e9 : Ex H8 (upd H8 T (.tup ([.ref q] ++ [.str (howS h.1), .str (howS h.2)]))) := Evl.Ex.new hT
      have hTp := hne0 hp8 hT
      have ek38 : ExB p H3 H8 := ((ht4.k.trans ht5.k).trans (ExB.of (e6.trans e7))).trans ek8
      have ek39 := ek38.trans (ExB.of e9)
      have hf9 := ek39 _ _ nfp hf3
      have hq9 := (ek8.trans (ExB.of e9)) _ _ hqp (e7 _ _ hq6)
      have hfT : T ≠ f := fun z => by rw [z, ek38 _ _ nfp hf3] at hT; cases hT
      have hfq : q ≠ f := fun z => by rw [z, (ht4.k.trans ht5.k) _ _ nfp hf3] at hq; cases hq
      refine ⟨f, _, _, rfl, rfl, hf9, Evl.sz_lt (by rw [hpw.1]; omega), ?_⟩
      have kF : Keep [p, f] H3 (upd (upd H8 T (.tup ([.ref q] ++ [.str (howS h.1), .str (howS h.2)]))) f (.lst (xs ++ [.ref T]))) := Keep.upd (fun a o hna ha => ek39 a o (fun z => hna (by rw [z]; simp)) ha) (by simp)
      refine ⟨_, _, xs ++ [.ref T], as ++ [⟨t / (Int.gcd t (1 + u) : Nat), (1 + u) / (Int.gcd t (1 + u) : Nat), h⟩], rfl, k3.trans kF, ?_, upd_same, ?_, by rw [List.length_append, hal]; rfl, ?_⟩
      · obtain ⟨x1, x2, x3, h3, h4⟩ := (hp8.mono e9).ex
        exact ⟨x1, x2, x3, by rw [upd_ne (Ne.symm nfp)]; exact h3, h4.1, h4.2.1, h4.2.2.1, by have := h4.2.2.2; omega⟩
      · refine (hpw.mono fun _ _ z => z.mono kF.off).snoc ⟨T, q, rfl, ?_, ?_⟩
        · rw [off_out (by simp; exact ⟨hTp, hfT⟩), upd_ne hfT, upd_same]
          rfl
        · rw [off_out (by simp; exact ⟨hqp, hfq⟩), upd_ne hfq]
          exact hq9
      · intro a ha
        rcases List.mem_append.mp ha with h1 | h1
        · exact hga a h1
        · rw [List.mem_singleton.mp h1]
          exact gvia_of ht1 ht6 (by omega) (by omega) h
    · obtain ⟨o1, o2, xs, as, rfl, k3, hp3, hf3, hpw, hal, hga⟩ := hv
      refine ⟨_, rfl, kk f H3 xs as hf ?_ (hp3.le (by omega)) nfp hf3 (hpw.mono fun _ _ z => z.mono fun a o h => ?_) (fun z => by rw [z] at hal; simp at hal; omega) (by omega) hga⟩
      · intro a o hne ha
        exact k3 a o (by simp; exact ⟨hne, ne_of_none ha hf⟩) ha
      · have hna : a ∉ [p, f] := fun z => by rw [off_in z] at h; cases h
        rw [off_out hna] at h
        rw [hid_ne (fun z => hna (by rw [z]; simp))]
        exact h
end
end CZ
set_option Elab.async false
set_option linter.all false
set_option maxRecDepth 100000
set_option maxHeartbeats 4000000
namespace CZ
open PySem PySem.Spec PyProof.Rows L2
/-! ### what the law knows of a studio -/
structure LPrg (H : Hp) (v : V) (p : CM.Prg) : Prop where
  ex : ∃ t q l bk xs, v = .ref t ∧ H t = some (.tup [.str (nmS p), .ref q, .ref l, .ref bk]) ∧ H q = some (.tup [.int p.bn, .int p.bd]) ∧ H l = some (.lst xs) ∧ Pw (ViaAt H) xs p.vias ∧ H bk = some (.tup [.str (howS p.back.1), .str (howS p.back.2)])
theorem LPrg.mono {H H' : Hp} {v : V} {p : CM.Prg} (h : LPrg H v p) (e : Ex H H') : LPrg H' v p := let ⟨t, q, l, bk, xs, h1, h2, h3, h4, h5, h6⟩ := h.ex; ⟨t, q, l, bk, xs, h1, e _ _ h2, e _ _ h3, e _ _ h4, h5.mono fun _ _ z => z.mono e, e _ _ h6⟩
structure LoreAt (H : Hp) (v : V) (lo : Lo) : Prop where
  ex : ∃ a l xs, v = .ref a ∧ H a = some (.dK [(keyS "trim", .int lo.trim), (keyS "programs", .ref l)]) ∧ H l = some (.lst xs) ∧ Pw (LPrg H) xs lo.ps
theorem LoreAt.mono {H H' : Hp} {v : V} {lo : Lo} (h : LoreAt H v lo) (e : Ex H H') : LoreAt H' v lo := let ⟨a, l, xs, h1, h2, h3, h4⟩ := h.ex; ⟨a, l, xs, h1, e _ _ h2, e _ _ h3, h4.mono fun _ _ z => z.mono e⟩
/-- a program that is drawn -/
structure GPrg (p : CM.Prg) : Prop where
  nm : nmS p ∈ poolS
  sb : Sml p.bn p.bd
  vn : p.vias ≠ [] ∧ p.vias.length ≤ 3
  vs : ∀ v ∈ p.vias, GVia v
structure GLo (lo : Lo) : Prop where
  ne : lo.ps ≠ []
  len : lo.ps.length ≤ 3
  g : ∀ p ∈ lo.ps, GPrg p
  nd : (lo.ps.map nmS).Nodup
  trim : lo.trim ≤ 9
theorem merge2 {k1 k2 : Key} {v1 v2 : V} (h : k1 ≠ k2) : mergeK [] [(k1, v1), (k2, v2)] = [(k1, v1), (k2, v2)] := by
  simp [mergeK, putK, h]
theorem ViaAt.offL {H : Hp} {p l : Addr} {xs : List V} (hl : H l = some (.lst xs)) {v : V} {a : CM.Via} (h : ViaAt (hid p H) v a) : ViaAt (off [p, l] H) v a := by
  obtain ⟨⟨t, q, h1, h2, h3⟩⟩ := h
  have key : ∀ x ys, hid p H x = some (.tup ys) → off [p, l] H x = some (.tup ys) := fun x ys hx => by
    have hx1 := hid_ex _ _ hx
    have hxp : x ≠ p := fun z => by rw [z, hid_at] at hx; cases hx
    have hxl : x ≠ l := fun z => by rw [z, hl] at hx1; cases hx1
    rw [off_out (by simp; exact ⟨hxp, hxl⟩)]
    exact hx1
  exact ⟨⟨t, q, h1, key _ _ h2, key _ _ h3⟩⟩
theorem gcd_bg : ∀ t : Fin 13, ∀ u : Fin 4, let g := Int.gcd ((t.val : Int) - 6) (1 + (u.val : Int)); (-9 ≤ ((t.val : Int) - 6) / (g : Nat) ∧ ((t.val : Int) - 6) / (g : Nat) ≤ 9) ∧ (1 ≤ (1 + (u.val : Int)) / (g : Nat) ∧ (1 + (u.val : Int)) / (g : Nat) ≤ 9) ∧ Int.gcd (((t.val : Int) - 6) / (g : Nat)) ((1 + (u.val : Int)) / (g : Nat)) = 1 := by decide +kernel
theorem sml_bg {t u : Int} (h1 : 0 ≤ t) (h2 : t < 13) (h3 : 0 ≤ u) (h4 : u < 4) : Sml ((t - 6) / (Int.gcd (t - 6) (1 + u) : Nat)) ((1 + u) / (Int.gcd (t - 6) (1 + u) : Nat)) := by
  obtain ⟨a, rfl⟩ := Int.eq_ofNat_of_zero_le h1
  obtain ⟨b, rfl⟩ := Int.eq_ofNat_of_zero_le h3
  have k := gcd_bg ⟨a, by omega⟩ ⟨b, by omega⟩
  exact ⟨k.1, k.2.1, k.2.2⟩
theorem sml01 : Sml 0 1 := ⟨by decide, by decide, by decide⟩
/-- a list of strings as a list of names -/
def unS (s : Str) : List Nat := s.cps.toList
theorem nmS_un (s : Str) (bn bd : Int) (vs : List CM.Via) (b : CM.How × CM.How) : nmS ⟨unS s, bn, bd, vs, b⟩ = s := by
  cases s
  unfold nmS unS
  simp
def spLore (K : PySem.W.Frag) : Sp := fun vs H Q _ => ∃ (p : Addr) (n : Nat) (l : Addr) (ts : List Int), vs = [.ref p, .int 3, .ref l, .bl true] ∧ PotAt H p n ∧ n ≤ 30000 ∧ l ≠ p ∧ SqL K H l (ts.map V.int) ∧ ts ≠ [] ∧ ts.length ≤ 100 ∧ (∀ t ∈ ts, 1 ≤ t ∧ t ≤ 6) ∧
  ∀ v H' lo, ExB p H H' → PotAt H' p (n + 150) → LoreAt (hid p H') v lo → GLo lo → Q v H'
section
variable {P : Program} {w : World} {K : PySem.W.Frag} {mg : Str → Option Value} {base : Heap}
theorem r_q_lore (Z : Zed K mg base) : Rn P w K mg base 5 (a_q_lore K) (spLore K) := by
  have R_q_take := r_q_take (P := P) (w := w) Z
  have R_q_of := r_q_of (P := P) (w := w) Z
  have R_q_names := r_q_names (P := P) (w := w) Z
  have R_q_some := r_q_some (P := P) (w := w) Z
  have R_q_least_terms := r_q_least_terms (P := P) (w := w) Z
  have R_q_vias := r_q_vias (P := P) (w := w) Z
  have R_q_hows := r_q_hows (P := P) (w := w) Z
  refine rn_of (u_q_lore Z) sco_q_lore (fun _ _ _ _ _ _ us hl => match us, hl with | [_, _, _, _], _ => rfl) (fun vs H Q E h => ?_) (fun cdv A outer s H vs Q E hr h => ?_)
  · obtain ⟨p, n, l, ts, rfl, _⟩ := h
    rfl
  · refine ⟨_, (pss_cons (ps_set (i := 4) sco_q_lore.nd rfl (Or.inl rfl) (pe_disp (pps_cons pe_str (pe_ifExp (pt_val (pv 3)) (pe_r R_q_of (g_q_of Z) hr (by rfl) (pa_cons (pv 0) (pa_cons (pe_lst (pa_cons pe_int (pa_cons pe_int (pa_cons pe_int (pa_cons pe_int pa_nil))))) pa_nil))) pe_non) (pps_cons pe_str (pe_lst pa_nil) pps_nil)) (by rfl) (by rfl) (fun z => by cases z) (by decide)))
      (pss_cons (ps_for PassesOwn.never rfl (pi_listK K (pe_r R_q_some (g_q_some Z) hr (by rfl) (pa_cons (pv 0) (pa_cons (pe_r0 R_q_names (g_q_names Z) hr (by rfl)) (pa_cons (pe_op op_add pe_int (pe_r R_q_take (g_q_take Z) hr (by rfl) (pa_cons (pv 0) (pa_cons (pv 1) pa_nil)))) pa_nil))))) (pg_name (i := 5) sco_q_lore.nd rfl (Or.inl rfl))
        (pss_cons (ps_set (i := 6) sco_q_lore.nd rfl (Or.inl rfl) (pe_tup (pa_cons pe_int (pa_cons pe_int pa_nil))))
        (pss_cons (ps_if (pt_cmpR op_gt (pe_r R_q_take (g_q_take Z) hr (by rfl) (pa_cons (pv 0) (pa_cons pe_int pa_nil))) pe_int (nomark _))
          (pss_one (ps_set (i := 6) sco_q_lore.nd rfl (Or.inl rfl) (pe_r R_q_least_terms (g_q_least_terms Z) hr (by rfl) (pa_cons (pe_op op_sub (pe_r R_q_take (g_q_take Z) hr (by rfl) (pa_cons (pv 0) (pa_cons pe_int pa_nil))) pe_int) (pa_cons (pe_op op_add pe_int (pe_r R_q_take (g_q_take Z) hr (by rfl) (pa_cons (pv 0) (pa_cons pe_int pa_nil)))) pa_nil)))))
          pss_nil)
        (pss_cons (ps_set (i := 7) sco_q_lore.nd rfl (Or.inl rfl) (pe_r R_q_vias (g_q_vias Z) hr (by rfl) (pa_cons (pv 0) (pa_cons (pv 2) pa_nil))))
        (pss_one (ps_expr (pe_bm PySem.F.plainAttrs_list PySem.F.slot_list_append PySem.F.type_list_append mt_append (pe_dget (hu_of hr) (pv 4) pe_str (fun _ _ => rfl)) (pa_cons (pe_tup (pa_cons (pv 5) (pa_cons (pv 6) (pa_cons (pv 7) (pa_cons (pe_r R_q_hows (g_q_hows Z) hr (by rfl) (pa_cons (pv 0) (pa_cons pe_bl pa_nil))) pa_nil))))) pa_nil))))))))
      (pss_one (ps_ret (pv 4))))), ?_⟩
    obtain ⟨p, n, l, ts, rfl, hp, hn, hlp, hl, hts, htl, htb, kk⟩ := h
    have hpn : H p ≠ none := by obtain ⟨_, _, _, h, _⟩ := hp.ex; rw [h]; exact fun z => nomatch z
    have hne0 : ∀ {q : Addr} {H4 : Hp} {m : Nat}, PotAt H4 p m → H4 q = none → q ≠ p := fun {q H4 m} h1 h2 z => by
        obtain ⟨_, _, _, h3, _⟩ := h1.ex
        rw [z, h3] at h2; cases h2
    refine fun D hD => ?_
    have nDp : D ≠ p := fun z => hpn (by rw [← z]; exact hD)
    have eD : Ex H (upd H D (.dK [])) := Evl.Ex.new hD
    refine ⟨_, rfl, _, rfl, ifT rfl ⟨_, rfl, by show 4 ≤ sizeLine; decide, fun l4 hl4 => ?_⟩⟩
    have e2 := eD.trans (Evl.Ex.new (o := .lst [.int 0, .int 1, .int 2, .int 5]) hl4)
    have hpD := hp.mono e2
    have nl4p : l4 ≠ p := hne0 (hp.mono eD) hl4
    have n4D : D ≠ l4 := fun z => by rw [← z, upd_same] at hl4; cases hl4
    refine ⟨p, n, l4, _, rfl, hpD, by omega, nl4p, SqL.of upd_same, by simp, by decide, fun x H2 hx ht => ?_⟩
    obtain ⟨tr, rfl, htr⟩ : ∃ c : Nat, x = .int c ∧ c ≤ 9 := by
      have e' : x = .int 0 ∨ x = .int 1 ∨ x = .int 2 ∨ x = .int 5 := by simpa using hx
      rcases e' with rfl | rfl | rfl | rfl
      · exact ⟨0, rfl, by decide⟩
      · exact ⟨1, rfl, by decide⟩
      · exact ⟨2, rfl, by decide⟩
      · exact ⟨5, rfl, by decide⟩
    have hD2 : H2 D = some (.dK []) := ht.k _ _ nDp (by rw [upd_ne n4D]; exact upd_same)
    refine ⟨by decide, fun PL hPL => ?_⟩
    have nPLp : PL ≠ p := hne0 ht.p hPL
    have nDP : D ≠ PL := fun z => by rw [← z, hD2] at hPL; cases hPL
    refine ⟨by rw [upd_ne nDP]; exact hD2, [(keyS "trim", .int tr), (keyS "programs", .ref PL)], rfl, by show 2 ≤ 15; decide, ?_⟩
    rw [merge2 (by decide +kernel)]
    have hHD : ExB p H (upd (upd H2 PL (.lst [])) D (.dK [(keyS "trim", .int tr), (keyS "programs", .ref PL)])) := by
      intro a o hne ha
      have haD : a ≠ D := ne_of_none ha hD
      rw [upd_ne haD]
      exact (((ExB.of e2).trans ht.k).trans (ExB.of (Evl.Ex.new hPL))) _ _ hne ha
    have hp2 : PotAt (upd (upd H2 PL (.lst [])) D (.dK [(keyS "trim", .int tr), (keyS "programs", .ref PL)])) p (n + 1) := by
      obtain ⟨x1, x2, x3, h3, h4⟩ := ht.p.ex
      exact ⟨x1, x2, x3, by rw [upd_ne (Ne.symm nDp), upd_ne (Ne.symm nPLp)]; exact h3, h4⟩
    have hDD : (upd (upd H2 PL (.lst [])) D (.dK [(keyS "trim", .int tr), (keyS "programs", .ref PL)])) D = some (.dK [(keyS "trim", .int tr), (keyS "programs", .ref PL)]) := upd_same
    have hPP : (upd (upd H2 PL (.lst [])) D (.dK [(keyS "trim", .int tr), (keyS "programs", .ref PL)])) PL = some (.lst []) := by rw [upd_ne (Ne.symm nDP), upd_same]
    have hPL0 : H PL = none := by
      cases hq : H PL with
      | none => rfl
      | some o => rw [((ExB.of e2).trans ht.k) _ _ nPLp hq] at hPL; cases hPL
    generalize upd (upd H2 PL (.lst [])) D (.dK [(keyS "trim", .int tr), (keyS "programs", .ref PL)]) = H3 at *
    refine ⟨_, rfl, rfl, fun nl H4 hnl e4 hnl4 => ?_⟩
    have nlp : nl ≠ p := hne0 hp2 hnl
    have hl4' : SqL K H4 nl (poolS.map V.str) := SqL.of hnl4
    refine ⟨_, rfl, _, rfl, p, n + 1, 3, rfl, hp2.mono e4, by omega, by decide, by decide, fun d H5 hd0 hd1 ht5 => ?_⟩
    refine ⟨_, _, rfl, rfl, ?_⟩
    refine ⟨p, n + 1 + 1, nl, 1 + d, rfl, ht5.p, by omega, SqL.exb hl4' ht5.k nlp, by omega, by omega, fun zl H6 zs hzl e6 hp6 hzlp hzl6 hzn hznd hzm => ?_⟩
    have k36 : ExB p H3 H6 := ((ExB.of e4).trans ht5.k).trans e6
    have hD6 := k36 _ _ nDp hDD
    have hPL6 := k36 _ _ nPLp hPP
    have nPz : PL ≠ zl := fun z => by
      have h5 : H5 PL = some (.lst []) := ((ExB.of e4).trans ht5.k) _ _ nPLp hPP
      rw [z, hzl] at h5; cases h5
    refine ⟨zl, rfl, ⟨_, SqL.of hzl6⟩, for_it (walk_list (xs := zs.map V.str)) (fun i σ H' => ∃ (o1 o2 o3 : Option V) (xs : List V) (ps : List CM.Prg), σ = [some (.ref p), some (.int 3), some (.ref l), some (.bl true), some (.ref D), o1, o2, o3] ∧ Keep [p, PL] H6 H' ∧ PotAt H' p (n + 6 + 40 * i) ∧ H' PL = some (.lst xs) ∧ Pw (LPrg (off [p, PL] H')) xs ps ∧ ps.map nmS = zs.take i ∧ ∀ g ∈ ps, GPrg g) ⟨_, _, _, [], [], rfl, Keep.of (Evl.Ex.refl _), hp6.le (by omega), hPL6, Pw.nil, rfl, fun _ z => (nomatch z)⟩ (fun i σ H' _ hv => ?_) (fun i x σ Hx H7 hi hv hy => ?_) (fun σ H' hv => ?_)⟩
    · obtain ⟨o1, o2, o3, xs, ps, rfl, k7, _⟩ := hv
      exact SqL.of (k7 _ _ (by simp; exact ⟨hzlp, Ne.symm nPz⟩) hzl6)
    · have hi3 : i < 3 := by
        have := hi
        rw [List.length_map] at this
        omega
      obtain ⟨o1, o2, o3, xs, ps, rfl, k7, hp7, hPL7, hpw7, hnm7, hg7⟩ := hv
      obtain ⟨rfl, hx⟩ := hy
      obtain ⟨z, hz, rfl⟩ : ∃ z, zs[i]? = some z ∧ x = V.str z := by
        rw [List.getElem?_map] at hx
        cases h : zs[i]? with
        | none => rw [h] at hx; cases hx
        | some z => rw [h] at hx; injection hx with hx; exact ⟨z, rfl, hx.symm⟩
      refine ⟨by show 2 ≤ sizeLine; decide, fun q hq => ?_⟩
      have eq := Evl.Ex.new (o := .tup [.int 0, .int 1]) hq
      have hqp := hne0 hp7 hq
      have hq1 : (upd H7 q (.tup [.int 0, .int 1])) q = some (.tup [.int 0, .int 1]) := upd_same
      refine ⟨_, rfl, p, _, 2, rfl, hp7.mono eq, by omega, by decide, by decide, fun d1 H9 hd10 hd11 ht9 => ?_⟩
      have k79 : ExB p H7 H9 := (ExB.of eq).trans ht9.k
      refine ⟨_, _, rfl, rfl, ?_⟩
      refine ⟨_, rfl, ?_⟩
      by_cases hd : 0 < d1
      refine ifT (decide_eq_true hd) ?_
      refine ⟨_, rfl, p, _, 13, rfl, ht9.p, by omega, by decide, by decide, fun d2 H10 hd20 hd21 ht10 => ?_⟩
      refine ⟨_, _, rfl, rfl, ?_⟩
      refine ⟨_, rfl, p, _, 4, rfl, ht10.p, by omega, by decide, by decide, fun d3 H11 hd30 hd31 ht11 => ?_⟩
      refine ⟨_, _, rfl, rfl, ?_⟩
      refine ⟨d2 - 6, 1 + d3, rfl, by omega, by omega, by omega, by omega, fun qb HB hqb eB hqB => ?_⟩
      have hqbp : qb ≠ p := hne0 ht11.p hqb
      have kB : ExB p H7 HB := ((k79.trans ht10.k).trans ht11.k).trans (ExB.of eB)
      have hpB : PotAt HB p (n + 6 + 40 * i + 3) := ht11.p.mono eB
      have hS := sml_bg hd20 hd21 hd30 hd31
      have hqb7 : H7 qb = none := by
        cases hq : H7 qb with
        | none => rfl
        | some o => rw [((k79.trans ht10.k).trans ht11.k) _ _ hqbp hq] at hqb; cases hqb
      obtain ⟨bn, bd, hS, hqB⟩ : ∃ bn bd : Int, Sml bn bd ∧ HB qb = some (.tup [.int bn, .int bd]) := ⟨_, _, hS, hqB⟩
      clear hqb eB ht11 ht10
      rotate_left
      refine ifF (decide_eq_false hd) ?_
      have hqB : H9 q = some (.tup [.int 0, .int 1]) := ht9.k _ _ hqp hq1
      have hpB : PotAt H9 p (n + 6 + 40 * i + 3) := ht9.p.le (by omega)
      have kB := k79
      have hqbp := hqp
      have hqb7 := hq
      clear ht9 k79
      generalize q = qb at *
      generalize H9 = HB at *
      obtain ⟨bn, bd, hS, hqB⟩ : ∃ bn bd : Int, Sml bn bd ∧ HB qb = some (.tup [.int bn, .int bd]) := ⟨0, 1, sml01, hqB⟩
      all_goals
        have hlB : SqL K HB l (ts.map V.int) := by
          rcases hl with (h | ⟨o, h⟩) | h
          · exact .inl (.inl (kB _ _ hlp (k7 _ _ (by simp; exact ⟨hlp, ne_of_none h hPL0⟩) (k36 _ _ hlp (hHD _ _ hlp h)))))
          · exact .inl (.inr ⟨o, kB _ _ hlp (k7 _ _ (by simp; exact ⟨hlp, ne_of_none h hPL0⟩) (k36 _ _ hlp (hHD _ _ hlp h)))⟩)
          · exact .inr h
        refine ⟨_, rfl, _, rfl, p, _, l, ts, rfl, hpB, by omega, hlp, hlB, hts, htl, htb, fun lv HV xv as hlv eV hpV hlvp hlv2 hav hane hal hag => ?_⟩
        refine ⟨_, rfl, D, .ref PL, rfl, DGet.k (k := keyS "programs") (eV _ _ nDp (kB _ _ nDp (k7 _ _ (by simp; exact ⟨nDp, nDP⟩) hD6))), ?_⟩
        have hPLV : HV PL = some (.lst xs) := eV _ _ nPLp (kB _ _ nPLp hPL7)
        refine ⟨.inl ⟨rfl, _, SqL.of hPLV⟩, ?_⟩
        refine ⟨_, rfl, _, rfl, _, rfl, _, rfl, p, _, rfl, hpV, by omega, fun bk HK h hbk hbkp eK hpK hbk2 => ?_⟩
        refine ⟨by show 4 ≤ sizeLine; decide, fun t ht => ?_⟩
        have hPLK := eK _ _ nPLp hPLV
        have eT : Ex HK (upd HK t (.tup [.str z, .ref qb, .ref lv, .ref bk])) := Evl.Ex.new ht
        have htp : t ≠ p := hne0 hpK ht
        have htL : t ≠ PL := fun z => by rw [z, hPLK] at ht; cases ht
        have hxl : xs.length ≤ 3 := by
          have h1 := congrArg List.length hnm7
          rw [List.length_map, List.length_take] at h1
          rw [hpw7.1]
          omega
        refine ⟨PL, _, _, rfl, rfl, eT _ _ hPLK, Evl.sz_lt (by omega), ?_⟩
        have k7T : ExB p H7 (upd HK t (.tup [.str z, .ref qb, .ref lv, .ref bk])) := ((kB.trans eV).trans eK).trans (ExB.of eT)
        have kF : Keep [p, PL] H7 (upd (upd HK t (.tup [.str z, .ref qb, .ref lv, .ref bk])) PL (.lst (xs ++ [.ref t]))) := Keep.upd (fun a o hna ha => k7T a o (fun z => hna (by rw [z]; simp)) ha) (by simp)
        have hlvL : lv ≠ PL := fun z => by rw [z, kB _ _ nPLp hPL7] at hlv; cases hlv
        have hbkL : bk ≠ PL := fun z => by rw [z, hPLV] at hbk; cases hbk
        have hqbL : qb ≠ PL := fun z => by rw [z, hPL7] at hqb7; cases hqb7
        have hF : ∀ {x : Addr} {o : HO}, x ≠ p → x ≠ PL → (upd HK t (.tup [.str z, .ref qb, .ref lv, .ref bk])) x = some o → off [p, PL] (upd (upd HK t (.tup [.str z, .ref qb, .ref lv, .ref bk])) PL (.lst (xs ++ [.ref t]))) x = some o := fun {x o} h1 h2 h3 => by
          rw [off_out (by simp; exact ⟨h1, h2⟩), upd_ne h2]
          exact h3
        refine ⟨_, _, _, xs ++ [.ref t], ps ++ [⟨unS z, bn, bd, as, h⟩], rfl, k7.trans kF, ?_, upd_same, ?_, ?_, ?_⟩
        · obtain ⟨x1, x2, x3, h3, h4⟩ := (hpK.mono eT).ex
          exact ⟨x1, x2, x3, by rw [upd_ne (Ne.symm nPLp)]; exact h3, h4.1, h4.2.1, h4.2.2.1, by have := h4.2.2.2; omega⟩
        · refine (hpw7.mono fun _ _ z => z.mono kF.off).snoc ⟨t, qb, lv, bk, xv, rfl, ?_, hF hqbp hqbL (eT _ _ (eK _ _ hqbp (eV _ _ hqbp hqB))), hF hlvp hlvL (eT _ _ (eK _ _ hlvp hlv2)), hav.mono fun _ _ z => ?_, hF hbkp hbkL (eT _ _ hbk2)⟩
          · rw [nmS_un]
            exact hF htp htL upd_same
          · exact (z.offL hPLV).mono (Keep.off (Keep.upd (fun a o hna ha => eT _ _ (eK _ _ (fun z => hna (by rw [z]; simp)) ha)) (by simp)))
        · rw [List.map_append, hnm7, List.take_succ, hz]
          show _ ++ [nmS _] = _
          rw [nmS_un]
          rfl
        · intro g hg
          rcases List.mem_append.mp hg with h1 | h1
          · exact hg7 g h1
          · rw [List.mem_singleton.mp h1]
            exact ⟨by rw [nmS_un]; exact hzm z (List.mem_of_getElem? hz), hS, ⟨hane, hal⟩, hag⟩
    · obtain ⟨o1, o2, o3, xs, ps, rfl, k7, hp7, hPL7, hpw7, hnm7, hg7⟩ := hv
      have hzl3 : 1 ≤ zs.length ∧ zs.length ≤ 3 := by omega
      rw [List.length_map, List.take_length] at hnm7
      have hpl : ps.length = zs.length := by rw [← hnm7, List.length_map]
      rw [List.length_map] at hp7
      have kAll : ExB p H H' := by
        intro a o hne ha
        exact k7 a o (by simp; exact ⟨hne, ne_of_none ha hPL0⟩) (k36 _ _ hne (hHD _ _ hne ha))
      refine ⟨_, rfl, kk (.ref D) H' ⟨tr, ps⟩ kAll (hp7.le (by omega)) ⟨D, PL, xs, rfl, ?_, ?_, hpw7.mono fun _ _ z => z.mono ?_⟩ ⟨fun z => ?_, by show ps.length ≤ 3; omega, hg7, by show (ps.map nmS).Nodup; rw [hnm7]; exact hznd, htr⟩⟩
      · rw [hid_ne nDp]
        exact k7 _ _ (by simp; exact ⟨nDp, nDP⟩) hD6
      · rw [hid_ne nPLp]
        exact hPL7
      · intro a o h
        have hna : a ∉ [p, PL] := fun z => by rw [off_in z] at h; cases h
        rw [off_out hna] at h
        rw [hid_ne (fun z => hna (by rw [z]; simp))]
        exact h
      · have z' : ps = [] := z
        rw [z'] at hpl
        simp at hpl
        omega
end
end CZ
set_option Elab.async false
set_option linter.all false
set_option maxRecDepth 100000
set_option maxHeartbeats 4000000
namespace CZ
open PySem PySem.Spec PyProof.Rows L2
/-! ### slipping -/
theorem gcd_sl : ∀ t : Fin 3, let g := Int.gcd (1 + (t.val : Int)) 4; (-9 ≤ (1 + (t.val : Int)) / (g : Nat) ∧ (1 + (t.val : Int)) / (g : Nat) ≤ 9) ∧ (1 ≤ (4 : Int) / (g : Nat) ∧ (4 : Int) / (g : Nat) ≤ 9) ∧ Int.gcd ((1 + (t.val : Int)) / (g : Nat)) ((4 : Int) / (g : Nat)) = 1 := by decide +kernel
theorem sml_sl {t : Int} (h1 : 0 ≤ t) (h2 : t < 3) : Sml ((1 + t) / (Int.gcd (1 + t) 4 : Nat)) (4 / (Int.gcd (1 + t) 4 : Nat)) := by
  obtain ⟨a, rfl⟩ := Int.eq_ofNat_of_zero_le h1
  have k := gcd_sl ⟨a, by omega⟩
  exact ⟨k.1, k.2.1, k.2.2⟩
theorem Sml.red {n d : Int} (h : Sml n d) : n / (Int.gcd n d : Nat) = n ∧ d / (Int.gcd n d : Nat) = d := by
  rw [h.co]
  simp
def spSlipping (K : PySem.W.Frag) : Sp := fun vs H Q _ => ∃ (p : Addr) (n : Nat) (v : V) (lo : Lo), vs = [.ref p, v] ∧ PotAt H p n ∧ n ≤ 30000 ∧ LoreAt (hid p H) v lo ∧ GLo lo ∧
  ∀ v H' lo, ExB p H H' → PotAt H' p (n + 10) → LoreAt (hid p H') v lo → GLo lo → Q v H'
section
variable {P : Program} {w : World} {K : PySem.W.Frag} {mg : Str → Option Value} {base : Heap}
theorem r_q_slipping (Z : Zed K mg base) : Rn P w K mg base 3 (a_q_slipping K) (spSlipping K) := by
  have R_q_take := r_q_take (P := P) (w := w) Z
  have R_q_least_terms := r_q_least_terms (P := P) (w := w) Z
  refine rn_of (u_q_slipping Z) sco_q_slipping (fun _ _ _ _ _ _ us hl => match us, hl with | [_, _], _ => rfl) (fun vs H Q E h => ?_) (fun cdv A outer s H vs Q E hr h => ?_)
  · obtain ⟨p, n, v, lo, rfl, _⟩ := h
    rfl
  · refine ⟨_, (pss_cons (ps_set (i := 2) sco_q_slipping.nd rfl (Or.inl rfl) (pe_lst pa_nil))
      (pss_cons (ps_for PassesOwn.never rfl (pi_listK K (pe_dget (hu_of hr) (pv 1) pe_str (fun _ _ => rfl))) (pg_tupK K (n := 4) rfl (pgs_cons (pg_name (i := 3) sco_q_slipping.nd rfl (Or.inl rfl)) (pgs_cons (pg_name (i := 4) sco_q_slipping.nd rfl (Or.inl rfl)) (pgs_cons (pg_name (i := 5) sco_q_slipping.nd rfl (Or.inl rfl)) (pgs_cons (pg_name (i := 6) sco_q_slipping.nd rfl (Or.inr rfl)) pgs_nil)))))
        (pss_cons (ps_set (i := 7) sco_q_slipping.nd rfl (Or.inl rfl) (pe_r R_q_take (g_q_take Z) hr (by rfl) (pa_cons (pv 0) (pa_cons pe_int pa_nil))))
        (pss_cons (ps_if (pt_cmpR op_lt (pv 7) pe_int (nomark _))
          (pss_cons (ps_set (i := 6) sco_q_slipping.nd rfl (Or.inr rfl) (pe_ix (ix_listK K) (pe_lst (pa_cons (pe_tup (pa_cons pe_str (pa_cons pe_str pa_nil))) (pa_cons (pe_tup (pa_cons pe_str (pa_cons pe_str pa_nil))) pa_nil))) (pv 7) (fun _ _ => rfl)))
          (pss_cons (ps_set (i := 4) sco_q_slipping.nd rfl (Or.inl rfl) (pe_ifExp (pt_cmpR (op_eqFTK K hr.units0) (pv 4) (pe_tup (pa_cons pe_int (pa_cons pe_int pa_nil))) (nomark _)) (pe_tup (pa_cons (pe_op op_add pe_int (pe_r R_q_take (g_q_take Z) hr (by rfl) (pa_cons (pv 0) (pa_cons pe_int pa_nil)))) (pa_cons pe_int pa_nil))) (pv 4)))
          (pss_cons (ps_set (i := 4) sco_q_slipping.nd rfl (Or.inl rfl) (pe_r R_q_least_terms (g_q_least_terms Z) hr (by rfl) (pa_cons (pe_ix (ix_tupK K) (pv 4) pe_int (fun _ _ => rfl)) (pa_cons (pe_ix (ix_tupK K) (pv 4) pe_int (fun _ _ => rfl)) pa_nil))))
          (pss_one (ps_setLc (i := 5) (own := [("_law_via", 8)]) (g := gName 8) (tt := tYes) rfl sco_q_slipping.nd rfl rfl (sw_true rfl rfl rfl (by decide +kernel)) (pi_listK K (pv 5)) (blkOk_by (by kernel_rfl)) (fun _ _ _ _ _ => (pg_name (i := 8) sco_q_slipping.nd rfl (Or.inl rfl))) (fun _ _ _ _ _ => pts_nil) (fun _ _ _ _ _ => (pe_op (op_catTK K) (pe_tup (pa_cons (pe_ix (ix_tupK K) (pv 8) pe_int (fun _ _ => rfl)) pa_nil)) (pv 6))))))))
          pss_nil)
        (pss_one (ps_expr (pe_bm PySem.F.plainAttrs_list PySem.F.slot_list_append PySem.F.type_list_append mt_append (pv 2) (pa_cons (pe_tup (pa_cons (pv 3) (pa_cons (pv 4) (pa_cons (pv 5) (pa_cons (pv 6) pa_nil))))) pa_nil)))))))
      (pss_one (ps_ret (pe_disp (pps_cons pe_str (pe_dget (hu_of hr) (pv 1) pe_str (fun _ _ => rfl)) (pps_cons pe_str (pv 2) pps_nil)) (by rfl) (by rfl) (fun z => by cases z) (by decide)))))), ?_⟩
    obtain ⟨p, n, v, lo, rfl, hp, hn, hlo, hg, kk⟩ := h
    have hpn : H p ≠ none := by obtain ⟨_, _, _, h, _⟩ := hp.ex; rw [h]; exact fun z => nomatch z
    have hne0 : ∀ {q : Addr} {H4 : Hp} {m : Nat}, PotAt H4 p m → H4 q = none → q ≠ p := fun {q H4 m} h1 h2 z => by
        obtain ⟨_, _, _, h3, _⟩ := h1.ex
        rw [z, h3] at h2; cases h2
    obtain ⟨a, l, xs, rfl, ha, hl, hx⟩ := hlo.ex
    have hle := hg.len
    refine ⟨by decide, fun PL hPL => ?_⟩
    have nPLp : PL ≠ p := hne0 hp hPL
    have e1 : Ex H (upd H PL (.lst [])) := Evl.Ex.new hPL
    have hPP : (upd H PL (.lst [])) PL = some (.lst []) := upd_same
    have hHp := fun x o (h : hid p H x = some o) => e1 _ _ (hid_ex x o h)
    have hp1 := hp.mono e1
    generalize upd H PL (.lst []) = H1 at *
    have lnp : l ≠ p := fun z => by rw [z, hid_at] at hl; cases hl
    have lnP : l ≠ PL := fun z => by rw [← z] at hPL; rw [hid_ex _ _ hl] at hPL; cases hPL
    refine ⟨_, rfl, a, .ref l, rfl, DGet.k (k := keyS "programs") (hHp _ _ ha), l, rfl, ⟨_, SqL.of (hHp _ _ hl)⟩, for_it (walk_list (xs := xs)) (fun i σ H' => ∃ (o1 o2 o3 o4 o5 o6 : Option V) (ys : List V) (ps : List CM.Prg), σ = [some (.ref p), some (.ref a), some (.ref PL), o1, o2, o3, o4, o5, o6] ∧ Keep [p, PL] H1 H' ∧ PotAt H' p (n + 2 * i) ∧ H' PL = some (.lst ys) ∧ Pw (LPrg (off [p, PL] H')) ys ps ∧ ps.map nmS = (lo.ps.take i).map nmS ∧ ∀ g ∈ ps, GPrg g) ⟨_, _, _, _, _, _, [], [], rfl, Keep.of (Evl.Ex.refl _), hp1, hPP, Pw.nil, rfl, fun _ z => (nomatch z)⟩ (fun i σ H' _ hv => ?_) (fun i x σ Hx H7 hi hv hy => ?_) (fun σ H' hv => ?_)⟩
    · obtain ⟨o1, o2, o3, o4, o5, o6, ys, ps, rfl, k7, _⟩ := hv
      exact SqL.of (k7 _ _ (by simp; exact ⟨lnp, lnP⟩) (hHp _ _ hl))
    · obtain ⟨o1, o2, o3, o4, o5, o6, ys, ps, rfl, k7, hp7, hPL7, hpw7, hnm7, hg7⟩ := hv
      obtain ⟨rfl, hxx⟩ := hy
      obtain ⟨g, hgi, ⟨t, q, lv, bk, vv, rfl, ht, hq, hlv, hvv, hbk⟩⟩ := hx.at hxx
      have hgg := hg.g g (List.mem_of_getElem? hgi)
      have hH7 : ∀ x o, hid p H x = some o → H7 x = some o := fun x o h => by
        have hxp : x ≠ p := fun z => by rw [z, hid_at] at h; cases h
        have hxP : x ≠ PL := fun z => by rw [← z] at hPL; rw [hid_ex _ _ h] at hPL; cases hPL
        exact k7 _ _ (by simp; exact ⟨hxp, hxP⟩) (hHp _ _ h)
      have hhp : ∀ x o, hid p H x = some o → x ≠ p := fun x o h z => by rw [z, hid_at] at h; cases h
      have hi3 : i < 3 := by
        have := hx.1
        omega
      refine ⟨t, _, rfl, SqT.of (hH7 _ _ ht), rfl, _, _, rfl, _, _, rfl, _, _, rfl, _, _, rfl, rfl, ?_⟩
      refine ⟨_, rfl, p, _, 3, rfl, hp7, by omega, by decide, by decide, fun d1 H9 hd10 hd11 ht9 => ?_⟩
      have hH9 : ∀ x o, hid p H x = some o → H9 x = some o := fun x o h => ht9.k _ _ (hhp x o h) (hH7 _ _ h)
      refine ⟨_, rfl, _, _, rfl, rfl, _, rfl, ?_⟩
      have lvP : ∀ x o, hid p H x = some o → x ≠ PL := fun x o h z => by rw [← z] at hPL; rw [hid_ex _ _ h] at hPL; cases hPL
      have fin : ∀ (HF : Hp) (lv2 bk2 qb : Addr) (vv2 : List V) (bn bd : Int) (as : List CM.Via) (b : CM.How × CM.How), ExB p H7 HF → PotAt HF p (n + 2 * i + 2) → lv2 ≠ p → lv2 ≠ PL → bk2 ≠ p → bk2 ≠ PL → qb ≠ p → qb ≠ PL → HF qb = some (.tup [.int bn, .int bd]) → HF lv2 = some (.lst vv2) → Pw (ViaAt (hid p HF)) vv2 as → HF bk2 = some (.tup [.str (howS b.1), .str (howS b.2)]) → Sml bn bd → as ≠ [] → as.length ≤ 3 → (∀ v ∈ as, GVia v) →
          ∀ t, HF t = none → (upd HF t (.tup [.str (nmS g), .ref qb, .ref lv2, .ref bk2])) PL = some (.lst ys) ∧ ys.length ≤ 3 ∧ ∀ X, X = (upd (upd HF t (.tup [.str (nmS g), .ref qb, .ref lv2, .ref bk2])) PL (.lst (ys ++ [.ref t]))) → ∃ ps', Keep [p, PL] H1 X ∧ PotAt X p (n + 2 * (i + 1)) ∧ X PL = some (.lst (ys ++ [.ref t])) ∧ Pw (LPrg (off [p, PL] X)) (ys ++ [.ref t]) ps' ∧ ps'.map nmS = (lo.ps.take (i + 1)).map nmS ∧ ∀ g ∈ ps', GPrg g := by
        intro HF lv2 bk2 qb vv2 bn bd as b kF hpF hl1 hl2 hb1 hb2 hq1 hq2 hqF hlF hvF hbF hS hane hal hag t ht
        have hPLF := kF _ _ nPLp hPL7
        have eT : Ex HF (upd HF t (.tup [.str (nmS g), .ref qb, .ref lv2, .ref bk2])) := Evl.Ex.new ht
        have htp : t ≠ p := hne0 hpF ht
        have htL : t ≠ PL := fun z => by rw [z, hPLF] at ht; cases ht
        refine ⟨eT _ _ hPLF, ?_, ?_⟩
        · have h1 := congrArg List.length hnm7
          rw [List.length_map, List.length_map, List.length_take] at h1
          rw [hpw7.1]
          omega
        intro X hX
        have kT : Keep [p, PL] H7 X := by
          rw [hX]
          exact Keep.upd (fun a o hna ha => eT _ _ (kF a o (fun z => hna (by rw [z]; simp)) ha)) (by simp)
        have kFX : Keep [p, PL] HF X := by
          rw [hX]
          exact Keep.upd (fun a o hna ha => eT _ _ ha) (by simp)
        have hF : ∀ {x : Addr} {o : HO}, x ≠ p → x ≠ PL → (upd HF t (.tup [.str (nmS g), .ref qb, .ref lv2, .ref bk2])) x = some o → off [p, PL] X x = some o := fun {x o} h1 h2 h3 => by
          rw [off_out (by simp; exact ⟨h1, h2⟩), hX, upd_ne h2]
          exact h3
        refine ⟨ps ++ [⟨g.name, bn, bd, as, b⟩], k7.trans kT, ?_, by rw [hX, upd_same], ?_, ?_, ?_⟩
        · obtain ⟨x1, x2, x3, h3, h4⟩ := (hpF.mono eT).ex
          exact ⟨x1, x2, x3, by rw [hX, upd_ne (Ne.symm nPLp)]; exact h3, h4.1, h4.2.1, h4.2.2.1, by have := h4.2.2.2; omega⟩
        · exact (hpw7.mono fun _ _ z => z.mono kT.off).snoc ⟨t, qb, lv2, bk2, vv2, rfl, hF htp htL upd_same, hF hq1 hq2 (eT _ _ hqF), hF hl1 hl2 (eT _ _ hlF), hvF.mono fun _ _ z => (z.offL hPLF).mono kFX.off, hF hb1 hb2 (eT _ _ hbF)⟩
        · rw [List.map_append, hnm7, List.take_succ, hgi, List.map_append]
          rfl
        · intro g' hg'
          rcases List.mem_append.mp hg' with h1 | h1
          · exact hg7 g' h1
          · rw [List.mem_singleton.mp h1]
            exact ⟨hgg.nm, hS, ⟨hane, hal⟩, hag⟩
      by_cases hd : d1 < 2
      · refine ifT (decide_eq_true hd) ?_
        refine ⟨by show 2 ≤ sizeLine; decide, fun t1 ht1 => ?_⟩
        refine ⟨by show 2 ≤ sizeLine; decide, fun t2 ht2 => ?_⟩
        refine ⟨by show 2 ≤ sizeLine; decide, fun bl hbl => ?_⟩
        have f2 : H9 t2 = none := Evl.fresh_back (Evl.Ex.new ht1) ht2
        have e3 : Ex H9 _ := ((Evl.Ex.new (o := .tup [.str "up", .str "down"]) ht1).trans (Evl.Ex.new (o := .tup [.str "down", .str "up"]) ht2)).trans (Evl.Ex.new (o := .lst [.ref t1, .ref t2]) hbl)
        have ht1' := ((Evl.Ex.new (o := .tup [.str "down", .str "up"]) ht2).trans (Evl.Ex.new (o := .lst [.ref t1, .ref t2]) hbl)) _ _ (upd_same (a := t1) (o := .tup [.str "up", .str "down"]) (H := H9))
        have ht2' := (Evl.Ex.new (o := .lst [.ref t1, .ref t2]) hbl) _ _ upd_same
        have hbl' := upd_same (a := bl) (o := .lst [.ref t1, .ref t2]) (H := upd (upd H9 t1 (.tup [.str "up", .str "down"])) t2 (.tup [.str "down", .str "up"]))
        generalize upd (upd (upd H9 t1 (.tup [.str "up", .str "down"])) t2 (.tup [.str "down", .str "up"])) bl (.lst [.ref t1, .ref t2]) = H10 at *
        obtain ⟨bk2, b, hb2, hbk9, hat⟩ : ∃ (bk2 : Addr) (b : CM.How × CM.How), H10 bk2 = some (.tup [.str (howS b.1), .str (howS b.2)]) ∧ H9 bk2 = none ∧ atI [V.ref t1, V.ref t2] d1 = some (.ref bk2) := by
          by_cases h0 : d1 = 0
          · exact ⟨t1, (.up, .down), ht1', ht1, by rw [h0]; rfl⟩
          · have h1 : d1 = 1 := by omega
            exact ⟨t2, (.down, .up), ht2', f2, by rw [h1]; rfl⟩
        refine ⟨_, rfl, bl, _, d1, .ref bk2, rfl, rfl, SqL.of hbl', hat, ?_⟩
        have hp10 := ht9.p.mono e3
        have k10 : ExB p H7 H10 := ht9.k.trans (ExB.of e3)
        have hH10 : ∀ x o, hid p H x = some o → H10 x = some o := fun x o h => e3 _ _ (hH9 _ _ h)
        have hbkp : bk2 ≠ p := hne0 ht9.p hbk9
        have hbkP : bk2 ≠ PL := fun z => by rw [z, ht9.k _ _ nPLp hPL7] at hbk9; cases hbk9
        clear ht1' ht2' hbl' hat hbl f2 ht1 ht2
        refine ⟨_, rfl, ?_⟩
        refine ⟨by show 2 ≤ sizeLine; decide, fun t3 ht3 => ?_⟩
        have e4 := Evl.Ex.new (o := .tup [.int 0, .int 1]) ht3
        have ht3' := upd_same (a := t3) (o := .tup [.int 0, .int 1]) (H := H10)
        have hp11 := hp10.mono e4
        have k11 := k10.trans (ExB.of e4)
        generalize upd H10 t3 (.tup [.int 0, .int 1]) = H11 at *
        refine ⟨q, t3, _, _, rfl, rfl, SqT.of (e4 _ _ (hH10 _ _ hq)), SqT.of ht3', rfl, flat_ints [g.bn, g.bd], flat_ints [0, 1], ?_⟩
        have he : eqAll [V.int g.bn, V.int g.bd] [V.int 0, V.int 1] = decide ([g.bn, g.bd] = [0, 1]) := eqAll_ints (ns := [g.bn, g.bd]) (ms := [0, 1]) rfl
        rw [he]
        refine ⟨_, rfl, ?_⟩
        by_cases hb0 : [g.bn, g.bd] = [0, 1]
        refine ifT (by rw [decide_eq_true hb0]; rfl) ?_
        refine ⟨_, rfl, p, _, 3, rfl, hp11, by omega, by decide, by decide, fun d2 H12 hd20 hd21 ht12 => ?_⟩
        refine ⟨_, _, rfl, rfl, by show 2 ≤ sizeLine; decide, fun t4 ht4 => ?_⟩
        have e5 := Evl.Ex.new (o := .tup [.int (1 + d2), .int 4]) ht4
        obtain ⟨bn, bd, hqb, hbb, hS⟩ : ∃ bn bd : Int, (upd H12 t4 (.tup [.int (1 + d2), .int 4])) t4 = some (.tup [.int bn, .int bd]) ∧ (-9 ≤ bn ∧ bn ≤ 9 ∧ 1 ≤ bd ∧ bd ≤ 9) ∧ Sml (bn / (Int.gcd bn bd : Nat)) (bd / (Int.gcd bn bd : Nat)) := ⟨_, _, upd_same, by omega, sml_sl hd20 hd21⟩
        have hp13 : PotAt (upd H12 t4 (.tup [.int (1 + d2), .int 4])) p (n + 2 * i + 2) := ht12.p.mono e5
        have k13 : ExB p H10 (upd H12 t4 (.tup [.int (1 + d2), .int 4])) := ((ExB.of e4).trans ht12.k).trans (ExB.of e5)
        clear ht4 e5 ht12
        generalize upd H12 t4 (.tup [.int (1 + d2), .int 4]) = H13 at *
        rotate_left
        refine ifF (by rw [decide_eq_false hb0]; rfl) ?_
        refine ⟨_, rfl, ?_⟩
        obtain ⟨bn, bd, hqb, hbb, hS⟩ : ∃ bn bd : Int, H11 q = some (.tup [.int bn, .int bd]) ∧ (-9 ≤ bn ∧ bn ≤ 9 ∧ 1 ≤ bd ∧ bd ≤ 9) ∧ Sml (bn / (Int.gcd bn bd : Nat)) (bd / (Int.gcd bn bd : Nat)) := ⟨_, _, e4 _ _ (hH10 _ _ hq), by have h1 := hgg.sb.n1; have h2 := hgg.sb.d1; omega, by rw [hgg.sb.red.1, hgg.sb.red.2]; exact hgg.sb⟩
        have hp13 : PotAt H11 p (n + 2 * i + 2) := hp11.le (by omega)
        have k13 : ExB p H10 H11 := ExB.of e4
        clear hp11 e4 ht3' k11
        generalize q = t4 at *
        generalize H11 = H13 at *
        all_goals
          refine ⟨_, rfl, t4, _, 0, .int bn, rfl, rfl, SqT.of hqb, rfl, _, rfl, t4, _, 1, .int bd, rfl, rfl, SqT.of hqb, rfl, bn, bd, rfl, by omega, by omega, by omega, by omega, fun qb H14 hqb4 e14 hqb5 => ?_⟩
          have k14 : ExB p H7 H14 := (k10.trans k13).trans (ExB.of e14)
          have hqbp : qb ≠ p := hne0 hp13 hqb4
          have hqbP : qb ≠ PL := fun z => by rw [z, (k10.trans k13) _ _ nPLp hPL7] at hqb4; cases hqb4
          have hH14 : ∀ x o, hid p H x = some o → H14 x = some o := fun x o h => k14 _ _ (hhp x o h) (hH7 _ _ h)
          have hp14 := hp13.mono e14
          refine ⟨_, rfl, lv, rfl, ⟨_, SqL.of (hH14 _ _ hlv)⟩, fun DD hDD => ?_⟩
          refine lc_all walk_list (fun j y H' => ∃ v : CM.Via, g.vias[j]? = some v ∧ ViaAt (hid p H') y ⟨v.n, v.d, b⟩) hDD (by rw [hvv.1]; have := hgg.vn.2; omega) (fun j y H1 H2 e ⟨v, h1, h2⟩ => ⟨v, h1, h2.mono (hid_mono (ExB.of e))⟩) (fun H' e => SqL.of (e _ _ (hH14 _ _ hlv))) (fun j x Hx H15 Qe hj e1 hDn hy qq => ?_) gname_mono (fun H' zs e1 h1 hn h7 => ?_)
          · obtain ⟨rfl, hx⟩ := hy
            obtain ⟨v, hv, ⟨⟨r, rq, rfl, hr1, hr2⟩⟩⟩ := hvv.at hx
            refine ⟨rfl, _, rfl, r, _, 0, .ref rq, rfl, rfl, SqT.of (e1 _ _ (hH14 _ _ hr1)), rfl, by show 1 ≤ sizeLine; decide, fun t5 ht5 => ?_⟩
            have e6 := Evl.Ex.new (o := .tup [.ref rq]) ht5
            have hb15 := e1 _ _ (e14 _ _ (k13 _ _ hbkp hb2))
            refine ⟨_, rfl, t5, bk2, _, _, rfl, rfl, SqT.of upd_same, SqT.of (e6 _ _ hb15), by simp, by show 3 ≤ sizeLine; decide, fun z => (nomatch z), fun _ T hT => ?_⟩
            have e7 := Evl.Ex.new (o := .tup ([.ref rq] ++ [.str (howS b.1), .str (howS b.2)])) hT
            have hT15 : H15 T = none := Evl.fresh_back e6 hT
            have hTp : T ≠ p := hne0 (hp14.mono e1) hT15
            have hTD : T ≠ DD := fun z => hDn (by rw [← z]; exact hT15)
            have hrD : rq ≠ DD := fun z => by rw [← z, hH14 _ _ hr2] at hDD; cases hDD
            refine qq _ _ (e6.trans e7) ⟨v, hv, ⟨⟨T, rq, rfl, ?_, ?_⟩⟩⟩
            · rw [hid_ne hTp, hid_ne hTD, upd_same]
              rfl
            · rw [hid_ne (hhp _ _ hr2), hid_ne hrD]
              exact e7 _ _ (e6 _ _ (e1 _ _ (hH14 _ _ hr2)))
          · refine ⟨_, rfl, .inl ⟨rfl, _, SqL.of (e1 _ _ (k14 _ _ nPLp hPL7))⟩, ?_⟩
            refine ⟨_, rfl, _, rfl, _, rfl, _, rfl, by show 4 ≤ sizeLine; decide, fun t6 ht6 => ?_⟩
            have hpp : PotAt H' p (n + 2 * i + 2) := hp14.mono e1
            have hDp : DD ≠ p := hne0 hp14 hDD
            have hDP : DD ≠ PL := fun z => by rw [z, k14 _ _ nPLp hPL7] at hDD; cases hDD
            have hvl : 0 < g.vias.length := List.length_pos_iff.mpr hgg.vn.1
            obtain ⟨f1, f2, f3⟩ := fin H' DD bk2 qb zs (bn / (Int.gcd bn bd : Nat)) (bd / (Int.gcd bn bd : Nat)) (g.vias.map fun v => ⟨v.n, v.d, b⟩) b (k14.trans (ExB.of e1)) hpp hDp hDP hbkp hbkP hqbp hqbP (e1 _ _ hqb5) h1 (pw_of (by rw [hn, hvv.1, List.length_map]) fun j y hjy => by
              obtain ⟨v, hv1, hv2⟩ := h7 j y hjy
              exact ⟨_, by rw [List.getElem?_map, hv1]; rfl, hv2.mono (hid_mono (ExB.of hid_ex))⟩) (e1 _ _ (e14 _ _ (k13 _ _ hbkp hb2))) hS (fun z => by rw [List.map_eq_nil_iff] at z; exact hgg.vn.1 z) (by rw [List.length_map]; exact hgg.vn.2) (fun v hv => by
              obtain ⟨v0, hv0, rfl⟩ := List.mem_map.mp hv
              have := hgg.vs v0 hv0
              exact ⟨this.sm, this.n1, this.dv⟩) t6 ht6
            obtain ⟨ps', f4⟩ := f3 _ rfl
            exact ⟨PL, _, _, rfl, rfl, f1, Evl.sz_lt (by omega), _, _, _, _, _, _, _, ps', rfl, f4⟩
      · refine ifF (decide_eq_false hd) ?_
        refine ⟨_, rfl, .inl ⟨rfl, _, SqL.of (ht9.k _ _ nPLp hPL7)⟩, ?_⟩
        refine ⟨_, rfl, _, rfl, _, rfl, _, rfl, by show 4 ≤ sizeLine; decide, fun t2 ht2 => ?_⟩
        have hpp : PotAt H9 p (n + 2 * i + 2) := ht9.p.le (by omega)
        obtain ⟨f1, f2, f3⟩ := fin H9 lv bk q vv g.bn g.bd g.vias g.back ht9.k hpp (hhp _ _ hlv) (lvP _ _ hlv) (hhp _ _ hbk) (lvP _ _ hbk) (hhp _ _ hq) (lvP _ _ hq) (hH9 _ _ hq) (hH9 _ _ hlv) (hvv.mono fun _ _ z => z.mono fun x o h => by rw [hid_ne (hhp _ _ h)]; exact hH9 _ _ h) (hH9 _ _ hbk) hgg.sb hgg.vn.1 hgg.vn.2 hgg.vs t2 ht2
        obtain ⟨ps', f4⟩ := f3 _ rfl
        exact ⟨PL, _, _, rfl, rfl, f1, Evl.sz_lt (by omega), _, _, _, _, _, _, _, ps', rfl, f4⟩
    · obtain ⟨o1, o2, o3, o4, o5, o6, ys, ps, rfl, k7, hp7, hPL7, hpw7, hnm7, hg7⟩ := hv
      rw [hx.1, List.take_length] at hnm7
      have hpl : ps.length = lo.ps.length := by
        have := congrArg List.length hnm7
        rw [List.length_map, List.length_map] at this
        exact this
      have hap : a ≠ p := fun z => by rw [z, hid_at] at ha; cases ha
      have haP : a ≠ PL := fun z => by rw [← z] at hPL; rw [hid_ex _ _ ha] at hPL; cases hPL
      have ha7 : H' a = some (.dK [(keyS "trim", .int lo.trim), (keyS "programs", .ref l)]) := k7 _ _ (by simp; exact ⟨hap, haP⟩) (hHp _ _ ha)
      refine fun D hD => ⟨_, rfl, a, .int lo.trim, rfl, DGet.k (k := keyS "trim") ((Evl.Ex.new hD) _ _ ha7), _, rfl, ?_⟩
      refine ⟨upd_same, [(keyS "trim", .int lo.trim), (keyS "programs", .ref PL)], rfl, by show 2 ≤ 15; decide, ?_⟩
      rw [merge2 (by decide +kernel)]
      have hDp : D ≠ p := hne0 hp7 hD
      have hDP : D ≠ PL := fun z => by rw [z, hPL7] at hD; cases hD
      have eF : Ex H' (upd (upd H' D (.dK [])) D (.dK [(keyS "trim", .int lo.trim), (keyS "programs", .ref PL)])) := fun x o h => by
        have : x ≠ D := fun z => by rw [z, hD] at h; cases h
        rw [upd_ne this, upd_ne this]
        exact h
      have hDF : (upd (upd H' D (.dK [])) D (.dK [(keyS "trim", .int lo.trim), (keyS "programs", .ref PL)])) D = some (.dK [(keyS "trim", .int lo.trim), (keyS "programs", .ref PL)]) := upd_same
      have hll : lo.ps.length = xs.length := hx.1.symm
      rw [hll] at hpl
      generalize upd (upd H' D (.dK [])) D (.dK [(keyS "trim", .int lo.trim), (keyS "programs", .ref PL)]) = HF at *
      refine kk (.ref D) HF ⟨lo.trim, ps⟩ ?_ ((hp7.mono eF).le (by omega)) ⟨D, PL, ys, rfl, ?_, ?_, hpw7.mono fun _ _ z => z.mono ?_⟩ ⟨fun z => ?_, by show ps.length ≤ 3; omega, hg7, by show (ps.map nmS).Nodup; rw [hnm7]; exact hg.nd, hg.trim⟩
      · intro x o hne h
        exact eF _ _ (k7 _ _ (by simp; exact ⟨hne, ne_of_none h hPL⟩) (e1 _ _ h))
      · rw [hid_ne hDp]
        exact hDF
      · rw [hid_ne nPLp]
        exact eF _ _ hPL7
      · intro x o h
        have hna : x ∉ [p, PL] := fun z => by rw [off_in z] at h; cases h
        rw [off_out hna] at h
        rw [hid_ne (fun z => hna (by rw [z]; simp))]
        exact eF _ _ h
      · have z' : ps = [] := z
        rw [z'] at hpl
        have h3 := hg.ne
        have h4 : lo.ps.length ≠ 0 := fun z => h3 (List.length_eq_zero_iff.mp z)
        simp at hpl
        omega
end
end CZ
set_option Elab.async false
set_option linter.all false
set_option maxRecDepth 100000
set_option maxHeartbeats 4000000
namespace CZ
open PySem PySem.Spec PyProof.Rows L2
/-! ### a drawn studio is fine -/
theorem GVia.ok {v : CM.Via} (h : GVia v) : v.Ok := ⟨by have := h.n1; omega, by have := h.sm.d1; omega⟩
theorem GPrg.fine {p : CM.Prg} (h : GPrg p) : Fine p := by
  have h1 := h.sb.n1
  have h2 := h.sb.d1
  refine ⟨⟨by omega, fun v hv => (h.vs v hv).ok⟩, by omega, by omega, fun v hv => ?_, h.vn.2⟩
  have h3 := (h.vs v hv).sm.n1
  have h4 := (h.vs v hv).sm.d1
  omega
theorem GLo.lok {lo : Lo} (h : GLo lo) : LoOk lo := by
  refine ⟨h.ne, h.len, fun p hp => (h.g p hp).fine, fun i j p q hi hj hn => ?_, fun n hn => ?_, h.trim⟩
  · have h1 : (lo.ps.map nmS)[i]? = some (nmS p) := by rw [List.getElem?_map, hi]; rfl
    have h2 : (lo.ps.map nmS)[j]? = some (nmS q) := by rw [List.getElem?_map, hj]; rfl
    have e : nmS p = nmS q := by unfold nmS; rw [hn]
    have hil := (List.getElem?_eq_some_iff.mp h1).1
    exact (List.getElem?_inj hil h.nd).mp (by rw [h1, h2, e])
  · obtain ⟨p, hp, hn⟩ := List.mem_flatMap.mp hn
    obtain ⟨v, hv, rfl⟩ := List.mem_map.mp hn
    exact ((h.g p hp).vs v hv).dv
def spQRound : Sp := fun vs H Q _ => ∃ (a b : Int) (h : CM.How), vs = [.int a, .int b, .str (howS h)] ∧ 0 < b ∧ b < 2 ^ 30 ∧ Q (.int (CM.rnd h a b)) H
def spQCarry (K : PySem.W.Frag) : Sp := fun vs H Q _ => ∃ (v : V) (p : CM.Prg) (side : Bool) (t : Int), vs = [v, .str (sideS side), .int t] ∧ LPrg H v p ∧ Fine p ∧ Q (.int (CM.carry p side t)) H
def spQPeriod (K : PySem.W.Frag) : Sp := fun vs H Q _ => ∃ (v : V) (lo : Lo), vs = [v] ∧ LoreAt H v lo ∧ LoOk lo ∧ Q (.int lo.T) H
section
variable {P : Program} {w : World} {K : PySem.W.Frag} {mg : Str → Option Value} {base : Heap}
theorem r_q_round (Z : Zed K mg base) : Rn P w K mg base 1 (a_q_round K) spQRound := by
  refine rn_of (u_q_round Z) sco_q_round (fun _ _ _ _ _ _ us hl => match us, hl with | [_, _, _], _ => rfl) (fun vs H Q E h => ?_) (fun cdv A outer s H vs Q E hr h => ?_)
  · obtain ⟨a, b, h, rfl, _⟩ := h
    rfl
  · refine ⟨_, (pss_cons (ps_set (i := 3) sco_q_round.nd rfl (Or.inl rfl) (pe_op op_fdiv (pe_callTy call_int1 (by rfl) (f_int Z) (by decide +kernel) (pa_cons (pv 0) pa_nil)) (pe_callTy call_int1 (by rfl) (f_int Z) (by decide +kernel) (pa_cons (pv 1) pa_nil))))
      (pss_cons (ps_set (i := 4) sco_q_round.nd rfl (Or.inl rfl) (pe_op op_sub (pv 0) (pe_op op_mul (pv 3) (pv 1))))
      (pss_cons (ps_if (PW.pt (pw_or (pt_cmpR op_eq (pv 4) pe_int (nomark _)) (pw_or1 (pt_cmpR op_eq (pv 2) pe_str (nomark _)))))
        (pss_one (ps_ret (pv 3)))
        pss_nil)
      (pss_cons (ps_if (pt_cmpR op_eq (pv 2) pe_str (nomark _))
        (pss_one (ps_ret (pe_op op_add (pv 3) pe_int)))
        pss_nil)
      (pss_cons (ps_if (pt_cmpR op_eq (pe_op op_mul pe_int (pv 4)) (pv 1) (nomark _))
        (pss_one (ps_ret (pe_ifExp (pt_cmpR op_eq (pv 2) pe_str (nomark _)) (pe_op op_add (pv 3) pe_int) (pv 3))))
        pss_nil)
      (pss_one (ps_ret (pe_ifExp (pt_cmpR op_gt (pe_op op_mul pe_int (pv 4)) (pv 1) (nomark _)) (pe_op op_add (pv 3) pe_int) (pv 3))))))))), ?_⟩
    obtain ⟨a, b, h, rfl, hb, hb2, k⟩ := h
    rw [← CM.lawRnd_eq h hb] at k
    unfold CM.lawRnd at k
    refine ⟨_, rfl, .inl ⟨_, rfl, _, rfl, .inl ⟨_, rfl, _, _, rfl, rfl, ⟨hb, hb2⟩, ?_⟩⟩⟩
    refine ⟨_, rfl, _, rfl, _, rfl, _, _, rfl, rfl, .inr (by omega), _, _, rfl, rfl, ?_⟩
    dsimp only at k
    refine ⟨_, rfl, rfl, _, rfl, ?_⟩
    have ev : ∀ x y : Int, decide (V.int x = V.int y) = decide (x = y) := fun x y => decide_eq_decide.mpr ⟨fun z => by injection z, fun z => by rw [z]⟩
    by_cases h0 : a - a / b * b = 0
    · refine ifT (by rw [ev]; exact decide_eq_true h0) ?_
      rw [if_pos (.inl h0)] at k
      exact ⟨_, rfl, k⟩
    refine ifF (by rw [ev]; exact decide_eq_false h0) ?_
    refine ⟨_, rfl, rfl, _, rfl, ?_⟩
    cases h with
    | down =>
      rw [if_pos (.inr rfl)] at k
      exact ifT rfl ⟨_, rfl, k⟩
    | up =>
      rw [if_neg (by simp [h0]), if_pos rfl] at k
      exact ifF rfl ⟨_, rfl, rfl, _, rfl, ifT rfl ⟨_, rfl, _, _, rfl, rfl, k⟩⟩
    | near =>
      rw [if_neg (by simp [h0]), if_neg (by simp)] at k
      refine ifF rfl ⟨_, rfl, rfl, _, rfl, ifF rfl ?_⟩
      refine ⟨_, rfl, _, _, rfl, rfl, .inl (by decide), _, rfl, rfl, _, rfl, ?_⟩
      by_cases h1 : 2 * (a - a / b * b) = b
      · rw [if_pos h1, if_pos rfl] at k
        exact ifT (by rw [ev]; exact decide_eq_true h1) ⟨_, rfl, rfl, _, rfl, ifT rfl ⟨_, rfl, _, _, rfl, rfl, k⟩⟩
      · rw [if_neg h1] at k
        refine ifF (by rw [ev]; exact decide_eq_false h1) ⟨_, rfl, _, _, rfl, rfl, .inl (by decide), _, rfl, _, _, rfl, rfl, _, rfl, ?_⟩
        by_cases h2 : b < 2 * (a - a / b * b)
        · rw [if_pos h2] at k
          exact ifT (decide_eq_true h2) ⟨_, rfl, _, _, rfl, rfl, k⟩
        · rw [if_neg h2] at k
          exact ifF (decide_eq_false h2) ⟨_, rfl, k⟩
    | low =>
      rw [if_neg (by simp [h0]), if_neg (by simp)] at k
      refine ifF rfl ⟨_, rfl, rfl, _, rfl, ifF rfl ?_⟩
      refine ⟨_, rfl, _, _, rfl, rfl, .inl (by decide), _, rfl, rfl, _, rfl, ?_⟩
      by_cases h1 : 2 * (a - a / b * b) = b
      · rw [if_pos h1, if_neg (by simp)] at k
        exact ifT (by rw [ev]; exact decide_eq_true h1) ⟨_, rfl, rfl, _, rfl, ifF rfl ⟨_, rfl, k⟩⟩
      · rw [if_neg h1] at k
        refine ifF (by rw [ev]; exact decide_eq_false h1) ⟨_, rfl, _, _, rfl, rfl, .inl (by decide), _, rfl, _, _, rfl, rfl, _, rfl, ?_⟩
        by_cases h2 : b < 2 * (a - a / b * b)
        · rw [if_pos h2] at k
          exact ifT (decide_eq_true h2) ⟨_, rfl, _, _, rfl, rfl, k⟩
        · rw [if_neg h2] at k
          exact ifF (decide_eq_false h2) ⟨_, rfl, k⟩
theorem r_q_period (Z : Zed K mg base) : Rn P w K mg base 3 (a_q_period K) (spQPeriod K) := by
  have R_q_joint := r_q_joint (P := P) (w := w) Z
  refine rn_of (u_q_period Z) sco_q_period (fun _ _ _ _ _ _ us hl => match us, hl with | [_], _ => rfl) (fun vs H Q E h => ?_) (fun cdv A outer s H vs Q E hr h => ?_)
  · obtain ⟨v, lo, rfl, _⟩ := h
    rfl
  · refine ⟨_, (pss_cons (ps_set (i := 1) sco_q_period.nd rfl (Or.inl rfl) pe_int)
      (pss_cons (ps_for PassesOwn.never rfl (pi_listK K (pe_dget (hu_of hr) (pv 0) pe_str (fun _ _ => rfl))) (pg_tupK K (n := 4) rfl (pgs_cons (pg_name (i := 2) sco_q_period.nd rfl (Or.inl rfl)) (pgs_cons (pg_name (i := 3) sco_q_period.nd rfl (Or.inl rfl)) (pgs_cons (pg_name (i := 4) sco_q_period.nd rfl (Or.inl rfl)) (pgs_cons (pg_name (i := 5) sco_q_period.nd rfl (Or.inl rfl)) pgs_nil)))))
        (pss_one (ps_for PassesOwn.never rfl (pi_listK K (pv 4)) (pg_tupK K (n := 3) rfl (pgs_cons (pg_name (i := 6) sco_q_period.nd rfl (Or.inl rfl)) (pgs_cons (pg_name (i := 7) sco_q_period.nd rfl (Or.inl rfl)) (pgs_cons (pg_name (i := 8) sco_q_period.nd rfl (Or.inl rfl)) pgs_nil))))
          (pss_one (ps_set (i := 1) sco_q_period.nd rfl (Or.inl rfl) (pe_r R_q_joint (g_q_joint Z) hr (by rfl) (pa_cons (pv 1) (pa_cons (pe_ix (ix_tupK K) (pv 6) pe_int (fun _ _ => rfl)) pa_nil))))))))
      (pss_one (ps_ret (pv 1))))), ?_⟩
    obtain ⟨v, lo, rfl, hlo, hok, k⟩ := h
    obtain ⟨a, l, xs, rfl, ha, hl, hx⟩ := hlo.ex
    have hns := CM.ns_pos hok.ok
    refine ⟨_, rfl, a, .ref l, rfl, DGet.k (k := keyS "programs") ha, l, rfl, ⟨_, SqL.of hl⟩, for_it (walk_list (xs := xs)) (fun i σ H' => H' = H ∧ ∃ (o1 o2 o3 o4 o5 o6 o7 : Option V), σ = [some (.ref a), some (.int (CM.perGo 1 (CM.ns (lo.ps.take i)))), o1, o2, o3, o4, o5, o6, o7]) ⟨rfl, _, _, _, _, _, _, _, rfl⟩ (fun i σ H' _ hv => ?_) (fun i x σ H1 H2 hi hv hy => ?_) (fun σ H' hv => ?_)⟩
    · obtain ⟨rfl, _⟩ := hv
      exact SqL.of hl
    · obtain ⟨rfl, o1, o2, o3, o4, o5, o6, o7, rfl⟩ := hv
      obtain ⟨rfl, hxx⟩ := hy
      obtain ⟨p, hpp, ⟨t, q, lv, bk, vv, rfl, ht, hq, hlv, hvv, hbk⟩⟩ := hx.at hxx
      have hpm := List.mem_of_getElem? hpp
      refine ⟨t, _, rfl, SqT.of ht, rfl, _, _, rfl, _, _, rfl, _, _, rfl, _, _, rfl, rfl, ?_⟩
      have htake : CM.ns (lo.ps.take (i + 1)) = CM.ns (lo.ps.take i) ++ p.vias.map (·.n) := by
        rw [List.take_succ, hpp]
        unfold CM.ns
        rw [List.flatMap_append]
        simp
      have hsub : ∀ j, ∀ n ∈ CM.ns (lo.ps.take i) ++ (p.vias.map (·.n)).take j, n ∈ CM.ns lo.ps := fun j n hn => by
        have h1 : n ∈ CM.ns (lo.ps.take (i + 1)) := by
          rw [htake]
          rcases List.mem_append.mp hn with h | h
          · exact List.mem_append_left _ h
          · exact List.mem_append_right _ (List.mem_of_mem_take h)
        obtain ⟨p', hp', hn'⟩ := List.mem_flatMap.mp h1
        exact List.mem_flatMap.mpr ⟨p', List.mem_of_mem_take hp', hn'⟩
      refine ⟨_, rfl, lv, rfl, ⟨_, SqL.of hlv⟩, for_it (walk_list (xs := vv)) (fun j σ H' => H' = H2 ∧ ∃ (o1 o2 o3 o4 o5 o6 o7 : Option V), σ = [some (.ref a), some (.int (CM.perGo 1 (CM.ns (lo.ps.take i) ++ (p.vias.map (·.n)).take j))), o1, o2, o3, o4, o5, o6, o7]) ⟨rfl, _, _, _, _, _, _, _, by rw [List.take_zero, List.append_nil]; rfl⟩ (fun j σ H' _ hv => ?_) (fun j y σ H4 H5 hj hv hy => ?_) (fun σ H' hv => ?_)⟩
      · obtain ⟨rfl, _⟩ := hv
        exact SqL.of hlv
      · obtain ⟨rfl, o1, o2, o3, o4, o5, o6, o7, rfl⟩ := hv
        obtain ⟨rfl, hy⟩ := hy
        obtain ⟨v, hv, ⟨⟨r, rq, rfl, hr1, hr2⟩⟩⟩ := hvv.at hy
        have hvm := List.mem_of_getElem? hv
        refine ⟨r, _, rfl, SqT.of hr1, rfl, _, _, rfl, _, _, rfl, _, _, rfl, rfl, ?_⟩
        have hm0 : 0 < CM.perGo 1 (CM.ns (lo.ps.take i) ++ (p.vias.map (·.n)).take j) := CM.perGo_pos _ (by omega) fun n hn => hns n (hsub j n hn)
        have hmM : CM.perGo 1 (CM.ns (lo.ps.take i) ++ (p.vias.map (·.n)).take j) ≤ 60 := Int.le_of_dvd (by decide) (CM.perGo_of _ (by omega) (by decide) (fun n hn => hns n (hsub j n hn)) (Int.one_dvd _) fun n hn => hok.dv n (hsub j n hn))
        have hv0 := ((hok.ok p hpm).vias v hvm).n
        have hv1 := ((hok.fine p hpm).vn v hvm).1
        have htk : (p.vias.map (·.n)).take (j + 1) = (p.vias.map (·.n)).take j ++ [v.n] := by
          rw [List.take_succ, List.getElem?_map, hv]
          rfl
        have hstep : CM.perGo 1 (CM.ns (lo.ps.take i) ++ (p.vias.map (·.n)).take (j + 1)) = CM.perStep (CM.perGo 1 (CM.ns (lo.ps.take i) ++ (p.vias.map (·.n)).take j)) v.n := by
          rw [htk, ← List.append_assoc]
          unfold CM.perGo
          rw [List.foldl_append]
          rfl
        generalize CM.perGo 1 (CM.ns (lo.ps.take i) ++ (p.vias.map (·.n)).take j) = m at *
        refine ⟨_, rfl, _, rfl, rq, _, 0, .int v.n, rfl, rfl, SqT.of hr2, rfl, m, v.n, rfl, hm0, by omega, hv0, by omega, rfl, _, _, _, _, _, _, _, by rw [hstep]; rfl⟩
      · obtain ⟨rfl, o1, o2, o3, o4, o5, o6, o7, rfl⟩ := hv
        refine ⟨rfl, o1, o2, o3, o4, o5, o6, o7, ?_⟩
        rw [htake, show vv.length = (p.vias.map (·.n)).length by rw [hvv.1, List.length_map], List.take_length]
    · obtain ⟨rfl, o1, o2, o3, o4, o5, o6, o7, rfl⟩ := hv
      rw [hx.1, List.take_length]
      have e : CM.perGo 1 (CM.ns lo.ps) = lo.T := hok.eqT.symm
      rw [e]
      exact ⟨_, rfl, k⟩
end
end CZ
set_option Elab.async false
set_option linter.all false
set_option maxRecDepth 100000
set_option maxHeartbeats 4000000
namespace CZ
open PySem PySem.Spec PyProof.Rows L2
/-! ### the law's carrying -/
def atN (side : Bool) : Int := if side then 2 else 1
section
variable {P : Program} {w : World} {K : PySem.W.Frag} {mg : Str → Option Value} {base : Heap}
theorem r_q_carry (Z : Zed K mg base) : Rn P w K mg base 2 (a_q_carry K) (spQCarry K) := by
  have R_q_round := r_q_round (P := P) (w := w) Z
  refine rn_of (u_q_carry Z) sco_q_carry (fun _ _ _ _ _ _ us hl => match us, hl with | [_, _, _], _ => rfl) (fun vs H Q E h => ?_) (fun cdv A outer s H vs Q E hr h => ?_)
  · obtain ⟨v, p, side, t, rfl, _⟩ := h
    rfl
  · refine ⟨_, (pss_cons (ps_asg (pv 0) (pg_tupK K (n := 4) rfl (pgs_cons (pg_name (i := 3) sco_q_carry.nd rfl (Or.inl rfl)) (pgs_cons (pg_name (i := 4) sco_q_carry.nd rfl (Or.inl rfl)) (pgs_cons (pg_name (i := 5) sco_q_carry.nd rfl (Or.inl rfl)) (pgs_cons (pg_name (i := 6) sco_q_carry.nd rfl (Or.inl rfl)) pgs_nil))))))
      (pss_cons (ps_set (i := 7) sco_q_carry.nd rfl (Or.inl rfl) (pe_op op_add pe_int (pe_callTy call_int1 (by rfl) (f_int Z) (by decide +kernel) (pa_cons (pe_cmpR op_eq (pv 1) pe_str (nomark _)) pa_nil))))
      (pss_cons (ps_par (i := 8) (j := 9) rfl sco_q_carry.nd rfl rfl (by decide) rfl rfl (pa_cons (pe_op op_sub (pe_op op_mul (pv 2) (pe_ix (ix_tupK K) (pv 4) pe_int (fun _ _ => rfl))) (pe_ix (ix_tupK K) (pv 4) pe_int (fun _ _ => rfl))) (pa_cons (pe_ix (ix_tupK K) (pv 4) pe_int (fun _ _ => rfl)) pa_nil)) (by rfl))
      (pss_cons (ps_for PassesOwn.never rfl (pi_listK K (pv 5)) (pg_name (i := 10) sco_q_carry.nd rfl (Or.inl rfl))
        (pss_cons (ps_set (i := 11) sco_q_carry.nd rfl (Or.inl rfl) (pe_r R_q_round (g_q_round Z) hr (by rfl) (pa_cons (pe_op op_mul (pv 8) (pe_ix (ix_tupK K) (pe_ix (ix_tupK K) (pv 10) pe_int (fun _ _ => rfl)) pe_int (fun _ _ => rfl))) (pa_cons (pe_op op_mul (pv 9) (pe_ix (ix_tupK K) (pe_ix (ix_tupK K) (pv 10) pe_int (fun _ _ => rfl)) pe_int (fun _ _ => rfl))) (pa_cons (pe_ix (ix_tupK K) (pv 10) (pv 7) (fun _ _ => rfl)) pa_nil)))))
        (pss_one (ps_par (i := 8) (j := 9) rfl sco_q_carry.nd rfl rfl (by decide) rfl rfl (pa_cons (pe_op op_mul (pv 11) (pe_ix (ix_tupK K) (pe_ix (ix_tupK K) (pv 10) pe_int (fun _ _ => rfl)) pe_int (fun _ _ => rfl))) (pa_cons (pe_ix (ix_tupK K) (pe_ix (ix_tupK K) (pv 10) pe_int (fun _ _ => rfl)) pe_int (fun _ _ => rfl)) pa_nil)) (by rfl)))))
      (pss_one (ps_ret (pe_r R_q_round (g_q_round Z) hr (by rfl) (pa_cons (pe_op op_add (pe_op op_mul (pv 8) (pe_ix (ix_tupK K) (pv 4) pe_int (fun _ _ => rfl))) (pe_op op_mul (pe_ix (ix_tupK K) (pv 4) pe_int (fun _ _ => rfl)) (pv 9))) (pa_cons (pe_op op_mul (pv 9) (pe_ix (ix_tupK K) (pv 4) pe_int (fun _ _ => rfl))) (pa_cons (pe_ix (ix_tupK K) (pv 6) (pe_op op_sub (pv 7) pe_int) (fun _ _ => rfl)) pa_nil)))))))))), ?_⟩
    obtain ⟨v, p, side, t, rfl, ⟨a, q, lv, bk, vv, rfl, ha, hb, hlv, hx, hbk⟩, hp, k⟩ := h
    have b0 := hp.ok.bd
    have b1 := hp.b1
    have b2 := hp.b2
    refine ⟨_, rfl, a, _, rfl, SqT.of ha, rfl, _, _, rfl, _, _, rfl, _, _, rfl, _, _, rfl, rfl, ?_⟩
    refine ⟨_, rfl, rfl, .inr ⟨_, rfl, _, _, rfl, rfl, ?_⟩⟩
    have hat : ((fun i j => V.int (i + j)) 1 (if decide (V.str (sideS side) = V.str (Str.ofString "end")) = true then (1 : Int) else 0)) = V.int (atN side) := by cases side <;> rfl
    rw [hat]
    refine ⟨_, rfl, _, rfl, q, _, 1, .int p.bd, rfl, rfl, SqT.of hb, rfl, _, _, rfl, rfl, .inr (by omega), _, rfl, q, _, 0, .int p.bn, rfl, rfl, SqT.of hb, rfl, _, _, rfl, rfl, ?_⟩
    refine ⟨_, rfl, q, _, 1, .int p.bd, rfl, rfl, SqT.of hb, rfl, _, _, rfl, ?_⟩
    refine ⟨_, rfl, lv, rfl, ⟨_, SqL.of hlv⟩, for_it (walk_list (xs := vv)) (fun i σ H' => H' = H ∧ ∃ (x u : Int) (o1 o2 : Option V), σ = [some (.ref a), some (.str (sideS side)), some (.int t), some (.str (nmS p)), some (.ref q), some (.ref lv), some (.ref bk), some (.int (atN side)), some (.int x), some (.int u), o1, o2] ∧
      0 < u ∧ u ≤ 9999 ∧ CM.viaGo side (p.vias.drop i) x u = CM.viaGo side p.vias (t * p.bd - p.bn) p.bd) ⟨rfl, _, _, _, _, rfl, b0, b1, rfl⟩ (fun i σ H' _ hv => ?_) (fun i x σ H1 H2 hi hv hy => ?_) (fun σ H' hv => ?_)⟩
    · obtain ⟨rfl, _⟩ := hv
      exact SqL.of hlv
    · obtain ⟨rfl, x, u, o1, o2, rfl, u0, u1, hg⟩ := hv
      obtain ⟨rfl, hxx⟩ := hy
      obtain ⟨v, hv, ⟨⟨r, rq, rfl, hr1, hr2⟩⟩⟩ := hx.at hxx
      have hvm := List.mem_of_getElem? hv
      have v1 := hp.ok.vias v hvm
      have v2 := hp.vn v hvm
      have v0 := v1.n
      have v3 := v1.d
      have z1 : 0 < u * v.n := Int.mul_pos u0 v0
      have z2 : u * v.n ≤ 9999 * 9999 := Int.mul_le_mul u1 v2.1 (by omega) (by omega)
      refine ⟨_, rfl, _, rfl, r, _, 0, .ref rq, rfl, rfl, SqT.of hr1, rfl, rq, _, 1, .int v.d, rfl, rfl, SqT.of hr2, rfl, _, _, rfl, rfl, .inr (by omega), ?_⟩
      refine ⟨_, rfl, _, rfl, r, _, 0, .ref rq, rfl, rfl, SqT.of hr1, rfl, rq, _, 0, .int v.n, rfl, rfl, SqT.of hr2, rfl, _, _, rfl, rfl, .inr (by omega), ?_⟩
      refine ⟨_, rfl, _, rfl, r, _, atN side, .str (howS (CM.hw side v.h)), rfl, rfl, SqT.of hr1, by cases side <;> rfl, ?_⟩
      refine ⟨_, _, CM.hw side v.h, rfl, z1, by omega, ?_⟩
      refine ⟨_, rfl, _, rfl, r, _, 0, .ref rq, rfl, rfl, SqT.of hr1, rfl, rq, _, 0, .int v.n, rfl, rfl, SqT.of hr2, rfl, _, _, rfl, rfl, .inr (by omega), ?_⟩
      refine ⟨_, rfl, r, _, 0, .ref rq, rfl, rfl, SqT.of hr1, rfl, rq, _, 1, .int v.d, rfl, rfl, SqT.of hr2, rfl, _, _, rfl, ?_⟩
      exact ⟨rfl, _, _, _, _, rfl, v3, v2.2, by rw [← hg, viaGo_drop side hv]⟩
    · obtain ⟨rfl, x, u, o1, o2, rfl, u0, u1, hg⟩ := hv
      rw [hx.1, List.drop_length] at hg
      have z1 : 0 < u * p.bd := Int.mul_pos u0 b0
      have z2 : u * p.bd ≤ 9999 * 9999 := Int.mul_le_mul u1 b1 (by omega) (by omega)
      refine ⟨_, rfl, _, rfl, q, _, 1, .int p.bd, rfl, rfl, SqT.of hb, rfl, _, _, rfl, rfl, .inr (by omega), _, rfl, q, _, 0, .int p.bn, rfl, rfl, SqT.of hb, rfl, _, rfl, _, _, rfl, rfl, .inl (by omega), _, _, rfl, rfl, ?_⟩
      refine ⟨_, rfl, _, rfl, q, _, 1, .int p.bd, rfl, rfl, SqT.of hb, rfl, _, _, rfl, rfl, .inr (by omega), _, rfl, _, rfl, _, _, rfl, rfl, ?_⟩
      refine ⟨bk, _, atN side - 1, .str (howS (CM.hw side p.back)), rfl, rfl, SqT.of hbk, by cases side <;> rfl, ?_⟩
      refine ⟨_, _, CM.hw side p.back, rfl, z1, by omega, ?_⟩
      have e : CM.rnd (CM.hw side p.back) (x * p.bd + p.bn * u) (u * p.bd) = CM.carry p side t := by
        unfold CM.carry
        rw [← hg]
        rfl
      rw [e]
      exact k
end
end CZ
set_option Elab.async false
set_option linter.all false
set_option maxRecDepth 100000
set_option maxHeartbeats 4000000
namespace CZ
open PySem PySem.Spec PyProof.Rows L2
/-! ### pairs, saved -/
theorem merge3 {k1 k2 k3 : Key} {v1 v2 v3 : V} (h : k1 ≠ k2) (h2 : k1 ≠ k3) (h3 : k2 ≠ k3) : mergeK [] [(k1, v1), (k2, v2), (k3, v3)] = [(k1, v1), (k2, v2), (k3, v3)] := by
  simp [mergeK, putK, h, h2, h3]
def spQNamesOf (K : PySem.W.Frag) : Sp := fun vs H Q _ => ∃ (v : V) (lo : Lo), vs = [v] ∧ LoreAt H v lo ∧ LoOk lo ∧ ∀ l H', H l = none → Ex H H' → H' l = some (.lst ((lo.ps.map nmS).map V.str)) → Q (.ref l) H'
def spQProgram (K : PySem.W.Frag) : Sp := fun vs H Q _ => ∃ (v : V) (lo : Lo) (p : CM.Prg), vs = [v, .str (nmS p)] ∧ LoreAt H v lo ∧ LoOk lo ∧ (lo.ps.map nmS).Nodup ∧ p ∈ lo.ps ∧ ∀ y H', Ex H H' → LPrg H' y p → Q y H'
def spQKind : Sp := fun vs H Q _ => ∃ b : Bool, vs = [.str (kindOf b)] ∧ ∀ q H', Ex H H' → H' q = some (.tup [.str (sideS false), .str (sideS (!b))]) → Q (.ref q) H'
def spQPair (K : PySem.W.Frag) : Sp := fun vs H Q _ => ∃ (v : V) (lo : Lo) (b : Bool) (q : Addr) (x y : Int) (p : CM.Prg), vs = [v, .str (kindOf b), .ref q, .str (nmS p)] ∧ LoreAt H v lo ∧ LoOk lo ∧ (lo.ps.map nmS).Nodup ∧ p ∈ lo.ps ∧ SqT K H q [.int x, .int y] ∧
  ∀ r H', H r = none → Ex H H' → H' r = some (.tup [.int (CM.carry p false x), .int (CM.carry p (!b) y)]) → Q (.ref r) H'
section
variable {P : Program} {w : World} {K : PySem.W.Frag} {mg : Str → Option Value} {base : Heap}
theorem r_q_program_names (Z : Zed K mg base) : Rn P w K mg base 1 (a_q_program_names K) (spQNamesOf K) := by
  refine rn_of (u_q_program_names Z) sco_q_program_names (fun _ _ _ _ _ _ us hl => match us, hl with | [_], _ => rfl) (fun vs H Q E h => ?_) (fun cdv A outer s H vs Q E hr h => ?_)
  · obtain ⟨v, lo, rfl, _⟩ := h
    rfl
  · refine ⟨_, (pss_one (ps_ret (pe_lc (own := [("_law_program_here", 1)]) (g := gName 1) (tt := tYes) rfl sco_q_program_names.nd (pi_listK K (pe_dget (hu_of hr) (pv 0) pe_str (fun _ _ => rfl))) (blkOk_by (by kernel_rfl)) (fun _ _ _ _ _ => (pg_name (i := 1) sco_q_program_names.nd rfl (Or.inl rfl))) (fun _ _ _ _ _ => pts_nil) (fun _ _ _ _ _ => (pe_ix (ix_tupK K) (pv 1) pe_int (fun _ _ => rfl)))))), ?_⟩
    obtain ⟨v, lo, rfl, hlo, hok, k⟩ := h
    obtain ⟨a, l, xs, rfl, ha, hl, hx⟩ := hlo.ex
    refine ⟨_, rfl, a, .ref l, rfl, DGet.k (k := keyS "programs") ha, l, rfl, ⟨_, SqL.of hl⟩, fun D hD => ?_⟩
    refine lc_all walk_list (fun i y H' => ∃ p, lo.ps[i]? = some p ∧ y = V.str (nmS p)) hD (by rw [hx.1]; have := hok.len; omega) (fun i y H1 H2 e h => h) (fun H' e => SqL.of (e _ _ hl)) (fun i x H1 H2 Qe hi e1 _ hy q => ?_) gname_mono (fun H' ys e1 h1 hn h7 => ?_)
    · obtain ⟨rfl, hx1⟩ := hy
      obtain ⟨p, hp, ⟨t, q1, lv, bk, vv, rfl, ht, _⟩⟩ := hx.at hx1
      exact ⟨rfl, _, rfl, t, _, 0, .str (nmS p), rfl, rfl, SqT.of (e1 _ _ ht), rfl, q _ _ (Evl.Ex.refl _) ⟨p, hp, rfl⟩⟩
    · refine k D H' hD e1 ?_
      rw [h1]
      congr 2
      apply List.ext_getElem?
      intro i
      rw [List.getElem?_map, List.getElem?_map]
      cases hy : ys[i]? with
      | some y =>
        obtain ⟨p, hp, rfl⟩ := h7 i y hy
        rw [hp]
        rfl
      | none =>
        have h9 := List.getElem?_eq_none_iff.mp hy
        rw [List.getElem?_eq_none_iff.mpr (by rw [← hx.1]; omega)]
        rfl
theorem r_q_program (Z : Zed K mg base) : Rn P w K mg base 1 (a_q_program K) (spQProgram K) := by
  refine rn_of (u_q_program Z) sco_q_program (fun _ _ _ _ _ _ us hl => match us, hl with | [_, _], _ => rfl) (fun vs H Q E h => ?_) (fun cdv A outer s H vs Q E hr h => ?_)
  · obtain ⟨v, lo, p, rfl, _⟩ := h
    rfl
  · refine ⟨_, (pss_one (ps_ret (pe_ix (ix_listK K) (pe_lc (own := [("_law_program_here", 2)]) (g := gName 2) rfl sco_q_program.nd (pi_listK K (pe_dget (hu_of hr) (pv 0) pe_str (fun _ _ => rfl))) (blkOk_by (by kernel_rfl)) (fun _ _ _ _ _ => (pg_name (i := 2) sco_q_program.nd rfl (Or.inl rfl))) (fun _ _ _ _ _ => pts_one (pt_cmpR op_eq (pe_ix (ix_tupK K) (pv 2) pe_int (fun _ _ => rfl)) (pv 1) (nomark _))) (fun _ _ _ _ _ => (pv 2))) pe_int (fun _ _ => rfl)))), ?_⟩
    obtain ⟨v, lo, p, rfl, hlo, hok, hnd, hp, k⟩ := h
    obtain ⟨a, l, xs, rfl, ha, hl, hx⟩ := hlo.ex
    obtain ⟨j, hj⟩ := List.mem_iff_getElem?.mp hp
    obtain ⟨xj, hxj, hpj⟩ := hx.to hj
    have hjl := (List.getElem?_eq_some_iff.mp hxj).1
    refine ⟨_, rfl, a, .ref l, rfl, DGet.k (k := keyS "programs") ha, l, rfl, ⟨_, SqL.of hl⟩, fun D hD => ?_⟩
    refine lc_it walk_list (fun i H' => Ex H H' ∧ H' D = some (.lst (if j < i then [xj] else []))) ⟨Evl.Ex.new hD, by rw [if_neg (by omega)]; exact upd_same⟩ (fun i H' hi p => SqL.of (p.1 _ _ hl)) (fun i x H1 H2 hi p hy => ?_) fun H' hpv => ?_
    · obtain ⟨e1, h1⟩ := p
      obtain ⟨rfl, hx1⟩ := hy
      obtain ⟨p2, hp2, ⟨t, q1, lv, bk, vv, rfl, ht, _⟩⟩ := hx.at hx1
      refine ⟨rfl, ?_⟩
      refine ⟨_, rfl, t, _, 0, .str (nmS p2), rfl, rfl, SqT.of (e1 _ _ ht), rfl, _, rfl, rfl, _, rfl, ?_⟩
      by_cases hij : i = j
      · subst hij
        rw [hj] at hp2
        cases hp2
        rw [hxj] at hx1
        cases hx1
        rw [if_pos (decide_eq_true rfl)]
        refine ⟨_, rfl, _, h1, by rw [if_neg (by omega)]; show 0 < sizeLine; decide, Evl.Ex.mut e1 hD, ?_⟩
        rw [upd_same, if_neg (by omega), if_pos (by omega)]
        rfl
      · have hne : nmS p2 ≠ nmS p := fun z => hij (by
          have h1 : (lo.ps.map nmS)[i]? = some (nmS p2) := by rw [List.getElem?_map, hp2]; rfl
          have h2 : (lo.ps.map nmS)[j]? = some (nmS p) := by rw [List.getElem?_map, hj]; rfl
          exact (List.getElem?_inj (List.getElem?_eq_some_iff.mp h1).1 hnd).mp (by rw [h1, h2, z]))
        rw [decide_eq_false (show ¬ V.str (nmS p2) = V.str (nmS p) from fun z => hne (by injection z))]
        refine iteF ⟨e1, ?_⟩
        rw [h1]
        by_cases hlt : j < i
        · rw [if_pos hlt, if_pos (by omega)]
        · rw [if_neg hlt, if_neg (by omega)]
    · obtain ⟨e1, h1⟩ := hpv
      rw [if_pos hjl] at h1
      exact ⟨D, _, 0, xj, rfl, rfl, SqL.of h1, rfl, k _ _ e1 (hpj.mono e1)⟩
theorem r_q_kind_sides (Z : Zed K mg base) : Rn P w K mg base 1 (a_q_kind_sides K) spQKind := by
  refine rn_of (u_q_kind_sides Z) sco_q_kind_sides (fun _ _ _ _ _ _ us hl => match us, hl with | [_], _ => rfl) (fun vs H Q E h => ?_) (fun cdv A outer s H vs Q E hr h => ?_)
  · obtain ⟨b, rfl, _⟩ := h
    rfl
  · refine ⟨_, (pss_one (ps_ret (pe_dget (hu_of hr) (pe_disp (pps_cons pe_str (pe_tup (pa_cons pe_str (pa_cons pe_str pa_nil))) (pps_cons pe_str (pe_tup (pa_cons pe_str (pa_cons pe_str pa_nil))) (pps_cons pe_str (pe_tup (pa_cons pe_str (pa_cons pe_str pa_nil))) pps_nil))) (by rfl) (by rfl) (fun z => by cases z) (by decide)) (pv 0) (fun _ _ => rfl)))), ?_⟩
    obtain ⟨b, rfl, k⟩ := h
    refine fun D hD => ⟨by show 2 ≤ sizeLine; decide, fun t1 ht1 => ⟨by show 2 ≤ sizeLine; decide, fun t2 ht2 => ⟨by show 2 ≤ sizeLine; decide, fun t3 ht3 => ?_⟩⟩⟩
    have e0 : Ex H (upd H D (.dK [])) := Evl.Ex.new hD
    have e1 := Evl.Ex.new (o := .tup [.str "start", .str "end"]) ht1
    have e2 := Evl.Ex.new (o := .tup [.str "end", .str "start"]) ht2
    have e3 := Evl.Ex.new (o := .tup [.str "start", .str "start"]) ht3
    have h1 := e3 _ _ (e2 _ _ (upd_same (a := t1) (o := .tup [.str "start", .str "end"]) (H := upd H D (.dK []))))
    have h3 := upd_same (a := t3) (o := .tup [.str "start", .str "start"]) (H := upd (upd (upd H D (.dK [])) t1 (.tup [.str "start", .str "end"])) t2 (.tup [.str "end", .str "start"]))
    have hDD := e3 _ _ (e2 _ _ (e1 _ _ (upd_same (a := D) (o := .dK []) (H := H))))
    have eA := ((e0.trans e1).trans e2).trans e3
    generalize upd (upd (upd (upd H D (.dK [])) t1 (.tup [.str "start", .str "end"])) t2 (.tup [.str "end", .str "start"])) t3 (.tup [.str "start", .str "start"]) = HF at *
    refine ⟨hDD, [(keyS "length", .ref t1), (keyS "gap", .ref t2), (keyS "room", .ref t3)], rfl, by show 3 ≤ 15; decide, ?_⟩
    rw [merge3 (by decide +kernel) (by decide +kernel) (by decide +kernel)]
    have n1 : t1 ≠ D := fun z => by rw [z, hDD] at h1; cases h1
    have n3 : t3 ≠ D := fun z => by rw [z, hDD] at h3; cases h3
    have eF : Ex H (upd HF D (.dK [(keyS "length", .ref t1), (keyS "gap", .ref t2), (keyS "room", .ref t3)])) := Evl.Ex.mut eA hD
    cases b with
    | false => exact ⟨_, rfl, D, .ref t1, rfl, DGet.k (k := keyS "length") upd_same, k t1 _ eF (by rw [upd_ne n1]; exact h1)⟩
    | true => exact ⟨_, rfl, D, .ref t3, rfl, DGet.k (k := keyS "room") upd_same, k t3 _ eF (by rw [upd_ne n3]; exact h3)⟩
theorem r_q_pair_saved (Z : Zed K mg base) : Rn P w K mg base 3 (a_q_pair_saved K) (spQPair K) := by
  have R_q_program := r_q_program (P := P) (w := w) Z
  have R_q_kind_sides := r_q_kind_sides (P := P) (w := w) Z
  have R_q_carry := r_q_carry (P := P) (w := w) Z
  refine rn_of (u_q_pair_saved Z) sco_q_pair_saved (fun _ _ _ _ _ _ us hl => match us, hl with | [_, _, _, _], _ => rfl) (fun vs H Q E h => ?_) (fun cdv A outer s H vs Q E hr h => ?_)
  · obtain ⟨v, lo, b, q, x, y, p, rfl, _⟩ := h
    rfl
  · refine ⟨_, (pss_cons (ps_par (i := 4) (j := 5) rfl sco_q_pair_saved.nd rfl rfl (by decide) rfl rfl (pa_cons (pe_r R_q_program (g_q_program Z) hr (by rfl) (pa_cons (pv 0) (pa_cons (pv 3) pa_nil))) (pa_cons (pe_r R_q_kind_sides (g_q_kind_sides Z) hr (by rfl) (pa_cons (pv 1) pa_nil)) pa_nil)) (by rfl))
      (pss_one (ps_ret (pe_tup (pa_cons (pe_r R_q_carry (g_q_carry Z) hr (by rfl) (pa_cons (pv 4) (pa_cons (pe_ix (ix_tupK K) (pv 5) pe_int (fun _ _ => rfl)) (pa_cons (pe_ix (ix_tupK K) (pv 2) pe_int (fun _ _ => rfl)) pa_nil)))) (pa_cons (pe_r R_q_carry (g_q_carry Z) hr (by rfl) (pa_cons (pv 4) (pa_cons (pe_ix (ix_tupK K) (pv 5) pe_int (fun _ _ => rfl)) (pa_cons (pe_ix (ix_tupK K) (pv 2) pe_int (fun _ _ => rfl)) pa_nil)))) pa_nil)))))), ?_⟩
    obtain ⟨v, lo, b, q, x, y, p, rfl, hlo, hok, hnd, hp, hq, k⟩ := h
    refine ⟨_, rfl, _, rfl, v, lo, p, rfl, hlo, hok, hnd, hp, fun py H1 e1 hpy => ?_⟩
    refine ⟨_, rfl, b, rfl, fun sq H2 e2 hsq => ?_⟩
    have hq2 := Evl.ex_t (e1.trans e2) hq
    have hf := hok.fine p hp
    refine ⟨_, _, rfl, _, rfl, _, rfl, sq, _, 0, .str (sideS false), rfl, rfl, SqT.of hsq, rfl, _, rfl, q, _, 0, .int x, rfl, rfl, hq2, rfl, py, p, false, x, rfl, hpy.mono e2, hf, ?_⟩
    refine ⟨_, rfl, _, rfl, sq, _, 1, .str (sideS (!b)), rfl, rfl, SqT.of hsq, rfl, _, rfl, q, _, 1, .int y, rfl, rfl, hq2, rfl, py, p, !b, y, rfl, hpy.mono e2, hf, ?_⟩
    refine ⟨by show 2 ≤ sizeLine; decide, fun r hr2 => k r _ (Evl.fresh_back (e1.trans e2) hr2) ((e1.trans e2).trans (Evl.Ex.new hr2)) upd_same⟩
end
end CZ
set_option Elab.async false
set_option linter.all false
set_option maxRecDepth 100000
set_option maxHeartbeats 4000000
namespace CZ
open PySem PySem.Spec PyProof.Rows L2
/-! ### the law's row of lengths, as it is asked -/
theorem atI_ext {F : List Int} {T : Nat} (hl : F.length = T) (hT : 0 < T) (t : Int) : atI (F.map V.int) (t % T) = some (.int (F.getD (t % T).toNat 0)) := by
  have h0 := Int.emod_nonneg t (show (T : Int) ≠ 0 by omega)
  have h1 := Int.emod_lt_of_pos t (show (0 : Int) < T by omega)
  have hlt : (t % T).toNat < F.length := by omega
  have e : t % T = ((t % T).toNat : Nat) := by omega
  rw [show atI (F.map V.int) (t % T) = atI (F.map V.int) ((t % T).toNat : Nat) by rw [← e]]
  refine atI_nat ?_
  rw [List.getElem?_map, List.getElem?_eq_getElem hlt, List.getD_eq_getElem?_getD, List.getElem?_eq_getElem hlt]
  rfl
def spQLeastThere (K : PySem.W.Frag) : Sp := fun vs H Q _ => ∃ (l : Addr) (F : List Int) (T : Nat) (t : Int), vs = [.ref l, .int T, .int t] ∧ SqL K H l (F.map V.int) ∧ F.length = T ∧ 0 < T ∧ T ≤ 60 ∧ Q (.int (CM.ext F T t)) H
/-- the law's stairs stand -/
def StrAt (K : PySem.W.Frag) (H : Hp) (lo : Lo) (w : V) : Prop := (w = .non ∧ ¬ CM.Ever lo.ls) ∨ ∃ fl F, w = .ref fl ∧ SqL K H fl (F.map V.int) ∧ F.length = lo.T ∧ ∀ x y, CM.ext F lo.T x ≤ y ↔ LastsLo lo (x, y)
theorem StrAt.mono {K : PySem.W.Frag} {H H' : Hp} {lo : Lo} {w : V} (h : StrAt K H lo w) (e : Ex H H') : StrAt K H' lo w := h.imp id fun ⟨fl, F, h1, h2, h3⟩ => ⟨fl, F, h1, Evl.ex_l e h2, h3⟩
/-- what the law's functions ask of a lore -/
structure LoreOk (H : Hp) (v : V) (lo : Lo) : Prop where
  at_ : LoreAt H v lo
  ok : LoOk lo
  nd : (lo.ps.map nmS).Nodup
theorem LoreOk.mono {H H' : Hp} {v : V} {lo : Lo} (h : LoreOk H v lo) (e : Ex H H') : LoreOk H' v lo := ⟨h.at_.mono e, h.ok, h.nd⟩
def spQCan (K : PySem.W.Frag) : Sp := fun vs H Q _ => ∃ (v : V) (lo : Lo) (nl sq fl : Addr) (F : List Int) (t pl : Int), vs = [v, .ref nl, .ref sq, .int lo.T, .ref fl, .int t, .int pl] ∧ LoreOk H v lo ∧ SqL K H nl ((lo.ps.map nmS).map V.str) ∧ SqT K H sq [.str (sideS false), .str (sideS true)] ∧ SqL K H fl (F.map V.int) ∧ F.length = lo.T ∧
  ∀ b H', Ex H H' → (b = true ↔ CM.CanStay lo.T lo.ls F t pl) → Q (.bl b) H'
def spQDoes (K : PySem.W.Frag) : Sp := fun vs H Q _ => ∃ (v : V) (lo : Lo) (w : V) (q : Addr) (x y : Int), vs = [v, .str (kindOf false), w, .ref q] ∧ LoreOk H v lo ∧ StrAt K H lo w ∧ SqT K H q [.int x, .int y] ∧ ∀ b H', Ex H H' → (b = true ↔ LastsLo lo (x, y)) → Q (.bl b) H'
def spQInSh (K : PySem.W.Frag) : Sp := fun vs H Q _ => ∃ (v : V) (lo : Lo) (sh q : Addr) (xs : List V) (cs : List (Int × Int)) (x y : Int), vs = [v, .ref sh, .ref q] ∧ LoreOk H v lo ∧ SqT K H sh xs ∧ Pw (PairL H) xs cs ∧ SqT K H q [.int x, .int y] ∧ ∀ b H', Ex H H' → (b = true ↔ CM.InSh lo.T cs (x, y)) → Q (.bl b) H'
def spQCutFine (K : PySem.W.Frag) : Sp := fun vs H Q _ => ∃ (v : V) (lo : Lo) (w : V) (q : Addr) (x y : Int), vs = [v, w, .ref q] ∧ LoreOk H v lo ∧ StrAt K H lo w ∧ SqT K H q [.int x, .int y] ∧ ∀ b H', Ex H H' → (b = true ↔ SoundRo lo (x, y)) → Q (.bl b) H'
section
variable {P : Program} {w : World} {K : PySem.W.Frag} {mg : Str → Option Value} {base : Heap}
theorem r_q_least_there (Z : Zed K mg base) : Rn P w K mg base 1 (a_q_least_there K) (spQLeastThere K) := by
  refine rn_of (u_q_least_there Z) sco_q_least_there (fun _ _ _ _ _ _ us hl => match us, hl with | [_, _, _], _ => rfl) (fun vs H Q E h => ?_) (fun cdv A outer s H vs Q E hr h => ?_)
  · obtain ⟨l, F, T, t, rfl, _⟩ := h
    rfl
  · refine ⟨_, (pss_one (ps_ret (pe_op op_add (pe_ix (ix_listK K) (pv 0) (pe_op op_mod (pe_callTy call_int1 (by rfl) (f_int Z) (by decide +kernel) (pa_cons (pv 2) pa_nil)) (pv 1)) (fun _ _ => rfl)) (pe_op op_mul (pe_op op_fdiv (pe_callTy call_int1 (by rfl) (f_int Z) (by decide +kernel) (pa_cons (pv 2) pa_nil)) (pv 1)) (pv 1))))), ?_⟩
    obtain ⟨l, F, T, t, rfl, hF, hl, hT, hT2, k⟩ := h
    refine ⟨_, rfl, _, rfl, .inl ⟨_, rfl, _, rfl, _, _, rfl, rfl, by omega, l, _, _, .int _, rfl, rfl, hF, atI_ext hl hT t, _, rfl, .inl ⟨_, rfl, _, rfl, _, _, rfl, rfl, ⟨by omega, by omega⟩, _, rfl, _, _, rfl, rfl, .inr (by omega), _, _, rfl, rfl, ?_⟩⟩⟩
    exact k
theorem r_q_can_stay (Z : Zed K mg base) : Rn P w K mg base 3 (a_q_can_stay K) (spQCan K) := by
  have R_q_program := r_q_program (P := P) (w := w) Z
  have R_q_carry := r_q_carry (P := P) (w := w) Z
  have R_q_least_there := r_q_least_there (P := P) (w := w) Z
  refine rn_of (u_q_can_stay Z) sco_q_can_stay (fun _ _ _ _ _ _ us hl => match us, hl with | [_, _, _, _, _, _, _], _ => rfl) (fun vs H Q E h => ?_) (fun cdv A outer s H vs Q E hr h => ?_)
  · obtain ⟨v, lo, nl, sq, fl, F, t, pl, rfl, _⟩ := h
    rfl
  · refine ⟨_, (pss_cons (ps_for PassesOwn.never rfl (pi_listK K (pv 1)) (pg_name (i := 7) sco_q_can_stay.nd rfl (Or.inl rfl))
        (pss_cons (ps_set (i := 8) sco_q_can_stay.nd rfl (Or.inl rfl) (pe_r R_q_program (g_q_program Z) hr (by rfl) (pa_cons (pv 0) (pa_cons (pv 7) pa_nil))))
        (pss_cons (ps_set (i := 9) sco_q_can_stay.nd rfl (Or.inl rfl) (pe_r R_q_carry (g_q_carry Z) hr (by rfl) (pa_cons (pv 8) (pa_cons (pe_ix (ix_tupK K) (pv 2) pe_int (fun _ _ => rfl)) (pa_cons (pv 5) pa_nil)))))
        (pss_cons (ps_set (i := 10) sco_q_can_stay.nd rfl (Or.inl rfl) (pe_r R_q_carry (g_q_carry Z) hr (by rfl) (pa_cons (pv 8) (pa_cons (pe_ix (ix_tupK K) (pv 2) pe_int (fun _ _ => rfl)) (pa_cons (pv 6) pa_nil)))))
        (pss_one (ps_if (pt_cmpR op_lt (pv 10) (pe_r R_q_least_there (g_q_least_there Z) hr (by rfl) (pa_cons (pv 4) (pa_cons (pv 3) (pa_cons (pv 9) pa_nil)))) (nomark _))
          (pss_one (ps_ret pe_bl))
          pss_nil))))))
      (pss_one (ps_ret pe_bl))), ?_⟩
    obtain ⟨v, lo, nl, sq, fl, F, t, pl, rfl, hlo, hnl, hsq, hF, hFl, k⟩ := h
    have hT := hlo.ok.T1
    refine ⟨_, rfl, nl, rfl, ⟨_, hnl⟩, for_it (walk_list (xs := (lo.ps.map nmS).map V.str)) (fun i σ H' => ∃ (o1 o2 o3 o4 : Option V), σ = [some v, some (.ref nl), some (.ref sq), some (.int lo.T), some (.ref fl), some (.int t), some (.int pl), o1, o2, o3, o4] ∧ Ex H H' ∧ ∀ (j : Nat) (p : CM.Prg), j < i → lo.ps[j]? = some p → CM.ext F lo.T (CM.carry p false t) ≤ CM.carry p true pl) ⟨_, _, _, _, rfl, Evl.Ex.refl _, fun j p z => absurd z (Nat.not_lt_zero _)⟩ (fun i σ H' _ hv => ?_) (fun i x σ Hx H2 hi hv hy => ?_) (fun σ H' hv => ?_)⟩
    · obtain ⟨_, _, _, _, rfl, e, _⟩ := hv
      exact Evl.ex_l e hnl
    · obtain ⟨o1, o2, o3, o4, rfl, e1, hj⟩ := hv
      obtain ⟨rfl, hxx⟩ := hy
      obtain ⟨p, hp, rfl⟩ : ∃ p, lo.ps[i]? = some p ∧ x = V.str (nmS p) := by
        rw [List.getElem?_map, List.getElem?_map] at hxx
        cases h : lo.ps[i]? with
        | none => rw [h] at hxx; cases hxx
        | some p => rw [h] at hxx; injection hxx with hxx; exact ⟨p, rfl, hxx.symm⟩
      have hpm := List.mem_of_getElem? hp
      have hf := hlo.ok.fine p hpm
      refine ⟨_, rfl, _, rfl, v, lo, p, rfl, hlo.at_.mono e1, hlo.ok, hlo.nd, hpm, fun py H3 e3 hpy => ?_⟩
      have e13 := e1.trans e3
      have hsq3 := Evl.ex_t e13 hsq
      refine ⟨_, rfl, _, rfl, sq, _, 0, .str (sideS false), rfl, rfl, hsq3, rfl, _, rfl, py, p, false, t, rfl, hpy, hf, ?_⟩
      refine ⟨_, rfl, _, rfl, sq, _, 1, .str (sideS true), rfl, rfl, hsq3, rfl, _, rfl, py, p, true, pl, rfl, hpy, hf, ?_⟩
      refine ⟨_, rfl, _, rfl, _, rfl, _, rfl, fl, F, lo.T, _, rfl, Evl.ex_l e13 hF, hFl, hT.1, hT.2, ?_⟩
      refine ⟨_, _, rfl, rfl, _, rfl, ?_⟩
      by_cases hc : CM.carry p true pl < CM.ext F lo.T (CM.carry p false t)
      · refine ifT (decide_eq_true hc) (k false _ e13 ⟨fun z => (nomatch z), fun z => ?_⟩)
        have := z (CM.stpL p) (List.mem_map_of_mem hpm)
        exact absurd this (by show ¬ CM.ext F lo.T (CM.carry p false t) ≤ CM.carry p true pl; omega)
      · refine ifF (decide_eq_false hc) ⟨_, _, _, _, rfl, e13, fun j p2 hji hp2 => ?_⟩
        by_cases e : j = i
        · subst e
          rw [hp] at hp2
          cases hp2
          omega
        · exact hj j p2 (by omega) hp2
    · obtain ⟨o1, o2, o3, o4, rfl, e1, hj⟩ := hv
      refine k true _ e1 ⟨fun _ s hs => ?_, fun _ => rfl⟩
      obtain ⟨p, hp, rfl⟩ := List.mem_map.mp hs
      obtain ⟨j, hjp⟩ := List.mem_iff_getElem?.mp hp
      have hjl := (List.getElem?_eq_some_iff.mp hjp).1
      exact hj j p (by rw [List.length_map, List.length_map]; exact hjl) hjp
end
end CZ
set_option Elab.async false
set_option linter.all false
set_option maxRecDepth 100000
set_option maxHeartbeats 4000000
namespace CZ
open PySem PySem.Spec PyProof.Rows L2
section
variable {P : Program} {w : World} {K : PySem.W.Frag} {mg : Str → Option Value} {base : Heap}
theorem r_q_does_stay (Z : Zed K mg base) : Rn P w K mg base 4 (a_q_does_stay K) (spQDoes K) := by
  have R_q_period := r_q_period (P := P) (w := w) Z
  have R_q_least_there := r_q_least_there (P := P) (w := w) Z
  refine rn_of (u_q_does_stay Z) sco_q_does_stay (fun _ _ _ _ _ _ us hl => match us, hl with | [_, _, _, _], _ => rfl) (fun vs H Q E h => ?_) (fun cdv A outer s H vs Q E hr h => ?_)
  · obtain ⟨v, lo, x, q, x, y, rfl, _⟩ := h
    rfl
  · refine ⟨_, (pss_one (ps_ret (pe_and (pe_cmpR op_notN (pv 2) pe_non (nomark _)) (pe_one (pe_cmpR op_ge (pe_ix (ix_tupK K) (pv 3) pe_int (fun _ _ => rfl)) (pe_r R_q_least_there (g_q_least_there Z) hr (by rfl) (pa_cons (pv 2) (pa_cons (pe_r R_q_period (g_q_period Z) hr (by rfl) (pa_cons (pv 0) pa_nil)) (pa_cons (pe_ix (ix_tupK K) (pv 3) pe_int (fun _ _ => rfl)) pa_nil)))) (nomark _)))))), ?_⟩
    obtain ⟨v, lo, st, q, x, y, rfl, hlo, hst, hq, k⟩ := h
    have hT := hlo.ok.T1
    rcases hst with ⟨rfl, hne⟩ | ⟨fl, F, rfl, hF, hFl, hL⟩
    · refine ⟨_, rfl, rfl, _, rfl, ifF rfl (k false H (Evl.Ex.refl _) ⟨fun z => (nomatch z), fun z => (hne ⟨_, z⟩).elim⟩)⟩
    · refine ⟨_, rfl, rfl, _, rfl, ifT rfl ?_⟩
      refine ⟨_, rfl, q, _, 1, .int y, rfl, rfl, hq, rfl, ?_⟩
      refine ⟨_, rfl, _, rfl, v, lo, rfl, hlo.at_, hlo.ok, ?_⟩
      refine ⟨_, rfl, q, _, 0, .int x, rfl, rfl, hq, rfl, fl, F, lo.T, x, rfl, hF, hFl, hT.1, hT.2, ?_⟩
      refine ⟨_, _, rfl, rfl, k _ H (Evl.Ex.refl _) ?_⟩
      rw [decide_eq_true_eq]
      exact hL x y
theorem r_q_in_shelter (Z : Zed K mg base) : Rn P w K mg base 4 (a_q_in_shelter K) (spQInSh K) := by
  have R_q_period := r_q_period (P := P) (w := w) Z
  refine rn_of (u_q_in_shelter Z) sco_q_in_shelter (fun _ _ _ _ _ _ us hl => match us, hl with | [_, _, _], _ => rfl) (fun vs H Q E h => ?_) (fun cdv A outer s H vs Q E hr h => ?_)
  · obtain ⟨v, lo, sh, q, xs, cs, x, y, rfl, _⟩ := h
    rfl
  · refine ⟨_, (pss_cons (ps_set (i := 3) sco_q_in_shelter.nd rfl (Or.inl rfl) (pe_r R_q_period (g_q_period Z) hr (by rfl) (pa_cons (pv 0) pa_nil)))
      (pss_cons (ps_for PassesOwn.never rfl (pi_tupK K (pv 1)) (pg_tupK K (n := 2) rfl (pgs_cons (pg_name (i := 4) sco_q_in_shelter.nd rfl (Or.inl rfl)) (pgs_cons (pg_name (i := 5) sco_q_in_shelter.nd rfl (Or.inl rfl)) pgs_nil)))
        (pss_cons (ps_set (i := 6) sco_q_in_shelter.nd rfl (Or.inl rfl) (pe_op op_fdiv (pe_op op_sub (pe_ix (ix_tupK K) (pv 2) pe_int (fun _ _ => rfl)) (pv 4)) (pv 3)))
        (pss_cons (ps_set (i := 6) sco_q_in_shelter.nd rfl (Or.inl rfl) (pe_op op_add (pv 6) (pe_callTy call_int1 (by rfl) (f_int Z) (by decide +kernel) (pa_cons (pe_cmpR op_lt (pe_op op_add (pv 4) (pe_op op_mul (pv 6) (pv 3))) (pe_ix (ix_tupK K) (pv 2) pe_int (fun _ _ => rfl)) (nomark _)) pa_nil))))
        (pss_one (ps_if (pt_cmpR op_ge (pe_ix (ix_tupK K) (pv 2) pe_int (fun _ _ => rfl)) (pe_op op_add (pv 5) (pe_op op_mul (pv 6) (pv 3))) (nomark _))
          (pss_one (ps_ret pe_bl))
          pss_nil)))))
      (pss_one (ps_ret pe_bl)))), ?_⟩
    obtain ⟨v, lo, sh, q, xs, cs, x, y, rfl, hlo, hsh, hx, hq, k⟩ := h
    have hT := hlo.ok.T1
    refine ⟨_, rfl, v, lo, rfl, hlo.at_, hlo.ok, ?_⟩
    refine ⟨_, rfl, sh, rfl, ⟨_, hsh⟩, for_it (walk_tup (xs := xs)) (fun i σ H' => H' = H ∧ ∃ (o1 o2 o3 : Option V), σ = [some v, some (.ref sh), some (.ref q), some (.int lo.T), o1, o2, o3] ∧ ∀ (j : Nat) (c : Int × Int), j < i → cs[j]? = some c → ¬ c.2 + CM.laps lo.T c.1 x * lo.T ≤ y) ⟨rfl, _, _, _, rfl, fun j p z => absurd z (Nat.not_lt_zero _)⟩ (fun i σ H' _ hv => ?_) (fun i z σ Hx H2 hi hv hy => ?_) (fun σ H' hv => ?_)⟩
    · obtain ⟨rfl, _⟩ := hv
      exact hsh
    · obtain ⟨rfl, o1, o2, o3, rfl, hj⟩ := hv
      obtain ⟨rfl, hxx⟩ := hy
      obtain ⟨c, hc, r, rfl, hr1⟩ := hx.at hxx
      refine ⟨r, _, rfl, SqT.of hr1, rfl, _, _, rfl, _, _, rfl, rfl, ?_⟩
      refine ⟨_, rfl, q, _, 0, .int x, rfl, rfl, hq, rfl, _, rfl, _, _, rfl, rfl, _, rfl, _, _, rfl, rfl, ⟨by omega, by omega⟩, ?_⟩
      refine ⟨_, rfl, _, rfl, _, rfl, _, rfl, _, _, rfl, rfl, .inr (by omega), _, _, rfl, rfl, _, rfl, q, _, 0, .int x, rfl, rfl, hq, rfl, _, _, rfl, rfl, .inr ⟨_, rfl, _, _, rfl, rfl, ?_⟩⟩
      have hlp : ((fun i j => V.int (i + j)) ((x - c.1) / lo.T) (if decide (c.1 + (x - c.1) / lo.T * lo.T < x) = true then (1 : Int) else 0)) = V.int (CM.laps lo.T c.1 x) := by
        rw [← CM.laps_law (show (0 : Int) < lo.T by omega)]
        simp only [decide_eq_true_eq]
      rw [hlp]
      refine ⟨_, rfl, q, _, 1, .int y, rfl, rfl, hq, rfl, _, rfl, _, rfl, _, rfl, _, _, rfl, rfl, .inr (by omega), _, _, rfl, rfl, _, _, rfl, rfl, _, rfl, ?_⟩
      by_cases hcc : c.2 + CM.laps lo.T c.1 x * lo.T ≤ y
      · exact ifT (decide_eq_true hcc) (k true _ (Evl.Ex.refl _) ⟨fun _ => ⟨c, List.mem_of_getElem? hc, hcc⟩, fun _ => rfl⟩)
      · refine ifF (decide_eq_false hcc) ⟨rfl, _, _, _, rfl, fun j c2 hji hc2 => ?_⟩
        by_cases e : j = i
        · subst e
          rw [hc] at hc2
          cases hc2
          exact hcc
        · exact hj j c2 (by omega) hc2
    · obtain ⟨rfl, o1, o2, o3, rfl, hj⟩ := hv
      refine k false _ (Evl.Ex.refl _) ⟨fun z => (nomatch z), fun ⟨c, hc, h⟩ => ?_⟩
      obtain ⟨j, hjc⟩ := List.mem_iff_getElem?.mp hc
      exact absurd h (hj j c (by rw [hx.1]; exact (List.getElem?_eq_some_iff.mp hjc).1) hjc)
theorem r_q_is_cut_fine (Z : Zed K mg base) : Rn P w K mg base 5 (a_q_is_cut_fine K) (spQCutFine K) := by
  have R_q_program_names := r_q_program_names (P := P) (w := w) Z
  have R_q_pair_saved := r_q_pair_saved (P := P) (w := w) Z
  have R_q_does_stay := r_q_does_stay (P := P) (w := w) Z
  refine rn_of (u_q_is_cut_fine Z) sco_q_is_cut_fine (fun _ _ _ _ _ _ us hl => match us, hl with | [_, _, _], _ => rfl) (fun vs H Q E h => ?_) (fun cdv A outer s H vs Q E hr h => ?_)
  · obtain ⟨v, lo, x, q, x, y, rfl, _⟩ := h
    rfl
  · refine ⟨_, (pss_cons (ps_for PassesOwn.never rfl (pi_listK K (pe_r R_q_program_names (g_q_program_names Z) hr (by rfl) (pa_cons (pv 0) pa_nil))) (pg_name (i := 3) sco_q_is_cut_fine.nd rfl (Or.inl rfl))
        (pss_cons (ps_asg (pe_r R_q_pair_saved (g_q_pair_saved Z) hr (by rfl) (pa_cons (pv 0) (pa_cons pe_str (pa_cons (pv 2) (pa_cons (pv 3) pa_nil))))) (pg_tupK K (n := 2) rfl (pgs_cons (pg_name (i := 4) sco_q_is_cut_fine.nd rfl (Or.inl rfl)) (pgs_cons (pg_name (i := 5) sco_q_is_cut_fine.nd rfl (Or.inl rfl)) pgs_nil))))
        (pss_one (ps_if (pt_not (pt_val (pe_r R_q_does_stay (g_q_does_stay Z) hr (by rfl) (pa_cons (pv 0) (pa_cons pe_str (pa_cons (pv 1) (pa_cons (pe_tup (pa_cons (pv 4) (pa_cons (pe_op op_sub (pv 5) (pe_dget (hu_of hr) (pv 0) pe_str (fun _ _ => rfl))) pa_nil))) pa_nil)))))))
          (pss_one (ps_ret pe_bl))
          pss_nil))))
      (pss_one (ps_ret pe_bl))), ?_⟩
    obtain ⟨v, lo, st, q, x, y, rfl, hlo, hst, hq, k⟩ := h
    refine ⟨_, rfl, v, lo, rfl, hlo.at_, hlo.ok, fun nl H1 hnl e1 hnl1 => ?_⟩
    refine ⟨nl, rfl, ⟨_, SqL.of hnl1⟩, for_it (walk_list (xs := (lo.ps.map nmS).map V.str)) (fun i σ H' => ∃ (o1 o2 o3 : Option V), σ = [some v, some st, some (.ref q), o1, o2, o3] ∧ Ex H1 H' ∧ ∀ (j : Nat) (p : CM.Prg), j < i → lo.ps[j]? = some p → LastsLo lo (CM.cut (CM.stpR p) lo.trim (x, y))) ⟨_, _, _, rfl, Evl.Ex.refl _, fun j p z => absurd z (Nat.not_lt_zero _)⟩ (fun i σ H' _ hv => ?_) (fun i z σ Hx H2 hi hv hy => ?_) (fun σ H' hv => ?_)⟩
    · obtain ⟨_, _, _, rfl, e, _⟩ := hv
      exact SqL.of (e _ _ hnl1)
    · obtain ⟨o1, o2, o3, rfl, e2, hj⟩ := hv
      obtain ⟨rfl, hxx⟩ := hy
      obtain ⟨p, hp, rfl⟩ : ∃ p, lo.ps[i]? = some p ∧ z = V.str (nmS p) := by
        rw [List.getElem?_map, List.getElem?_map] at hxx
        cases h : lo.ps[i]? with
        | none => rw [h] at hxx; cases hxx
        | some p => rw [h] at hxx; injection hxx with hxx; exact ⟨p, rfl, hxx.symm⟩
      have hpm := List.mem_of_getElem? hp
      have e12 := e1.trans e2
      refine ⟨_, rfl, _, rfl, _, rfl, v, lo, true, q, x, y, p, rfl, hlo.at_.mono e12, hlo.ok, hlo.nd, hpm, Evl.ex_t e12 hq, fun r H3 hr3 e3 hr4 => ?_⟩
      refine ⟨r, _, rfl, SqT.of hr4, rfl, _, _, rfl, _, _, rfl, rfl, ?_⟩
      have hlo3 := hlo.mono (e12.trans e3)
      obtain ⟨a, l, xs, rfl, ha, hl, hx⟩ := hlo3.at_.ex
      refine ⟨_, rfl, _, rfl, _, rfl, _, rfl, _, rfl, a, .int lo.trim, rfl, DGet.k (k := keyS "trim") ha, _, _, rfl, rfl, by show 2 ≤ sizeLine; decide, fun t ht => ?_⟩
      have e4 := Evl.Ex.new (o := .tup [.int (CM.carry p false x), .int (CM.carry p false y - lo.trim)]) ht
      refine ⟨_, lo, st, t, _, _, rfl, hlo3.mono e4, hst.mono ((e12.trans e3).trans e4), SqT.of upd_same, fun b H5 e5 hb => ?_⟩
      cases b with
      | false =>
        refine ⟨_, rfl, ifT rfl (k false _ (((e12.trans e3).trans e4).trans e5) ⟨fun z => (nomatch z), fun z => ?_⟩)⟩
        have h1 := z (CM.stpR p) (List.mem_map_of_mem hpm)
        exact hb.mpr h1
      | true =>
        refine ⟨_, rfl, ifF rfl ⟨_, _, _, rfl, ((e2.trans e3).trans e4).trans e5, fun j p2 hji hp2 => ?_⟩⟩
        by_cases e : j = i
        · subst e
          rw [hp] at hp2
          cases hp2
          exact hb.mp rfl
        · exact hj j p2 (by omega) hp2
    · obtain ⟨o1, o2, o3, rfl, e2, hj⟩ := hv
      refine k true _ (e1.trans e2) ⟨fun _ s hs => ?_, fun _ => rfl⟩
      obtain ⟨p, hp, rfl⟩ := List.mem_map.mp hs
      obtain ⟨j, hjp⟩ := List.mem_iff_getElem?.mp hp
      have hjl := (List.getElem?_eq_some_iff.mp hjp).1
      exact hj j p (by rw [List.length_map, List.length_map]; exact hjl) hjp
end
end CZ
set_option Elab.async false
set_option linter.all false
set_option maxRecDepth 100000
set_option maxHeartbeats 4000000
namespace CZ
open PySem PySem.Spec PyProof.Rows L2
/-! ### the law's own stairs -/
theorem getD_set {F : List Int} {i j : Nat} {v : Int} (h : i < F.length) : (F.set i v).getD j 0 = if i = j then v else F.getD j 0 := by
  rw [List.getD_eq_getElem?_getD, List.getElem?_set, List.getD_eq_getElem?_getD]
  by_cases e : i = j
  · rw [if_pos e, if_pos e, if_pos h]
    rfl
  · rw [if_neg e, if_neg e]
structure OwnI (lo : Lo) (F : List Int) : Prop where
  len : F.length = lo.T
  bel : CM.Below lo.T lo.ls F
  low : ∀ i : Nat, i < lo.T → (i : Int) < F.getD i 0
  hi : ∀ i : Nat, i < lo.T → F.getD i 0 ≤ i + 2 * (lo.T : Int)
def gapO (lo : Lo) (F : List Int) : Nat := CM.gapTo (3 * lo.T + 1) F
theorem OwnI.set {lo : Lo} (ok : LoOk lo) {F : List Int} (h : OwnI lo F) {i : Nat} (hi : i < lo.T) {v : Int} (h1 : F.getD i 0 < v) (h2 : v ≤ i + 2 * (lo.T : Int)) (hv : ∀ p : Int, F.getD i 0 ≤ p → p < v → ¬ CM.CanStay lo.T lo.ls F i p) :
    OwnI lo (F.set i v) ∧ gapO lo (F.set i v) < gapO lo F := by
  have hT := ok.T1.1
  have hil : i < F.length := by rw [h.len]; exact hi
  refine ⟨⟨by rw [List.length_set, h.len], h.bel.set hT ok.lok h.len hi hv, fun j hj => ?_, fun j hj => ?_⟩, ?_⟩
  · rw [getD_set hil]
    split
    · rename_i e
      have := h.low i hi
      omega
    · exact h.low j hj
  · rw [getD_set hil]
    split
    · rename_i e
      omega
    · exact h.hi j hj
  · refine CM.gapTo_lt (by rw [List.length_set]) (fun j => ?_) (fun j hj => ?_) fun z => ?_
    · rw [getD_set hil]
      split
      · rename_i e
        rw [← e]
        omega
      · exact Int.le_refl _
    · rw [h.len] at hj
      have := h.hi j hj
      omega
    · have e := congrArg (fun l : List Int => l.getD i 0) z
      simp only [getD_set hil, if_pos] at e
      omega
theorem own0 {lo : Lo} (ok : LoOk lo) : OwnI lo (CM.base1 lo.T) := by
  have hT := ok.T1.1
  have hl : (CM.base1 lo.T).length = lo.T := CM.rowOf_len ..
  have hg : ∀ i : Nat, i < lo.T → (CM.base1 lo.T).getD i 0 = (i : Int) + 1 := fun i hi => by
    rw [CM.getD_ext hi, CM.base1_ext hT]
  exact ⟨hl, CM.below_base hT, fun i hi => by rw [hg i hi]; omega, fun i hi => by rw [hg i hi]; omega⟩
theorem own_done {lo : Lo} (ok : LoOk lo) {F : List Int} (h : OwnI lo F) (hs : ∀ i : Nat, i < lo.T → CM.CanStay lo.T lo.ls F i (F.getD i 0)) : ∀ x y, CM.ext F lo.T x ≤ y ↔ LastsLo lo (x, y) :=
  CM.Closed.lasts ok.lok (CM.closed_of ok.T1.1 ok.lok h.low hs) h.bel
def spQOwn (K : PySem.W.Frag) : Sp := fun vs H Q _ => ∃ (v : V) (lo : Lo), vs = [v, .str (kindOf false)] ∧ LoreOk H v lo ∧ ∀ w H', Ex H H' → StrAt K H' lo w → Q w H'
section
variable {P : Program} {w : World} {K : PySem.W.Frag} {mg : Str → Option Value} {base : Heap}
theorem r_q_own_stairs (Z : Zed K mg base) : Rn P w K mg base 4 (a_q_own_stairs K) (spQOwn K) := by
  have R_q_period := r_q_period (P := P) (w := w) Z
  have R_q_program_names := r_q_program_names (P := P) (w := w) Z
  have R_q_kind_sides := r_q_kind_sides (P := P) (w := w) Z
  have R_q_can_stay := r_q_can_stay (P := P) (w := w) Z
  refine rn_of (u_q_own_stairs Z) sco_q_own_stairs (fun _ _ _ _ _ _ us hl => match us, hl with | [_, _], _ => rfl) (fun vs H Q E h => ?_) (fun cdv A outer s H vs Q E hr h => ?_)
  · obtain ⟨v, lo, rfl, _⟩ := h
    rfl
  · refine ⟨_, (pss_cons (ps_par (i := 2) (j := 3) rfl sco_q_own_stairs.nd rfl rfl (by decide) rfl rfl (pa_cons (pe_r R_q_period (g_q_period Z) hr (by rfl) (pa_cons (pv 0) pa_nil)) (pa_cons (pe_r R_q_program_names (g_q_program_names Z) hr (by rfl) (pa_cons (pv 0) pa_nil)) pa_nil)) (by rfl))
      (pss_cons (ps_set (i := 4) sco_q_own_stairs.nd rfl (Or.inl rfl) (pe_r R_q_kind_sides (g_q_kind_sides Z) hr (by rfl) (pa_cons (pv 1) pa_nil)))
      (pss_cons (ps_setLc (i := 5) (own := [("_law_time", 7)]) (g := gName 7) (tt := tYes) rfl sco_q_own_stairs.nd rfl rfl (sw_true rfl rfl rfl (by decide +kernel)) (pi_range1 (by rfl) (f_range Z) (pa_cons (pv 2) pa_nil)) (blkOk_by (by kernel_rfl)) (fun _ _ _ _ _ => (pg_name (i := 7) sco_q_own_stairs.nd rfl (Or.inl rfl))) (fun _ _ _ _ _ => pts_nil) (fun _ _ _ _ _ => (pe_op op_add (pv 7) (pe_callTy call_int1 (by rfl) (f_int Z) (by decide +kernel) (pa_cons (pe_cmpR op_eq (pv 1) pe_str (nomark _)) pa_nil)))))
      (pss_cons (ps_set (i := 6) sco_q_own_stairs.nd rfl (Or.inl rfl) pe_bl)
      (pss_cons (ps_while PassesOwn.never (pt_val (pv 6))
        (pss_cons (ps_set (i := 6) sco_q_own_stairs.nd rfl (Or.inl rfl) pe_bl)
        (pss_one (ps_for PassesOwn.never rfl (pi_range1 (by rfl) (f_range Z) (pa_cons (pv 2) pa_nil)) (pg_name (i := 7) sco_q_own_stairs.nd rfl (Or.inl rfl))
          (pss_cons (ps_set (i := 8) sco_q_own_stairs.nd rfl (Or.inl rfl) (pe_ix (ix_listK K) (pv 5) (pv 7) (fun _ _ => rfl)))
          (pss_cons (ps_while PassesOwn.never (pt_not (pt_val (pe_r R_q_can_stay (g_q_can_stay Z) hr (by rfl) (pa_cons (pv 0) (pa_cons (pv 3) (pa_cons (pv 4) (pa_cons (pv 2) (pa_cons (pv 5) (pa_cons (pv 7) (pa_cons (pv 8) pa_nil))))))))))
            (pss_cons (ps_set (i := 8) sco_q_own_stairs.nd rfl (Or.inl rfl) (pe_op op_add (pv 8) pe_int))
            (pss_one (ps_if (pt_cmpR op_gt (pv 8) (pe_op op_add (pv 7) (pe_op op_mul pe_int (pv 2))) (nomark _))
              (pss_one (ps_ret pe_non))
              pss_nil))))
          (pss_one (ps_if (pt_cmpR op_gt (pv 8) (pe_ix (ix_listK K) (pv 5) (pv 7) (fun _ _ => rfl)) (nomark _))
            (pss_one (ps_asg (pe_tup (pa_cons (pv 8) (pa_cons pe_bl pa_nil))) (pg_tupK K (n := 2) rfl (pgs_cons (pg_sub (pv 5) (pv 7) set_list) (pgs_cons (pg_name (i := 6) sco_q_own_stairs.nd rfl (Or.inl rfl)) pgs_nil)))))
            pss_nil))))))))
      (pss_one (ps_ret (pv 5)))))))), ?_⟩
    obtain ⟨v, lo, rfl, hlo, k⟩ := h
    have hT := hlo.ok.T1
    refine ⟨_, rfl, v, lo, rfl, hlo.at_, hlo.ok, ?_⟩
    refine ⟨_, rfl, v, lo, rfl, hlo.at_, hlo.ok, fun nl H1 hnl e1 hnl1 => ?_⟩
    refine ⟨_, _, rfl, ?_⟩
    refine ⟨_, rfl, false, rfl, fun sq H2 e2 hsq => ?_⟩
    have e12 := e1.trans e2
    refine ⟨_, rfl, _, rfl, by omega, by omega, fun fl hfl => ?_⟩
    refine lc_all (walk_range (lo := 0) (n := ((lo.T : Int)).toNat)) (fun i y H' => y = .int ((i : Int) + 1)) hfl (by omega) (fun i y H1 H2 e h => h) (fun H' e => trivial) (fun i x Hx H3 Qe hi e3 _ hy q => ?_) gname_mono (fun H3 ys e3 h1 hn h7 => ?_)
    · obtain ⟨rfl, rfl⟩ := hy
      refine ⟨rfl, _, rfl, _, rfl, rfl, .inr ⟨_, rfl, _, _, rfl, rfl, q _ _ (Evl.Ex.refl _) ?_⟩⟩
      show V.int _ = V.int _
      congr 1
      rw [show decide (V.str (kindOf false) = V.str (Str.ofString "length")) = true from decide_eq_true rfl, if_pos rfl]
      omega
    · have hys := ints_of hn h7
      rw [hys, Int.toNat_natCast] at h1
      have hF0 : H3 fl = some (.lst ((CM.base1 lo.T).map V.int)) := h1
      have hnl3 : H2 nl = some (.lst ((lo.ps.map nmS).map V.str)) := e2 _ _ hnl1
      refine while_m (fun n σ H' => ∃ (o1 o2 : Option V) (F : List Int) (nw : Bool), σ = [some v, some (.str (kindOf false)), some (.int lo.T), some (.ref nl), some (.ref sq), some (.ref fl), some (.bl nw), o1, o2] ∧ Ex H2 H' ∧ H' fl = some (.lst (F.map V.int)) ∧ OwnI lo F ∧ (nw = false → ∀ i : Nat, i < lo.T → CM.CanStay lo.T lo.ls F i (F.getD i 0)) ∧ n = gapO lo F + (if nw then 1 else 0)) _ ⟨_, _, _, true, rfl, e3, hF0, own0 hlo.ok, fun z => (nomatch z), rfl⟩ ?_
      rintro n σ H4 ⟨o1, o2, F, nw, rfl, e4, hF4, hI, hst, rfl⟩
      refine ⟨_, rfl, _, rfl, ?_⟩
      cases nw with
      | false =>
        refine ifF rfl ⟨_, rfl, k _ _ (e12.trans e4) (.inr ⟨fl, F, rfl, SqL.of hF4, hI.len, own_done hlo.ok hI (hst rfl)⟩)⟩
      | true =>
        refine ifT rfl (WN.go ?_)
        refine ⟨_, rfl, _, rfl, by omega, by omega, for_range (lo := 0) (n := ((lo.T : Int)).toNat) (fun i σ H' => ∃ (o1 o2 : Option V) (F' : List Int) (nw : Bool), σ = [some v, some (.str (kindOf false)), some (.int lo.T), some (.ref nl), some (.ref sq), some (.ref fl), some (.bl nw), o1, o2] ∧ Ex H2 H' ∧ H' fl = some (.lst (F'.map V.int)) ∧ OwnI lo F' ∧ gapO lo F' ≤ gapO lo F ∧ (nw = true → gapO lo F' < gapO lo F) ∧ (nw = false → ∀ j : Nat, j < i → CM.CanStay lo.T lo.ls F' j (F'.getD j 0))) ⟨_, _, F, false, rfl, e4, hF4, hI, Nat.le_refl _, fun z => (nomatch z), fun _ j z => absurd z (Nat.not_lt_zero _)⟩ (fun i σ H5 hi hv => ?_) (fun σ H5 hv => ?_)⟩
        · obtain ⟨o1, o2, F', nw, rfl, e5, hF5, hI5, hg1, hg2, hg3⟩ := hv
          have hiT : i < lo.T := by omega
          have hil : i < F'.length := by rw [hI5.len]; exact hiT
          have hat : atI (F'.map V.int) (0 + (i : Int)) = some (.int (F'.getD i 0)) := by
            rw [Int.zero_add]
            refine atI_nat ?_
            rw [List.getElem?_map, List.getElem?_eq_getElem hil, List.getD_eq_getElem?_getD, List.getElem?_eq_getElem hil]
            rfl
          have h0i : (0 : Int) + (i : Int) = i := Int.zero_add _
          have ixs : ixN (F'.map V.int).length (0 + (i : Int)) = some i := by
            rw [h0i, List.length_map]
            unfold ixN
            rw [if_pos (by omega), if_pos (by omega)]
            rfl
          refine ⟨_, rfl, _, rfl, fl, _, _, .int (F'.getD i 0), rfl, rfl, SqL.of hF5, hat, ?_⟩
          refine while_m (fun n σ H' => ∃ (pl : Int), σ = [some v, some (.str (kindOf false)), some (.int lo.T), some (.ref nl), some (.ref sq), some (.ref fl), some (.bl nw), some (.int (0 + (i : Int))), some (.int pl)] ∧ Ex H5 H' ∧ F'.getD i 0 ≤ pl ∧ pl ≤ i + 2 * (lo.T : Int) ∧ (∀ p, F'.getD i 0 ≤ p → p < pl → ¬ CM.CanStay lo.T lo.ls F' i p) ∧ n = (i + 2 * (lo.T : Int) + 1 - pl).toNat) _ ⟨_, rfl, Evl.Ex.refl _, Int.le_refl _, hI5.hi i hiT, fun p h1 h2 => absurd h1 (by omega), rfl⟩ ?_
          rintro n σ H6 ⟨pl, rfl, e6, hp1, hp2, hp3, rfl⟩
          have e26 := e5.trans e6
          refine ⟨_, rfl, _, rfl, _, rfl, _, rfl, _, rfl, _, rfl, _, rfl, ?_⟩
          refine ⟨v, lo, nl, sq, fl, F', 0 + (i : Int), pl, rfl, hlo.mono (e12.trans e26), SqL.of (e26 _ _ hnl3), SqT.of (e26 _ _ hsq), SqL.of (e6 _ _ hF5), hI5.len, fun b H7 e7 hb => ?_⟩
          rw [h0i] at hb
          have e27 := e26.trans e7
          cases b with
          | false =>
            refine ⟨_, rfl, ifT rfl (WN.go ?_)⟩
            have hns : ¬ CM.CanStay lo.T lo.ls F' i pl := fun z => nomatch (hb.mpr z)
            refine ⟨_, rfl, _, _, rfl, rfl, ?_⟩
            refine ⟨_, rfl, _, rfl, _, rfl, _, _, rfl, rfl, .inl (by decide), _, _, rfl, rfl, _, _, rfl, rfl, _, rfl, ?_⟩
            by_cases hbig : 0 + (i : Int) + 2 * (lo.T : Int) < pl + 1
            · refine ifT (decide_eq_true hbig) (k .non _ (e12.trans e27) (.inl ⟨rfl, ?_⟩))
              refine CM.below_never hT.1 hlo.ok.lok hI5.bel hiT fun p h1 h2 => ?_
              by_cases e : p < pl
              · exact hp3 p h1 e
              · rw [show p = pl by omega]
                exact hns
            · refine ifF (decide_eq_false hbig) ⟨_, by omega, pl + 1, rfl, e6.trans e7, by omega, by omega, fun p h1 h2 => ?_, rfl⟩
              by_cases e : p < pl
              · exact hp3 p h1 e
              · rw [show p = pl by omega]
                exact hns
          | true =>
            refine ⟨_, rfl, ifF rfl ?_⟩
            have hcs : CM.CanStay lo.T lo.ls F' i pl := hb.mp rfl
            have hF7 := e7 _ _ (e6 _ _ hF5)
            refine ⟨_, rfl, _, rfl, _, rfl, fl, _, _, .int (F'.getD i 0), rfl, rfl, SqL.of hF7, hat, _, _, rfl, rfl, _, rfl, ?_⟩
            by_cases hup : F'.getD i 0 < pl
            · refine ifT (decide_eq_true hup) ?_
              obtain ⟨hI8, hg8⟩ := hI5.set hlo.ok hiT hup hp2 hp3
              refine ⟨_, rfl, by show 2 ≤ sizeLine; decide, fun T hTn => ?_⟩
              have e8 := Evl.Ex.new (o := .tup [.int pl, .bl true]) hTn
              have hF8 := e8 _ _ hF7
              have e28 := e27.trans e8
              generalize hH8 : upd H7 T (.tup [.int pl, .bl true]) = H8 at *
              have hT8 : H8 T = some (.tup [.int pl, .bl true]) := by rw [← hH8]; exact upd_same
              refine ⟨T, _, rfl, SqT.of hT8, rfl, _, _, rfl, _, rfl, _, rfl, fl, _, _, i, rfl, rfl, hF8, ixs, _, _, rfl, rfl, ?_⟩
              refine ⟨_, _, F'.set i pl, true, rfl, Evl.Ex.mut e28 hfl, ?_, hI8, by omega, fun _ => by omega, fun z => (nomatch z)⟩
              rw [upd_same, List.map_set]
            · refine ifF (decide_eq_false hup) ⟨_, _, F', nw, rfl, e27, hF7, hI5, hg1, hg2, fun hnw j hj => ?_⟩
              by_cases e : j = i
              · subst e
                have hpe : pl = F'.getD j 0 := by omega
                rw [← hpe]
                exact hcs
              · exact hg3 hnw j (by omega)
        · obtain ⟨o1, o2, F', nw, rfl, e5, hF5, hI5, hg1, hg2, hg3⟩ := hv
          refine ⟨_, ?_, _, _, F', nw, rfl, e5, hF5, hI5, fun z i hi => hg3 z i (by omega), rfl⟩
          cases nw with
          | false =>
            show gapO lo F' + 0 < gapO lo F + 1
            omega
          | true =>
            have := hg2 rfl
            show gapO lo F' + 1 < gapO lo F + 1
            omega
end
end CZ
set_option Elab.async false
set_option linter.all false
set_option maxRecDepth 100000
set_option maxHeartbeats 4000000
namespace CZ
open PySem PySem.Spec PyProof.Rows L2
/-! ### the law's going over all pairs -/
def keyP (T : Nat) (q : Int × Int) : Int × Int := (q.1 % T, q.2 - q.1)
def repK (k : Int × Int) : Int × Int := (k.1, k.1 + k.2)
def sv (s : CM.Stp) (q : Int × Int) : Int × Int := (s.a q.1, s.b q.2)
theorem keyP_shift {T : Nat} (hT : 0 < T) (x y k : Int) : keyP T (x + k * T, y + k * T) = keyP T (x, y) := by
  unfold keyP
  simp only
  rw [Int.add_mul_emod_self_right]
  congr 1
  omega
theorem rep_key {T : Nat} (hT : 0 < T) (q : Int × Int) : q = ((repK (keyP T q)).1 + q.1 / T * T, (repK (keyP T q)).2 + q.1 / T * T) := by
  have h := Int.mul_ediv_add_emod q.1 T
  rw [Int.mul_comm] at h
  obtain ⟨x, y⟩ := q
  unfold repK keyP
  simp only at *
  refine Prod.ext ?_ ?_
  · show x = x % T + x / T * T
    omega
  · show y = x % T + (y - x) + x / T * T
    omega
section
variable {lo : Lo} (ok : LoOk lo)
include ok
theorem sv_shift {s : CM.Stp} (hs : s ∈ lo.rs) (x y k : Int) : sv s (x + k * lo.T, y + k * lo.T) = ((sv s (x, y)).1 + k * lo.T, (sv s (x, y)).2 + k * lo.T) := by
  unfold sv
  simp only
  rw [(ok.rok s hs).ok.a.k, (ok.rok s hs).ok.b.k]
theorem key_step {s : CM.Stp} (hs : s ∈ lo.rs) (q : Int × Int) : keyP lo.T (sv s q) = keyP lo.T (sv s (repK (keyP lo.T q))) := by
  have h := rep_key ok.T1.1 q
  have e : sv s q = sv s ((repK (keyP lo.T q)).1 + q.1 / lo.T * lo.T, (repK (keyP lo.T q)).2 + q.1 / lo.T * lo.T) := congrArg (sv s) h
  rw [e, sv_shift ok hs, keyP_shift ok.T1.1]
theorem sound_shift (x y k : Int) (h : SoundRo lo (x, y)) : SoundRo lo (x + k * lo.T, y + k * lo.T) := fun s hs => by
  have h1 := CM.Lasts.shift ok.lok (h s hs) k
  have e := sv_shift ok hs x y k
  unfold sv at e
  simp only at e
  have e1 := congrArg Prod.fst e
  have e2 := congrArg Prod.snd e
  simp only at e1 e2
  show CM.Lasts lo.ls (s.a (x + k * lo.T), s.b (y + k * lo.T) - lo.trim)
  rw [e1, e2]
  have e3 : s.b y + k * (lo.T : Int) - lo.trim = s.b y - lo.trim + k * lo.T := by omega
  rw [e3]
  exact h1
theorem sound_key (q : Int × Int) (h : SoundRo lo (repK (keyP lo.T q))) : SoundRo lo q := by
  rw [rep_key ok.T1.1 q]
  exact sound_shift ok _ _ _ h
theorem sound_rep (q : Int × Int) (h : SoundRo lo q) : SoundRo lo (repK (keyP lo.T q)) := by
  have h1 := sound_shift ok q.1 q.2 (-(q.1 / lo.T)) h
  have e := rep_key ok.T1.1 q
  have e1 := congrArg Prod.fst e
  have e2 := congrArg Prod.snd e
  simp only at e1 e2
  have f1 : q.1 + -(q.1 / lo.T) * (lo.T : Int) = (repK (keyP lo.T q)).1 := by rw [Int.neg_mul]; omega
  have f2 : q.2 + -(q.1 / lo.T) * (lo.T : Int) = (repK (keyP lo.T q)).2 := by rw [Int.neg_mul]; omega
  rw [f1, f2] at h1
  exact h1
theorem rng_step {D : Nat} {s : CM.Stp} (hs : s ∈ lo.rs) {q : Int × Int} (h : q.1 ≤ q.2 ∧ q.2 ≤ q.1 + (D : Int) * lo.T) : (sv s q).1 ≤ (sv s q).2 ∧ (sv s q).2 ≤ (sv s q).1 + (D : Int) * lo.T := by
  unfold sv
  simp only
  have hr := ok.rok s hs
  rw [hr.same]
  refine ⟨hr.ok.a.mono _ _ h.1, ?_⟩
  have := hr.ok.a.mono _ _ h.2
  rw [hr.ok.a.k] at this
  exact this
end
structure Srch (lo : Lo) (q0 : Int × Int) (D : Nat) (ks ls : List (Int × Int)) : Prop where
  reach : ∀ q ∈ ls, LastsRo lo q0 → LastsRo lo q
  rng : ∀ q ∈ ls, q.1 ≤ q.2 ∧ q.2 ≤ q.1 + (D : Int) * lo.T
  sound : ∀ k ∈ ks, SoundRo lo (repK k)
  next : ∀ k ∈ ks, ∀ s ∈ lo.rs, keyP lo.T (sv s (repK k)) ∈ ks ∨ ∃ q ∈ ls, keyP lo.T q = keyP lo.T (sv s (repK k))
  start : keyP lo.T q0 ∈ ks ∨ ∃ q ∈ ls, keyP lo.T q = keyP lo.T q0
  nd : ks.Nodup
  kr : ∀ k ∈ ks, (0 ≤ k.1 ∧ k.1 < lo.T) ∧ 0 ≤ k.2 ∧ k.2 < ((D * lo.T + 1 : Nat) : Int)
theorem Srch.init {lo : Lo} {q0 : Int × Int} {D : Nat} (h : q0.1 ≤ q0.2 ∧ q0.2 ≤ q0.1 + (D : Int) * lo.T) : Srch lo q0 D [] [q0] :=
  ⟨fun q hq => by rw [List.mem_singleton.mp hq]; exact id, fun q hq => by rw [List.mem_singleton.mp hq]; exact h, fun _ z => (nomatch z), fun _ z => (nomatch z), .inr ⟨q0, List.mem_singleton_self _, rfl⟩, List.nodup_nil, fun _ z => (nomatch z)⟩
theorem Srch.skip {lo : Lo} {q0 q : Int × Int} {D : Nat} {ks ls : List (Int × Int)} (h : Srch lo q0 D ks (ls ++ [q])) (hk : keyP lo.T q ∈ ks) : Srch lo q0 D ks ls := by
  have key : ∀ (p : Int × Int), p ∈ ks ∨ (∃ q' ∈ ls ++ [q], keyP lo.T q' = p) → p ∈ ks ∨ ∃ q' ∈ ls, keyP lo.T q' = p := fun p hp => by
    rcases hp with hp | ⟨q', hq', e⟩
    · exact .inl hp
    · rcases List.mem_append.mp hq' with h1 | h1
      · exact .inr ⟨q', h1, e⟩
      · rw [List.mem_singleton.mp h1] at e
        exact .inl (e ▸ hk)
  exact ⟨fun p hp => h.reach p (List.mem_append_left _ hp), fun p hp => h.rng p (List.mem_append_left _ hp), h.sound, fun k hk s hs => key _ (h.next k hk s hs), key _ h.start, h.nd, h.kr⟩
theorem Srch.add {lo : Lo} (ok : LoOk lo) {q0 q : Int × Int} {D : Nat} {ks ls : List (Int × Int)} (h : Srch lo q0 D ks (ls ++ [q])) (hk : keyP lo.T q ∉ ks) (hs : SoundRo lo q) : Srch lo q0 D (ks ++ [keyP lo.T q]) (ls ++ lo.rs.map fun s => sv s q) := by
  have hqm : q ∈ ls ++ [q] := List.mem_append_right _ (List.mem_singleton_self _)
  have key : ∀ (p : Int × Int), p ∈ ks ∨ (∃ q' ∈ ls ++ [q], keyP lo.T q' = p) → p ∈ ks ++ [keyP lo.T q] ∨ ∃ q' ∈ ls ++ lo.rs.map fun s => sv s q, keyP lo.T q' = p := fun p hp => by
    rcases hp with hp | ⟨q', hq', e⟩
    · exact .inl (List.mem_append_left _ hp)
    · rcases List.mem_append.mp hq' with h1 | h1
      · exact .inr ⟨q', List.mem_append_left _ h1, e⟩
      · rw [List.mem_singleton.mp h1] at e
        exact .inl (List.mem_append_right _ (List.mem_singleton.mpr e.symm))
  have hT := ok.T1.1
  refine ⟨fun p hp hl => ?_, fun p hp => ?_, fun k hk => ?_, fun k hk s hs => ?_, key _ h.start, ?_, fun k hk => ?_⟩
  · rcases List.mem_append.mp hp with h1 | h1
    · exact h.reach p (List.mem_append_left _ h1) hl
    · obtain ⟨s, hs, rfl⟩ := List.mem_map.mp h1
      exact CM.LastsR.step (h.reach q hqm hl) hs
  · rcases List.mem_append.mp hp with h1 | h1
    · exact h.rng p (List.mem_append_left _ h1)
    · obtain ⟨s, hs, rfl⟩ := List.mem_map.mp h1
      exact rng_step ok hs (h.rng q hqm)
  · rcases List.mem_append.mp hk with h1 | h1
    · exact h.sound k h1
    · rw [List.mem_singleton.mp h1]
      exact sound_rep ok q hs
  · rcases List.mem_append.mp hk with h1 | h1
    · exact key _ (h.next k h1 s hs)
    · rw [List.mem_singleton.mp h1]
      exact .inr ⟨sv s q, List.mem_append_right _ (List.mem_map_of_mem hs), key_step ok hs q⟩
  · rw [List.nodup_append]
    refine ⟨h.nd, List.nodup_cons.mpr ⟨fun z => (nomatch z), List.nodup_nil⟩, fun a ha b hb => ?_⟩
    rw [List.mem_singleton.mp hb]
    exact fun e => hk (e ▸ ha)
  · rcases List.mem_append.mp hk with h1 | h1
    · exact h.kr k h1
    · rw [List.mem_singleton.mp h1]
      have h2 := h.rng q hqm
      unfold keyP
      simp only
      have h3 := Int.emod_nonneg q.1 (show (lo.T : Int) ≠ 0 by omega)
      have h4 := Int.emod_lt_of_pos q.1 (show (0 : Int) < lo.T by omega)
      refine ⟨⟨h3, h4⟩, by omega, ?_⟩
      rw [Int.natCast_add, Int.natCast_mul]
      omega
theorem Srch.bad {lo : Lo} {q0 q : Int × Int} {D : Nat} {ks ls : List (Int × Int)} (h : Srch lo q0 D ks (ls ++ [q])) (hs : ¬ SoundRo lo q) : ¬ LastsRo lo q0 := fun hl =>
  hs fun c hc => h.reach q (List.mem_append_right _ (List.mem_singleton_self _)) hl [] (fun _ z => (nomatch z)) c hc
theorem Srch.done {lo : Lo} (ok : LoOk lo) {q0 : Int × Int} {D : Nat} {ks : List (Int × Int)} (h : Srch lo q0 D ks []) : LastsRo lo q0 := by
  have nx : ∀ p : Int × Int, (p ∈ ks ∨ ∃ q ∈ ([] : List (Int × Int)), keyP lo.T q = p) → p ∈ ks := fun p hp => hp.elim id fun ⟨_, z, _⟩ => (nomatch z)
  have go : ∀ (w : List CM.Stp) (q : Int × Int), (∀ s ∈ w, s ∈ lo.rs) → keyP lo.T q ∈ ks → keyP lo.T (CM.play w q) ∈ ks := by
    intro w
    induction w with
    | nil => intro q _ hq; exact hq
    | cons s w ih =>
      intro q hw hq
      have hs := hw s (List.mem_cons_self ..)
      refine ih (sv s q) (fun z hz => hw z (List.mem_cons_of_mem _ hz)) ?_
      rw [key_step ok hs q]
      exact nx _ (h.next _ hq s hs)
  intro w hw c hc
  exact sound_key ok _ (h.sound _ (go w q0 hw (nx _ h.start))) c hc
end CZ
set_option Elab.async false
set_option linter.all false
set_option maxRecDepth 100000
set_option maxHeartbeats 4000000
namespace CZ
open PySem PySem.Spec PyProof.Rows L2
theorem Pw.unsnoc {α : Type} {R : V → α → Prop} {xs : List V} {as : List α} {a : α} (h : Pw R xs (as ++ [a])) : ∃ xs0 x, xs = xs0 ++ [x] ∧ Pw R xs0 as ∧ R x a := by
  have hl := h.1
  rw [List.length_append] at hl
  have hl : xs.length = as.length + 1 := hl
  have hne : xs ≠ [] := fun z => by rw [z] at hl; simp at hl
  obtain ⟨xs0, x, rfl⟩ : ∃ xs0 x, xs = xs0 ++ [x] := ⟨_, _, (List.dropLast_concat_getLast hne).symm⟩
  have hd : xs0.length = as.length := by
    rw [List.length_append] at hl
    have hl : xs0.length + 1 = as.length + 1 := hl
    omega
  refine ⟨xs0, x, rfl, ⟨hd, fun i z b e1 e2 => ?_⟩, ?_⟩
  · have hi := (List.getElem?_eq_some_iff.mp e1).1
    refine h.2 i z b ?_ ?_
    · rw [List.getElem?_append_left hi]
      exact e1
    · rw [List.getElem?_append_left (by omega)]
      exact e2
  · refine h.2 as.length _ _ ?_ ?_
    · rw [List.getElem?_append_right (by omega), hd, Nat.sub_self]
      rfl
    · rw [List.getElem?_append_right (Nat.le_refl _), Nat.sub_self]
      rfl
section
variable {κ : Type} [DecidableEq κ]
theorem valV_no' {kvs : List (κ × V)} {k : κ} (h : k ∉ kvs.map (·.1)) : valV kvs k = none := by
  unfold valV
  rw [List.find?_eq_none.mpr]
  · rfl
  · intro x hx z
    exact h (List.mem_map.mpr ⟨x, hx, of_decide_eq_true z⟩)
theorem valV_yes {kvs : List (κ × V)} {k : κ} (h : k ∈ kvs.map (·.1)) : ∃ v, valV kvs k = some v := by
  unfold valV
  obtain ⟨x, hx, e⟩ := List.mem_map.mp h
  cases hf : kvs.find? (fun p => decide (p.1 = k)) with
  | none => exact absurd (decide_eq_true e) (List.find?_eq_none.mp hf x hx)
  | some y => exact ⟨y.2, rfl⟩
theorem putK_new {kvs : List (κ × V)} {k : κ} {v : V} (h : k ∉ kvs.map (·.1)) : putK kvs k v = kvs ++ [(k, v)] := by
  unfold putK
  rw [if_neg]
  rw [List.any_eq_true]
  rintro ⟨x, hx, e⟩
  exact h (List.mem_map.mpr ⟨x, hx, of_decide_eq_true e⟩)
end
def keyL (k : Int × Int) : List Key := [.inl k.1, .inl k.2]
theorem keyL_inj {a b : Int × Int} (h : keyL a = keyL b) : a = b := by
  unfold keyL at h
  injection h with h1 h2
  injection h2 with h2 _
  injection h1 with h1
  injection h2 with h2
  exact Prod.ext h1 h2
theorem keyL_mem {ks : List (Int × Int)} {k : Int × Int} : keyL k ∈ ks.map keyL ↔ k ∈ ks := ⟨fun h => by
  obtain ⟨x, hx, e⟩ := List.mem_map.mp h
  rw [← keyL_inj e]
  exact hx, fun h => List.mem_map_of_mem h⟩
def spQRooms (K : PySem.W.Frag) : Sp := fun vs H Q _ => ∃ (v : V) (lo : Lo) (w : V) (q : Addr) (x y : Int), vs = [v, w, .ref q] ∧ LoreOk H v lo ∧ StrAt K H lo w ∧ H q = some (.tup [.int x, .int y]) ∧ x ≤ y ∧ y ≤ x + 300 ∧ ∀ b H', Ex H H' → (b = true ↔ LastsRo lo (x, y)) → Q (.bl b) H'
section
variable {P : Program} {w : World} {K : PySem.W.Frag} {mg : Str → Option Value} {base : Heap}
theorem r_q_do_rooms_last (Z : Zed K mg base) : Rn P w K mg base 6 (a_q_do_rooms_last K) (spQRooms K) := by
  have R_q_period := r_q_period (P := P) (w := w) Z
  have R_q_program_names := r_q_program_names (P := P) (w := w) Z
  have R_q_pair_saved := r_q_pair_saved (P := P) (w := w) Z
  have R_q_is_cut_fine := r_q_is_cut_fine (P := P) (w := w) Z
  refine rn_of (u_q_do_rooms_last Z) sco_q_do_rooms_last (fun _ _ _ _ _ _ us hl => match us, hl with | [_, _, _], _ => rfl) (fun vs H Q E h => ?_) (fun cdv A outer s H vs Q E hr h => ?_)
  · obtain ⟨v, lo, x, q, x, y, rfl, _⟩ := h
    rfl
  · refine ⟨_, (pss_cons (ps_par3 (i := 3) (j := 4) (l := 5) rfl sco_q_do_rooms_last.nd rfl rfl rfl (by decide) (by decide) (by decide) rfl rfl rfl (pa_cons (pe_r R_q_period (g_q_period Z) hr (by rfl) (pa_cons (pv 0) pa_nil)) (pa_cons pe_dnewT (pa_cons (pe_lst (pa_cons (pv 2) pa_nil)) pa_nil))) (by rfl))
      (pss_cons (ps_while PassesOwn.never (pt_cmpR (op_neNilK K hr.units0) (pv 5) (pe_lst pa_nil) (nomark _))
        (pss_cons (ps_asg (pe_bm0 PySem.F.plainAttrs_list PySem.F.slot_list_pop PySem.F.type_list_pop mt_pop (pv 5)) (pg_tupK K (n := 2) rfl (pgs_cons (pg_name (i := 6) sco_q_do_rooms_last.nd rfl (Or.inl rfl)) (pgs_cons (pg_name (i := 7) sco_q_do_rooms_last.nd rfl (Or.inl rfl)) pgs_nil))))
        (pss_cons (ps_set (i := 8) sco_q_do_rooms_last.nd rfl (Or.inl rfl) (pe_tup (pa_cons (pe_op op_mod (pe_callTy call_int1 (by rfl) (f_int Z) (by decide +kernel) (pa_cons (pv 6) pa_nil)) (pv 3)) (pa_cons (pe_op op_sub (pv 7) (pv 6)) pa_nil))))
        (pss_one (ps_if (pt_cmp (pc_dnotin (hu_of hr) (pv 8) (pv 4)))
          (pss_cons (ps_dput (hu_of hr) (pv 4) (pv 8) pe_bl rfl)
          (pss_cons (ps_if (pt_not (pt_val (pe_r R_q_is_cut_fine (g_q_is_cut_fine Z) hr (by rfl) (pa_cons (pv 0) (pa_cons (pv 1) (pa_cons (pe_tup (pa_cons (pv 6) (pa_cons (pv 7) pa_nil))) pa_nil))))))
            (pss_one (ps_ret pe_bl))
            pss_nil)
          (pss_one (ps_for PassesOwn.never rfl (pi_listK K (pe_r R_q_program_names (g_q_program_names Z) hr (by rfl) (pa_cons (pv 0) pa_nil))) (pg_name (i := 9) sco_q_do_rooms_last.nd rfl (Or.inl rfl))
            (pss_one (ps_expr (pe_bm PySem.F.plainAttrs_list PySem.F.slot_list_append PySem.F.type_list_append mt_append (pv 5) (pa_cons (pe_r R_q_pair_saved (g_q_pair_saved Z) hr (by rfl) (pa_cons (pv 0) (pa_cons pe_str (pa_cons (pe_tup (pa_cons (pv 6) (pa_cons (pv 7) pa_nil))) (pa_cons (pv 9) pa_nil))))) pa_nil))))))))
          pss_nil)))))
      (pss_one (ps_ret pe_bl)))), ?_⟩
    obtain ⟨v, lo, st, q, x, y, rfl, hlo, hst, hq, hxy, hyx, k⟩ := h
    have hT := hlo.ok.T1
    refine ⟨_, rfl, v, lo, rfl, hlo.at_, hlo.ok, ?_⟩
    refine fun kd hkd => ?_
    refine ⟨_, rfl, by show 1 ≤ sizeLine; decide, fun lf hlf => ?_⟩
    refine ⟨_, _, _, rfl, ?_⟩
    have e1 : Ex H (upd H kd (.dT [])) := Evl.Ex.new hkd
    have e2 : Ex H (upd (upd H kd (.dT [])) lf (.lst [.ref q])) := e1.trans (Evl.Ex.new hlf)
    have nkl : kd ≠ lf := fun z => by rw [← z, upd_same] at hlf; cases hlf
    have hk2 : (upd (upd H kd (.dT [])) lf (.lst [.ref q])) kd = some (.dT []) := by rw [upd_ne nkl]; exact upd_same
    have hl2 : (upd (upd H kd (.dT [])) lf (.lst [.ref q])) lf = some (.lst [.ref q]) := upd_same
    have hlf0 : H lf = none := Evl.fresh_back e1 hlf
    generalize upd (upd H kd (.dT [])) lf (.lst [.ref q]) = H2 at *
    have hfr : ∀ {x : Addr} {o : HO}, H x = some o → x ∉ [kd, lf] := fun {x o} h z => by
      have e' : x = kd ∨ x = lf := by simpa using z
      rcases e' with e | e
      · rw [e, hkd] at h; cases h
      · rw [e, hlf0] at h; cases h
    obtain ⟨D, hD1, hD2⟩ : ∃ D : Nat, y ≤ x + (D : Int) * lo.T ∧ D * lo.T ≤ 360 := by
      refine ⟨((y - x) / lo.T).toNat + 1, ?_, ?_⟩
      · have h1 := Int.mul_ediv_add_emod (y - x) lo.T
        have h2 := Int.emod_lt_of_pos (y - x) (show (0 : Int) < lo.T by omega)
        have h3 : 0 ≤ (y - x) / (lo.T : Int) := Int.ediv_nonneg (by omega) (by omega)
        rw [Int.natCast_add, Int.toNat_of_nonneg h3, Int.add_mul]
        rw [Int.mul_comm] at h1
        omega
      · have h1 := Int.mul_ediv_add_emod (y - x) lo.T
        have h0 := Int.emod_nonneg (y - x) (show (lo.T : Int) ≠ 0 by omega)
        have h3 : 0 ≤ (y - x) / (lo.T : Int) := Int.ediv_nonneg (by omega) (by omega)
        have h4 : ((((y - x) / lo.T).toNat * lo.T : Nat) : Int) ≤ 300 := by
          rw [Int.natCast_mul, Int.toNat_of_nonneg h3, Int.mul_comm]
          omega
        rw [Nat.add_mul]
        omega
    have hN : lo.T * (D * lo.T + 1) ≤ 60 * 361 := Nat.mul_le_mul hT.2 (by omega)
    refine while_m (fun n σ H' => ∃ (o1 o2 o3 o4 : Option V) (kvs : List (List Key × V)) (xs : List V) (ks ls : List (Int × Int)), σ = [some v, some st, some (.ref q), some (.int lo.T), some (.ref kd), some (.ref lf), o1, o2, o3, o4] ∧ Keep [kd, lf] H H' ∧ H' kd = some (.dT kvs) ∧ kvs.map (·.1) = ks.map keyL ∧ H' lf = some (.lst xs) ∧ Pw (PairL (off [kd, lf] H')) xs ls ∧ Srch lo (x, y) D ks ls ∧ n = 4 * (lo.T * (D * lo.T + 1) - ks.length) + ls.length ∧ n ≤ 4 * (60 * 361) + 1) _ ⟨_, _, _, _, [], _, [], [(x, y)], rfl, Keep.of e2, hk2, rfl, hl2, Pw.snoc (xs := []) (as := []) Pw.nil ⟨q, rfl, ?_⟩, Srch.init ⟨hxy, hD1⟩, rfl, by show 4 * (_ - 0) + 1 ≤ _; omega⟩ ?_
    · rw [off_out (hfr hq)]
      exact e2 _ _ hq
    rintro n σ H3 ⟨o1, o2, o3, o4, kvs, xs, ks, ls, rfl, k3, hk3, hkk, hl3, hpw, hS, rfl, hn⟩
    refine ⟨_, rfl, by decide, fun em hem => ?_⟩
    have eE := Evl.Ex.new (o := .lst []) hem
    refine ⟨lf, em, xs, rfl, rfl, SqL.of (eE _ _ hl3), SqL.of upd_same, _, rfl, ?_⟩
    rcases List.eq_nil_or_concat ls with rfl | ⟨ls0, q1, hls⟩
    · have hx0 : xs = [] := List.length_eq_zero_iff.mp hpw.1
      subst hx0
      refine ifF rfl (k true _ ((k3.ex (Evl.Ex.refl _) fun a ha => ?_).trans eE) ⟨fun _ => hS.done hlo.ok, fun _ => rfl⟩)
      have e' : a = kd ∨ a = lf := by simpa using ha
      rcases e' with e | e
      · rw [e]; exact hkd
      · rw [e]; exact hlf0
    rw [List.concat_eq_append] at hls
    subst hls
    obtain ⟨xs0, xl, rfl, hpw0, ⟨r, rfl, hr1⟩⟩ := hpw.unsnoc
    refine ifT (by simp) (WN.go ?_)
    have hl4 := eE _ _ hl3
    have hk4 := eE _ _ hk3
    have k4 : Keep [kd, lf] H (upd H3 em (.lst [])) := k3.trans (Keep.of eE)
    have hpw4 := hpw0.mono (R' := PairL (off [kd, lf] (upd H3 em (.lst [])))) fun z a ⟨p, h1, h2⟩ => ⟨p, h1, (Keep.of eE).off _ _ h2⟩
    have hr4 : off [kd, lf] (upd H3 em (.lst [])) r = some (.tup [.int q1.1, .int q1.2]) := (Keep.of eE).off _ _ hr1
    generalize upd H3 em (.lst []) = H4 at *
    refine ⟨_, rfl, .inl ⟨rfl, _, SqL.of hl4⟩, lf, _, .ref r, rfl, rfl, hl4, by simp, ?_⟩
    rw [List.dropLast_concat]
    obtain ⟨x1, y1⟩ := q1
    have nrk : r ∉ [kd, lf] := fun z => by rw [off_in z] at hr4; cases hr4
    have k5 : Keep [kd, lf] H4 (upd H4 lf (.lst xs0)) := Keep.upd (Keep.of (Evl.Ex.refl _)) (by simp)
    have hr5 := k5.off _ _ hr4
    have hl5 : (upd H4 lf (.lst xs0)) lf = some (.lst xs0) := upd_same
    have hk5 : (upd H4 lf (.lst xs0)) kd = some (.dT kvs) := by rw [upd_ne nkl]; exact hk4
    have hpw5 := hpw4.mono (R' := PairL (off [kd, lf] (upd H4 lf (.lst xs0)))) fun z a ⟨p, h1, h2⟩ => ⟨p, h1, k5.off _ _ h2⟩
    have k05 := k4.trans k5
    generalize upd H4 lf (.lst xs0) = H5 at *
    refine ⟨r, _, rfl, SqT.of (off_ex _ _ hr5), rfl, _, _, rfl, _, _, rfl, rfl, ?_⟩
    refine ⟨_, rfl, .inl ⟨_, rfl, _, rfl, _, _, rfl, rfl, by omega, _, rfl, _, rfl, _, _, rfl, rfl, by show 2 ≤ sizeLine; decide, fun pl hpl => ?_⟩⟩
    have e6 := Evl.Ex.new (o := .tup [.int (x1 % lo.T), .int (y1 - x1)]) hpl
    have hpl6 : (upd H5 pl (.tup [.int (x1 % lo.T), .int (y1 - x1)])) pl = some (.tup ((keyL (keyP lo.T (x1, y1))).map kV)) := upd_same
    have hl6 := e6 _ _ hl5
    have hk6 := e6 _ _ hk5
    have hr6 := (Keep.of (l := [kd, lf]) e6).off _ _ hr5
    have hpw6 := hpw5.mono (R' := PairL (off [kd, lf] (upd H5 pl (.tup [.int (x1 % lo.T), .int (y1 - x1)])))) fun z a ⟨p, h1, h2⟩ => ⟨p, h1, (Keep.of e6).off _ _ h2⟩
    have k06 := k05.trans (Keep.of e6)
    generalize upd H5 pl (.tup [.int (x1 % lo.T), .int (y1 - x1)]) = H6 at *
    refine ⟨_, rfl, _, rfl, kd, _, rfl, DGet.t (k := keyL (keyP lo.T (x1, y1))) hk6 hpl6, _, rfl, ?_⟩
    have hlen : (ls0 ++ [(x1, y1)]).length = ls0.length + 1 := List.length_append
    by_cases hin : keyP lo.T (x1, y1) ∈ ks
    · obtain ⟨z, hz⟩ := valV_yes (kvs := kvs) (k := keyL (keyP lo.T (x1, y1))) (by rw [hkk]; exact keyL_mem.mpr hin)
      refine ifF (by rw [hz]; rfl) ⟨_, ?_, _, _, _, _, kvs, xs0, ks, ls0, rfl, k06, hk6, hkk, hl6, hpw6, hS.skip hin, rfl, ?_⟩
      · rw [hlen]; omega
      · rw [hlen] at hn; omega
    · have hno : keyL (keyP lo.T (x1, y1)) ∉ kvs.map (·.1) := by rw [hkk]; exact fun z => hin (keyL_mem.mp z)
      refine ifT (by rw [valV_no' hno]; rfl) ?_
      have hks : kvs.length = ks.length := by
        have := congrArg List.length hkk
        rw [List.length_map, List.length_map] at this
        exact this
      have hkn := CM.keys_le hS.nd hS.kr
      refine ⟨_, rfl, _, rfl, kd, _, rfl, DPut.t (k := keyL (keyP lo.T (x1, y1))) hk6 hpl6 (Evl.sz_lt (by omega)), ?_⟩
      rw [putK_new hno]
      have k7 : Keep [kd, lf] H6 (upd H6 kd (.dT (kvs ++ [(keyL (keyP lo.T (x1, y1)), .bl true)]))) := Keep.upd (Keep.of (Evl.Ex.refl _)) (by simp)
      have hk7 : (upd H6 kd (.dT (kvs ++ [(keyL (keyP lo.T (x1, y1)), .bl true)]))) kd = some (.dT (kvs ++ [(keyL (keyP lo.T (x1, y1)), .bl true)])) := upd_same
      have hl7 : (upd H6 kd (.dT (kvs ++ [(keyL (keyP lo.T (x1, y1)), .bl true)]))) lf = some (.lst xs0) := by rw [upd_ne (Ne.symm nkl)]; exact hl6
      have hpw7 := hpw6.mono (R' := PairL (off [kd, lf] (upd H6 kd (.dT (kvs ++ [(keyL (keyP lo.T (x1, y1)), .bl true)]))))) fun z a ⟨p, h1, h2⟩ => ⟨p, h1, k7.off _ _ h2⟩
      have k07 := k06.trans k7
      generalize upd H6 kd (.dT (kvs ++ [(keyL (keyP lo.T (x1, y1)), .bl true)])) = H7 at *
      have hz0 : ∀ a ∈ [kd, lf], H a = none := fun a ha => by
        have e' : a = kd ∨ a = lf := by simpa using ha
        rcases e' with e | e
        · rw [e]; exact hkd
        · rw [e]; exact hlf0
      have e07 : Ex H H7 := k07.ex (Evl.Ex.refl _) hz0
      refine ⟨_, rfl, _, rfl, _, rfl, _, rfl, by show 2 ≤ sizeLine; decide, fun t8 ht8 => ?_⟩
      have e8 := Evl.Ex.new (o := .tup [.int x1, .int y1]) ht8
      refine ⟨v, lo, st, t8, x1, y1, rfl, hlo.mono (e07.trans e8), hst.mono (e07.trans e8), SqT.of upd_same, fun b H9 e9 hb => ?_⟩
      have e79 := e8.trans e9
      cases b with
      | false =>
        refine ⟨_, rfl, ifT rfl (k false _ (e07.trans e79) ⟨fun z => (nomatch z), fun z => ?_⟩)⟩
        exact (hS.bad (fun hs => (nomatch (hb.mpr hs))) z).elim
      | true =>
        have hsnd : SoundRo lo (x1, y1) := hb.mp rfl
        refine ⟨_, rfl, ifF rfl ?_⟩
        have hS2 := hS.add hlo.ok hin hsnd
        refine ⟨_, rfl, v, lo, rfl, hlo.at_.mono (e07.trans e79), hlo.ok, fun nl H10 hnl e10 hnl1 => ?_⟩
        have e710 := e79.trans e10
        have hrs : lo.rs = lo.ps.map CM.stpR := rfl
        have hln : lo.ps.length ≤ 3 := hlo.ok.len
        have nlk : nl ∉ [kd, lf] := fun z => by
          have e' : nl = kd ∨ nl = lf := by simpa using z
          rcases e' with e | e
          · rw [e, e79 _ _ hk7] at hnl; cases hnl
          · rw [e, e79 _ _ hl7] at hnl; cases hnl
        have hls : ls0.length ≤ 4 * (60 * 361) + 1 := by rw [hlen] at hn; omega
        refine ⟨nl, rfl, ⟨_, SqL.of hnl1⟩, for_it (walk_list (xs := (lo.ps.map nmS).map V.str)) (fun i σ H' => ∃ (o4 : Option V) (xs' : List V), σ = [some v, some st, some (.ref q), some (.int lo.T), some (.ref kd), some (.ref lf), some (.int x1), some (.int y1), some (.ref pl), o4] ∧ Keep [kd, lf] H10 H' ∧ H' kd = some (.dT (kvs ++ [(keyL (keyP lo.T (x1, y1)), .bl true)])) ∧ H' lf = some (.lst xs') ∧ Pw (PairL (off [kd, lf] H')) xs' (ls0 ++ (lo.rs.map fun s => sv s (x1, y1)).take i)) ⟨_, _, rfl, Keep.of (Evl.Ex.refl _), e710 _ _ hk7, e710 _ _ hl7, ?_⟩ (fun i σ H' _ hv => ?_) (fun i z σ Hx H11 hi hv hy => ?_) (fun σ H11 hv => ?_)⟩
        · rw [List.take_zero, List.append_nil]
          exact hpw7.mono fun z a ⟨p, h1, h2⟩ => ⟨p, h1, (Keep.of e710).off _ _ h2⟩
        · obtain ⟨_, _, rfl, kk, _⟩ := hv
          exact SqL.of (kk _ _ nlk hnl1)
        · obtain ⟨o4, xs', rfl, k11, hk11, hl11, hpw11⟩ := hv
          obtain ⟨rfl, hxx⟩ := hy
          obtain ⟨p, hp, rfl⟩ : ∃ p, lo.ps[i]? = some p ∧ z = V.str (nmS p) := by
            rw [List.getElem?_map, List.getElem?_map] at hxx
            cases h : lo.ps[i]? with
            | none => rw [h] at hxx; cases hxx
            | some p => rw [h] at hxx; injection hxx with hxx; exact ⟨p, rfl, hxx.symm⟩
          have hpm := List.mem_of_getElem? hp
          have k0B : Keep [kd, lf] H H11 := (k07.trans (Keep.of e710)).trans k11
          have e0B : Ex H H11 := k0B.ex (Evl.Ex.refl _) hz0
          refine ⟨_, rfl, .inl ⟨rfl, _, SqL.of hl11⟩, ?_⟩
          refine ⟨_, rfl, _, rfl, _, rfl, by show 2 ≤ sizeLine; decide, fun tC htC => ?_⟩
          have eC := Evl.Ex.new (o := .tup [.int x1, .int y1]) htC
          refine ⟨_, rfl, v, lo, true, tC, x1, y1, p, rfl, hlo.at_.mono (e0B.trans eC), hlo.ok, hlo.nd, hpm, SqT.of upd_same, fun rr HD hrr eD hrr2 => ?_⟩
          have eBD := eC.trans eD
          have hlD := eBD _ _ hl11
          have hxl : xs'.length ≤ 4 * (60 * 361) + 1 + 3 := by
            rw [hpw11.1, List.length_append, List.length_take, List.length_map]
            have : lo.rs.length = lo.ps.length := lo.rs_len
            omega
          refine ⟨lf, _, _, rfl, rfl, hlD, Evl.sz_lt (by omega), ?_⟩
          have kF : Keep [kd, lf] H11 (upd HD lf (.lst (xs' ++ [.ref rr]))) := Keep.upd (Keep.of eBD) (by simp)
          have hrk : rr ∉ [kd, lf] := fun z => by
            have e' : rr = kd ∨ rr = lf := by simpa using z
            rcases e' with e | e
            · rw [e, eD _ _ (eC _ _ hk11)] at hrr2; cases hrr2
            · rw [e, hlD] at hrr2; cases hrr2
          refine ⟨_, xs' ++ [.ref rr], rfl, k11.trans kF, by rw [upd_ne nkl]; exact eBD _ _ hk11, upd_same, ?_⟩
          have htk : (lo.rs.map fun s => sv s (x1, y1)).take (i + 1) = (lo.rs.map fun s => sv s (x1, y1)).take i ++ [sv (CM.stpR p) (x1, y1)] := by
            rw [List.take_succ, List.getElem?_map, hrs, List.getElem?_map, hp]
            rfl
          rw [htk, ← List.append_assoc]
          refine (hpw11.mono fun z a ⟨p, h1, h2⟩ => ⟨p, h1, kF.off _ _ h2⟩).snoc ⟨rr, rfl, ?_⟩
          rw [off_out hrk, upd_ne (fun z => hrk (by rw [z]; simp))]
          exact hrr2
        · obtain ⟨o4, xs', rfl, k11, hk11, hl11, hpw11⟩ := hv
          have hll : ((lo.ps.map nmS).map V.str).length = (lo.rs.map fun s => sv s (x1, y1)).length := by
            rw [List.length_map, List.length_map, List.length_map, lo.rs_len]
          rw [hll, List.take_length] at hpw11
          have hkn2 := CM.keys_le hS2.nd hS2.kr
          have hl3 : (lo.rs.map fun s => sv s (x1, y1)).length ≤ 3 := by rw [List.length_map, lo.rs_len]; exact hln
          rw [List.length_append] at hkn2
          have hkn2 : ks.length + 1 ≤ lo.T * (D * lo.T + 1) := hkn2
          refine ⟨_, ?_, _, _, _, _, _, xs', ks ++ [keyP lo.T (x1, y1)], _, rfl, (k07.trans (Keep.of e710)).trans k11, hk11, by rw [List.map_append, List.map_append, hkk]; rfl, hl11, hpw11, hS2, rfl, ?_⟩
          · rw [List.length_append, List.length_append, List.length_append]
            show 4 * (_ - (ks.length + 1)) + _ < 4 * _ + (ls0.length + 1)
            omega
          · rw [List.length_append, List.length_append]
            rw [hlen] at hn
            show 4 * (_ - (ks.length + 1)) + _ ≤ _
            omega
end
end CZ
set_option Elab.async false
set_option linter.all false
set_option maxRecDepth 100000
set_option maxHeartbeats 4000000
namespace CZ
open PySem PySem.Spec PyProof.Rows L2
/-! ### one list is kept aside while a def runs -/
/-- the promise, with one list that the def neither sees nor changes -/
def spF (sp : Sp) : Sp := fun vs H Q E => ∃ p xs, H p = some (.lst xs) ∧ sp vs (hid p H) (fun v G => ∀ H', hid p H' = G → H' p = some (.lst xs) → Q v H') E
theorem Rn.fr {P : Program} {w : World} {K : PySem.W.Frag} {mg : Str → Option Value} {base : Heap} {k : Nat} {f : Addr} {sp : Sp} (R : Rn P w K mg base k f sp) : Rn P w K mg base k f (spF sp) := by
  obtain ⟨fd, ps, F, b⟩ := R.ex
  refine ⟨⟨fd, ps, ⟨fun vs H Q E h => ?_, fun A outer s H args us vs Q E hr he hb hv hs => ?_⟩, b⟩, R.kp⟩
  · obtain ⟨p, xs, _, h⟩ := h
    exact F.len _ _ _ _ h
  · obtain ⟨p, xs, hp, hs⟩ := hs
    have hn : ∀ b, H b = none → hid p H b = none := fun b h => by
      by_cases e : b = p
      · rw [e, hid_at]
      · rw [hid_ne e, h]
    have hok0 : HOk P w (hid p H) s.heap := fun a o h => by
      refine (he.hok a o (hid_ex _ _ h)).stay (fun _ _ _ q => q) (fun c q => ?_) fun c ys q => ?_
      · have e : c ≠ p := fun z => by rw [z, hp] at q; cases q
        rw [hid_ne e]
        exact q
      · have e : c ≠ p := fun z => by rw [z, hp] at q; cases q
        rw [hid_ne e]
        exact q
    have he' : Env0 P w K mg base A outer s (hid p H) := ⟨he.frames, he.mod, fun b o e => ⟨(he.bs b o e).1, hn b (he.bs b o e).2⟩, he.bsz, he.funs, fun b h => hn b (he.frf b h), hok0, he.bare⟩
    refine codeAny_mono (F.run A outer s (hid p H) args us vs _ E hr he' hb hv hs) fun r s' h => ?_
    cases r with
    | error e => exact h.elim
    | ok fl =>
      cases fl with
      | ret u =>
        obtain ⟨v, H', os, bare, un, hok, r, q⟩ := h
        obtain ⟨z, its, n, r2, hlp⟩ := (show ObjOk P w H s.heap p (.lst xs) from he.hok p _ hp)
        have hpf : p ∉ frs outer := fun z => by rw [he.frf p z] at hp; cases hp
        have hp' : H' p = none := un.free p _ hlp hid_at (by simp)
        have hkp := un.keep p _ hlp hid_at hpf (by simp)
        refine ⟨v, upd H' p (.lst xs), os, bare, ?_, ?_, r, q _ (funext fun b => ?_) upd_same⟩
        · have hnp : ∀ b, H b = none → b ≠ p := fun b h z => by rw [z, hp] at h; cases h
          refine ⟨fun b o h1 h2 => un.keep b o h1 (hn b h2), fun b o h1 h2 => un.slot b o h1 (hn b h2), fun b o h1 h2 h3 => ?_, un.there, fun b ys h1 => ?_, fun b o u h1 => ?_, fun b ts h1 => ?_⟩
          · rw [upd_ne (hnp b h2)]
            exact un.free b o h1 (hn b h2) h3
          · have e : b ≠ p := fun z => by rw [z, hp] at h1; cases h1
            rw [upd_ne e]
            exact un.tups b ys (by rw [hid_ne e]; exact h1)
          · have e : b ≠ p := fun z => by rw [z, hp] at h1; cases h1
            rw [upd_ne e]
            exact un.frzs b o u (by rw [hid_ne e]; exact h1)
          · have e : b ≠ p := fun z => by rw [z, hp] at h1; cases h1
            obtain ⟨more, h2⟩ := un.tbls b ts (by rw [hid_ne e]; exact h1)
            exact ⟨more, by rw [upd_ne e]; exact h2⟩
        · intro a o h
          by_cases e : a = p
          · subst e
            rw [upd_same] at h
            cases h
            exact ⟨z, its, n, r2, hkp⟩
          · rw [upd_ne e] at h
            refine (hok a o h).stay (fun _ _ _ q => q) (fun c q => ?_) fun c ys q => ?_
            · have e : c ≠ p := fun z => by rw [z, hp'] at q; cases q
              rw [upd_ne e]
              exact q
            · have e : c ≠ p := fun z => by rw [z, hp'] at q; cases q
              rw [upd_ne e]
              exact q
        · by_cases e : b = p
          · rw [e, hid_at, hp']
          · rw [hid_ne e, upd_ne e]
      | _ => exact h.elim
/-! ### the text's lines -/
def prgLn (p : CM.Prg) : List Ln := .prog p.name :: ((if p.bn = 0 ∧ p.bd = 1 then [] else [.frm p.bn p.bd]) ++ (p.vias.map Ln.via ++ [.back p.back]))
def lnsOf (lo : Lo) : List Ln := .trim lo.trim :: lo.ps.flatMap prgLn
theorem Runs.trans {a b c : RS} {l m : List Ln} (h : Runs a l b) (h2 : Runs b m c) : Runs a (l ++ m) c := by
  induction h with
  | nil s => exact h2
  | cons h hd r ih => exact .cons h hd (ih h2)
theorem Runs.one {a b : RS} {l : Ln} (h : RStep a l b) (hd : a.done.length ≤ 4) : Runs a [l] b := .cons h hd (.nil _)
theorem runs_vias {t : Option Nat} {done : List CM.Prg} (hd : done.length ≤ 4) : ∀ (vs : List CM.Via) (c : Cur), c.vias.length + vs.length ≤ 3 → (∀ v ∈ vs, GVia v) → Runs ⟨t, done, some c⟩ (vs.map Ln.via) ⟨t, done, some { c with vias := c.vias ++ vs }⟩
  | [], c, _, _ => by
    rw [List.append_nil]
    exact .nil _
  | v :: vs, c, hl, hv => by
    have hg := hv v (List.mem_cons_self ..)
    rw [List.length_cons] at hl
    refine .cons (.via hg.sm hg.n1 (by omega)) hd ?_
    have ih := runs_vias (t := t) hd vs { c with vias := c.vias ++ [v] } (by show (c.vias ++ [v]).length + _ ≤ 3; rw [List.length_append, List.length_singleton]; omega) fun z hz => hv z (List.mem_cons_of_mem _ hz)
    have e : ({ c with vias := c.vias ++ (v :: vs) } : Cur) = { c with vias := c.vias ++ [v] ++ vs } := by
      rw [List.append_assoc]
      rfl
    rw [e]
    exact ih
theorem pool_az : ∀ z ∈ poolS, (0 < z.cps.toList.length ∧ z.cps.toList.length ≤ 8) ∧ ∀ c ∈ z.cps.toList, 97 ≤ c ∧ c ≤ 122 := by decide +kernel
theorem GPrg.nmk {p : CM.Prg} (h : GPrg p) : Nm p.name := by
  have h1 := pool_az _ h.nm
  have e : (nmS p).cps.toList = p.name := by unfold nmS; simp
  rw [e] at h1
  exact ⟨h1.1, h1.2⟩
theorem runs_prg {t : Option Nat} {done : List CM.Prg} {p : CM.Prg} (hd : done.length < 4) (hg : GPrg p) (hn : ∀ q ∈ done, q.name ≠ p.name) : Runs ⟨t, done, none⟩ (prgLn p) ⟨t, done ++ [p], none⟩ := by
  have hv := hg.vn
  unfold prgLn
  refine .cons (.prog hg.nmk hd hn) (by show done.length ≤ 4; omega) ?_
  have fin : ∀ b, Runs ⟨t, done, some ⟨p.name, p.bn, p.bd, b, []⟩⟩ (p.vias.map Ln.via ++ [.back p.back]) ⟨t, done ++ [p], none⟩ := fun b => by
    have h1 := runs_vias (t := t) (done := done) (by omega) p.vias ⟨p.name, p.bn, p.bd, b, []⟩ (by show 0 + _ ≤ 3; omega) hg.vs
    refine h1.trans (Runs.one ?_ (by show done.length ≤ 4; omega))
    have h2 := RStep.back (t := t) (done := done) (c := ⟨p.name, p.bn, p.bd, b, [] ++ p.vias⟩) (h := p.back) hv.1
    exact h2
  by_cases h0 : p.bn = 0 ∧ p.bd = 1
  · rw [if_pos h0, List.nil_append]
    have := fin false
    rw [h0.1, h0.2] at this
    exact this
  · rw [if_neg h0]
    exact .cons (.frm hg.sb) (by show done.length ≤ 4; omega) (fin true)
theorem nm_ne {p q : CM.Prg} (h : nmS p ≠ nmS q) : p.name ≠ q.name := fun z => h (by unfold nmS; rw [z])
theorem runs_ps {t : Option Nat} : ∀ (ps done : List CM.Prg), done.length + ps.length ≤ 3 → (∀ p ∈ ps, GPrg p) → ((done ++ ps).map nmS).Nodup → Runs ⟨t, done, none⟩ (ps.flatMap prgLn) ⟨t, done ++ ps, none⟩
  | [], done, _, _, _ => by
    rw [List.append_nil]
    exact .nil _
  | p :: ps, done, hl, hg, hnd => by
    rw [List.length_cons] at hl
    rw [List.flatMap_cons]
    have e : done ++ p :: ps = done ++ [p] ++ ps := by rw [List.append_assoc]; rfl
    refine (runs_prg (by omega) (hg p (List.mem_cons_self ..)) fun q hq => nm_ne ?_).trans ?_
    · rw [List.map_append, List.nodup_append] at hnd
      exact hnd.2.2 _ (List.mem_map_of_mem hq) _ (List.mem_map_of_mem (List.mem_cons_self ..))
    · rw [e]
      refine runs_ps ps (done ++ [p]) (by rw [List.length_append, List.length_singleton]; omega) (fun z hz => hg z (List.mem_cons_of_mem _ hz)) ?_
      rw [← e]
      exact hnd
theorem GLo.runs {lo : Lo} (h : GLo lo) : Runs ⟨none, [], none⟩ (lnsOf lo) ⟨some lo.trim, lo.ps, none⟩ :=
  .cons (.trim h.trim) (by show 0 ≤ 4; decide) (runs_ps lo.ps [] (by show 0 + _ ≤ 3; have := h.len; omega) h.g h.nd)
theorem howL_10 (h : CM.How) : (10 : Nat) ∉ howL h := by cases h <;> decide
theorem dgL_10 (z : Int) : (10 : Nat) ∉ dgL z := by
  unfold dgL
  split <;> simp <;> omega
theorem ratL_10 (n d : Int) : (10 : Nat) ∉ ratL n d := by
  unfold ratL
  split
  · exact dgL_10 n
  · intro h
    rcases List.mem_append.mp h with h | h
    · exact dgL_10 n h
    · rcases List.mem_cons.mp h with h | h
      · cases h
      · exact dgL_10 d h
theorem ln_10 {s s' : RS} {l : Ln} (h : RStep s l s') : (10 : Nat) ∉ l.L := by
  cases h with
  | @trim n h => simp [Ln.L, Ln.hd, Ln.ws, TL.joinL]; omega
  | @prog _ _ n h _ _ =>
    have h1 := h.az
    simp [Ln.L, Ln.hd, Ln.ws, TL.joinL]
    intro z
    have := h1 _ z
    omega
  | @frm _ _ _ n d h =>
    have h1 := ratL_10 n d
    simpa [Ln.L, Ln.hd, Ln.ws, TL.joinL] using h1
  | @via _ _ c v h _ _ =>
    have h1 := ratL_10 v.n v.d
    have h2 := howL_10 v.h.1
    have h3 := howL_10 v.h.2
    simp [Ln.L, Ln.hd, Ln.ws, TL.joinL, h1, h2, h3]
  | @back _ _ c v h =>
    have h2 := howL_10 v.1
    have h3 := howL_10 v.2
    simp [Ln.L, Ln.hd, Ln.ws, TL.joinL, h2, h3]
theorem Runs.all {s s' : RS} {ls : List Ln} (h : Runs s ls s') : ∀ l ∈ ls, (10 : Nat) ∉ l.L ∧ l.L.length ≤ 40 := by
  induction h with
  | nil s => intro l h; cases h
  | cons h hd r ih =>
    intro l hl
    rcases List.mem_cons.mp hl with rfl | hl
    · exact ⟨ln_10 h, ln_len h⟩
    · exact ih l hl
theorem joinL_len : ∀ (ls : List (List Nat)), (∀ l ∈ ls, l.length ≤ 40) → (TL.joinL [10] ls).length ≤ 41 * ls.length
  | [], _ => Nat.zero_le _
  | [p], h => by
    have := h p (List.mem_cons_self ..)
    show p.length ≤ 41 * 1
    omega
  | p :: q :: r, h => by
    have h1 := h p (List.mem_cons_self ..)
    have ih := joinL_len (q :: r) fun l hl => h l (List.mem_cons_of_mem _ hl)
    show (p ++ ([10] ++ TL.joinL [10] (q :: r))).length ≤ _
    rw [List.length_append, List.length_append]
    have e1 : (p :: q :: r).length = r.length + 2 := rfl
    have e2 : (q :: r).length = r.length + 1 := rfl
    have e3 : ([10] : List Nat).length = 1 := rfl
    rw [e1, e3]
    rw [e2] at ih
    omega
theorem prgLn_len {p : CM.Prg} (h : p.vias.length ≤ 3) : (prgLn p).length ≤ 6 := by
  unfold prgLn
  rw [List.length_cons, List.length_append, List.length_append, List.length_map]
  split <;> simp <;> omega
theorem flat_len : ∀ (ps : List CM.Prg), (∀ p ∈ ps, GPrg p) → (ps.flatMap prgLn).length ≤ 6 * ps.length
  | [], _ => Nat.le_refl _
  | p :: ps, h => by
    have h1 := prgLn_len (h p (List.mem_cons_self ..)).vn.2
    have ih := flat_len ps fun q hq => h q (List.mem_cons_of_mem _ hq)
    rw [List.flatMap_cons, List.length_append, List.length_cons]
    omega
theorem GLo.lns_len {lo : Lo} (h : GLo lo) : (lnsOf lo).length ≤ 19 := by
  have h1 := flat_len lo.ps h.g
  have h2 := h.len
  unfold lnsOf
  rw [List.length_cons]
  omega
end CZ
set_option Elab.async false
set_option linter.all false
set_option maxRecDepth 100000
set_option maxHeartbeats 4000000
namespace CZ
open PySem PySem.Spec PyProof.Rows L2
/-! ### the law writes its studio's text -/
def strsOf (ls : List Ln) : List V := ((ls.map Ln.L).map SX.S).map V.str
theorem strsOf_add (a b : List Ln) : strsOf (a ++ b) = strsOf a ++ strsOf b := by
  unfold strsOf
  rw [List.map_append, List.map_append, List.map_append]
theorem strsOf_len (a : List Ln) : (strsOf a).length = a.length := by
  unfold strsOf
  rw [List.length_map, List.length_map, List.length_map]
theorem gtup3_mono {K : PySem.W.Frag} {i j l : Nat} {x : V} {σ : L2.St} {H : Hp} {Q Q' : L2.St → Hp → Prop} (h : ∀ σ2 H2, Q σ2 H2 → Q' σ2 H2) (g : gTup K 3 (gCons (gName i) (gCons (gName j) (gCons (gName l) gNil))) x σ H Q) : gTup K 3 (gCons (gName i) (gCons (gName j) (gCons (gName l) gNil))) x σ H Q' := by
  obtain ⟨p, xs, rfl, hT, hl, x1, r1, rfl, x2, r2, rfl, x3, r3, rfl, h3, hq⟩ := g
  exact ⟨p, _, rfl, hT, hl, x1, _, rfl, x2, _, rfl, x3, _, rfl, h3, h _ _ hq⟩
theorem sx_trim : Str.ofString "trim " = SX.S [116, 114, 105, 109, 32] := by decide +kernel
theorem sx_prog : Str.ofString "program " = SX.S [112, 114, 111, 103, 114, 97, 109, 32] := by decide +kernel
theorem sx_from : Str.ofString "  from " = SX.S [32, 32, 102, 114, 111, 109, 32] := by decide +kernel
theorem sx_via : Str.ofString "  via " = SX.S [32, 32, 118, 105, 97, 32] := by decide +kernel
theorem sx_back : Str.ofString "  back " = SX.S [32, 32, 98, 97, 99, 107, 32] := by decide +kernel
theorem sx_sp : Str.ofString " " = SX.S [32] := by decide +kernel
theorem sx_nl : Str.ofString "\n" = SX.S [10] := by decide +kernel
theorem ln_trim (n : Nat) : SX.S ([116, 114, 105, 109, 32] ++ dgL n) = SX.S (Ln.trim n).L := by
  have e : dgL (n : Int) = [48 + n] := by
    unfold dgL
    rw [if_neg (by omega)]
    simp
  rw [e]
  rfl
def spQText (K : PySem.W.Frag) : Sp := fun vs H Q _ => ∃ (v : V) (lo : Lo), vs = [v] ∧ LoreAt H v lo ∧ GLo lo ∧ ∀ H', Ex H H' → Q (.str (SX.S (TL.joinL [10] ((lnsOf lo).map Ln.L)))) H'
section
variable {P : Program} {w : World} {K : PySem.W.Frag} {mg : Str → Option Value} {base : Heap}
theorem r_q_text (Z : Zed K mg base) : Rn P w K mg base 2 (a_q_text K) (spQText K) := by
  have R_q_ratio_text := r_q_ratio_text (P := P) (w := w) Z
  refine rn_of (u_q_text Z) sco_q_text (fun _ _ _ _ _ _ us hl => match us, hl with | [_], _ => rfl) (fun vs H Q E h => ?_) (fun cdv A outer s H vs Q E hr h => ?_)
  · obtain ⟨v, lo, rfl, _⟩ := h
    rfl
  · refine ⟨_, (pss_cons (ps_set (i := 1) sco_q_text.nd rfl (Or.inl rfl) (pe_ifExp (pt_cmpR op_isN (pe_dget (hu_of hr) (pv 0) pe_str (fun _ _ => rfl)) pe_non (nomark _)) (pe_lst pa_nil) (pe_lst (pa_cons (pe_op op_add_str pe_str (pe_callTy call_str_int (by rfl) (f_str Z) (by decide +kernel) (pa_cons (pe_dget (hu_of hr) (pv 0) pe_str (fun _ _ => rfl)) pa_nil))) pa_nil))))
      (pss_cons (ps_for PassesOwn.never rfl (pi_listK K (pe_dget (hu_of hr) (pv 0) pe_str (fun _ _ => rfl))) (pg_tupK K (n := 4) rfl (pgs_cons (pg_name (i := 2) sco_q_text.nd rfl (Or.inl rfl)) (pgs_cons (pg_name (i := 3) sco_q_text.nd rfl (Or.inl rfl)) (pgs_cons (pg_name (i := 4) sco_q_text.nd rfl (Or.inl rfl)) (pgs_cons (pg_name (i := 5) sco_q_text.nd rfl (Or.inl rfl)) pgs_nil)))))
        (pss_cons (ps_expr (pe_bm PySem.F.plainAttrs_list PySem.F.slot_list_append PySem.F.type_list_append mt_append (pv 1) (pa_cons (pe_op op_add_str pe_str (pv 2)) pa_nil)))
        (pss_cons (ps_if (pt_cmpR (op_neFTK K hr.units0) (pv 3) (pe_tup (pa_cons pe_int (pa_cons pe_int pa_nil))) (nomark _))
          (pss_one (ps_expr (pe_bm PySem.F.plainAttrs_list PySem.F.slot_list_append PySem.F.type_list_append mt_append (pv 1) (pa_cons (pe_op op_add_str pe_str (pe_r R_q_ratio_text (g_q_ratio_text Z) hr (by rfl) (pa_cons (pv 3) pa_nil))) pa_nil))))
          pss_nil)
        (pss_cons (ps_expr (pe_bm PySem.F.plainAttrs_list PySem.F.slot_list_extend PySem.F.type_list_extend mt_extend (pv 1) (pa_cons (pe_lc (own := [("_law_ratio", 6), ("_law_one", 7), ("_law_other", 8)]) (tt := tYes) rfl sco_q_text.nd (pi_listK K (pv 4)) (blkOk_by (by kernel_rfl)) (fun _ _ _ _ _ => (pg_tupK K (n := 3) rfl (pgs_cons (pg_name (i := 6) sco_q_text.nd rfl (Or.inl rfl)) (pgs_cons (pg_name (i := 7) sco_q_text.nd rfl (Or.inl rfl)) (pgs_cons (pg_name (i := 8) sco_q_text.nd rfl (Or.inl rfl)) pgs_nil))))) (fun _ _ _ _ _ => pts_nil) (fun _ _ _ _ _ => (pe_op op_add_str pe_str (pe_joinK K pe_str (pe_lst (pa_cons (pe_r R_q_ratio_text (g_q_ratio_text Z) hr (by rfl) (pa_cons (pv 6) pa_nil)) (pa_cons (pv 7) (pa_cons (pv 8) pa_nil)))))))) pa_nil)))
        (pss_one (ps_expr (pe_bm PySem.F.plainAttrs_list PySem.F.slot_list_append PySem.F.type_list_append mt_append (pv 1) (pa_cons (pe_op op_add_str (pe_op op_add_str (pe_op op_add_str pe_str (pe_ix (ix_tupK K) (pv 5) pe_int (fun _ _ => rfl))) pe_str) (pe_ix (ix_tupK K) (pv 5) pe_int (fun _ _ => rfl))) pa_nil))))))))
      (pss_one (ps_ret (pe_joinK K pe_str (pv 1)))))), ?_⟩
    obtain ⟨v, lo, rfl, hlo, hg, k⟩ := h
    obtain ⟨a, l, xs, rfl, ha, hl, hx⟩ := hlo.ex
    have htr := hg.trim
    have hle := hg.len
    have hlog : ∀ z : Int, -9 ≤ z → z ≤ 9 → z.natAbs.log2 < 1920 := fun z h1 h2 => by
      have h3 : z.natAbs.log2 ≤ z.natAbs := Nat.log2_le_self _
      omega
    refine ⟨_, rfl, a, .int lo.trim, rfl, DGet.k (k := keyS "trim") ha, rfl, _, rfl, ifF rfl ?_⟩
    refine ⟨_, rfl, a, .int lo.trim, rfl, DGet.k (k := keyS "trim") ha, (lo.trim : Int), rfl, hlog _ (by omega) (by omega), ?_⟩
    rw [(dec_dg (lo.trim : Int) (by omega) (by omega)).2]
    have hdl : ∀ z, (dgL z).length ≤ 2 := dgL_len
    refine ⟨_, _, rfl, rfl, Evl.sz_of (by rw [sx_trim, SX.S_len, SX.S_len]; have := hdl lo.trim; simp; omega), ?_⟩
    rw [sx_trim, SX.S_cat, ln_trim]
    refine ⟨by show 1 ≤ sizeLine; decide, fun L hL => ?_⟩
    have e1 : Ex H (upd H L (.lst [V.str (SX.S (Ln.trim lo.trim).L)])) := Evl.Ex.new hL
    have hL1 : (upd H L (.lst [V.str (SX.S (Ln.trim lo.trim).L)])) L = some (.lst (strsOf [.trim lo.trim])) := upd_same
    generalize upd H L (.lst [V.str (SX.S (Ln.trim lo.trim).L)]) = H1 at *
    refine ⟨_, rfl, a, .ref l, rfl, DGet.k (k := keyS "programs") (e1 _ _ ha), l, rfl, ⟨_, SqL.of (e1 _ _ hl)⟩, for_it (walk_list (xs := xs)) (fun i σ H' => ∃ (o1 o2 o3 o4 o5 o6 o7 : Option V), σ = [some (.ref a), some (.ref L), o1, o2, o3, o4, o5, o6, o7] ∧ Ex H H' ∧ H' L = some (.lst (strsOf (.trim lo.trim :: (lo.ps.take i).flatMap prgLn)))) ⟨_, _, _, _, _, _, _, rfl, e1, hL1⟩ (fun i σ H' _ hv => ?_) (fun i x σ Hx H2 hi hv hy => ?_) (fun σ H2 hv => ?_)⟩
    · obtain ⟨_, _, _, _, _, _, _, rfl, e, _⟩ := hv
      exact SqL.of (e _ _ hl)
    · obtain ⟨o1, o2, o3, o4, o5, o6, o7, rfl, e2, hL2⟩ := hv
      obtain ⟨rfl, hxx⟩ := hy
      obtain ⟨p, hp, ⟨t, q, lv, bk, vv, rfl, ht, hq, hlv, hvv, hbk⟩⟩ := hx.at hxx
      have hpm := List.mem_of_getElem? hp
      have hgp := hg.g p hpm
      have hnm := hgp.nmk.len
      have hfl := flat_len (lo.ps.take i) fun z hz => hg.g z (List.mem_of_mem_take hz)
      rw [List.length_take] at hfl
      have htake : (lo.ps.take (i + 1)).flatMap prgLn = (lo.ps.take i).flatMap prgLn ++ prgLn p := by
        rw [List.take_succ, hp, List.flatMap_append]
        simp
      rw [htake]
      generalize (lo.ps.take i).flatMap prgLn = X at *
      have hXl : X.length ≤ 18 := by omega
      refine ⟨t, _, rfl, SqT.of (e2 _ _ ht), rfl, _, _, rfl, _, _, rfl, _, _, rfl, _, _, rfl, rfl, ?_⟩
      refine ⟨_, rfl, .inl ⟨rfl, _, SqL.of hL2⟩, _, rfl, _, _, rfl, rfl, Evl.sz_of (by rw [sx_prog, show nmS p = SX.S p.name from rfl, SX.S_len, SX.S_len]; simp; omega), ?_⟩
      rw [sx_prog, show nmS p = SX.S p.name from rfl, SX.S_cat]
      refine ⟨L, _, _, rfl, rfl, hL2, Evl.sz_lt (by rw [strsOf_len, List.length_cons]; omega), ?_⟩
      have e3 : Ex H (upd H2 L (.lst (strsOf (.trim lo.trim :: X) ++ [V.str (SX.S ([112, 114, 111, 103, 114, 97, 109, 32] ++ p.name))]))) := Evl.Ex.mut e2 hL
      have hL3 : (upd H2 L (.lst (strsOf (.trim lo.trim :: X) ++ [V.str (SX.S ([112, 114, 111, 103, 114, 97, 109, 32] ++ p.name))]))) L = some (.lst (strsOf ((.trim lo.trim :: X) ++ [.prog p.name]))) := by
        rw [upd_same, strsOf_add]
        rfl
      generalize upd H2 L (.lst (strsOf (.trim lo.trim :: X) ++ [V.str (SX.S ([112, 114, 111, 103, 114, 97, 109, 32] ++ p.name))])) = H3 at *
      refine ⟨_, rfl, by show 2 ≤ sizeLine; decide, fun t3 ht3 => ?_⟩
      have e4 : Ex H3 (upd H3 t3 (.tup [.int 0, .int 1])) := Evl.Ex.new ht3
      have ht3' : (upd H3 t3 (.tup [.int 0, .int 1])) t3 = some (.tup [.int 0, .int 1]) := upd_same
      have e04 := e3.trans e4
      have hL4 := e4 _ _ hL3
      generalize upd H3 t3 (.tup [.int 0, .int 1]) = H4 at *
      refine ⟨q, t3, _, _, rfl, rfl, SqT.of (e04 _ _ hq), SqT.of ht3', rfl, flat_ints [p.bn, p.bd], flat_ints [0, 1], ?_⟩
      have he : eqAll [V.int p.bn, V.int p.bd] [V.int 0, V.int 1] = decide ([p.bn, p.bd] = [0, 1]) := eqAll_ints (ns := [p.bn, p.bd]) (ms := [0, 1]) rfl
      rw [he]
      refine ⟨_, rfl, ?_⟩
      have hiff : [p.bn, p.bd] = [0, 1] ↔ p.bn = 0 ∧ p.bd = 1 := by simp
      by_cases hb0 : [p.bn, p.bd] = [0, 1]
      refine ifF (by rw [decide_eq_true hb0]; rfl) ?_
      obtain ⟨Y, hY, hYl, hL5⟩ : ∃ Y : List Ln, (.trim lo.trim :: X) ++ prgLn p = Y ++ (p.vias.map Ln.via ++ [.back p.back]) ∧ Y.length ≤ 21 ∧ H4 L = some (.lst (strsOf Y)) := by
        refine ⟨_, ?_, ?_, hL4⟩
        · unfold prgLn
          rw [if_pos (hiff.mp hb0), List.append_assoc]
          rfl
        · simp
          omega
      have e05 := e04
      clear e04 e4 ht3 ht3' hL4
      generalize H4 = H5 at *
      rotate_left
      refine ifT (by rw [decide_eq_false hb0]; rfl) ?_
      have hs1 := hgp.sb.n1
      have hs2 := hgp.sb.d1
      refine ⟨_, rfl, .inl ⟨rfl, _, SqL.of hL4⟩, ?_⟩
      refine ⟨_, rfl, q, p.bn, p.bd, rfl, SqT.of (e04 _ _ hq), by omega, by omega, by omega, by omega, ?_⟩
      refine ⟨_, _, rfl, rfl, Evl.sz_of (by rw [sx_from, SX.S_len, SX.S_len]; have := ratL_len p.bn p.bd; simp; omega), ?_⟩
      rw [sx_from, SX.S_cat]
      refine ⟨L, _, _, rfl, rfl, hL4, Evl.sz_lt (by rw [strsOf_len, List.length_append, List.length_cons, List.length_singleton]; omega), ?_⟩
      obtain ⟨Y, hY, hYl, hL5⟩ : ∃ Y : List Ln, (.trim lo.trim :: X) ++ prgLn p = Y ++ (p.vias.map Ln.via ++ [.back p.back]) ∧ Y.length ≤ 21 ∧ (upd H4 L (.lst (strsOf ((.trim lo.trim :: X) ++ [.prog p.name]) ++ [V.str (SX.S ([32, 32, 102, 114, 111, 109, 32] ++ ratL p.bn p.bd))]))) L = some (.lst (strsOf Y)) := by
        refine ⟨(.trim lo.trim :: X) ++ [.prog p.name] ++ [.frm p.bn p.bd], ?_, ?_, ?_⟩
        · unfold prgLn
          rw [if_neg (fun z => hb0 (hiff.mpr z)), List.append_assoc, List.append_assoc]
          rfl
        · simp
          omega
        · rw [upd_same, strsOf_add (Ln.trim lo.trim :: X ++ [Ln.prog p.name]) [Ln.frm p.bn p.bd]]
          rfl
      have e05 : Ex H (upd H4 L (.lst (strsOf ((.trim lo.trim :: X) ++ [.prog p.name]) ++ [V.str (SX.S ([32, 32, 102, 114, 111, 109, 32] ++ ratL p.bn p.bd))]))) := Evl.Ex.mut e04 hL
      generalize upd H4 L (.lst (strsOf ((.trim lo.trim :: X) ++ [.prog p.name]) ++ [V.str (SX.S ([32, 32, 102, 114, 111, 109, 32] ++ ratL p.bn p.bd))])) = H5 at *
      all_goals
        refine ⟨_, rfl, .inl ⟨rfl, _, SqL.of hL5⟩, ?_⟩
        refine ⟨_, rfl, lv, rfl, ⟨_, SqL.of (e05 _ _ hlv)⟩, fun D hD => ?_⟩
        have hvl := hgp.vn.2
        refine lc_all (walk_list (xs := vv)) (fun j y H' => ∃ v : CM.Via, p.vias[j]? = some v ∧ y = V.str (SX.S (Ln.via v).L)) hD (by rw [hvv.1]; omega) (fun i y H1 H2 e h => h) (fun H' e => SqL.of (e _ _ (e05 _ _ hlv))) (fun j x Hx H6 Qe hj e6 hDn hy qq => ?_) (fun x σ H2 Qa Qb hq hg => gtup3_mono hq hg) (fun H6 zs e6 h1 hn h7 => ?_)
        · obtain ⟨rfl, hxj⟩ := hy
          obtain ⟨v, hv, ⟨⟨r, rq, rfl, hr1, hr2⟩⟩⟩ := hvv.at hxj
          have e06 := e05.trans e6
          have hvm := List.mem_of_getElem? hv
          have hgv := (hgp.vs v hvm).sm
          have hs1 := hgv.n1
          have hs2 := hgv.d1
          refine ⟨r, _, rfl, SqT.of (e06 _ _ hr1), rfl, _, _, rfl, _, _, rfl, _, _, rfl, rfl, ?_⟩
          refine ⟨rfl, ?_⟩
          refine ⟨⟨_, rfl⟩, _, rfl, rq, v.n, v.d, rfl, SqT.of (e06 _ _ hr2), by omega, by omega, by omega, by omega, ?_⟩
          refine ⟨_, rfl, _, rfl, by show 3 ≤ sizeLine; decide, fun T hT => ?_⟩
          have hr5 := ratL_len v.n v.d
          have hh1 := howL_len v.h.1
          have hh2 := howL_len v.h.2
          refine ⟨_, _, [SX.S (ratL v.n v.d), SX.S (howL v.h.1), SX.S (howL v.h.2)], rfl, rfl, .inl (SqL.of (by rw [howL_S, howL_S]; exact upd_same)), by rw [sx_sp]; simp [SX.S_len]; omega, ?_⟩
          have ej : Txt.join (Str.ofString " ") [SX.S (ratL v.n v.d), SX.S (howL v.h.1), SX.S (howL v.h.2)] = SX.S (TL.joinL [32] (Ln.via v).ws) := by
            rw [sx_sp]
            exact SX.join_S [32] [ratL v.n v.d, howL v.h.1, howL v.h.2]
          rw [ej]
          refine ⟨_, _, rfl, rfl, Evl.sz_of (by rw [sx_via, SX.S_len, SX.S_len]; simp [Ln.ws, TL.joinL]; omega), ?_⟩
          rw [sx_via, SX.S_cat]
          exact qq _ _ (Evl.Ex.new hT) ⟨v, hv, rfl⟩
        · have hzs : zs = strsOf (p.vias.map Ln.via) := by
            apply List.ext_getElem?
            intro j
            have hvj : (strsOf (p.vias.map Ln.via))[j]? = (p.vias[j]?).map fun v => V.str (SX.S (Ln.via v).L) := by
              unfold strsOf
              rw [List.getElem?_map, List.getElem?_map, List.getElem?_map, List.getElem?_map]
              cases p.vias[j]? <;> rfl
            rw [hvj]
            cases hy : zs[j]? with
            | some y =>
              obtain ⟨v, hv, rfl⟩ := h7 j y hy
              rw [hv]
              rfl
            | none =>
              have h9 := List.getElem?_eq_none_iff.mp hy
              rw [List.getElem?_eq_none_iff.mpr (by rw [← hvv.1]; omega)]
              rfl
          have hDL : D ≠ L := fun z => by rw [z, hL5] at hD; cases hD
          have hL6 := e6 _ _ hL5
          refine ⟨L, D, _, _, rfl, rfl, hL6, h1, Nat.le_trans (m := 100) (by rw [strsOf_len, hn, hvv.1]; omega) (by decide), ?_⟩
          rw [hzs, ← strsOf_add]
          have e07 : Ex H (upd H6 L (.lst (strsOf (Y ++ p.vias.map Ln.via)))) := Evl.Ex.mut (e05.trans e6) hL
          have hL7 : (upd H6 L (.lst (strsOf (Y ++ p.vias.map Ln.via)))) L = some (.lst (strsOf (Y ++ p.vias.map Ln.via))) := upd_same
          generalize upd H6 L (.lst (strsOf (Y ++ p.vias.map Ln.via))) = H7 at *
          have hh1 := howL_len p.back.1
          have hh2 := howL_len p.back.2
          have hbk7 := e07 _ _ hbk
          refine ⟨_, rfl, .inl ⟨rfl, _, SqL.of hL7⟩, ?_⟩
          refine ⟨_, rfl, bk, _, 0, .str (howS p.back.1), rfl, rfl, SqT.of hbk7, rfl, ?_⟩
          refine ⟨_, _, rfl, rfl, Evl.sz_of (by rw [sx_back, ← howL_S, SX.S_len, SX.S_len]; simp; omega), ?_⟩
          rw [sx_back, ← howL_S, SX.S_cat]
          refine ⟨_, _, rfl, rfl, Evl.sz_of (by rw [sx_sp, SX.S_len, SX.S_len]; simp; omega), ?_⟩
          rw [sx_sp, SX.S_cat]
          refine ⟨_, rfl, bk, _, 1, .str (howS p.back.2), rfl, rfl, SqT.of hbk7, rfl, ?_⟩
          refine ⟨_, _, rfl, rfl, Evl.sz_of (by rw [← howL_S, SX.S_len, SX.S_len]; simp; omega), ?_⟩
          rw [← howL_S, SX.S_cat]
          refine ⟨L, _, _, rfl, rfl, hL7, Evl.sz_lt (by rw [strsOf_len, List.length_append, List.length_map]; omega), ?_⟩
          refine ⟨_, _, _, _, _, _, _, rfl, Evl.Ex.mut e07 hL, ?_⟩
          rw [upd_same]
          have e9 : (Ln.trim lo.trim :: (X ++ prgLn p)) = Y ++ p.vias.map Ln.via ++ [.back p.back] := by
            rw [List.append_assoc, ← hY]
            rfl
          rw [e9, strsOf_add (Y ++ p.vias.map Ln.via)]
          have e10 : [32, 32, 98, 97, 99, 107, 32] ++ howL p.back.1 ++ [32] ++ howL p.back.2 = (Ln.back p.back).L := by
            simp [Ln.L, Ln.hd, Ln.ws, TL.joinL]
          rw [e10]
          rfl
    · obtain ⟨o1, o2, o3, o4, o5, o6, o7, rfl, e2, hL2⟩ := hv
      rw [hx.1, List.take_length] at hL2
      have hLL : H2 L = some (.lst (strsOf (lnsOf lo))) := hL2
      have hall := hg.runs.all
      have hlen := hg.lns_len
      have hsum : ∀ (ls : List Ln), (∀ l ∈ ls, l.L.length ≤ 40) → ((((ls.map Ln.L).map SX.S).map (·.length)).sum) ≤ 40 * ls.length := by
        intro ls
        induction ls with
        | nil => intro _; exact Nat.le_refl _
        | cons l ls ih =>
          intro h
          have h1 := h l (List.mem_cons_self ..)
          have h2 := ih fun z hz => h z (List.mem_cons_of_mem _ hz)
          rw [List.map_cons, List.map_cons, List.map_cons, List.sum_cons, SX.S_len, List.length_cons]
          omega
      refine ⟨⟨_, rfl⟩, _, rfl, _, L, ((lnsOf lo).map Ln.L).map SX.S, rfl, rfl, .inl (SqL.of hLL), ?_, ?_⟩
      · have h1 := hsum (lnsOf lo) fun l hl => (hall l hl).2
        rw [sx_nl, SX.S_len, List.length_map, List.length_map, List.length_singleton]
        omega
      · rw [sx_nl, SX.join_S]
        exact k _ e2
end
end CZ
set_option Elab.async false
set_option linter.all false
set_option maxRecDepth 100000
set_option maxHeartbeats 4000000
namespace CZ
open PySem PySem.Spec PyProof.Rows L2
/-! ### rows, pairs and shelters, as the law asks -/
def spQIsRow (K : PySem.W.Frag) : Sp := fun vs H Q _ => ∃ (v : V) (lo : Lo) (q : Addr) (ps1 : List CM.Prg), vs = [v, .ref q] ∧ LoreOk H v lo ∧ SqT K H q (namesV ps1) ∧ RowIn lo ps1 ∧ ∀ H', Ex H H' → Q (.bl true) H'
def spQIsPair (K : PySem.W.Frag) : Sp := fun vs H Q _ => ∃ (q : Addr) (x y : Int), vs = [.ref q] ∧ SqT K H q [.int x, .int y] ∧ Q (.bl true) H
def spQIsShelter (K : PySem.W.Frag) : Sp := fun vs H Q _ => ∃ (q : Addr) (xs : List V) (cs : List (Int × Int)), vs = [.ref q] ∧ SqT K H q xs ∧ Pw (PairL H) xs cs ∧ cs ≠ [] ∧ cs.length ≤ 1000 ∧ ∀ H', Ex H H' → Q (.bl true) H'
def spQIsShut (K : PySem.W.Frag) : Sp := fun vs H Q _ => ∃ (v : V) (lo : Lo) (w : V) (q : Addr) (xs : List V) (cs : List (Int × Int)), vs = [v, w, .ref q] ∧ LoreOk H v lo ∧ StrAt K H lo w ∧ SqT K H q xs ∧ Pw (PairL H) xs cs ∧ ∀ b H', Ex H H' → (b = true ↔ ShutRo lo cs) → Q (.bl b) H'
theorem names_at {ps : List CM.Prg} {i : Nat} {x : V} (h : (namesV ps)[i]? = some x) : ∃ p, ps[i]? = some p ∧ x = V.str (nmS p) := by
  unfold namesV at h
  rw [List.getElem?_map] at h
  cases e : ps[i]? with
  | none => rw [e] at h; cases h
  | some p => rw [e] at h; injection h with h; exact ⟨p, rfl, h.symm⟩
section
variable {P : Program} {w : World} {K : PySem.W.Frag} {mg : Str → Option Value} {base : Heap}
theorem r_q_is_row (Z : Zed K mg base) : Rn P w K mg base 2 (a_q_is_row K) (spQIsRow K) := by
  have R_q_program_names := r_q_program_names (P := P) (w := w) Z
  refine rn_of (u_q_is_row Z) sco_q_is_row (fun _ _ _ _ _ _ us hl => match us, hl with | [_, _], _ => rfl) (fun vs H Q E h => ?_) (fun cdv A outer s H vs Q E hr h => ?_)
  · obtain ⟨v, lo, q, ps1, rfl, _⟩ := h
    rfl
  · refine ⟨_, (pss_cons (ps_set (i := 2) sco_q_is_row.nd rfl (Or.inr rfl) (pe_r R_q_program_names (g_q_program_names Z) hr (by rfl) (pa_cons (pv 0) pa_nil)))
      (pss_one (ps_ret (pe_and (pe_callB (call_isiK_ K) (by rfl) (f_isinstance Z) (by decide +kernel) (pa_cons (pv 1) (pa_cons (pe_bltn (v := .ty "tuple") (by rfl) (f_tuple Z) boot_tuple rfl) pa_nil))) (pe_one (pe_callB (cr_all rfl) (by rfl) (f_all Z) (by decide +kernel) (pa_cons (pe_lc (own := [("_law_name", 3)]) (g := gName 3) (tt := tYes) rfl sco_q_is_row.nd (pi_tupK K (pv 1)) (blkOk_by (by kernel_rfl)) (fun _ _ _ _ _ => (pg_name (i := 3) sco_q_is_row.nd rfl (Or.inl rfl))) (fun _ _ _ _ _ => pts_nil) (fun _ _ _ _ _ => (pe_and (pe_callB (call_isiK_ K) (by rfl) (f_isinstance Z) (by decide +kernel) (pa_cons (pv 3) (pa_cons (pe_bltn (v := .ty "str") (by rfl) (f_str Z) boot_str rfl) pa_nil))) (pe_one (pe_cmpR (op_in_seqK K) (pv 3) (pv 2) rfl))))) pa_nil))))))), ?_⟩
    obtain ⟨v, lo, q, ps1, rfl, hlo, hq, hin, k⟩ := h
    refine ⟨_, rfl, v, lo, rfl, hlo.at_, hlo.ok, fun nl H1 hnl e1 hnl1 => ?_⟩
    refine ⟨_, rfl, _, .ty "tuple", _, _, true, rfl, .ty _, tyx_t (Evl.ex_t e1 hq), kit_ty (by decide +kernel), _, rfl, ifT rfl ?_⟩
    refine ⟨_, rfl, q, rfl, ⟨_, Evl.ex_t e1 hq⟩, fun D hD => ?_⟩
    refine lc_all (walk_tup (xs := namesV ps1)) (fun i y H' => y = .bl true) hD (by unfold namesV; rw [List.length_map]; exact hin.2) (fun i y H1 H2 e h => h) (fun H' e => Evl.ex_t (e1.trans e) hq) (fun i x H2 H3 Qe hi e2 _ hy q2 => ?_) gname_mono (fun H' ys e2 h1 hn h7 => ?_)
    · obtain ⟨rfl, hx⟩ := hy
      obtain ⟨p, hp, rfl⟩ := names_at hx
      refine ⟨rfl, _, rfl, _, .ty "str", _, _, true, rfl, .ty _, .base (.str _), kit_ty (by decide +kernel), _, rfl, ifT rfl ?_⟩
      refine ⟨_, rfl, _, rfl, nl, _, rfl, .inl (SqL.of (e2 _ _ hnl1)), rfl, flat_strs _, ?_⟩
      refine q2 _ _ (Evl.Ex.refl _) ?_
      show V.bl (inV (.str (nmS p)) ((lo.ps.map nmS).map V.str)) = .bl true
      congr 1
      have hm : V.str (nmS p) ∈ (lo.ps.map nmS).map V.str := List.mem_map_of_mem (List.mem_map_of_mem (hin.1 p (List.mem_of_getElem? hp)))
      unfold inV
      rw [List.any_eq_true]
      exact ⟨_, hm, decide_eq_true rfl⟩
    · obtain ⟨bs, rfl, h8, h9⟩ := bls_of (f := fun _ b => b = true) hn fun i y e => ⟨true, h7 i y e, rfl⟩
      have ha := all_of h9
      refine ⟨D, bs, rfl, SqL.of h1, ?_⟩
      rw [ha]
      exact k _ (e1.trans e2)
theorem r_q_is_pair (Z : Zed K mg base) : Rn P w K mg base 2 (a_q_is_pair K) (spQIsPair K) := by
  have R_q_is_int := r_q_is_int (P := P) (w := w) Z
  refine rn_of (u_q_is_pair Z) sco_q_is_pair (fun _ _ _ _ _ _ us hl => match us, hl with | [_], _ => rfl) (fun vs H Q E h => ?_) (fun cdv A outer s H vs Q E hr h => ?_)
  · obtain ⟨q, x, y, rfl, _⟩ := h
    rfl
  · refine ⟨_, (pss_one (ps_ret (pe_and (pe_callB (call_isiK_ K) (by rfl) (f_isinstance Z) (by decide +kernel) (pa_cons (pv 0) (pa_cons (pe_bltn (v := .ty "tuple") (by rfl) (f_tuple Z) boot_tuple rfl) pa_nil))) (pe_and (pe_cmpR op_eq (pe_callB (call_len_seqK K) (by rfl) (f_len Z) (by decide +kernel) (pa_cons (pv 0) pa_nil)) pe_int (nomark _)) (pe_and (pe_r R_q_is_int (g_q_is_int Z) hr (by rfl) (pa_cons (pe_ix (ix_tupK K) (pv 0) pe_int (fun _ _ => rfl)) pa_nil)) (pe_one (pe_r R_q_is_int (g_q_is_int Z) hr (by rfl) (pa_cons (pe_ix (ix_tupK K) (pv 0) pe_int (fun _ _ => rfl)) pa_nil)))))))), ?_⟩
    obtain ⟨q, x, y, rfl, hq, k⟩ := h
    refine ⟨_, rfl, _, .ty "tuple", _, _, true, rfl, .ty _, tyx_t hq, kit_ty (by decide +kernel), _, rfl, ifT rfl ?_⟩
    refine ⟨_, rfl, q, _, rfl, .inr hq, rfl, _, rfl, ifT (decide_eq_true rfl) ?_⟩
    exact ⟨_, rfl, q, _, 0, .int x, rfl, rfl, hq, rfl, x, rfl, _, rfl, ifT rfl ⟨_, rfl, q, _, 1, .int y, rfl, rfl, hq, rfl, y, rfl, k⟩⟩
theorem r_q_is_shelter (Z : Zed K mg base) : Rn P w K mg base 3 (a_q_is_shelter K) (spQIsShelter K) := by
  have R_q_is_pair := r_q_is_pair (P := P) (w := w) Z
  refine rn_of (u_q_is_shelter Z) sco_q_is_shelter (fun _ _ _ _ _ _ us hl => match us, hl with | [_], _ => rfl) (fun vs H Q E h => ?_) (fun cdv A outer s H vs Q E hr h => ?_)
  · obtain ⟨q, xs, cs, rfl, _⟩ := h
    rfl
  · refine ⟨_, (pss_one (ps_ret (pe_and (pe_callB (call_isiK_ K) (by rfl) (f_isinstance Z) (by decide +kernel) (pa_cons (pv 0) (pa_cons (pe_bltn (v := .ty "tuple") (by rfl) (f_tuple Z) boot_tuple rfl) pa_nil))) (pe_and (pe_cmpR (op_neNilTK K hr.units0) (pv 0) (pe_tup pa_nil) (nomark _)) (pe_one (pe_callB (cr_all rfl) (by rfl) (f_all Z) (by decide +kernel) (pa_cons (pe_lc (own := [("_law_one", 1)]) (g := gName 1) (tt := tYes) rfl sco_q_is_shelter.nd (pi_tupK K (pv 0)) (blkOk_by (by kernel_rfl)) (fun _ _ _ _ _ => (pg_name (i := 1) sco_q_is_shelter.nd rfl (Or.inl rfl))) (fun _ _ _ _ _ => pts_nil) (fun _ _ _ _ _ => (pe_r R_q_is_pair (g_q_is_pair Z) hr (by rfl) (pa_cons (pv 1) pa_nil)))) pa_nil))))))), ?_⟩
    obtain ⟨q, xs, cs, rfl, hq, hp, hne, hl, k⟩ := h
    refine ⟨_, rfl, _, .ty "tuple", _, _, true, rfl, .ty _, tyx_t hq, kit_ty (by decide +kernel), _, rfl, ifT rfl ?_⟩
    refine ⟨_, rfl, Nat.zero_le _, fun e he => ?_⟩
    have e1 : Ex H (upd H e (.tup [])) := Evl.Ex.new he
    have hxe : xs.isEmpty = false := by
      cases xs with
      | nil => exact absurd (List.eq_nil_of_length_eq_zero hp.1.symm) hne
      | cons _ _ => rfl
    refine ⟨q, e, xs, rfl, rfl, Evl.ex_t e1 hq, SqT.of upd_same, _, rfl, ifT (by rw [hxe]; rfl) ?_⟩
    refine ⟨_, rfl, q, rfl, ⟨_, Evl.ex_t e1 hq⟩, fun D hD => ?_⟩
    refine lc_all (walk_tup (xs := xs)) (fun i y H' => y = .bl true) hD (by rw [hp.1]; omega) (fun i y H1 H2 e h => h) (fun H' e => Evl.ex_t (e1.trans e) hq) (fun i x H1 H2 Qe hi e2 _ hy q2 => ?_) gname_mono (fun H' ys e2 h1 hn h7 => ?_)
    · obtain ⟨rfl, hx⟩ := hy
      obtain ⟨c, hc, t, rfl, ht⟩ := hp.at hx
      exact ⟨rfl, _, rfl, t, c.1, c.2, rfl, SqT.of ((e1.trans e2) _ _ ht), q2 _ _ (Evl.Ex.refl _) rfl⟩
    · obtain ⟨bs, rfl, h8, h9⟩ := bls_of (f := fun _ b => b = true) hn fun i y e => ⟨true, h7 i y e, rfl⟩
      have ha := all_of h9
      refine ⟨D, bs, rfl, SqL.of h1, ?_⟩
      rw [ha]
      exact k _ (e1.trans e2)
theorem r_q_is_shut (Z : Zed K mg base) : Rn P w K mg base 6 (a_q_is_shut K) (spQIsShut K) := by
  have R_q_is_cut_fine := r_q_is_cut_fine (P := P) (w := w) Z
  have R_q_program_names := r_q_program_names (P := P) (w := w) Z
  have R_q_pair_saved := r_q_pair_saved (P := P) (w := w) Z
  have R_q_in_shelter := r_q_in_shelter (P := P) (w := w) Z
  refine rn_of (u_q_is_shut Z) sco_q_is_shut (fun _ _ _ _ _ _ us hl => match us, hl with | [_, _, _], _ => rfl) (fun vs H Q E h => ?_) (fun cdv A outer s H vs Q E hr h => ?_)
  · obtain ⟨v, lo, x, q, xs, cs, rfl, _⟩ := h
    rfl
  · refine ⟨_, (pss_cons (ps_for PassesOwn.never rfl (pi_tupK K (pv 2)) (pg_name (i := 3) sco_q_is_shut.nd rfl (Or.inr rfl))
        (pss_cons (ps_if (pt_not (pt_val (pe_r R_q_is_cut_fine (g_q_is_cut_fine Z) hr (by rfl) (pa_cons (pv 0) (pa_cons (pv 1) (pa_cons (pv 3) pa_nil))))))
          (pss_one (ps_ret pe_bl))
          pss_nil)
        (pss_cons (ps_setLc (i := 4) (own := [("_law_name", 5)]) (g := gName 5) (tt := tYes) rfl sco_q_is_shut.nd rfl rfl (sw_true rfl rfl rfl (by decide +kernel)) (pi_listK K (pe_r R_q_program_names (g_q_program_names Z) hr (by rfl) (pa_cons (pv 0) pa_nil))) (blkOk_by (by kernel_rfl)) (fun _ _ _ _ _ => (pg_name (i := 5) sco_q_is_shut.nd rfl (Or.inl rfl))) (fun _ _ _ _ _ => pts_nil) (fun _ _ _ _ _ => (pe_r R_q_pair_saved (g_q_pair_saved Z) hr (by rfl) (pa_cons (pv 0) (pa_cons pe_str (pa_cons (pv 3) (pa_cons (pv 5) pa_nil)))))))
        (pss_one (ps_if (pt_not (pt_val (pe_callB (cr_all rfl) (by rfl) (f_all Z) (by decide +kernel) (pa_cons (pe_lc (own := [("_law_pair", 6)]) (g := gName 6) (tt := tYes) rfl sco_q_is_shut.nd (pi_listK K (pv 4)) (blkOk_by (by kernel_rfl)) (fun _ _ _ _ _ => (pg_name (i := 6) sco_q_is_shut.nd rfl (Or.inl rfl))) (fun _ _ _ _ _ => pts_nil) (fun _ _ _ _ _ => (pe_r R_q_in_shelter (g_q_in_shelter Z) hr (by rfl) (pa_cons (pv 0) (pa_cons (pv 2) (pa_cons (pv 6) pa_nil)))))) pa_nil))))
          (pss_one (ps_ret pe_bl))
          pss_nil)))))
      (pss_one (ps_ret pe_bl))), ?_⟩
    obtain ⟨v, lo, st, q, xs, cs, rfl, hlo, hst, hq, hp, kk⟩ := h
    have hle := hlo.ok.len
    refine ⟨_, rfl, q, rfl, ⟨_, hq⟩, for_it (walk_tup (xs := xs)) (fun i σ H' => ∃ (o1 o2 o3 o4 : Option V), σ = [some v, some st, some (.ref q), o1, o2, o3, o4] ∧ Ex H H' ∧ ∀ (j : Nat) c, j < i → cs[j]? = some c → SoundRo lo c ∧ ∀ s ∈ lo.rs, CM.InSh lo.T cs (s.a c.1, s.b c.2)) ⟨_, _, _, _, rfl, Evl.Ex.refl _, fun j _ hj => absurd hj (Nat.not_lt_zero _)⟩ (fun i σ H' _ hv => ?_) (fun i z σ Hx H2 hi hv hy => ?_) (fun σ H2 hv => ?_)⟩
    · obtain ⟨_, _, _, _, rfl, e, _⟩ := hv
      exact Evl.ex_t e hq
    · obtain ⟨o1, o2, o3, o4, rfl, e2, hall⟩ := hv
      obtain ⟨rfl, hx⟩ := hy
      obtain ⟨c, hc, t, rfl, ht⟩ := hp.at hx
      have hcm := List.mem_of_getElem? hc
      refine ⟨_, rfl, _, rfl, _, rfl, v, lo, st, t, c.1, c.2, rfl, hlo.mono e2, hst.mono e2, SqT.of (e2 _ _ ht), fun b H3 e3 hb => ⟨_, rfl, ?_⟩⟩
      have e03 := e2.trans e3
      cases b with
      | false =>
        refine ifT rfl (kk false H3 e03 ⟨fun z => (nomatch z), fun z => ?_⟩)
        exact nomatch (hb.mpr (z c hcm).1)
      | true =>
        refine ifF rfl ?_
        have hso := hb.mp rfl
        refine ⟨_, rfl, v, lo, rfl, hlo.at_.mono e03, hlo.ok, fun nl H4 hnl e4 hnl4 => ?_⟩
        have e04 := e03.trans e4
        refine ⟨nl, rfl, ⟨_, SqL.of hnl4⟩, fun D hD => ?_⟩
        refine lc_all (walk_list (xs := (lo.ps.map nmS).map V.str)) (fun j y H' => ∃ p, lo.ps[j]? = some p ∧ PairL H' y (CM.carry p false c.1, CM.carry p false c.2)) hD (by rw [List.length_map, List.length_map]; omega) (fun j y H1 H2 e ⟨p, h1, h2⟩ => ⟨p, h1, h2.mono e⟩) (fun H' e => SqL.of (e _ _ hnl4)) (fun j x H5 H5' Qe hj e5 hnD hy q2 => ?_) gname_mono (fun H5 zs e5 h1 hn h7 => ?_)
        · obtain ⟨rfl, hxx⟩ := hy
          obtain ⟨p, hpj, rfl⟩ : ∃ p, lo.ps[j]? = some p ∧ x = V.str (nmS p) := by
            rw [List.getElem?_map, List.getElem?_map] at hxx
            cases h : lo.ps[j]? with
            | none => rw [h] at hxx; cases hxx
            | some p => rw [h] at hxx; injection hxx with hxx; exact ⟨p, rfl, hxx.symm⟩
          have e05 := e04.trans e5
          refine ⟨rfl, _, rfl, _, rfl, _, rfl, v, lo, true, t, c.1, c.2, p, rfl, hlo.at_.mono e05, hlo.ok, hlo.nd, List.mem_of_getElem? hpj, SqT.of (e05 _ _ ht), fun r H6 hr6 e6 hr7 => ?_⟩
          refine q2 _ _ e6 ⟨p, hpj, r, rfl, ?_⟩
          have hrD : r ≠ D := fun z => hnD (by rw [← z]; exact hr6)
          rw [hid_ne hrD]
          exact hr7
        · have e05 := e04.trans e5
          refine ⟨_, rfl, D, rfl, ⟨_, SqL.of h1⟩, fun D2 hD2 => ?_⟩
          refine lc_all (walk_list (xs := zs)) (fun j y H' => ∃ p b, lo.ps[j]? = some p ∧ y = .bl b ∧ (b = true ↔ CM.InSh lo.T cs (CM.carry p false c.1, CM.carry p false c.2))) hD2 (by rw [hn, List.length_map, List.length_map]; omega) (fun i y H1 H2 e h => h) (fun H' e => SqL.of (e _ _ h1)) (fun j x H6 H6' Qe hj e6 hnD hy q2 => ?_) gname_mono (fun H6 ys e6 h3 hn3 h8 => ?_)
          · obtain ⟨rfl, hxx⟩ := hy
            obtain ⟨p, hpj, r, rfl, hr6⟩ := h7 j x hxx
            have e06 := e05.trans e6
            refine ⟨rfl, _, rfl, _, rfl, _, rfl, v, lo, q, r, xs, cs, _, _, rfl, hlo.mono e06, Evl.ex_t e06 hq, hp.mono (fun _ _ z => z.mono e06), SqT.of (e6 _ _ (hid_ex _ _ hr6)), fun b H7 e7 hb => ?_⟩
            exact q2 _ _ e7 ⟨p, b, hpj, rfl, hb⟩
          · obtain ⟨bs, rfl, hbl, hbs⟩ := bls_of (f := fun i b => ∃ p, lo.ps[i]? = some p ∧ (b = true ↔ CM.InSh lo.T cs (CM.carry p false c.1, CM.carry p false c.2))) hn3 fun i y e => by
              obtain ⟨s, b, h1, h2, h3⟩ := h8 i y e
              exact ⟨b, h2, s, h1, h3⟩
            have e06 := e05.trans e6
            have hb2 : bs.all id = true ↔ ∀ s ∈ lo.rs, CM.InSh lo.T cs (s.a c.1, s.b c.2) := by
              rw [List.all_eq_true]
              constructor
              · intro hall s hs
                obtain ⟨p, hpm, rfl⟩ := List.mem_map.mp hs
                obtain ⟨j, hj⟩ := List.getElem?_of_mem hpm
                have hjl : j < bs.length := by
                  rw [hbl, hn, List.length_map, List.length_map]
                  exact (List.getElem?_eq_some_iff.mp hj).1
                obtain ⟨p', hp', hb'⟩ := hbs j _ (List.getElem?_eq_getElem hjl)
                rw [hj] at hp'
                cases hp'
                exact hb'.mp (hall _ (List.getElem_mem hjl))
              · intro hso b hb
                obtain ⟨j, hj⟩ := List.getElem?_of_mem hb
                obtain ⟨p', hp', hb'⟩ := hbs j b hj
                exact hb'.mpr (hso (CM.stpR p') (List.mem_map_of_mem (List.mem_of_getElem? hp')))
            refine ⟨D2, bs, rfl, SqL.of h3, _, rfl, ?_⟩
            by_cases hba : bs.all id = true
            · refine ifF (by rw [hba]; rfl) ⟨_, _, _, _, rfl, e06, fun j c' hj hjc => ?_⟩
              rcases Nat.lt_or_eq_of_le (Nat.le_of_lt_succ hj) with h | h
              · exact hall j c' h hjc
              · rw [h, hc] at hjc
                cases hjc
                exact ⟨hso, hb2.mp hba⟩
            · have hbf : bs.all id = false := by cases h : bs.all id <;> simp_all
              refine ifT (by rw [hbf]; rfl) (kk false _ e06 ⟨fun z => (nomatch z), fun z => ?_⟩)
              exact absurd (hb2.mpr (z c hcm).2) hba
    · obtain ⟨o1, o2, o3, o4, rfl, e2, hall⟩ := hv
      refine kk true H2 e2 ⟨fun _ c hc => ?_, fun _ => rfl⟩
      obtain ⟨j, hj⟩ := List.getElem?_of_mem hc
      exact hall j c (by rw [hp.1]; exact (List.getElem?_eq_some_iff.mp hj).1) hj
end
end CZ
set_option Elab.async false
set_option linter.all false
set_option maxRecDepth 100000
set_option maxHeartbeats 4000000
namespace CZ
open PySem PySem.Spec PyProof.Rows L2
/-! ### what is told, judged -/
theorem play_take {f : CM.Prg → CM.Stp} {ps : List CM.Prg} {i : Nat} {p : CM.Prg} (h : ps[i]? = some p) (q : Int × Int) : CM.play ((ps.take (i + 1)).map f) q = sv (f p) (CM.play ((ps.take i).map f) q) := by
  rw [List.take_succ, h, List.map_append]
  unfold CM.play
  rw [List.foldl_append]
  rfl
theorem ne_no {a b : V} (h : a = b) : (!decide (a = b)) = false := by
  rw [decide_eq_true h]
  rfl
def TupP (K : PySem.W.Frag) (H : Hp) (q : Addr) (z : Int × Int) : Prop := SqT K H q [.int z.1, .int z.2]
def spQBroken (K : PySem.W.Frag) : Sp := fun vs H Q _ => ∃ (v : V) (lo : Lo) (w : V) (q : Addr) (x y : Int) (t1 t2 : Addr) (ps1 : List CM.Prg) (p1 : CM.Prg) (ps2 : List CM.Prg), vs = [v, w, .ref q, .ref t1, .ref t2] ∧ LoreOk H v lo ∧ SqT K H q [.int x, .int y] ∧ SqT K H t1 (namesV ps1) ∧ SqT K H t2 (namesV ps2) ∧ RowIn lo ps1 ∧ p1 ∈ lo.ps ∧ RowIn lo ps2 ∧ BreaksAt lo (x, y) ps1 p1 ps2 ∧ ∀ H', Ex H H' → Q (.bl true) H'
/-- what is told where some length lasts -/
def ToldE (lo : Lo) (x y : Int) (H : Hp) (p : Addr) : Prop :=
  (LastsRo lo (x, y) ∧ ∃ t xs cs, H p = some (.tup [.str (Str.ofString "lasts"), .ref t]) ∧ H t = some (.tup xs) ∧ Pw (PairL H) xs cs ∧ cs ≠ [] ∧ cs.length ≤ 1000 ∧ ShutRo lo cs ∧ CM.InSh lo.T cs (x, y)) ∨
  (¬ LastsRo lo (x, y) ∧ ∃ t1 t2 ps1 p1 ps2, H p = some (.tup [.str (Str.ofString "breaks"), .ref t1, .ref t2]) ∧ H t1 = some (.tup (namesV ps1)) ∧ H t2 = some (.tup (namesV ps2)) ∧ RowIn lo ps1 ∧ p1 ∈ lo.ps ∧ RowIn lo ps2 ∧ BreaksAt lo (x, y) ps1 p1 ps2)
def spQTold (K : PySem.W.Frag) : Sp := fun vs H Q _ => ∃ (v : V) (lo : Lo) (w : V) (q p : Addr) (x y : Int), vs = [v, w, .ref q, .ref p] ∧ LoreOk H v lo ∧ StrAt K H lo w ∧ H q = some (.tup [.int x, .int y]) ∧ x ≤ y ∧ y ≤ x + 300 ∧ ToldE lo x y H p ∧ ∀ H', Ex H H' → Q (.bl true) H'
def spQJudged (K : PySem.W.Frag) : Sp := fun vs H Q _ => ∃ (v : V) (lo : Lo) (s : V) (kd : Addr) (st : KS) (w : V) (q p sh : Addr) (x y : Int) (xs : List V) (cs : List (Int × Int)), vs = [v, s, w, .ref q, .ref p, .ref sh] ∧ LoreOk H v lo ∧ StuAt K H s lo kd st ∧ st ≠ .k0 ∧ StrAt K H lo w ∧ H q = some (.tup [.int x, .int y]) ∧ x ≤ y ∧ y ≤ x + 300 ∧ LastsTold K lo x y H p st ∧
  SqT K H sh xs ∧ Pw (PairL H) xs cs ∧ cs ≠ [] ∧ cs.length ≤ 1000 ∧ ∀ H', Ex H H' → Q (.bl true) H'
theorem str_ever {K : PySem.W.Frag} {H : Hp} {lo : Lo} {w : V} (h : StrAt K H lo w) : (w = .non ∧ ¬ CM.Ever lo.ls) ∨ ((∃ a, w = .ref a) ∧ CM.Ever lo.ls) := by
  rcases h with h | ⟨fl, F, h1, h2, h3, h4⟩
  · exact .inl h
  · exact .inr ⟨⟨fl, h1⟩, (0, _), (h4 0 _).mp (Int.le_refl _)⟩
section
variable {P : Program} {w : World} {K : PySem.W.Frag} {mg : Str → Option Value} {base : Heap}
theorem r_q_is_broken (Z : Zed K mg base) : Rn P w K mg base 4 (a_q_is_broken K) (spQBroken K) := by
  have R_q_is_row := r_q_is_row (P := P) (w := w) Z
  have R_q_program_names := r_q_program_names (P := P) (w := w) Z
  have R_q_pair_saved := r_q_pair_saved (P := P) (w := w) Z
  refine rn_of (u_q_is_broken Z) sco_q_is_broken (fun _ _ _ _ _ _ us hl => match us, hl with | [_, _, _, _, _], _ => rfl) (fun vs H Q E h => ?_) (fun cdv A outer s H vs Q E hr h => ?_)
  · obtain ⟨v, lo, x, q, x, y, t1, t2, ps1, p1, ps2, rfl, _⟩ := h
    rfl
  · refine ⟨_, (pss_cons (ps_if (PW.pt (pw_or (pt_not (pt_val (pe_r R_q_is_row (g_q_is_row Z) hr (by rfl) (pa_cons (pv 0) (pa_cons (pv 3) pa_nil))))) (pw_or1 (pt_not (pt_val (pe_r R_q_is_row (g_q_is_row Z) hr (by rfl) (pa_cons (pv 0) (pa_cons (pv 4) pa_nil))))))))
        (pss_one (ps_ret pe_bl))
        pss_nil)
      (pss_cons (ps_for PassesOwn.never rfl (pi_tupK K (pv 3)) (pg_name (i := 5) sco_q_is_broken.nd rfl (Or.inl rfl))
        (pss_one (ps_set (i := 2) sco_q_is_broken.nd rfl (Or.inl rfl) (pe_r R_q_pair_saved (g_q_pair_saved Z) hr (by rfl) (pa_cons (pv 0) (pa_cons pe_str (pa_cons (pv 2) (pa_cons (pv 5) pa_nil))))))))
      (pss_cons (ps_for PassesOwn.never rfl (pi_listK K (pe_r R_q_program_names (g_q_program_names Z) hr (by rfl) (pa_cons (pv 0) pa_nil))) (pg_name (i := 5) sco_q_is_broken.nd rfl (Or.inl rfl))
        (pss_cons (ps_asg (pe_r R_q_pair_saved (g_q_pair_saved Z) hr (by rfl) (pa_cons (pv 0) (pa_cons pe_str (pa_cons (pv 2) (pa_cons (pv 5) pa_nil))))) (pg_tupK K (n := 2) rfl (pgs_cons (pg_name (i := 6) sco_q_is_broken.nd rfl (Or.inl rfl)) (pgs_cons (pg_name (i := 7) sco_q_is_broken.nd rfl (Or.inl rfl)) pgs_nil))))
        (pss_cons (ps_set (i := 8) sco_q_is_broken.nd rfl (Or.inl rfl) (pe_tup (pa_cons (pv 6) (pa_cons (pe_op op_sub (pv 7) (pe_dget (hu_of hr) (pv 0) pe_str (fun _ _ => rfl))) pa_nil))))
        (pss_cons (ps_for PassesOwn.never rfl (pi_tupK K (pv 4)) (pg_name (i := 9) sco_q_is_broken.nd rfl (Or.inl rfl))
          (pss_one (ps_set (i := 8) sco_q_is_broken.nd rfl (Or.inl rfl) (pe_r R_q_pair_saved (g_q_pair_saved Z) hr (by rfl) (pa_cons (pv 0) (pa_cons pe_str (pa_cons (pv 8) (pa_cons (pv 9) pa_nil))))))))
        (pss_one (ps_if (pt_cmpR op_le (pe_ix (ix_tupK K) (pv 8) pe_int (fun _ _ => rfl)) (pe_ix (ix_tupK K) (pv 8) pe_int (fun _ _ => rfl)) (nomark _))
          (pss_one (ps_ret pe_bl))
          pss_nil))))))
      (pss_one (ps_ret pe_bl))))), ?_⟩
    obtain ⟨v, lo, st, q, x, y, t1, t2, ps1, p1, ps2, rfl, hlo, hq, ht1, ht2, hr1, hp1, hr2, hB, k⟩ := h
    refine ⟨_, rfl, _, rfl, v, lo, t1, ps1, rfl, hlo, ht1, hr1, fun H1 e1 => ⟨_, rfl, ifF rfl ?_⟩⟩
    refine ⟨_, rfl, _, rfl, v, lo, t2, ps2, rfl, hlo.mono e1, Evl.ex_t e1 ht2, hr2, fun H2 e2 => ⟨_, rfl, ifF rfl ?_⟩⟩
    have e02 := e1.trans e2
    refine ⟨_, rfl, t1, rfl, ⟨_, Evl.ex_t e02 ht1⟩, for_it (walk_tup (xs := namesV ps1)) (fun i σ H' => ∃ (q' : Addr) (o1 o2 o3 o4 o5 : Option V), σ = [some v, some st, some (.ref q'), some (.ref t1), some (.ref t2), o1, o2, o3, o4, o5] ∧ Ex H2 H' ∧ TupP K H' q' (CM.play ((ps1.take i).map CM.stpR) (x, y))) ⟨q, _, _, _, _, _, rfl, Evl.Ex.refl _, Evl.ex_t e02 hq⟩ (fun i σ H' _ hv => ?_) (fun i z σ Hx H3 hi hv hy => ?_) (fun σ H3 hv => ?_)⟩
    · obtain ⟨_, _, _, _, _, _, rfl, e, _⟩ := hv
      exact Evl.ex_t (e02.trans e) ht1
    · obtain ⟨q', o1, o2, o3, o4, o5, rfl, e3, hq'⟩ := hv
      obtain ⟨rfl, hx⟩ := hy
      obtain ⟨p, hp, rfl⟩ := names_at hx
      have e03 := e02.trans e3
      refine ⟨_, rfl, _, rfl, _, rfl, v, lo, true, q', _, _, p, rfl, hlo.at_.mono e03, hlo.ok, hlo.nd, hr1.1 p (List.mem_of_getElem? hp), hq', fun r H4 hr4 e4 hr5 => ?_⟩
      refine ⟨r, _, _, _, _, _, rfl, e3.trans e4, ?_⟩
      rw [play_take hp]
      exact SqT.of hr5
    · obtain ⟨q', o1, o2, o3, o4, o5, rfl, e3, hq'⟩ := hv
      have e03 := e02.trans e3
      have hps : (namesV ps1).length = ps1.length := by unfold namesV; rw [List.length_map]
      rw [hps, List.take_length] at hq'
      generalize hQ : CM.play (ps1.map CM.stpR) (x, y) = z0 at *
      refine ⟨_, rfl, v, lo, rfl, hlo.at_.mono e03, hlo.ok, fun nl H4 hnl e4 hnl4 => ?_⟩
      have e04 := e03.trans e4
      refine ⟨nl, rfl, ⟨_, SqL.of hnl4⟩, for_it (walk_list (xs := (lo.ps.map nmS).map V.str)) (fun i σ H' => ∃ (o1 o2 o3 o4 o5 : Option V), σ = [some v, some st, some (.ref q'), some (.ref t1), some (.ref t2), o1, o2, o3, o4, o5] ∧ Ex H4 H' ∧ ∀ (j : Nat) (p : CM.Prg), j < i → lo.ps[j]? = some p → ¬ BreaksAt lo (x, y) ps1 p ps2) ⟨_, _, _, _, _, rfl, Evl.Ex.refl _, fun j p z => absurd z (Nat.not_lt_zero _)⟩ (fun i σ H' _ hv => ?_) (fun i z σ Hx H5 hi hv hy => ?_) (fun σ H5 hv => ?_)⟩
      · obtain ⟨_, _, _, _, _, rfl, e, _⟩ := hv
        exact SqL.of (e _ _ hnl4)
      · obtain ⟨o1, o2, o3, o4, o5, rfl, e5, hj⟩ := hv
        obtain ⟨rfl, hxx⟩ := hy
        obtain ⟨p, hp, rfl⟩ : ∃ p, lo.ps[i]? = some p ∧ z = V.str (nmS p) := by
          rw [List.getElem?_map, List.getElem?_map] at hxx
          cases h : lo.ps[i]? with
          | none => rw [h] at hxx; cases hxx
          | some p => rw [h] at hxx; injection hxx with hxx; exact ⟨p, rfl, hxx.symm⟩
        have hpm := List.mem_of_getElem? hp
        have e05 := e04.trans e5
        refine ⟨_, rfl, _, rfl, _, rfl, v, lo, true, q', z0.1, z0.2, p, rfl, hlo.at_.mono e05, hlo.ok, hlo.nd, hpm, Evl.ex_t (e4.trans e5) hq', fun r H6 hr6 e6 hr7 => ?_⟩
        refine ⟨r, _, rfl, SqT.of hr7, rfl, _, _, rfl, _, _, rfl, rfl, ?_⟩
        have e06 := e05.trans e6
        have hlo6 := hlo.mono e06
        obtain ⟨a, l, xs, rfl, ha, hl, hx⟩ := hlo6.at_.ex
        refine ⟨_, rfl, _, rfl, _, rfl, a, .int lo.trim, rfl, DGet.k (k := keyS "trim") ha, _, _, rfl, rfl, by show 2 ≤ sizeLine; decide, fun t ht => ?_⟩
        have e7 := Evl.Ex.new (o := .tup [.int (CM.carry p false z0.1), .int (CM.carry p false z0.2 - lo.trim)]) ht
        have ht7 : TupP K (upd H6 t (.tup [.int (CM.carry p false z0.1), .int (CM.carry p false z0.2 - lo.trim)])) t (CM.cut (CM.stpR p) lo.trim z0) := SqT.of upd_same
        have e07 := e06.trans e7
        have e47 := (e5.trans e6).trans e7
        refine ⟨_, rfl, t2, rfl, ⟨_, Evl.ex_t e07 ht2⟩, for_it (walk_tup (xs := namesV ps2)) (fun i σ H' => ∃ (q2 : Addr) (o1 o2 o3 o5 : Option V), σ = [some (.ref a), some st, some (.ref q'), some (.ref t1), some (.ref t2), o1, o2, o3, some (.ref q2), o5] ∧ Ex (upd H6 t (.tup [.int (CM.carry p false z0.1), .int (CM.carry p false z0.2 - lo.trim)])) H' ∧ TupP K H' q2 (CM.play ((ps2.take i).map CM.stpL) (CM.cut (CM.stpR p) lo.trim z0))) ⟨t, _, _, _, _, rfl, Evl.Ex.refl _, ht7⟩ (fun i σ H' _ hv => ?_) (fun i z σ Hx H8 hi hv hy => ?_) (fun σ H8 hv => ?_)⟩
        · obtain ⟨_, _, _, _, _, rfl, e, _⟩ := hv
          exact Evl.ex_t (e07.trans e) ht2
        · obtain ⟨q2, o1, o2, o3, o5, rfl, e8, hq2⟩ := hv
          obtain ⟨rfl, hx2⟩ := hy
          obtain ⟨p', hp', rfl⟩ := names_at hx2
          have e08 := e07.trans e8
          refine ⟨_, rfl, _, rfl, _, rfl, _, lo, false, q2, _, _, p', rfl, hlo.at_.mono e08, hlo.ok, hlo.nd, hr2.1 p' (List.mem_of_getElem? hp'), hq2, fun r H9 hr9 e9 hr10 => ?_⟩
          refine ⟨r, _, _, _, _, rfl, e8.trans e9, ?_⟩
          rw [play_take hp']
          exact SqT.of hr10
        · obtain ⟨q2, o1, o2, o3, o5, rfl, e8, hq2⟩ := hv
          have hps2 : (namesV ps2).length = ps2.length := by unfold namesV; rw [List.length_map]
          rw [hps2, List.take_length] at hq2
          have e08 := e07.trans e8
          refine ⟨_, rfl, q2, _, 1, .int _, rfl, rfl, hq2, rfl, _, rfl, q2, _, 0, .int _, rfl, rfl, hq2, rfl, _, _, rfl, rfl, _, rfl, ?_⟩
          by_cases hc : (CM.play (ps2.map CM.stpL) (CM.cut (CM.stpR p) lo.trim z0)).2 ≤ (CM.play (ps2.map CM.stpL) (CM.cut (CM.stpR p) lo.trim z0)).1
          · exact ifT (decide_eq_true hc) (k _ e08)
          · refine ifF (decide_eq_false hc) ⟨_, _, _, _, _, rfl, e47.trans e8, fun j p2 hji hp2 => ?_⟩
            by_cases e : j = i
            · subst e
              rw [hp] at hp2
              cases hp2
              unfold BreaksAt
              rw [hQ]
              exact hc
            · exact hj j p2 (by omega) hp2
      · obtain ⟨o1, o2, o3, o4, o5, rfl, e5, hj⟩ := hv
        obtain ⟨j, hjp⟩ := List.mem_iff_getElem?.mp hp1
        have hjl := (List.getElem?_eq_some_iff.mp hjp).1
        exact absurd hB (hj j p1 (by rw [List.length_map, List.length_map]; exact hjl) hjp)
theorem r_q_is_told (Z : Zed K mg base) : Rn P w K mg base 7 (a_q_is_told K) (spQTold K) := by
  have R_q_do_rooms_last := r_q_do_rooms_last (P := P) (w := w) Z
  have R_q_is_shelter := r_q_is_shelter (P := P) (w := w) Z
  have R_q_is_shut := r_q_is_shut (P := P) (w := w) Z
  have R_q_in_shelter := r_q_in_shelter (P := P) (w := w) Z
  have R_q_is_broken := r_q_is_broken (P := P) (w := w) Z
  refine rn_of (u_q_is_told Z) sco_q_is_told (fun _ _ _ _ _ _ us hl => match us, hl with | [_, _, _, _], _ => rfl) (fun vs H Q E h => ?_) (fun cdv A outer s H vs Q E hr h => ?_)
  · obtain ⟨v, lo, x, q, p, x, y, rfl, _⟩ := h
    rfl
  · refine ⟨_, (pss_cons (ps_if (pt_val (pe_r R_q_do_rooms_last (g_q_do_rooms_last Z) hr (by rfl) (pa_cons (pv 0) (pa_cons (pv 1) (pa_cons (pv 2) pa_nil)))))
        (pss_cons (ps_if (PW.pt (pw_or (pt_cmpR op_ne (pe_callB (call_len_seqK K) (by rfl) (f_len Z) (by decide +kernel) (pa_cons (pv 3) pa_nil)) pe_int (nomark _)) (pw_or (pt_cmpR op_ne (pe_ix (ix_tupK K) (pv 3) pe_int (fun _ _ => rfl)) pe_str (nomark _)) (pw_or1 (pt_not (pt_val (pe_r R_q_is_shelter (g_q_is_shelter Z) hr (by rfl) (pa_cons (pe_ix (ix_tupK K) (pv 3) pe_int (fun _ _ => rfl)) pa_nil))))))))
          (pss_one (ps_ret pe_bl))
          pss_nil)
        (pss_one (ps_ret (pe_and (pe_r R_q_is_shut (g_q_is_shut Z) hr (by rfl) (pa_cons (pv 0) (pa_cons (pv 1) (pa_cons (pe_ix (ix_tupK K) (pv 3) pe_int (fun _ _ => rfl)) pa_nil)))) (pe_one (pe_r R_q_in_shelter (g_q_in_shelter Z) hr (by rfl) (pa_cons (pv 0) (pa_cons (pe_ix (ix_tupK K) (pv 3) pe_int (fun _ _ => rfl)) (pa_cons (pv 2) pa_nil)))))))))
        pss_nil)
      (pss_one (ps_ret (pe_and (pe_cmpR op_eq (pe_callB (call_len_seqK K) (by rfl) (f_len Z) (by decide +kernel) (pa_cons (pv 3) pa_nil)) pe_int (nomark _)) (pe_and (pe_cmpR op_eq (pe_ix (ix_tupK K) (pv 3) pe_int (fun _ _ => rfl)) pe_str (nomark _)) (pe_one (pe_r R_q_is_broken (g_q_is_broken Z) hr (by rfl) (pa_cons (pv 0) (pa_cons (pv 1) (pa_cons (pv 2) (pa_cons (pe_ix (ix_tupK K) (pv 3) pe_int (fun _ _ => rfl)) (pa_cons (pe_ix (ix_tupK K) (pv 3) pe_int (fun _ _ => rfl)) pa_nil)))))))))))), ?_⟩
    obtain ⟨v, lo, st, q, p, x, y, rfl, hlo, hst, hq, hxy, hyx, hT, k⟩ := h
    refine ⟨_, rfl, _, rfl, _, rfl, v, lo, st, q, x, y, rfl, hlo, hst, hq, hxy, hyx, fun b H1 e1 hb => ⟨_, rfl, ?_⟩⟩
    rcases hT with ⟨hl, t, xs, cs, hp, ht, hpw, hne, hcl, hsh, hin⟩ | ⟨hl, t1, t2, ps1, p1, ps2, hp, ht1, ht2, hr1, hp1, hr2, hB⟩
    · have hbt : b = true := hb.mpr hl
      subst hbt
      refine ifT rfl ?_
      have hp1 := SqT.of (K := K) (e1 _ _ hp)
      refine ⟨_, rfl, p, _, rfl, .inr hp1, rfl, _, rfl, ifF (ne_no rfl) ?_⟩
      refine ⟨_, rfl, p, _, 0, .str (Str.ofString "lasts"), rfl, rfl, hp1, rfl, rfl, _, rfl, ifF (ne_no rfl) ?_⟩
      refine ⟨_, rfl, p, _, 1, .ref t, rfl, rfl, hp1, rfl, t, xs, cs, rfl, SqT.of (e1 _ _ ht), hpw.mono (fun _ _ z => z.mono e1), hne, hcl, fun H2 e2 => ⟨_, rfl, ifF rfl ?_⟩⟩
      have e02 := e1.trans e2
      have hp2 := SqT.of (K := K) (e02 _ _ hp)
      refine ⟨_, rfl, _, rfl, _, rfl, p, _, 1, .ref t, rfl, rfl, hp2, rfl, v, lo, st, t, xs, cs, rfl, hlo.mono e02, hst.mono e02, SqT.of (e02 _ _ ht), hpw.mono (fun _ _ z => z.mono e02), fun b2 H3 e3 hb2 => ⟨_, rfl, ?_⟩⟩
      have hb2t : b2 = true := hb2.mpr hsh
      subst hb2t
      refine ifT rfl ?_
      have e03 := e02.trans e3
      refine ⟨_, rfl, _, rfl, p, _, 1, .ref t, rfl, rfl, SqT.of (e03 _ _ hp), rfl, _, rfl, v, lo, t, q, xs, cs, x, y, rfl, hlo.mono e03, SqT.of (e03 _ _ ht), hpw.mono (fun _ _ z => z.mono e03), SqT.of (e03 _ _ hq), fun b3 H4 e4 hb3 => ?_⟩
      have hb3t : b3 = true := hb3.mpr hin
      subst hb3t
      exact k _ (e03.trans e4)
    · have hbf : b = false := by
        cases b with
        | false => rfl
        | true => exact absurd (hb.mp rfl) hl
      subst hbf
      refine ifF rfl ?_
      have hp' := SqT.of (K := K) (e1 _ _ hp)
      refine ⟨_, rfl, p, _, rfl, .inr hp', rfl, _, rfl, ifT (decide_eq_true rfl) ?_⟩
      refine ⟨_, rfl, p, _, 0, .str (Str.ofString "breaks"), rfl, rfl, hp', rfl, rfl, _, rfl, ifT (decide_eq_true rfl) ?_⟩
      refine ⟨_, rfl, _, rfl, _, rfl, _, rfl, p, _, 1, .ref t1, rfl, rfl, hp', rfl, _, rfl, p, _, 2, .ref t2, rfl, rfl, hp', rfl, v, lo, st, q, x, y, t1, t2, ps1, p1, ps2, rfl, hlo.mono e1, SqT.of (e1 _ _ hq), SqT.of (e1 _ _ ht1), SqT.of (e1 _ _ ht2), hr1, hp1, hr2, hB, fun H2 e2 => k _ (e1.trans e2)⟩
theorem r_q_is_judged (Z : Zed K mg base) : Rn P w K mg base 18 (a_q_is_judged K) (spQJudged K) := by
  have R_is_closed := r_is_closed (P := P) (w := w) Z
  have R_q_is_shut := r_q_is_shut (P := P) (w := w) Z
  have R_q_is_told := r_q_is_told (P := P) (w := w) Z
  have R_q_is_row := r_q_is_row (P := P) (w := w) Z
  have R_q_period := r_q_period (P := P) (w := w) Z
  have R_q_pair_saved := r_q_pair_saved (P := P) (w := w) Z
  refine rn_of (u_q_is_judged Z) sco_q_is_judged (fun _ _ _ _ _ _ us hl => match us, hl with | [_, _, _, _, _, _], _ => rfl) (fun vs H Q E h => ?_) (fun cdv A outer s H vs Q E hr h => ?_)
  · obtain ⟨v, lo, s, kd, st, w, q, p, sh, x, y, xs, cs, rfl, _⟩ := h
    rfl
  · refine ⟨_, (pss_cons (ps_if (pt_cmpR op_ne (pe_callB call_repr_bool (by rfl) (f_repr Z) (by decide +kernel) (pa_cons (pe_r R_is_closed (g_is_closed Z) hr (by rfl) (pa_cons (pv 1) (pa_cons pe_str (pa_cons (pv 5) pa_nil)))) pa_nil)) (pe_callB call_repr_bool (by rfl) (f_repr Z) (by decide +kernel) (pa_cons (pe_r R_q_is_shut (g_q_is_shut Z) hr (by rfl) (pa_cons (pv 0) (pa_cons (pv 2) (pa_cons (pv 5) pa_nil)))) pa_nil)) (nomark _))
        (pss_one (ps_ret pe_bl))
        pss_nil)
      (pss_cons (ps_if (pt_cmpR op_notN (pv 2) pe_non (nomark _))
        (pss_one (ps_ret (pe_r R_q_is_told (g_q_is_told Z) hr (by rfl) (pa_cons (pv 0) (pa_cons (pv 2) (pa_cons (pv 3) (pa_cons (pv 4) pa_nil)))))))
        pss_nil)
      (pss_cons (ps_if (PW.pt (pw_or (pt_cmpR op_ne (pe_callB (call_len_seqK K) (by rfl) (f_len Z) (by decide +kernel) (pa_cons (pv 4) pa_nil)) pe_int (nomark _)) (pw_or (pt_cmpR op_ne (pe_ix (ix_tupK K) (pv 4) pe_int (fun _ _ => rfl)) pe_str (nomark _)) (pw_or1 (pt_not (pt_val (pe_r R_q_is_row (g_q_is_row Z) hr (by rfl) (pa_cons (pv 0) (pa_cons (pe_ix (ix_tupK K) (pv 4) pe_int (fun _ _ => rfl)) pa_nil)))))))))
        (pss_one (ps_ret pe_bl))
        pss_nil)
      (pss_cons (ps_set (i := 6) sco_q_is_judged.nd rfl (Or.inl rfl) (pe_tup (pa_cons pe_int (pa_cons (pe_op op_mul pe_int (pe_r R_q_period (g_q_period Z) hr (by rfl) (pa_cons (pv 0) pa_nil))) pa_nil))))
      (pss_cons (ps_for PassesOwn.never rfl (pi_tupK K (pe_ix (ix_tupK K) (pv 4) pe_int (fun _ _ => rfl))) (pg_name (i := 7) sco_q_is_judged.nd rfl (Or.inl rfl))
        (pss_one (ps_set (i := 6) sco_q_is_judged.nd rfl (Or.inl rfl) (pe_r R_q_pair_saved (g_q_pair_saved Z) hr (by rfl) (pa_cons (pv 0) (pa_cons pe_str (pa_cons (pv 6) (pa_cons (pv 7) pa_nil))))))))
      (pss_one (ps_ret (pe_cmpR op_le (pe_ix (ix_tupK K) (pv 6) pe_int (fun _ _ => rfl)) (pe_ix (ix_tupK K) (pv 6) pe_int (fun _ _ => rfl)) (nomark _))))))))), ?_⟩
    obtain ⟨v, lo, s, kd, st, wst, q, p, sh, x, y, xs, cs, rfl, hlo, hS, hne, hst, hq, hxy, hyx, hT, hsh, hpw, hcn, hcl, k⟩ := h
    have hTT := hlo.ok.T1
    refine ⟨_, rfl, _, rfl, s, lo, kd, sh, xs, cs, st, rfl, hsh, hpw, hcn, hcl, hS, hne, fun b1 H1 e1 hb1 => ?_⟩
    refine ⟨b1, rfl, _, rfl, _, rfl, _, rfl, v, lo, wst, sh, xs, cs, rfl, hlo.mono e1, hst.mono e1, Evl.ex_t e1 hsh, hpw.mono (fun _ _ z => z.mono e1), fun b2 H2 e2 hb2 => ?_⟩
    have hbb : b1 = b2 := by
      cases b1 <;> cases b2
      · rfl
      · exact (nomatch (hb1.mpr (hb2.mp rfl)))
      · exact (nomatch (hb2.mpr (hb1.mp rfl)))
      · rfl
    subst hbb
    refine ⟨b1, rfl, rfl, _, rfl, ifF (ne_no rfl) ?_⟩
    have e02 := e1.trans e2
    rcases str_ever hst with ⟨rfl, hE⟩ | ⟨⟨wa, rfl⟩, hE⟩
    · rcases hT with ⟨m, t1, ps1, hk, hE2, hp, ht1, hr1, hN⟩ | ⟨ml, mr, hk, hE2, _⟩
      · refine ⟨_, rfl, rfl, _, rfl, ifF rfl ?_⟩
        have hp' := SqT.of (K := K) (e02 _ _ hp)
        refine ⟨_, rfl, p, _, rfl, .inr hp', rfl, _, rfl, ifF (ne_no rfl) ?_⟩
        refine ⟨_, rfl, p, _, 0, .str (Str.ofString "never"), rfl, rfl, hp', rfl, rfl, _, rfl, ifF (ne_no rfl) ?_⟩
        refine ⟨_, rfl, _, rfl, p, _, 1, .ref t1, rfl, rfl, hp', rfl, v, lo, t1, ps1, rfl, hlo.mono e02, SqT.of (e02 _ _ ht1), hr1, fun H3 e3 => ⟨_, rfl, ifF rfl ?_⟩⟩
        have e03 := e02.trans e3
        refine ⟨_, rfl, v, lo, rfl, hlo.at_.mono e03, hlo.ok, ?_⟩
        refine ⟨_, _, rfl, rfl, .inl (by decide), by show 2 ≤ sizeLine; decide, fun t ht => ?_⟩
        have e4 := Evl.Ex.new (o := .tup [.int 0, .int (2 * (lo.T : Int))]) ht
        have ht4 : TupP K (upd H3 t (.tup [.int 0, .int (2 * (lo.T : Int))])) t (0, 2 * (lo.T : Int)) := SqT.of upd_same
        have e04 := e03.trans e4
        generalize upd H3 t (.tup [.int 0, .int (2 * (lo.T : Int))]) = H4 at *
        refine ⟨_, rfl, p, _, 1, .ref t1, rfl, rfl, SqT.of (e04 _ _ hp), rfl, t1, rfl, ⟨_, SqT.of (e04 _ _ ht1)⟩, for_it (walk_tup (xs := namesV ps1)) (fun i σ H' => ∃ (q2 : Addr) (o1 : Option V), σ = [some v, some s, some .non, some (.ref q), some (.ref p), some (.ref sh), some (.ref q2), o1] ∧ Ex H4 H' ∧ TupP K H' q2 (CM.play ((ps1.take i).map CM.stpL) (0, 2 * (lo.T : Int)))) ⟨t, _, rfl, Evl.Ex.refl _, ht4⟩ (fun i σ H' _ hv => ?_) (fun i z σ Hx H5 hi hv hy => ?_) (fun σ H5 hv => ?_)⟩
        · obtain ⟨_, _, rfl, e, _⟩ := hv
          exact SqT.of ((e04.trans e) _ _ ht1)
        · obtain ⟨q2, o1, rfl, e5, hq2⟩ := hv
          obtain ⟨rfl, hx2⟩ := hy
          obtain ⟨p', hp', rfl⟩ := names_at hx2
          have e05 := e04.trans e5
          refine ⟨_, rfl, _, rfl, _, rfl, v, lo, false, q2, _, _, p', rfl, hlo.at_.mono e05, hlo.ok, hlo.nd, hr1.1 p' (List.mem_of_getElem? hp'), hq2, fun r H9 hr9 e9 hr10 => ?_⟩
          refine ⟨r, _, rfl, e5.trans e9, ?_⟩
          rw [play_take hp']
          exact SqT.of hr10
        · obtain ⟨q2, o1, rfl, e5, hq2⟩ := hv
          have hps2 : (namesV ps1).length = ps1.length := by unfold namesV; rw [List.length_map]
          rw [hps2, List.take_length] at hq2
          refine ⟨_, rfl, q2, _, 1, .int _, rfl, rfl, hq2, rfl, _, rfl, q2, _, 0, .int _, rfl, rfl, hq2, rfl, _, _, rfl, rfl, ?_⟩
          show Q (V.bl (decide ((CM.play (ps1.map CM.stpL) (0, 2 * (lo.T : Int))).2 ≤ (CM.play (ps1.map CM.stpL) (0, 2 * (lo.T : Int))).1))) H5
          rw [decide_eq_true (show (CM.play (ps1.map CM.stpL) (0, 2 * (lo.T : Int))).2 ≤ (CM.play (ps1.map CM.stpL) (0, 2 * (lo.T : Int))).1 from hN)]
          exact k _ (e04.trans e5)
      · exact absurd hE2 hE
    · rcases hT with ⟨m, t1, ps1, hk, hE2, _⟩ | ⟨ml, mr, hk, hE2, hT⟩
      · exact absurd hE hE2
      · refine ⟨_, rfl, rfl, _, rfl, ifT rfl ?_⟩
        have hT2 : ToldE lo x y H2 p := by
          rcases hT with ⟨hl, t, xs, cs, hp, ht, hpw, hne, hcl, hsh, hin⟩ | ⟨hl, t1, t2, ps1, p1, ps2, hp, ht1, ht2, hr⟩
          · exact .inl ⟨hl, t, xs, cs, e02 _ _ hp, e02 _ _ ht, hpw.mono (fun _ _ z => z.mono e02), hne, hcl, hsh, hin⟩
          · exact .inr ⟨hl, t1, t2, ps1, p1, ps2, e02 _ _ hp, e02 _ _ ht1, e02 _ _ ht2, hr⟩
        exact ⟨_, rfl, _, rfl, _, rfl, _, rfl, v, lo, _, q, p, x, y, rfl, hlo.mono e02, hst.mono e02, e02 _ _ hq, hxy, hyx, hT2, fun H3 e3 => k _ (e02.trans e3)⟩
end
end CZ
set_option Elab.async false
set_option linter.all false
set_option maxRecDepth 100000
set_option maxHeartbeats 4000000
namespace CZ
open PySem PySem.Spec PyProof.Rows L2
/-! ### the cells; all of it -/
def spQCells (K : PySem.W.Frag) : Sp := fun vs H Q _ => ∃ (a : Addr) (ns : List Int), vs = [.ref a, .int 3] ∧ SqL K H a (ns.map V.int) ∧ ∀ l H' (m : Nat), H l = none → Ex H H' → m ≤ 3 → H' l = some (.lst ((List.range m).map fun (i : Nat) => V.int (i : Int))) → Q (.ref l) H'
section
variable {P : Program} {w : World} {K : PySem.W.Frag} {mg : Str → Option Value} {base : Heap}
theorem r_q_cells (Z : Zed K mg base) : Rn P w K mg base 1 (a_q_cells K) (spQCells K) := by
  refine rn_of (u_q_cells Z) sco_q_cells (fun _ _ _ _ _ _ us hl => match us, hl with | [_, _], _ => rfl) (fun vs H Q E h => ?_) (fun cdv A outer s H vs Q E hr h => ?_)
  · obtain ⟨a, ns, rfl, _⟩ := h
    rfl
  · refine ⟨_, (pss_one (ps_ret (pe_listRg rfl (by rfl) (f_list Z) (prg_1 (by rfl) (f_range Z) (pe_callB (call_max2 rfl) (by rfl) (f_max Z) (by decide +kernel) (pa_cons pe_int (pa_cons (pe_callB (call_min2 rfl) (by rfl) (f_min Z) (by decide +kernel) (pa_cons (pv 1) (pa_cons (pe_callB (call_len_seqK K) (by rfl) (f_len Z) (by decide +kernel) (pa_cons (pv 0) pa_nil)) pa_nil))) pa_nil))))))), ?_⟩
    obtain ⟨a, ns, rfl, ha, k⟩ := h
    refine ⟨_, rfl, _, rfl, a, _, rfl, .inl ha, _, _, rfl, _, _, rfl, _, rfl, ?_⟩
    have hm : ∃ m : Nat, m ≤ 3 ∧ (if (if (((ns.map V.int).length : Nat) : Int) < 3 then (((ns.map V.int).length : Nat) : Int) else 3) > 1 then (if (((ns.map V.int).length : Nat) : Int) < 3 then (((ns.map V.int).length : Nat) : Int) else 3) else 1) = (m : Int) := by
      have h0 : (0 : Int) ≤ (((ns.map V.int).length : Nat) : Int) := Int.natCast_nonneg _
      generalize (((ns.map V.int).length : Nat) : Int) = z at *
      by_cases h1 : z < 3
      · rw [if_pos h1]
        by_cases h2 : z > 1
        · rw [if_pos h2]
          exact ⟨z.toNat, by omega, by omega⟩
        · rw [if_neg h2]
          exact ⟨1, by omega, rfl⟩
      · rw [if_neg h1, if_pos (by decide)]
        exact ⟨3, by omega, rfl⟩
    obtain ⟨m, hm3, hm⟩ := hm
    rw [hm]
    refine ⟨RgOk.of_le (by decide) (by omega) (by decide) (by omega), fun l hl => k l _ m hl (Evl.Ex.new hl) hm3 ?_⟩
    rw [upd_same]
    unfold rgV
    rw [Int.sub_zero, Int.toNat_natCast]
    simp only [Int.zero_add]
end
end CZ
set_option Elab.async false
set_option linter.all false
set_option maxRecDepth 100000
set_option maxHeartbeats 4000000
namespace CZ
open PySem PySem.Spec PyProof.Rows L2
/-! ### what stays, with the pot kept aside -/
theorem PotAt.fr {H : Hp} {p : Addr} {n : Nat} (h : PotAt H p n) : ∃ xs, H p = some (.lst xs) ∧ ∀ H', H' p = some (.lst xs) → PotAt H' p n := by
  obtain ⟨o, c, k, h1, h2⟩ := h.ex
  exact ⟨_, h1, fun H' h => ⟨o, c, k, h, h2⟩⟩
theorem exB_hid {p : Addr} {H H' : Hp} (e : Ex (hid p H) (hid p H')) : ExB p H H' := fun a o n h => by
  have := e a o (by rw [hid_ne n]; exact h)
  rw [hid_ne n] at this
  exact this
theorem off_hid {p kd : Addr} {H : Hp} : Ex (off [p, kd] H) (hid p H) := fun a o h => by
  have hn : a ∉ [p, kd] := fun z => by rw [off_in z] at h; cases h
  rw [off_out hn] at h
  rw [hid_ne (fun z => hn (by rw [z]; simp))]
  exact h
theorem hid_off {p kd : Addr} {H0 H : Hp} (e : Ex H0 (hid p H)) (hk : H0 kd = none) : Ex H0 (off [p, kd] H) := fun a o h => by
  have h1 := e a o h
  have hp : a ≠ p := fun z => by rw [z, hid_at] at h1; cases h1
  have hk2 : a ≠ kd := ne_of_none h hk
  rw [off_out (by simp; exact ⟨hp, hk2⟩)]
  rw [hid_ne hp] at h1
  exact h1
theorem keep_exB {p kd : Addr} {H H' : Hp} (e : ExB p H H') : Keep [p, kd] H H' := fun a o hn h => e a o (fun z => hn (by rw [z]; simp)) h
theorem keep_hidB {p kd : Addr} {H H' : Hp} (e : ExB kd (hid p H) (hid p H')) : Keep [p, kd] H H' := fun a o hn h => by
  have hp : a ≠ p := fun z => hn (by rw [z]; simp)
  have := e a o (fun z => hn (by rw [z]; simp)) (by rw [hid_ne hp]; exact h)
  rw [hid_ne hp] at this
  exact this
theorem pot_ne {p q : Addr} {H : Hp} {n : Nat} (h : PotAt H p n) (hq : H q = none) : q ≠ p := fun z => by
  obtain ⟨_, _, _, h3, _⟩ := h.ex
  rw [z, h3] at hq
  cases hq
theorem LastsTold.mono {K : PySem.W.Frag} {lo : Lo} {x y : Int} {H H' : Hp} {p : Addr} {st : KS} (h : LastsTold K lo x y H p st) (e : Ex H H') : LastsTold K lo x y H' p st := by
  rcases h with ⟨m, t1, ps1, hk, hE, hp, ht1, hr⟩ | ⟨ml, mr, hk, hE, h⟩
  · exact .inl ⟨m, t1, ps1, hk, hE, e _ _ hp, e _ _ ht1, hr⟩
  · refine .inr ⟨ml, mr, hk, hE, ?_⟩
    rcases h with ⟨hl, t, xs, cs, hp, ht, hpw, hr⟩ | ⟨hl, t1, t2, ps1, p1, ps2, hp, ht1, ht2, hr⟩
    · exact .inl ⟨hl, t, xs, cs, e _ _ hp, e _ _ ht, hpw.mono (fun _ _ z => z.mono e), hr⟩
    · exact .inr ⟨hl, t1, t2, ps1, p1, ps2, e _ _ hp, e _ _ ht1, e _ _ ht2, hr⟩
theorem hidhid {p kd : Addr} {H : Hp} : Ex (hid kd (hid p H)) (off [p, kd] H) := fun a o h => by
  have hk : a ≠ kd := fun z => by rw [z, hid_at] at h; cases h
  rw [hid_ne hk] at h
  have hp : a ≠ p := fun z => by rw [z, hid_at] at h; cases h
  rw [hid_ne hp] at h
  rw [off_out (by simp; exact ⟨hp, hk⟩)]
  exact h
theorem StrAt.offk {K : PySem.W.Frag} {p kd : Addr} {H : Hp} {lo : Lo} {w : V} {kvs : List (Key × V)} (h : StrAt K (hid p H) lo w) (hk : hid p H kd = some (.dK kvs)) : StrAt K (off [p, kd] H) lo w := h.imp id fun ⟨fl, F, h1, h2, h3⟩ => ⟨fl, F, h1, Evl.ex_l hidhid (sq_hid hk h2), h3⟩
/-- a list of tops -/
def TopsAt (p : Addr) (H : Hp) (x : V) : Prop := ∃ l ts, x = .ref l ∧ l ≠ p ∧ H l = some (.lst (ts.map V.int)) ∧ ts ≠ [] ∧ ts.length ≤ 100 ∧ ∀ t ∈ ts, (1 : Int) ≤ t ∧ t ≤ 6
theorem TopsAt.mono {p : Addr} {H H' : Hp} {x : V} (h : TopsAt p H x) (e : Ex H H') : TopsAt p H' x := let ⟨l, ts, h1, h2, h3, h4⟩ := h; ⟨l, ts, h1, h2, e _ _ h3, h4⟩
theorem TopsAt.exb {p : Addr} {H H' : Hp} {x : V} (h : TopsAt p H x) (e : ExB p H H') : TopsAt p H' x := let ⟨l, ts, h1, h2, h3, h4⟩ := h; ⟨l, ts, h1, h2, e _ _ h2 h3, h4⟩
theorem TopsAt.new {p l : Addr} {H : Hp} {n : Nat} (hp : PotAt H p n) (hl : H l = none) (ts : List Int) (h1 : ts ≠ []) (h2 : ts.length ≤ 100) (h3 : ∀ t ∈ ts, (1 : Int) ≤ t ∧ t ≤ 6) : TopsAt p (upd H l (.lst (ts.map V.int))) (.ref l) := ⟨l, ts, rfl, pot_ne hp hl, upd_same, h1, h2, h3⟩
def spQRight : Sp := fun vs H Q _ => ∃ p, vs = [.ref p] ∧ PotAt H p 0 ∧ ∀ H', ExB p H H' → Q (.bl true) H'
section
variable {P : Program} {w : World} {K : PySem.W.Frag} {mg : Str → Option Value} {base : Heap}
theorem r_q_right (Z : Zed K mg base) : Rn P w K mg base 19 (a_q_right K) spQRight := by
  have R_q_take := r_q_take (P := P) (w := w) Z
  have R_q_of := r_q_of (P := P) (w := w) Z
  have R_q_lore := r_q_lore (P := P) (w := w) Z
  have R_q_slipping := r_q_slipping (P := P) (w := w) Z
  have R_q_text := r_q_text (P := P) (w := w) Z
  have R_Studio_init := (r_Studio_init (P := P) (w := w) Z).fr
  have R_q_period := r_q_period (P := P) (w := w) Z
  have R_q_own_stairs := (r_q_own_stairs (P := P) (w := w) Z).fr
  have R_lasts := (r_lasts (P := P) (w := w) Z).fr
  have R_q_is_judged := (r_q_is_judged (P := P) (w := w) Z).fr
  refine rn_of (u_q_right Z) sco_q_right (fun _ _ _ _ _ _ us hl => match us, hl with | [_], _ => rfl) (fun vs H Q E h => ?_) (fun cdv A outer s H vs Q E hr h => ?_)
  · obtain ⟨p, rfl, _⟩ := h
    rfl
  · refine ⟨_, (pss_cons (ps_set (i := 1) sco_q_right.nd rfl (Or.inl rfl) (pe_r R_q_of (g_q_of Z) hr (by rfl) (pa_cons (pv 0) (pa_cons (pe_lst (pa_cons (pe_lst (pa_cons pe_int (pa_cons pe_int (pa_cons pe_int (pa_cons pe_int pa_nil))))) (pa_cons (pe_lst (pa_cons pe_int (pa_cons pe_int pa_nil))) (pa_cons (pe_lst (pa_cons pe_int pa_nil)) (pa_cons (pe_lst (pa_cons pe_int (pa_cons pe_int pa_nil))) (pa_cons (pe_lst (pa_cons pe_int (pa_cons pe_int pa_nil))) (pa_cons (pe_lst (pa_cons pe_int pa_nil)) pa_nil))))))) pa_nil))))
      (pss_cons (ps_set (i := 2) sco_q_right.nd rfl (Or.inl rfl) (pe_r R_q_lore (g_q_lore Z) hr (by rfl) (pa_cons (pv 0) (pa_cons pe_int (pa_cons (pv 1) (pa_cons pe_bl pa_nil))))))
      (pss_cons (ps_set (i := 2) sco_q_right.nd rfl (Or.inl rfl) (pe_ifExp (pt_cmpR op_eq (pe_r R_q_take (g_q_take Z) hr (by rfl) (pa_cons (pv 0) (pa_cons pe_int pa_nil))) pe_int (nomark _)) (pe_r R_q_slipping (g_q_slipping Z) hr (by rfl) (pa_cons (pv 0) (pa_cons (pv 2) pa_nil))) (pv 2)))
      (pss_cons (ps_par (i := 3) (j := 4) rfl sco_q_right.nd rfl rfl (by decide) rfl rfl (pa_cons (pe_new (mk_Studio Z) R_Studio_init (g_Studio Z) hr (by rfl) (pa_cons (pe_r R_q_text (g_q_text Z) hr (by rfl) (pa_cons (pv 2) pa_nil)) pa_nil)) (pa_cons (pe_r R_q_period (g_q_period Z) hr (by rfl) (pa_cons (pv 2) pa_nil)) pa_nil)) (by rfl))
      (pss_cons (ps_set (i := 5) sco_q_right.nd rfl (Or.inl rfl) (pe_r R_q_own_stairs (g_q_own_stairs Z) hr (by rfl) (pa_cons (pv 2) (pa_cons pe_str pa_nil))))
      (pss_cons (ps_if (pt_cmpR (op_neFTK K hr.units0) (pe_r R_lasts (g_lasts Z) hr (by rfl) (pa_cons (pv 3) (pa_cons pe_str (pa_cons (pe_tup (pa_cons pe_int (pa_cons (pe_r R_q_take (g_q_take Z) hr (by rfl) (pa_cons (pv 0) (pa_cons pe_int pa_nil))) pa_nil))) pa_nil)))) (pe_tup (pa_cons pe_str pa_nil)) (nomark _))
        (pss_one (ps_ret pe_bl))
        pss_nil)
      (pss_cons (ps_for PassesOwn.never rfl (pi_range1 (by rfl) (f_range Z) (pa_cons pe_int pa_nil)) (pg_name (i := 6) sco_q_right.nd rfl (Or.inl rfl))
        (pss_cons (ps_set (i := 7) sco_q_right.nd rfl (Or.inl rfl) (pe_op op_sub (pe_r R_q_take (g_q_take Z) hr (by rfl) (pa_cons (pv 0) (pa_cons (pe_op op_mul pe_int (pv 4)) pa_nil))) (pv 4)))
        (pss_cons (ps_set (i := 8) sco_q_right.nd rfl (Or.inl rfl) (pe_tup (pa_cons (pv 7) (pa_cons (pe_op op_add (pv 7) (pe_r R_q_take (g_q_take Z) hr (by rfl) (pa_cons (pv 0) (pa_cons (pe_op op_add (pe_op op_mul pe_int (pv 4)) (pe_dget (hu_of hr) (pv 2) pe_str (fun _ _ => rfl))) pa_nil)))) pa_nil))))
        (pss_cons (ps_set (i := 9) sco_q_right.nd rfl (Or.inl rfl) (pe_r R_lasts (g_lasts Z) hr (by rfl) (pa_cons (pv 3) (pa_cons pe_str (pa_cons (pv 8) pa_nil)))))
        (pss_cons (ps_set (i := 10) sco_q_right.nd rfl (Or.inl rfl) (pe_tup (pa_cons (pv 8) (pa_cons (pe_tup (pa_cons (pe_op op_add (pv 7) pe_int) (pa_cons (pe_op op_add (pe_op op_add (pe_ix (ix_tupK K) (pv 8) pe_int (fun _ _ => rfl)) (pv 4)) (pe_r R_q_take (g_q_take Z) hr (by rfl) (pa_cons (pv 0) (pa_cons pe_int pa_nil)))) pa_nil))) pa_nil))))
        (pss_one (ps_if (pt_not (pt_val (pe_r R_q_is_judged (g_q_is_judged Z) hr (by rfl) (pa_cons (pv 2) (pa_cons (pv 3) (pa_cons (pv 5) (pa_cons (pv 8) (pa_cons (pv 9) (pa_cons (pv 10) pa_nil)))))))))
          (pss_one (ps_ret pe_bl))
          pss_nil)))))))
      (pss_one (ps_ret pe_bl))))))))), ?_⟩
    obtain ⟨p, rfl, hp, k⟩ := h
    refine ⟨_, rfl, by show 4 ≤ sizeLine; decide, fun l1 hl1 => ?_⟩
    have e1 : Ex H (upd H l1 (.lst [.int 1, .int 2, .int 3, .int 4])) := Evl.Ex.new hl1
    have t1 := TopsAt.new hp hl1 [1, 2, 3, 4] (by simp) (by decide) (by decide)
    refine ⟨by show 2 ≤ sizeLine; decide, fun l2 hl2 => ?_⟩
    have e2 := e1.trans (Evl.Ex.new (o := .lst [.int 2, .int 3]) hl2)
    have t2 := TopsAt.new (hp.mono e1) hl2 [2, 3] (by simp) (by decide) (by decide)
    replace t1 := t1.mono (Evl.Ex.new (o := .lst [.int 2, .int 3]) hl2)
    refine ⟨by show 1 ≤ sizeLine; decide, fun l3 hl3 => ?_⟩
    have e3 := e2.trans (Evl.Ex.new (o := .lst [.int 5]) hl3)
    have t3 := TopsAt.new (hp.mono e2) hl3 [5] (by simp) (by decide) (by decide)
    replace t1 := t1.mono (Evl.Ex.new (o := .lst [.int 5]) hl3)
    replace t2 := t2.mono (Evl.Ex.new (o := .lst [.int 5]) hl3)
    refine ⟨by show 2 ≤ sizeLine; decide, fun l4 hl4 => ?_⟩
    have e4 := e3.trans (Evl.Ex.new (o := .lst [.int 1, .int 6]) hl4)
    have t4 := TopsAt.new (hp.mono e3) hl4 [1, 6] (by simp) (by decide) (by decide)
    replace t1 := t1.mono (Evl.Ex.new (o := .lst [.int 1, .int 6]) hl4)
    replace t2 := t2.mono (Evl.Ex.new (o := .lst [.int 1, .int 6]) hl4)
    replace t3 := t3.mono (Evl.Ex.new (o := .lst [.int 1, .int 6]) hl4)
    refine ⟨by show 2 ≤ sizeLine; decide, fun l5 hl5 => ?_⟩
    have e5 := e4.trans (Evl.Ex.new (o := .lst [.int 4, .int 3]) hl5)
    have t5 := TopsAt.new (hp.mono e4) hl5 [4, 3] (by simp) (by decide) (by decide)
    replace t1 := t1.mono (Evl.Ex.new (o := .lst [.int 4, .int 3]) hl5)
    replace t2 := t2.mono (Evl.Ex.new (o := .lst [.int 4, .int 3]) hl5)
    replace t3 := t3.mono (Evl.Ex.new (o := .lst [.int 4, .int 3]) hl5)
    replace t4 := t4.mono (Evl.Ex.new (o := .lst [.int 4, .int 3]) hl5)
    refine ⟨by show 1 ≤ sizeLine; decide, fun l6 hl6 => ?_⟩
    have e6 := e5.trans (Evl.Ex.new (o := .lst [.int 1]) hl6)
    have t6 := TopsAt.new (hp.mono e5) hl6 [1] (by simp) (by decide) (by decide)
    replace t1 := t1.mono (Evl.Ex.new (o := .lst [.int 1]) hl6)
    replace t2 := t2.mono (Evl.Ex.new (o := .lst [.int 1]) hl6)
    replace t3 := t3.mono (Evl.Ex.new (o := .lst [.int 1]) hl6)
    replace t4 := t4.mono (Evl.Ex.new (o := .lst [.int 1]) hl6)
    replace t5 := t5.mono (Evl.Ex.new (o := .lst [.int 1]) hl6)
    refine ⟨by show 6 ≤ sizeLine; decide, fun l7 hl7 => ?_⟩
    have e7 := Evl.Ex.new (o := .lst [.ref l1, .ref l2, .ref l3, .ref l4, .ref l5, .ref l6]) hl7
    have hl7p := pot_ne (hp.mono e6) hl7
    have hp7 := (hp.mono e6).mono e7
    have htop : ∀ x, x ∈ [V.ref l1, .ref l2, .ref l3, .ref l4, .ref l5, .ref l6] → TopsAt p _ x := fun x hx => by
      have e' : x = .ref l1 ∨ x = .ref l2 ∨ x = .ref l3 ∨ x = .ref l4 ∨ x = .ref l5 ∨ x = .ref l6 := by simpa using hx
      rcases e' with rfl | rfl | rfl | rfl | rfl | rfl
      · exact t1.mono e7
      · exact t2.mono e7
      · exact t3.mono e7
      · exact t4.mono e7
      · exact t5.mono e7
      · exact t6.mono e7
    refine ⟨p, 0, l7, _, rfl, hp7, by decide, hl7p, SqL.of upd_same, by simp, by show 6 ≤ 1000; decide, fun x H2 hx ht => ?_⟩
    obtain ⟨tl, ts, rfl, htlp, htl, hts1, hts2, hts3⟩ := (htop x hx).exb ht.k
    have k2 : ExB p H H2 := (ExB.of (e6.trans e7)).trans ht.k
    refine ⟨_, rfl, _, rfl, p, _, tl, ts, rfl, ht.p, by decide, htlp, SqL.of htl, hts1, hts2, hts3, fun v H3 lo eB3 hp3 hlo hg => ?_⟩
    have k3 := k2.trans eB3
    refine ⟨_, rfl, p, _, 3, rfl, hp3, by decide, by decide, by decide, fun d H4 hd0 hd1 ht4 => ?_⟩
    refine ⟨rfl, _, rfl, ?_⟩
    have k4 := k3.trans ht4.k
    have hlo4 : LoreAt (hid p H4) v lo := hlo.mono (hid_mono ht4.k)
    by_cases hd : d = 0
    subst hd
    refine ifT (decide_eq_true rfl) ?_
    refine ⟨_, rfl, _, rfl, p, _, v, lo, rfl, ht4.p, by decide, hlo4, hg, fun v H5 lo eB5 hp5 hlo5 hg => ?_⟩
    have k5 := k4.trans eB5
    replace hp5 : PotAt H5 p 200 := hp5.le (by decide)
    clear eB5 hlo4 ht4 hlo k4
    rotate_left
    refine ifF (decide_eq_false fun z => hd (by injection z)) ⟨_, rfl, ?_⟩
    have k5 := k4
    have hp5 : PotAt H4 p 200 := ht4.p.le (by decide)
    have hlo5 := hlo4
    clear hlo4 ht4 hlo k4
    generalize H4 = H5 at *
    all_goals
      have hok := hg.lok
      have hlns := hg.lns_len
      have hall := hg.runs.all
      refine ⟨_, rfl, v, lo, rfl, hlo5.mono hid_ex, hg, fun H6 e6' a dx ha hdx hdxa => ?_⟩
      have hp6 := hp5.mono e6'
      obtain ⟨px, hpx, hback⟩ := hp6.fr
      have hap := pot_ne hp6 ha
      have hdxp := pot_ne hp6 hdx
      have hn : ∀ b, H6 b = none → hid p H6 b = none := fun b h => by
        by_cases e : b = p
        · rw [e, hid_at]
        · rw [hid_ne e, h]
      have hmade : Made (hid p H6) (hid p (upd (upd H6 dx (.own a)) a (.ins (C_Studio K) dx []))) a (C_Studio K) dx := ⟨hn _ ha, hn _ hdx, hdxa, funext fun b => by
        by_cases e : b = p
        · rw [e, hid_at, upd_ne (Ne.symm hap), upd_ne (Ne.symm hdxp), hid_at]
        · rw [hid_ne e]
          by_cases e2 : b = a
          · rw [e2, upd_same, upd_same]
          · rw [upd_ne e2, upd_ne e2]
            by_cases e3 : b = dx
            · rw [e3, upd_same, upd_same]
            · rw [upd_ne e3, upd_ne e3, hid_ne e]⟩
      refine ⟨p, px, by rw [upd_ne (Ne.symm hap), upd_ne (Ne.symm hdxp)]; exact hpx, hid p H6, a, dx, lo, lnsOf lo, rfl, hmade, hok, by unfold lnsOf; simp, fun l hl => (hall l hl).1, ?_, by omega, hg.runs, ?_⟩
      · have := joinL_len ((lnsOf lo).map Ln.L) fun l hl => by
          obtain ⟨z, hz, rfl⟩ := List.mem_map.mp hl
          exact (hall z hz).2
        rw [List.length_map] at this
        omega
      intro G kd eG hkd0 hkd hF H7 hH7 hp7x
      subst hH7
      have hp7 := hback _ hp7x
      have hkp : kd ≠ p := fun z => by rw [z, hid_at] at hkd; cases hkd
      have k7 : ExB p H H7 := (k5.trans (ExB.of e6')).trans (exB_hid eG)
      have hkdH : H kd = none := by
        cases hq : H kd with
        | none => rfl
        | some o =>
          have h1 := (k5.trans (ExB.of e6')) _ _ hkp hq
          rw [hid_ne hkp, h1] at hkd0
          cases hkd0
      have hlo6 : LoreAt (hid p H6) v lo := hlo5.mono (hid_mono (ExB.of e6'))
      have hlo7 : LoreOk (off [p, kd] H7) v lo := ⟨hlo6.mono (hid_off eG hkd0), hok, hg.nd⟩
      have hS7 : StuAt K (hid p H7) (.ref a) lo kd .k0 := ⟨hF, hkd⟩
      clear hlo6 hF hkd eG hmade hback hpx hp6 hkd0 hp7x hlo5 hp5 k5
      refine ⟨rfl, ?_⟩
      have hlh : LoreOk (hid p H7) v lo := hlo7.mono off_hid
      refine ⟨_, rfl, v, lo, rfl, hlh.at_.mono hid_ex, hok, ?_⟩
      refine ⟨_, _, rfl, ?_⟩
      obtain ⟨px, hpx, hback⟩ := hp7.fr
      refine ⟨_, rfl, p, px, hpx, v, lo, rfl, hlh, fun st G eG hst H8 hH8 hp8x => ?_⟩
      subst hH8
      have hp8 := hback _ hp8x
      have kE : ExB p H7 H8 := exB_hid eG
      have hkd8 : hid p H8 kd = some (.dK []) := eG _ _ hS7.k
      have hst8 := hst.offk hkd8
      have hlo8 : LoreOk (off [p, kd] H8) v lo := hlo7.mono (Keep.off (keep_exB kE))
      have hS8 : StuAt K (hid p H8) (.ref a) lo kd .k0 := hS7.mono eG
      have k8 : ExB p H H8 := k7.trans kE
      clear hst hkd8 kE hback hp8x hpx hlo7 hS7 eG hlh k7
      refine ⟨_, rfl, _, rfl, p, _, 9, rfl, hp8, by decide, by decide, by decide, fun d9 H9 hd90 hd91 ht9 => ?_⟩
      refine ⟨by show 2 ≤ sizeLine; decide, fun q hq => ?_⟩
      have e10 := Evl.Ex.new (o := .tup [.int 3, .int d9]) hq
      have hqp := pot_ne ht9.p hq
      have hp10 := ht9.p.mono e10
      have k810 := ht9.k.trans (ExB.of e10)
      have hq10 : (upd H9 q (.tup [.int 3, .int d9])) q = some (.tup [.int 3, .int d9]) := upd_same
      generalize upd H9 q (.tup [.int 3, .int d9]) = H10 at *
      obtain ⟨px, hpx, hback⟩ := hp10.fr
      refine ⟨p, px, hpx, .ref a, lo, kd, q, 3, d9, .inl ⟨rfl, by rw [hid_ne hqp]; exact hq10, (hS8.mono (hid_mono k810)).u, fun p' G eG hp' H11 hH11 hp11x => ?_⟩⟩
      subst hH11
      have hp11 := hback _ hp11x
      have k811 := k810.trans (exB_hid eG)
      refine ⟨by show 1 ≤ sizeLine; decide, fun t12 ht12 => ?_⟩
      have e12 := Evl.Ex.new (o := .tup [.str "any"]) ht12
      have hp12 := hp11.mono e12
      have k812 := k811.trans (ExB.of e12)
      refine ⟨p', t12, [.str (Str.ofString "any")], [.str (Str.ofString "any")], rfl, rfl, SqT.of (e12 _ _ (hid_ex _ _ hp')), SqT.of upd_same, rfl, flat_strs ["any"], flat_strs ["any"], ?_⟩
      rw [show eqAll [V.str (Str.ofString "any")] [V.str (Str.ofString "any")] = true by decide +kernel]
      refine ⟨_, rfl, ifF rfl ?_⟩
      have hloB := hlo8.mono (Keep.off (keep_exB k812))
      have hstB := hst8.mono (Keep.off (keep_exB k812))
      have hSB := hS8.mono (hid_mono k812)
      have kB := k8.trans k812
      replace hp12 := hp12.le (m := 250) (by decide)
      clear k812 k811 e12 hp11 eG hp' hp11x hpx hback hq10 k810 hp10 e10 ht9 k8 hS8 hlo8 hst8 hp8
      generalize upd H11 t12 (.tup [.str "any"]) = HB at *
      refine ⟨_, rfl, by decide, by decide, for_range (lo := 0) (n := ((6 : Int)).toNat) (fun i σ H' => ∃ (o6 o7 o8 o9 o10 : Option V) (ks : KS), σ = [some (.ref p), some (.ref tl), some v, some (.ref a), some (.int lo.T), some st, o6, o7, o8, o9, o10] ∧ Keep [p, kd] HB H' ∧ PotAt H' p (250 + 3 * i) ∧ StuAt K (hid p H') (.ref a) lo kd ks ∧ KSok ks) ⟨_, _, _, _, _, .k0, rfl, Keep.refl, hp12, hSB, trivial⟩ (fun i σ H' hi hv => ?_) (fun σ H' hv => ?_)⟩
      · obtain ⟨o6, o7, o8, o9, o10, ks, rfl, kk, hpi, hSi, hks⟩ := hv
        have hi6 : i < 6 := hi
        have hT := hok.T1
        have htr := hg.trim
        refine ⟨_, rfl, _, rfl, _, _, rfl, rfl, .inl (by decide), p, _, _, rfl, hpi, by omega, by omega, by omega, fun d1 H12 hd10 hd11 ht12 => ?_⟩
        refine ⟨_, rfl, _, _, rfl, rfl, ?_⟩
        have kk12 := kk.trans (keep_exB ht12.k)
        obtain ⟨la, ll, lxs, hva, hla, _⟩ := (hloB.mono kk12.off).at_.ex
        subst hva
        refine ⟨_, rfl, _, rfl, _, rfl, _, rfl, _, _, rfl, rfl, .inl (by decide), _, rfl, la, .int lo.trim, rfl, DGet.k (k := keyS "trim") (off_ex _ _ hla), _, _, rfl, rfl, p, _, _, rfl, ht12.p, by omega, by omega, by omega, fun d2 H13 hd20 hd21 ht13 => ?_⟩
        refine ⟨_, _, rfl, rfl, by show 2 ≤ sizeLine; decide, fun q hq => ?_⟩
        have e14 := Evl.Ex.new (o := .tup [.int (d1 - lo.T), .int (d1 - lo.T + d2)]) hq
        have hqp := pot_ne ht13.p hq
        have hp14 := ht13.p.mono e14
        have k14 := (ht12.k.trans ht13.k).trans (ExB.of e14)
        have hS14 := hSi.mono (hid_mono k14)
        have kk14 := kk.trans (keep_exB k14)
        have hq14 : (upd H13 q (.tup [.int (d1 - lo.T), .int (d1 - lo.T + d2)])) q = some (.tup [.int (d1 - lo.T), .int (d1 - lo.T + d2)]) := upd_same
        clear k14 e14 hq ht13 kk12 ht12 hSi kk hpi
        refine ⟨_, rfl, _, rfl, ?_⟩
        change spF _ _ (upd H13 q (.tup [.int (d1 - lo.T), .int (d1 - lo.T + d2)])) _ _
        generalize upd H13 q (.tup [.int (d1 - lo.T), .int (d1 - lo.T + d2)]) = H14 at *
        obtain ⟨x, hx⟩ : ∃ x, x = d1 - (lo.T : Int) := ⟨_, rfl⟩
        obtain ⟨y, hy⟩ : ∃ y, y = d1 - (lo.T : Int) + d2 := ⟨_, rfl⟩
        rw [← hy, ← hx] at hq14
        have hqG : hid p H14 q = some (.tup [.int x, .int y]) := by rw [hid_ne hqp]; exact hq14
        obtain ⟨px, hpx, hback⟩ := hp14.fr
        refine ⟨p, px, hpx, .ref a, lo, kd, q, x, y, .inr ⟨rfl, hqG, by omega, by omega, by omega, ks, hS14, hks, fun p' G ks2 eG hS2 hks2 hne2 hT2 H15 hH15 hp15x => ?_⟩⟩
        subst hH15
        have hp15 := hback _ hp15x
        have kk15 := kk14.trans (keep_hidB eG)
        have hqk : q ≠ kd := fun z => by
          obtain ⟨kvs, h1⟩ := hS14.dict
          rw [z, h1] at hqG
          cases hqG
        have hq15 := eG _ _ hqk hqG
        have hq15' := hid_ex _ _ hq15
        refine ⟨_, rfl, _, rfl, _, _, rfl, rfl, _, rfl, q, _, 1, .int y, rfl, rfl, SqT.of hq15', rfl, _, rfl, _, _, rfl, rfl, _, rfl, p, _, 3, rfl, hp15, by omega, by decide, by decide, fun d3 H16 hd30 hd31 ht16 => ?_⟩
        refine ⟨_, _, rfl, rfl, by show 2 ≤ sizeLine; decide, fun q2 hq2 => ?_⟩
        have e17 := Evl.Ex.new (o := .tup [.int (x + 1), .int (y + lo.T + d3)]) hq2
        have hq2p := pot_ne ht16.p hq2
        have hp17 := ht16.p.mono e17
        have hq17 : (upd H16 q2 (.tup [.int (x + 1), .int (y + lo.T + d3)])) q2 = some (.tup [.int (x + 1), .int (y + lo.T + d3)]) := upd_same
        refine ⟨by show 2 ≤ sizeLine; decide, fun sh hsh => ?_⟩
        subst hx
        have hsh : upd H16 q2 (.tup [.int (d1 - lo.T + 1), .int (y + lo.T + d3)]) sh = none := hsh
        have e18 := Evl.Ex.new (o := .tup [.ref q, .ref q2]) hsh
        refine ⟨_, rfl, _, rfl, _, rfl, _, rfl, _, rfl, _, rfl, ?_⟩
        change spF _ _ (upd (upd H16 q2 (.tup [.int (d1 - lo.T + 1), .int (y + lo.T + d3)])) sh (.tup [.ref q, .ref q2])) _ _
        have hshp := pot_ne hp17 hsh
        have hp18 := hp17.mono e18
        have k18 := (ht16.k.trans (ExB.of e17)).trans (ExB.of e18)
        have hq18 := e18 _ _ hq17
        have hsh18 : (upd (upd H16 q2 (.tup [.int (d1 - lo.T + 1), .int (y + lo.T + d3)])) sh (.tup [.ref q, .ref q2])) sh = some (.tup [.ref q, .ref q2]) := upd_same
        clear hsh hq17 hp17 e18 e17 hq2 ht16
        generalize upd (upd H16 q2 (.tup [.int (d1 - lo.T + 1), .int (y + lo.T + d3)])) sh (.tup [.ref q, .ref q2]) = H18 at *
        have hE : Ex (hid p H15) (hid p H18) := hid_mono k18
        have kk18 := kk15.trans (keep_exB k18)
        obtain ⟨px3, hpx3, hback3⟩ := hp18.fr
        refine ⟨p, px3, hpx3, .ref la, lo, .ref a, kd, ks2, st, q, p', sh, _, _, [.ref q, .ref q2], [(d1 - (lo.T : Int), y), (d1 - (lo.T : Int) + 1, y + (lo.T : Int) + d3)], rfl, (hloB.mono kk18.off).mono off_hid, hS2.mono hE, hne2, (hstB.mono kk18.off).mono off_hid, hE _ _ hq15, by omega, by omega, hT2.mono hE, SqT.of (by rw [hid_ne hshp]; exact hsh18), ?_, by simp, by simp, fun G eG2 H19 hH19 hp19x => ?_⟩
        · refine Pw.snoc (xs := [.ref q]) (as := [(d1 - (lo.T : Int), y)]) (Pw.snoc (xs := []) (as := []) Pw.nil ⟨q, rfl, hE _ _ hq15⟩) ⟨q2, rfl, ?_⟩
          rw [hid_ne hq2p]
          exact hq18
        · subst hH19
          refine ⟨_, rfl, ifF rfl ⟨_, _, _, _, _, ks2, rfl, kk18.trans (keep_exB (exB_hid eG2)), (hback3 _ hp19x).le (by omega), (hS2.mono hE).mono eG2, hks2⟩⟩
      · obtain ⟨_, _, _, _, _, ks, rfl, kk, _⟩ := hv
        refine k _ fun x o hx ho => kk x o ?_ (kB _ _ hx ho)
        simp
        exact ⟨hx, ne_of_none ho hkdH⟩
end
end CZ
set_option Elab.async false
set_option linter.all false
set_option maxRecDepth 100000
set_option maxHeartbeats 4000000
namespace CZ
open PySem PySem.Spec PyProof.Rows L2
/-! ### the law -/
def spLaw (K : PySem.W.Frag) : Sp := fun vs H Q _ => ∃ (a : Addr) (ns : List Int), vs = [.ref a] ∧ SqL K H a (ns.map V.int) ∧ ∀ H', Q (.bl true) H'
section
variable {P : Program} {w : World} {K : PySem.W.Frag} {mg : Str → Option Value} {base : Heap} {k : Nat} {f : Addr} {sp : Sp} {fd : FuncData}
theorem fn_of {x qual : Str} {st : Stmt} {N ps : List Str} (F : FunD K x qual (defArgs st) (defBody st) (defScope st) [] [] f fd) (S : FnScope N ps (defScope st))
    (len : ∀ vs H Q E, sp vs H Q E → vs.length = ps.length)
    (hbody : ∀ (cdv : Value) (A : Around) (outer : List Env) (s : Shared) (H : Hp) (vs : List V) (Q : VK) (E : XK), Room k (A.deeper (envOfC qual (defScope st) s.heap.objs.size f cdv)) → sp vs H Q E →
      ∃ t, PSs (cxOf CX0 P w K mg base N qual (defScope st) f cdv A outer s H E).nox (defBody st) t ∧ t { nx := fun _ H' => Q .non H', rt := Q } (start N vs) H) : FnOk P w K mg base CX0 (k + 1) f fd ps sp :=
  F.ok S len fun cdv A outer s H vs Q E hr hs => by
    obtain ⟨t, h, q⟩ := hbody cdv A outer s H vs Q E hr hs
    exact ⟨t, h.nox, q⟩
end
section
variable {P : Program} {w : World} {K : PySem.W.Frag} {mg : Str → Option Value} {base : Heap}
theorem ok_law (Z : Zed K mg base) {fd : FuncData} (F : FunD K "law" "law" (defArgs s_law) (defBody s_law) (defScope s_law) [] [] (a_law K) fd) : FnOk P w K mg base CX0 20 (a_law K) fd ps_law (spLaw K) := by
  have R_q_cells := r_q_cells (P := P) (w := w) Z
  have R_q_pot := r_q_pot (P := P) (w := w) Z
  have R_q_right := r_q_right (P := P) (w := w) Z
  refine fn_of F sco_law (fun vs H Q E h => ?_) (fun cdv A outer s H vs Q E hr h => ?_)
  · obtain ⟨a, ns, rfl, _⟩ := h
    rfl
  · refine ⟨_, (pss_one (ps_ret (pe_callB (cr_all rfl) (by rfl) (f_all Z) (by decide +kernel) (pa_cons (pe_lc (own := [("_law_spot", 1)]) (g := gName 1) (tt := tYes) rfl sco_law.nd (pi_listK K (pe_r R_q_cells (g_q_cells Z) hr (by rfl) (pa_cons (pv 0) (pa_cons pe_int pa_nil)))) (blkOk_by (by kernel_rfl)) (fun _ _ _ _ _ => (pg_name (i := 1) sco_law.nd rfl (Or.inl rfl))) (fun _ _ _ _ _ => pts_nil) (fun _ _ _ _ _ => (pe_r R_q_right (g_q_right Z) hr (by rfl) (pa_cons (pe_r R_q_pot (g_q_pot Z) hr (by rfl) (pa_cons (pv 0) (pa_cons (pv 1) pa_nil))) pa_nil)))) pa_nil)))), ?_⟩
    obtain ⟨a, ns, rfl, ha, k⟩ := h
    refine ⟨_, rfl, a, ns, rfl, ha, fun l H1 m hl e1 hm hl1 => ?_⟩
    refine ⟨l, rfl, ⟨_, SqL.of hl1⟩, fun D hD => ?_⟩
    refine lc_all walk_list (fun i y H' => y = .bl true) hD (by rw [List.length_map, List.length_range]; omega) (fun i y H1 H2 e h => h) (fun H' e => SqL.of (e _ _ hl1)) (fun i x H2 H2' Qe hi e2 _ hy q2 => ?_) gname_mono (fun H' ys e2 h1 hn h7 => ?_)
    · obtain ⟨rfl, hx⟩ := hy
      have him : i < m := by
        have := (List.getElem?_eq_some_iff.mp hx).1
        rw [List.length_map, List.length_range] at this
        exact this
      have hxi : x = V.int (i : Int) := by
        rw [List.getElem?_map, List.getElem?_range him] at hx
        injection hx with hx
        exact hx.symm
      subst hxi
      refine ⟨rfl, _, rfl, _, rfl, a, ns, i, rfl, Evl.ex_l (e1.trans e2) ha, by omega, fun p H3 hp e3 hpot => ?_⟩
      exact ⟨p, rfl, hpot, fun H4 e4 => q2 _ _ (((ExB.of e3).trans e4).ex hp) rfl⟩
    · obtain ⟨bs, rfl, h8, h9⟩ := bls_of (f := fun _ b => b = true) hn fun i y e => ⟨true, h7 i y e, rfl⟩
      have hb := all_of h9
      refine ⟨D, bs, rfl, SqL.of h1, ?_⟩
      rw [hb]
      exact k _
end
end CZ
set_option Elab.async false
set_option linter.all false
set_option maxRecDepth 100000
set_option maxHeartbeats 4000000
namespace CZ
open PySem PySem.W PySem.Calls PyProof.Rows
theorem opt_join {α β γ δ : Type} (o : Option α) {f : α → β} {g : α → γ} {h : α → δ} {b : β} {c : γ} {d : δ} (h1 : o.map f = some b) (h2 : o.map g = some c) (h3 : o.map h = some d) : ∃ s, o = some s ∧ f s = b ∧ g s = c ∧ h s = d := by
  cases o with
  | none => cases h1
  | some s => exact ⟨s, rfl, Option.some.inj h1, Option.some.inj h2, Option.some.inj h3⟩
theorem run (w : World) : HandSHeadRun.RunEq Rrow qv hookZ obT 10000 names w := by
  intro os
  obtain ⟨s, h0, h1, h2, h3⟩ := opt_join _ (runA w os) (runB w os) (runC w os)
  rw [h0]
  have e1 := congrArg Prod.fst h1
  have e2 := congrArg (fun z => z.2.1) h1
  have e3 := congrArg Prod.fst h3
  have e4 := congrArg Prod.snd h3
  have e5 : obT s = valZ := by
    show ((facts.all fun f => f.ok (frZ (HandSHeadRun.getT s))) && (defs.all fun d => d.fit (frZ (HandSHeadRun.getT s))), defs.map fun d => see (frZ (HandSHeadRun.getT s)) (d.at_.ad (frZ (HandSHeadRun.getT s)))) = (true, defs.map De.due)
    refine Prod.ext ?_ e4
    show ((facts.all fun f => f.ok (frZ (HandSHeadRun.getT s))) && (defs.all fun d => d.fit (frZ (HandSHeadRun.getT s)))) = true
    rw [show (facts.all fun f => f.ok (frZ (HandSHeadRun.getT s))) = true from h2, show (defs.all fun d => d.fit (frZ (HandSHeadRun.getT s))) = true from e3]
    rfl
  show some (_, _, obT s) = some (true, openGood qv names, valZ)
  exact congrArg some (Prod.ext e1 (Prod.ext e2 e5))
theorem law_facts {P : Program} {w : World} {K : PySem.W.Frag} {h : Heap} {mg : Str → Option Value} {fa : Addr} (X : K.In h) (G : h.Ns mainGlobals mg) (hfa : mg ("law" : Str) = some (.ref fa)) (c : obsZ K = valZ) :
    ∃ fd : FuncData, (∀ (s : Shared) (v : Value), BindsTo s fd ⟨[v], []⟩ [("_law_script", v)]) ∧ ∀ base : Heap, K.In base → base.Ns mainGlobals mg → L2.FnOk P w K mg base L2.CX0 20 fa fd ["_law_script"] (spLaw K) := by
  have Z : Zed K mg h := ⟨X, G, c⟩
  obtain ⟨fd, F⟩ := u_law Z
  have e := hfa.symm.trans (g_law Z)
  cases e
  have b := L2.FunD.bindsA (ps := ["_law_script"]) F fun _ _ _ _ _ _ us hl => match us, hl with | [_], _ => rfl
  exact ⟨fd, fun s v => b s [v] rfl, fun base X2 G2 => ok_law ⟨X2, G2, c⟩ F⟩
end CZ
open PySem PySem.W PySem.Calls PyProof.Rows
theorem PySem.Challenge.cw_cuecarry_k28_whole_rooms_behind_trims_holds : PySem.Challenge.rw_cuecarry_k28_whole_rooms_behind_trims.Holds := by
  w_on; o_law
  refine HandSHeadRun.head_any (r := CZ.Rrow) (q := CZ.qv) (H := CZ.hookZ) (ob := CZ.obT) (M := 10000) (loose := CZ.names) (d := HandSHeadRun.topDef CZ.Rrow.prog 141) (kwd := []) CZ.obT_eq
    (by kernel_rfl) (fun s => by kernel_rfl) CZ.run (by kernel_rfl) (by kernel_rfl) (by kernel_rfl) (by rfl) (by first | assumption | decide +kernel) (by decide +kernel) ⟨rfl, rfl, rfl, rfl, rfl, by decide +kernel⟩ ?hw ?hc
  case hw => w_witness2
  case hc =>
    refine L2.walk_ofE (l := PySem.Challenge.rw_cuecarry_k28_whole_rooms_behind_trims) (n := 63) (k := 20) (x := "_law_script") (CX := L2.CX0) rfl (by decide) (by kernel_rfl) ⟨rfl, by decide, by decide⟩ ?F (fun _ _ _ _ z => z)
    intro w mg fa h Y G hmg0
    obtain ⟨K, KX, c⟩ := Y
    have hmg : mg ("law" : PySem.Str) = some (.ref fa) := by
      have e : (HandSHeadRun.topDef CZ.Rrow.prog 141).name = ("law" : PySem.Str) := by kernel_rfl
      rw [← e]
      exact hmg0
    obtain ⟨fd, hb, hF⟩ := CZ.law_facts (P := (PySem.Challenge.rw_cuecarry_k28_whole_rooms_behind_trims).prog) (w := w) KX G hmg c
    exact ⟨K, fd, CZ.spLaw K, KX, hb, fun H a ns hl _ hS => ⟨a, ns, rfl, hS, fun _ => rfl⟩, hF⟩
