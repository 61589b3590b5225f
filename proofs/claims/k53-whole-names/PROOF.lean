import PyProof.Rows.All
import Wide.All
import OpenK.AllK
import Wide.FinOn
import KE.SortData
import KE.KSuper
import HandS.ForMost
import HandS.IsInst
import HandS.ClsMeth
import HandS.Style
import HandS.Star
import HandS.Nested
import HandS.NoneIn
import HandS.WideBits
import HandS.TupAny
import HandS.Zip
import HandS.Codes
import HandS.Head2
import HandS.HeadEnd
import HandS.HeadHook2
import HandS.HeadHook4
import PySem.Challenge.RW_duetickers_k53_whole_names_of_the_same_l
import HandS.Walk
import KE.KAssignIn
import PyProof.NeKinds
import HandS.DictTup
import KE.KDictZip
import HandS.Wide
import PyProof.StrLaws
import KE.KStateDown
import Lean
import HandS.More
import HandS.Words
import HandS.WordsExc
import HandS.Defaults
import HandS.Head0
import HandS.Head1
import HandS.HeadHook1
set_option Elab.async false
set_option linter.all false
set_option maxRecDepth 100000

section TK53A
set_option maxHeartbeats 4000000
namespace K53
open PySem PySem.Spec PyProof.Rows L2
/-! ### the text by places -/
def top (i : Nat) : Stmt := PySem.Challenge.pw_duetickers_k53_whole_names_of_the_same_l.main.body.getD i (.Pass ⟨0, 0, 0, 0⟩)
abbrev s_is_integer : Stmt := top 11
abbrev s_is_within : Stmt := top 12
abbrev s_is_name : Stmt := top 13
abbrev s_need_number : Stmt := top 14
abbrev s_fixed : Stmt := top 16
abbrev s_is_apart : Stmt := top 20
abbrev s_written : Stmt := top 25
abbrev s_is_short : Stmt := top 30
abbrev s_is_program : Stmt := top 37
abbrev s_need_tongue : Stmt := top 38
abbrev s_need_program : Stmt := top 39
abbrev s_choices_of : Stmt := top 41
abbrev s_all_of : Stmt := top 42
abbrev s_row_at : Stmt := top 43
abbrev s_kinds_behind : Stmt := top 53
abbrev s_rest_of : Stmt := top 54
abbrev s_made_of : Stmt := top 55
abbrev s_pile_behind : Stmt := top 56
abbrev s_piles_along : Stmt := top 57
abbrev s_right_for : Stmt := top 58
abbrev s_need_puzzle : Stmt := top 59
abbrev s_next_spot : Stmt := top 67
abbrev s_changed : Stmt := top 68
abbrev s_found_in : Stmt := top 76
abbrev s_need_given : Stmt := top 77
abbrev s_find : Stmt := top 78
abbrev s_l_choir : Stmt := top 80
abbrev s_l_chant : Stmt := top 81
abbrev s_l_one : Stmt := top 82
abbrev s_l_names : Stmt := top 83
abbrev s_l_programs : Stmt := top 84
abbrev s_l_word : Stmt := top 85
abbrev s_l_sayings : Stmt := top 88
abbrev s_l_tick : Stmt := top 89
abbrev s_l_items : Stmt := top 90
abbrev s_l_sought : Stmt := top 91
abbrev s_l_alike : Stmt := top 92
abbrev s_l_due : Stmt := top 93
abbrev s_law : Stmt := top 94
abbrev s_Scan_init : Stmt := inClass (top 26) 0
abbrev s_Scan_ahead : Stmt := inClass (top 26) 1
abbrev s_Scan_take : Stmt := inClass (top 26) 4
abbrev s_Tongue_init : Stmt := inClass (top 29) 1
abbrev s_Puzzle_init : Stmt := inClass (top 60) 0
abbrev s_Run_init : Stmt := inClass (top 66) 0
abbrev s_Run_advance : Stmt := inClass (top 66) 5
abbrev s_Trial_init : Stmt := inClass (top 74) 0
abbrev s_Trial_tried : Stmt := inClass (top 74) 1
abbrev s_Throng_init : Stmt := inClass (top 75) 0
abbrev s_Throng_fill : Stmt := inClass (top 75) 1
abbrev s_Throng_tried : Stmt := inClass (top 75) 3
abbrev s_Paper_init : Stmt := inClass (top 17) 0
abbrev s_Found_init : Stmt := inClass (top 72) 0
abbrev s_NotYet_init : Stmt := inClass (top 73) 0
/-! ### the facts by names -/
def gloN : List Str := ["is_integer", "is_within", "is_name", "need_number", "fixed", "is_apart", "written", "is_short", "is_program", "need_tongue", "need_program", "choices_of", "all_of", "row_at", "kinds_behind", "rest_of", "made_of", "pile_behind", "piles_along", "right_for"]
def gloN2 : List Str := ["need_puzzle", "next_spot", "changed", "found_in", "need_given", "find", "_law_choir", "_law_chant", "_law_one", "_law_names", "_law_programs", "_law_word", "_law_sayings", "_law_tick", "_law_items", "_law_sought", "_law_alike", "_law_due", "law"]
def gloC : List Str := ["Scan", "Tongue", "Puzzle", "Run", "Found", "NotYet", "Trial", "Throng", "Paper", "Denial", "SEVEN", "DEEDS"]
def freeN : List Str := ["isinstance", "int", "bool", "str", "list", "tuple", "len", "all", "any", "sorted", "zip", "range", "abs", "sum", "enumerate", "min", "super"]
def intN : List (Str × Int) := [("MOST_SIGNS", 60), ("MOST_FIGURES", 140), ("MOST_NAME", 8), ("MOST_WORDS_programs", 200), ("MOST_ITEMS", 40), ("MOST_PILE", 20), ("MOST_NUMBER", 1000000000000000000), ("MOST_BOX", 1000000000000000000), ("MOST_TICKS", 20000)]
def strN : List (Str × Str) := [("SIGNS", "01"), ("FIGURES", "0123456789"), ("END_programs", "end"), ("NUMBER", "number"), ("TRUTH", "truth"), ("ANSWER", "a"), ("GIVEN", "n"), ("END_runs", "end")]
def clsN : List Str := ["Scan", "Tongue", "Puzzle", "Run", "Found", "NotYet", "Trial", "Throng"]
def fldScan : List (Str × Str) := [("Scan", "words"), ("Scan", "at")]
def fldTongue : List (Str × Str) := [("Tongue", "names")]
def fldPuzzle : List (Str × Str) := [("Puzzle", "text"), ("Puzzle", "check"), ("Puzzle", "cost")]
def fldRun : List (Str × Str) := [("Run", "program"), ("Run", "given"), ("Run", "left"), ("Run", "right"), ("Run", "spot"), ("Run", "steps"), ("Run", "has_fallen")]
def fldFound : List (Str × Str) := [("Found", "word"), ("Found", "parts"), ("Found", "answer"), ("Found", "program"), ("Found", "step"), ("Found", "tick")]
def fldNotYet : List (Str × Str) := [("NotYet", "word"), ("NotYet", "parts"), ("NotYet", "tick")]
def fldTrial : List (Str × Str) := [("Trial", "program"), ("Trial", "puzzle"), ("Trial", "running"), ("Trial", "steps"), ("Trial", "waits"), ("Trial", "answer")]
def fldThrong : List (Str × Str) := [("Throng", "tongue"), ("Throng", "puzzle"), ("Throng", "given"), ("Throng", "least"), ("Throng", "due"), ("Throng", "begun"), ("Throng", "waiting")]
def fldN : List (Str × Str) := fldScan ++ fldTongue ++ fldPuzzle ++ fldRun ++ fldFound ++ fldNotYet ++ fldTrial ++ fldThrong
def metN : List (Str × Str) := [("Scan", "ahead"), ("Scan", "take"), ("Run", "advance"), ("Trial", "tried"), ("Throng", "fill"), ("Throng", "tried"), ("Paper", "__init__")]
def fa : List He.Fa := gloN.map .glo ++ gloN2.map .glo ++ gloC.map .glo ++ freeN.map .free ++ intN.map (fun p => .int p.1 p.2) ++ strN.map (fun p => .str p.1 p.2) ++ clsN.map .cls ++ fldN.map (fun p => .noat p.1 p.2) ++ metN.map (fun p => .meth p.1 p.2) ++ clsN.map .mkr
def mkD (at_ : Str × Option Str) (name qual : Str) (st : Stmt) (dfl : List He.Dv) : He.DefD := ⟨at_, name, qual, defArgs st, defBody st, defScope st, dfl, []⟩
def d_is_integer : He.DefD := mkD ("is_integer", none) "is_integer" "is_integer" s_is_integer []
def d_is_within : He.DefD := mkD ("is_within", none) "is_within" "is_within" s_is_within []
def d_is_name : He.DefD := mkD ("is_name", none) "is_name" "is_name" s_is_name []
def d_need_number : He.DefD := mkD ("need_number", none) "need_number" "need_number" s_need_number []
def d_fixed : He.DefD := mkD ("fixed", none) "fixed" "fixed" s_fixed []
def d_is_apart : He.DefD := mkD ("is_apart", none) "is_apart" "is_apart" s_is_apart []
def d_written : He.DefD := mkD ("written", none) "written" "written" s_written []
def d_is_short : He.DefD := mkD ("is_short", none) "is_short" "is_short" s_is_short []
def d_is_program : He.DefD := mkD ("is_program", none) "is_program" "is_program" s_is_program []
def d_need_tongue : He.DefD := mkD ("need_tongue", none) "need_tongue" "need_tongue" s_need_tongue [.str "tongue"]
def d_need_program : He.DefD := mkD ("need_program", none) "need_program" "need_program" s_need_program [.str "program"]
def d_choices_of : He.DefD := mkD ("choices_of", none) "choices_of" "choices_of" s_choices_of []
def d_all_of : He.DefD := mkD ("all_of", none) "all_of" "all_of" s_all_of []
def d_row_at : He.DefD := mkD ("row_at", none) "row_at" "row_at" s_row_at []
def d_kinds_behind : He.DefD := mkD ("kinds_behind", none) "kinds_behind" "kinds_behind" s_kinds_behind []
def d_rest_of : He.DefD := mkD ("rest_of", none) "rest_of" "rest_of" s_rest_of []
def d_made_of : He.DefD := mkD ("made_of", none) "made_of" "made_of" s_made_of []
def d_pile_behind : He.DefD := mkD ("pile_behind", none) "pile_behind" "pile_behind" s_pile_behind []
def d_piles_along : He.DefD := mkD ("piles_along", none) "piles_along" "piles_along" s_piles_along []
def d_right_for : He.DefD := mkD ("right_for", none) "right_for" "right_for" s_right_for []
def d_need_puzzle : He.DefD := mkD ("need_puzzle", none) "need_puzzle" "need_puzzle" s_need_puzzle [.str "puzzle"]
def d_next_spot : He.DefD := mkD ("next_spot", none) "next_spot" "next_spot" s_next_spot []
def d_changed : He.DefD := mkD ("changed", none) "changed" "changed" s_changed []
def d_found_in : He.DefD := mkD ("found_in", none) "found_in" "found_in" s_found_in []
def d_need_given : He.DefD := mkD ("need_given", none) "need_given" "need_given" s_need_given []
def d_find : He.DefD := mkD ("find", none) "find" "find" s_find []
def d_l_choir : He.DefD := mkD ("_law_choir", none) "_law_choir" "_law_choir" s_l_choir []
def d_l_chant : He.DefD := mkD ("_law_chant", none) "_law_chant" "_law_chant" s_l_chant []
def d_l_one : He.DefD := mkD ("_law_one", none) "_law_one" "_law_one" s_l_one []
def d_l_names : He.DefD := mkD ("_law_names", none) "_law_names" "_law_names" s_l_names []
def d_l_programs : He.DefD := mkD ("_law_programs", none) "_law_programs" "_law_programs" s_l_programs []
def d_l_word : He.DefD := mkD ("_law_word", none) "_law_word" "_law_word" s_l_word []
def d_l_sayings : He.DefD := mkD ("_law_sayings", none) "_law_sayings" "_law_sayings" s_l_sayings []
def d_l_tick : He.DefD := mkD ("_law_tick", none) "_law_tick" "_law_tick" s_l_tick []
def d_l_items : He.DefD := mkD ("_law_items", none) "_law_items" "_law_items" s_l_items []
def d_l_sought : He.DefD := mkD ("_law_sought", none) "_law_sought" "_law_sought" s_l_sought []
def d_l_alike : He.DefD := mkD ("_law_alike", none) "_law_alike" "_law_alike" s_l_alike []
def d_l_due : He.DefD := mkD ("_law_due", none) "_law_due" "_law_due" s_l_due []
def d_law : He.DefD := mkD ("law", none) "law" "law" s_law []
def d_Scan_init : He.DefD := mkD ("Scan", some "__init__") "__init__" "Scan.__init__" s_Scan_init []
def d_Scan_ahead : He.DefD := mkD ("Scan", some "ahead") "ahead" "Scan.ahead" s_Scan_ahead []
def d_Scan_take : He.DefD := mkD ("Scan", some "take") "take" "Scan.take" s_Scan_take []
def d_Tongue_init : He.DefD := mkD ("Tongue", some "__init__") "__init__" "Tongue.__init__" s_Tongue_init []
def d_Puzzle_init : He.DefD := mkD ("Puzzle", some "__init__") "__init__" "Puzzle.__init__" s_Puzzle_init []
def d_Run_init : He.DefD := mkD ("Run", some "__init__") "__init__" "Run.__init__" s_Run_init []
def d_Run_advance : He.DefD := mkD ("Run", some "advance") "advance" "Run.advance" s_Run_advance []
def d_Trial_init : He.DefD := mkD ("Trial", some "__init__") "__init__" "Trial.__init__" s_Trial_init []
def d_Trial_tried : He.DefD := mkD ("Trial", some "tried") "tried" "Trial.tried" s_Trial_tried []
def d_Throng_init : He.DefD := mkD ("Throng", some "__init__") "__init__" "Throng.__init__" s_Throng_init []
def d_Throng_fill : He.DefD := mkD ("Throng", some "fill") "fill" "Throng.fill" s_Throng_fill []
def d_Throng_tried : He.DefD := mkD ("Throng", some "tried") "tried" "Throng.tried" s_Throng_tried []
def d_Paper_init : He.DefD := mkD ("Paper", some "__init__") "__init__" "Paper.__init__" s_Paper_init []
def fn : List He.DefD := [d_is_integer, d_is_within, d_is_name, d_need_number, d_fixed, d_is_apart, d_written, d_is_short, d_is_program, d_need_tongue, d_need_program, d_choices_of, d_all_of, d_row_at, d_kinds_behind, d_rest_of, d_made_of, d_pile_behind, d_piles_along, d_right_for, d_need_puzzle, d_next_spot, d_changed, d_found_in, d_need_given, d_find, d_l_choir, d_l_chant, d_l_one, d_l_names, d_l_programs, d_l_word, d_l_sayings, d_l_tick, d_l_items, d_l_sought, d_l_alike, d_l_due, d_law, d_Scan_init, d_Scan_ahead, d_Scan_take, d_Tongue_init, d_Puzzle_init, d_Run_init, d_Run_advance, d_Trial_init, d_Trial_tried, d_Throng_init, d_Throng_fill, d_Throng_tried, d_Paper_init]
/-! ### more facts -/
open He in
/-- a tuple at an address -/
def tupAt (K : PySem.W.Frag) (a : Addr) (vs : List V) : Bool := match K.lookup a with
  | some ⟨.type c, _, .seq its _, _⟩ => decide (c = "tuple") && (decide (its.size ≤ sizeLine) && He.relAll vs its.toList)
  | _ => false
theorem tupAt_ok {K : PySem.W.Frag} {a : Addr} {vs : List V} (h : tupAt K a vs = true) (H : Hp) : SqT K H a vs := by
  unfold tupAt at h
  cases q : K.lookup a with
  | none =>
    rw [q] at h
    cases h
  | some o =>
    obtain ⟨oc, od, dt, osl⟩ := o
    rw [q] at h
    cases oc with
    | type c =>
      cases dt with
      | seq its n =>
        obtain ⟨h1, h2⟩ := He.ba (show (decide (c = "tuple") && (decide (its.size ≤ sizeLine) && He.relAll vs its.toList)) = true from h)
        obtain ⟨h3, h4⟩ := He.ba h2
        exact .inr ⟨_, its, n, q, congrArg Value.type (of_decide_eq_true h1), rfl, of_decide_eq_true h3, He.relAll_ok h4⟩
      | _ => cases h
    | _ => cases dt <;> cases h
def words8 : List Str := ["say", "up", "down", "swap", "add", "times", "skip", "end"]
def words7 : List Str := ["say", "up", "down", "swap", "add", "times", "skip"]
/-- where Tongue.WORDS stands -/
def aW (K : PySem.W.Frag) : Addr := match PySem.W.findCls K (.ref (He.ga K "Tongue")) (.type "type") "WORDS" with
  | some (.val (.ref a)) => a
  | _ => 0
/-- an item of a tuple, if it is an object -/
def itAt (K : PySem.W.Frag) (a : Addr) (i : Nat) : Addr := match K.lookup a with
  | some ⟨_, _, .seq its _, _⟩ => (match its.toList[i]? with
    | some (.ref b) => b
    | _ => 0)
  | _ => 0
/-- where DEEDS[x] stands -/
def aD (K : PySem.W.Frag) (x : Str) : Addr := match PySem.W.nsIn K (He.ga K "DEEDS") x with
  | some (some (.ref a)) => a
  | _ => 0
def deedK : List Str := ["+", "-", "*", "rem", "=", "<", "and", "or", "not"]
/-- what an item takes, what it makes -/
def deeds : List (Str × (List Str × Str)) := [("+", (["number", "number"], "number")), ("-", (["number", "number"], "number")), ("*", (["number", "number"], "number")), ("rem", (["number", "number"], "number")),
  ("=", (["number", "number"], "truth")), ("<", (["number", "number"], "truth")), ("and", (["truth", "truth"], "truth")), ("or", (["truth", "truth"], "truth")), ("not", (["truth"], "truth"))]
def deedB (K : PySem.W.Frag) (q : Str × (List Str × Str)) : Bool :=
  He.eqO (PySem.W.nsIn K (He.ga K "DEEDS") q.1) (some (some (.ref (aD K q.1)))) && (tupAt K (aD K q.1) [.ref (itAt K (aD K q.1) 0), .str q.2.2] && tupAt K (itAt K (aD K q.1) 0) (q.2.1.map V.str))
def insB (K : PySem.W.Frag) (x : Str) : Bool :=
  He.eqO (PySem.W.findIn K (.ref (He.ga K x)) "__class__") (some (some (.builtin "object.__class__"))) && (He.eqO (PySem.W.specialIn K (.builtin "object.__class__") "__get__") (some (some (.builtin "getset_descriptor.__get__"))) &&
    (decide (PySem.W.takesIn K (.builtin "object.__class__") = some true) && decide (PySem.W.mroIn K (He.ga K x) (.type "object") = some true)))
/-- the closure's one cell of the def at p -/
def cellOf (K : PySem.W.Frag) (p : Str × Option Str) : Addr := match K.lookup (He.fAd K p) with
  | some ⟨_, _, .func fd, _⟩ => (match fd.closure with
    | [(_, a)] => a
    | _ => 0)
  | _ => 0
def cellB (K : PySem.W.Frag) (c D : Addr) : Bool := match K.lookup c with
  | some ⟨_, _, .cell (some (.ref a)), _⟩ => decide (a = D)
  | _ => false
def codeA (K : PySem.W.Frag) (p : Str × Option Str) : Addr := match K.lookup (He.fAd K p) with
  | some ⟨_, _, .func fd, _⟩ => (match fd.code with
    | .ref a => a
    | _ => 0)
  | _ => 0
def fileB (K : PySem.W.Frag) (c : Addr) : Bool := match K.lookup c with
  | some ⟨_, _, .fields vs, _⟩ => (match vs[2]? with
    | some (Value.str x _) => decide (x = PySem.Challenge.pw_duetickers_k53_whole_names_of_the_same_l.main.file)
    | _ => false)
  | _ => false
/-- a method that says super().__init__(..): its function but for the closure, which is __class__ alone -/
def superB (K : PySem.W.Frag) (x q : Str) : Bool :=
  (match K.lookup (He.fAd K (x, some "__init__")) with
    | some ⟨oc, _, .func fd, _⟩ => decide (fd.closure = [(("__class__" : Str), cellOf K (x, some "__init__"))]) && (PySem.W.codeIn K fd.code q && (decide (fd.code = .ref (codeA K (x, some "__init__"))) && (decide (fd.defaults = .none) && decide (oc = .type "function"))))
    | _ => false) && (cellB K (cellOf K (x, some "__init__")) (He.ga K x) && (fileB K (codeA K (x, some "__init__")) && (decide (PySem.W.mroIn K (He.ga K x) (.ref (He.ga K x)) = some true) &&
      (He.eqO (PySem.W.ks_superIn K (He.ga K x) (He.ga K x) "__init__") (some (some (.ref (He.fAd K ("Paper", some "__init__"))))) && ((PySem.W.clsIn K (He.ga K x)).isSome && PySem.W.keepIn K (.ref (He.fAd K (x, some "__init__"))))))))
def ex (K : PySem.W.Frag) : Bool :=
  (PySem.W.readsIn K (He.ga K "Tongue") (.type "type") && (He.eqO (PySem.W.specialIn K (.ref (He.ga K "Tongue")) "__getattribute__") (some (some (.builtin "type.__getattribute__"))) &&
    ((match PySem.W.findCls K (.ref (He.ga K "Tongue")) (.type "type") "WORDS" with
      | some (.val (.ref a)) => decide (a = aW K)
      | _ => false) && tupAt K (aW K) (words8.map V.str)))) &&
  (tupAt K (He.ga K "SEVEN") (words7.map V.str) && (deeds.all (deedB K) && ((["Tongue", "Puzzle", "Found", "NotYet"] : List Str).all (insB K) && ((["Tongue", "Puzzle", "Found"] : List Str).all (fun x => decide (PySem.W.kitOne K (.ref (He.ga K x)) (.ref (He.ga K x)) = some true)) &&
    (decide (PySem.W.kitOne K (.ref (He.ga K "NotYet")) (.ref (He.ga K "Found")) = some false) && (superB K "Found" "Found.__init__" && (superB K "NotYet" "NotYet.__init__" && He.eqO (PySem.W.nsIn K cStatics "thirdparty.any") (some none))))))))
/-- a def but for its closure -/
abbrev FnC : Type := Option (Str × Str × Arguments × FuncBody × Scope × Addr × Addr)
def fnC (K : PySem.W.Frag) (p : Str × Option Str) : FnC := match K.lookup (He.fAd K p) with
  | some ⟨_, _, .func fd, _⟩ => some (fd.name, fd.qualname, fd.params, fd.body, fd.scope, fd.globals, fd.builtins)
  | _ => none
def valC (d : He.DefD) : FnC := some (d.name, d.qual, d.params, .stmts d.body, d.scope, mainGlobals, builtinsNs)
def d_Found_init : He.DefD := mkD ("Found", some "__init__") "__init__" "Found.__init__" s_Found_init []
def d_NotYet_init : He.DefD := mkD ("NotYet", some "__init__") "__init__" "NotYet.__init__" s_NotYet_init []
def cs : List He.DefD := [d_Found_init, d_NotYet_init]
def ts : List He.Tab := [((fun K => He.ga K "DEEDS"), deedK)]
/-- what is known of the written part -/
structure TX (w : World) (K : PySem.W.Frag) (mg : Str → Option Value) : Prop where
  h : ∃ h : Heap, K.In h ∧ h.Ns mainGlobals mg
  t : He.SaysT fa fn ts w K
  x : ex K = true
  c : cs.map (fun d => fnC K d.at_) = cs.map valC
section
variable {w : World} {K : PySem.W.Frag} {mg : Str → Option Value} (T : TX w K mg)
include T
theorem TX.fact {f : He.Fa} (h : f ∈ fa) : f.ok K = true := T.t.d.facts h
theorem TX.g (x : Str) (h : x ∈ gloN ∨ x ∈ gloN2 ∨ x ∈ gloC := by decide +kernel) : mg x = some (.ref (He.ga K x)) := by
  obtain ⟨hp, X, G⟩ := T.h
  refine He.glo_ok X G (T.fact ?_)
  unfold fa
  simp only [List.mem_append, List.mem_map]
  rcases h with h | h | h
  · exact .inl (.inl (.inl (.inl (.inl (.inl (.inl (.inl (.inl ⟨x, h, rfl⟩))))))))
  · exact .inl (.inl (.inl (.inl (.inl (.inl (.inl (.inl (.inr ⟨x, h, rfl⟩))))))))
  · exact .inl (.inl (.inl (.inl (.inl (.inl (.inl (.inr ⟨x, h, rfl⟩)))))))
theorem TX.f (x : Str) (h : x ∈ freeN := by decide +kernel) : mg x = none := by
  obtain ⟨hp, X, G⟩ := T.h
  refine He.free_ok X G (T.fact ?_)
  unfold fa
  simp only [List.mem_append, List.mem_map]
  exact .inl (.inl (.inl (.inl (.inl (.inl (.inr ⟨x, h, rfl⟩))))))
theorem TX.i (x : Str) (i : Int) (h : (x, i) ∈ intN := by decide +kernel) : ∃ t, mg x = some (.int i t) := by
  obtain ⟨hp, X, G⟩ := T.h
  refine He.int_ok X G (T.fact ?_)
  unfold fa
  simp only [List.mem_append, List.mem_map]
  exact .inl (.inl (.inl (.inl (.inl (.inr ⟨(x, i), h, rfl⟩)))))
theorem TX.s (x z : Str) (h : (x, z) ∈ strN := by decide +kernel) : ∃ t, mg x = some (.str z t) := by
  obtain ⟨hp, X, G⟩ := T.h
  refine He.str_ok X G (T.fact ?_)
  unfold fa
  simp only [List.mem_append, List.mem_map]
  exact .inl (.inl (.inl (.inl (.inr ⟨(x, z), h, rfl⟩))))
theorem TX.cls (x : Str) (h : x ∈ clsN := by decide +kernel) : Cls K (He.ga K x) := by
  refine He.cls_ok (T.fact ?_)
  unfold fa
  simp only [List.mem_append, List.mem_map]
  exact .inl (.inl (.inl (.inr ⟨x, h, rfl⟩)))
theorem TX.na (x f : Str) (h : (x, f) ∈ fldN := by decide +kernel) : NoAttr K (He.ga K x) f := by
  refine He.noat_ok (T.fact ?_)
  unfold fa
  simp only [List.mem_append, List.mem_map]
  exact .inl (.inl (.inr ⟨(x, f), h, rfl⟩))
theorem TX.meth (x m : Str) (h : (x, m) ∈ metN := by decide +kernel) : Meth K (He.ga K x) m (He.fAd K (x, some m)) := by
  refine He.meth_ok (x := x) (m := m) (T.fact ?_)
  unfold fa
  simp only [List.mem_append, List.mem_map]
  exact .inl (.inr ⟨(x, m), h, rfl⟩)
theorem TX.mkr (x : Str) (h : x ∈ clsN := by decide +kernel) : Mk K (He.ga K x) (He.fAd K (x, some "__init__")) := by
  refine He.mkr_ok (x := x) (T.fact ?_)
  unfold fa
  simp only [List.mem_append, List.mem_map]
  exact .inr ⟨x, h, rfl⟩
/-! ### the further facts -/
theorem TX.words : PySem.W.readsIn K (He.ga K "Tongue") (.type "type") = true ∧ PySem.W.specialIn K (.ref (He.ga K "Tongue")) "__getattribute__" = some (some (.builtin "type.__getattribute__")) ∧
    PySem.W.findCls K (.ref (He.ga K "Tongue")) (.type "type") "WORDS" = some (.val (.ref (aW K))) ∧ ∀ H, SqT K H (aW K) (words8.map V.str) := by
  obtain ⟨h1, h2⟩ := He.ba (He.ba T.x).1
  obtain ⟨h3, h4⟩ := He.ba h2
  obtain ⟨h5, h6⟩ := He.ba h4
  refine ⟨h1, He.eqO_ok h3, ?_, tupAt_ok h6⟩
  split at h5
  · rename_i a q
    rw [q, of_decide_eq_true h5]
  · cases h5
theorem TX.seven (H : Hp) : SqT K H (He.ga K "SEVEN") (words7.map V.str) := tupAt_ok (He.ba (He.ba T.x).2).1 H
theorem TX.deed {q : Str × (List Str × Str)} (h : q ∈ deeds) : PySem.W.nsIn K (He.ga K "DEEDS") q.1 = some (some (.ref (aD K q.1))) ∧ (∀ H, SqT K H (aD K q.1) [.ref (itAt K (aD K q.1) 0), .str q.2.2]) ∧ ∀ H, SqT K H (itAt K (aD K q.1) 0) (q.2.1.map V.str) := by
  have z := List.all_eq_true.mp (He.ba (He.ba (He.ba T.x).2).2).1 q h
  obtain ⟨h1, h2⟩ := He.ba (show (He.eqO (PySem.W.nsIn K (He.ga K "DEEDS") q.1) (some (some (.ref (aD K q.1)))) && (tupAt K (aD K q.1) [.ref (itAt K (aD K q.1) 0), .str q.2.2] && tupAt K (itAt K (aD K q.1) 0) (q.2.1.map V.str))) = true from z)
  obtain ⟨h3, h4⟩ := He.ba h2
  exact ⟨He.eqO_ok h1, tupAt_ok h3, tupAt_ok h4⟩
theorem TX.deeds : ∃ es n, KDict K w (He.ga K "DEEDS") es n := T.t.tab 0 (t := ((fun K => He.ga K "DEEDS"), deedK)) rfl
theorem TX.ins (x : Str) (h : x ∈ (["Tongue", "Puzzle", "Found", "NotYet"] : List Str)) {H : Hp} {a dx : Addr} {fs : List (Str × V)} (e : H a = some (.ins (He.ga K x) dx fs)) : TyX K H (.ref a) (.ref (He.ga K x)) := by
  have z := List.all_eq_true.mp (He.ba (He.ba (He.ba (He.ba T.x).2).2).2).1 x h
  obtain ⟨h1, h2⟩ := He.ba (show (He.eqO (PySem.W.findIn K (.ref (He.ga K x)) "__class__") (some (some (.builtin "object.__class__"))) && (He.eqO (PySem.W.specialIn K (.builtin "object.__class__") "__get__") (some (some (.builtin "getset_descriptor.__get__"))) &&
    (decide (PySem.W.takesIn K (.builtin "object.__class__") = some true) && decide (PySem.W.mroIn K (He.ga K x) (.type "object") = some true)))) = true from z)
  obtain ⟨h3, h4⟩ := He.ba h2
  obtain ⟨h5, h6⟩ := He.ba h4
  have hc : x ∈ clsN := by
    simp only [List.mem_cons, List.not_mem_nil, or_false] at h
    rcases h with h | h | h | h <;> (subst h; decide +kernel)
  exact .base (.ins e (T.cls x hc) (He.eqO_ok h1) (He.eqO_ok h3) (of_decide_eq_true h5) (of_decide_eq_true h6))
theorem TX.kit (x : Str) (h : x ∈ (["Tongue", "Puzzle", "Found"] : List Str)) : PySem.W.kitOne K (.ref (He.ga K x)) (.ref (He.ga K x)) = some true :=
  of_decide_eq_true (List.all_eq_true.mp (He.ba (He.ba (He.ba (He.ba (He.ba T.x).2).2).2).2).1 x h)
theorem TX.kitN : PySem.W.kitOne K (.ref (He.ga K "NotYet")) (.ref (He.ga K "Found")) = some false := of_decide_eq_true (He.ba (He.ba (He.ba (He.ba (He.ba (He.ba T.x).2).2).2).2).2).1
theorem TX.superF : superB K "Found" "Found.__init__" = true := (He.ba (He.ba (He.ba (He.ba (He.ba (He.ba (He.ba T.x).2).2).2).2).2).2).1
theorem TX.superN : superB K "NotYet" "NotYet.__init__" = true := (He.ba (He.ba (He.ba (He.ba (He.ba (He.ba (He.ba (He.ba T.x).2).2).2).2).2).2).2).1
theorem TX.noThird : PySem.W.nsIn K cStatics "thirdparty.any" = some none := He.eqO_ok (He.ba (He.ba (He.ba (He.ba (He.ba (He.ba (He.ba (He.ba T.x).2).2).2).2).2).2).2).2
end
/-! ### rules in short -/
theorem bt_isinstance : bootBuiltins "isinstance" = some (.builtin "isinstance") := by decide +kernel
theorem bt_all : bootBuiltins "all" = some (.builtin "all") := by decide +kernel
theorem bt_any : bootBuiltins "any" = some (.builtin "any") := by decide +kernel
theorem bt_sum : bootBuiltins "sum" = some (.builtin "sum") := by decide +kernel
theorem bt_abs : bootBuiltins "abs" = some (.builtin "abs") := by decide +kernel
theorem bt_min : bootBuiltins "min" = some (.builtin "min") := by decide +kernel
theorem bt_sorted : bootBuiltins "sorted" = some (.builtin "sorted") := by decide +kernel
theorem bt_int : bootBuiltins "int" = some (.type "int") := by decide +kernel
theorem bt_bool : bootBuiltins "bool" = some (.type "bool") := by decide +kernel
theorem bt_str : bootBuiltins "str" = some (.type "str") := by decide +kernel
theorem bt_tuple : bootBuiltins "tuple" = some (.type "tuple") := by decide +kernel
theorem bt_list : bootBuiltins "list" = some (.type "list") := by decide +kernel
/-- a def of the text and what it promises -/
def FnX (P : Program) (w : World) (K : PySem.W.Frag) (mg : Str → Option Value) (base : Heap) (k : Nat) (p : Str × Option Str) (ps : List Str) (dvs : List V) (sp : Sp) : Prop :=
  ∃ (fd : FuncData) (ds : List Value), FnOk P w K mg base CX0 k (He.fAd K p) fd ps sp ∧ PySem.W.keepIn K (.ref (He.fAd K p)) = true ∧ Vals dvs ds ∧ Binds K fd ps ds
section
variable {X : Cx} {k : Nat} {ps : List Str} {sp : Sp} {dvs : List V} {x m : Str} {p pos apos : Pos} {e o : Expr} {es : List Expr} {ta : TE} {t : TA} {c : Str}
theorem pe_fx (F : FnX X.prog X.w X.K X.mg X.base k (x, none) ps dvs sp) (hr : Room k X.A) (hg : Gl X x) (hm : X.mg x = some (.ref (He.ga X.K x))) (ha : PA X (e :: es) t) (hdb : (x == ("__debug__" : Str)) = false := by decide)
    (he : starEach (e :: es) X.env = (false, eval e X.env) :: starEach es X.env := by rfl) (hpl : (backTo pos (starEach es X.env)).any (·.1) = false := by rfl) : PE X (.Call (.Name x p) (e :: es) [] pos) (tCall sp dvs E0 t) := by
  obtain ⟨fd, ds, h1, h2, h3, h4⟩ := F
  exact pe_call h1 hr hg hm h2 h4 h3 pass0 ha hdb he hpl
theorem pe_kx (M : Mk X.K (He.ga X.K x) (He.fAd X.K (x, some "__init__"))) (F : FnX X.prog X.w X.K X.mg X.base k (x, some "__init__") ps dvs sp) (hr : Room (k + 1) X.A) (hg : Gl X x) (hm : X.mg x = some (.ref (He.ga X.K x))) (ha : PA X (e :: es) t) (hdb : (x == ("__debug__" : Str)) = false := by decide)
    (he : starEach (e :: es) X.env = (false, eval e X.env) :: starEach es X.env := by rfl) (hpl : (backTo pos (starEach es X.env)).any (·.1) = false := by rfl) : PE X (.Call (.Name x p) (e :: es) [] pos) (tMake (He.ga X.K x) sp dvs E0 t) := by
  obtain ⟨fd, ds, h1, h2, h3, h4⟩ := F
  exact pe_make M h1 hr hg hm h4 h3 pass0 ha hdb he hpl
theorem pe_mx {pl : Sem Bool} (he : PE X o ta) (hc : Cls X.K (He.ga X.K c)) (hm : Meth X.K (He.ga X.K c) m (He.fAd X.K (c, some m))) (F : FnX X.prog X.w X.K X.mg X.base k (c, some m) ps dvs sp) (hr : Room k X.A) (ha : PA X (e :: es) t)
    (hst : starEach (e :: es) X.env = (false, eval e X.env) :: starEach es X.env := by rfl) (hpl : (backTo pos (starEach es X.env)).any (·.1) = false := by rfl)
    (ht : eval (.Call (.Attribute o m apos) (e :: es) [] pos) X.env = (do
      let ov ← eval o X.env
      standAt apos.atName
      let (f, first) ← holding [ov] (getMethod ov m pl)
      callWith pos f first (backTo pos (starEach (e :: es) X.env)) (backToKw pos (keywordEach [] X.env))) := by rfl) :
    PE X (.Call (.Attribute o m apos) (e :: es) [] pos) (tMeth (He.ga X.K c) m sp dvs E0 ta t) := by
  obtain ⟨fd, ds, h1, h2, h3, h4⟩ := F
  exact pe_meth he hc hm h1 hr h4 h3 pass0 ha hst hpl ht
theorem pe_mx0 {pl : Sem Bool} (he : PE X o ta) (hc : Cls X.K (He.ga X.K c)) (hm : Meth X.K (He.ga X.K c) m (He.fAd X.K (c, some m))) (F : FnX X.prog X.w X.K X.mg X.base k (c, some m) ps dvs sp) (hr : Room k X.A)
    (ht : eval (.Call (.Attribute o m apos) [] [] pos) X.env = (do
      let ov ← eval o X.env
      standAt apos.atName
      let (f, first) ← holding [ov] (getMethod ov m pl)
      callWith pos f first (backTo pos (starEach [] X.env)) (backToKw pos (keywordEach [] X.env))) := by rfl) :
    PE X (.Call (.Attribute o m apos) [] [] pos) (tMeth (He.ga X.K c) m sp dvs E0 ta tNil) := by
  obtain ⟨fd, ds, h1, h2, h3, h4⟩ := F
  exact pe_meth0 he hc hm h1 hr h4 h3 pass0 ht
theorem pe_gi {i : Int} (hg : Gl X x) (h : ∃ t, X.mg x = some (.int i t)) (hd : (x == ("__debug__" : Str)) = false := by decide) : PE X (.Name x pos) (tC (.int i)) := by
  obtain ⟨t, h⟩ := h
  exact pe_glob hg h ⟨t, rfl⟩ hd
theorem pe_gr {a : Addr} (hg : Gl X x) (h : X.mg x = some (.ref a)) (hd : (x == ("__debug__" : Str)) = false := by decide) : PE X (.Name x pos) (tC (.ref a)) := pe_glob hg h rfl hd
theorem pe_gs {z : Str} (hg : Gl X x) (h : ∃ t, X.mg x = some (.str z t)) (hd : (x == ("__debug__" : Str)) = false := by decide) : PE X (.Name x pos) (tC (.str z)) := by
  obtain ⟨t, h⟩ := h
  exact pe_glob hg h ⟨t, rfl⟩ hd
end
section
variable {P : Program} {w : World} {K : PySem.W.Frag} {mg : Str → Option Value} {base : Heap} {N ps : List Str} {k : Nat} {sp : Sp} {d : He.DefD}
/-- a def without defaults -/
theorem FnX.of (F : ∃ fd, FunD K d.name d.qual d.params d.body d.scope (d.dvs K) (d.kws K) (He.fAd K d.at_) fd) (hd : d.dfl = []) (S : FnScope N ps d.scope) (len : ∀ vs H Q E, sp vs H Q E → vs.length = ps.length)
    (hb : ∀ (kV doc pm : Value) (an : Option Addr) (cdv ct : Value) (us : List Value), us.length = ps.length → bindArgs (PySem.W.fnOf d.name d.qual d.params d.body d.scope .none kV doc pm an cdv ct) ⟨us, []⟩ = pure (ps.zip us))
    (hbody : ∀ (cdv : Value) (A : Around) (outer : List Env) (s : Shared) (H : Hp) (vs : List V) (Q : VK) (E : XK), Room k (A.deeper (envOfC d.qual d.scope s.heap.objs.size (He.fAd K d.at_) cdv)) → sp vs H Q E →
      ∃ t, PSs (cxOf CX0 P w K mg base N d.qual d.scope (He.fAd K d.at_) cdv A outer s H E).nox d.body t ∧ t { nx := fun _ H' => Q .non H', rt := Q } (start N vs) H) : FnX P w K mg base (k + 1) d.at_ ps [] sp := by
  obtain ⟨fd, F⟩ := F
  have e : d.dvs K = [] := by unfold He.DefD.dvs; rw [hd]; rfl
  rw [e] at F
  refine ⟨fd, [], F.ok S len fun cdv A outer s H vs Q E hr hsp => ?_, F.kp, .nil, F.bindsN hb⟩
  obtain ⟨t, h, q⟩ := hbody cdv A outer s H vs Q E hr hsp
  exact ⟨t, h.nox, q⟩
/-- a def of two parameters whose second one has a default, called with one -/
theorem FnX.of1 {a b : Str} {z : Str} (F : ∃ fd, FunD K d.name d.qual d.params d.body d.scope (d.dvs K) (d.kws K) (He.fAd K d.at_) fd) (hd : d.dfl = [.str z]) (S : FnScope N [a, b] d.scope) (len : ∀ vs H Q E, sp vs H Q E → vs.length = 2)
    (hb : ∀ (T : Addr) (kV doc pm : Value) (an : Option Addr) (cdv ct : Value) (us its : List Value), us.length = 1 → its.length = 1 →
      ∃ k, bindArgs (PySem.W.fnOf d.name d.qual d.params d.body d.scope (.ref T) kV doc pm an cdv ct) ⟨us, []⟩ = seqItems? (.ref T) >>= k ∧ k (some its.toArray) = pure ([a, b].zip (us ++ its)))
    (hbody : ∀ (cdv : Value) (A : Around) (outer : List Env) (s : Shared) (H : Hp) (vs : List V) (Q : VK) (E : XK), Room k (A.deeper (envOfC d.qual d.scope s.heap.objs.size (He.fAd K d.at_) cdv)) → sp vs H Q E →
      ∃ t, PSs (cxOf CX0 P w K mg base N d.qual d.scope (He.fAd K d.at_) cdv A outer s H E).nox d.body t ∧ t { nx := fun _ H' => Q .non H', rt := Q } (start N vs) H) : FnX P w K mg base (k + 1) d.at_ [a, b] [.str z] sp := by
  obtain ⟨fd, F⟩ := F
  have e : d.dvs K = [.str z] := by unfold He.DefD.dvs; rw [hd]; rfl
  rw [e] at F
  obtain ⟨ds, h1, h2⟩ := F.binds1 (ps := [a, b]) 1 0 (by simp) rfl fun T kV doc pm an cdv ct us its hu hi => by
    obtain ⟨k, q1, q2⟩ := hb T kV doc pm an cdv ct us its hu hi
    exact ⟨k, q1, by rw [List.drop_zero]; exact q2⟩
  refine ⟨fd, ds, F.ok S len fun cdv A outer s H vs Q E hr hsp => ?_, F.kp, h1, h2⟩
  obtain ⟨t, h, q⟩ := hbody cdv A outer s H vs Q E hr hsp
  exact ⟨t, h.nox, q⟩
/-- a def of two parameters whose second one has a default, called with both -/
theorem FnX.of2 {a b : Str} {z : Str} (F : ∃ fd, FunD K d.name d.qual d.params d.body d.scope (d.dvs K) (d.kws K) (He.fAd K d.at_) fd) (hd : d.dfl = [.str z]) (S : FnScope N [a, b] d.scope) (len : ∀ vs H Q E, sp vs H Q E → vs.length = 2)
    (hb : ∀ (T : Addr) (kV doc pm : Value) (an : Option Addr) (cdv ct : Value) (us its : List Value), us.length = 2 → its.length = 1 →
      ∃ k, bindArgs (PySem.W.fnOf d.name d.qual d.params d.body d.scope (.ref T) kV doc pm an cdv ct) ⟨us, []⟩ = seqItems? (.ref T) >>= k ∧ k (some its.toArray) = pure ([a, b].zip us))
    (hbody : ∀ (cdv : Value) (A : Around) (outer : List Env) (s : Shared) (H : Hp) (vs : List V) (Q : VK) (E : XK), Room k (A.deeper (envOfC d.qual d.scope s.heap.objs.size (He.fAd K d.at_) cdv)) → sp vs H Q E →
      ∃ t, PSs (cxOf CX0 P w K mg base N d.qual d.scope (He.fAd K d.at_) cdv A outer s H E).nox d.body t ∧ t { nx := fun _ H' => Q .non H', rt := Q } (start N vs) H) : FnX P w K mg base (k + 1) d.at_ [a, b] [] sp := by
  obtain ⟨fd, F⟩ := F
  have e : d.dvs K = [.str z] := by unfold He.DefD.dvs; rw [hd]; rfl
  rw [e] at F
  obtain ⟨ds, h1, h2⟩ := F.binds1 (ps := [a, b]) 2 1 (by simp) rfl fun T kV doc pm an cdv ct us its hu hi => by
    obtain ⟨k, q1, q2⟩ := hb T kV doc pm an cdv ct us its hu hi
    have e : its.drop 1 = [] := List.drop_eq_nil_of_le (Nat.le_of_eq hi)
    exact ⟨k, q1, by rw [e, List.append_nil]; exact q2⟩
  refine ⟨fd, ds, F.ok S len fun cdv A outer s H vs Q E hr hsp => ?_, F.kp, h1, h2⟩
  obtain ⟨t, h, q⟩ := hbody cdv A outer s H vs Q E hr hsp
  exact ⟨t, h.nox, q⟩
end

theorem TX.qd_is_integer {w : World} {K : PySem.W.Frag} {mg : Str → Option Value} (T : TX w K mg) : ∃ fd, FunD K d_is_integer.name d_is_integer.qual d_is_integer.params d_is_integer.body d_is_integer.scope (d_is_integer.dvs K) (d_is_integer.kws K) (He.fAd K d_is_integer.at_) fd := T.t.d.def_ 0 (d := d_is_integer) rfl
theorem TX.qd_is_within {w : World} {K : PySem.W.Frag} {mg : Str → Option Value} (T : TX w K mg) : ∃ fd, FunD K d_is_within.name d_is_within.qual d_is_within.params d_is_within.body d_is_within.scope (d_is_within.dvs K) (d_is_within.kws K) (He.fAd K d_is_within.at_) fd := T.t.d.def_ 1 (d := d_is_within) rfl
theorem TX.qd_is_name {w : World} {K : PySem.W.Frag} {mg : Str → Option Value} (T : TX w K mg) : ∃ fd, FunD K d_is_name.name d_is_name.qual d_is_name.params d_is_name.body d_is_name.scope (d_is_name.dvs K) (d_is_name.kws K) (He.fAd K d_is_name.at_) fd := T.t.d.def_ 2 (d := d_is_name) rfl
theorem TX.qd_need_number {w : World} {K : PySem.W.Frag} {mg : Str → Option Value} (T : TX w K mg) : ∃ fd, FunD K d_need_number.name d_need_number.qual d_need_number.params d_need_number.body d_need_number.scope (d_need_number.dvs K) (d_need_number.kws K) (He.fAd K d_need_number.at_) fd := T.t.d.def_ 3 (d := d_need_number) rfl
theorem TX.qd_fixed {w : World} {K : PySem.W.Frag} {mg : Str → Option Value} (T : TX w K mg) : ∃ fd, FunD K d_fixed.name d_fixed.qual d_fixed.params d_fixed.body d_fixed.scope (d_fixed.dvs K) (d_fixed.kws K) (He.fAd K d_fixed.at_) fd := T.t.d.def_ 4 (d := d_fixed) rfl
theorem TX.qd_is_apart {w : World} {K : PySem.W.Frag} {mg : Str → Option Value} (T : TX w K mg) : ∃ fd, FunD K d_is_apart.name d_is_apart.qual d_is_apart.params d_is_apart.body d_is_apart.scope (d_is_apart.dvs K) (d_is_apart.kws K) (He.fAd K d_is_apart.at_) fd := T.t.d.def_ 5 (d := d_is_apart) rfl
theorem TX.qd_written {w : World} {K : PySem.W.Frag} {mg : Str → Option Value} (T : TX w K mg) : ∃ fd, FunD K d_written.name d_written.qual d_written.params d_written.body d_written.scope (d_written.dvs K) (d_written.kws K) (He.fAd K d_written.at_) fd := T.t.d.def_ 6 (d := d_written) rfl
theorem TX.qd_is_short {w : World} {K : PySem.W.Frag} {mg : Str → Option Value} (T : TX w K mg) : ∃ fd, FunD K d_is_short.name d_is_short.qual d_is_short.params d_is_short.body d_is_short.scope (d_is_short.dvs K) (d_is_short.kws K) (He.fAd K d_is_short.at_) fd := T.t.d.def_ 7 (d := d_is_short) rfl
theorem TX.qd_is_program {w : World} {K : PySem.W.Frag} {mg : Str → Option Value} (T : TX w K mg) : ∃ fd, FunD K d_is_program.name d_is_program.qual d_is_program.params d_is_program.body d_is_program.scope (d_is_program.dvs K) (d_is_program.kws K) (He.fAd K d_is_program.at_) fd := T.t.d.def_ 8 (d := d_is_program) rfl
theorem TX.qd_need_tongue {w : World} {K : PySem.W.Frag} {mg : Str → Option Value} (T : TX w K mg) : ∃ fd, FunD K d_need_tongue.name d_need_tongue.qual d_need_tongue.params d_need_tongue.body d_need_tongue.scope (d_need_tongue.dvs K) (d_need_tongue.kws K) (He.fAd K d_need_tongue.at_) fd := T.t.d.def_ 9 (d := d_need_tongue) rfl
theorem TX.qd_need_program {w : World} {K : PySem.W.Frag} {mg : Str → Option Value} (T : TX w K mg) : ∃ fd, FunD K d_need_program.name d_need_program.qual d_need_program.params d_need_program.body d_need_program.scope (d_need_program.dvs K) (d_need_program.kws K) (He.fAd K d_need_program.at_) fd := T.t.d.def_ 10 (d := d_need_program) rfl
theorem TX.qd_choices_of {w : World} {K : PySem.W.Frag} {mg : Str → Option Value} (T : TX w K mg) : ∃ fd, FunD K d_choices_of.name d_choices_of.qual d_choices_of.params d_choices_of.body d_choices_of.scope (d_choices_of.dvs K) (d_choices_of.kws K) (He.fAd K d_choices_of.at_) fd := T.t.d.def_ 11 (d := d_choices_of) rfl
theorem TX.qd_all_of {w : World} {K : PySem.W.Frag} {mg : Str → Option Value} (T : TX w K mg) : ∃ fd, FunD K d_all_of.name d_all_of.qual d_all_of.params d_all_of.body d_all_of.scope (d_all_of.dvs K) (d_all_of.kws K) (He.fAd K d_all_of.at_) fd := T.t.d.def_ 12 (d := d_all_of) rfl
theorem TX.qd_row_at {w : World} {K : PySem.W.Frag} {mg : Str → Option Value} (T : TX w K mg) : ∃ fd, FunD K d_row_at.name d_row_at.qual d_row_at.params d_row_at.body d_row_at.scope (d_row_at.dvs K) (d_row_at.kws K) (He.fAd K d_row_at.at_) fd := T.t.d.def_ 13 (d := d_row_at) rfl
theorem TX.qd_kinds_behind {w : World} {K : PySem.W.Frag} {mg : Str → Option Value} (T : TX w K mg) : ∃ fd, FunD K d_kinds_behind.name d_kinds_behind.qual d_kinds_behind.params d_kinds_behind.body d_kinds_behind.scope (d_kinds_behind.dvs K) (d_kinds_behind.kws K) (He.fAd K d_kinds_behind.at_) fd := T.t.d.def_ 14 (d := d_kinds_behind) rfl
theorem TX.qd_rest_of {w : World} {K : PySem.W.Frag} {mg : Str → Option Value} (T : TX w K mg) : ∃ fd, FunD K d_rest_of.name d_rest_of.qual d_rest_of.params d_rest_of.body d_rest_of.scope (d_rest_of.dvs K) (d_rest_of.kws K) (He.fAd K d_rest_of.at_) fd := T.t.d.def_ 15 (d := d_rest_of) rfl
theorem TX.qd_made_of {w : World} {K : PySem.W.Frag} {mg : Str → Option Value} (T : TX w K mg) : ∃ fd, FunD K d_made_of.name d_made_of.qual d_made_of.params d_made_of.body d_made_of.scope (d_made_of.dvs K) (d_made_of.kws K) (He.fAd K d_made_of.at_) fd := T.t.d.def_ 16 (d := d_made_of) rfl
theorem TX.qd_pile_behind {w : World} {K : PySem.W.Frag} {mg : Str → Option Value} (T : TX w K mg) : ∃ fd, FunD K d_pile_behind.name d_pile_behind.qual d_pile_behind.params d_pile_behind.body d_pile_behind.scope (d_pile_behind.dvs K) (d_pile_behind.kws K) (He.fAd K d_pile_behind.at_) fd := T.t.d.def_ 17 (d := d_pile_behind) rfl
theorem TX.qd_piles_along {w : World} {K : PySem.W.Frag} {mg : Str → Option Value} (T : TX w K mg) : ∃ fd, FunD K d_piles_along.name d_piles_along.qual d_piles_along.params d_piles_along.body d_piles_along.scope (d_piles_along.dvs K) (d_piles_along.kws K) (He.fAd K d_piles_along.at_) fd := T.t.d.def_ 18 (d := d_piles_along) rfl
theorem TX.qd_right_for {w : World} {K : PySem.W.Frag} {mg : Str → Option Value} (T : TX w K mg) : ∃ fd, FunD K d_right_for.name d_right_for.qual d_right_for.params d_right_for.body d_right_for.scope (d_right_for.dvs K) (d_right_for.kws K) (He.fAd K d_right_for.at_) fd := T.t.d.def_ 19 (d := d_right_for) rfl
theorem TX.qd_need_puzzle {w : World} {K : PySem.W.Frag} {mg : Str → Option Value} (T : TX w K mg) : ∃ fd, FunD K d_need_puzzle.name d_need_puzzle.qual d_need_puzzle.params d_need_puzzle.body d_need_puzzle.scope (d_need_puzzle.dvs K) (d_need_puzzle.kws K) (He.fAd K d_need_puzzle.at_) fd := T.t.d.def_ 20 (d := d_need_puzzle) rfl
theorem TX.qd_next_spot {w : World} {K : PySem.W.Frag} {mg : Str → Option Value} (T : TX w K mg) : ∃ fd, FunD K d_next_spot.name d_next_spot.qual d_next_spot.params d_next_spot.body d_next_spot.scope (d_next_spot.dvs K) (d_next_spot.kws K) (He.fAd K d_next_spot.at_) fd := T.t.d.def_ 21 (d := d_next_spot) rfl
theorem TX.qd_changed {w : World} {K : PySem.W.Frag} {mg : Str → Option Value} (T : TX w K mg) : ∃ fd, FunD K d_changed.name d_changed.qual d_changed.params d_changed.body d_changed.scope (d_changed.dvs K) (d_changed.kws K) (He.fAd K d_changed.at_) fd := T.t.d.def_ 22 (d := d_changed) rfl
theorem TX.qd_found_in {w : World} {K : PySem.W.Frag} {mg : Str → Option Value} (T : TX w K mg) : ∃ fd, FunD K d_found_in.name d_found_in.qual d_found_in.params d_found_in.body d_found_in.scope (d_found_in.dvs K) (d_found_in.kws K) (He.fAd K d_found_in.at_) fd := T.t.d.def_ 23 (d := d_found_in) rfl
theorem TX.qd_need_given {w : World} {K : PySem.W.Frag} {mg : Str → Option Value} (T : TX w K mg) : ∃ fd, FunD K d_need_given.name d_need_given.qual d_need_given.params d_need_given.body d_need_given.scope (d_need_given.dvs K) (d_need_given.kws K) (He.fAd K d_need_given.at_) fd := T.t.d.def_ 24 (d := d_need_given) rfl
theorem TX.qd_find {w : World} {K : PySem.W.Frag} {mg : Str → Option Value} (T : TX w K mg) : ∃ fd, FunD K d_find.name d_find.qual d_find.params d_find.body d_find.scope (d_find.dvs K) (d_find.kws K) (He.fAd K d_find.at_) fd := T.t.d.def_ 25 (d := d_find) rfl
theorem TX.qd_l_choir {w : World} {K : PySem.W.Frag} {mg : Str → Option Value} (T : TX w K mg) : ∃ fd, FunD K d_l_choir.name d_l_choir.qual d_l_choir.params d_l_choir.body d_l_choir.scope (d_l_choir.dvs K) (d_l_choir.kws K) (He.fAd K d_l_choir.at_) fd := T.t.d.def_ 26 (d := d_l_choir) rfl
theorem TX.qd_l_chant {w : World} {K : PySem.W.Frag} {mg : Str → Option Value} (T : TX w K mg) : ∃ fd, FunD K d_l_chant.name d_l_chant.qual d_l_chant.params d_l_chant.body d_l_chant.scope (d_l_chant.dvs K) (d_l_chant.kws K) (He.fAd K d_l_chant.at_) fd := T.t.d.def_ 27 (d := d_l_chant) rfl
theorem TX.qd_l_one {w : World} {K : PySem.W.Frag} {mg : Str → Option Value} (T : TX w K mg) : ∃ fd, FunD K d_l_one.name d_l_one.qual d_l_one.params d_l_one.body d_l_one.scope (d_l_one.dvs K) (d_l_one.kws K) (He.fAd K d_l_one.at_) fd := T.t.d.def_ 28 (d := d_l_one) rfl
theorem TX.qd_l_names {w : World} {K : PySem.W.Frag} {mg : Str → Option Value} (T : TX w K mg) : ∃ fd, FunD K d_l_names.name d_l_names.qual d_l_names.params d_l_names.body d_l_names.scope (d_l_names.dvs K) (d_l_names.kws K) (He.fAd K d_l_names.at_) fd := T.t.d.def_ 29 (d := d_l_names) rfl
theorem TX.qd_l_programs {w : World} {K : PySem.W.Frag} {mg : Str → Option Value} (T : TX w K mg) : ∃ fd, FunD K d_l_programs.name d_l_programs.qual d_l_programs.params d_l_programs.body d_l_programs.scope (d_l_programs.dvs K) (d_l_programs.kws K) (He.fAd K d_l_programs.at_) fd := T.t.d.def_ 30 (d := d_l_programs) rfl
theorem TX.qd_l_word {w : World} {K : PySem.W.Frag} {mg : Str → Option Value} (T : TX w K mg) : ∃ fd, FunD K d_l_word.name d_l_word.qual d_l_word.params d_l_word.body d_l_word.scope (d_l_word.dvs K) (d_l_word.kws K) (He.fAd K d_l_word.at_) fd := T.t.d.def_ 31 (d := d_l_word) rfl
theorem TX.qd_l_sayings {w : World} {K : PySem.W.Frag} {mg : Str → Option Value} (T : TX w K mg) : ∃ fd, FunD K d_l_sayings.name d_l_sayings.qual d_l_sayings.params d_l_sayings.body d_l_sayings.scope (d_l_sayings.dvs K) (d_l_sayings.kws K) (He.fAd K d_l_sayings.at_) fd := T.t.d.def_ 32 (d := d_l_sayings) rfl
theorem TX.qd_l_tick {w : World} {K : PySem.W.Frag} {mg : Str → Option Value} (T : TX w K mg) : ∃ fd, FunD K d_l_tick.name d_l_tick.qual d_l_tick.params d_l_tick.body d_l_tick.scope (d_l_tick.dvs K) (d_l_tick.kws K) (He.fAd K d_l_tick.at_) fd := T.t.d.def_ 33 (d := d_l_tick) rfl
theorem TX.qd_l_items {w : World} {K : PySem.W.Frag} {mg : Str → Option Value} (T : TX w K mg) : ∃ fd, FunD K d_l_items.name d_l_items.qual d_l_items.params d_l_items.body d_l_items.scope (d_l_items.dvs K) (d_l_items.kws K) (He.fAd K d_l_items.at_) fd := T.t.d.def_ 34 (d := d_l_items) rfl
theorem TX.qd_l_sought {w : World} {K : PySem.W.Frag} {mg : Str → Option Value} (T : TX w K mg) : ∃ fd, FunD K d_l_sought.name d_l_sought.qual d_l_sought.params d_l_sought.body d_l_sought.scope (d_l_sought.dvs K) (d_l_sought.kws K) (He.fAd K d_l_sought.at_) fd := T.t.d.def_ 35 (d := d_l_sought) rfl
theorem TX.qd_l_alike {w : World} {K : PySem.W.Frag} {mg : Str → Option Value} (T : TX w K mg) : ∃ fd, FunD K d_l_alike.name d_l_alike.qual d_l_alike.params d_l_alike.body d_l_alike.scope (d_l_alike.dvs K) (d_l_alike.kws K) (He.fAd K d_l_alike.at_) fd := T.t.d.def_ 36 (d := d_l_alike) rfl
theorem TX.qd_l_due {w : World} {K : PySem.W.Frag} {mg : Str → Option Value} (T : TX w K mg) : ∃ fd, FunD K d_l_due.name d_l_due.qual d_l_due.params d_l_due.body d_l_due.scope (d_l_due.dvs K) (d_l_due.kws K) (He.fAd K d_l_due.at_) fd := T.t.d.def_ 37 (d := d_l_due) rfl
theorem TX.qd_law {w : World} {K : PySem.W.Frag} {mg : Str → Option Value} (T : TX w K mg) : ∃ fd, FunD K d_law.name d_law.qual d_law.params d_law.body d_law.scope (d_law.dvs K) (d_law.kws K) (He.fAd K d_law.at_) fd := T.t.d.def_ 38 (d := d_law) rfl
theorem TX.qd_Scan_init {w : World} {K : PySem.W.Frag} {mg : Str → Option Value} (T : TX w K mg) : ∃ fd, FunD K d_Scan_init.name d_Scan_init.qual d_Scan_init.params d_Scan_init.body d_Scan_init.scope (d_Scan_init.dvs K) (d_Scan_init.kws K) (He.fAd K d_Scan_init.at_) fd := T.t.d.def_ 39 (d := d_Scan_init) rfl
theorem TX.qd_Scan_ahead {w : World} {K : PySem.W.Frag} {mg : Str → Option Value} (T : TX w K mg) : ∃ fd, FunD K d_Scan_ahead.name d_Scan_ahead.qual d_Scan_ahead.params d_Scan_ahead.body d_Scan_ahead.scope (d_Scan_ahead.dvs K) (d_Scan_ahead.kws K) (He.fAd K d_Scan_ahead.at_) fd := T.t.d.def_ 40 (d := d_Scan_ahead) rfl
theorem TX.qd_Scan_take {w : World} {K : PySem.W.Frag} {mg : Str → Option Value} (T : TX w K mg) : ∃ fd, FunD K d_Scan_take.name d_Scan_take.qual d_Scan_take.params d_Scan_take.body d_Scan_take.scope (d_Scan_take.dvs K) (d_Scan_take.kws K) (He.fAd K d_Scan_take.at_) fd := T.t.d.def_ 41 (d := d_Scan_take) rfl
theorem TX.qd_Tongue_init {w : World} {K : PySem.W.Frag} {mg : Str → Option Value} (T : TX w K mg) : ∃ fd, FunD K d_Tongue_init.name d_Tongue_init.qual d_Tongue_init.params d_Tongue_init.body d_Tongue_init.scope (d_Tongue_init.dvs K) (d_Tongue_init.kws K) (He.fAd K d_Tongue_init.at_) fd := T.t.d.def_ 42 (d := d_Tongue_init) rfl
theorem TX.qd_Puzzle_init {w : World} {K : PySem.W.Frag} {mg : Str → Option Value} (T : TX w K mg) : ∃ fd, FunD K d_Puzzle_init.name d_Puzzle_init.qual d_Puzzle_init.params d_Puzzle_init.body d_Puzzle_init.scope (d_Puzzle_init.dvs K) (d_Puzzle_init.kws K) (He.fAd K d_Puzzle_init.at_) fd := T.t.d.def_ 43 (d := d_Puzzle_init) rfl
theorem TX.qd_Run_init {w : World} {K : PySem.W.Frag} {mg : Str → Option Value} (T : TX w K mg) : ∃ fd, FunD K d_Run_init.name d_Run_init.qual d_Run_init.params d_Run_init.body d_Run_init.scope (d_Run_init.dvs K) (d_Run_init.kws K) (He.fAd K d_Run_init.at_) fd := T.t.d.def_ 44 (d := d_Run_init) rfl
theorem TX.qd_Run_advance {w : World} {K : PySem.W.Frag} {mg : Str → Option Value} (T : TX w K mg) : ∃ fd, FunD K d_Run_advance.name d_Run_advance.qual d_Run_advance.params d_Run_advance.body d_Run_advance.scope (d_Run_advance.dvs K) (d_Run_advance.kws K) (He.fAd K d_Run_advance.at_) fd := T.t.d.def_ 45 (d := d_Run_advance) rfl
theorem TX.qd_Trial_init {w : World} {K : PySem.W.Frag} {mg : Str → Option Value} (T : TX w K mg) : ∃ fd, FunD K d_Trial_init.name d_Trial_init.qual d_Trial_init.params d_Trial_init.body d_Trial_init.scope (d_Trial_init.dvs K) (d_Trial_init.kws K) (He.fAd K d_Trial_init.at_) fd := T.t.d.def_ 46 (d := d_Trial_init) rfl
theorem TX.qd_Trial_tried {w : World} {K : PySem.W.Frag} {mg : Str → Option Value} (T : TX w K mg) : ∃ fd, FunD K d_Trial_tried.name d_Trial_tried.qual d_Trial_tried.params d_Trial_tried.body d_Trial_tried.scope (d_Trial_tried.dvs K) (d_Trial_tried.kws K) (He.fAd K d_Trial_tried.at_) fd := T.t.d.def_ 47 (d := d_Trial_tried) rfl
theorem TX.qd_Throng_init {w : World} {K : PySem.W.Frag} {mg : Str → Option Value} (T : TX w K mg) : ∃ fd, FunD K d_Throng_init.name d_Throng_init.qual d_Throng_init.params d_Throng_init.body d_Throng_init.scope (d_Throng_init.dvs K) (d_Throng_init.kws K) (He.fAd K d_Throng_init.at_) fd := T.t.d.def_ 48 (d := d_Throng_init) rfl
theorem TX.qd_Throng_fill {w : World} {K : PySem.W.Frag} {mg : Str → Option Value} (T : TX w K mg) : ∃ fd, FunD K d_Throng_fill.name d_Throng_fill.qual d_Throng_fill.params d_Throng_fill.body d_Throng_fill.scope (d_Throng_fill.dvs K) (d_Throng_fill.kws K) (He.fAd K d_Throng_fill.at_) fd := T.t.d.def_ 49 (d := d_Throng_fill) rfl
theorem TX.qd_Throng_tried {w : World} {K : PySem.W.Frag} {mg : Str → Option Value} (T : TX w K mg) : ∃ fd, FunD K d_Throng_tried.name d_Throng_tried.qual d_Throng_tried.params d_Throng_tried.body d_Throng_tried.scope (d_Throng_tried.dvs K) (d_Throng_tried.kws K) (He.fAd K d_Throng_tried.at_) fd := T.t.d.def_ 50 (d := d_Throng_tried) rfl
theorem TX.qd_Paper_init {w : World} {K : PySem.W.Frag} {mg : Str → Option Value} (T : TX w K mg) : ∃ fd, FunD K d_Paper_init.name d_Paper_init.qual d_Paper_init.params d_Paper_init.body d_Paper_init.scope (d_Paper_init.dvs K) (d_Paper_init.kws K) (He.fAd K d_Paper_init.at_) fd := T.t.d.def_ 51 (d := d_Paper_init) rfl
end K53
end TK53A

section TK53Y
set_option maxHeartbeats 0
namespace K53H
open PySem PySem.W PySem.Calls PyProof.Rows
/-! ### the part of the heap that is looked at: few addresses, each forced once -/
def refA : Value → Addr
  | .ref a => a
  | _ => 0
def nsV (g : Addr → Option Obj) (d : Addr) (x : PySem.Str) : Addr := match g d with
  | some ⟨_, _, .dict es _, _⟩ => (match es.toList.find? (·.key.isStr x) with
    | some e => refA e.val
    | none => 0)
  | _ => 0
def gaG (g : Addr → Option Obj) (x : PySem.Str) : Addr := nsV g mainGlobals x
def nsG (g : Addr → Option Obj) (C : Addr) : Addr := match g C with
  | some ⟨_, _, .cls cd, _⟩ => cd.ns
  | _ => 0
def codG (g : Addr → Option Obj) (f : Addr) : List Addr := match g f with
  | some ⟨_, _, .func fd, _⟩ => refA fd.code :: refA fd.defaults :: fd.closure.map (·.2)
  | _ => []
def itG (g : Addr → Option Obj) (a : Addr) (i : Nat) : Addr := match g a with
  | some ⟨_, _, .seq its _, _⟩ => (match its.toList[i]? with
    | some v => refA v
    | none => 0)
  | _ => 0
def methsOf : List (PySem.Str × PySem.Str) := K53.metN ++ K53.clsN.map (fun c => (c, ("__init__" : PySem.Str)))
def funA (g : Addr → Option Obj) : List Addr := (K53.gloN ++ K53.gloN2).map (gaG g) ++ methsOf.map (fun p => nsV g (nsG g (gaG g p.1)) p.2)
def addrs (g : Addr → Option Obj) : List Addr :=
  funA g ++ (funA g).flatMap (codG g) ++ (K53.deedK.map (nsV g (gaG g "DEEDS")) ++ K53.deedK.map (fun x => itG g (nsV g (gaG g "DEEDS") x) 0)) ++
    (nsV g (nsG g (gaG g "Tongue")) "WORDS" :: (K53.gloC.map (gaG g) ++ K53.gloC.map (fun c => nsG g (gaG g c)))) ++ [cStatics, mainGlobals]
def frL {α : Type} : List Addr → List Addr → (List Addr → α) → α
  | [], acc, k => k acc
  | a :: r, acc, k => HandSHeadRun.frNat a fun a => frL r (a :: acc) k
def frK {α : Type} (g : Addr → Option Obj) : List Addr → PySem.W.Frag → (PySem.W.Frag → α) → α
  | [], acc, k => k acc
  | a :: r, acc, k => match g a with
    | some ⟨c, d, dt, sl⟩ => frK g r ((a, ⟨c, d, dt, sl⟩) :: acc) k
    | none => frK g r acc k
theorem frL_eq {α : Type} : ∀ (l acc : List Addr) (k : List Addr → α), frL l acc k = k (l.reverse ++ acc)
  | [], _, _ => rfl
  | a :: r, acc, k => by
    show HandSHeadRun.frNat a (fun a => frL r (a :: acc) k) = _
    rw [HandSHeadRun.frNat_eq, frL_eq r]
    simp
theorem frK_eq {α : Type} {g : Addr → Option Obj} : ∀ (l : List Addr) (acc : PySem.W.Frag) (k : PySem.W.Frag → α), frK g l acc k = k ((He.frG g l).reverse ++ acc)
  | [], _, _ => rfl
  | a :: r, acc, k => by
    unfold frK
    cases e : g a with
    | none =>
      show frK g r acc k = _
      rw [frK_eq r]
      unfold He.frG
      rw [List.filterMap_cons, e] <;> rfl
    | some o =>
      obtain ⟨c, d, dt, sl⟩ := o
      show frK g r ((a, ⟨c, d, dt, sl⟩) :: acc) k = _
      rw [frK_eq r]
      unfold He.frG
      rw [List.filterMap_cons, e]
      simp
abbrev KOf (g : Addr → Option Obj) : PySem.W.Frag := (He.frG g (addrs g).reverse).reverse
theorem KOf_in {h : Heap} : (KOf h.get?).In h := fun a o e => by
  have m := He.lookup_mem e
  exact He.frG_mem (List.mem_reverse.mp m)
abbrev AlY : Type := (He.AlT × Bool) × List K53.FnC
def obsY (g : Addr → Option Obj) : AlY := frL (addrs g) [] fun as => frK g as [] fun K => ((He.obsT K53.fa K53.fn K53.ts K, K53.ex K), K53.cs.map fun d => K53.fnC K d.at_)
theorem obsY_eq (g : Addr → Option Obj) : obsY g = ((He.obsT K53.fa K53.fn K53.ts (KOf g), K53.ex (KOf g)), K53.cs.map fun d => K53.fnC (KOf g) d.at_) := by
  unfold obsY
  rw [frL_eq, frK_eq]
  simp only [List.append_nil]
def hk : PySem.W.Hook where
  α := AlY
  obs := fun s => obsY s.heap.get?
  val := fun w => ((He.valT K53.fn K53.ts w, true), K53.cs.map K53.valC)
  says := fun w h => ∃ K : PySem.W.Frag, K.In h ∧ He.SaysT K53.fa K53.fn K53.ts w K ∧ K53.ex K = true ∧ K53.cs.map (fun d => K53.fnC K d.at_) = K53.cs.map K53.valC
  of := fun w s e => ⟨_, KOf_in, by
    rw [obsY_eq] at e
    exact ⟨congrArg (fun z : AlY => z.1.1) e, congrArg (fun z : AlY => z.1.2) e, congrArg (fun z : AlY => z.2) e⟩⟩
  keeps := fun _ _ _ ⟨K, hK, c⟩ k => ⟨K, PySem.W.Frag.In.keeps hK k, c⟩
abbrev R : OpenRow := OpenLaw.row PySem.Challenge.rw_duetickers_k53_whole_names_of_the_same_l
abbrev qv : Program := view R.prog [94]
def nm0 : List PySem.Str := ["_wall", "__name__", "TickError", "BadNumber", "BadTongue", "BadProgram", "BadPuzzle", "BadText", "SIGNS", "MOST_SIGNS", "is_integer", "is_within", "is_name", "need_number", "fixed", "Paper", "Denial", "is_apart", "BAR", "FIGURES", "MOST_FIGURES", "written", "Scan", "MOST_NAME", "Tongue", "is_short", "take_names", "WORDS", "SEVEN", "END_programs"]
def nm1 : List PySem.Str := ["MOST_WORDS_programs", "is_program", "need_tongue", "need_program", "choices_of", "all_of", "row_at", "MOST_ITEMS", "MOST_PILE", "MOST_NUMBER", "NUMBER", "TRUTH", "ANSWER", "GIVEN", "DEEDS", "kinds_behind", "rest_of", "made_of", "pile_behind", "piles_along", "right_for", "need_puzzle", "Puzzle", "MOST_BOX", "MOST_LEFT", "MOST_WORDS_runs", "END_runs", "Run", "next_spot", "changed"]
def nm2 : List PySem.Str := ["standing_of", "MOST_TICKS", "Found", "NotYet", "Trial", "Throng", "found_in", "need_given", "find", "_law_choir", "_law_chant", "_law_one", "_law_names", "_law_programs", "_law_word", "_law_part", "_law_trial", "_law_sayings", "_law_tick", "_law_items", "_law_sought", "_law_alike", "_law_due"]
def names : List PySem.Str := nm0 ++ (nm1 ++ (nm2))

def ob (s : PySem.W.SharedT) : AlY := obsY (HandSHeadRun.getT s)
theorem ob_eq (s : PySem.W.SharedT) : ob s = hk.obs s.abs := by
  have e : HandSHeadRun.getT s = s.abs.heap.get? := funext (HandSHeadRun.getT_eq s)
  unfold ob
  rw [e] <;> rfl
theorem runF (w : World) : HandSHeadRun.RunEq R qv hk ob 8000 names (w.withFollow "special-get-raises" false) := by
  intro os
  kernel_rfl
theorem runT (w : World) : HandSHeadRun.RunEq R qv hk ob 8000 names (w.withFollow "special-get-raises" true) := by
  intro os
  kernel_rfl
theorem run (w : World) : HandSHeadRun.RunEq R qv hk ob 8000 names w :=
  byRow2 "special-get-raises" (P := fun w => HandSHeadRun.RunEq R qv hk ob 8000 names w) runF runT w
end K53H
end TK53Y

section TK53C
set_option maxHeartbeats 4000000
namespace K53
open PySem PySem.Spec PyProof.Rows L2
end K53
namespace L2
open PySem PySem.Spec PyProof.Rows
/-! ### heaps -/
theorem Same.new {H : Hp} {p : Addr} {o : HO} (h : H p = none) : Same H (upd H p o) := fun b u e => by
  rw [upd_ne (ne_of_none e h)]
  exact e
theorem Same.new' {H H1 : Hp} {p : Addr} {o : HO} (s : Same H H1) (h : H1 p = none) : Same H (upd H1 p o) := s.trans (Same.new h)
/-- an object that was not tracked may change -/
theorem Same.mut {H H1 : Hp} {p : Addr} {o : HO} (s : Same H H1) (h : H p = none) : Same H (upd H1 p o) := fun b u e => by
  rw [upd_ne (ne_of_none e h)]
  exact s b u e
theorem Same.tup {K : PySem.W.Frag} {H H' : Hp} {a : Addr} {xs : List V} (e : Same H H') (h : SqT K H a xs) : SqT K H' a xs := by
  rcases h with (h | ⟨o, h⟩) | h
  · exact .inl (.inl (e _ _ h))
  · exact .inl (.inr ⟨o, e _ _ h⟩)
  · exact .inr h
/-- all but the object at p -/
def SameX (p : Addr) (H H' : Hp) : Prop := ∀ b o, b ≠ p → H b = some o → H' b = some o
theorem SameX.refl (p : Addr) (H : Hp) : SameX p H H := fun _ _ _ h => h
theorem SameX.trans {p : Addr} {H H1 H2 : Hp} (a : SameX p H H1) (b : SameX p H1 H2) : SameX p H H2 := fun c o n h => b c o n (a c o n h)
theorem Same.x {p : Addr} {H H' : Hp} (s : Same H H') : SameX p H H' := fun b o _ h => s b o h
theorem SameX.new {p q : Addr} {H : Hp} {o : HO} (h : H q = none) : SameX p H (upd H q o) := (Same.new h).x
theorem SameX.put {p : Addr} {H H1 : Hp} {o : HO} (s : SameX p H H1) : SameX p H (upd H1 p o) := fun b u n e => by
  rw [upd_ne n]
  exact s b u n e
theorem SameX.same {p : Addr} {H0 H H' : Hp} (a : Same H0 H) (n : H0 p = none) (b : SameX p H H') : Same H0 H' := fun c o h => b c o (ne_of_none h n) (a c o h)
end L2
namespace K53
open PySem PySem.Spec PyProof.Rows L2
theorem size24 {n : Nat} (h : n ≤ 16777216) : n ≤ sizeLine := Nat.le_trans h (by decide)
theorem size24' {n : Nat} (h : n < 16777216) : n < sizeLine := Nat.lt_of_lt_of_le h (by decide)
/-! ### comprehensions that leave what stands -/
theorem lc_sm {J : It} {n : Nat} {G : Hp → Prop} {Y : Nat → Hp → V → Hp → Prop} (w : Walk J n G Y) {g : TG} {tt : TT} {te : TE} {vs : List Nat} {σ : L2.St} {H1 : Hp} {D : Addr} {Qd : Hp → Prop} (hD : H1 D = none) (I : Nat → List V → Hp → Prop)
    (h0 : I 0 [] (upd H1 D (.lst []))) (hG : ∀ H, Same H1 H → G H) (hI : ∀ i acc H H', (∀ b o, b ≠ D → H b = some o → H' b = some o) → I i acc H → I i acc H') (hn : n ≤ 16777216)
    (hs : ∀ (i : Nat) (x : V) (acc : List V) (H H' : Hp) (R : VK) (R0 : Hp → Prop), i < n → Same H1 H → H D = some (.lst acc) → acc.length ≤ i → I i acc H → Y i H x H' → (∀ y H4, Same H H4 → I (i + 1) (acc ++ [y]) H4 → R y H4) → (∀ H3, Same H H3 → I (i + 1) acc H3 → R0 H3) →
      g x (wipe σ vs) H' fun σ2 H2 => wipe σ2 vs = wipe σ vs ∧ tt σ2 H2 fun b H3 => if b = true then te σ2 H3 R else R0 H3)
    (hd : ∀ acc H, Same H1 H → H D = some (.lst acc) → acc.length ≤ n → I n acc H → Qd H) :
    ∃ W : Nat → Nat → Hp → Prop, (∃ m, W 0 m (upd H1 D (.lst []))) ∧ ∀ i m H, W i m H →
      (J.stop i H ∧ Qd H) ∨ (J.go i H ∧ ∃ Nx : Hp → Prop, (∀ H', Nx H' → ∃ m', m' < m ∧ W (i + 1) m' H') ∧ ∀ x H', J.yld i H x H' → g x (wipe σ vs) H' fun σ2 H2 => wipe σ2 vs = wipe σ vs ∧ tt σ2 H2 fun b H3 =>
        if b = true then te σ2 H3 fun y H4 => ∃ acc, H4 D = some (.lst acc) ∧ acc.length < sizeLine ∧ Nx (upd H4 D (.lst (acc ++ [y]))) else Nx H3) := by
  refine lc_it w (fun i H => Same H1 H ∧ ∃ acc, H D = some (.lst acc) ∧ acc.length ≤ i ∧ I i acc H) ⟨Same.new hD, [], upd_same, Nat.le_refl _, h0⟩ (fun i H _ p => hG H p.1) ?_ ?_
  · rintro i x H H' hi ⟨s1, acc, hacc, hl, hI1⟩ y
    refine hs i x acc H H' _ _ hi s1 hacc hl hI1 y (fun z H4 s4 i4 => ?_) fun H3 s3 i3 => ?_
    · refine ⟨acc, s4 _ _ hacc, size24' (by omega), (Same.trans s1 s4).mut hD, _, upd_same, by rw [List.length_append, List.length_singleton]; omega, hI _ _ _ _ (fun b o nb e => ?_) i4⟩
      rw [upd_ne nb]
      exact e
    · exact ⟨s1.trans s3, acc, s3 _ _ hacc, by omega, i3⟩
  · rintro H ⟨s1, acc, hacc, hl, hI1⟩
    exact hd acc H s1 hacc hl hI1
/-- behind the target where nothing is tested -/
theorem tY {te : TE} {σ : L2.St} {H : Hp} {R : VK} {R0 : Hp → Prop} (h : te σ H R) : tYes σ H fun b H3 => if b = true then te σ H3 R else R0 H3 := by
  show if true = true then te σ H R else R0 H
  exact iteT h
/-! ### signs and names -/
def Sign (c : Nat) : Prop := c = 48 ∨ c = 49
/-- a text of 1 to 8 signs -/
def Nm (z : Str) : Prop := (∀ c ∈ z.cps.toList, Sign c) ∧ 1 ≤ z.length ∧ z.length ≤ 8
/-! ### rules with the written part told (within a comprehension) -/
section
variable {X : Cx} {K : PySem.W.Frag}
theorem op_in_seqK (hK : X.K = K := by rfl) : OpR X (compareOp .In) (rIn K false) := by
  subst hK
  exact op_in_seq
theorem op_notIn_seqK (hK : X.K = K := by rfl) : OpR X (compareOp .NotIn) (rIn K true) := by
  subst hK
  exact op_notIn_seq
theorem call_isiK (hK : X.K = K := by rfl) : CallR X (.builtin "isinstance") (rIsi K) := by
  subst hK
  exact call_isi
theorem call_isiTK (hK : X.K = K := by rfl) : CallR X (.builtin "isinstance") (rIsiT K) := by
  subst hK
  exact call_isiT
def rLenSeq (K : PySem.W.Frag) : List V → Hp → VK → Prop := fun xs H Q => ∃ p ys, xs = [.ref p] ∧ (SqL K H p ys ∨ SqT K H p ys) ∧ Q (.int ys.length) H
theorem call_len_seqK (hK : X.K = K := by rfl) : CallR X (.builtin "len") (rLenSeq K) := by
  subst hK
  exact call_len_seq
def rTupleOf (K : PySem.W.Frag) : List V → Hp → VK → Prop := fun xs H Q => ∃ p ys, xs = [.ref p] ∧ ((SqL K H p ys ∧ ∀ l, H l = none → Q (.ref l) (upd H l (.tup ys))) ∨ (SqT K H p ys ∧ Q (.ref p) H))
theorem call_tuple_ofK (hK : X.K = K := by rfl) : CallR X (.type "tuple") (rTupleOf K) := by
  subst hK
  exact call_tuple_of
def rListOf (K : PySem.W.Frag) : List V → Hp → VK → Prop := fun xs H Q => ∃ p ys, xs = [.ref p] ∧ (SqL K H p ys ∨ SqT K H p ys) ∧ ∀ l, H l = none → Q (.ref l) (upd H l (.lst ys))
theorem call_list_ofK (hK : X.K = K := by rfl) : CallR X (.type "list") (rListOf K) := by
  subst hK
  exact call_list_of
theorem cr_sumK (hc : X.calm = true) (hK : X.K = K := by rfl) : CallR X (.builtin "sum") (rSum K) := by
  subst hK
  exact cr_sum hc
theorem cr_allK (hc : X.calm = true) (hK : X.K = K := by rfl) : CallR X (.builtin "all") (rAll K) := by
  subst hK
  exact cr_all hc
theorem ix_listK (hK : X.K = K := by rfl) : IxR X (rIxL K) := by
  subst hK
  exact ix_list
theorem ix_tupK (hK : X.K = K := by rfl) : IxR X (rIxT K) := by
  subst hK
  exact ix_tup
theorem sl_listK (hK : X.K = K := by rfl) : SlR X (rSlL K) := by
  subst hK
  exact sl_list
theorem sl_tupAK (hK : X.K = K := by rfl) : SlR X (rSlA K) := by
  subst hK
  exact sl_tupA
theorem op_catAK (hK : X.K = K := by rfl) : OpR X (binaryOp .Add) (rCatA K) := by
  subst hK
  exact op_catA
variable {x c f : Str} {e o l : Expr} {es : List Expr} {pos tpos cpos apos p : Pos} {ta te to tl : TE} {t : TA} {k n : Nat} {ps : List Str} {sp : Sp} {dvs : List V} {tgs : TGs} {tg : Expr}
theorem pe_fldK (he : PE X e ta) (hb : attributeBase e f X.env (eval e X.env) = eval e X.env) (hK : X.K = K := by rfl) : PE X (.Attribute e f pos) (tFld K ta f) := by
  subst hK
  exact pe_fld he hb
theorem pg_tupK {kk : Nat} (hc : X.calm = true) (h : PGs X es tgs) (hn : (assignEach es X.env).length = n := by rfl) (hst : (assignEach es X.env).findIdx? (·.1) = none := by rfl) (hK : X.K = K := by rfl) : PG X (.Tuple es kk pos) (gTup K n tgs) := by
  subst hK
  exact pg_tup hc h hn hst
def rJoinK (K : PySem.W.Frag) : V → List V → Hp → VK → Prop := fun x xs H Q => ∃ a p, ∃ ys : List Str, x = .str a ∧ xs = [.ref p] ∧ (SqL K H p (ys.map V.str) ∨ SqT K H p (ys.map V.str)) ∧ (ys.map (·.length)).sum + ys.length * a.length ≤ 16777216 ∧ Q (.str (Txt.join a ys)) H
theorem pe_joinK (ho : PE X o to) (he : PE X e te) (hs : starEach [e] X.env = [(false, eval e X.env)] := by rfl) (hbase : attributeBase o "join" X.env (eval o X.env) = eval o X.env := by rfl) (hline : (apos.endLine == pos.line) = true := by rfl) (hK : X.K = K := by rfl) :
    PE X (.Call (.Attribute o "join" apos) [e] [] pos) (tM1 (rJoinK K) to te) := by
  subst hK
  exact pe_join ho he hs hbase hline
theorem mt_indexK (hK : X.K = K := by rfl) : MtR X "list.index" (rIndex K) := by
  subst hK
  exact mt_index
theorem pe_bmK {T id : String} {name : Str} {r : V → List V → Hp → VK → Prop} (pa : PlainAttrs T) (slot : Slot T name id) (hty : typeOf (.builtin id) = pure (.type "method_descriptor")) (hm : MtR X id r) (ho : PE X o to) (ha : PA X (e :: es) t)
    (hbase : attributeBase o name X.env (eval o X.env) = eval o X.env := by rfl)
    (hfew : ((backTo cpos (starEach (e :: es) X.env)).all (fun x => !x.1) && (backToKw cpos (keywordEach [] X.env)).all (fun x => x.1.isSome)
      && decide ((e :: es).length + ([] : List Keyword).length + (if ([] : List Keyword).isEmpty then 0 else 1) < 30)) = true := by rfl)
    (hline : (apos.endLine == cpos.line) = true := by rfl) (hs : starEach (e :: es) X.env = (false, eval e X.env) :: starEach es X.env := by rfl) (hplain : (backTo cpos (starEach es X.env)).any (·.1) = false := by rfl) (hK : X.K = K := by rfl) :
    PE X (.Call (.Attribute o name apos) (e :: es) [] cpos) (tBM K T r to t) := by
  subst hK
  exact pe_bm pa slot hty hm ho ha hbase hfew hline hs hplain
theorem pi_listK (hl : PE X l tl) (hK : X.K = K := by rfl) : PI X tg l (iList K tl) := by
  subst hK
  exact pi_list hl
theorem pe_kxK (M : Mk X.K (He.ga X.K x) (He.fAd X.K (x, some "__init__"))) (F : FnX X.prog X.w X.K X.mg X.base k (x, some "__init__") ps dvs sp) (hr : Room (k + 1) X.A) (hg : Gl X x) (hm : X.mg x = some (.ref (He.ga X.K x))) (ha : PA X (e :: es) t) (hdb : (x == ("__debug__" : Str)) = false := by decide)
    (he : starEach (e :: es) X.env = (false, eval e X.env) :: starEach es X.env := by rfl) (hpl : (backTo pos (starEach es X.env)).any (·.1) = false := by rfl) (hK : X.K = K := by rfl) : PE X (.Call (.Name x p) (e :: es) [] pos) (tMake (He.ga K x) sp dvs E0 t) := by
  subst hK
  exact pe_kx M F hr hg hm ha hdb he hpl
end
/-! ### isinstance of (list, tuple) -/
theorem lt_cls : Paired ClsV [V.ty "list", V.ty "tuple"] [Value.type "list", Value.type "tuple"] := .cons (.ty _) (.cons (.ty _) .nil)
theorem kit_lt_tup {K : PySem.W.Frag} : PySem.W.kitAny K (.type "tuple") [.type "list", .type "tuple"] = some true :=
  kitAny_cons (kit_ty (r := false) (by decide +kernel)) (fun _ => kitAny_cons (kit_ty (r := true) (by decide +kernel)) (fun q => by cases q) fun _ => rfl) fun q => by cases q
theorem kit_lt_list {K : PySem.W.Frag} : PySem.W.kitAny K (.type "list") [.type "list", .type "tuple"] = some true :=
  kitAny_cons (kit_ty (r := true) (by decide +kernel)) (fun q => by cases q) fun _ => rfl
theorem kit_lt_int {K : PySem.W.Frag} : PySem.W.kitAny K (.type "int") [.type "list", .type "tuple"] = some false :=
  kitAny_cons (kit_ty (r := false) (by decide +kernel)) (fun _ => kitAny_cons (kit_ty (r := false) (by decide +kernel)) (fun _ => kitAny_nil) fun q => by cases q) fun q => by cases q
theorem kit_lt_str {K : PySem.W.Frag} : PySem.W.kitAny K (.type "str") [.type "list", .type "tuple"] = some false :=
  kitAny_cons (kit_ty (r := false) (by decide +kernel)) (fun _ => kitAny_cons (kit_ty (r := false) (by decide +kernel)) (fun _ => kitAny_nil) fun q => by cases q) fun q => by cases q
theorem two_le : 2 ≤ sizeLine := by decide
/-! ### a list beside an empty one -/
theorem plain_is {h : Heap} {a : Addr} {its : Array Value} (p : PlainL h a its) : h.IsList a its := by
  obtain ⟨o, n, h1, h2, _, h4⟩ := p
  exact ⟨o, h1, h2, n, h4⟩
def rEq0 (K : PySem.W.Frag) (neg : Bool) : R2 := fun x y H Q => ∃ a b xs, x = .ref a ∧ y = .ref b ∧ SqL K H a xs ∧ H b = some (.lst []) ∧ Q (.bl (if neg = true then !xs.isEmpty else xs.isEmpty)) H
section
variable {X : Cx} {K : PySem.W.Frag}
theorem op_eq0 (hu : X.A.units < cLine) : OpR X (compareOp .Eq) (rEq0 X.K false) := by
  intro pins s σ H x y v u Q I rx ry h
  obtain ⟨a, b, xs, rfl, rfl, ha, hb, q⟩ := h
  obtain rfl : v = Value.ref a := rx
  obtain rfl : u = Value.ref b := ry
  obtain ⟨its, r1, l1, _⟩ := I.list ha
  obtain ⟨its2, r2, l2, _⟩ := I.list (SqL.of hb)
  cases r2
  cases xs with
  | nil =>
    cases r1
    exact SeqAt.RcAt.lists (e := fun _ => true) (plain_is l1) (plain_is l2) rfl hu (fun j h1 _ => absurd h1 (Nat.not_lt_zero j)) _ _ _ _ ⟨.bl true, H, I, rfl, q⟩
  | cons z zs =>
    cases r1 with
    | cons r t => exact SeqAt.RcAt.lists_lengths (plain_is l1) (plain_is l2) (by simp) hu _ _ _ _ ⟨.bl false, H, I, rfl, q⟩
theorem op_ne0 (hu : X.A.units < cLine) : OpR X (compareOp .NotEq) (rEq0 X.K true) := by
  intro pins s σ H x y v u Q I rx ry h
  obtain ⟨a, b, xs, rfl, rfl, ha, hb, q⟩ := h
  obtain rfl : v = Value.ref a := rx
  obtain rfl : u = Value.ref b := ry
  obtain ⟨its, r1, l1, _⟩ := I.list ha
  obtain ⟨its2, r2, l2, _⟩ := I.list (SqL.of hb)
  cases r2
  cases xs with
  | nil =>
    cases r1
    exact SeqAt.RcNeAt.lists (e := fun _ => true) (plain_is l1) (plain_is l2) rfl hu (fun j h1 _ => absurd h1 (Nat.not_lt_zero j)) _ _ _ _ ⟨.bl false, H, I, rfl, q⟩
  | cons z zs =>
    cases r1 with
    | cons r t => exact SeqAt.RcNeAt.lists_lengths (plain_is l1) (plain_is l2) (by simp) hu _ _ _ _ ⟨.bl true, H, I, rfl, q⟩
/-- an attribute as a target -/
def gFld (K : PySem.W.Frag) (to : TE) (f : Str) : TG := fun v σ H Q => to σ H fun x H1 => ∃ a C dx fs, x = .ref a ∧ H1 a = some (.ins C dx fs) ∧ Cls K C ∧ NoAttr K C f ∧ fs.length < 1000 ∧ Q σ (upd H1 a (.ins C dx (putF f v fs)))
theorem pg_fld {o : Expr} {f : Str} {pos : Pos} {to : TE} (ho : PE X o to) : PG X (.Attribute o f pos) (gFld X.K to f) := by
  refine ⟨fun pins s σ H v u Q I r h => ?_⟩
  refine PySem.W.kas_attr (thn (ho.run pins s σ H _ I h) fun ov s1 ⟨x, H1, I1, rx, a, C, dx, fs, ex, ea, c, n, l, q⟩ => ?_)
  subst ex
  obtain rfl : ov = Value.ref a := rx
  exact setattr_ok I1 ea c n l r fun s3 I3 => ⟨σ, _, I3, q⟩
end
/-- two ways of an expression that give the same value -/
theorem tif_join {c : Bool} {ta tb : TE} {σ : L2.St} {H : Hp} {Q : VK} (z : V) (h1 : c = true → ∀ Q' : VK, Q' z H → ta σ H Q') (h2 : c = false → ∀ Q' : VK, Q' z H → tb σ H Q') (h : Q z H) : if c = true then ta σ H Q else tb σ H Q := by
  cases c with
  | true => exact iteT (h1 rfl Q h)
  | false => exact iteF (h2 rfl Q h)
/-- two ways of statements that go on at the same place -/
theorem ts_join {c : Bool} {t u : TS} {D : Ends} {σ : L2.St} {H : Hp} (h1 : c = true → t D σ H) (h2 : c = false → u D σ H) : if c = true then t D σ H else u D σ H := by
  cases c with
  | true => exact iteT (h1 rfl)
  | false => exact iteF (h2 rfl)
/-- x and y, x or y whose value is known -/
theorem tand_join {c : Bool} {tb : TE} {σ : L2.St} {H : Hp} {Q : VK} (b : Bool) (h1 : c = true → ∀ Q' : VK, Q' (.bl b) H → tb σ H Q') (h2 : c = false → b = false) (h : Q (.bl b) H) : if c = true then tb σ H Q else Q (.bl false) H := by
  cases c with
  | true => exact iteT (h1 rfl Q h)
  | false =>
    rw [h2 rfl] at h
    exact iteF h
theorem tor_join {c : Bool} {tb : TE} {σ : L2.St} {H : Hp} {Q : VK} (b : Bool) (h1 : c = false → ∀ Q' : VK, Q' (.bl b) H → tb σ H Q') (h2 : c = true → b = true) (h : Q (.bl b) H) : if c = true then Q (.bl true) H else tb σ H Q := by
  cases c with
  | false => exact iteF (h1 rfl Q h)
  | true =>
    rw [h2 rfl] at h
    exact iteT h
end K53
end TK53C

section TK53P
set_option maxHeartbeats 4000000
namespace PySem
open Sem (wp)
section
variable {prog : Program} {w : World} {A : Around} {E : Value → Shared → Prop} {s : Shared}
theorem zt_zip_next_item_held {z TI TO T i1 i2 l1 l2 : Addr} {f : Bool} {oT : Obj} {k1 k2 : Nat} {xs ys : Array Value} {x y : Value} {Q : Value → Shared → Prop} (D : ZipApart z TI TO i1 i2 l1 l2)
    (hz : IsZipHeld s.heap z TI TO T f) (hT : s.heap.get? T = some oT) (hTI : IsPair s.heap TI (.ref i1) (.ref i2))
    (h1 : s.heap.IsTupleIter i1 l1 k1) (h2 : s.heap.IsTupleIter i2 l2 k2) (hl1 : s.heap.IsTuple l1 xs) (hl2 : s.heap.IsTuple l2 ys) (hx : xs[k1]? = some x) (hy : ys[k2]? = some y)
    (hQ : ∀ h', IsZipHeld h' z TI TO T true → h'.IsTupleIter i1 l1 (k1 + 1) → h'.IsTupleIter i2 l2 (k2 + 1) → IsPair h' s.heap.objs.size x y → h'.objs.size = s.heap.objs.size + 1 →
      (∀ c o, c ≠ z → c ≠ i1 → c ≠ i2 → s.heap.get? c = some o → h'.get? c = some o) → Q (.ref s.heap.objs.size) { s with heap := h' }) :
    wpAny (model prog w) A (Builtin.«zip.__next__» ⟨[.ref z], []⟩) (fun fin s' => ∃ v, fin = .done (.ret v) ∧ Q v s') E s := by
  show wpAny _ _ (field (.ref z) 2 >>= _) _ _ _
  refine wpAny_bind (wpAny_field hz rfl (x := .bool false) rfl ?_)
  show wpAny _ _ (field (.ref z) 3 >>= _) _ _ _
  refine wpAny_bind (wpAny_field hz rfl (x := .ref TI) rfl ?_)
  refine wpAny_bind (wpAny_seqItems hTI rfl ?_)
  show wpAny _ _ (Builtin.SmallTypes.ownedTupleIsFree (.ref z) >>= _) _ _ _
  refine wpAny_bind (wpAny_tupleHeld_zip hz hT fun h₁ hz₁ hs₁ => ?_)
  simp only [Bool.false_eq_true, if_false]
  refine wpAny_bind ?_
  rw [← Array.forIn_toList]
  simp only [List.forIn_cons, List.forIn_nil]
  refine wpAny_bind (wpAny_bind (wpAny_holding ?_))
  show wpAny _ _ (Builtin.SmallTypes.nextOf (.ref i1) >>= _) _ _ _
  refine wpAny_bind (RZ.nextOf_tuple_item (s := { s with heap := h₁ }) (h1.extBut hs₁.extBut D.i1z) (hl1.extBut hs₁.extBut D.l1z) hx fun h₂ h1₂ hs₂ => wpAny_pure ?_)
  refine wpAny_pure ?_
  refine wpAny_bind (wpAny_bind (wpAny_holding ?_))
  show wpAny _ _ (Builtin.SmallTypes.nextOf (.ref i2) >>= _) _ _ _
  refine wpAny_bind (RZ.nextOf_tuple_item (s := { s with heap := h₂ }) ((h2.extBut hs₁.extBut D.i2z).extBut hs₂.extBut D.i12.symm) ((hl2.extBut hs₁.extBut D.l2z).extBut hs₂.extBut D.l2i1) hy fun h₃ h2₃ hs₃ => wpAny_pure ?_)
  refine wpAny_pure (wpAny_pure ?_)
  show wpAny _ _ (newTuple [x, y] >>= _) _ _ _
  refine wpAny_bind (wpAny_newTuple ?_)
  have hsz : h₃.objs.size = s.heap.objs.size := by rw [hs₃.1, hs₂.1, hs₁.1]
  have hz₃ : IsZipHeld h₃ z TI TO T true := hs₃.extBut _ _ D.i2z.symm (hs₂.extBut _ _ D.i1z.symm hz₁)
  have hk : ∀ c o, c ≠ z → c ≠ i1 → c ≠ i2 → s.heap.get? c = some o → h₃.get? c = some o := fun c o c1 c2 c3 e => hs₃.extBut _ _ c3 (hs₂.extBut _ _ c2 (hs₁.extBut _ _ c1 e))
  have h1₃ : h₃.IsTupleIter i1 l1 (k1 + 1) := h1₂.extBut hs₃.extBut D.i12
  refine wpAny_pure ⟨_, rfl, ?_⟩
  show Q (.ref h₃.objs.size) _
  have hp : IsPair (h₃.push { cls := .type "tuple", data := .seq #[x, y] }) h₃.objs.size x y := Heap.get?_push_size _ rfl
  have hz4 : (h₃.push { cls := .type "tuple", data := .seq #[x, y] }).objs.size = h₃.objs.size + 1 := Heap.size_push ..
  rw [hsz] at hp hz4 ⊢
  exact hQ _ (Heap.get?_push_of_some _ hz₃) (h1₃.at fun o e => Heap.get?_push_of_some _ e) (h2₃.at fun o e => Heap.get?_push_of_some _ e) hp hz4 fun c o c1 c2 c3 e => Heap.get?_push_of_some _ (hk c o c1 c2 c3 e)

theorem zt_zip_next_end_held {z TI TO T i1 i2 l1 l2 : Addr} {f : Bool} {oT : Obj} {k1 k2 : Nat} {xs ys : Array Value} {Q : Fin → Shared → Prop} (hh : A.handled = none) (D : ZipApart z TI TO i1 i2 l1 l2)
    (hz : IsZipHeld s.heap z TI TO T f) (hT : s.heap.get? T = some oT) (hTI : IsPair s.heap TI (.ref i1) (.ref i2))
    (h1 : s.heap.IsTupleIter i1 l1 k1) (h2 : s.heap.IsTupleIter i2 l2 k2) (hl1 : s.heap.IsTuple l1 xs) (hl2 : s.heap.IsTuple l2 ys) (hend : xs[k1]? = none ∨ ys[k2]? = none)
    (hE : ∀ h' e, (∀ c o, c ≠ z → c ≠ i1 → c ≠ i2 → s.heap.get? c = some o → h'.get? c = some o) → (∃ o, h'.get? e = some o ∧ o.cls = .type "StopIteration") → E (.ref e) { s with heap := h' }) :
    wpAny (model prog w) A (Builtin.«zip.__next__» ⟨[.ref z], []⟩) Q E s := by
  show wpAny _ _ (field (.ref z) 2 >>= _) _ _ _
  refine wpAny_bind (wpAny_field hz rfl (x := .bool false) rfl ?_)
  show wpAny _ _ (field (.ref z) 3 >>= _) _ _ _
  refine wpAny_bind (wpAny_field hz rfl (x := .ref TI) rfl ?_)
  refine wpAny_bind (wpAny_seqItems hTI rfl ?_)
  show wpAny _ _ (Builtin.SmallTypes.ownedTupleIsFree (.ref z) >>= _) _ _ _
  refine wpAny_bind (wpAny_tupleHeld_zip hz hT fun h₁ hz₁ hs₁ => ?_)
  simp only [Bool.false_eq_true, if_false]
  refine wpAny_bind ?_
  rw [← Array.forIn_toList]
  simp only [List.forIn_cons, List.forIn_nil]
  refine wpAny_bind (wpAny_bind (wpAny_holding ?_))
  show wpAny _ _ (Builtin.SmallTypes.nextOf (.ref i1) >>= _) _ _ _
  cases hx : xs[k1]? with
  | none =>
    refine wpAny_bind (RZ.nextOf_tuple_end (s := { s with heap := h₁ }) hh (h1.extBut hs₁.extBut D.i1z) (hl1.extBut hs₁.extBut D.l1z) hx fun h₂ e hs₂ he => ?_)
    exact hE h₂ e (fun c o c1 c2 _ x => hs₂ _ _ c2 (hs₁.extBut _ _ c1 x)) he
  | some x =>
    have hy : ys[k2]? = none := by rcases hend with h | h; rw [hx] at h; cases h; exact h
    refine wpAny_bind (RZ.nextOf_tuple_item (s := { s with heap := h₁ }) (h1.extBut hs₁.extBut D.i1z) (hl1.extBut hs₁.extBut D.l1z) hx fun h₂ h1₂ hs₂ => wpAny_pure ?_)
    refine wpAny_pure ?_
    refine wpAny_bind (wpAny_bind (wpAny_holding ?_))
    show wpAny _ _ (Builtin.SmallTypes.nextOf (.ref i2) >>= _) _ _ _
    refine wpAny_bind (RZ.nextOf_tuple_end (s := { s with heap := h₂ }) hh ((h2.extBut hs₁.extBut D.i2z).extBut hs₂.extBut D.i12.symm) ((hl2.extBut hs₁.extBut D.l2z).extBut hs₂.extBut D.l2i1) hy fun h₃ e hs₃ he => ?_)
    exact hE h₃ e (fun c o c1 c2 c3 x => hs₃ _ _ c3 (hs₂.extBut _ _ c2 (hs₁.extBut _ _ c1 x))) he

theorem zt_pyNext_zip_item_held {z TI TO T i1 i2 l1 l2 : Addr} {f : Bool} {oT : Obj} {k1 k2 : Nat} {xs ys : Array Value} {x y : Value} {Q : Option Value → Shared → Prop} (D : ZipApart z TI TO i1 i2 l1 l2)
    (hz : IsZipHeld s.heap z TI TO T f) (hT : s.heap.get? T = some oT) (hTI : IsPair s.heap TI (.ref i1) (.ref i2))
    (h1 : s.heap.IsTupleIter i1 l1 k1) (h2 : s.heap.IsTupleIter i2 l2 k2) (hl1 : s.heap.IsTuple l1 xs) (hl2 : s.heap.IsTuple l2 ys) (hx : xs[k1]? = some x) (hy : ys[k2]? = some y)
    (hQ : ∀ h', IsZipHeld h' z TI TO T true → h'.IsTupleIter i1 l1 (k1 + 1) → h'.IsTupleIter i2 l2 (k2 + 1) → IsPair h' s.heap.objs.size x y → h'.objs.size = s.heap.objs.size + 1 →
      (∀ c o, c ≠ z → c ≠ i1 → c ≠ i2 → s.heap.get? c = some o → h'.get? c = some o) → Q (some (.ref s.heap.objs.size)) { s with heap := h' }) :
    wpAny (model prog w) A (pyNext (.ref z)) Q E s := by
  have hTy : s.TypeIs (.ref z) "zip" := ⟨_, hz, rfl⟩
  unfold pyNext
  exact wpAny_bind (wpAny_attempt (wpAny_callSpecial?_slot (name := Str.ofString "__next__") hTy F.slot_zip_next
    (wpAny_call_entry F.slot_zip_next hTy F.entry_zip_next
      (zt_zip_next_item_held D hz hT hTI h1 h2 hl1 hl2 hx hy fun h' a1 a3 a4 a5 a6 a7 => wpAny_pure (hQ h' a1 a3 a4 a5 a6 a7)) (F.args_zip_next_1 _))))
theorem zt_pyNext_zip_end_held {z TI TO T i1 i2 l1 l2 : Addr} {f : Bool} {oT : Obj} {k1 k2 : Nat} {xs ys : Array Value} {Q : Option Value → Shared → Prop} (hh : A.handled = none) (D : ZipApart z TI TO i1 i2 l1 l2)
    (hz : IsZipHeld s.heap z TI TO T f) (hT : s.heap.get? T = some oT) (hTI : IsPair s.heap TI (.ref i1) (.ref i2))
    (h1 : s.heap.IsTupleIter i1 l1 k1) (h2 : s.heap.IsTupleIter i2 l2 k2) (hl1 : s.heap.IsTuple l1 xs) (hl2 : s.heap.IsTuple l2 ys) (hend : xs[k1]? = none ∨ ys[k2]? = none)
    (hQ : ∀ h', (∀ c o, c ≠ z → c ≠ i1 → c ≠ i2 → s.heap.get? c = some o → h'.get? c = some o) → Q none { s with heap := h' }) : wpAny (model prog w) A (pyNext (.ref z)) Q E s := by
  have hTy : s.TypeIs (.ref z) "zip" := ⟨_, hz, rfl⟩
  unfold pyNext
  refine wpAny_bind (wpAny_attempt (wpAny_callSpecial?_slot (name := Str.ofString "__next__") hTy F.slot_zip_next
    (wpAny_call_entry F.slot_zip_next hTy F.entry_zip_next (zt_zip_next_end_held hh D hz hT hTI h1 h2 hl1 hl2 hend fun h' e hk he => ?_) (F.args_zip_next_1 _))))
  obtain ⟨o, ho, hc⟩ := he
  refine wpAny_bind (wpAny_isInstance (T := "StopIteration") (b := true) ⟨o, ho, hc⟩ isSubtype_stop ?_)
  exact wpAny_pure (hQ _ hk)

end
end PySem
namespace ZT
open PySem PySem.W PySem.Calls PyProof.Rows PySem.Spec L2
theorem nolen_zip : typeLookup (.type "zip") "__len__" = pure none := am_miss_of_fast (by decide +kernel)
theorem nohint_zip : typeLookup (.type "zip") "__length_hint__" = pure none := am_miss_of_fast (by decide +kernel)
/-- the zip between two items, its tuple held by what S stands for -/
structure ZSt (h : Heap) (z TI TO i1 i2 l1 l2 S : Addr) (i : Nat) (xs ys : Array Value) : Prop where
  ti : IsPair h TI (.ref i1) (.ref i2)
  a : h.IsTupleIter i1 l1 i
  b : h.IsTupleIter i2 l2 i
  la : h.IsTuple l1 xs
  lb : h.IsTuple l2 ys
  z : (IsZip h z TI TO .none ∧ ∃ a b, IsPair h TO a b) ∨ ∃ T f oT, IsZipHeld h z TI TO T f ∧ h.get? T = some oT ∧ T ≠ z ∧ T ≠ i1 ∧ T ≠ i2 ∧ T ≠ S
structure Below (S z TI TO i1 i2 l1 l2 : Addr) : Prop where
  z : z < S
  ti : TI < S
  to : TO < S
  i1 : i1 < S
  i2 : i2 < S
  l1 : l1 < S
  l2 : l2 < S
theorem ZSt.keep {h h' : Heap} {z TI TO i1 i2 l1 l2 S : Addr} {i : Nat} {xs ys : Array Value} (B : Below S z TI TO i1 i2 l1 l2) (st : ZSt h z TI TO i1 i2 l1 l2 S i xs ys) (k : ∀ b o, b ≠ S → h.get? b = some o → h'.get? b = some o) : ZSt h' z TI TO i1 i2 l1 l2 S i xs ys := by
  have n : ∀ {b}, b < S → b ≠ S := fun h => Nat.ne_of_lt h
  refine ⟨k _ _ (n B.ti) st.ti, st.a.at fun o e => k _ o (n B.i1) e, st.b.at fun o e => k _ o (n B.i2) e, st.la.at fun o e => k _ o (n B.l1) e, st.lb.at fun o e => k _ o (n B.l2) e, ?_⟩
  rcases st.z with ⟨hz, a, b, hTO⟩ | ⟨T, f, oT, hz, hT, r1, r2, r3, r4⟩
  · exact .inl ⟨k _ _ (n B.z) hz, a, b, k _ _ (n B.to) hTO⟩
  · exact .inr ⟨T, f, oT, k _ _ (n B.z) hz, k _ _ r4 hT, r1, r2, r3, r4⟩
structure MadeZ (xs ys : Array Value) (lo : Addr) (h : Heap) (as : List Addr) : Prop where
  rise : as.Pairwise (· < ·)
  above : ∀ a ∈ as, lo < a
  pairs : ∀ (j : Nat) (a : Addr), as[j]? = some a → ∃ x y, xs[j]? = some x ∧ ys[j]? = some y ∧ IsPair h a x y
theorem MadeZ.there {xs ys : Array Value} {lo : Addr} {h : Heap} {as : List Addr} (g : MadeZ xs ys lo h as) {a : Addr} (ha : a ∈ as) : a < h.objs.size := by
  obtain ⟨j, hj⟩ := List.mem_iff_getElem?.mp ha
  obtain ⟨_, _, _, _, e⟩ := g.pairs j a hj
  exact Heap.lt_size e
section
variable {prog : Program} {w : World} {A : Around} {s : Shared} {E : Value → Shared → Prop} {z TI TO i1 i2 l1 l2 S : Addr} {i : Nat} {xs ys : Array Value}
theorem nxtZ {Q : Option Value → Shared → Prop} (D : ZipApart z TI TO i1 i2 l1 l2) (B : Below S z TI TO i1 i2 l1 l2) (hS : S < s.heap.objs.size) (st : ZSt s.heap z TI TO i1 i2 l1 l2 S i xs ys) (hx : i < xs.size) (hy : i < ys.size)
    (hQ : ∀ h', ZSt h' z TI TO i1 i2 l1 l2 S (i + 1) xs ys → IsPair h' s.heap.objs.size xs[i] ys[i] → (∀ c o, c ≠ z → c ≠ TO → c ≠ i1 → c ≠ i2 → s.heap.get? c = some o → h'.get? c = some o) → Q (some (.ref s.heap.objs.size)) { s with heap := h' }) :
    wpAny (model prog w) A (pyNext (.ref z)) Q E s := by
  have ex := Array.getElem?_eq_getElem hx
  have ey := Array.getElem?_eq_getElem hy
  have lt : ∀ {c o}, s.heap.get? c = some o → s.heap.objs.size ≠ c := fun e => Nat.ne_of_gt (Heap.lt_size e)
  have n1 : s.heap.objs.size ≠ i1 := let ⟨_, e, _⟩ := st.a; lt e
  have n2 : s.heap.objs.size ≠ i2 := let ⟨_, e, _⟩ := st.b; lt e
  have nS : s.heap.objs.size ≠ S := Nat.ne_of_gt hS
  rcases st.z with ⟨hz, a, b, hTO⟩ | ⟨T, f, oT, hz, hT, r1, r2, r3, r4⟩
  · refine RZ.pyNext_zipT_item D hz st.ti hTO st.a st.b st.la st.lb ex ey fun h' a1 a2 a3 a4 a5 a6 hk => ?_
    exact hQ h' ⟨hk _ _ D.TIz D.TITO D.TIi1 D.TIi2 st.ti, a3, a4, st.la.at fun o e => hk _ o D.l1z D.l1TO D.l1i1 D.l1i2 e, st.lb.at fun o e => hk _ o D.l2z D.l2TO D.l2i1 D.l2i2 e,
      .inr ⟨s.heap.objs.size, false, _, a1, a5, lt hz, n1, n2, nS⟩⟩ a5 hk
  · refine zt_pyNext_zip_item_held D hz hT st.ti st.a st.b st.la st.lb ex ey fun h' a1 a3 a4 a5 a6 hk => ?_
    exact hQ h' ⟨hk _ _ D.TIz D.TIi1 D.TIi2 st.ti, a3, a4, st.la.at fun o e => hk _ o D.l1z D.l1i1 D.l1i2 e, st.lb.at fun o e => hk _ o D.l2z D.l2i1 D.l2i2 e,
      .inr ⟨T, true, oT, a1, hk _ _ r1 r2 r3 hT, r1, r2, r3, r4⟩⟩ a5 fun c o c1 _ c3 c4 e => hk c o c1 c3 c4 e
theorem finZ {Q : Option Value → Shared → Prop} (hh : A.handled = none) (D : ZipApart z TI TO i1 i2 l1 l2) (st : ZSt s.heap z TI TO i1 i2 l1 l2 S i xs ys) (hx : xs.size ≤ i)
    (hQ : ∀ h', (∀ c o, c ≠ z → c ≠ TO → c ≠ i1 → c ≠ i2 → s.heap.get? c = some o → h'.get? c = some o) → Q none { s with heap := h' }) :
    wpAny (model prog w) A (pyNext (.ref z)) Q E s := by
  have hend : xs[i]? = none ∨ ys[i]? = none := .inl (Array.getElem?_eq_none hx)
  rcases st.z with ⟨hz, a, b, hTO⟩ | ⟨T, f, oT, hz, hT, r1, r2, r3, r4⟩
  · exact RZ.pyNext_zipT_end hh D hz st.ti hTO st.a st.b st.la st.lb hend fun h' hk => hQ h' hk
  · exact zt_pyNext_zip_end_held hh D hz hT st.ti st.a st.b st.la st.lb hend fun h' hk => hQ h' fun c o c1 _ c3 c4 e => hk c o c1 c3 c4 e
theorem loopZ {R : Result → Shared → Prop} (hh : A.handled = none) (D : ZipApart z TI TO i1 i2 l1 l2) (B : Below S z TI TO i1 i2 l1 l2) (hxy : xs.size = ys.size) (hn : xs.size ≤ sizeLine) (res : Value) {h₁ : Heap}
    (hR : ∀ h' tk acc c as, (∀ b o, b ≠ S → b ≠ z → b ≠ TO → b ≠ i1 → b ≠ i2 → h₁.get? b = some o → h'.get? b = some o) → h'.get? S = some { cls := .type "list", dict := none, data := .seq acc c, slots := #[] } → as.length = xs.size → MadeZ xs ys S h' as →
      acc.toList = as.map Value.ref → R (.ok (.ret res)) { s with heap := h', toks := tk }) :
    ∀ (k i : Nat) (h : Heap) (tk c : Nat) (acc : Array Value) (as : List Addr), xs.size - i = k → i ≤ xs.size → ZSt h z TI TO i1 i2 l1 l2 S i xs ys → (∀ b o, b ≠ S → b ≠ z → b ≠ TO → b ≠ i1 → b ≠ i2 → h₁.get? b = some o → h.get? b = some o) →
      h.get? S = some { cls := .type "list", dict := none, data := .seq acc c, slots := #[] } → acc.toList = as.map Value.ref → as.length = i → MadeZ xs ys S h as →
      codeAny (model prog w) A (.builtin "list.extend.loop" ⟨[.ref S, .ref z, res], []⟩) R { s with heap := h, toks := tk } := by
  have n : ∀ {b}, b < S → S ≠ b := fun h => Nat.ne_of_gt h
  intro k
  induction k with
  | zero =>
    intro i h tk c acc as hk hi hst hkeep hS hacc hal hG
    refine codeAny_builtin PySem.F.entry_extend_loop ?_
    rw [Around.under_plainId PySem.F.plain_extend_loop _]
    show wpAny _ A.in1 (pyNext (.ref z) >>= _) _ _ _
    refine wpAny_bind (finZ (s := { s with heap := h, toks := tk }) (A := A.in1) hh D hst (by omega) fun h' he => ?_)
    refine wpAny_pure (hR h' tk acc c as (fun b o b0 b1 b2 b3 b4 e => he b o b1 b2 b3 b4 (hkeep b o b0 b1 b2 b3 b4 e)) (he S _ (n B.z) (n B.to) (n B.i1) (n B.i2) hS) (by omega) ⟨hG.rise, hG.above, fun j a hj => ?_⟩ hacc)
    obtain ⟨x, y, e1, e2, e3⟩ := hG.pairs j a hj
    have hb := hG.above a (List.mem_of_getElem? hj)
    exact ⟨x, y, e1, e2, he a _ (Nat.ne_of_gt (Nat.lt_trans B.z hb)) (Nat.ne_of_gt (Nat.lt_trans B.to hb)) (Nat.ne_of_gt (Nat.lt_trans B.i1 hb)) (Nat.ne_of_gt (Nat.lt_trans B.i2 hb)) e3⟩
  | succ k ih =>
    intro i h tk c acc as hk hi hst hkeep hS hacc hal hG
    have hlt : i < xs.size := by omega
    have hsz : acc.size = i := by rw [← Array.length_toList, hacc, List.length_map, hal]
    refine codeAny_builtin PySem.F.entry_extend_loop ?_
    rw [Around.under_plainId PySem.F.plain_extend_loop _]
    show wpAny _ A.in1 (pyNext (.ref z) >>= _) _ _ _
    refine wpAny_bind (nxtZ (s := { s with heap := h, toks := tk }) (S := S) D B (Heap.lt_size hS) hst hlt (by omega) fun h' hst' ht hkp => ?_)
    dsimp only at ht hkp ⊢
    have hS' := hkp S _ (n B.z) (n B.to) (n B.i1) (n B.i2) hS
    have up : ∀ b o, b ≠ S → h'.get? b = some o → (h'.update S (Obj.mapSeq (·.push (Value.ref h.objs.size)))).get? b = some o := fun b o hb e => (Heap.get?_update_other _ _ (Ne.symm hb)).trans e
    have hSl : S < h.objs.size := Heap.lt_size hS
    show wpAny _ A.in1 (updateSeq S (·.push (Value.ref h.objs.size)) >>= _) _ _ _
    refine wpAny_bind ?_
    refine wpAny_updateSeq hS' rfl (wpAny_pure ⟨plainId_quiet PySem.F.plain_extend_loop _, ih (i + 1) _ tk _ (acc.push (Value.ref h.objs.size)) (as ++ [h.objs.size]) (by omega) hlt (hst'.keep B up)
      (fun b o b0 b1 b2 b3 b4 e => up b o b0 (hkp b o b1 b2 b3 b4 (hkeep b o b0 b1 b2 b3 b4 e))) (Heap.get?_update_self _ hS' rfl) (by rw [Array.toList_push, hacc, List.map_append]; rfl) (by rw [List.length_append, hal]; rfl) ⟨?_, ?_, ?_⟩⟩) (by rw [hsz]; omega) (by show (acc.push (Value.ref h.objs.size)).size ≤ sizeLine + 1; rw [Array.size_push, hsz]; omega)
    · refine List.pairwise_append.mpr ⟨hG.rise, List.pairwise_singleton _ _, fun a ha b hb => ?_⟩
      rw [List.mem_singleton.mp hb]
      exact hG.there ha
    · intro a ha
      rcases List.mem_append.mp ha with ha | ha
      · exact hG.above a ha
      · rw [List.mem_singleton.mp ha]; exact hSl
    · intro j b hj
      rcases Nat.lt_trichotomy j as.length with h1 | h1 | h1
      · rw [List.getElem?_append_left h1] at hj
        obtain ⟨x, y, e1, e2, e3⟩ := hG.pairs j b hj
        have hb := hG.above b (List.mem_of_getElem? hj)
        exact ⟨x, y, e1, e2, up b _ (Nat.ne_of_gt hb) (hkp b _ (Nat.ne_of_gt (Nat.lt_trans B.z hb)) (Nat.ne_of_gt (Nat.lt_trans B.to hb)) (Nat.ne_of_gt (Nat.lt_trans B.i1 hb)) (Nat.ne_of_gt (Nat.lt_trans B.i2 hb)) e3)⟩
      · subst h1
        have hb : h.objs.size = b := by simpa using hj
        subst hb
        subst hal
        exact ⟨_, _, Array.getElem?_eq_getElem hlt, Array.getElem?_eq_getElem (by omega), up _ _ (Nat.ne_of_gt hSl) ht⟩
      · have hnone : (as ++ [h.objs.size])[j]? = none := List.getElem?_eq_none (by rw [List.length_append, List.length_singleton]; omega)
        rw [hnone] at hj; cases hj
theorem collectZ {R : List Value → Shared → Prop} (hh : A.handled = none) (D : ZipApart z TI TO i1 i2 l1 l2) (B : Below s.heap.objs.size z TI TO i1 i2 l1 l2) (hz : IsZip s.heap z TI TO .none) (hTI : IsPair s.heap TI (.ref i1) (.ref i2)) (hTO : ∃ a b, IsPair s.heap TO a b)
    (h1 : s.heap.IsTupleIter i1 l1 0) (h2 : s.heap.IsTupleIter i2 l2 0) (hl1 : s.heap.IsTuple l1 xs) (hl2 : s.heap.IsTuple l2 ys) (hxy : xs.size = ys.size) (hn : xs.size ≤ sizeLine)
    (h : ∀ (h' : Heap) (tk : Nat) (as : List Addr), (∀ b o, b ≠ z → b ≠ TO → b ≠ i1 → b ≠ i2 → s.heap.get? b = some o → h'.get? b = some o) → s.heap.objs.size < h'.objs.size → as.length = xs.size → MadeZ xs ys s.heap.objs.size h' as → R (as.map Value.ref) { s with heap := h', toks := tk }) :
    wpAny (model prog w) A (collect (.ref z)) R E s := by
  have hTy : ∀ {s' : Shared}, IsZip s'.heap z TI TO .none → s'.TypeIs (.ref z) "zip" := fun q => ⟨_, q, rfl⟩
  unfold collect
  refine wpAny_bind (wpAny_runValue (codeAny_builtin F.entry_proto_collect ?_))
  rw [Around.under_plainId F.plain_proto_collect _]
  show wpAny _ A.in1 (newList [] >>= fun l => again (.builtin "list.__iadd__" ⟨[l, .ref z], []⟩)) _ _ s
  refine wpAny_bind (wpAny_newObj_type ?_)
  refine wpAny_pure ⟨plainId_quiet F.plain_list_iadd _, codeAny_builtin F.entry_list_iadd ?_⟩
  rw [Around.under_plainId F.plain_list_iadd _]
  have hz1 : IsZip (s.heap.push { cls := .type "list", data := .seq ([] : List Value).toArray }) z TI TO .none := Heap.get?_push_of_some _ hz
  show wpAny _ A.in1 (Builtin.List.listExtendWith (.ref s.heap.objs.size) (.ref z) (.ref s.heap.objs.size)) _ _ _
  unfold Builtin.List.listExtendWith
  refine wpAny_bind (wpAny_typeOf (hTy hz1) ?_)
  have g1 : Builtin.List.listSameRef (.ref s.heap.objs.size) (.ref z) = false := by simp [Builtin.List.listSameRef, Nat.ne_of_gt B.z]
  have g2 : (Value.type "zip" == Value.type "list") = false := by decide
  have g3 : (Value.type "zip" == Value.type "tuple") = false := by decide
  simp only [g1, g2, g3, Bool.or_false, Bool.false_eq_true, if_false]
  refine wpAny_bind (wpAny_pyIter_zip hz1 ?_)
  refine wpAny_bind (wpAny_holding ?_)
  unfold Builtin.List.listLengthHint
  refine wpAny_bind (wpAny_specialOf (hTy hz1) nolen_zip ?_)
  show wpAny _ A.in1 (specialOf (Value.ref z) (Str.ofString "__length_hint__") >>= _) _ _ _
  refine wpAny_bind (wpAny_specialOf (hTy hz1) nohint_zip ?_)
  refine wpAny_pure ?_
  show wpAny _ A.in1 (rule "list.extend.makes-room" >>= fun _ => Builtin.List.listTouch (.ref s.heap.objs.size) >>= fun _ =>
    again (.builtin "list.extend.loop" ⟨[.ref s.heap.objs.size, .ref z, .ref s.heap.objs.size], []⟩)) _ _ _
  refine wpAny_bind (wpAny_rule ?_)
  have hS₁ : (s.heap.push { cls := .type "list", data := .seq ([] : List Value).toArray }).get? s.heap.objs.size = some { cls := .type "list", data := .seq ([] : List Value).toArray } := Heap.get?_push_size _ rfl
  refine wpAny_bind ?_
  show wpAny _ A.in1 (updateSeq s.heap.objs.size (·.push .none) >>= fun _ => updateSeq s.heap.objs.size (·.pop)) _ _ _
  refine wpAny_bind (wpAny_updateSeq hS₁ rfl ?_)
  have hS₂ := Heap.get?_update_self (Obj.mapSeq (·.push Value.none)) hS₁ rfl
  refine wpAny_updateSeq hS₂ rfl ?_
  have hS₃ := Heap.get?_update_self (Obj.mapSeq (·.pop)) hS₂ rfl
  have oth : ∀ b o, b ≠ s.heap.objs.size → (s.heap.push { cls := .type "list", data := .seq ([] : List Value).toArray }).get? b = some o →
      (((s.heap.push { cls := .type "list", data := .seq ([] : List Value).toArray }).update s.heap.objs.size (Obj.mapSeq (·.push Value.none))).update s.heap.objs.size (Obj.mapSeq (·.pop))).get? b = some o :=
    fun b o hb e => (Heap.get?_update_other _ _ (Ne.symm hb)).trans ((Heap.get?_update_other _ _ (Ne.symm hb)).trans e)
  have oth0 : ∀ b o, s.heap.get? b = some o → (((s.heap.push { cls := .type "list", data := .seq ([] : List Value).toArray }).update s.heap.objs.size (Obj.mapSeq (·.push Value.none))).update s.heap.objs.size (Obj.mapSeq (·.pop))).get? b = some o :=
    fun b o e => oth b o (Nat.ne_of_lt (Heap.lt_size e)) (Heap.get?_push_of_some _ e)
  obtain ⟨ta, tb, hTO⟩ := hTO
  refine wpAny_pure ⟨plainId_quiet F.plain_extend_loop _, loopZ (s := s) hh D B hxy hn (.ref s.heap.objs.size) (h₁ := s.heap) (fun h' tk acc c as hk hS' hl hG hacc => ?_) xs.size 0 _ _ _ _ [] (Nat.sub_zero _) (Nat.zero_le _)
    ⟨oth0 _ _ hTI, h1.at fun o e => oth0 _ o e, h2.at fun o e => oth0 _ o e, hl1.at fun o e => oth0 _ o e, hl2.at fun o e => oth0 _ o e, .inl ⟨oth0 _ _ hz, ta, tb, oth0 _ _ hTO⟩⟩ (fun b o _ _ _ _ _ e => oth0 b o e) hS₃ rfl rfl
    ⟨List.Pairwise.nil, (fun _ ha => nomatch ha), (fun j a hj => by simp at hj)⟩⟩
  show wpAny _ A (load s.heap.objs.size >>= _) _ _ _
  refine wpAny_bind (wpAny_load hS' ?_)
  refine wpAny_pure ?_
  show R acc.toList _
  rw [hacc]
  exact h h' tk as (fun b o b1 b2 b3 b4 e => hk b o (Nat.ne_of_lt (Heap.lt_size e)) b1 b2 b3 b4 e) (Heap.lt_size hS') hl hG
/-- sorted(zip) up to the sort of the pairs -/
theorem sortedZ {Q : Value → Shared → Prop} (hh : A.handled = none) (D : ZipApart z TI TO i1 i2 l1 l2) (B : Below s.heap.objs.size z TI TO i1 i2 l1 l2) (hz : IsZip s.heap z TI TO .none) (hTI : IsPair s.heap TI (.ref i1) (.ref i2)) (hTO : ∃ a b, IsPair s.heap TO a b)
    (h1 : s.heap.IsTupleIter i1 l1 0) (h2 : s.heap.IsTupleIter i2 l2 0) (hl1 : s.heap.IsTuple l1 xs) (hl2 : s.heap.IsTuple l2 ys) (hxy : xs.size = ys.size) (hn : xs.size ≤ sizeLine)
    (h : ∀ (h' : Heap) (tk : Nat) (as : List Addr), (∀ b o, b ≠ z → b ≠ TO → b ≠ i1 → b ≠ i2 → s.heap.get? b = some o → h'.get? b = some o) → s.heap.objs.size < h'.objs.size → as.length = xs.size → MadeZ xs ys s.heap.objs.size h' as →
      wpAny (model prog w) A.in1 (call (.builtin "list.sort") [.ref h'.objs.size]) (fun _ s' => Q (.ref h'.objs.size) s') E { s with heap := h'.push { cls := .type "list", data := .seq (as.map Value.ref).toArray }, toks := tk }) :
    wpAny (model prog w) A (call (.builtin "sorted") [.ref z]) Q E s := by
  refine call_function_entry kind_sorted plain_sorted entry_sorted (args_sorted1 _) ?_
  unfold Builtin.«sorted»
  refine wpAny_bind (m := checkCount "sorted" 1 1 _) (wpAny_pure ?_)
  refine wpAny_bind (collectZ (A := A.in1) hh D B hz hTI hTO h1 h2 hl1 hl2 hxy hn fun h' tk as hk hlt hl hG => ?_)
  refine wpAny_bind (wpAny_newList ?_ (by rw [List.length_map, hl]; exact hn))
  have hg := h h' tk as hk hlt hl hG
  refine wpAny_bind (wpAny_holding (wpAny_mono hg (fun _ s' x => ?_) fun _ _ e => e))
  exact wpAny_pure ⟨_, rfl, x⟩
end

theorem each_of {α : Type} {R : Value → α → Prop} (f : α → Value) : ∀ (l : List α), (∀ b ∈ l, R (f b) b) → EachIs R (l.map f) l
  | [], _ => .nil
  | b :: l, h => .cons (h b List.mem_cons_self) (each_of f l fun c hc => h c (List.mem_cons_of_mem _ hc))
theorem each_map_eq {α : Type} (f : α → Value) : ∀ {vs : List Value} {l : List α}, EachIs (fun v b => v = f b) vs l → vs = l.map f
  | _, _, .nil => rfl
  | _, _, .cons h t => by rw [h, each_map_eq f t]; rfl
def encP (b : Addr × Str × Str) : PyData := .tuple [.str b.2.1, .str b.2.2]
theorem encP_alike (bs : List (Addr × Str × Str)) : AllAlike (bs.map encP) := AllAlike.of fun b b' => by simp [encP, alike, alikeAll]
def tSZ (K : PySem.W.Frag) (ta : TA) : TE := fun σ H Q => ta σ H fun vs H1 => ∃ (a b : Addr) (xs ys : List Str), vs = [.ref a, .ref b] ∧ SqT K H1 a (xs.map V.str) ∧ SqT K H1 b (ys.map V.str) ∧ xs.length = ys.length ∧
  ∀ H' p (ps : List (Addr × Str × Str)), L2.Same H1 H' → (ps.map (·.2)).Perm (xs.zip ys) → H' p = some (.lst (ps.map fun z => V.ref z.1)) → (∀ z ∈ ps, H' z.1 = some (.tup [.str z.2.1, .str z.2.2])) → Q (.ref p) H'
theorem vstr : ∀ {xs : List Str} {us : List Value} {j : Nat} {u : Value}, Vals (xs.map V.str) us → us[j]? = some u → ∃ x t, xs[j]? = some x ∧ u = .str x t
  | [], _, j, u, .nil, h => by simp at h
  | x :: xs, _, 0, u, .cons r _, h => by
    obtain ⟨t, rfl⟩ := r
    exact ⟨x, t, rfl, (Option.some.inj h).symm⟩
  | x :: xs, _, j + 1, u, .cons _ r, h => vstr (xs := xs) (j := j) r (by simpa using h)
theorem pe_sortedZip {X : Cx} {e e2 : Expr} {ta : TA} {p p2 q pos : Pos} (hg : Gl X "sorted") (hm : X.mg "sorted" = none) (hg2 : Gl X "zip") (hm2 : X.mg "zip" = none) (ha : PA X [e, e2] ta) (hc : X.calm = true) (hu : X.A.units + 64 < cLine)
    (hs : starEach [e, e2] X.env = (false, eval e X.env) :: starEach [e2] X.env := by rfl) (hpl : (backTo q (starEach [e2] X.env)).any (·.1) = false := by rfl)
    (na : starEach [Expr.Call (.Name "zip" p2) [e, e2] [] q] X.env = (false, eval (.Call (.Name "zip" p2) [e, e2] [] q) X.env) :: starEach [] X.env := by rfl) :
    PE X (.Call (.Name "sorted" p) [.Call (.Name "zip" p2) [e, e2] [] q] [] pos) (tSZ X.K ta) := by
  refine ⟨fun pins s σ H Q I h => ?_⟩
  refine Call_ (ld_blt I hg hm K53.bt_sorted ?_)
  refine PyProof.Rows.callWith_builtin1 (PyProof.Rows.args_cons ?_ rfl) rfl rfl
  refine Call_ (ld_blt I hg2 hm2 PyProof.Rows.boot_zip (PyProof.Rows.callWith_type1 (thn (ha.run q pins s σ H _ I h) fun us s1 ⟨vs, H1, I1, r1, q1⟩ => ?_) hs hpl))
  obtain ⟨a, b, xs, ys, ex, hqx, hqy, hxy, q2⟩ := q1
  subst ex
  cases r1 with
  | cons r rr =>
  cases rr with
  | cons r' rr =>
  cases rr
  cases r
  cases r'
  obtain ⟨its, rv, p1, hz1⟩ := I1.tuple hqx
  obtain ⟨its2, rv2, pl2, _⟩ := I1.tuple hqy
  have len1 : its.toArray.size = xs.length := by rw [List.size_toArray, ← rv.length, List.length_map]
  have len2 : its2.toArray.size = ys.length := by rw [List.size_toArray, ← rv2.length, List.length_map]
  have la : a < s1.heap.objs.size := by obtain ⟨o, ho, _⟩ := p1; exact Heap.lt_size ho
  have lb : b < s1.heap.objs.size := by obtain ⟨o, ho, _⟩ := pl2; exact Heap.lt_size ho
  have p1' : s1.heap.IsTuple a its.toArray := p1
  have p2' : s1.heap.IsTuple b its2.toArray := pl2
  refine RZ.call_zipT p1' p2' fun h' hz hTI hTO h1 h2 hsz hk => PyProof.Rows.args_nil ?_
  have hh : X.A.handled = none := I1.ok.hd hc
  have up0 : ∀ c, c < s1.heap.objs.size → c < h'.objs.size := fun c z => by rw [hsz]; omega
  refine sortedZ (s := { s1 with heap := h' }) (l1 := a) (l2 := b) hh (PySem.W.ktu_apart s1.heap.objs.size a b la lb) ⟨?_, ?_, ?_, ?_, ?_, up0 _ la, up0 _ lb⟩ hz hTI ⟨_, _, hTO⟩ h1 h2 (xs := its.toArray) (ys := its2.toArray) (p1'.at fun o e => hk _ o e) (p2'.at fun o e => hk _ o e) (by omega) (by rw [len1, ← List.length_map (f := V.str)]; exact hz1) fun h3 tk as hk3 hlt hl hG => ?_
  · show _ < h'.objs.size; omega
  · show _ < h'.objs.size; omega
  · show _ < h'.objs.size; omega
  · show _ < h'.objs.size; omega
  · show _ < h'.objs.size; omega
  have hsz' : s1.heap.objs.size < h'.objs.size := by omega
  dsimp only at hlt hG hk3 ⊢
  -- all that stood stands
  have k3 : ∀ c o, s1.heap.get? c = some o → h3.get? c = some o := fun c o e => by
    have lt0 : (show Nat from c) < s1.heap.objs.size := Heap.lt_size e
    exact hk3 c o (Nat.ne_of_lt (Nat.lt_of_lt_of_le lt0 (Nat.le_add_right _ _))) (Nat.ne_of_lt (Nat.lt_of_lt_of_le lt0 (Nat.le_add_right _ _))) (Nat.ne_of_lt lt0) (Nat.ne_of_lt (Nat.lt_of_lt_of_le lt0 (Nat.le_add_right _ _))) (hk c o e)
  have ll : as.length = (xs.zip ys).length := by rw [hl, len1, List.length_zip]; omega
  have hbs : as.map Value.ref = (as.zip (xs.zip ys)).map fun b => Value.ref b.1 := by
    rw [show (fun b : Addr × Str × Str => Value.ref b.1) = Value.ref ∘ Prod.fst from rfl, ← List.map_map, List.map_fst_zip (by omega)]
  have pr : ∀ z ∈ as.zip (xs.zip ys), h'.objs.size < z.1 ∧ ∃ t u, IsPair h3 z.1 (.str z.2.1 t) (.str z.2.2 u) := by
    intro z hzm
    obtain ⟨j, hj⟩ := List.mem_iff_getElem?.mp hzm
    obtain ⟨j1, j2⟩ := List.getElem?_zip_eq_some.mp hj
    obtain ⟨j3, j4⟩ := List.getElem?_zip_eq_some.mp j2
    obtain ⟨x, y, e1, e2, e3⟩ := hG.pairs j z.1 j1
    obtain ⟨x', t, f1, rfl⟩ := vstr rv (by simpa using e1)
    obtain ⟨y', u, f2, rfl⟩ := vstr rv2 (by simpa using e2)
    have g1 := Option.some.inj (f1.symm.trans j3)
    have g2 := Option.some.inj (f2.symm.trans j4)
    rw [← g1, ← g2]
    exact ⟨hG.above _ (List.mem_of_getElem? j1), t, u, e3⟩
  generalize hB : as.zip (xs.zip ys) = bs at hbs pr
  have hbl : bs.map (·.2) = xs.zip ys := by rw [← hB]; exact List.map_snd_zip (by omega)
  have hba : bs.map (·.1) = as := by rw [← hB]; exact List.map_fst_zip (by omega)
  have hblen : bs.length = xs.length := by rw [← List.length_map (f := fun b : Addr × Str × Str => b.2), hbl, List.length_zip]; omega
  have hlz : xs.length ≤ sizeLine := by rw [← List.length_map (f := V.str)]; exact hz1
  rw [hbs]
  have hob : (h3.push { cls := .type "list", data := .seq (bs.map fun b => Value.ref b.1).toArray }).get? h3.objs.size = some (seqObj "list" (bs.map fun b => Value.ref b.1).toArray 0) := Heap.get?_push_size _ rfl
  have ka : ∀ b o, h3.get? b = some o → (h3.push { cls := .type "list", data := .seq (bs.map fun b => Value.ref b.1).toArray }).get? b = some o := fun b o e => Heap.get?_push_of_some _ e
  have ne0 : ∀ b o, h3.get? b = some o → b ≠ h3.objs.size := fun b o e => Nat.ne_of_lt (Heap.lt_size e)
  generalize hh2 : h3.push { cls := .type "list", data := .seq (bs.map fun b => Value.ref b.1).toArray } = h4 at hob ka ⊢
  refine wpAny_mono (Q := fun v s' => v = Value.none ∧ EP X pins σ Q (.ref h3.objs.size) s') (list_sort_data (s := { s1 with heap := h4, toks := tk }) (R := fun v b => v = Value.ref b.1) (enc := encP) hob (each_of _ bs fun _ _ => rfl) (each_of _ bs fun b hb => ?_) (encP_alike bs) (Sortable.tuples fun b => ⟨_, _, rfl⟩) (by omega) (fun b _ => ?_) fun out ho eo => ⟨rfl, ?_⟩) (fun _ _ z => z.2) (fun _ _ z => z)
  · obtain ⟨_, t, u, e⟩ := pr b hb
    exact ⟨_, .tuple (ka _ _ e) rfl rfl (.cons (.str _ _) (.cons (.str _ _) .nil)), by simp⟩
  · show X.A.units + 1 + 1 + (encP b).depth < cLine
    have : (encP b).depth ≤ 4 := by simp [encP, PyData.depth, PyData.depthAll]
    omega
  · have eo' := each_map_eq (fun b : Addr × Str × Str => Value.ref b.1) eo
    have hperm : (bs.mergeSort (dataLe false encP)).Perm bs := List.mergeSort_perm _ _
    generalize bs.mergeSort (dataLe false encP) = zs at eo' hperm
    subst eo'
    obtain ⟨eF, heF⟩ := PyProof.Rows.sortedHeap_at (vs := bs.map fun b => Value.ref b.1) (out := (zs.map fun b => Value.ref b.1).toArray) hob
    have kF : ∀ b o, b ≠ h3.objs.size → h4.get? b = some o → (sortedHeap h4 h3.objs.size (bs.map fun b => Value.ref b.1) (zs.map fun b => Value.ref b.1).toArray).get? b = some o := fun b o hb e => (PyProof.Rows.sortedHeap_old hb (Heap.lt_size e)).trans e
    have kS : ∀ b o, s1.heap.get? b = some o → (sortedHeap h4 h3.objs.size (bs.map fun b => Value.ref b.1) (zs.map fun b => Value.ref b.1).toArray).get? b = some o := fun b o e => kF b o (ne0 _ _ (k3 b o e)) (ka b o (k3 b o e))
    generalize sortedHeap h4 h3.objs.size (bs.map fun b => Value.ref b.1) (zs.map fun b => Value.ref b.1).toArray = h5 at heF kF kS ⊢
    have I2 : Inv X pins σ H1 { s1 with heap := h5, toks := tk } := I1.kept (t' := tk) kS
    have hlow : s1.heap.objs.size ≤ h3.objs.size := by omega
    have hn0 : H1 h3.objs.size = none := I1.hok.fresh hlow
    have hzl : zs.length = xs.length := hperm.length_eq.trans hblen
    have I3 : Inv X pins σ (upd H1 h3.objs.size (.lst (zs.map fun z => V.ref z.1))) { s1 with heap := h5, toks := tk } :=
      I2.take (h' := h5) (t' := tk) (fun b ob _ e => e) (I1.fpOk hlow hn0) ⟨by rw [List.length_map]; omega, _, eF, vals_maps (fun z : Addr × Str × Str => V.ref z.1) (fun z => Value.ref z.1) zs fun _ _ => rfl, heF⟩
    have nd : as.Nodup := List.Pairwise.imp (fun h => Nat.ne_of_lt h) hG.rise
    obtain ⟨H2, I4, g, qt⟩ := DX.takeT (P := fun b vs => ∃ z ∈ bs, z.1 = b ∧ vs = [.str z.2.1, .str z.2.2]) I1 as _ I3 nd fun c hc => by
      rw [← hba] at hc
      obtain ⟨z, hzm, rfl⟩ := List.mem_map.mp hc
      obtain ⟨hb1, t, u, e⟩ := pr z hzm
      have hbl2 : s1.heap.objs.size ≤ z.1 := by omega
      refine ⟨hbl2, ?_, _, ⟨z, hzm, rfl, rfl⟩, fun H3 => ⟨K53.two_le, [.str z.2.1 t, .str z.2.2 u], .cons ⟨_, rfl⟩ (.cons ⟨_, rfl⟩ .nil), ⟨_, kF _ _ (ne0 _ _ e) (ka _ _ e), rfl, 0, rfl⟩⟩⟩
      rw [upd_ne (ne0 _ _ e)]
      exact I1.hok.fresh hbl2
    refine ⟨.ref h3.objs.size, H2, I4, rfl, q2 H2 _ zs (fun c o e => g c o (by rw [upd_ne (ne_of_none e hn0)]; exact e)) ?_ (g _ _ upd_same) fun z hzm => ?_⟩
    · have := hperm.map (·.2)
      rwa [hbl] at this
    · have hzb := hperm.mem_iff.mp hzm
      obtain ⟨vs, ⟨z', hz', e1, rfl⟩, e2⟩ := qt z.1 (by rw [← hba]; exact List.mem_map.mpr ⟨z, hzb, rfl⟩)
      have : z' = z := by
        obtain ⟨i, hi⟩ := List.mem_iff_getElem?.mp hz'
        obtain ⟨j, hj⟩ := List.mem_iff_getElem?.mp hzb
        have hi2 : as[i]? = some z'.1 := by rw [← hba, List.getElem?_map, hi]; rfl
        have hj2 : as[j]? = some z.1 := by rw [← hba, List.getElem?_map, hj]; rfl
        have eij : i = j := (List.getElem?_inj (List.getElem?_eq_some_iff.mp hi2).1 nd).mp (by rw [hi2, hj2, e1])
        subst eij
        exact Option.some.inj (hi.symm.trans hj)
      rw [this] at e2
      exact e2
end ZT
end TK53P

section TK53B
set_option maxHeartbeats 4000000

namespace K53
open PySem PySem.Spec PyProof.Rows L2
section
variable {P : Program} {w : World} {K : PySem.W.Frag} {mg : Str → Option Value} {base : Heap}
abbrev N_is_integer : List Str := ["value"]
theorem sc_is_integer : FnScope N_is_integer ["value"] (defScope s_is_integer) := ⟨rfl, rfl, rfl, by decide +kernel, rfl, by decide +kernel, by decide +kernel⟩
def sp_is_integer : Sp := fun vs H Q _ => ∃ i : Int, vs = [.int i] ∧ Q (.bl true) H
theorem ok_is_integer (T : TX w K mg) : FnX P w K mg base 1 ("is_integer", none) ["value"] [] sp_is_integer := by
  refine FnX.of T.qd_is_integer rfl sc_is_integer (fun vs H Q E h => ?_) (fun _ _ _ _ _ _ us hl => match us, hl with | [_], _ => rfl) (fun cdv A outer s H vs Q E hr h => ?_)
  · obtain ⟨i, rfl, _⟩ := h
    rfl
  · obtain ⟨i, rfl, k⟩ := h
    refine ⟨_, (pss_one (ps_ret (pe_and (pe_callB call_isi (by rfl) (T.f "isinstance") bt_isinstance (pa_cons (pv 0) (pa_cons (pe_bltn (v := .ty "int") (by rfl) (T.f "int") bt_int rfl) pa_nil))) (pe_one (pe_not (pe_callB call_isi (by rfl) (T.f "isinstance") bt_isinstance (pa_cons (pv 0) (pa_cons (pe_bltn (v := .ty "bool") (by rfl) (T.f "bool") bt_bool rfl) pa_nil)))))))), ?_⟩
    exact ⟨_, rfl, _, _, _, _, _, rfl, .ty "int", .base (.int i), kit_ty (r := true) (by decide +kernel), _, rfl, iteT ⟨_, rfl, _, _, _, _, _, rfl, .ty "bool", .base (.int i), kit_ty (r := false) (by decide +kernel), _, rfl, k⟩⟩
abbrev N_is_within : List Str := ["value", "least", "most"]
theorem sc_is_within : FnScope N_is_within ["value", "least", "most"] (defScope s_is_within) := ⟨rfl, rfl, rfl, by decide +kernel, rfl, by decide +kernel, by decide +kernel⟩
def sp_is_within : Sp := fun vs H Q _ => ∃ i a b : Int, vs = [.int i, .int a, .int b] ∧ Q (.bl (decide (a ≤ i) && decide (i ≤ b))) H
theorem ok_is_within (T : TX w K mg) : FnX P w K mg base 2 ("is_within", none) ["value", "least", "most"] [] sp_is_within := by
  refine FnX.of T.qd_is_within rfl sc_is_within (fun vs H Q E h => ?_) (fun _ _ _ _ _ _ us hl => match us, hl with | [_, _, _], _ => rfl) (fun cdv A outer s H vs Q E hr h => ?_)
  · obtain ⟨i, a, b, rfl, _⟩ := h
    rfl
  · obtain ⟨i, a, b, rfl, k⟩ := h
    refine ⟨_, (pss_cons (ps_if (pt_not (pt_val (pe_fx (ok_is_integer T) (hr.mono (by decide)) (by rfl) (T.g "is_integer") (pa_cons (pv 0) pa_nil)))) (pss_one (ps_ret pe_bl)) pss_nil)
  (pss_one (ps_ret (pe_and (pe_or (pe_cmpR op_isN (pv 1) pe_non (nomark _)) (pe_one (pe_cmpR op_le (pv 1) (pv 0) (nomark _)))) (pe_one (pe_or (pe_cmpR op_isN (pv 2) pe_non (nomark _)) (pe_one (pe_cmpR op_le (pv 0) (pv 2) (nomark _))))))))), ?_⟩
    refine ⟨_, rfl, i, rfl, true, rfl, iteF ?_⟩
    refine ⟨_, rfl, rfl, _, rfl, iteF ⟨_, rfl, _, rfl, _, _, rfl, rfl, _, rfl, ite2 (fun h1 => ?_) (fun h1 => ?_)⟩⟩
    · refine ⟨_, rfl, rfl, _, rfl, iteF ⟨_, rfl, _, rfl, _, _, rfl, rfl, ?_⟩⟩
      rw [h1] at k
      exact k
    · have e : decide (a ≤ i) = false := by simpa using h1
      rw [e] at k
      exact k
abbrev N_need_number : List Str := ["value", "part", "least", "most"]
theorem sc_need_number : FnScope N_need_number ["value", "part", "least", "most"] (defScope s_need_number) := ⟨rfl, rfl, rfl, by decide +kernel, rfl, by decide +kernel, by decide +kernel⟩
def sp_need_number : Sp := fun vs H Q _ => ∃ (i a b : Int) (x : V), vs = [.int i, x, .int a, .int b] ∧ a ≤ i ∧ i ≤ b ∧ Q .non H
theorem ok_need_number (T : TX w K mg) : FnX P w K mg base 3 ("need_number", none) ["value", "part", "least", "most"] [] sp_need_number := by
  refine FnX.of T.qd_need_number rfl sc_need_number (fun vs H Q E h => ?_) (fun _ _ _ _ _ _ us hl => match us, hl with | [_, _, _, _], _ => rfl) (fun cdv A outer s H vs Q E hr h => ?_)
  · obtain ⟨i, a, b, x, rfl, _⟩ := h
    rfl
  · obtain ⟨i, a, b, x, rfl, h1, h2, k⟩ := h
    refine ⟨_, (pss_one (ps_if (pt_not (pt_val (pe_fx (ok_is_within T) (hr.mono (by decide)) (by rfl) (T.g "is_within") (pa_cons (pv 0) (pa_cons (pv 2) (pa_cons (pv 3) pa_nil)))))) (pss_one ps_never) pss_nil)), ?_⟩
    refine ⟨_, rfl, _, rfl, _, rfl, i, a, b, rfl, _, rfl, ?_⟩
    rw [decide_eq_true h1, decide_eq_true h2]
    exact iteF k
end
end K53
end TK53B

section TK53D
set_option maxHeartbeats 4000000

namespace K53
open PySem PySem.Spec PyProof.Rows L2
section
variable {P : Program} {w : World} {K : PySem.W.Frag} {mg : Str → Option Value} {base : Heap}
abbrev N_is_name : List Str := ["value", "sign"]
theorem sc_is_name : FnScope N_is_name ["value"] (defScope s_is_name) := ⟨rfl, rfl, rfl, by decide +kernel, rfl, by decide +kernel, by decide +kernel⟩
def sp_is_name : Sp := fun vs H Q _ => ∃ z : Str, vs = [.str z] ∧ Nm z ∧ ∀ H', Same H H' → Q (.bl true) H'
theorem ok_is_name (T : TX w K mg) : FnX P w K mg base 1 ("is_name", none) ["value"] [] sp_is_name := by
  refine FnX.of T.qd_is_name rfl sc_is_name (fun vs H Q E h => ?_) (fun _ _ _ _ _ _ us hl => match us, hl with | [_], _ => rfl) (fun cdv A outer s H vs Q E hr h => ?_)
  · obtain ⟨z, rfl, _⟩ := h
    rfl
  · obtain ⟨z, rfl, ⟨hz, h1, h8⟩, k⟩ := h
    refine ⟨_, (pss_one (ps_ret (pe_and (pe_callB call_isi (by rfl) (T.f "isinstance") bt_isinstance (pa_cons (pv 0) (pa_cons (pe_bltn (v := .ty "str") (by rfl) (T.f "str") bt_str rfl) pa_nil))) (pe_and (pe_chain op_le op_le pe_int (pe_callB call_len_str (by rfl) (T.f "len") PySem.boot_len (pa_cons (pv 0) pa_nil)) (pe_gi (by rfl) (T.i "MOST_SIGNS" 60))) (pe_one (pe_callB (cr_all rfl) (by rfl) (T.f "all") bt_all (pa_cons (pe_lc (own := [("sign", 1)]) rfl sc_is_name.nd (pi_str (pv 0)) (blkOk_by (N := N_is_name) (sc := defScope s_is_name) (by decide +kernel)) (fun _ _ _ _ _ => (pg_name (i := 1) sc_is_name.nd rfl (by first | exact .inl rfl | exact .inr rfl))) (fun _ _ _ _ _ => pts_nil) (fun _ _ _ _ _ => (pe_cmpR op_in_sign (pv 1) (pe_gs (by rfl) (T.s "SIGNS" "01")) rfl))) pa_nil))))))), ?_⟩
    have hl : z.length ≤ sizeLine := size24 (by omega)
    refine ⟨_, rfl, _, _, _, _, _, rfl, .ty "str", .base (.str z), kit_ty (r := true) (by decide +kernel), _, rfl, iteT ?_⟩
    refine ⟨_, rfl, z, rfl, hl, _, _, rfl, rfl, _, rfl, ?_⟩
    rw [decide_eq_true (show (1 : Int) ≤ (z.length : Int) by omega)]
    refine iteT ⟨_, _, rfl, rfl, _, rfl, ?_⟩
    rw [decide_eq_true (show (z.length : Int) ≤ 60 by omega)]
    refine iteT ⟨_, rfl, z, rfl, fun D hD => ?_⟩
    refine lc_sm (walk_str (z := z)) hD (fun _ acc _ => ∃ bs : List Bool, acc = bs.map V.bl ∧ bs.all id = true) ⟨[], rfl, rfl⟩ (fun _ _ => trivial) (fun _ _ _ _ _ h => h) (Nat.le_trans h8 (by decide)) ?_ ?_
    · rintro i x acc H2 H3 R R0 hi s2 hacc hla ⟨bs, rfl, hb⟩ ⟨rfl, c, hc, rfl⟩ hR hR0
      refine ⟨rfl, tY ⟨_, rfl, c, _, rfl, rfl, hR _ _ (Same.refl _) ⟨bs ++ [decide (c ∈ ("01" : Str).cps.toList)], by simp, ?_⟩⟩⟩
      have hs : Sign c := hz c (by simpa using Array.mem_of_getElem? hc)
      have e : decide (c ∈ ("01" : Str).cps.toList) = true := by
        rcases hs with rfl | rfl <;> decide +kernel
      rw [e, List.all_append, hb]
      rfl
    · rintro acc H2 s2 hacc _ ⟨bs, rfl, hb⟩
      refine ⟨D, bs, rfl, SqL.of hacc, ?_⟩
      rw [hb]
      exact k _ (Same.trans (fun _ _ e => e) s2)
abbrev N_is_short : List Str := ["value"]
theorem sc_is_short : FnScope N_is_short ["value"] (defScope s_is_short) := ⟨rfl, rfl, rfl, by decide +kernel, rfl, by decide +kernel, by decide +kernel⟩
def sp_is_short : Sp := sp_is_name
theorem ok_is_short (T : TX w K mg) : FnX P w K mg base 2 ("is_short", none) ["value"] [] sp_is_short := by
  refine FnX.of T.qd_is_short rfl sc_is_short (fun vs H Q E h => ?_) (fun _ _ _ _ _ _ us hl => match us, hl with | [_], _ => rfl) (fun cdv A outer s H vs Q E hr h => ?_)
  · obtain ⟨z, rfl, _⟩ := h
    rfl
  · obtain ⟨z, rfl, hz, k⟩ := h
    refine ⟨_, (pss_one (ps_ret (pe_and (pe_fx (ok_is_name T) (hr.mono (by decide)) (by rfl) (T.g "is_name") (pa_cons (pv 0) pa_nil)) (pe_one (pe_cmpR op_le (pe_callB call_len_str (by rfl) (T.f "len") PySem.boot_len (pa_cons (pv 0) pa_nil)) (pe_gi (by rfl) (T.i "MOST_NAME" 8)) (nomark _)))))), ?_⟩
    have hl : z.length ≤ sizeLine := size24 (by have := hz.2.2; omega)
    refine ⟨_, rfl, z, rfl, hz, fun H' s' => ⟨_, rfl, iteT ⟨_, rfl, z, rfl, hl, _, _, rfl, rfl, ?_⟩⟩⟩
    show Q (.bl (decide ((z.length : Int) ≤ 8))) _
    rw [decide_eq_true (show (z.length : Int) ≤ 8 by have := hz.2.2; omega)]
    exact k _ s'
abbrev N_is_program : List Str := ["value", "each"]
theorem sc_is_program : FnScope N_is_program ["value"] (defScope s_is_program) := ⟨rfl, rfl, rfl, by decide +kernel, rfl, by decide +kernel, by decide +kernel⟩
/-- a program: a row of the seven words, at most 200 -/
def Pg (p : List Str) : Prop := (∀ x ∈ p, x ∈ words7) ∧ p.length ≤ 200
def sp_is_program (K : PySem.W.Frag) : Sp := fun vs H Q _ => ∃ (a : Addr) (p : List Str), vs = [.ref a] ∧ H a = some (.tup (p.map V.str)) ∧ Pg p ∧ ∀ H', Same H H' → Q (.bl true) H'
theorem ok_is_program (T : TX w K mg) : FnX P w K mg base 1 ("is_program", none) ["value"] [] (sp_is_program K) := by
  refine FnX.of T.qd_is_program rfl sc_is_program (fun vs H Q E h => ?_) (fun _ _ _ _ _ _ us hl => match us, hl with | [_], _ => rfl) (fun cdv A outer s H vs Q E hr h => ?_)
  · obtain ⟨a, p, rfl, _⟩ := h
    rfl
  · obtain ⟨a, p, rfl, ha, hp, k⟩ := h
    refine ⟨_, (pss_cons (ps_if (PW.pt (pw_or (pt_not (pt_val (pe_callB call_isiT (by rfl) (T.f "isinstance") bt_isinstance (pa_cons (pv 0) (pa_cons (pe_tup (pa_cons (pe_bltn (v := .ty "list") (by rfl) (T.f "list") bt_list rfl) (pa_cons (pe_bltn (v := .ty "tuple") (by rfl) (T.f "tuple") bt_tuple rfl) pa_nil))) pa_nil))))) (pw_or1 (pt_cmpR op_gt (pe_callB call_len_seq (by rfl) (T.f "len") PySem.boot_len (pa_cons (pv 0) pa_nil)) (pe_gi (by rfl) (T.i "MOST_WORDS_programs" 200)) (nomark _))))) (pss_one (ps_ret pe_bl)) pss_nil)
  (pss_one (ps_ret (pe_callB (cr_all rfl) (by rfl) (T.f "all") bt_all (pa_cons (pe_lc (own := [("each", 1)]) rfl sc_is_program.nd (pi_tup (pv 0)) (blkOk_by (N := N_is_program) (sc := defScope s_is_program) (by decide +kernel)) (fun _ _ _ _ _ => (pg_name (i := 1) sc_is_program.nd rfl (by first | exact .inl rfl | exact .inr rfl))) (fun _ _ _ _ _ => pts_nil) (fun _ _ _ _ _ => (pe_and (pe_callB (call_isiK (K := K)) (by rfl) (T.f "isinstance") bt_isinstance (pa_cons (pv 1) (pa_cons (pe_bltn (v := .ty "str") (by rfl) (T.f "str") bt_str rfl) pa_nil))) (pe_one (pe_cmpR (op_in_seqK (K := K)) (pv 1) (pe_gr (by rfl) (T.g "SEVEN")) rfl))))) pa_nil))))), ?_⟩
    refine ⟨_, rfl, two_le, fun t ht => ?_⟩
    have hat : upd H t (.tup [V.ty "list", V.ty "tuple"]) a = some (.tup (p.map V.str)) := Same.new ht _ _ ha
    refine ⟨_, _, _, _, _, _, rfl, upd_same, lt_cls, .base (.tup hat), kit_lt_tup, true, rfl, iteF ?_⟩
    refine ⟨_, rfl, a, _, rfl, .inr (SqT.of hat), _, _, rfl, rfl, _, rfl, ?_⟩
    rw [decide_eq_false (show ¬ (200 : Int) < ((p.map V.str).length : Int) by have := hp.2; rw [List.length_map]; omega)]
    refine iteF ⟨_, rfl, a, rfl, ⟨_, SqT.of hat⟩, fun D hD => ?_⟩
    have s1 : Same H (upd (upd H t (.tup [V.ty "list", V.ty "tuple"])) D (.lst [])) := (Same.new ht).new' hD
    refine lc_sm (walk_tup (a := a) (xs := p.map V.str)) hD (fun _ acc _ => ∃ bs : List Bool, acc = bs.map V.bl ∧ bs.all id = true) ⟨[], rfl, rfl⟩ (fun _ s => SqT.of (s _ _ hat)) (fun _ _ _ _ _ h => h) (by have := hp.2; rw [List.length_map]; omega) ?_ ?_
    · rintro i x acc H2 H3 R R0 hi s2 hacc hla ⟨bs, rfl, hb⟩ ⟨rfl, hx⟩ hR hR0
      obtain ⟨z, hz, rfl⟩ : ∃ z, z ∈ p ∧ x = V.str z := by
        have m := List.mem_of_getElem? hx
        rw [List.mem_map] at m
        obtain ⟨z, m1, m2⟩ := m
        exact ⟨z, m1, m2.symm⟩
      refine ⟨rfl, tY ⟨_, rfl, _, _, _, _, _, rfl, .ty "str", .base (.str z), kit_ty (r := true) (by decide +kernel), _, rfl, iteT ?_⟩⟩
      refine ⟨_, rfl, _, _, rfl, .inr (T.seven _), rfl, by decide +kernel, ?_⟩
      have e : inV (V.str z) (words7.map V.str) = true := by
        have q : z ∈ words7 := hp.1 z hz
        simp only [words7, List.mem_cons, List.not_mem_nil, or_false] at q
        rcases q with rfl | rfl | rfl | rfl | rfl | rfl | rfl <;> decide +kernel
      show R (V.bl (if false = true then _ else inV (V.str z) (words7.map V.str))) _
      rw [if_neg Bool.false_ne_true, e]
      exact hR _ _ (Same.refl _) ⟨bs ++ [true], by simp, by simpa using hb⟩
    · rintro acc H2 s2 hacc _ ⟨bs, rfl, hb⟩
      refine ⟨D, bs, rfl, SqL.of hacc, ?_⟩
      rw [hb]
      exact k _ ((Same.new ht).trans s2)
end
end K53
end TK53D

section TK53G
set_option maxHeartbeats 4000000
namespace K53
open PySem PySem.Spec PyProof.Rows L2
theorem few {fs : List (Str × V)} (h : Nat.blt fs.length 1000 = true) : fs.length < 1000 := Nat.le_of_ble_eq_true h
theorem few_put {f : Str} {y : V} {fs : List (Str × V)} (h : fs.length < 900) : (putF f y fs).length < 1000 := by
  have := length_putF f y fs
  omega

def fScan (v0 v1 : V) : List (Str × V) := [("words", v0), ("at", v1)]
section
variable {v0 v1 y : V}
theorem fw_Scan : (fScan v0 v1).length < 1000 := few (by kernel_rfl)
theorem lk_Scan_words : (fScan v0 v1).lookup ("words" : Str) = some v0 := by kernel_rfl
theorem pt_Scan_words : putF "words" y (fScan v0 v1) = fScan y v1 := by kernel_rfl
theorem lk_Scan_at : (fScan v0 v1).lookup ("at" : Str) = some v1 := by kernel_rfl
theorem pt_Scan_at : putF "at" y (fScan v0 v1) = fScan v0 y := by kernel_rfl
theorem nf_Scan_1 : (putF "words" v0 []).length < 1000 := few (by kernel_rfl)
theorem nw_Scan : putF "at" v1 (putF "words" v0 []) = fScan v0 v1 := by kernel_rfl
end
def fTongue (v0 : V) : List (Str × V) := [("names", v0)]
section
variable {v0 y : V}
theorem fw_Tongue : (fTongue v0).length < 1000 := few (by kernel_rfl)
theorem lk_Tongue_names : (fTongue v0).lookup ("names" : Str) = some v0 := by kernel_rfl
theorem pt_Tongue_names : putF "names" y (fTongue v0) = fTongue y := by kernel_rfl
theorem nw_Tongue : putF "names" v0 [] = fTongue v0 := by kernel_rfl
end
def fPuzzle (v0 v1 v2 : V) : List (Str × V) := [("text", v0), ("check", v1), ("cost", v2)]
section
variable {v0 v1 v2 y : V}
theorem fw_Puzzle : (fPuzzle v0 v1 v2).length < 1000 := few (by kernel_rfl)
theorem lk_Puzzle_text : (fPuzzle v0 v1 v2).lookup ("text" : Str) = some v0 := by kernel_rfl
theorem pt_Puzzle_text : putF "text" y (fPuzzle v0 v1 v2) = fPuzzle y v1 v2 := by kernel_rfl
theorem lk_Puzzle_check : (fPuzzle v0 v1 v2).lookup ("check" : Str) = some v1 := by kernel_rfl
theorem pt_Puzzle_check : putF "check" y (fPuzzle v0 v1 v2) = fPuzzle v0 y v2 := by kernel_rfl
theorem lk_Puzzle_cost : (fPuzzle v0 v1 v2).lookup ("cost" : Str) = some v2 := by kernel_rfl
theorem pt_Puzzle_cost : putF "cost" y (fPuzzle v0 v1 v2) = fPuzzle v0 v1 y := by kernel_rfl
theorem nf_Puzzle_1 : (putF "text" v0 []).length < 1000 := few (by kernel_rfl)
theorem nf_Puzzle_2 : (putF "check" v1 (putF "text" v0 [])).length < 1000 := few (by kernel_rfl)
theorem nw_Puzzle : putF "cost" v2 (putF "check" v1 (putF "text" v0 [])) = fPuzzle v0 v1 v2 := by kernel_rfl
end
def fRun (v0 v1 v2 v3 v4 v5 v6 : V) : List (Str × V) := [("program", v0), ("given", v1), ("left", v2), ("right", v3), ("spot", v4), ("steps", v5), ("has_fallen", v6)]
section
variable {v0 v1 v2 v3 v4 v5 v6 y : V}
theorem fw_Run : (fRun v0 v1 v2 v3 v4 v5 v6).length < 1000 := few (by kernel_rfl)
theorem lk_Run_program : (fRun v0 v1 v2 v3 v4 v5 v6).lookup ("program" : Str) = some v0 := by kernel_rfl
theorem pt_Run_program : putF "program" y (fRun v0 v1 v2 v3 v4 v5 v6) = fRun y v1 v2 v3 v4 v5 v6 := by kernel_rfl
theorem lk_Run_given : (fRun v0 v1 v2 v3 v4 v5 v6).lookup ("given" : Str) = some v1 := by kernel_rfl
theorem pt_Run_given : putF "given" y (fRun v0 v1 v2 v3 v4 v5 v6) = fRun v0 y v2 v3 v4 v5 v6 := by kernel_rfl
theorem lk_Run_left : (fRun v0 v1 v2 v3 v4 v5 v6).lookup ("left" : Str) = some v2 := by kernel_rfl
theorem pt_Run_left : putF "left" y (fRun v0 v1 v2 v3 v4 v5 v6) = fRun v0 v1 y v3 v4 v5 v6 := by kernel_rfl
theorem lk_Run_right : (fRun v0 v1 v2 v3 v4 v5 v6).lookup ("right" : Str) = some v3 := by kernel_rfl
theorem pt_Run_right : putF "right" y (fRun v0 v1 v2 v3 v4 v5 v6) = fRun v0 v1 v2 y v4 v5 v6 := by kernel_rfl
theorem lk_Run_spot : (fRun v0 v1 v2 v3 v4 v5 v6).lookup ("spot" : Str) = some v4 := by kernel_rfl
theorem pt_Run_spot : putF "spot" y (fRun v0 v1 v2 v3 v4 v5 v6) = fRun v0 v1 v2 v3 y v5 v6 := by kernel_rfl
theorem lk_Run_steps : (fRun v0 v1 v2 v3 v4 v5 v6).lookup ("steps" : Str) = some v5 := by kernel_rfl
theorem pt_Run_steps : putF "steps" y (fRun v0 v1 v2 v3 v4 v5 v6) = fRun v0 v1 v2 v3 v4 y v6 := by kernel_rfl
theorem lk_Run_has_fallen : (fRun v0 v1 v2 v3 v4 v5 v6).lookup ("has_fallen" : Str) = some v6 := by kernel_rfl
theorem pt_Run_has_fallen : putF "has_fallen" y (fRun v0 v1 v2 v3 v4 v5 v6) = fRun v0 v1 v2 v3 v4 v5 y := by kernel_rfl
theorem nf_Run_1 : (putF "program" v0 []).length < 1000 := few (by kernel_rfl)
theorem nf_Run_2 : (putF "given" v1 (putF "program" v0 [])).length < 1000 := few (by kernel_rfl)
theorem nf_Run_3 : (putF "left" v2 (putF "given" v1 (putF "program" v0 []))).length < 1000 := few (by kernel_rfl)
theorem nf_Run_4 : (putF "right" v3 (putF "left" v2 (putF "given" v1 (putF "program" v0 [])))).length < 1000 := few (by kernel_rfl)
theorem nf_Run_5 : (putF "spot" v4 (putF "right" v3 (putF "left" v2 (putF "given" v1 (putF "program" v0 []))))).length < 1000 := few (by kernel_rfl)
theorem nf_Run_6 : (putF "steps" v5 (putF "spot" v4 (putF "right" v3 (putF "left" v2 (putF "given" v1 (putF "program" v0 [])))))).length < 1000 := few (by kernel_rfl)
theorem nw_Run : putF "has_fallen" v6 (putF "steps" v5 (putF "spot" v4 (putF "right" v3 (putF "left" v2 (putF "given" v1 (putF "program" v0 [])))))) = fRun v0 v1 v2 v3 v4 v5 v6 := by kernel_rfl
end
def fTrial (v0 v1 v2 v3 v4 v5 : V) : List (Str × V) := [("program", v0), ("puzzle", v1), ("running", v2), ("steps", v3), ("waits", v4), ("answer", v5)]
section
variable {v0 v1 v2 v3 v4 v5 y : V}
theorem fw_Trial : (fTrial v0 v1 v2 v3 v4 v5).length < 1000 := few (by kernel_rfl)
theorem lk_Trial_program : (fTrial v0 v1 v2 v3 v4 v5).lookup ("program" : Str) = some v0 := by kernel_rfl
theorem pt_Trial_program : putF "program" y (fTrial v0 v1 v2 v3 v4 v5) = fTrial y v1 v2 v3 v4 v5 := by kernel_rfl
theorem lk_Trial_puzzle : (fTrial v0 v1 v2 v3 v4 v5).lookup ("puzzle" : Str) = some v1 := by kernel_rfl
theorem pt_Trial_puzzle : putF "puzzle" y (fTrial v0 v1 v2 v3 v4 v5) = fTrial v0 y v2 v3 v4 v5 := by kernel_rfl
theorem lk_Trial_running : (fTrial v0 v1 v2 v3 v4 v5).lookup ("running" : Str) = some v2 := by kernel_rfl
theorem pt_Trial_running : putF "running" y (fTrial v0 v1 v2 v3 v4 v5) = fTrial v0 v1 y v3 v4 v5 := by kernel_rfl
theorem lk_Trial_steps : (fTrial v0 v1 v2 v3 v4 v5).lookup ("steps" : Str) = some v3 := by kernel_rfl
theorem pt_Trial_steps : putF "steps" y (fTrial v0 v1 v2 v3 v4 v5) = fTrial v0 v1 v2 y v4 v5 := by kernel_rfl
theorem lk_Trial_waits : (fTrial v0 v1 v2 v3 v4 v5).lookup ("waits" : Str) = some v4 := by kernel_rfl
theorem pt_Trial_waits : putF "waits" y (fTrial v0 v1 v2 v3 v4 v5) = fTrial v0 v1 v2 v3 y v5 := by kernel_rfl
theorem lk_Trial_answer : (fTrial v0 v1 v2 v3 v4 v5).lookup ("answer" : Str) = some v5 := by kernel_rfl
theorem pt_Trial_answer : putF "answer" y (fTrial v0 v1 v2 v3 v4 v5) = fTrial v0 v1 v2 v3 v4 y := by kernel_rfl
theorem nf_Trial_1 : (putF "program" v0 []).length < 1000 := few (by kernel_rfl)
theorem nf_Trial_2 : (putF "puzzle" v1 (putF "program" v0 [])).length < 1000 := few (by kernel_rfl)
theorem nf_Trial_3 : (putF "running" v2 (putF "puzzle" v1 (putF "program" v0 []))).length < 1000 := few (by kernel_rfl)
theorem nf_Trial_4 : (putF "steps" v3 (putF "running" v2 (putF "puzzle" v1 (putF "program" v0 [])))).length < 1000 := few (by kernel_rfl)
theorem nf_Trial_5 : (putF "waits" v4 (putF "steps" v3 (putF "running" v2 (putF "puzzle" v1 (putF "program" v0 []))))).length < 1000 := few (by kernel_rfl)
theorem nw_Trial : putF "answer" v5 (putF "waits" v4 (putF "steps" v3 (putF "running" v2 (putF "puzzle" v1 (putF "program" v0 []))))) = fTrial v0 v1 v2 v3 v4 v5 := by kernel_rfl
end
def fThrong (v0 v1 v2 v3 v4 v5 v6 : V) : List (Str × V) := [("tongue", v0), ("puzzle", v1), ("given", v2), ("least", v3), ("due", v4), ("begun", v5), ("waiting", v6)]
section
variable {v0 v1 v2 v3 v4 v5 v6 y : V}
theorem fw_Throng : (fThrong v0 v1 v2 v3 v4 v5 v6).length < 1000 := few (by kernel_rfl)
theorem lk_Throng_tongue : (fThrong v0 v1 v2 v3 v4 v5 v6).lookup ("tongue" : Str) = some v0 := by kernel_rfl
theorem pt_Throng_tongue : putF "tongue" y (fThrong v0 v1 v2 v3 v4 v5 v6) = fThrong y v1 v2 v3 v4 v5 v6 := by kernel_rfl
theorem lk_Throng_puzzle : (fThrong v0 v1 v2 v3 v4 v5 v6).lookup ("puzzle" : Str) = some v1 := by kernel_rfl
theorem pt_Throng_puzzle : putF "puzzle" y (fThrong v0 v1 v2 v3 v4 v5 v6) = fThrong v0 y v2 v3 v4 v5 v6 := by kernel_rfl
theorem lk_Throng_given : (fThrong v0 v1 v2 v3 v4 v5 v6).lookup ("given" : Str) = some v2 := by kernel_rfl
theorem pt_Throng_given : putF "given" y (fThrong v0 v1 v2 v3 v4 v5 v6) = fThrong v0 v1 y v3 v4 v5 v6 := by kernel_rfl
theorem lk_Throng_least : (fThrong v0 v1 v2 v3 v4 v5 v6).lookup ("least" : Str) = some v3 := by kernel_rfl
theorem pt_Throng_least : putF "least" y (fThrong v0 v1 v2 v3 v4 v5 v6) = fThrong v0 v1 v2 y v4 v5 v6 := by kernel_rfl
theorem lk_Throng_due : (fThrong v0 v1 v2 v3 v4 v5 v6).lookup ("due" : Str) = some v4 := by kernel_rfl
theorem pt_Throng_due : putF "due" y (fThrong v0 v1 v2 v3 v4 v5 v6) = fThrong v0 v1 v2 v3 y v5 v6 := by kernel_rfl
theorem lk_Throng_begun : (fThrong v0 v1 v2 v3 v4 v5 v6).lookup ("begun" : Str) = some v5 := by kernel_rfl
theorem pt_Throng_begun : putF "begun" y (fThrong v0 v1 v2 v3 v4 v5 v6) = fThrong v0 v1 v2 v3 v4 y v6 := by kernel_rfl
theorem lk_Throng_waiting : (fThrong v0 v1 v2 v3 v4 v5 v6).lookup ("waiting" : Str) = some v6 := by kernel_rfl
theorem pt_Throng_waiting : putF "waiting" y (fThrong v0 v1 v2 v3 v4 v5 v6) = fThrong v0 v1 v2 v3 v4 v5 y := by kernel_rfl
theorem nf_Throng_1 : (putF "tongue" v0 []).length < 1000 := few (by kernel_rfl)
theorem nf_Throng_2 : (putF "puzzle" v1 (putF "tongue" v0 [])).length < 1000 := few (by kernel_rfl)
theorem nf_Throng_3 : (putF "given" v2 (putF "puzzle" v1 (putF "tongue" v0 []))).length < 1000 := few (by kernel_rfl)
theorem nf_Throng_4 : (putF "least" v3 (putF "given" v2 (putF "puzzle" v1 (putF "tongue" v0 [])))).length < 1000 := few (by kernel_rfl)
theorem nf_Throng_5 : (putF "due" v4 (putF "least" v3 (putF "given" v2 (putF "puzzle" v1 (putF "tongue" v0 []))))).length < 1000 := few (by kernel_rfl)
theorem nf_Throng_6 : (putF "begun" v5 (putF "due" v4 (putF "least" v3 (putF "given" v2 (putF "puzzle" v1 (putF "tongue" v0 [])))))).length < 1000 := few (by kernel_rfl)
theorem nw_Throng : putF "waiting" v6 (putF "begun" v5 (putF "due" v4 (putF "least" v3 (putF "given" v2 (putF "puzzle" v1 (putF "tongue" v0 [])))))) = fThrong v0 v1 v2 v3 v4 v5 v6 := by kernel_rfl
end
def fFound (v0 v1 v2 v3 v4 v5 : V) : List (Str × V) := [("word", v0), ("parts", v1), ("answer", v2), ("program", v3), ("step", v4), ("tick", v5)]
section
variable {v0 v1 v2 v3 v4 v5 y : V}
theorem fw_Found : (fFound v0 v1 v2 v3 v4 v5).length < 1000 := few (by kernel_rfl)
theorem lk_Found_word : (fFound v0 v1 v2 v3 v4 v5).lookup ("word" : Str) = some v0 := by kernel_rfl
theorem pt_Found_word : putF "word" y (fFound v0 v1 v2 v3 v4 v5) = fFound y v1 v2 v3 v4 v5 := by kernel_rfl
theorem lk_Found_parts : (fFound v0 v1 v2 v3 v4 v5).lookup ("parts" : Str) = some v1 := by kernel_rfl
theorem pt_Found_parts : putF "parts" y (fFound v0 v1 v2 v3 v4 v5) = fFound v0 y v2 v3 v4 v5 := by kernel_rfl
theorem lk_Found_answer : (fFound v0 v1 v2 v3 v4 v5).lookup ("answer" : Str) = some v2 := by kernel_rfl
theorem pt_Found_answer : putF "answer" y (fFound v0 v1 v2 v3 v4 v5) = fFound v0 v1 y v3 v4 v5 := by kernel_rfl
theorem lk_Found_program : (fFound v0 v1 v2 v3 v4 v5).lookup ("program" : Str) = some v3 := by kernel_rfl
theorem pt_Found_program : putF "program" y (fFound v0 v1 v2 v3 v4 v5) = fFound v0 v1 v2 y v4 v5 := by kernel_rfl
theorem lk_Found_step : (fFound v0 v1 v2 v3 v4 v5).lookup ("step" : Str) = some v4 := by kernel_rfl
theorem pt_Found_step : putF "step" y (fFound v0 v1 v2 v3 v4 v5) = fFound v0 v1 v2 v3 y v5 := by kernel_rfl
theorem lk_Found_tick : (fFound v0 v1 v2 v3 v4 v5).lookup ("tick" : Str) = some v5 := by kernel_rfl
theorem pt_Found_tick : putF "tick" y (fFound v0 v1 v2 v3 v4 v5) = fFound v0 v1 v2 v3 v4 y := by kernel_rfl
theorem nf_Found_1 : (putF "word" v0 []).length < 1000 := few (by kernel_rfl)
theorem nf_Found_2 : (putF "parts" v1 (putF "word" v0 [])).length < 1000 := few (by kernel_rfl)
theorem nf_Found_3 : (putF "answer" v2 (putF "parts" v1 (putF "word" v0 []))).length < 1000 := few (by kernel_rfl)
theorem nf_Found_4 : (putF "program" v3 (putF "answer" v2 (putF "parts" v1 (putF "word" v0 [])))).length < 1000 := few (by kernel_rfl)
theorem nf_Found_5 : (putF "step" v4 (putF "program" v3 (putF "answer" v2 (putF "parts" v1 (putF "word" v0 []))))).length < 1000 := few (by kernel_rfl)
theorem nw_Found : putF "tick" v5 (putF "step" v4 (putF "program" v3 (putF "answer" v2 (putF "parts" v1 (putF "word" v0 []))))) = fFound v0 v1 v2 v3 v4 v5 := by kernel_rfl
end
def fNotYet (v0 v1 v2 : V) : List (Str × V) := [("word", v0), ("parts", v1), ("tick", v2)]
section
variable {v0 v1 v2 y : V}
theorem fw_NotYet : (fNotYet v0 v1 v2).length < 1000 := few (by kernel_rfl)
theorem lk_NotYet_word : (fNotYet v0 v1 v2).lookup ("word" : Str) = some v0 := by kernel_rfl
theorem pt_NotYet_word : putF "word" y (fNotYet v0 v1 v2) = fNotYet y v1 v2 := by kernel_rfl
theorem lk_NotYet_parts : (fNotYet v0 v1 v2).lookup ("parts" : Str) = some v1 := by kernel_rfl
theorem pt_NotYet_parts : putF "parts" y (fNotYet v0 v1 v2) = fNotYet v0 y v2 := by kernel_rfl
theorem lk_NotYet_tick : (fNotYet v0 v1 v2).lookup ("tick" : Str) = some v2 := by kernel_rfl
theorem pt_NotYet_tick : putF "tick" y (fNotYet v0 v1 v2) = fNotYet v0 v1 y := by kernel_rfl
theorem nf_NotYet_1 : (putF "word" v0 []).length < 1000 := few (by kernel_rfl)
theorem nf_NotYet_2 : (putF "parts" v1 (putF "word" v0 [])).length < 1000 := few (by kernel_rfl)
theorem nw_NotYet : putF "tick" v2 (putF "parts" v1 (putF "word" v0 [])) = fNotYet v0 v1 v2 := by kernel_rfl
end
theorem no_Scan_ahead {v0 v1 : V} : (fScan v0 v1).lookup ("ahead" : Str) = none := by kernel_rfl
theorem no_Scan_take {v0 v1 : V} : (fScan v0 v1).lookup ("take" : Str) = none := by kernel_rfl
theorem no_Run_advance {v0 v1 v2 v3 v4 v5 v6 : V} : (fRun v0 v1 v2 v3 v4 v5 v6).lookup ("advance" : Str) = none := by kernel_rfl
theorem no_Trial_tried {v0 v1 v2 v3 v4 v5 : V} : (fTrial v0 v1 v2 v3 v4 v5).lookup ("tried" : Str) = none := by kernel_rfl
theorem no_Throng_fill {v0 v1 v2 v3 v4 v5 v6 : V} : (fThrong v0 v1 v2 v3 v4 v5 v6).lookup ("fill" : Str) = none := by kernel_rfl
theorem no_Throng_tried {v0 v1 v2 v3 v4 v5 v6 : V} : (fThrong v0 v1 v2 v3 v4 v5 v6).lookup ("tried" : Str) = none := by kernel_rfl
end K53
end TK53G

section TK53E
set_option maxHeartbeats 4000000

namespace K53
open PySem PySem.Spec PyProof.Rows L2
/-! ### runs, in plain words -/
structure RS where
  left : Int
  right : Int
  spot : Nat
  steps : Nat
  fallen : Bool
def inBox (i : Int) : Bool := decide (-1000000000000000000 ≤ i) && decide (i ≤ 1000000000000000000)
def wordAt (p : List Str) (s : Nat) : Str := p.getD s "end"
def nextSpot (n s : Nat) (b : Bool) : Nat := if b = true then (s + 2) % (n + 1) else (s + 1) % (n + 1)
def changedM (w : Str) (l r : Int) : Int := if w = ("up" : Str) then l + 1 else if w = ("down" : Str) then l - 1 else if w = ("add" : Str) then l + r else if w = ("times" : Str) then l * r else l
def stepR (p : List Str) (r : RS) : RS × Option Int :=
  if r.fallen = true then ({ r with steps := r.steps + 1 }, none)
  else
    let s' := nextSpot p.length r.spot (decide (wordAt p r.spot = ("skip" : Str)) && !decide (r.left = 0))
    if wordAt p r.spot = ("say" : Str) then (⟨r.left, r.right, s', r.steps + 1, false⟩, some r.left)
    else if wordAt p r.spot = ("swap" : Str) then (⟨r.right, r.left, s', r.steps + 1, !inBox r.right⟩, none)
    else (⟨changedM (wordAt p r.spot) r.left r.right, r.right, s', r.steps + 1, !inBox (changedM (wordAt p r.spot) r.left r.right)⟩, none)
structure RS.Ok (p : List Str) (r : RS) : Prop where
  right : inBox r.right = true
  left : r.fallen = false → inBox r.left = true
  spot : r.spot ≤ p.length
theorem stepR_ok {p : List Str} {r : RS} (h : r.Ok p) : (stepR p r).1.Ok p := by
  unfold stepR
  have hs : ∀ b, nextSpot p.length r.spot b ≤ p.length := fun b => by
    unfold nextSpot
    split
    · exact Nat.le_of_lt_succ (Nat.mod_lt _ (by omega))
    · exact Nat.le_of_lt_succ (Nat.mod_lt _ (by omega))
  cases hf : r.fallen with
  | true =>
    rw [if_pos rfl]
    exact ⟨h.right, (fun q => by cases q), h.spot⟩
  | false =>
    rw [if_neg Bool.false_ne_true]
    have hl := h.left hf
    dsimp only
    split
    · exact ⟨h.right, fun _ => hl, hs _⟩
    · split
      · exact ⟨hl, fun _ => h.right, hs _⟩
      · refine ⟨h.right, fun q => ?_, hs _⟩
        have q2 : (!inBox (changedM (wordAt p r.spot) r.left r.right)) = false := q
        cases e : inBox (changedM (wordAt p r.spot) r.left r.right) with
        | true => rfl
        | false =>
          rw [e] at q2
          cases q2
theorem stepR_say {p : List Str} {r : RS} (h : r.Ok p) {i : Int} (e : (stepR p r).2 = some i) : inBox i = true := by
  unfold stepR at e
  cases hf : r.fallen with
  | true =>
    rw [hf, if_pos rfl] at e
    cases e
  | false =>
    rw [hf, if_neg Bool.false_ne_true] at e
    dsimp only at e
    split at e
    · cases e
      exact h.left hf
    · split at e <;> cases e
theorem inBox_iff {i : Int} : inBox i = true ↔ -1000000000000000000 ≤ i ∧ i ≤ 1000000000000000000 := by
  unfold inBox
  rw [Bool.and_eq_true, decide_eq_true_eq, decide_eq_true_eq]
def runF (tp : Addr) (g : Int) (r : RS) : List (Str × V) := fRun (.ref tp) (.int g) (.int r.left) (.int r.right) (.int (r.spot : Int)) (.int (r.steps : Int)) (.bl r.fallen)
section
variable {P : Program} {w : World} {K : PySem.W.Frag} {mg : Str → Option Value} {base : Heap}
abbrev N_need_tongue : List Str := ["value", "part"]
theorem sc_need_tongue : FnScope N_need_tongue ["value", "part"] (defScope s_need_tongue) := ⟨rfl, rfl, rfl, by decide +kernel, rfl, by decide +kernel, by decide +kernel⟩
def sp_need_tongue (K : PySem.W.Frag) : Sp := fun vs H Q _ => ∃ (a dx : Addr) (fs : List (Str × V)) (x : V), vs = [.ref a, x] ∧ H a = some (.ins (He.ga K "Tongue") dx fs) ∧ Q .non H
theorem ok_need_tongue (T : TX w K mg) : FnX P w K mg base 1 ("need_tongue", none) ["value", "part"] [.str "tongue"] (sp_need_tongue K) := by
  refine FnX.of1 T.qd_need_tongue rfl sc_need_tongue (fun vs H Q E h => ?_) (fun T kV doc pm an cdv ct us its hu hi => match us, its, hu, hi with | [_], [_], _, _ => ⟨_, rfl, rfl⟩) (fun cdv A outer s H vs Q E hr h => ?_)
  · obtain ⟨a, dx, fs, x, rfl, _⟩ := h
    rfl
  · obtain ⟨a, dx, fs, x, rfl, ha, k⟩ := h
    refine ⟨_, (pss_one (ps_if (pt_not (pt_val (pe_callB call_isi (by rfl) (T.f "isinstance") bt_isinstance (pa_cons (pv 0) (pa_cons (pe_gr (by rfl) (T.g "Tongue")) pa_nil))))) (pss_one ps_never) pss_nil)), ?_⟩
    exact ⟨_, rfl, _, _, _, _, true, rfl, .own _, T.ins "Tongue" (by decide +kernel) ha, T.kit "Tongue" (by decide +kernel), _, rfl, iteF k⟩
abbrev N_need_puzzle : List Str := ["value", "part"]
theorem sc_need_puzzle : FnScope N_need_puzzle ["value", "part"] (defScope s_need_puzzle) := ⟨rfl, rfl, rfl, by decide +kernel, rfl, by decide +kernel, by decide +kernel⟩
def sp_need_puzzle (K : PySem.W.Frag) : Sp := fun vs H Q _ => ∃ (a dx : Addr) (fs : List (Str × V)) (x : V), vs = [.ref a, x] ∧ H a = some (.ins (He.ga K "Puzzle") dx fs) ∧ Q .non H
theorem ok_need_puzzle (T : TX w K mg) : FnX P w K mg base 1 ("need_puzzle", none) ["value", "part"] [] (sp_need_puzzle K) := by
  refine FnX.of2 T.qd_need_puzzle rfl sc_need_puzzle (fun vs H Q E h => ?_) (fun T kV doc pm an cdv ct us its hu hi => match us, its, hu, hi with | [_, _], [_], _, _ => ⟨_, rfl, rfl⟩) (fun cdv A outer s H vs Q E hr h => ?_)
  · obtain ⟨a, dx, fs, x, rfl, _⟩ := h
    rfl
  · obtain ⟨a, dx, fs, x, rfl, ha, k⟩ := h
    refine ⟨_, (pss_one (ps_if (pt_not (pt_val (pe_callB call_isi (by rfl) (T.f "isinstance") bt_isinstance (pa_cons (pv 0) (pa_cons (pe_gr (by rfl) (T.g "Puzzle")) pa_nil))))) (pss_one ps_never) pss_nil)), ?_⟩
    exact ⟨_, rfl, _, _, _, _, true, rfl, .own _, T.ins "Puzzle" (by decide +kernel) ha, T.kit "Puzzle" (by decide +kernel), _, rfl, iteF k⟩
abbrev N_need_program : List Str := ["value", "part"]
theorem sc_need_program : FnScope N_need_program ["value", "part"] (defScope s_need_program) := ⟨rfl, rfl, rfl, by decide +kernel, rfl, by decide +kernel, by decide +kernel⟩
def sp_need_program (K : PySem.W.Frag) : Sp := fun vs H Q _ => ∃ (a : Addr) (p : List Str) (x : V), vs = [.ref a, x] ∧ H a = some (.tup (p.map V.str)) ∧ Pg p ∧ ∀ H', Same H H' → Q (.ref a) H'
theorem ok_need_program (T : TX w K mg) : FnX P w K mg base 2 ("need_program", none) ["value", "part"] [.str "program"] (sp_need_program K) := by
  refine FnX.of1 T.qd_need_program rfl sc_need_program (fun vs H Q E h => ?_) (fun T kV doc pm an cdv ct us its hu hi => match us, its, hu, hi with | [_], [_], _, _ => ⟨_, rfl, rfl⟩) (fun cdv A outer s H vs Q E hr h => ?_)
  · obtain ⟨a, p, x, rfl, _⟩ := h
    rfl
  · obtain ⟨a, p, x, rfl, ha, hp, k⟩ := h
    refine ⟨_, (pss_cons (ps_if (pt_not (pt_val (pe_fx (ok_is_program T) (hr.mono (by decide)) (by rfl) (T.g "is_program") (pa_cons (pv 0) pa_nil)))) (pss_one ps_never) pss_nil)
  (pss_one (ps_ret (pe_callTy call_tuple_of (by rfl) (T.f "tuple") bt_tuple (pa_cons (pv 0) pa_nil))))), ?_⟩
    refine ⟨_, rfl, a, p, rfl, ha, hp, fun H1 s1 => ⟨true, rfl, iteF ?_⟩⟩
    exact ⟨_, rfl, a, _, rfl, .inr ⟨SqT.of (s1 _ _ ha), k _ s1⟩⟩
abbrev N_next_spot : List Str := ["program", "spot", "is_passing", "many"]
theorem sc_next_spot : FnScope N_next_spot ["program", "spot", "is_passing"] (defScope s_next_spot) := ⟨rfl, rfl, rfl, by decide +kernel, rfl, by decide +kernel, by decide +kernel⟩
def sp_next_spot (K : PySem.W.Frag) : Sp := fun vs H Q _ => ∃ (a : Addr) (xs : List V) (s : Nat) (b : Bool), vs = [.ref a, .int (s : Int), .bl b] ∧ SqT K H a xs ∧ Q (.int (nextSpot xs.length s b : Nat)) H
theorem ok_next_spot (T : TX w K mg) : FnX P w K mg base 1 ("next_spot", none) ["program", "spot", "is_passing"] [] (sp_next_spot K) := by
  refine FnX.of T.qd_next_spot rfl sc_next_spot (fun vs H Q E h => ?_) (fun _ _ _ _ _ _ us hl => match us, hl with | [_, _, _], _ => rfl) (fun cdv A outer s H vs Q E hr h => ?_)
  · obtain ⟨a, xs, s, b, rfl, _⟩ := h
    rfl
  · obtain ⟨a, xs, s, b, rfl, ha, k⟩ := h
    refine ⟨_, (pss_cons (ps_set (i := 3) sc_next_spot.nd rfl (by first | exact .inl rfl | exact .inr rfl) (pe_op op_add (pe_callB call_len_seq (by rfl) (T.f "len") PySem.boot_len (pa_cons (pv 0) pa_nil)) pe_int))
  (pss_one (ps_ret (pe_ifExp (pt_not (pt_val (pv 2))) (pe_op op_mod (pe_op op_add (pv 1) pe_int) (pv 3)) (pe_op op_mod (pe_op op_add (pv 1) pe_int) (pv 3)))))), ?_⟩
    refine ⟨_, rfl, a, xs, rfl, .inr ha, _, _, rfl, rfl, _, rfl, b, rfl, ?_⟩
    cases b with
    | false =>
      refine iteT ⟨_, rfl, _, _, rfl, rfl, _, rfl, _, _, rfl, rfl, (by show (0 : Int) < (xs.length : Int) + 1; omega), ?_⟩
      have e : ((s : Int) + 1) % ((xs.length : Int) + 1) = ((nextSpot xs.length s false : Nat) : Int) := by
        unfold nextSpot
        rw [if_neg Bool.false_ne_true]
        push_cast
        rfl
      show Q (.int (((s : Int) + 1) % ((xs.length : Int) + 1))) H
      rw [e]
      exact k
    | true =>
      refine iteF ⟨_, rfl, _, _, rfl, rfl, _, rfl, _, _, rfl, rfl, (by show (0 : Int) < (xs.length : Int) + 1; omega), ?_⟩
      have e : ((s : Int) + 2) % ((xs.length : Int) + 1) = ((nextSpot xs.length s true : Nat) : Int) := by
        unfold nextSpot
        rw [if_pos rfl]
        push_cast
        rfl
      show Q (.int (((s : Int) + 2) % ((xs.length : Int) + 1))) H
      rw [e]
      exact k
abbrev N_changed : List Str := ["word", "left", "right"]
theorem sc_changed : FnScope N_changed ["word", "left", "right"] (defScope s_changed) := ⟨rfl, rfl, rfl, by decide +kernel, rfl, by decide +kernel, by decide +kernel⟩
def sp_changed : Sp := fun vs H Q _ => ∃ (z : Str) (l r : Int), vs = [.str z, .int l, .int r] ∧ inBox l = true ∧ Q (.int (changedM z l r)) H
theorem ok_changed (T : TX w K mg) : FnX P w K mg base 1 ("changed", none) ["word", "left", "right"] [] sp_changed := by
  refine FnX.of T.qd_changed rfl sc_changed (fun vs H Q E h => ?_) (fun _ _ _ _ _ _ us hl => match us, hl with | [_, _, _], _ => rfl) (fun cdv A outer s H vs Q E hr h => ?_)
  · obtain ⟨z, l, r, rfl, _⟩ := h
    rfl
  · obtain ⟨z, l, r, rfl, hl, k⟩ := h
    have hb := inBox_iff.mp hl
    refine ⟨_, (pss_cons (ps_if (pt_cmpR op_eq (pv 0) pe_str (nomark _)) (pss_one (ps_ret (pe_op op_add (pv 1) pe_int))) pss_nil)
  (pss_cons (ps_if (pt_cmpR op_eq (pv 0) pe_str (nomark _)) (pss_one (ps_ret (pe_op op_sub (pv 1) pe_int))) pss_nil)
  (pss_cons (ps_if (pt_cmpR op_eq (pv 0) pe_str (nomark _)) (pss_one (ps_ret (pe_op op_add (pv 1) (pv 2)))) pss_nil)
  (pss_one (ps_ret (pe_ifExp (pt_cmpR op_eq (pv 0) pe_str (nomark _)) (pe_op op_mul (pv 1) (pv 2)) (pv 1))))))), ?_⟩
    unfold changedM at k
    refine ⟨_, rfl, rfl, _, rfl, ?_⟩
    refine ite2 (fun h1 => ?_) (fun h1 => ?_)
    · rw [if_pos (V.str.inj (of_decide_eq_true h1))] at k
      exact ⟨_, rfl, _, _, rfl, rfl, k⟩
    · rw [if_neg fun q => h1 (decide_eq_true (congrArg V.str q))] at k
      refine ⟨_, rfl, rfl, _, rfl, ?_⟩
      refine ite2 (fun h2 => ?_) (fun h2 => ?_)
      · rw [if_pos (V.str.inj (of_decide_eq_true h2))] at k
        exact ⟨_, rfl, _, _, rfl, rfl, k⟩
      · rw [if_neg fun q => h2 (decide_eq_true (congrArg V.str q))] at k
        refine ⟨_, rfl, rfl, _, rfl, ?_⟩
        refine ite2 (fun h3 => ?_) (fun h3 => ?_)
        · rw [if_pos (V.str.inj (of_decide_eq_true h3))] at k
          exact ⟨_, rfl, _, rfl, _, _, rfl, rfl, k⟩
        · rw [if_neg fun q => h3 (decide_eq_true (congrArg V.str q))] at k
          refine ⟨_, rfl, rfl, _, rfl, ?_⟩
          refine ite2 (fun h4 => ?_) (fun h4 => ?_)
          · rw [if_pos (V.str.inj (of_decide_eq_true h4))] at k
            exact ⟨_, rfl, _, rfl, _, _, rfl, rfl, .inl ⟨by omega, by omega⟩, k⟩
          · rw [if_neg fun q => h4 (decide_eq_true (congrArg V.str q))] at k
            exact ⟨_, rfl, k⟩
end
end K53
end TK53E

section TK53F
set_option maxHeartbeats 4000000

namespace K53
open PySem PySem.Spec PyProof.Rows L2
section
variable {P : Program} {w : World} {K : PySem.W.Frag} {mg : Str → Option Value} {base : Heap}
abbrev N_Run_init : List Str := ["self", "program", "given", "told"]
theorem sc_Run_init : FnScope N_Run_init ["self", "program", "given"] (defScope s_Run_init) := ⟨rfl, rfl, rfl, by decide +kernel, rfl, by decide +kernel, by decide +kernel⟩
def sp_Run_init (K : PySem.W.Frag) : Sp := fun vs H Q _ => ∃ (x dx tp : Addr) (p : List Str) (g : Int), vs = [.ref x, .ref tp, .int g] ∧ H x = some (.ins (He.ga K "Run") dx []) ∧ H tp = some (.tup (p.map V.str)) ∧ Pg p ∧ inBox g = true ∧
  ∀ H', SameX x H H' → H' x = some (.ins (He.ga K "Run") dx (runF tp g ⟨0, g, 0, 0, false⟩)) → Q .non H'
theorem ok_Run_init (T : TX w K mg) : FnX P w K mg base 4 ("Run", some "__init__") ["self", "program", "given"] [] (sp_Run_init K) := by
  refine FnX.of T.qd_Run_init rfl sc_Run_init (fun vs H Q E h => ?_) (fun _ _ _ _ _ _ us hl => match us, hl with | [_, _, _], _ => rfl) (fun cdv A outer s H vs Q E hr h => ?_)
  · obtain ⟨x, dx, tp, p, g, rfl, _⟩ := h
    rfl
  · obtain ⟨x, dx, tp, p, g, rfl, hx, ht, hp, hg, k⟩ := h
    have hb := inBox_iff.mp hg
    refine ⟨_, (pss_cons (ps_set (i := 3) sc_Run_init.nd rfl (by first | exact .inl rfl | exact .inr rfl) (pe_fx (ok_need_program T) (hr.mono (by decide)) (by rfl) (T.g "need_program") (pa_cons (pv 1) pa_nil)))
  (pss_cons (ps_expr (pe_fx (ok_need_number T) (hr.mono (by decide)) (by rfl) (T.g "need_number") (pa_cons (pv 2) (pa_cons pe_str (pa_cons (pe_un un_neg (pe_gi (by rfl) (T.i "MOST_BOX" 1000000000000000000))) (pa_cons (pe_gi (by rfl) (T.i "MOST_BOX" 1000000000000000000)) pa_nil))))))
  (pss_cons (ps_fld (pv 0) (pv 3) rfl)
  (pss_cons (ps_fld (pv 0) (pv 2) rfl)
  (pss_cons (ps_fld (pv 0) pe_int rfl)
  (pss_cons (ps_fld (pv 0) (pv 2) rfl)
  (pss_cons (ps_fld (pv 0) pe_int rfl)
  (pss_cons (ps_fld (pv 0) pe_int rfl)
  (pss_one (ps_fld (pv 0) pe_bl rfl)))))))))), ?_⟩
    refine ⟨_, rfl, tp, p, _, rfl, ht, hp, fun H1 s1 => ?_⟩
    refine ⟨_, rfl, _, rfl, g, _, _, _, rfl, hb.1, hb.2, ?_⟩
    refine ⟨_, rfl, _, rfl, x, _, dx, _, rfl, s1 _ _ hx, T.cls "Run", T.na "Run" "program", by decide, ?_⟩
    refine ⟨_, rfl, _, rfl, x, _, dx, _, rfl, upd_same, T.cls "Run", T.na "Run" "given", nf_Run_1, ?_⟩
    refine ⟨_, rfl, x, _, dx, _, rfl, upd_same, T.cls "Run", T.na "Run" "left", nf_Run_2, ?_⟩
    refine ⟨_, rfl, _, rfl, x, _, dx, _, rfl, upd_same, T.cls "Run", T.na "Run" "right", nf_Run_3, ?_⟩
    refine ⟨_, rfl, x, _, dx, _, rfl, upd_same, T.cls "Run", T.na "Run" "spot", nf_Run_4, ?_⟩
    refine ⟨_, rfl, x, _, dx, _, rfl, upd_same, T.cls "Run", T.na "Run" "steps", nf_Run_5, ?_⟩
    refine ⟨_, rfl, x, _, dx, _, rfl, upd_same, T.cls "Run", T.na "Run" "has_fallen", nf_Run_6, ?_⟩
    exact k _ (Same.x s1).put.put.put.put.put.put.put (by rw [upd_same, nw_Run]; rfl)
abbrev N_Run_advance : List Str := ["self", "word"]
theorem sc_Run_advance : FnScope N_Run_advance ["self"] (defScope s_Run_advance) := ⟨rfl, rfl, rfl, by decide +kernel, rfl, by decide +kernel, by decide +kernel⟩
def sayV : Option Int → V
  | some i => .int i
  | none => .non
def sp_Run_advance (K : PySem.W.Frag) : Sp := fun vs H Q _ => ∃ (x dx tp : Addr) (p : List Str) (g : Int) (r : RS), vs = [.ref x] ∧ H x = some (.ins (He.ga K "Run") dx (runF tp g r)) ∧ H tp = some (.tup (p.map V.str)) ∧ p.length ≤ 200 ∧ r.Ok p ∧
  ∀ H', SameX x H H' → H' x = some (.ins (He.ga K "Run") dx (runF tp g (stepR p r).1)) → Q (sayV (stepR p r).2) H'
theorem ok_Run_advance (T : TX w K mg) : FnX P w K mg base 4 ("Run", some "advance") ["self"] [] (sp_Run_advance K) := by
  refine FnX.of T.qd_Run_advance rfl sc_Run_advance (fun vs H Q E h => ?_) (fun _ _ _ _ _ _ us hl => match us, hl with | [_], _ => rfl) (fun cdv A outer s H vs Q E hr h => ?_)
  · obtain ⟨x, dx, tp, p, g, r, rfl, _⟩ := h
    rfl
  · obtain ⟨x, dx, tp, p, g, r, rfl, hx, ht, hp, ok, k⟩ := h
    have cR := T.cls "Run"
    have ntx : tp ≠ x := ne_of ht hx (by intro q; cases q)
    unfold runF at hx
    refine ⟨_, (pss_cons (ps_fld (pv 0) (pe_op op_add (pe_fld (pv 0) rfl) pe_int) rfl)
  (pss_cons (ps_if (pt_val (pe_fld (pv 0) rfl)) (pss_one (ps_ret pe_non)) pss_nil)
  (pss_cons (ps_set (i := 1) sc_Run_advance.nd rfl (by first | exact .inl rfl | exact .inr rfl) (pe_ifExp (pt_cmpR op_lt (pe_fld (pv 0) rfl) (pe_callB call_len_seq (by rfl) (T.f "len") PySem.boot_len (pa_cons (pe_fld (pv 0) rfl) pa_nil)) (nomark _)) (pe_ix ix_tup (pe_fld (pv 0) rfl) (pe_fld (pv 0) rfl) (fun _ _ => rfl)) (pe_gs (by rfl) (T.s "END_runs" "end"))))
  (pss_cons (ps_fld (pv 0) (pe_fx (ok_next_spot T) (hr.mono (by decide)) (by rfl) (T.g "next_spot") (pa_cons (pe_fld (pv 0) rfl) (pa_cons (pe_fld (pv 0) rfl) (pa_cons (pe_and (pe_cmpR op_eq (pv 1) pe_str (nomark _)) (pe_one (pe_cmpR op_ne (pe_fld (pv 0) rfl) pe_int (nomark _)))) pa_nil)))) rfl)
  (pss_cons (ps_if (pt_cmpR op_eq (pv 1) pe_str (nomark _)) (pss_one (ps_ret (pe_fld (pv 0) rfl))) pss_nil)
  (pss_cons (ps_if (pt_cmpR op_eq (pv 1) pe_str (nomark _)) (pss_one (ps_asg (pe_tup (pa_cons (pe_fld (pv 0) rfl) (pa_cons (pe_fld (pv 0) rfl) pa_nil))) (pg_tup (n := 2) rfl (pgs_cons (pg_fld (pv 0)) (pgs_cons (pg_fld (pv 0)) pgs_nil))))) (pss_one (ps_fld (pv 0) (pe_fx (ok_changed T) (hr.mono (by decide)) (by rfl) (T.g "changed") (pa_cons (pv 1) (pa_cons (pe_fld (pv 0) rfl) (pa_cons (pe_fld (pv 0) rfl) pa_nil)))) rfl)))
  (pss_cons (ps_fld (pv 0) (pe_not (pe_fx (ok_is_within T) (hr.mono (by decide)) (by rfl) (T.g "is_within") (pa_cons (pe_fld (pv 0) rfl) (pa_cons (pe_un un_neg (pe_gi (by rfl) (T.i "MOST_BOX" 1000000000000000000))) (pa_cons (pe_gi (by rfl) (T.i "MOST_BOX" 1000000000000000000)) pa_nil))))) rfl)
  (pss_one (ps_ret pe_non))))))))), ?_⟩
    -- self.steps = self.steps + 1
    refine ⟨_, rfl, x, _, dx, _, _, rfl, hx, cR, T.na "Run" "steps", lk_Run_steps, _, _, rfl, rfl, _, rfl, x, _, dx, _, rfl, hx, cR, T.na "Run" "steps", fw_Run, ?_⟩
    rw [pt_Run_steps]
    -- if self.has_fallen: return None
    refine ⟨_, rfl, x, _, dx, _, _, rfl, upd_same, cR, T.na "Run" "has_fallen", lk_Run_has_fallen, _, rfl, ?_⟩
    unfold stepR at k
    cases hf : r.fallen with
    | true =>
      rw [hf, if_pos rfl] at k
      refine iteT ?_
      exact k _ (SameX.refl x H).put upd_same
    | false =>
      rw [hf, if_neg Bool.false_ne_true] at k
      dsimp only at k
      refine iteF ?_
      -- word = ..
      have htp : ∀ o, upd H x o tp = some (.tup (p.map V.str)) := fun o => by
        rw [upd_ne ntx]
        exact ht
      have hl := ok.left hf
      refine ⟨_, rfl, x, _, dx, _, _, rfl, upd_same, cR, T.na "Run" "spot", lk_Run_spot, _, rfl, x, _, dx, _, _, rfl, upd_same, cR, T.na "Run" "program", lk_Run_program, tp, _, rfl, .inr (SqT.of (htp _)), _, _, rfl, rfl, _, rfl, ?_⟩
      have ew : ∀ j : Nat, p[r.spot]? = some (wordAt p r.spot) ∨ p.length ≤ r.spot := fun _ => by
        by_cases h : r.spot < p.length
        · left
          unfold wordAt
          rw [List.getD_eq_getElem?_getD, List.getElem?_eq_getElem h]
          rfl
        · right
          omega
      refine tif_join (V.str (wordAt p r.spot)) (fun h1 Q' q => ?_) (fun h1 Q' q => ?_) ?_
      · have h2 : r.spot < p.length := by
          have := of_decide_eq_true h1
          rw [List.length_map] at this
          omega
        refine ⟨_, rfl, x, _, dx, _, _, rfl, upd_same, cR, T.na "Run" "program", lk_Run_program, _, rfl, x, _, dx, _, _, rfl, upd_same, cR, T.na "Run" "spot", lk_Run_spot, tp, _, _, _, rfl, rfl, SqT.of (htp _), atI_nat (v := V.str (wordAt p r.spot)) ?_, q⟩
        rw [List.getElem?_map, (ew 0).resolve_right (by omega)]
        rfl
      · have h2 : ¬ r.spot < p.length := by
          have := of_decide_eq_false h1
          rw [List.length_map] at this
          omega
        have e : wordAt p r.spot = "end" := by
          unfold wordAt
          rw [List.getD_eq_getElem?_getD, List.getElem?_eq_none (by omega)]
          rfl
        show Q' (V.str "end") _
        rw [← e]
        exact q
      generalize ewd : wordAt p r.spot = wd at k ⊢
      -- self.spot = next_spot(..)
      refine ⟨_, rfl, x, _, dx, _, _, rfl, upd_same, cR, T.na "Run" "program", lk_Run_program, _, rfl, x, _, dx, _, _, rfl, upd_same, cR, T.na "Run" "spot", lk_Run_spot, _, rfl, rfl, _, rfl, ?_⟩
      refine tand_join (decide (wd = ("skip" : Str)) && !decide (r.left = 0)) (fun h1 Q' q => ?_) (fun h1 => ?_) ?_
      · have h2 : wd = ("skip" : Str) := V.str.inj (of_decide_eq_true h1)
        refine ⟨_, rfl, x, _, dx, _, _, rfl, upd_same, cR, T.na "Run" "left", lk_Run_left, rfl, ?_⟩
        rw [decide_eq_true h2, Bool.true_and] at q
        have e : decide (V.int r.left = V.int 0) = decide (r.left = 0) := by
          by_cases h : r.left = 0
          · rw [h]
            rfl
          · rw [decide_eq_false h, decide_eq_false fun z => h (V.int.inj z)]
        rw [e]
        exact q
      · have h2 : ¬ wd = ("skip" : Str) := fun z => of_decide_eq_false h1 (congrArg V.str z)
        rw [decide_eq_false h2, Bool.false_and]
      refine ⟨tp, _, r.spot, _, rfl, SqT.of (htp _), ?_⟩
      refine ⟨_, rfl, x, _, dx, _, rfl, upd_same, cR, T.na "Run" "spot", fw_Run, ?_⟩
      rw [pt_Run_spot, upd_upd, List.length_map]
      generalize nextSpot p.length r.spot (decide (wd = ("skip" : Str)) && !decide (r.left = 0)) = sp' at k ⊢
      -- if word == "say": return self.left
      refine ⟨_, rfl, rfl, _, rfl, ?_⟩
      by_cases w1 : wd = ("say" : Str)
      · rw [decide_eq_true (congrArg V.str w1)]
        simp only [w1, if_true] at k
        refine iteT ⟨_, rfl, x, _, dx, _, _, rfl, upd_same, cR, T.na "Run" "left", lk_Run_left, ?_⟩
        refine k _ (SameX.refl x H).put ?_
        rw [upd_same]
        rfl
      rw [decide_eq_false fun z => w1 (V.str.inj z)]
      simp only [w1, if_false] at k
      refine iteF ?_
      refine ⟨_, rfl, rfl, _, rfl, ?_⟩
      by_cases w2 : wd = ("swap" : Str)
      · rw [decide_eq_true (congrArg V.str w2)]
        simp only [w2, if_true] at k
        refine iteT ⟨_, rfl, x, _, dx, _, _, rfl, upd_same, cR, T.na "Run" "right", lk_Run_right, _, rfl, x, _, dx, _, _, rfl, upd_same, cR, T.na "Run" "left", lk_Run_left, two_le, fun t nt => ?_⟩
        have nxt : x ≠ t := fun z => by
          rw [← z, upd_same] at nt
          cases nt
        refine ⟨t, _, rfl, SqT.of upd_same, rfl, _, _, rfl, _, rfl, x, _, dx, _, rfl, (by rw [upd_ne nxt, upd_same]), cR, T.na "Run" "left", fw_Run, _, _, rfl, _, rfl, x, _, dx, _, rfl, upd_same, cR, T.na "Run" "right", (by rw [pt_Run_left]; exact fw_Run), rfl, ?_⟩
        refine ⟨_, rfl, x, _, dx, _, _, rfl, upd_same, cR, T.na "Run" "left", (by rw [pt_Run_left, pt_Run_right]; exact lk_Run_left), _, rfl, _, _, _, rfl, _, rfl, ?_⟩
        refine ⟨_, rfl, x, _, dx, _, rfl, upd_same, cR, T.na "Run" "has_fallen", (by rw [pt_Run_left, pt_Run_right]; exact fw_Run), ?_⟩
        have nt0 : H t = none := by
          rw [upd_ne (Ne.symm nxt)] at nt
          exact nt
        refine k _ ((((SameX.refl x H).put.trans (SameX.new nt)).put).put.put) ?_
        rw [upd_same, pt_Run_left, pt_Run_right, pt_Run_has_fallen]
        rfl
      rw [decide_eq_false fun z => w2 (V.str.inj z)]
      simp only [w2, if_false] at k
      refine iteF ?_
      -- self.left = changed(..)
      refine ⟨_, rfl, _, rfl, x, _, dx, _, _, rfl, upd_same, cR, T.na "Run" "left", lk_Run_left, _, rfl, x, _, dx, _, _, rfl, upd_same, cR, T.na "Run" "right", lk_Run_right, wd, r.left, r.right, rfl, hl, ?_⟩
      refine ⟨_, rfl, x, _, dx, _, rfl, upd_same, cR, T.na "Run" "left", fw_Run, ?_⟩
      rw [pt_Run_left, upd_upd]
      refine ⟨_, rfl, x, _, dx, _, _, rfl, upd_same, cR, T.na "Run" "left", lk_Run_left, _, rfl, _, _, _, rfl, _, rfl, ?_⟩
      refine ⟨_, rfl, x, _, dx, _, rfl, upd_same, cR, T.na "Run" "has_fallen", fw_Run, ?_⟩
      refine k _ (SameX.refl x H).put.put ?_
      rw [upd_same, pt_Run_has_fallen]
      rfl
end
end K53
end TK53F

section TK53H
set_option maxHeartbeats 4000000

namespace K53
open PySem PySem.Spec PyProof.Rows L2 SX
/-! ### numbers as signs -/
def numI (i : Int) : List Nat := if i < 0 then 45 :: TL.numL i.natAbs else TL.numL i.natAbs
theorem numI_S (i : Int) : Str.ofString (toString i) = S (numI i) := by
  unfold numI
  cases i with
  | ofNat n =>
    rw [if_neg (show ¬ (Int.ofNat n < 0) from Int.not_lt.mpr (Int.natCast_nonneg n))]
    exact num_S n
  | negSucc n =>
    rw [if_pos (Int.negSucc_lt_zero n)]
    have e : toString (Int.negSucc n) = "-" ++ toString ((n + 1 : Nat) : Int) := rfl
    rw [e]
    have e2 : Str.ofString ("-" ++ toString ((n + 1 : Nat) : Int)) = Str.ofString "-" ++ Str.ofString (toString ((n + 1 : Nat) : Int)) := by
      rw [Str.ofString_eq_toList, Str.ofString_eq_toList, Str.ofString_eq_toList]
      have z := S_cat (("-" : String).toList.map Char.toNat) ((toString ((n + 1 : Nat) : Int)).toList.map Char.toNat)
      rw [String.toList_append, List.map_append]
      exact z.symm
    rw [e2, num_S]
    exact S_cat [45] (TL.numL (n + 1))
theorem numI_neg {i : Int} (h : i < 0) : numI i = 45 :: TL.numL i.natAbs := if_pos h
theorem numI_pos {i : Int} (h : ¬ i < 0) : numI i = TL.numL i.natAbs := if_neg h
/-- no number of at least 1 begins with the sign 0 -/
theorem numL_head {n : Nat} (h : 0 < n) : ∀ c, (TL.numL n)[0]? = some c → c ≠ 48 := by
  induction n using Nat.strongRecOn with
  | _ n ih =>
    intro c hc
    by_cases h10 : n < 10
    · rw [TL.numL_lt h10] at hc
      simp at hc
      omega
    · rw [TL.numL_step (by omega)] at hc
      have hne := TL.numL_ne (n / 10)
      have hl : 0 < (TL.numL (n / 10)).length := List.length_pos_iff.mpr hne
      rw [List.getElem?_append_left hl] at hc
      exact ih (n / 10) (by omega) (by omega) c hc
theorem numI_len {i : Int} (h : i.natAbs < 10 ^ 100) : (numI i).length ≤ 101 := by
  unfold numI
  have := TL.numL_len (n := i.natAbs) (k := 100) (by decide) h
  split
  · rw [List.length_cons]
    omega
  · omega
theorem numI_read {i : Int} (h : i.natAbs < 10 ^ 100) : PySem.intText? (S (numI i)) = some i := by
  have hl := numI_len h
  by_cases hi : i < 0
  · rw [numI_neg hi]
    have e := PySem.intText_neg (x := S (45 :: TL.numL i.natAbs)) (cs := TL.numL i.natAbs) rfl (TL.numL_digits _) (TL.numL_ne _) (by rw [S_len, ← numI_neg hi]; omega)
    rw [e, TL.numL_val]
    congr 1
    omega
  · rw [numI_pos hi]
    have e := PySem.intText_digits (x := S (TL.numL i.natAbs)) (TL.numL_digits _) (TL.numL_ne _) (by rw [S_len, ← numI_pos hi]; omega)
    rw [e]
    show some ((NumText.digitsVal (TL.numL i.natAbs) : Nat) : Int) = some i
    rw [TL.numL_val]
    congr 1
    omega
theorem numI_free {i : Int} : 32 ∉ numI i := by
  unfold numI
  split
  · intro h
    rcases List.mem_cons.mp h with h | h
    · omega
    · exact TL.numL_free (by omega) h
  · exact TL.numL_free (by omega)
section
variable {P : Program} {w : World} {K : PySem.W.Frag} {mg : Str → Option Value} {base : Heap}
abbrev N_written : List Str := ["item", "figures", "sign"]
theorem sc_written : FnScope N_written ["item"] (defScope s_written) := ⟨rfl, rfl, rfl, by decide +kernel, rfl, by decide +kernel, by decide +kernel⟩
def sp_written : Sp := fun vs H Q _ => ∃ i : Int, vs = [.str (S (numI i))] ∧ i.natAbs < 10 ^ 100 ∧ ∀ H', Same H H' → Q (.int i) H'
theorem ok_written (T : TX w K mg) : FnX P w K mg base 1 ("written", none) ["item"] [] sp_written := by
  refine FnX.of T.qd_written rfl sc_written (fun vs H Q E h => ?_) (fun _ _ _ _ _ _ us hl => match us, hl with | [_], _ => rfl) (fun cdv A outer s H vs Q E hr h => ?_)
  · obtain ⟨i, rfl, _⟩ := h
    rfl
  · obtain ⟨i, rfl, hi, k⟩ := h
    have hl := numI_len hi
    have hz : (S (numI i)).length ≤ sizeLine := by rw [S_len]; exact size24 (by omega)
    have hne := TL.numL_ne i.natAbs
    have hd := TL.numL_digits i.natAbs
    have hfl : (TL.numL i.natAbs).length ≤ 101 := by
      have := TL.numL_len (n := i.natAbs) (k := 100) (by decide) hi
      omega
    have hzf : (S (TL.numL i.natAbs)).length ≤ sizeLine := by rw [S_len]; exact size24 (by omega)
    refine ⟨_, (pss_cons (ps_set (i := 1) sc_written.nd rfl (by first | exact .inl rfl | exact .inr rfl) (pe_ifExp (pt_cmpR op_eq (pe_slice C8.sl_txt (pv 0) po_none (po_some pe_int)) pe_str (nomark _)) (pe_slice C8.sl_txt (pv 0) (po_some pe_int) po_none) (pv 0)))
  (pss_cons (ps_if (PW.pt (pw_or (pt_cmpR op_eq (pv 1) pe_str (nomark _)) (pw_or (pt_cmpR op_gt (pe_callB call_len_str (by rfl) (T.f "len") PySem.boot_len (pa_cons (pv 1) pa_nil)) (pe_gi (by rfl) (T.i "MOST_FIGURES" 140)) (nomark _)) (pw_or1 (pt_not (pt_val (pe_callB (cr_all rfl) (by rfl) (T.f "all") bt_all (pa_cons (pe_lc (own := [("sign", 2)]) rfl sc_written.nd (pi_str (pv 1)) (blkOk_by (N := N_written) (sc := defScope s_written) (by decide +kernel)) (fun _ _ _ _ _ => (pg_name (i := 2) sc_written.nd rfl (by first | exact .inl rfl | exact .inr rfl))) (fun _ _ _ _ _ => pts_nil) (fun _ _ _ _ _ => (pe_cmpR op_in_sign (pv 2) (pe_gs (by rfl) (T.s "FIGURES" "0123456789")) rfl))) pa_nil)))))))) (pss_one (ps_ret pe_non)) pss_nil)
  (pss_cons (ps_if (PW.pt (pw_and (pt_cmpR op_eq (pe_ix ix_str (pv 1) pe_int (fun _ _ => rfl)) pe_str (nomark _)) (pw_and1 (pt_cmpR op_ne (pv 0) pe_str (nomark _))))) (pss_one (ps_ret pe_non)) pss_nil)
  (pss_one (ps_ret (pe_callTy call_int_str (by rfl) (T.f "int") bt_int (pa_cons (pv 0) pa_nil))))))), ?_⟩
    refine ⟨_, rfl, _, rfl, _, rfl, hz, rfl, _, rfl, ?_⟩
    refine tif_join (V.str (S (TL.numL i.natAbs))) (fun h1 Q' q => ?_) (fun h1 Q' q => ?_) ?_
    · have h2 : i < 0 := by
        have e := V.str.inj (of_decide_eq_true h1)
        apply Classical.byContradiction
        intro hn
        rw [slice_to (by decide), numI_pos hn] at e
        have e2 : (TL.numL i.natAbs).take 1 = [45] := S_inj e
        have m : 45 ∈ TL.numL i.natAbs := List.mem_of_mem_take (i := 1) (by rw [e2]; exact List.mem_singleton.mpr rfl)
        exact TL.numL_free (by omega) m
      refine ⟨_, rfl, _, rfl, _, rfl, hz, ?_⟩
      rw [slice_from (by decide), numI_neg h2]
      exact q
    · have h2 : ¬ i < 0 := by
        intro hn
        refine of_decide_eq_false h1 (congrArg V.str ?_)
        rw [slice_to (by decide), numI_neg hn]
        rfl
      refine ⟨_, rfl, ?_⟩
      rw [numI_pos h2]
      exact q
    generalize efg : TL.numL i.natAbs = fg at *
    -- if figures == "" or ..
    refine ⟨_, rfl, rfl, _, rfl, ?_⟩
    rw [decide_eq_false (show ¬ V.str (S fg) = V.str "" from fun e => hne (S_inj (V.str.inj e)))]
    refine iteF ⟨_, rfl, _, rfl, hzf, _, _, rfl, rfl, _, rfl, ?_⟩
    rw [decide_eq_false (show ¬ (140 : Int) < ((S fg).length : Int) by rw [S_len]; omega)]
    refine iteF ⟨_, rfl, _, rfl, fun D hD => ?_⟩
    refine lc_sm (walk_str (z := S fg)) hD (fun _ acc _ => ∃ bs : List Bool, acc = bs.map V.bl ∧ bs.all id = true) ⟨[], rfl, rfl⟩ (fun _ _ => trivial) (fun _ _ _ _ _ h => h) (by show fg.toArray.size ≤ _; rw [List.size_toArray]; omega) ?_ ?_
    · rintro j x acc H2 H3 R R0 hj s2 hacc hla ⟨bs, rfl, hb⟩ ⟨rfl, c, hc, rfl⟩ hR hR0
      refine ⟨rfl, tY ⟨_, rfl, c, _, rfl, rfl, hR _ _ (Same.refl _) ⟨bs ++ [decide (c ∈ ("0123456789" : Str).cps.toList)], by simp, ?_⟩⟩⟩
      have hs : 48 ≤ c ∧ c ≤ 57 := hd c (by simpa using Array.mem_of_getElem? hc)
      have e : decide (c ∈ ("0123456789" : Str).cps.toList) = true := by
        obtain ⟨h1, h2⟩ := hs
        have : c = 48 ∨ c = 49 ∨ c = 50 ∨ c = 51 ∨ c = 52 ∨ c = 53 ∨ c = 54 ∨ c = 55 ∨ c = 56 ∨ c = 57 := by omega
        rcases this with rfl | rfl | rfl | rfl | rfl | rfl | rfl | rfl | rfl | rfl <;> decide +kernel
      rw [e, List.all_append, hb]
      rfl
    rintro acc H2 s2 hacc _ ⟨bs, rfl, hb⟩
    refine ⟨D, bs, rfl, SqL.of hacc, true, by rw [hb], iteF ?_⟩
    -- if figures[0] == "0" and item != "0"
    cases fg with
    | nil => exact absurd rfl hne
    | cons c cs =>
      refine ⟨_, rfl, _, _, c, rfl, rfl, hzf, atI_nat (j := 0) rfl, rfl, _, rfl, ?_⟩
      by_cases h0 : i.natAbs = 0
      · have ei : i = 0 := by omega
        have ec : (c :: cs) = [48] := by rw [← efg, h0]; decide +kernel
        injection ec with ec1 ec2
        subst ec1 ec2
        refine iteT ⟨_, rfl, rfl, _, rfl, ?_⟩
        have e0 : S (numI i) = ("0" : Str) := by rw [ei]; decide +kernel
        rw [decide_eq_true (congrArg V.str e0)]
        refine iteF ?_
        refine ⟨_, rfl, _, i, rfl, numI_read hi, by rw [S_len]; omega, ?_⟩
        exact k _ (Same.trans (fun _ _ e => e) s2)
      · have hc : c ≠ 48 := numL_head (n := i.natAbs) (by omega) c (by rw [efg]; rfl)
        rw [decide_eq_false (show ¬ V.str ⟨#[c]⟩ = V.str "0" from fun e => hc (by
          have e2 := V.str.inj e
          have e3 : S [c] = S [48] := e2
          have e4 := S_inj e3
          injection e4))]
        refine iteF (iteF ?_)
        refine ⟨_, rfl, _, i, rfl, numI_read hi, by rw [S_len]; omega, ?_⟩
        exact k _ (Same.trans (fun _ _ e => e) s2)
abbrev N_Scan_init : List Str := ["self", "text"]
theorem sc_Scan_init : FnScope N_Scan_init ["self", "text"] (defScope s_Scan_init) := ⟨rfl, rfl, rfl, by decide +kernel, rfl, by decide +kernel, by decide +kernel⟩
def sp_Scan_init (K : PySem.W.Frag) : Sp := fun vs H Q _ => ∃ (x dx : Addr) (its : List (List Nat)), vs = [.ref x, .str (S (TL.joinL [32] its))] ∧ H x = some (.ins (He.ga K "Scan") dx []) ∧ its ≠ [] ∧ (∀ p ∈ its, 32 ∉ p) ∧ (TL.joinL [32] its).length ≤ 100000 ∧
  ∀ H' l, SameX x H H' → H l = none → H' l = some (.lst ((its.map S).map V.str)) → H' x = some (.ins (He.ga K "Scan") dx (fScan (.ref l) (.int 0))) → Q .non H'
theorem ok_Scan_init (T : TX w K mg) : FnX P w K mg base 1 ("Scan", some "__init__") ["self", "text"] [] (sp_Scan_init K) := by
  refine FnX.of T.qd_Scan_init rfl sc_Scan_init (fun vs H Q E h => ?_) (fun _ _ _ _ _ _ us hl => match us, hl with | [_, _], _ => rfl) (fun cdv A outer s H vs Q E hr h => ?_)
  · obtain ⟨x, dx, its, rfl, _⟩ := h
    rfl
  · obtain ⟨x, dx, its, rfl, hx, hne, hf, hlen, k⟩ := h
    refine ⟨_, (pss_cons (ps_if (pt_not (pt_val (pe_callB call_isi (by rfl) (T.f "isinstance") bt_isinstance (pa_cons (pv 1) (pa_cons (pe_bltn (v := .ty "str") (by rfl) (T.f "str") bt_str rfl) pa_nil))))) (pss_one ps_never) pss_nil)
  (pss_cons (ps_fld (pv 0) (pe_split (pv 1) pe_str) rfl)
  (pss_one (ps_fld (pv 0) pe_int rfl)))), ?_⟩
    refine ⟨_, rfl, _, _, _, _, true, rfl, .ty "str", .base (.str _), kit_ty (by decide +kernel), _, rfl, iteF ?_⟩
    refine ⟨_, rfl, ⟨_, rfl⟩, _, _, rfl, rfl, by decide +kernel, by rw [S_len]; exact size24 (by omega), fun l hl => ?_⟩
    have nxl : x ≠ l := ne_of_none hx hl
    refine ⟨_, rfl, x, _, dx, _, rfl, (by rw [upd_ne nxl]; exact hx), T.cls "Scan", T.na "Scan" "words", by decide, ?_⟩
    refine ⟨_, rfl, x, _, dx, _, rfl, upd_same, T.cls "Scan", T.na "Scan" "at", nf_Scan_1, ?_⟩
    refine k _ l (SameX.new hl).put.put hl ?_ (by rw [upd_same, nw_Scan])
    rw [upd_ne (Ne.symm nxl), upd_ne (Ne.symm nxl), upd_same]
    have e : Txt.split (S (TL.joinL [32] its)) (" " : Str) = its.map S := by
      have e2 : ((" " : Str)) = S [32] := by decide +kernel
      rw [e2, split_S (by decide) (by decide), spl_join hne hf]
    rw [e]
abbrev N_Scan_ahead : List Str := ["self"]
theorem sc_Scan_ahead : FnScope N_Scan_ahead ["self"] (defScope s_Scan_ahead) := ⟨rfl, rfl, rfl, by decide +kernel, rfl, by decide +kernel, by decide +kernel⟩
def sp_Scan_ahead (K : PySem.W.Frag) : Sp := fun vs H Q _ => ∃ (x dx l : Addr) (xs : List V) (n : Nat), vs = [.ref x] ∧ H x = some (.ins (He.ga K "Scan") dx (fScan (.ref l) (.int (n : Int)))) ∧ H l = some (.lst xs) ∧ Q ((xs[n]?).getD .non) H
theorem ok_Scan_ahead (T : TX w K mg) : FnX P w K mg base 1 ("Scan", some "ahead") ["self"] [] (sp_Scan_ahead K) := by
  refine FnX.of T.qd_Scan_ahead rfl sc_Scan_ahead (fun vs H Q E h => ?_) (fun _ _ _ _ _ _ us hl => match us, hl with | [_], _ => rfl) (fun cdv A outer s H vs Q E hr h => ?_)
  · obtain ⟨x, dx, l, xs, n, rfl, _⟩ := h
    rfl
  · obtain ⟨x, dx, l, xs, n, rfl, hx, hl, k⟩ := h
    have cS := T.cls "Scan"
    refine ⟨_, (pss_one (ps_ret (pe_ifExp (pt_cmpR op_lt (pe_fld (pv 0) rfl) (pe_callB call_len_seq (by rfl) (T.f "len") PySem.boot_len (pa_cons (pe_fld (pv 0) rfl) pa_nil)) (nomark _)) (pe_ix ix_list (pe_fld (pv 0) rfl) (pe_fld (pv 0) rfl) (fun _ _ => rfl)) pe_non))), ?_⟩
    refine ⟨_, rfl, x, _, dx, _, _, rfl, hx, cS, T.na "Scan" "at", lk_Scan_at, _, rfl, x, _, dx, _, _, rfl, hx, cS, T.na "Scan" "words", lk_Scan_words, l, _, rfl, .inl (SqL.of hl), _, _, rfl, rfl, _, rfl, ?_⟩
    refine ite2 (fun h1 => ?_) (fun h1 => ?_)
    · have h2 : n < xs.length := by
        have := of_decide_eq_true h1
        omega
      refine ⟨_, rfl, x, _, dx, _, _, rfl, hx, cS, T.na "Scan" "words", lk_Scan_words, _, rfl, x, _, dx, _, _, rfl, hx, cS, T.na "Scan" "at", lk_Scan_at, l, _, _, _, rfl, rfl, SqL.of hl, atI_nat (List.getElem?_eq_getElem h2), ?_⟩
      rw [List.getElem?_eq_getElem h2] at k
      exact k
    · have h2 : ¬ n < xs.length := fun z => h1 (decide_eq_true (by omega))
      rw [List.getElem?_eq_none (by omega)] at k
      exact k
abbrev N_Scan_take : List Str := ["self", "item"]
theorem sc_Scan_take : FnScope N_Scan_take ["self"] (defScope s_Scan_take) := ⟨rfl, rfl, rfl, by decide +kernel, rfl, by decide +kernel, by decide +kernel⟩
def sp_Scan_take (K : PySem.W.Frag) : Sp := fun vs H Q _ => ∃ (x dx l : Addr) (xs : List V) (n : Nat) (v : V), vs = [.ref x] ∧ H x = some (.ins (He.ga K "Scan") dx (fScan (.ref l) (.int (n : Int)))) ∧ H l = some (.lst xs) ∧ xs[n]? = some v ∧ v ≠ .non ∧
  Q v (upd H x (.ins (He.ga K "Scan") dx (fScan (.ref l) (.int ((n + 1 : Nat) : Int)))))
theorem ok_Scan_take (T : TX w K mg) : FnX P w K mg base 2 ("Scan", some "take") ["self"] [] (sp_Scan_take K) := by
  refine FnX.of T.qd_Scan_take rfl sc_Scan_take (fun vs H Q E h => ?_) (fun _ _ _ _ _ _ us hl => match us, hl with | [_], _ => rfl) (fun cdv A outer s H vs Q E hr h => ?_)
  · obtain ⟨x, dx, l, xs, n, v, rfl, _⟩ := h
    rfl
  · obtain ⟨x, dx, l, xs, n, v, rfl, hx, hl, hv, hnn, k⟩ := h
    have cS := T.cls "Scan"
    refine ⟨_, (pss_cons (ps_set (i := 1) sc_Scan_take.nd rfl (by first | exact .inl rfl | exact .inr rfl) (pe_mx0 (pv 0) (T.cls "Scan") (T.meth "Scan" "ahead") (ok_Scan_ahead T) (hr.mono (by decide))))
  (pss_cons (ps_if (pt_cmpR op_isN (pv 1) pe_non (nomark _)) (pss_one ps_never) pss_nil)
  (pss_cons (ps_fld (pv 0) (pe_op op_add (pe_fld (pv 0) rfl) pe_int) rfl)
  (pss_one (ps_ret (pv 1)))))), ?_⟩
    refine ⟨_, rfl, x, dx, _, rfl, hx, no_Scan_ahead, x, dx, l, xs, n, rfl, hx, hl, ?_⟩
    rw [hv]
    refine ⟨_, rfl, rfl, _, rfl, ?_⟩
    rw [show (some v).getD V.non = v from rfl, decide_eq_false hnn]
    refine iteF ?_
    refine ⟨_, rfl, x, _, dx, _, _, rfl, hx, cS, T.na "Scan" "at", lk_Scan_at, _, _, rfl, rfl, _, rfl, x, _, dx, _, rfl, hx, cS, T.na "Scan" "at", fw_Scan, ?_⟩
    rw [pt_Scan_at]
    exact ⟨_, rfl, k⟩
end
end K53
end TK53H

section TK53I
set_option maxHeartbeats 4000000

namespace K53
open PySem PySem.Spec PyProof.Rows L2 SX
/-! ### items of a check -/
inductive Op where
  | add | sub | mul | rem | eq | lt | and | or | not
def Op.l : Op → List Nat
  | .add => [43] | .sub => [45] | .mul => [42] | .rem => [114, 101, 109] | .eq => [61] | .lt => [60] | .and => [97, 110, 100] | .or => [111, 114] | .not => [110, 111, 116]
def Op.tk : Op → List Str
  | .and => ["truth", "truth"] | .or => ["truth", "truth"] | .not => ["truth"] | _ => ["number", "number"]
def Op.mk : Op → Str
  | .add => "number" | .sub => "number" | .mul => "number" | .rem => "number" | _ => "truth"
theorem Op.deed (o : Op) : (S o.l, (o.tk, o.mk)) ∈ deeds := by
  cases o <;> decide +kernel
theorem Op.key (o : Op) : S o.l ∈ deedK := by
  cases o <;> decide +kernel
inductive Itm where
  | op (o : Op) | ans | giv | num (v : Int)
def Itm.l : Itm → List Nat
  | .op o => o.l | .ans => [97] | .giv => [110] | .num v => numI v
def Itm.Ok : Itm → Prop
  | .num v => -1000000000000000000 ≤ v ∧ v ≤ 1000000000000000000
  | _ => True
theorem numI_signs {i : Int} : ∀ c ∈ numI i, c = 45 ∨ (48 ≤ c ∧ c ≤ 57) := by
  unfold numI
  intro c hc
  split at hc
  · rcases List.mem_cons.mp hc with h | h
    · exact .inl h
    · exact .inr (TL.numL_digits _ c h)
  · exact .inr (TL.numL_digits _ c hc)
theorem numI_digit {i : Int} : ∃ c ∈ numI i, 48 ≤ c ∧ c ≤ 57 := by
  have hne := TL.numL_ne i.natAbs
  cases e : TL.numL i.natAbs with
  | nil => exact absurd e hne
  | cons c cs =>
    have hc : c ∈ TL.numL i.natAbs := by rw [e]; exact List.mem_cons_self
    refine ⟨c, ?_, TL.numL_digits _ c hc⟩
    unfold numI
    split
    · exact List.mem_cons_of_mem _ hc
    · exact hc
theorem numI_not {i : Int} {l : List Nat} (h : ∀ c ∈ l, ¬ (48 ≤ c ∧ c ≤ 57)) : numI i ≠ l := fun e => by
  obtain ⟨c, hc, hd⟩ := numI_digit (i := i)
  rw [e] at hc
  exact h c hc hd
theorem Itm.noDeed {it : Itm} (h : ∀ o, it ≠ .op o) : S it.l ∉ deedK := by
  have e : deedK = [S [43], S [45], S [42], S [114, 101, 109], S [61], S [60], S [97, 110, 100], S [111, 114], S [110, 111, 116]] := by decide +kernel
  rw [e]
  cases it with
  | op o => exact absurd rfl (h o)
  | ans => decide +kernel
  | giv => decide +kernel
  | num v =>
    have key : ∀ l : List Nat, (∀ c ∈ l, ¬ (48 ≤ c ∧ c ≤ 57)) → S (numI v) ≠ S l := fun l hl q => numI_not hl (S_inj q)
    simp only [List.mem_cons, List.not_mem_nil, or_false, not_or]
    refine ⟨key _ ?_, key _ ?_, key _ ?_, key _ ?_, key _ ?_, key _ ?_, key _ ?_, key _ ?_, key _ ?_⟩ <;> intro c hc <;> simp at hc <;> omega
theorem Itm.noBlank (it : Itm) : 32 ∉ it.l := by
  cases it with
  | op o => cases o <;> decide
  | ans => decide
  | giv => decide
  | num v => exact numI_free
theorem Itm.ne_nil (it : Itm) : it.l ≠ [] := by
  cases it with
  | op o => cases o <;> decide
  | ans => decide
  | giv => decide
  | num v =>
    obtain ⟨c, hc, _⟩ := numI_digit (i := v)
    intro e
    have : c ∈ ([] : List Nat) := by rw [← e]; exact hc
    cases this
theorem Itm.len {it : Itm} (h : it.Ok) : it.l.length ≤ 101 := by
  cases it with
  | op o => cases o <;> decide
  | ans => decide
  | giv => decide
  | num v =>
    have h : -1000000000000000000 ≤ v ∧ v ≤ 1000000000000000000 := h
    exact numI_len (Nat.lt_of_le_of_lt (show v.natAbs ≤ 10 ^ 18 by omega) (by decide))
/-- the kinds behind an item -/
def kindsM (ks : List Str) : Itm → Option (List Str)
  | .op o => if o.tk.length ≤ ks.length ∧ ks.drop (ks.length - o.tk.length) = o.tk then some (ks.take (ks.length - o.tk.length) ++ [o.mk]) else none
  | _ => if ks.length < 20 then some (ks ++ [("number" : Str)]) else none
/-! ### slices by places -/
theorem cut_to {xs : List V} {k : Nat} (h : k ≤ xs.length) : cutV xs none (some (k : Int)) = xs.take k := by
  unfold cutV
  rw [HT.sIx_none, HT.sIx_nat, Nat.min_eq_left h, List.drop_zero]
  rfl
theorem cut_from {xs : List V} {k : Nat} (h : k ≤ xs.length) : cutV xs (some (k : Int)) none = xs.drop k := by
  unfold cutV
  rw [HT.sIx_none, HT.sIx_nat, Nat.min_eq_left h]
  exact List.take_of_length_le (by rw [List.length_drop]; omega)
theorem cut_back {xs : List V} {k : Nat} (h0 : 0 < k) (h : k ≤ xs.length) : cutV xs none (some (-(k : Int))) = xs.take (xs.length - k) := by
  unfold cutV
  have e : HT.sIx xs.length xs.length (some (-(k : Int))) = xs.length - k := by
    show (if (-(k : Int)) < 0 then ((-(k : Int)) + (xs.length : Int)).toNat else _) = _
    rw [if_pos (by omega)]
    omega
  rw [HT.sIx_none, e, List.drop_zero]
  rfl
/-- a slice of a tuple, whole or not -/
theorem slA {K : PySem.W.Frag} {a : Addr} {xs : List V} {lo hi : Option Int} {H : Hp} {Q : VK} (h : SqT K H a xs) (k : ∀ b H', Same H H' → SqT K H' b (cutV xs lo hi) → Q (.ref b) H') : rSlA K (.ref a) lo hi H Q := by
  refine ⟨a, xs, rfl, h, fun e => k a H (Same.refl H) ?_, fun _ p hp => k p _ (Same.new hp) (SqT.of upd_same)⟩
  have : cutV xs lo hi = xs := by
    unfold cutV
    rw [e.1, e.2, List.drop_zero]
    exact List.take_of_length_le (Nat.le_refl _)
  rw [this]
  exact h
/-- texts as data -/
theorem dp_strs {K : PySem.W.Frag} {H : Hp} : ∀ ks : List Str, DpAll K H (ks.map V.str) (ks.map PyData.str)
  | [] => .nil
  | k :: ks => .cons (.str k) (dp_strs ks)
theorem shaped_tk (o : Op) : SeqAt.shaped (.tuple (o.tk.map PyData.str)) = true := by
  cases o <;> decide +kernel
theorem eqv_strs (ks : List Str) : PyData.eqv (.tuple (ks.map PyData.str)) (.tuple (ks.map PyData.str)) = true := by
  rw [PyData.eqv]
  induction ks with
  | nil => rfl
  | cons k ks ih => simpa [PyData.eqvAll, PyData.eqv] using ih
/-! ### what DEEDS does not hold -/
theorem key_lit {P : Params} : ∀ {l : List DictEntry} {ks : List Str}, l.map He.keyOf = He.keysIn P ks → ∀ e ∈ l, ∃ k ∈ ks, ∃ t, e.key = .str k t
  | [], _, _, e, he => by cases he
  | e :: r, [], h, _, _ => by cases h
  | e :: r, k :: ks, h, e', he => by
    have h1 : He.keyOf e :: r.map He.keyOf = some (k, PyData.keyHash P k) :: He.keysIn P ks := h
    injection h1 with h2 h3
    rcases List.mem_cons.mp he with rfl | he
    · unfold He.keyOf at h2
      split at h2
      · rename_i x t q
        have h4 := Option.some.inj h2
        injection h4 with h5 h6
        exact ⟨k, List.mem_cons_self, t, by rw [q, h5]⟩
      · cases h2
    · obtain ⟨k', m, t, q⟩ := key_lit h3 e' he
      exact ⟨k', List.mem_cons_of_mem _ m, t, q⟩
theorem TX.noDeed {w : World} {K : PySem.W.Frag} {mg : Str → Option Value} (T : TX w K mg) {z : Str} (hz : z ∉ deedK) : PySem.W.nsIn K (He.ga K "DEEDS") z = some none := by
  have e : (ts.map fun t => He.dicW K (t.1 K)) = ts.map fun t => some (He.keysIn w.params t.2) := congrArg (fun z : He.AlT => z.2) T.t
  have e1 : He.dicW K (He.ga K "DEEDS") = some (He.keysIn w.params deedK) := by
    have e2 : [He.dicW K (He.ga K "DEEDS")] = [some (He.keysIn w.params deedK)] := e
    injection e2
  unfold He.dicW at e1
  unfold PySem.W.nsIn
  split at e1
  · rename_i c es n sl q
    rw [q]
    split at e1
    · have e3 := Option.some.inj e1
      have hk := key_lit e3
      have hf : es.toList.find? (·.key.isStr z) = none := by
        rw [List.find?_eq_none]
        intro x hx hh
        obtain ⟨k, hkm, t, hkx⟩ := hk x hx
        rw [hkx] at hh
        have e9 : k = z := eq_of_beq (show (k == z) = true from hh)
        exact hz (e9 ▸ hkm)
      have hr : es.toList.any (·.refKey) = false := by
        rw [List.any_eq_false]
        intro x hx
        obtain ⟨k, hkm, t, hkx⟩ := hk x hx
        unfold DictEntry.refKey
        rw [hkx]
        simp
      dsimp only
      rw [hf, hr]
      rfl
    · cases e1
  · cases e1
section
variable {P : Program} {w : World} {K : PySem.W.Frag} {mg : Str → Option Value} {base : Heap}
abbrev N_kinds_behind : List Str := ["kinds", "item", "taken", "made", "rest"]
theorem sc_kinds_behind : FnScope N_kinds_behind ["kinds", "item"] (defScope s_kinds_behind) := ⟨rfl, rfl, rfl, by decide +kernel, rfl, by decide +kernel, by decide +kernel⟩
def sp_kinds_behind (K : PySem.W.Frag) : Sp := fun vs H Q _ => ∃ (a : Addr) (ks ks' : List Str) (it : Itm), vs = [.ref a, .str (S it.l)] ∧ SqT K H a (ks.map V.str) ∧ ks.length ≤ 20 ∧ it.Ok ∧ kindsM ks it = some ks' ∧ ∀ H' b, Same H H' → SqT K H' b (ks'.map V.str) → Q (.ref b) H'
theorem ok_kinds_behind (T : TX w K mg) : FnX P w K mg base 3 ("kinds_behind", none) ["kinds", "item"] [] (sp_kinds_behind K) := by
  refine FnX.of T.qd_kinds_behind rfl sc_kinds_behind (fun vs H Q E h => ?_) (fun _ _ _ _ _ _ us hl => match us, hl with | [_, _], _ => rfl) (fun cdv A outer s H vs Q E hr h => ?_)
  · obtain ⟨a, ks, ks', it, rfl, _⟩ := h
    rfl
  · obtain ⟨a, ks, ks', it, rfl, ha, hl, hok, hk, k⟩ := h
    obtain ⟨es, n, Dd⟩ := T.deeds
    refine ⟨_, (pss_cons (ps_if (pt_cmpR (op_in_kd Dd) (pv 1) (pe_gr (by rfl) (T.g "DEEDS")) rfl) (pss_cons (ps_asg (pe_ix ix_kdict (pe_gr (by rfl) (T.g "DEEDS")) (pv 1) (fun _ _ => rfl)) (pg_tup (n := 2) rfl (pgs_cons (pg_name (i := 2) sc_kinds_behind.nd rfl (by first | exact .inl rfl | exact .inr rfl)) (pgs_cons (pg_name (i := 3) sc_kinds_behind.nd rfl (by first | exact .inl rfl | exact .inr rfl)) pgs_nil))))
  (pss_cons (ps_set (i := 4) sc_kinds_behind.nd rfl (by first | exact .inl rfl | exact .inr rfl) (pe_op op_sub (pe_callB call_len_seq (by rfl) (T.f "len") PySem.boot_len (pa_cons (pv 0) pa_nil)) (pe_callB call_len_seq (by rfl) (T.f "len") PySem.boot_len (pa_cons (pv 2) pa_nil))))
  (pss_one (ps_ret (pe_ifExp (PW.pt (pw_and (pt_cmpR op_ge (pv 4) pe_int (nomark _)) (pw_and1 (pt_cmpR (op_eqD hr.units) (pe_slice sl_tupA (pv 0) (po_some (pv 4)) po_none) (pv 2) (nomark _))))) (pe_tup (StX.pa_star (pe_slice sl_tupA (pv 0) po_none (po_some (pv 4))) (pa_cons (pv 3) pa_nil))) pe_non))))) pss_nil)
  (pss_cons (ps_if (PW.pt (pw_or (pt_cmpR op_in_seq (pv 1) (pe_tup (pa_cons (pe_gs (by rfl) (T.s "ANSWER" "a")) (pa_cons (pe_gs (by rfl) (T.s "GIVEN" "n")) pa_nil))) rfl) (pw_or1 (pt_val (pe_fx (ok_is_within T) (hr.mono (by decide)) (by rfl) (T.g "is_within") (pa_cons (pe_fx (ok_written T) (hr.mono (by decide)) (by rfl) (T.g "written") (pa_cons (pv 1) pa_nil)) (pa_cons (pe_un un_neg (pe_gi (by rfl) (T.i "MOST_NUMBER" 1000000000000000000))) (pa_cons (pe_gi (by rfl) (T.i "MOST_NUMBER" 1000000000000000000)) pa_nil)))))))) (pss_one (ps_ret (pe_ifExp (pt_cmpR op_lt (pe_callB call_len_seq (by rfl) (T.f "len") PySem.boot_len (pa_cons (pv 0) pa_nil)) (pe_gi (by rfl) (T.i "MOST_PILE" 20)) (nomark _)) (pe_tup (StX.pa_star (pv 0) (pa_cons (pe_gs (by rfl) (T.s "NUMBER" "number")) pa_nil))) pe_non))) pss_nil)
  (pss_one (ps_ret pe_non)))), ?_⟩
    by_cases hop : ∃ o, it = .op o
    · obtain ⟨o, rfl⟩ := hop
      obtain ⟨d1, d2, d3⟩ := T.deed o.deed
      refine ⟨_, rfl, _, _, rfl, rfl, d1, _, rfl, iteT ?_⟩
      refine ⟨_, rfl, _, _, .ref (aD K (S o.l)), rfl, rfl, ⟨es, n, _, Dd.at_, Dd.lit, d1, rfl⟩, ?_⟩
      refine ⟨_, _, rfl, d2 _, rfl, _, _, rfl, _, _, rfl, rfl, ?_⟩
      refine ⟨_, rfl, a, _, rfl, .inr ha, _, rfl, _, _, rfl, .inr (d3 _), _, _, rfl, rfl, ?_⟩
      unfold kindsM at hk
      dsimp only at hk
      by_cases hc : o.tk.length ≤ ks.length ∧ ks.drop (ks.length - o.tk.length) = o.tk
      · rw [if_pos hc] at hk
        have hk := (Option.some.inj hk).symm
        subst hk
        obtain ⟨c1, c2⟩ := hc
        have er : (((ks.map V.str).length : Nat) : Int) - (((o.tk.map V.str).length : Nat) : Int) = ((ks.length - o.tk.length : Nat) : Int) := by
          rw [List.length_map, List.length_map]
          omega
        dsimp only
        rw [er]
        refine ⟨_, rfl, _, _, rfl, rfl, _, rfl, ?_⟩
        rw [decide_eq_true (show (0 : Int) ≤ ((ks.length - o.tk.length : Nat) : Int) by omega)]
        refine iteT ⟨_, rfl, _, rfl, _, rfl, ?_⟩
        unfold tNoPart
        refine slA ha fun b H1 s1 hb => ?_
        rw [cut_from (by rw [List.length_map]; omega), ← List.map_drop, c2] at hb
        refine ⟨_, rfl, _, _, .tup hb (dp_strs _), .tup (d3 _) (dp_strs _), shaped_tk o, shaped_tk o, _, rfl, ?_⟩
        rw [eqv_strs]
        refine iteT ⟨_, rfl, _, rfl, _, rfl, ?_⟩
        refine slA (Same.tup s1 ha) fun b2 H2 s2 hb2 => ?_
        rw [cut_to (by rw [List.length_map]; omega), ← List.map_take] at hb2
        refine ⟨b2, _, rfl, .inl hb2, _, rfl, ?_⟩
        refine ⟨?_, fun p hp => ?_⟩
        · rw [List.length_append, List.length_map, List.length_take]
          exact size24 (by show _ + 1 ≤ _; omega)
        · refine k _ p ((s1.trans s2).new' hp) (SqT.of ?_)
          rw [upd_same, List.map_append]
          rfl
      · rw [if_neg hc] at hk
        cases hk
    · have hno : ∀ o, it ≠ .op o := fun o q => hop ⟨o, q⟩
      have hk2 : ks.length < 20 ∧ ks' = ks ++ [("number" : Str)] := by
        have hk0 : (if ks.length < 20 then some (ks ++ [("number" : Str)]) else none) = some ks' := by
          cases it with
          | op o => exact absurd rfl (hno o)
          | ans => exact hk
          | giv => exact hk
          | num v => exact hk
        by_cases h20 : ks.length < 20
        · rw [if_pos h20] at hk0
          exact ⟨h20, (Option.some.inj hk0).symm⟩
        · rw [if_neg h20] at hk0
          cases hk0
      obtain ⟨hk3, rfl⟩ := hk2
      refine ⟨_, rfl, _, _, rfl, rfl, T.noDeed (Itm.noDeed hno), _, rfl, iteF ?_⟩
      refine ⟨_, rfl, two_le, fun t ht => ?_⟩
      have fin : ∀ H', Same H H' → (tRet (tIf (tTest (tOp (rI0 fun i j => V.bl (decide (i < j))) (tCB (fun xs H Q => ∃ p ys, xs = [.ref p] ∧ (SqL K H p ys ∨ SqT K H p ys) ∧ Q (.int ys.length) H) (tCons (tVar 0) tNil)) (tC (.int 20)))) (tTup (StX.tStar K (tVar 0) (tCons (tC (.str "number")) tNil))) (tC .non)))
          { nx := tRet (tC .non) { nx := fun _ H' => Q .non H', rt := Q }, rt := Q } (L2.start N_kinds_behind [.ref a, .str (S it.l)]) H' := fun H' s' => by
        refine ⟨_, rfl, a, _, rfl, .inr (Same.tup s' ha), _, _, rfl, rfl, _, rfl, ?_⟩
        rw [decide_eq_true (show (((ks.map V.str).length : Nat) : Int) < 20 by rw [List.length_map]; omega)]
        refine iteT ⟨_, rfl, a, _, rfl, .inl (Same.tup s' ha), ?_⟩
        refine ⟨?_, fun p hp => ?_⟩
        · rw [List.length_append, List.length_map]
          exact size24 (by show _ + 1 ≤ _; omega)
        · refine k _ p (s'.new' hp) (SqT.of ?_)
          rw [upd_same, List.map_append]
          rfl
      refine ⟨t, _, rfl, .inr (SqT.of upd_same), rfl, rfl, _, rfl, ?_⟩
      cases it with
      | op o => exact absurd rfl (hno o)
      | ans =>
        refine iteT (iteT ?_)
        exact fin _ (Same.new ht)
      | giv =>
        refine iteT (iteT ?_)
        exact fin _ (Same.new ht)
      | num v =>
        have hv : -1000000000000000000 ≤ v ∧ v ≤ 1000000000000000000 := hok
        have e : inV (V.str (S (Itm.num v).l)) [V.str "a", V.str "n"] = false := by
          have ea : ("a" : Str) = S [97] := by decide +kernel
          have en : ("n" : Str) = S [110] := by decide +kernel
          rw [ea, en]
          have n1 : S (numI v) ≠ S [97] := fun q => numI_not (by intro c hc; simp at hc; omega) (S_inj q)
          have n2 : S (numI v) ≠ S [110] := fun q => numI_not (by intro c hc; simp at hc; omega) (S_inj q)
          have m1 : eqV (V.str (S [97])) (V.str (S (numI v))) = false := by
            first
              | exact decide_eq_false fun q => n1 q.symm
              | simp [eqV, n1, Ne.symm n1]
          have m2 : eqV (V.str (S [110])) (V.str (S (numI v))) = false := by
            first
              | exact decide_eq_false fun q => n2 q.symm
              | simp [eqV, n2, Ne.symm n2]
          show ([V.str (S [97]), V.str (S [110])].any fun y => eqV y (V.str (S (numI v)))) = false
          rw [List.any_cons, List.any_cons, m1, m2]
          rfl
        show (if (if false = true then _ else inV (V.str (S (Itm.num v).l)) [V.str "a", V.str "n"]) = true then _ else _)
        rw [if_neg Bool.false_ne_true, e]
        refine iteF ?_
        refine ⟨_, rfl, v, rfl, Nat.lt_of_le_of_lt (show v.natAbs ≤ 10 ^ 18 by omega) (by decide), fun H1 s1 => ?_⟩
        refine ⟨_, rfl, v, _, _, rfl, _, rfl, ?_⟩
        rw [decide_eq_true hv.1, decide_eq_true hv.2]
        refine iteT ?_
        exact fin _ ((Same.new ht).trans s1)
end
end K53
end TK53I

section TK53Q
set_option maxHeartbeats 4000000

namespace K53
open PySem PySem.Spec PyProof.Rows L2
/-! ### sorted, whatever the items read as -/
def rSortD (K : PySem.W.Frag) : List V → Hp → VK → Prop := fun vs H Q => ∃ (a : Addr) (xs : List V) (ds : List PyData), vs = [.ref a] ∧ SqL K H a xs ∧ DpAll K H xs ds ∧ PySem.W.AllAlike ds ∧ PySem.W.Sortable ds ∧ (∀ d ∈ ds, d.depth ≤ 8) ∧
  ∀ ys p, ys.Perm xs → H p = none → Q (.ref p) (upd H p (.lst ys))
theorem eachD {X : Cx} {pins : List (Addr × Obj)} {σ : L2.St} {H : Hp} {s : Shared} (I : Inv X pins σ H s) : ∀ {xs : List V} {its : List Value} {ds : List PyData}, Vals xs its → DpAll X.K H xs ds →
    PySem.W.EachIs (fun v (b : V × PyData) => RelV b.1 v) its (xs.zip ds) ∧ PySem.W.EachIs (fun v (b : V × PyData) => ∃ as, Reads s.heap v b.2 as) its (xs.zip ds) ∧ (xs.zip ds).map (·.2) = ds ∧ (xs.zip ds).map (·.1) = xs
  | _, _, _, .nil, .nil => ⟨.nil, .nil, rfl, rfl⟩
  | _, _, _, .cons r rs, .cons d dss =>
    let ⟨h1, h2, h3, h4⟩ := eachD I rs dss
    ⟨.cons r h1, .cons (Dp.reads I _ _ _ d r) h2, congrArg (List.cons _) h3, congrArg (List.cons _) h4⟩
theorem vals_each : ∀ {out : List Value} {bs : List (V × PyData)}, PySem.W.EachIs (fun v (b : V × PyData) => RelV b.1 v) out bs → Vals (bs.map (·.1)) out
  | _, _, .nil => .nil
  | _, _, .cons h t => .cons h (vals_each t)
theorem cr_sortedD {X : Cx} (hu : X.A.units + 64 < cLine) : CallR X (.builtin "sorted") (rSortD X.K) := by
  intro pins s σ H vs us Q I r h
  obtain ⟨a, xs, ds, rfl, hs, hd, hal, hk, hdp, q⟩ := h
  obtain ⟨its, rv, hl, hz⟩ := I.list hs
  rw [Vals.ref1 r]
  obtain ⟨e1, e2, e3, e4⟩ := eachD I rv hd
  generalize hbs : xs.zip ds = bs at e1 e2 e3 e4
  have hlen : bs.length = xs.length := by rw [← e4, List.length_map]
  refine PySem.W.sorted_data hl.isList e1 e2 (by rw [e3]; exact hal) (by rw [e3]; exact hk) (by omega) (fun b hb => ?_) fun out ho eo => ?_
  · have : b.2.depth ≤ 8 := hdp _ (by rw [← e3]; exact List.mem_map.mpr ⟨b, hb, rfl⟩)
    omega
  · have hperm : (bs.mergeSort (PySem.W.dataLe false (·.2))).Perm bs := List.mergeSort_perm _ _
    have hv := vals_each eo
    generalize bs.mergeSort (PySem.W.dataLe false (·.2)) = zs at eo hperm hv
    obtain ⟨ep, he'⟩ := PyProof.Rows.sortedAll_at s.heap its (List.toArray out)
    have hl2 : (zs.map (·.1)).length ≤ sizeLine := by rw [List.length_map, hperm.length_eq, hlen]; exact hz
    have hp2 : (zs.map (·.1)).Perm xs := by
      have := hperm.map (·.1)
      rwa [e4] at this
    exact ⟨.ref _, upd H (s.heap.objs.size + 1) (.lst (zs.map (·.1))), I.laid (t' := s.toks) (fun _ _ => PyProof.Rows.sortedAll_old) (Nat.le_succ _) ⟨hl2, out, ep, hv, he'⟩, rfl, q _ _ hp2 (I.hok.fresh (Nat.le_succ _))⟩
/-! ### names of which none begins another -/
/-- none of two begins the other -/
def Apart (a b : Str) : Prop := Txt.startswith a b = false ∧ Txt.startswith b a = false
def AllApart (l : List Str) : Prop := ∀ (i j : Nat) (x y : Str), i ≠ j → l[i]? = some x → l[j]? = some y → Txt.startswith x y = false
theorem AllApart.perm {l m : List Str} (p : l.Perm m) (h : AllApart l) : AllApart m := by
  have e : ∀ l : List Str, AllApart l ↔ l.Pairwise Apart := fun l => by
    rw [List.pairwise_iff_getElem]
    constructor
    · intro h i j hi hj hij
      exact ⟨h i j _ _ (by omega) (List.getElem?_eq_getElem hi) (List.getElem?_eq_getElem hj), h j i _ _ (by omega) (List.getElem?_eq_getElem hj) (List.getElem?_eq_getElem hi)⟩
    · intro h i j x y hij hx hy
      obtain ⟨hi, rfl⟩ := List.getElem?_eq_some_iff.mp hx
      obtain ⟨hj, rfl⟩ := List.getElem?_eq_some_iff.mp hy
      rcases Nat.lt_or_gt_of_ne hij with z | z
      · exact (h i j hi hj z).1
      · exact (h j i hj hi z).2
  rw [e] at h ⊢
  exact (p.pairwise_iff fun h => ⟨h.2, h.1⟩).mp h
section
variable {P : Program} {w : World} {K : PySem.W.Frag} {mg : Str → Option Value} {base : Heap}
abbrev N_is_apart : List Str := ["names", "told", "one", "other"]
theorem sc_is_apart : FnScope N_is_apart ["names"] (defScope s_is_apart) := ⟨rfl, rfl, rfl, by decide +kernel, rfl, by decide +kernel, by decide +kernel⟩
def sp_is_apart (K : PySem.W.Frag) : Sp := fun vs H Q _ => ∃ (a : Addr) (l : List Str), vs = [.ref a] ∧ SqL K H a (l.map V.str) ∧ l.length < 64 ∧ AllApart l ∧ ∀ H', Same H H' → Q (.bl true) H'
theorem ok_is_apart (T : TX w K mg) : FnX P w K mg base 1 ("is_apart", none) ["names"] [] (sp_is_apart K) := by
  refine FnX.of T.qd_is_apart rfl sc_is_apart (fun vs H Q E h => ?_) (fun _ _ _ _ _ _ us hl => match us, hl with | [_], _ => rfl) (fun cdv A outer s H vs Q E hr h => ?_)
  · obtain ⟨a, l, rfl, _⟩ := h
    rfl
  · obtain ⟨a, l, rfl, ha, hl, hap, k⟩ := h
    refine ⟨_, (pss_cons (ps_set (i := 1) sc_is_apart.nd rfl (by first | exact .inl rfl | exact .inr rfl) (pe_callB cr_sortedS (by rfl) (T.f "sorted") bt_sorted (pa_cons (pv 0) pa_nil)))
  (pss_one (ps_ret (pe_not (pe_callB (cr_any rfl) (by rfl) (T.f "any") bt_any (pa_cons (pe_lc (own := [("one", 2), ("other", 3)]) rfl sc_is_apart.nd (pi_zip (by rfl) (T.f "zip") (pa_cons (pv 1) (pa_cons (pe_slice sl_list (pv 1) (po_some pe_int) po_none) pa_nil))) (blkOk_by (N := N_is_apart) (sc := defScope s_is_apart) (by decide +kernel)) (fun _ _ _ _ _ => (pg_tupK (K := K) (n := 2) rfl (pgs_cons (pg_name (i := 2) sc_is_apart.nd rfl (by first | exact .inl rfl | exact .inr rfl)) (pgs_cons (pg_name (i := 3) sc_is_apart.nd rfl (by first | exact .inl rfl | exact .inr rfl)) pgs_nil)))) (fun _ _ _ _ _ => pts_nil) (fun _ _ _ _ _ => (pe_m1 PySem.F.slot_str_startswith PySem.F.type_str_startswith mt_startswith (pv 3) (pv 2)))) pa_nil)))))), ?_⟩
    refine ⟨_, rfl, a, l, rfl, ha, hl, fun m t hp hs nt => ?_⟩
    have s1 := Same.new (o := .lst (m.map V.str)) nt
    have hm : AllApart m := hap.perm hp.symm
    have hml : m.length < 64 := by rw [hp.length_eq]; exact hl
    refine ⟨_, rfl, _, rfl, 1, rfl, t, _, rfl, SqL.of upd_same, fun t2 nt2 => ?_⟩
    have hcut : cutV (m.map V.str) (some ((1 : Nat) : Int)) none = (m.drop 1).map V.str := by
      by_cases h0 : 1 ≤ (m.map V.str).length
      · rw [cut_from h0, List.map_drop]
      · have : m = [] := by cases m with | nil => rfl | cons => simp at h0
        subst this
        rfl
    rw [show cutV (m.map V.str) (some 1) none = (m.drop 1).map V.str from hcut]
    refine ⟨t, t2, _, _, rfl, SqL.of (Same.new nt2 _ _ upd_same), SqL.of upd_same, fun D hD => ?_⟩
    have hHD : H D = none := by
      cases e : H D with
      | none => rfl
      | some o =>
        rw [(s1.new' nt2) _ _ e] at hD
        cases hD
    have s3 : Same H (upd (upd (upd H t (.lst (m.map V.str))) t2 (.lst ((m.drop 1).map V.str))) D (.lst [])) := (s1.new' nt2).new' hD
    refine lc_sm (walk_zip (K := K) (a := t) (b := t2) (xs := m.map V.str) (ys := (m.drop 1).map V.str) (n := m.length - 1) (by simp only [List.length_map, List.length_drop]; omega)) hD (fun _ acc _ => ∃ bs : List Bool, acc = bs.map V.bl ∧ bs.any id = false) ⟨[], rfl, rfl⟩
      (fun H' s' => ⟨SqL.of (s' _ _ (Same.new nt2 _ _ upd_same)), SqL.of (s' _ _ upd_same)⟩) (fun _ _ _ _ _ h => h) (by omega) ?_ ?_
    · rintro i v acc H2 H3 R R0 hi s2 hacc hla ⟨bs, rfl, hb⟩ ⟨W, x, y, rfl, nW, rfl, hx, hy⟩ hR hR0
      dsimp only at hx hy
      rw [List.getElem?_map] at hx hy
      obtain ⟨x', hx', rfl⟩ := Option.map_eq_some_iff.mp hx
      obtain ⟨y', hy', rfl⟩ := Option.map_eq_some_iff.mp hy
      rw [List.getElem?_drop] at hy'
      refine ⟨W, _, rfl, SqT.of upd_same, rfl, _, _, rfl, _, _, rfl, rfl, rfl, tY ?_⟩
      refine ⟨_, rfl, ⟨y', rfl⟩, _, rfl, y', x', rfl, rfl, ?_⟩
      rw [hm (1 + i) i y' x' (by omega) hy' hx']
      exact hR _ _ (Same.new nW) ⟨bs ++ [false], by simp, by rw [List.any_append, hb]; rfl⟩
    · rintro acc H2 s2 hacc _ ⟨bs, rfl, hb⟩
      refine ⟨D, bs, rfl, SqL.of hacc, _, rfl, ?_⟩
      rw [hb]
      exact k _ ((s1.new' nt2).trans s2)
/-- Tongue.WORDS -/
theorem pe_words {X : Cx} (T : TX w K mg) {p pos : Pos} (hK : X.K = K := by rfl) (hmg : X.mg = mg := by rfl) (hg : Gl X "Tongue" := by rfl) (hb : attributeBase (.Name "Tongue" p) "WORDS" X.env (eval (.Name "Tongue" p) X.env) = eval (.Name "Tongue" p) X.env := by rfl) :
    PE X (.Attribute (.Name "Tongue" p) "WORDS" pos) (tC (.ref (aW K))) := by
  subst hK hmg
  obtain ⟨h1, h2, h3, h4⟩ := T.words
  refine ⟨fun pins s σ H Q I q => (ClX.pe_cval (X := X) (pe_gr hg (T.g "Tongue")) hb).run pins s σ H Q I ?_⟩
  exact ⟨He.ga X.K "Tongue", .type "type", .ref (aW X.K), .ref (aW X.K), rfl, ⟨h1, h2⟩, ⟨h3, rfl⟩, q⟩
abbrev N_Tongue_init : List Str := ["self", "names", "each"]
theorem sc_Tongue_init : FnScope N_Tongue_init ["self", "names"] (defScope s_Tongue_init) := ⟨rfl, rfl, rfl, by decide +kernel, rfl, by decide +kernel, by decide +kernel⟩
def sp_Tongue_init (K : PySem.W.Frag) : Sp := fun vs H Q _ => ∃ (x dx l : Addr) (ns : List Str), vs = [.ref x, .ref l] ∧ H x = some (.ins (He.ga K "Tongue") dx []) ∧ H l = some (.lst (ns.map V.str)) ∧ ns.length = 8 ∧ (∀ n ∈ ns, Nm n) ∧ AllApart ns ∧
  ∀ H' t, SameX x H H' → H t = none → H' t = some (.tup (ns.map V.str)) → H' x = some (.ins (He.ga K "Tongue") dx (fTongue (.ref t))) → Q .non H'
theorem ok_Tongue_init (T : TX w K mg) : FnX P w K mg base 3 ("Tongue", some "__init__") ["self", "names"] [] (sp_Tongue_init K) := by
  refine FnX.of T.qd_Tongue_init rfl sc_Tongue_init (fun vs H Q E h => ?_) (fun _ _ _ _ _ _ us hl => match us, hl with | [_, _], _ => rfl) (fun cdv A outer s H vs Q E hr h => ?_)
  · obtain ⟨x, dx, l, ns, rfl, _⟩ := h
    rfl
  · obtain ⟨x, dx, l, ns, rfl, hx, hl, h8, hn, hap, k⟩ := h
    have cT := T.cls "Tongue"
    refine ⟨_, (pss_cons (ps_if (PW.pt (pw_or (pt_not (pt_val (pe_callB call_isiT (by rfl) (T.f "isinstance") bt_isinstance (pa_cons (pv 1) (pa_cons (pe_tup (pa_cons (pe_bltn (v := .ty "list") (by rfl) (T.f "list") bt_list rfl) (pa_cons (pe_bltn (v := .ty "tuple") (by rfl) (T.f "tuple") bt_tuple rfl) pa_nil))) pa_nil))))) (pw_or1 (pt_cmpR op_ne (pe_callB call_len_seq (by rfl) (T.f "len") PySem.boot_len (pa_cons (pv 1) pa_nil)) (pe_callB call_len_seq (by rfl) (T.f "len") PySem.boot_len (pa_cons (pe_words T) pa_nil)) (nomark _))))) (pss_one ps_never) pss_nil)
  (pss_cons (ps_if (PW.pt (pw_or (pt_not (pt_val (pe_callB (cr_all rfl) (by rfl) (T.f "all") bt_all (pa_cons (pe_lc (own := [("each", 2)]) rfl sc_Tongue_init.nd (pi_list (pv 1)) (blkOk_by (N := N_Tongue_init) (sc := defScope s_Tongue_init) (by decide +kernel)) (fun _ _ _ _ _ => (pg_name (i := 2) sc_Tongue_init.nd rfl (by first | exact .inl rfl | exact .inr rfl))) (fun _ _ _ _ _ => pts_nil) (fun _ _ _ _ _ => (pe_fx (ok_is_short T) (hr.mono (by decide)) (by rfl) (T.g "is_short") (pa_cons (pv 2) pa_nil)))) pa_nil)))) (pw_or1 (pt_not (pt_val (pe_fx (ok_is_apart T) (hr.mono (by decide)) (by rfl) (T.g "is_apart") (pa_cons (pv 1) pa_nil))))))) (pss_one ps_never) pss_nil)
  (pss_one (ps_fld (pv 0) (pe_callTy call_tuple_of (by rfl) (T.f "tuple") bt_tuple (pa_cons (pv 1) pa_nil)) rfl)))), ?_⟩
    refine ⟨_, rfl, two_le, fun t ht => ?_⟩
    have s1 := Same.new (o := .tup [V.ty "list", V.ty "tuple"]) ht
    have hl1 := s1 _ _ hl
    have hx1 := s1 _ _ hx
    refine ⟨_, _, _, _, _, _, rfl, upd_same, lt_cls, .base (.lst hl1), kit_lt_list, true, rfl, iteF ?_⟩
    refine ⟨_, rfl, l, _, rfl, .inl (SqL.of hl1), aW K, _, rfl, .inr (T.words.2.2.2 _), rfl, _, rfl, ?_⟩
    rw [List.length_map, h8]
    refine iteF ?_
    refine ⟨_, rfl, l, rfl, ⟨_, SqL.of hl1⟩, fun D hD => ?_⟩
    have hxD : ∀ H2, Same (upd H t (.tup [V.ty "list", V.ty "tuple"])) H2 → H2 x = some (.ins (He.ga K "Tongue") dx []) := fun H2 s2 => s2 _ _ hx1
    refine lc_sm (walk_list (K := K) (a := l) (xs := ns.map V.str)) hD (fun _ acc _ => ∃ bs : List Bool, acc = bs.map V.bl ∧ bs.all id = true) ⟨[], rfl, rfl⟩ (fun _ s => SqL.of (s _ _ hl1)) (fun _ _ _ _ _ h => h) (by rw [List.length_map, h8]; decide) ?_ ?_
    · rintro i v acc H2 H3 R R0 hi s2 hacc hla ⟨bs, rfl, hb⟩ ⟨rfl, hv⟩ hR hR0
      rw [List.getElem?_map] at hv
      obtain ⟨z, hz, rfl⟩ := Option.map_eq_some_iff.mp hv
      refine ⟨rfl, tY ⟨_, rfl, z, rfl, hn z (List.mem_of_getElem? hz), fun H4 s4 => hR _ _ s4 ⟨bs ++ [true], by simp, by simpa using hb⟩⟩⟩
    · rintro acc H2 s2 hacc _ ⟨bs, rfl, hb⟩
      refine ⟨D, bs, rfl, SqL.of hacc, _, rfl, ?_⟩
      rw [hb]
      refine iteF ⟨_, rfl, l, ns, rfl, SqL.of (s2 _ _ hl1), by omega, hap, fun H3 s3 => ⟨_, rfl, iteF ?_⟩⟩
      have hl3 := s3 _ _ (s2 _ _ hl1)
      have hx3 := s3 _ _ (s2 _ _ hx1)
      refine ⟨_, rfl, l, _, rfl, .inl ⟨SqL.of hl3, fun t2 nt2 => ?_⟩⟩
      have nxt : x ≠ t2 := ne_of_none hx3 nt2
      refine ⟨_, rfl, x, _, dx, _, rfl, (Same.new nt2 _ _ hx3), cT, T.na "Tongue" "names", by decide, ?_⟩
      have sH3 := (s1.trans s2).trans s3
      refine k _ t2 ((Same.x (sH3.new' nt2)).put) (sH3.free nt2) ?_ upd_same
      rw [upd_ne (Ne.symm nxt), upd_same]
end
end K53
end TK53Q

section TK53R
set_option maxHeartbeats 4000000
namespace K53
open PySem PySem.Spec PyProof.Rows L2
/-! ### programs by their length, in plain lists -/
def endW : Str := "end"
def IsProg (p : List Str) : Prop := ∀ x ∈ p, x ∈ words7
def plen (ln : Str → Nat) (p : List Str) : Nat := (p.map ln).sum + ln endW
structure RowIs (ln : Str → Nat) (L : Nat) (r : List (List Str)) : Prop where
  nodup : r.Nodup
  mem : ∀ p, p ∈ r ↔ IsProg p ∧ plen ln p = L
structure Ch (ln : Str → Nat) (cs : List (Str × Str)) : Prop where
  len : ∀ z ∈ cs, z.1.length = ln z.2
  perm : (cs.map (·.2)).Perm words8
theorem words8_cons : words8 = words7 ++ [endW] := by decide +kernel
theorem words8_nodup : words8.Nodup := by decide +kernel
theorem end_not7 : endW ∉ words7 := by decide +kernel
theorem mem8 {w : Str} : w ∈ words8 ↔ w ∈ words7 ∨ w = endW := by rw [words8_cons]; simp
theorem Ch.nodup {ln : Str → Nat} {cs : List (Str × Str)} (c : Ch ln cs) : (cs.map (·.2)).Nodup := (c.perm.nodup_iff).mpr words8_nodup
theorem Ch.mem {ln : Str → Nat} {cs : List (Str × Str)} (c : Ch ln cs) {w : Str} (h : w ∈ words8) : ∃ z ∈ cs, z.2 = w := by
  have := c.perm.mem_iff.mpr h
  obtain ⟨z, hz, e⟩ := List.mem_map.mp this
  exact ⟨z, hz, e⟩
theorem Ch.in8 {ln : Str → Nat} {cs : List (Str × Str)} (c : Ch ln cs) {z : Str × Str} (h : z ∈ cs) : z.2 ∈ words8 := c.perm.mem_iff.mp (List.mem_map.mpr ⟨z, h, rfl⟩)
/-- what one choice adds to a row -/
def addM (R : Nat → List (List Str)) (L : Nat) (z : Str × Str) : List (List Str) :=
  (if z.2 = endW ∧ z.1.length = L then [[]] else []) ++ (if z.2 ≠ endW ∧ z.1.length ≤ L then (R (L - z.1.length)).map (z.2 :: ·) else [])
def rowM (cs : List (Str × Str)) (R : Nat → List (List Str)) (L : Nat) : List (List Str) := cs.flatMap (addM R L)
theorem addM_end {R : Nat → List (List Str)} {L : Nat} {z : Str × Str} (h : z.2 = endW) : addM R L z = if z.1.length = L then [[]] else [] := by
  unfold addM
  rw [if_neg (c := z.2 ≠ endW ∧ _) (fun q => q.1 h), List.append_nil]
  by_cases hl : z.1.length = L
  · rw [if_pos ⟨h, hl⟩, if_pos hl]
  · rw [if_neg (fun q => hl q.2), if_neg hl]
theorem addM_word {R : Nat → List (List Str)} {L : Nat} {z : Str × Str} (h : z.2 ≠ endW) : addM R L z = if z.1.length ≤ L then (R (L - z.1.length)).map (z.2 :: ·) else [] := by
  unfold addM
  rw [if_neg (c := z.2 = endW ∧ _) (fun q => h q.1), List.nil_append]
  by_cases hl : z.1.length ≤ L
  · rw [if_pos ⟨h, hl⟩, if_pos hl]
  · rw [if_neg (fun q => hl q.2), if_neg hl]
theorem plen_cons (ln : Str → Nat) (w : Str) (p : List Str) : plen ln (w :: p) = ln w + plen ln p := by
  unfold plen
  rw [List.map_cons, List.sum_cons]
  omega
theorem addM_mem {ln : Str → Nat} {cs : List (Str × Str)} (c : Ch ln cs) {R : Nat → List (List Str)} {L : Nat} (hR : ∀ w ∈ words7, ln w ≤ L → RowIs ln (L - ln w) (R (L - ln w))) {z : Str × Str} (hz : z ∈ cs) (p : List Str) :
    p ∈ addM R L z ↔ (z.2 = endW ∧ p = [] ∧ plen ln p = L) ∨ (∃ q, p = z.2 :: q ∧ IsProg p ∧ plen ln p = L) := by
  have hl := c.len z hz
  by_cases h : z.2 = endW
  · rw [addM_end h]
    have e0 : plen ln [] = z.1.length := by rw [hl, h]; simp [plen]
    constructor
    · intro hp
      by_cases h2 : z.1.length = L
      · rw [if_pos h2] at hp
        have : p = [] := by simpa using hp
        subst this
        exact .inl ⟨h, rfl, e0.trans h2⟩
      · rw [if_neg h2] at hp
        cases hp
    · rintro (⟨_, rfl, h3⟩ | ⟨q, rfl, h3, _⟩)
      · rw [if_pos (by omega)]
        simp
      · exact absurd (h ▸ h3 z.2 List.mem_cons_self) end_not7
  · rw [addM_word h]
    have h7 : z.2 ∈ words7 := (mem8.mp (c.in8 hz)).resolve_right h
    constructor
    · intro hp
      by_cases h2 : z.1.length ≤ L
      · rw [if_pos h2] at hp
        obtain ⟨q, hq, rfl⟩ := List.mem_map.mp hp
        rw [hl] at h2 hq
        obtain ⟨g1, g2⟩ := ((hR z.2 h7 h2).mem q).mp hq
        refine .inr ⟨q, rfl, fun x hx => ?_, ?_⟩
        · rcases List.mem_cons.mp hx with rfl | hx
          · exact h7
          · exact g1 x hx
        · rw [plen_cons]
          omega
      · rw [if_neg h2] at hp
        cases hp
    · rintro (⟨h3, _⟩ | ⟨q, rfl, h3, h4⟩)
      · exact absurd h3 h
      · rw [plen_cons] at h4
        rw [if_pos (by omega)]
        refine List.mem_map.mpr ⟨q, ?_, rfl⟩
        rw [hl]
        exact ((hR z.2 h7 (by omega)).mem q).mpr ⟨fun x hx => h3 x (List.mem_cons_of_mem _ hx), by omega⟩
theorem addM_nodup {ln : Str → Nat} {cs : List (Str × Str)} (c : Ch ln cs) {R : Nat → List (List Str)} {L : Nat} (hR : ∀ w ∈ words7, ln w ≤ L → RowIs ln (L - ln w) (R (L - ln w))) {z : Str × Str} (hz : z ∈ cs) : (addM R L z).Nodup := by
  by_cases h : z.2 = endW
  · rw [addM_end h]
    by_cases h2 : z.1.length = L
    · rw [if_pos h2]; simp
    · rw [if_neg h2]; simp
  · rw [addM_word h]
    have h7 : z.2 ∈ words7 := (mem8.mp (c.in8 hz)).resolve_right h
    by_cases h2 : z.1.length ≤ L
    · rw [if_pos h2]
      rw [c.len z hz] at h2 ⊢
      rw [List.nodup_iff_pairwise_ne, List.pairwise_map]
      exact ((List.nodup_iff_pairwise_ne).mp (hR z.2 h7 h2).nodup).imp fun h e => h (List.cons.inj e).2
    · rw [if_neg h2]; simp
theorem rowM_is {ln : Str → Nat} {cs : List (Str × Str)} (c : Ch ln cs) {R : Nat → List (List Str)} {L : Nat} (hR : ∀ w ∈ words7, ln w ≤ L → RowIs ln (L - ln w) (R (L - ln w))) : RowIs ln L (rowM cs R L) := by
  constructor
  · unfold rowM
    rw [List.nodup_iff_pairwise_ne, List.pairwise_flatMap]
    refine ⟨fun z hz => ?_, ?_⟩
    · rw [← List.nodup_iff_pairwise_ne]
      refine addM_nodup c hR hz
    · have nd := c.nodup
      rw [List.nodup_iff_pairwise_ne, List.pairwise_map] at nd
      refine List.Pairwise.imp_of_mem (fun {x y} hx hy hxy => ?_) nd
      rintro p hp1 _ hp2 rfl
      rcases (addM_mem c hR hx p).mp hp1 with ⟨e1, rfl, _⟩ | ⟨q, rfl, _⟩
      · rcases (addM_mem c hR hy []).mp hp2 with ⟨e2, _⟩ | ⟨q, e, _⟩
        · exact hxy (e1.trans e2.symm)
        · cases e
      · rcases (addM_mem c hR hy _).mp hp2 with ⟨_, e, _⟩ | ⟨q', e, _⟩
        · cases e
        · exact hxy (List.cons.inj e).1
  · intro p
    unfold rowM
    rw [List.mem_flatMap]
    constructor
    · rintro ⟨z, hz, hp⟩
      rcases (addM_mem c hR hz p).mp hp with ⟨_, rfl, h⟩ | ⟨q, _, h⟩
      · exact ⟨fun x hx => (List.not_mem_nil hx).elim, h⟩
      · exact h
    · rintro ⟨h1, h2⟩
      cases p with
      | nil =>
        obtain ⟨z, hz, e⟩ := c.mem (mem8.mpr (.inr rfl))
        exact ⟨z, hz, (addM_mem c hR hz []).mpr (.inl ⟨e, rfl, h2⟩)⟩
      | cons w q =>
        obtain ⟨z, hz, rfl⟩ := c.mem (mem8.mpr (.inl (h1 w List.mem_cons_self)))
        exact ⟨z, hz, (addM_mem c hR hz _).mpr (.inr ⟨q, rfl, h1, h2⟩)⟩
theorem rowM_take {cs : List (Str × Str)} {R : Nat → List (List Str)} {L i : Nat} : (rowM (cs.take i) R L).length ≤ (rowM cs R L).length := by
  have e : rowM cs R L = rowM (cs.take i) R L ++ rowM (cs.drop i) R L := by
    unfold rowM
    rw [← List.flatMap_append, List.take_append_drop]
  rw [e, List.length_append]
  omega
theorem rowM_step {cs : List (Str × Str)} {R : Nat → List (List Str)} {L i : Nat} {z : Str × Str} (h : cs[i]? = some z) : rowM (cs.take (i + 1)) R L = rowM (cs.take i) R L ++ addM R L z := by
  unfold rowM
  obtain ⟨hi, rfl⟩ := List.getElem?_eq_some_iff.mp h
  rw [List.take_succ_eq_append_getElem hi, List.flatMap_append]
  simp
/-! ### Kraft's sum -/
def Kraft (ln : Str → Nat) : Prop := (words8.map fun w => 2 ^ (8 - ln w)).sum ≤ 256
def LnOk (ln : Str → Nat) : Prop := ∀ w ∈ words8, 1 ≤ ln w ∧ ln w ≤ 8
theorem sum_split {α : Type} (cls : List (α → Bool)) (f : α → Nat) : ∀ (r : List α), (∀ x ∈ r, ∃ c ∈ cls, c x = true) → (r.map f).sum ≤ (cls.map fun c => ((r.filter c).map f).sum).sum
  | [], _ => by simp
  | x :: r, h => by
    have ih := sum_split cls f r fun y hy => h y (List.mem_cons_of_mem _ hy)
    obtain ⟨c0, hc0, e0⟩ := h x List.mem_cons_self
    have key : ∀ cs : List (α → Bool), (cs.map fun c => ((r.filter c).map f).sum).sum + (if cs.any (fun c => c x) then f x else 0) ≤ (cs.map fun c => (((x :: r).filter c).map f).sum).sum := by
      intro cs
      induction cs with
      | nil => simp
      | cons c cs ih =>
        rw [List.map_cons, List.sum_cons, List.map_cons, List.sum_cons, List.any_cons, List.filter_cons]
        cases hc : c x with
        | true =>
          rw [if_pos rfl, List.map_cons, List.sum_cons, Bool.true_or, if_pos rfl]
          have : (cs.map fun c => ((r.filter c).map f).sum).sum ≤ (cs.map fun c => (((x :: r).filter c).map f).sum).sum := by omega
          omega
        | false =>
          rw [if_neg Bool.false_ne_true, Bool.false_or]
          omega
    have k := key cls
    rw [if_pos (List.any_eq_true.mpr ⟨c0, hc0, e0⟩)] at k
    rw [List.map_cons, List.sum_cons]
    omega
theorem sum_le_sum {α : Type} (f g : α → Nat) : ∀ (l : List α), (∀ x ∈ l, f x ≤ g x) → (l.map f).sum ≤ (l.map g).sum
  | [], _ => by simp
  | x :: l, h => by
    have := sum_le_sum f g l fun y hy => h y (List.mem_cons_of_mem _ hy)
    have := h x List.mem_cons_self
    simp only [List.map_cons, List.sum_cons]
    omega
theorem sum_mul {α : Type} (f : α → Nat) (c : Nat) : ∀ (l : List α), (l.map fun x => f x * c).sum = (l.map f).sum * c
  | [] => by simp
  | x :: l => by simp only [List.map_cons, List.sum_cons, sum_mul f c l, Nat.add_mul]
/-- Kraft's sum at any length -/
theorem kraft_at {ln : Str → Nat} (k : Kraft ln) (o : LnOk ln) (L : Nat) : (words8.map fun w => if ln w ≤ L then 2 ^ (L - ln w) else 0).sum ≤ 2 ^ L := by
  have h1 : (words8.map fun w => (if ln w ≤ L then 2 ^ (L - ln w) else 0) * 2 ^ 8).sum ≤ (words8.map fun w => 2 ^ (8 - ln w) * 2 ^ L).sum := by
    refine sum_le_sum _ _ _ fun w hw => ?_
    have := o w hw
    by_cases h : ln w ≤ L
    · rw [if_pos h, ← Nat.pow_add, ← Nat.pow_add]
      exact Nat.pow_le_pow_right (by decide) (by omega)
    · rw [if_neg h, Nat.zero_mul]
      exact Nat.zero_le _
  rw [sum_mul, sum_mul] at h1
  have h2 : (words8.map fun w => 2 ^ (8 - ln w)).sum * 2 ^ L ≤ 256 * 2 ^ L := Nat.mul_le_mul_right _ k
  have h3 : (words8.map fun w => if ln w ≤ L then 2 ^ (L - ln w) else 0).sum * 256 ≤ 256 * 2 ^ L := Nat.le_trans h1 h2
  omega
/-- distinct programs, weighed -/
theorem kraft_sum {ln : Str → Nat} (k : Kraft ln) (o : LnOk ln) : ∀ (L : Nat) (r : List (List Str)), r.Nodup → (∀ p ∈ r, IsProg p ∧ plen ln p ≤ L) → (r.map fun p => 2 ^ (L - plen ln p)).sum ≤ 2 ^ L := by
  intro L
  induction L using Nat.strongRecOn with
  | _ L ih =>
  intro r hn hp
  have hsp := sum_split (words8.map fun w (p : List Str) => match p with | [] => decide (w = endW) | v :: _ => decide (v = w)) (fun p => 2 ^ (L - plen ln p)) r fun p h => by
    cases p with
    | nil => exact ⟨_, List.mem_map.mpr ⟨endW, mem8.mpr (.inr rfl), rfl⟩, decide_eq_true rfl⟩
    | cons v q => exact ⟨_, List.mem_map.mpr ⟨v, mem8.mpr (.inl ((hp _ h).1 v List.mem_cons_self)), rfl⟩, decide_eq_true rfl⟩
  refine Nat.le_trans hsp ?_
  rw [List.map_map]
  refine Nat.le_trans ?_ (kraft_at k o L)
  refine sum_le_sum _ _ _ fun w hw => ?_
  show ((r.filter fun (p : List Str) => match p with | [] => decide (w = endW) | v :: _ => decide (v = w)).map fun p => 2 ^ (L - plen ln p)).sum ≤ _
  generalize hc : (fun (p : List Str) => match p with | [] => decide (w = endW) | v :: _ => decide (v = w)) = c
  by_cases he : w = endW
  · subst he
    have all : ∀ p ∈ r.filter c, p = [] := by
      intro p h
      rw [List.mem_filter] at h
      cases p with
      | nil => rfl
      | cons v q =>
        have : decide (v = endW) = true := by rw [← h.2, ← hc]
        exact absurd (of_decide_eq_true this ▸ (hp _ h.1).1 v List.mem_cons_self) end_not7
    have nd := hn.filter c
    generalize hf : r.filter c = f at all nd
    cases f with
    | nil => simp
    | cons p q =>
      have e1 := all p List.mem_cons_self
      subst e1
      have e2 : q = [] := by
        cases q with
        | nil => rfl
        | cons p2 q2 =>
          have := all p2 (by simp)
          subst this
          simp at nd
      subst e2
      have hm : ([] : List Str) ∈ r := (List.mem_filter.mp (hf ▸ List.mem_cons_self)).1
      have hle := (hp _ hm).2
      have e3 : plen ln [] = ln endW := by simp [plen]
      rw [e3] at hle
      rw [if_pos hle]
      simp [e3]
  · have h7 : w ∈ words7 := (mem8.mp hw).resolve_right he
    have hw1 := o w hw
    have all : ∀ p ∈ r.filter c, ∃ q, p = w :: q := by
      intro p h
      rw [List.mem_filter] at h
      cases p with
      | nil =>
        have : decide (w = endW) = true := by rw [← h.2, ← hc]
        exact absurd (of_decide_eq_true this) he
      | cons v q =>
        have : decide (v = w) = true := by rw [← h.2, ← hc]
        exact ⟨q, by rw [of_decide_eq_true this]⟩
    have nd := hn.filter c
    have hm : ∀ p ∈ r.filter c, p ∈ r := fun p h => (List.mem_filter.mp h).1
    generalize r.filter c = f at all nd hm
    have ef : f = (f.map List.tail).map (w :: ·) := by
      rw [List.map_map]
      conv => lhs; rw [← List.map_id f]
      refine List.map_congr_left fun p h => ?_
      obtain ⟨q, rfl⟩ := all p h
      rfl
    by_cases hL : ln w ≤ L
    · rw [if_pos hL]
      have := ih (L - ln w) (by omega) (f.map List.tail) (by
        rw [ef, List.pairwise_map] at nd
        rw [List.nodup_iff_pairwise_ne]
        exact nd.imp fun h e => h (congrArg _ e)) fun q hq => by
          obtain ⟨p, h, rfl⟩ := List.mem_map.mp hq
          obtain ⟨q, rfl⟩ := all p h
          have g := hp _ (hm _ h)
          rw [plen_cons] at g
          exact ⟨fun x hx => g.1 x (List.mem_cons_of_mem _ hx), by show plen ln q ≤ _; omega⟩
      refine Nat.le_trans (Nat.le_of_eq ?_) this
      conv => lhs; rw [ef]
      rw [List.map_map]
      congr 1
      refine List.map_congr_left fun q hq => ?_
      show 2 ^ (L - plen ln (w :: q)) = 2 ^ (L - ln w - plen ln q)
      rw [plen_cons, Nat.sub_sub]
    · have : f = [] := by
        cases f with
        | nil => rfl
        | cons p q =>
          obtain ⟨t, rfl⟩ := all p List.mem_cons_self
          have g := (hp _ (hm _ List.mem_cons_self)).2
          rw [plen_cons] at g
          omega
      subst this
      simp
theorem row_len {ln : Str → Nat} (k : Kraft ln) (o : LnOk ln) {L : Nat} {r : List (List Str)} (h : RowIs ln L r) : r.length ≤ 2 ^ L := by
  have := kraft_sum k o L r h.nodup fun p hp => ⟨((h.mem p).mp hp).1, Nat.le_of_eq ((h.mem p).mp hp).2⟩
  refine Nat.le_trans (Nat.le_of_eq ?_) this
  have e : (r.map fun p => 2 ^ (L - plen ln p)) = r.map fun _ => 1 := List.map_congr_left fun p hp => by
    rw [((h.mem p).mp hp).2, Nat.sub_self]
  rw [e]
  clear e this h
  induction r with
  | nil => rfl
  | cons p r ih => simp only [List.map_cons, List.sum_cons, List.length_cons]; omega
end K53
end TK53R

section TK53S
set_option maxHeartbeats 4000000

namespace K53
open PySem PySem.Spec PyProof.Rows L2
/-- the choices laid -/
def ChAt (H : Hp) (c : Addr) (cs : List (Str × Str)) : Prop := ∃ ps : List (Addr × Str × Str), ps.map (·.2) = cs ∧ H c = some (.lst (ps.map fun z => V.ref z.1)) ∧ ∀ z ∈ ps, H z.1 = some (.tup [.str z.2.1, .str z.2.2])
theorem ChAt.same {H H' : Hp} {c : Addr} {cs : List (Str × Str)} (h : ChAt H c cs) (s : Same H H') : ChAt H' c cs := by
  obtain ⟨ps, h1, h2, h3⟩ := h
  exact ⟨ps, h1, s _ _ h2, fun z hz => s _ _ (h3 z hz)⟩
/-- a row laid -/
def Tups (H : Hp) (ps : List (Addr × List Str)) : Prop := ∀ z ∈ ps, H z.1 = some (.tup (z.2.map V.str))
def RowAt (H : Hp) (a : Addr) (r : List (List Str)) : Prop := ∃ ps : List (Addr × List Str), ps.map (·.2) = r ∧ H a = some (.lst (ps.map fun z => V.ref z.1)) ∧ Tups H ps
theorem Tups.same {H H' : Hp} {ps : List (Addr × List Str)} (h : Tups H ps) (s : Same H H') : Tups H' ps := fun z hz => s _ _ (h z hz)
theorem RowAt.same {H H' : Hp} {a : Addr} {r : List (List Str)} (h : RowAt H a r) (s : Same H H') : RowAt H' a r := by
  obtain ⟨ps, h1, h2, h3⟩ := h
  exact ⟨ps, h1, s _ _ h2, h3.same s⟩
section
variable {P : Program} {w : World} {K : PySem.W.Frag} {mg : Str → Option Value} {base : Heap}
abbrev N_choices_of : List Str := ["tongue"]
theorem sc_choices_of : FnScope N_choices_of ["tongue"] (defScope s_choices_of) := ⟨rfl, rfl, rfl, by decide +kernel, rfl, by decide +kernel, by decide +kernel⟩
def sp_choices_of (K : PySem.W.Frag) : Sp := fun vs H Q _ => ∃ (x dx t : Addr) (ns : List Str), vs = [.ref x] ∧ H x = some (.ins (He.ga K "Tongue") dx (fTongue (.ref t))) ∧ H t = some (.tup (ns.map V.str)) ∧ ns.length = 8 ∧
  ∀ H' c cs, Same H H' → ChAt H' c cs → cs.Perm (ns.zip words8) → Q (.ref c) H'
theorem ok_choices_of (T : TX w K mg) : FnX P w K mg base 1 ("choices_of", none) ["tongue"] [] (sp_choices_of K) := by
  refine FnX.of T.qd_choices_of rfl sc_choices_of (fun vs H Q E h => ?_) (fun _ _ _ _ _ _ us hl => match us, hl with | [_], _ => rfl) (fun cdv A outer s H vs Q E hr h => ?_)
  · obtain ⟨x, dx, t, ns, rfl, _⟩ := h
    rfl
  · obtain ⟨x, dx, t, ns, rfl, hx, ht, h8, k⟩ := h
    refine ⟨_, (pss_one (ps_ret (ZT.pe_sortedZip (by rfl) (T.f "sorted") (by rfl) (T.f "zip") (pa_cons (pe_fld (pv 0) rfl) (pa_cons (pe_words T) pa_nil)) rfl hr.units))), ?_⟩
    refine ⟨_, rfl, x, _, dx, _, _, rfl, hx, T.cls "Tongue", T.na "Tongue" "names", lk_Tongue_names, t, aW K, ns, words8, rfl, SqT.of ht, T.words.2.2.2 _, h8, fun H' c ps s' hp hc hz => ?_⟩
    exact k _ c _ s' ⟨ps, rfl, hc, hz⟩ hp
abbrev N_row_at : List Str := ["choices", "rows", "length", "row", "name", "word", "rest"]
theorem sc_row_at : FnScope N_row_at ["choices", "rows", "length"] (defScope s_row_at) := ⟨rfl, rfl, rfl, by decide +kernel, rfl, by decide +kernel, by decide +kernel⟩
def sp_row_at (K : PySem.W.Frag) : Sp := fun vs H Q _ => ∃ (c d : Addr) (L : Nat) (cs : List (Str × Str)) (kvs : List (Key × V)) (R : Nat → List (List Str)), vs = [.ref c, .ref d, .int (L : Int)] ∧ ChAt H c cs ∧ H d = some (.dK kvs) ∧ (∀ z ∈ cs, z.1.length ≤ 8) ∧
  (∀ z ∈ cs, z.2 ≠ endW → z.1.length ≤ L → ∃ ra, valV kvs (.inl ((L - z.1.length : Nat) : Int)) = some (.ref ra) ∧ RowAt H ra (R (L - z.1.length))) ∧ (rowM cs R L).length ≤ 16777216 ∧ (∀ z ∈ cs, ∀ p ∈ R (L - z.1.length), p.length ≤ 1000) ∧
  ∀ H' a, Same H H' → H a = none → RowAt H' a (rowM cs R L) → Q (.ref a) H'
theorem ok_row_at (T : TX w K mg) : FnX P w K mg base 1 ("row_at", none) ["choices", "rows", "length"] [] (sp_row_at K) := by
  refine FnX.of T.qd_row_at rfl sc_row_at (fun vs H Q E h => ?_) (fun _ _ _ _ _ _ us hl => match us, hl with | [_, _, _], _ => rfl) (fun cdv A outer s H vs Q E hr h => ?_)
  · obtain ⟨c, d, L, cs, kvs, R, rfl, _⟩ := h
    rfl
  · obtain ⟨c, d, L, cs, kvs, R, rfl, hc, hd, h8, hR, hlen, hpl, k⟩ := h
    have hu : (A.deeper (envOfC d_row_at.qual d_row_at.scope s.heap.objs.size (He.fAd K d_row_at.at_) cdv)).units + 1 < cLine := by have := hr.units; omega
    refine ⟨_, (pss_cons (ps_set (i := 3) sc_row_at.nd rfl (by first | exact .inl rfl | exact .inr rfl) (pe_lst pa_nil))
  (pss_cons (ps_for PassesOwn.never rfl (pi_list (pv 0)) (pg_tup (n := 2) rfl (pgs_cons (pg_name (i := 4) sc_row_at.nd rfl (by first | exact .inl rfl | exact .inr rfl)) (pgs_cons (pg_name (i := 5) sc_row_at.nd rfl (by first | exact .inl rfl | exact .inr rfl)) pgs_nil)))
  (pss_cons (ps_if (PW.pt (pw_and (pt_cmpR op_eq (pv 5) (pe_gs (by rfl) (T.s "END_programs" "end")) (nomark _)) (pw_and1 (pt_cmpR op_eq (pe_callB call_len_str (by rfl) (T.f "len") PySem.boot_len (pa_cons (pv 4) pa_nil)) (pv 2) (nomark _))))) (pss_one (ps_expr (pe_bm PySem.F.plainAttrs_list PySem.F.slot_list_append PySem.F.type_list_append mt_append (pv 3) (pa_cons (pe_tup pa_nil) pa_nil)))) pss_nil)
  (pss_one (ps_if (PW.pt (pw_and (pt_cmpR op_ne (pv 5) (pe_gs (by rfl) (T.s "END_programs" "end")) (nomark _)) (pw_and1 (pt_cmpR op_le (pe_callB call_len_str (by rfl) (T.f "len") PySem.boot_len (pa_cons (pv 4) pa_nil)) (pv 2) (nomark _))))) (pss_one (ps_expr (pe_bm PySem.F.plainAttrs_list PySem.F.slot_list_extend PySem.F.type_list_extend mt_extend (pv 3) (pa_cons (pe_lc (own := [("rest", 6)]) rfl sc_row_at.nd (pi_list (pe_dget hu (pv 1) (pe_op op_sub (pv 2) (pe_callB call_len_str (by rfl) (T.f "len") PySem.boot_len (pa_cons (pv 4) pa_nil))) (fun _ _ => rfl))) (blkOk_by (N := N_row_at) (sc := defScope s_row_at) (by decide +kernel)) (fun _ _ _ _ _ => (pg_name (i := 6) sc_row_at.nd rfl (by first | exact .inl rfl | exact .inr rfl))) (fun _ _ _ _ _ => pts_nil) (fun _ _ _ _ _ => (pe_op (op_catAK (K := K)) (pe_tup (pa_cons (pv 5) pa_nil)) (pv 6)))) pa_nil)))) pss_nil))))
  (pss_one (ps_ret (pv 3))))), ?_⟩
    obtain ⟨zs, hzs, hcl, hzt⟩ := hc
    refine ⟨Nat.zero_le _, fun row nrow => ?_⟩
    have s0 : Same H (upd H row (.lst [])) := Same.new nrow
    refine ⟨_, rfl, c, rfl, ⟨_, SqL.of (s0 _ _ hcl)⟩, ?_⟩
    refine for_list (K := K) (xs := zs.map fun z => V.ref z.1) (fun i σ H' => ∃ (nw ww : Option V) (ps : List (Addr × List Str)), σ = [some (.ref c), some (.ref d), some (.int (L : Int)), some (.ref row), nw, ww, none] ∧ Same H H' ∧ H' row = some (.lst (ps.map fun z => V.ref z.1)) ∧
      ps.map (·.2) = rowM (cs.take i) R L ∧ Tups H' ps) ?_ ?_ ?_ ?_
    · exact ⟨none, none, [], rfl, s0, upd_same, rfl, fun z h => (List.not_mem_nil h).elim⟩
    · rintro i σ H' _ ⟨nw, ww, ps, rfl, s1, _⟩
      exact SqL.of (s1 _ _ hcl)
    · rintro i x σ H' hx ⟨nw, ww, ps, rfl, s1, hrow, hps, htp⟩
      rw [List.getElem?_map] at hx
      obtain ⟨⟨za, zn, zw⟩, hz, rfl⟩ := Option.map_eq_some_iff.mp hx
      have hzm := List.mem_of_getElem? hz
      have hci : cs[i]? = some (zn, zw) := by rw [← hzs, List.getElem?_map, hz]; rfl
      have hcm := List.mem_of_getElem? hci
      have hz8 := h8 _ hcm
      dsimp only at hz8
      have hzl : zn.length ≤ sizeLine := size24 (by omega)
      have hstep := rowM_step (R := R) (L := L) hci
      have htake := rowM_take (cs := cs) (R := R) (L := L) (i := i + 1)
      have hpl0 : ps.length = (rowM (cs.take i) R L).length := by rw [← hps, List.length_map]
      have hpl1 : (rowM (cs.take (i + 1)) R L).length = (rowM (cs.take i) R L).length + (addM R L (zn, zw)).length := by rw [hstep, List.length_append]
      refine ⟨za, _, rfl, SqT.of (s1 _ _ (hzt _ hzm)), rfl, _, _, rfl, _, _, rfl, rfl, ?_⟩
      -- if word == END and len(name) == length
      refine ⟨_, rfl, rfl, _, rfl, ?_⟩
      by_cases hw : zw = endW
      · rw [decide_eq_true (show V.str zw = V.str ("end" : Str) from congrArg V.str hw)]
        have hadd := addM_end (R := R) (L := L) (z := (zn, zw)) hw
        dsimp only at hadd
        refine iteT ⟨_, rfl, zn, rfl, hzl, _, rfl, rfl, _, rfl, ?_⟩
        have fin : ∀ (H2 : Hp) (qs : List (Addr × List Str)), Same H H2 → H2 row = some (.lst (qs.map fun z => V.ref z.1)) → qs.map (·.2) = rowM (cs.take (i + 1)) R L → Tups H2 qs →
            ∃ (nw ww : Option V) (ps : List (Addr × List Str)), [some (.ref c), some (.ref d), some (.int (L : Int)), some (.ref row), some (.str zn), some (.str zw), none] = [some (.ref c), some (.ref d), some (.int (L : Int)), some (.ref row), nw, ww, none] ∧ Same H H2 ∧ H2 row = some (.lst (ps.map fun z => V.ref z.1)) ∧
      ps.map (·.2) = rowM (cs.take (i + 1)) R L ∧ Tups H2 ps := fun H2 qs h1 h2 h3 h4 => ⟨_, _, qs, rfl, h1, h2, h3, h4⟩
        have skip : ∀ (H2 : Hp) (qs : List (Addr × List Str)), Same H H2 → H2 row = some (.lst (qs.map fun z => V.ref z.1)) → qs.map (·.2) = rowM (cs.take (i + 1)) R L → Tups H2 qs → _ := fun H2 qs h1 h2 h3 h4 => fin H2 qs h1 h2 h3 h4
        by_cases hL : zn.length = L
        · rw [decide_eq_true (show V.int (zn.length : Int) = V.int (L : Int) by rw [hL])]
          rw [if_pos hL] at hadd
          rw [hadd, List.length_singleton] at hpl1
          refine iteT ⟨_, rfl, .inl ⟨rfl, _, SqL.of hrow⟩, Nat.zero_le _, fun p np => ⟨row, _, _, rfl, rfl, (Same.new np _ _ hrow), ?_, ?_⟩⟩
          · rw [List.length_map]
            exact size24' (by omega)
          · refine ⟨_, rfl, rfl, _, rfl, ?_⟩
            rw [decide_eq_true (show V.str zw = V.str ("end" : Str) from congrArg V.str hw)]
            have nrp : row ≠ p := ne_of_none hrow np
            refine iteF (fin _ (ps ++ [(p, [])]) ((s1.new' np).mut nrow) ?_ ?_ ?_)
            · rw [upd_same, List.map_append]
              rfl
            · rw [List.map_append, hps, hstep, hadd]
              rfl
            · intro z hz
              rcases List.mem_append.mp hz with hz | hz
              · have := htp z hz
                rw [upd_ne (ne_of this hrow (by intro q; cases q)), upd_ne (ne_of_none this np)]
                exact this
              · rw [List.mem_singleton.mp hz, upd_ne (Ne.symm nrp), upd_same]
                rfl
        · rw [decide_eq_false fun q => hL (by have := V.int.inj q; omega)]
          rw [if_neg hL] at hadd
          refine iteF ⟨_, rfl, rfl, _, rfl, ?_⟩
          rw [decide_eq_true (show V.str zw = V.str ("end" : Str) from congrArg V.str hw)]
          exact iteF (fin _ ps s1 hrow (by rw [hps, hstep, hadd, List.append_nil]) htp)
      · rw [decide_eq_false (show ¬ V.str zw = V.str ("end" : Str) from fun q => hw (V.str.inj q))]
        have hadd := addM_word (R := R) (L := L) (z := (zn, zw)) hw
        dsimp only at hadd
        refine iteF ⟨_, rfl, rfl, _, rfl, ?_⟩
        rw [decide_eq_false (show ¬ V.str zw = V.str ("end" : Str) from fun q => hw (V.str.inj q))]
        refine iteT ⟨_, rfl, zn, rfl, hzl, _, rfl, _, _, rfl, rfl, _, rfl, ?_⟩
        by_cases hL : zn.length ≤ L
        · rw [decide_eq_true (show (zn.length : Int) ≤ (L : Int) by omega)]
          rw [if_pos hL] at hadd
          obtain ⟨ra, hra, rs, hrs, hrl, hrt⟩ := hR _ hcm hw hL
          dsimp only at hra hrs
          rw [hadd, List.length_map, ← hrs, List.length_map] at hpl1
          have hkey : valV kvs (.inl ((L : Int) - (zn.length : Int))) = some (.ref ra) := by
            rw [← hra]
            congr 2
            omega
          refine iteT ⟨_, rfl, .inl ⟨rfl, _, SqL.of hrow⟩, ?_⟩
          refine ⟨_, rfl, _, rfl, _, rfl, zn, rfl, hzl, _, _, rfl, rfl, d, .ref ra, rfl, .inl ⟨kvs, .inl ((L : Int) - (zn.length : Int)), .inl (s1 _ _ hd), rfl, hkey.symm⟩, ra, rfl, ⟨_, SqL.of (s1 _ _ hrl)⟩, fun D hD => ?_⟩
          have nRD : row ≠ D := ne_of_none hrow hD
          refine lc_sm (walk_list (K := K) (a := ra) (xs := rs.map fun z => V.ref z.1)) hD (fun j acc H2 => ∃ qs : List (Addr × List Str), acc = qs.map (fun z => V.ref z.1) ∧ qs.map (·.2) = (rs.take j).map (fun z => zw :: z.2) ∧ ∀ z ∈ qs, z.1 ≠ D ∧ H2 z.1 = some (.tup (z.2.map V.str)))
            ⟨[], rfl, rfl, fun z h => (List.not_mem_nil h).elim⟩ (fun _ s => SqL.of (s _ _ (s1 _ _ hrl))) (fun j acc H2 H3 hk ⟨qs, h1, h2, h3⟩ => ⟨qs, h1, h2, fun z hz => ⟨(h3 z hz).1, hk _ _ (h3 z hz).1 (h3 z hz).2⟩⟩) (by rw [List.length_map]; omega) ?_ ?_
          · rintro j v acc H2 H3 Rk R0 hj s2 hacc hla ⟨qs, rfl, hq2, hq3⟩ ⟨rfl, hv⟩ hRk hR0
            rw [List.getElem?_map] at hv
            obtain ⟨⟨ba, bp⟩, hb, rfl⟩ := Option.map_eq_some_iff.mp hv
            have hbm := List.mem_of_getElem? hb
            have hbt := s2 _ _ (s1 _ _ (hrt _ hbm))
            dsimp only at hbt
            have hbl : bp.length ≤ 1000 := hpl _ hcm bp (by rw [← hrs]; exact List.mem_map.mpr ⟨_, hbm, rfl⟩)
            have htk : (rs.take (j + 1)).map (fun z => zw :: z.2) = (rs.take j).map (fun z => zw :: z.2) ++ [zw :: bp] := by
              obtain ⟨hjl, hje⟩ := List.getElem?_eq_some_iff.mp hb
              rw [List.take_succ_eq_append_getElem hjl, List.map_append, hje]
              rfl
            have go : ∀ (p : Addr) (H4 : Hp), Same H3 H4 → H3 p = none → H4 p = some (.tup ((zw :: bp).map V.str)) → Rk (.ref p) H4 := by
              intro p H4 s4 np hp
              refine hRk _ _ s4 ⟨qs ++ [(p, zw :: bp)], by rw [List.map_append]; rfl, ?_, ?_⟩
              · rw [List.map_append, hq2, htk]
                rfl
              · intro z hz
                rcases List.mem_append.mp hz with hz | hz
                · exact ⟨(hq3 z hz).1, s4 _ _ (hq3 z hz).2⟩
                · rw [List.mem_singleton.mp hz]
                  refine ⟨fun q => ?_, hp⟩
                  rw [← q] at hacc
                  rw [show H3 p = none from np] at hacc
                  cases hacc
            refine ⟨rfl, tY ⟨_, rfl, (show 1 ≤ sizeLine by decide), fun p np => ⟨_, rfl, p, ba, _, _, rfl, rfl, SqT.of upd_same, SqT.of (Same.new np _ _ hbt), ?_, (fun h => nomatch h), fun _ h => ?_, fun _ h q nq => ?_⟩⟩⟩
            · rw [List.length_map]
              exact size24 (by show 1 + _ ≤ _; omega)
            · have e : bp = [] := List.map_eq_nil_iff.mp h
              subst e
              exact go p _ (Same.new np) np upd_same
            · refine go q _ ((Same.new np).new' nq) ?_ ?_
              · cases e : H3 q with
                | none => rfl
                | some o =>
                  rw [Same.new np _ _ e] at nq
                  cases nq
              · rw [upd_same]
                rfl
          · rintro acc H2 s2 hacc _ ⟨qs, rfl, hq2, hq3⟩
            have hrow2 := s2 _ _ hrow
            rw [List.length_map, List.take_length] at hq2
            have hql : qs.length = rs.length := by
              have := congrArg List.length hq2
              rwa [List.length_map, List.length_map] at this
            refine ⟨row, D, _, _, rfl, rfl, hrow2, hacc, ?_, ?_⟩
            · rw [List.length_map, List.length_map]
              exact size24 (by omega)
            · refine ⟨_, _, ps ++ qs, rfl, (s1.trans s2).mut nrow, ?_, ?_, ?_⟩
              · rw [upd_same, List.map_append]
              · rw [List.map_append, hps, hstep, hadd, hq2, ← hrs, List.map_map]
                rfl
              · intro z hz
                rcases List.mem_append.mp hz with hz | hz
                · have := s2 _ _ (htp z hz)
                  rw [upd_ne (ne_of this hrow2 (by intro q; cases q))]
                  exact this
                · have := (hq3 z hz).2
                  rw [upd_ne (ne_of this hrow2 (by intro q; cases q))]
                  exact this
        · rw [decide_eq_false (show ¬ (zn.length : Int) ≤ (L : Int) by omega)]
          rw [if_neg hL] at hadd
          exact iteF ⟨_, _, ps, rfl, s1, hrow, by rw [hps, hstep, hadd, List.append_nil], htp⟩
    · rintro σ H' ⟨nw, ww, ps, rfl, s1, hrow, hps, htp⟩
      have e : cs.take (zs.map fun z => V.ref z.1).length = cs := by
        rw [List.length_map, ← hzs, List.take_of_length_le (by rw [List.length_map]; exact Nat.le_refl _)]
      rw [e] at hps
      exact ⟨_, rfl, k _ row s1 nrow ⟨ps, hps, hrow, htp⟩⟩
end
end K53
end TK53S

section TK53T
set_option maxHeartbeats 4000000

namespace K53
open PySem PySem.Spec PyProof.Rows L2
/-- the length of the name of a word -/
def lnOf (ns : List Str) (w : Str) : Nat := (ns.getD (words8.idxOf w) Str.empty).length
theorem lnOf_at {ns : List Str} {i : Nat} {n w : Str} (h : ns[i]? = some n) (hw : words8[i]? = some w) : lnOf ns w = n.length := by
  have e : words8.idxOf w = i := by
    obtain ⟨hi, rfl⟩ := List.getElem?_eq_some_iff.mp hw
    exact words8_nodup.idxOf_getElem i hi
  unfold lnOf
  rw [e, List.getD_eq_getElem?_getD, h]
  rfl
theorem words8_len : words8.length = 8 := by decide +kernel
theorem ch_of {ns : List Str} {cs : List (Str × Str)} (h8 : ns.length = 8) (p : cs.Perm (ns.zip words8)) : Ch (lnOf ns) cs := by
  constructor
  · intro z hz
    have hz := p.mem_iff.mp hz
    obtain ⟨i, hi⟩ := List.mem_iff_getElem?.mp hz
    obtain ⟨h1, h2⟩ := List.getElem?_zip_eq_some.mp hi
    exact (lnOf_at h1 h2).symm
  · have := p.map (·.2)
    rwa [List.map_snd_zip (by rw [h8, words8_len]; exact Nat.le_refl _)] at this
structure TgOk (ns : List Str) : Prop where
  len : ns.length = 8
  nm : ∀ n ∈ ns, Nm n
  kraft : Kraft (lnOf ns)
theorem TgOk.ln {ns : List Str} (t : TgOk ns) : LnOk (lnOf ns) := fun w hw => by
  obtain ⟨i, hi⟩ := List.mem_iff_getElem?.mp hw
  have hl := (List.getElem?_eq_some_iff.mp hi).1
  rw [words8_len, ← t.len] at hl
  obtain ⟨n, hn⟩ : ∃ n, ns[i]? = some n := ⟨_, List.getElem?_eq_getElem hl⟩
  rw [lnOf_at hn hi]
  have := t.nm n (List.mem_of_getElem? hn)
  exact this.2
theorem plen_ge {ln : Str → Nat} (o : LnOk ln) : ∀ {p : List Str}, IsProg p → p.length ≤ plen ln p
  | [], _ => Nat.zero_le _
  | w :: p, h => by
    have ih := plen_ge o (p := p) fun x hx => h x (List.mem_cons_of_mem _ hx)
    have := (o w (mem8.mpr (.inl (h w List.mem_cons_self)))).1
    rw [plen_cons, List.length_cons]
    omega
def TongueAt (K : PySem.W.Frag) (H : Hp) (x : Addr) (ns : List Str) : Prop := ∃ dx t, H x = some (.ins (He.ga K "Tongue") dx (fTongue (.ref t))) ∧ H t = some (.tup (ns.map V.str))
theorem TongueAt.same {K : PySem.W.Frag} {H H' : Hp} {x : Addr} {ns : List Str} (h : TongueAt K H x ns) (s : Same H H') : TongueAt K H' x ns := by
  obtain ⟨dx, t, h1, h2⟩ := h
  exact ⟨dx, t, s _ _ h1, s _ _ h2⟩
theorem RowAt.put {H : Hp} {a d : Addr} {r : List (List Str)} {kvs kvs' : List (Key × V)} (h : RowAt H a r) (hd : H d = some (.dK kvs)) : RowAt (upd H d (.dK kvs')) a r := by
  obtain ⟨ps, h1, h2, h3⟩ := h
  refine ⟨ps, h1, ?_, fun z hz => ?_⟩
  · rw [upd_ne (ne_of h2 hd (by intro q; cases q))]
    exact h2
  · rw [upd_ne (ne_of (h3 z hz) hd (by intro q; cases q))]
    exact h3 z hz
def Wn (kvs : List (Key × V)) (v : Nat) : Prop := (valV kvs (.inl (v : Int))).isSome = true
theorem Wn.put {kvs : List (Key × V)} {v : Nat} (h : Wn kvs v) (k : Key) (x : V) : Wn (putK kvs k x) v := by
  unfold Wn
  rw [valV_put]
  by_cases e : (Sum.inl (v : Int) : Key) = k
  · rw [if_pos e]; rfl
  · rw [if_neg e]; exact h
theorem Wn.putSelf {kvs : List (Key × V)} {v : Nat} (x : V) : Wn (putK kvs (.inl (v : Int)) x) v := by
  unfold Wn
  rw [valV_put, if_pos rfl]
  rfl
theorem Wn.putNe {kvs : List (Key × V)} {v u : Nat} {x : V} (h : Wn (putK kvs (.inl (u : Int)) x) v) (n : v ≠ u) : Wn kvs v := by
  unfold Wn at h
  rw [valV_put, if_neg (fun e => n (by have := Sum.inl.inj e; omega))] at h
  exact h
section
variable {P : Program} {w : World} {K : PySem.W.Frag} {mg : Str → Option Value} {base : Heap}
abbrev N_all_of : List Str := ["tongue", "length", "choices", "wanted", "rows", "each", "name", "word"]
theorem sc_all_of : FnScope N_all_of ["tongue", "length"] (defScope s_all_of) := ⟨rfl, rfl, rfl, by decide +kernel, rfl, by decide +kernel, by decide +kernel⟩
def sp_all_of (K : PySem.W.Frag) : Sp := fun vs H Q _ => ∃ (x : Addr) (L : Nat) (ns : List Str), vs = [.ref x, .int (L : Int)] ∧ TongueAt K H x ns ∧ TgOk ns ∧ L ≤ 22 ∧
  ∀ H' a r, Same H H' → RowAt H' a r → RowIs (lnOf ns) L r → Q (.ref a) H'
theorem ok_all_of (T : TX w K mg) : FnX P w K mg base 2 ("all_of", none) ["tongue", "length"] [] (sp_all_of K) := by
  refine FnX.of T.qd_all_of rfl sc_all_of (fun vs H Q E h => ?_) (fun _ _ _ _ _ _ us hl => match us, hl with | [_, _], _ => rfl) (fun cdv A outer s H vs Q E hr h => ?_)
  · obtain ⟨x, L, ns, rfl, _⟩ := h
    rfl
  · obtain ⟨x, L, ns, rfl, ⟨dx, t, hx, ht⟩, hok, hL, k⟩ := h
    have hu : (A.deeper (envOfC d_all_of.qual d_all_of.scope s.heap.objs.size (He.fAd K d_all_of.at_) cdv)).units + 1 < cLine := by have := hr.units; omega
    have hln := hok.ln
    refine ⟨_, (pss_cons (ps_par3 (i := 2) (j := 3) (l := 4) (by rfl) sc_all_of.nd rfl rfl rfl (by decide) (by decide) (by decide) rfl rfl rfl (pa_cons (pe_fx (ok_choices_of T) (hr.mono (by decide)) (by rfl) (T.g "choices_of") (pa_cons (pv 0) pa_nil)) (pa_cons (pe_disp (pps_cons (pv 1) pe_bl pps_nil) rfl rfl (by decide) (by decide)) (pa_cons pe_dnewK pa_nil))) (by rfl))
  (pss_cons (ps_for PassesOwn.never rfl (pi_range3 (by rfl) (T.f "range") (pa_cons (pv 1) (pa_cons (pe_un un_neg pe_int) (pa_cons (pe_un un_neg pe_int) pa_nil)))) (pg_name (i := 5) sc_all_of.nd rfl (by first | exact .inl rfl | exact .inr rfl))
  (pss_one (ps_for PassesOwn.never rfl (pi_list (pv 2)) (pg_tup (n := 2) rfl (pgs_cons (pg_name (i := 6) sc_all_of.nd rfl (by first | exact .inl rfl | exact .inr rfl)) (pgs_cons (pg_name (i := 7) sc_all_of.nd rfl (by first | exact .inl rfl | exact .inr rfl)) pgs_nil)))
  (pss_one (ps_if (PW.pt (pw_and (pt_cmp (pc_din hu (pv 5) (pv 3))) (pw_and (pt_cmpR op_ne (pv 7) (pe_gs (by rfl) (T.s "END_programs" "end")) (nomark _)) (pw_and1 (pt_cmpR op_le (pe_callB call_len_str (by rfl) (T.f "len") PySem.boot_len (pa_cons (pv 6) pa_nil)) (pv 5) (nomark _)))))) (pss_one (ps_dput hu (pv 3) (pe_op op_sub (pv 5) (pe_callB call_len_str (by rfl) (T.f "len") PySem.boot_len (pa_cons (pv 6) pa_nil))) pe_bl rfl)) pss_nil)))))
  (pss_cons (ps_for PassesOwn.never rfl (pi_range1 (by rfl) (T.f "range") (pa_cons (pe_op op_add (pv 1) pe_int) pa_nil)) (pg_name (i := 5) sc_all_of.nd rfl (by first | exact .inl rfl | exact .inr rfl))
  (pss_one (ps_if (pt_cmp (pc_din hu (pv 5) (pv 3))) (pss_one (ps_dput hu (pv 4) (pv 5) (pe_fx (ok_row_at T) (hr.mono (by decide)) (by rfl) (T.g "row_at") (pa_cons (pv 2) (pa_cons (pv 4) (pa_cons (pv 5) pa_nil)))) rfl)) pss_nil)))
  (pss_one (ps_ret (pe_dget hu (pv 4) (pv 1) (fun _ _ => rfl))))))), ?_⟩
    refine ⟨_, rfl, x, dx, t, ns, rfl, hx, ht, hok.len, fun H1 c cs s1 hc hp => fun wa nwa => ⟨_, rfl, upd_same, [(.inl (L : Int), .bl true)], rfl, (show 1 ≤ 15 by decide), fun ro nro => ⟨_, _, _, rfl, ?_⟩⟩⟩
    have ch := ch_of hok.len hp
    have hcl8 : ∀ z ∈ cs, 1 ≤ z.1.length ∧ z.1.length ≤ 8 := fun z hz => by
      rw [ch.len z hz]
      exact hln _ (ch.in8 hz)
    obtain ⟨zs, hzs, hcl', hzt⟩ := id hc
    have hzl : zs.length = 8 := by
      have := hp.length_eq
      rw [← hzs, List.length_map, List.length_zip, hok.len, words8_len] at this
      exact this
    rw [upd_upd]
    have nrw : wa ≠ ro := fun q => by
      rw [← q, upd_same] at nro
      cases nro
    have s2 : Same H1 (upd (upd H1 wa (.dK (mergeK [] [(.inl (L : Int), .bl true)]))) ro (.dK [])) := (Same.new nwa).new' (by rw [upd_ne (Ne.symm nrw)]; rw [upd_ne (Ne.symm nrw)] at nro; rw [upd_ne (Ne.symm nrw)] at nro; exact nro)
    have hwa0 : upd (upd H1 wa (.dK (mergeK [] [(.inl (L : Int), .bl true)]))) ro (.dK []) wa = some (.dK (mergeK [] [(.inl (L : Int), .bl true)])) := by
      rw [upd_ne nrw, upd_same]
    have nwa1 : H1 wa = none := nwa
    have nro1 : H1 ro = none := by
      rw [upd_ne (Ne.symm nrw)] at nro
      rw [upd_ne (Ne.symm nrw)] at nro
      exact nro
    have hro0' : upd (upd H1 wa (.dK (mergeK [] [(.inl (L : Int), .bl true)]))) ro (.dK []) ro = some (.dK []) := upd_same
    generalize upd (upd H1 wa (.dK (mergeK [] [(.inl (L : Int), .bl true)]))) ro (.dK []) = H2 at s2 hwa0 hro0' ⊢
    have hro0 : H2 ro = some (.dK []) := hro0'
    -- for each in range(length, -1, -1)
    refine ⟨_, rfl, _, rfl, _, rfl, _, _, _, _, rfl, RgC.neg (by omega) (by omega) (by decide) (by decide), ?_⟩
    rw [show ((L : Int) - -(1 : Int)).toNat = L + 1 by omega]
    refine for_rangeC (fun i σ H' => ∃ (ev nv wv : Option V) (kvs : List (Key × V)), σ = [some (.ref x), some (.int (L : Int)), some (.ref c), some (.ref wa), some (.ref ro), ev, nv, wv] ∧ Same H1 H' ∧ H' wa = some (.dK kvs) ∧ H' ro = some (.dK []) ∧
      Wn kvs L ∧ kvs.length ≤ 1 + 8 * i ∧ ∀ v, L < v + i → v ≤ L → Wn kvs v → ∀ z ∈ cs, z.2 ≠ endW → z.1.length ≤ v → Wn kvs (v - z.1.length)) ?_ ?_ ?_
    · refine ⟨none, none, none, _, rfl, s2, hwa0, hro0, ?_, (show 1 ≤ 1 + 0 by decide), fun v h1 h2 => absurd h1 (by omega)⟩
      exact Wn.putSelf (kvs := []) (.bl true)
    · rintro i σ H' hi ⟨ev, nv, wv, kvs, rfl, s3, hwa, hro, hWL, hkl, hcl⟩
      rw [show (L : Int) + (i : Int) * -(1 : Int) = ((L - i : Nat) : Int) by omega]
      refine ⟨_, rfl, c, rfl, ⟨_, SqL.of (s3 _ _ hcl')⟩, ?_⟩
      refine for_list (K := K) (xs := zs.map fun z => V.ref z.1) (fun j σ H' => ∃ (nv wv : Option V) (kvs : List (Key × V)), σ = [some (.ref x), some (.int (L : Int)), some (.ref c), some (.ref wa), some (.ref ro), some (.int ((L - i : Nat) : Int)), nv, wv] ∧ Same H1 H' ∧ H' wa = some (.dK kvs) ∧ H' ro = some (.dK []) ∧
        Wn kvs L ∧ kvs.length ≤ 1 + 8 * i + j ∧ (∀ v, L < v + i → v ≤ L → Wn kvs v → ∀ z ∈ cs, z.2 ≠ endW → z.1.length ≤ v → Wn kvs (v - z.1.length)) ∧ (Wn kvs (L - i) → ∀ z ∈ cs.take j, z.2 ≠ endW → z.1.length ≤ L - i → Wn kvs (L - i - z.1.length))) ?_ ?_ ?_ ?_
      · exact ⟨_, _, kvs, rfl, s3, hwa, hro, hWL, hkl, hcl, fun _ z hz => (List.not_mem_nil hz).elim⟩
      · rintro j σ H' _ ⟨nv, wv, kvs, rfl, s3, _⟩
        exact SqL.of (s3 _ _ hcl')
      · rintro j y σ H' hy ⟨nv, wv, kvs, rfl, s3, hwa, hro, hWL, hkl, hcl, hin⟩
        rw [List.getElem?_map] at hy
        obtain ⟨⟨za, zn, zw⟩, hz, rfl⟩ := Option.map_eq_some_iff.mp hy
        have hzm := List.mem_of_getElem? hz
        have hj8 := (List.getElem?_eq_some_iff.mp hz).1
        have hci : cs[j]? = some (zn, zw) := by rw [← hzs, List.getElem?_map, hz]; rfl
        have hcm := List.mem_of_getElem? hci
        have hz8 := hcl8 _ hcm
        dsimp only at hz8
        have hzl2 : zn.length ≤ sizeLine := size24 (by omega)
        have htk : cs.take (j + 1) = cs.take j ++ [(zn, zw)] := by
          obtain ⟨hjl, hje⟩ := List.getElem?_eq_some_iff.mp hci
          rw [List.take_succ_eq_append_getElem hjl, hje]
        have stay : (Wn kvs (L - i) → zw ≠ endW → zn.length ≤ L - i → Wn kvs (L - i - zn.length)) → ∃ (nv wv : Option V) (kvs : List (Key × V)), [some (.ref x), some (.int (L : Int)), some (.ref c), some (.ref wa), some (.ref ro), some (.int ((L - i : Nat) : Int)), some (.str zn), some (.str zw)] = [some (.ref x), some (.int (L : Int)), some (.ref c), some (.ref wa), some (.ref ro), some (.int ((L - i : Nat) : Int)), nv, wv] ∧ Same H1 H' ∧ H' wa = some (.dK kvs) ∧ H' ro = some (.dK []) ∧
        Wn kvs L ∧ kvs.length ≤ 1 + 8 * i + (j + 1) ∧ (∀ v, L < v + i → v ≤ L → Wn kvs v → ∀ z ∈ cs, z.2 ≠ endW → z.1.length ≤ v → Wn kvs (v - z.1.length)) ∧ (Wn kvs (L - i) → ∀ z ∈ cs.take (j + 1), z.2 ≠ endW → z.1.length ≤ L - i → Wn kvs (L - i - z.1.length)) := fun hq =>
          ⟨_, _, kvs, rfl, s3, hwa, hro, hWL, by omega, hcl, fun h z hz h1 h2 => by
            rw [htk] at hz
            rcases List.mem_append.mp hz with hz | hz
            · exact hin h z hz h1 h2
            · rw [List.mem_singleton.mp hz] at h1 h2 ⊢
              exact hq h h1 h2⟩
        refine ⟨za, _, rfl, SqT.of (s3 _ _ (hzt _ hzm)), rfl, _, _, rfl, _, _, rfl, rfl, ?_⟩
        refine ⟨_, rfl, _, rfl, wa, _, rfl, .inl ⟨kvs, .inl ((L - i : Nat) : Int), .inl hwa, rfl, rfl⟩, _, rfl, ?_⟩
        cases hW : (valV kvs (.inl ((L - i : Nat) : Int))).isSome with
        | false =>
          refine iteF (iteF (stay fun h => ?_))
          unfold Wn at h
          rw [hW] at h
          cases h
        | true =>
          refine iteT ⟨_, rfl, rfl, _, rfl, ?_⟩
          by_cases hw : zw = endW
          · rw [decide_eq_true (show V.str zw = V.str ("end" : Str) from congrArg V.str hw)]
            exact iteF (iteF (stay fun _ h => absurd hw h))
          · rw [decide_eq_false (show ¬ V.str zw = V.str ("end" : Str) from fun q => hw (V.str.inj q))]
            refine iteT ⟨_, rfl, zn, rfl, hzl2, _, rfl, _, _, rfl, rfl, _, rfl, ?_⟩
            by_cases hle : zn.length ≤ L - i
            · rw [decide_eq_true (show (zn.length : Int) ≤ ((L - i : Nat) : Int) by omega)]
              refine iteT ⟨_, rfl, _, rfl, _, rfl, zn, rfl, hzl2, _, _, rfl, rfl, wa, _, rfl, .inl ⟨kvs, .inl (((L - i : Nat) : Int) - (zn.length : Int)), hwa, rfl, size24' (by omega), rfl⟩, ?_⟩
              rw [show ((L - i : Nat) : Int) - (zn.length : Int) = ((L - i - zn.length : Nat) : Int) by omega]
              have hlp := length_putK kvs (.inl ((L - i - zn.length : Nat) : Int)) (.bl true)
              refine ⟨_, _, _, rfl, s3.mut nwa1, upd_same, ?_, hWL.put _ _, by omega, fun v h1 h2 h3 z hz h4 h5 => ?_, fun h3 z hz h4 h5 => ?_⟩
              · rw [upd_ne (Ne.symm nrw)]
                exact hro
              · exact (hcl v h1 h2 (h3.putNe (by omega)) z hz h4 h5).put _ _
              · rw [htk] at hz
                rcases List.mem_append.mp hz with hz | hz
                · exact (hin (h3.putNe (by omega)) z hz h4 h5).put _ _
                · rw [List.mem_singleton.mp hz]
                  exact Wn.putSelf _
            · rw [decide_eq_false (show ¬ (zn.length : Int) ≤ ((L - i : Nat) : Int) by omega)]
              exact iteF (stay fun _ _ h => absurd h hle)
      · rintro σ H' ⟨nv, wv, kvs, rfl, s3, hwa, hro, hWL, hkl, hcl, hin⟩
        rw [List.length_map, hzl] at hkl hin
        refine ⟨_, _, _, kvs, rfl, s3, hwa, hro, hWL, by omega, fun v h1 h2 h3 z hz h4 h5 => ?_⟩
        by_cases hv : v = L - i
        · subst hv
          refine hin h3 z ?_ h4 h5
          rw [List.take_of_length_le (by rw [← hzs, List.length_map]; omega)]
          exact hz
        · exact hcl v (by omega) h2 h3 z hz h4 h5
    · rintro σ H' ⟨ev, nv, wv, kvs, rfl, s3, hwa, hro, hWL, hkl, hcl⟩
      have hclo : ∀ v, v ≤ L → Wn kvs v → ∀ z ∈ cs, z.2 ≠ endW → z.1.length ≤ v → Wn kvs (v - z.1.length) := fun v h => hcl v (by omega) h
      -- for each in range(length + 1)
      refine ⟨_, rfl, _, _, rfl, rfl, _, rfl, by omega, by omega, ?_⟩
      rw [show ((L : Int) + 1).toNat = L + 1 by omega]
      refine for_range (fun i σ H' => ∃ (ev : Option V) (rs : List (Key × V)), σ = [some (.ref x), some (.int (L : Int)), some (.ref c), some (.ref wa), some (.ref ro), ev, nv, wv] ∧ Same H1 H' ∧ H' wa = some (.dK kvs) ∧ H' ro = some (.dK rs) ∧
        rs.length ≤ i ∧ ∀ e, e < i → Wn kvs e → ∃ ra r, valV rs (.inl (e : Int)) = some (.ref ra) ∧ RowAt H' ra r ∧ RowIs (lnOf ns) e r) ?_ ?_ ?_
      · exact ⟨_, [], rfl, s3, hwa, hro, Nat.zero_le _, fun e h => absurd h (Nat.not_lt_zero _)⟩
      · rintro i σ H' hi ⟨ev, rs, rfl, s4, hwa, hro, hrl, hrows⟩
        rw [Int.zero_add]
        refine ⟨_, rfl, _, rfl, wa, _, rfl, .inl ⟨kvs, .inl (i : Int), .inl hwa, rfl, rfl⟩, _, rfl, ?_⟩
        cases hW : (valV kvs (.inl (i : Int))).isSome with
        | false =>
          refine iteF ⟨_, rs, rfl, s4, hwa, hro, by omega, fun e he h => ?_⟩
          by_cases e1 : e = i
          · subst e1
            unfold Wn at h
            rw [hW] at h
            cases h
          · exact hrows e (by omega) h
        | true =>
          obtain ⟨f, hf⟩ := Classical.axiomOfChoice (r := fun (e : Nat) (y : Addr × List (List Str)) => (e < i ∧ Wn kvs e → valV rs (.inl (e : Int)) = some (.ref y.1) ∧ RowAt H' y.1 y.2 ∧ RowIs (lnOf ns) e y.2) ∧ (¬ (e < i ∧ Wn kvs e) → y.2 = [])) fun e => by
            by_cases h : e < i ∧ Wn kvs e
            · obtain ⟨ra, r, q⟩ := hrows e h.1 h.2
              exact ⟨(ra, r), fun _ => q, fun z => absurd h z⟩
            · exact ⟨(0, []), fun z => absurd z h, fun _ => rfl⟩
          have hneed : ∀ z ∈ cs, z.2 ≠ endW → z.1.length ≤ i → i - z.1.length < i ∧ Wn kvs (i - z.1.length) := fun z hz h1 h2 => ⟨by have := (hcl8 z hz).1; omega, hclo i (by omega) hW z hz h1 h2⟩
          have hRI : ∀ w ∈ words7, lnOf ns w ≤ i → RowIs (lnOf ns) (i - lnOf ns w) ((f (i - lnOf ns w)).2) := fun w hw hle => by
            obtain ⟨z, hz, rfl⟩ := ch.mem (mem8.mpr (.inl hw))
            rw [← ch.len z hz] at hle ⊢
            exact ((hf _).1 (hneed z hz (fun q => end_not7 (q ▸ hw)) hle)).2.2
          have hrow := rowM_is ch (R := fun e => (f e).2) (L := i) hRI
          have hrlen := row_len hok.kraft hln hrow
          have h22 : 2 ^ i ≤ 2 ^ 22 := Nat.pow_le_pow_right (by decide) (by omega)
          refine iteT ⟨_, rfl, _, rfl, _, rfl, c, ro, i, cs, rs, fun e => (f e).2, rfl, hc.same s4, hro, fun z hz => (hcl8 z hz).2, fun z hz h1 h2 => ?_, ?_, fun z hz p hp => ?_, fun H5 a s5 na ha => ?_⟩
          · have q := (hf _).1 (hneed z hz h1 h2)
            exact ⟨_, q.1, q.2.1⟩
          · exact Nat.le_trans hrlen (Nat.le_trans h22 (by decide))
          · by_cases h : i - z.1.length < i ∧ Wn kvs (i - z.1.length)
            · have q := ((hf _).1 h).2.2
              obtain ⟨g1, g2⟩ := (q.mem p).mp hp
              have := plen_ge hln g1
              omega
            · have e : (f (i - z.1.length)).2 = [] := (hf _).2 h
              rw [show (fun e => (f e).2) (i - z.1.length) = [] from e] at hp
              cases hp
          · have hro5 := s5 _ _ hro
            refine ⟨_, rfl, _, rfl, ro, _, rfl, .inl ⟨rs, .inl (i : Int), hro5, rfl, size24' (by omega), rfl⟩, ?_⟩
            have hlp := length_putK rs (.inl (i : Int)) (.ref a)
            refine ⟨_, _, rfl, (s4.trans s5).mut nro1, ?_, upd_same, by omega, fun e he h => ?_⟩
            · rw [upd_ne nrw]
              exact s5 _ _ hwa
            · by_cases e1 : e = i
              · subst e1
                exact ⟨a, _, by rw [valV_put, if_pos rfl], ha.put hro5, hrow⟩
              · obtain ⟨ra, r, q1, q2, q3⟩ := hrows e (by omega) h
                refine ⟨ra, r, ?_, (q2.same s5).put hro5, q3⟩
                rw [valV_put, if_neg (fun z => e1 (by have := Sum.inl.inj z; omega))]
                exact q1
      · rintro σ H' ⟨ev, rs, rfl, s4, hwa, hro, hrl, hrows⟩
        obtain ⟨ra, r, q1, q2, q3⟩ := hrows L (by omega) hWL
        refine ⟨_, rfl, _, rfl, ro, .ref ra, rfl, .inl ⟨rs, .inl (L : Int), .inl hro, rfl, q1.symm⟩, ?_⟩
        exact k _ ra r (s1.trans s4) q2 q3
end
end K53
end TK53T

section TK53J
set_option maxHeartbeats 4000000

namespace K53
open PySem PySem.Spec PyProof.Rows L2 SX
abbrev truth1 : List Str := ["truth"]
def kindsRun : List Str → List Itm → Option (List Str)
  | ks, [] => some ks
  | ks, it :: r => (kindsM ks it).bind fun ks' => kindsRun ks' r
theorem kindsM_len {ks ks' : List Str} {it : Itm} (h : kindsM ks it = some ks') (hl : ks.length ≤ 20) : ks'.length ≤ 20 := by
  have push : (if ks.length < 20 then some (ks ++ [("number" : Str)]) else none) = some ks' → ks'.length ≤ 20 := fun h => by
    by_cases h20 : ks.length < 20
    · rw [if_pos h20] at h
      cases h
      rw [List.length_append]
      show _ + 1 ≤ 20
      omega
    · rw [if_neg h20] at h
      cases h
  cases it with
  | op o =>
    unfold kindsM at h
    dsimp only at h
    by_cases hc : o.tk.length ≤ ks.length ∧ ks.drop (ks.length - o.tk.length) = o.tk
    · rw [if_pos hc] at h
      cases h
      have ho : 1 ≤ o.tk.length := by cases o <;> decide
      rw [List.length_append, List.length_take]
      show _ + 1 ≤ 20
      omega
    · rw [if_neg hc] at h
      cases h
  | ans => exact push h
  | giv => exact push h
  | num v => exact push h
theorem kindsRun_drop {its : List Itm} {i : Nat} {it : Itm} {ks t : List Str} (hi : its[i]? = some it) (h : kindsRun ks (its.drop i) = some t) : ∃ ks', kindsM ks it = some ks' ∧ kindsRun ks' (its.drop (i + 1)) = some t := by
  obtain ⟨hlt, he⟩ := List.getElem?_eq_some_iff.mp hi
  rw [List.drop_eq_getElem_cons hlt, he] at h
  cases e : kindsM ks it with
  | none =>
    have h2 : (kindsM ks it).bind (fun ks' => kindsRun ks' (its.drop (i + 1))) = some t := h
    rw [e] at h2
    cases h2
  | some ks' =>
    have h2 : (kindsM ks it).bind (fun ks' => kindsRun ks' (its.drop (i + 1))) = some t := h
    rw [e] at h2
    exact ⟨ks', rfl, h2⟩
/-- a right check -/
structure Chk (its : List Itm) : Prop where
  ne : its ≠ []
  len : its.length ≤ 40
  ok : ∀ it ∈ its, it.Ok
  run : kindsRun [] its = some truth1
def ctext (its : List Itm) : Str := S (TL.joinL [32] (its.map Itm.l))
def citems (its : List Itm) : List V := ((its.map Itm.l).map S).map V.str
theorem citems_len {its : List Itm} : (citems its).length = its.length := by unfold citems; simp
theorem citems_get {its : List Itm} {i : Nat} {it : Itm} (h : its[i]? = some it) : (citems its)[i]? = some (V.str (S it.l)) := by
  unfold citems
  rw [List.getElem?_map, List.getElem?_map, List.getElem?_map, h]
  rfl
theorem joinL_len : ∀ (l : List (List Nat)) (n : Nat), (∀ p ∈ l, p.length ≤ n) → (TL.joinL [32] l).length ≤ l.length * (n + 1)
  | [], _, _ => by simp [TL.joinL]
  | [p], n, h => by
    have := h p List.mem_cons_self
    simp [TL.joinL]
    omega
  | p :: q :: r, n, h => by
    have ih := joinL_len (q :: r) n fun z hz => h z (List.mem_cons_of_mem _ hz)
    have := h p List.mem_cons_self
    have e : TL.joinL [32] (p :: q :: r) = p ++ ([32] ++ TL.joinL [32] (q :: r)) := rfl
    rw [e, List.length_append, List.length_append]
    simp only [List.length_cons, List.length_nil] at ih ⊢
    rw [Nat.succ_mul]
    omega
theorem dp_one {K : PySem.W.Frag} {H : Hp} {a : Addr} (h : SqT K H a (truth1.map V.str)) : Dp K H (.ref a) (.tuple [.str "truth"]) := .tup h (dp_strs truth1)
section
variable {P : Program} {w : World} {K : PySem.W.Frag} {mg : Str → Option Value} {base : Heap}
abbrev N_Puzzle_init : List Str := ["self", "text", "scan", "kinds"]
theorem sc_Puzzle_init : FnScope N_Puzzle_init ["self", "text"] (defScope s_Puzzle_init) := ⟨rfl, rfl, rfl, by decide +kernel, rfl, by decide +kernel, by decide +kernel⟩
def sp_Puzzle_init (K : PySem.W.Frag) : Sp := fun vs H Q _ => ∃ (x dx : Addr) (its : List Itm), vs = [.ref x, .str (ctext its)] ∧ H x = some (.ins (He.ga K "Puzzle") dx []) ∧ Chk its ∧
  ∀ H' t, SameX x H H' → H t = none → H' t = some (.tup (citems its)) → H' x = some (.ins (He.ga K "Puzzle") dx (fPuzzle (.str (ctext its)) (.ref t) (.int (its.length : Int)))) → Q .non H'
theorem ok_Puzzle_init (T : TX w K mg) : FnX P w K mg base 4 ("Puzzle", some "__init__") ["self", "text"] [] (sp_Puzzle_init K) := by
  refine FnX.of T.qd_Puzzle_init rfl sc_Puzzle_init (fun vs H Q E h => ?_) (fun _ _ _ _ _ _ us hl => match us, hl with | [_, _], _ => rfl) (fun cdv A outer s H vs Q E hr h => ?_)
  · obtain ⟨x, dx, its, rfl, _⟩ := h
    rfl
  · obtain ⟨x, dx, its, rfl, hx, hc, k⟩ := h
    have cS := T.cls "Scan"
    have cP := T.cls "Puzzle"
    refine ⟨_, (pss_cons (ps_par (i := 2) (j := 3) (by rfl) sc_Puzzle_init.nd rfl rfl (by decide) rfl rfl (pa_cons (pe_kx (T.mkr "Scan") (ok_Scan_init T) (hr.mono (by decide)) (by rfl) (T.g "Scan") (pa_cons (pv 1) pa_nil)) (pa_cons (pe_tup pa_nil) pa_nil)) (by rfl))
  (pss_cons (ps_while PassesOwn.never (pt_cmpR op_notN (pe_mx0 (pv 2) (T.cls "Scan") (T.meth "Scan" "ahead") (ok_Scan_ahead T) (hr.mono (by decide))) pe_non (nomark _))
  (pss_cons (ps_set (i := 3) sc_Puzzle_init.nd rfl (by first | exact .inl rfl | exact .inr rfl) (pe_ifExp (pt_cmpR op_lt (pe_fld (pv 2) rfl) (pe_gi (by rfl) (T.i "MOST_ITEMS" 40)) (nomark _)) (pe_fx (ok_kinds_behind T) (hr.mono (by decide)) (by rfl) (T.g "kinds_behind") (pa_cons (pv 3) (pa_cons (pe_mx0 (pv 2) (T.cls "Scan") (T.meth "Scan" "ahead") (ok_Scan_ahead T) (hr.mono (by decide))) pa_nil))) pe_non))
  (pss_cons (ps_if (pt_cmpR op_isN (pv 3) pe_non (nomark _)) (pss_one ps_never) pss_nil)
  (pss_one (ps_expr (pe_mx0 (pv 2) (T.cls "Scan") (T.meth "Scan" "take") (ok_Scan_take T) (hr.mono (by decide))))))))
  (pss_cons (ps_if (pt_cmpR (op_neD hr.units) (pv 3) (pe_tup (pa_cons (pe_gs (by rfl) (T.s "TRUTH" "truth")) pa_nil)) (nomark _)) (pss_one ps_never) pss_nil)
  (pss_cons (ps_fld (pv 0) (pv 1) rfl)
  (pss_cons (ps_fld (pv 0) (pe_callTy call_tuple_of (by rfl) (T.f "tuple") bt_tuple (pa_cons (pe_fld (pv 2) rfl) pa_nil)) rfl)
  (pss_one (ps_fld (pv 0) (pe_callB call_len_seq (by rfl) (T.f "len") PySem.boot_len (pa_cons (pe_fld (pv 2) rfl) pa_nil)) rfl))))))), ?_⟩
    refine ⟨_, rfl, fun sx sdx nsx nsdx ne => ?_⟩
    have s0 : Same H (upd (upd H sdx (.own sx)) sx (.ins (He.ga K "Scan") sdx [])) := (Same.new nsdx).new' (by rw [upd_ne (Ne.symm ne)]; exact nsx)
    refine ⟨sx, sdx, its.map Itm.l, rfl, upd_same, ?_, ?_, ?_, fun H1 l s1 nl hl1 hs1 => ⟨rfl, ?_⟩⟩
    · intro q
      exact hc.ne (List.map_eq_nil_iff.mp q)
    · intro p hp
      obtain ⟨it, _, rfl⟩ := List.mem_map.mp hp
      exact it.noBlank
    · have := joinL_len (its.map Itm.l) 101 fun p hp => by
        obtain ⟨it, m, rfl⟩ := List.mem_map.mp hp
        exact Itm.len (hc.ok it m)
      rw [List.length_map] at this
      have := hc.len
      omega
    refine ⟨Nat.zero_le _, fun t0 nt0 => ?_⟩
    have nxs : x ≠ sx := ne_of_none hx nsx
    have sH1 : Same H H1 := fun b o e => s1 b o (ne_of_none e nsx) (s0 b o e)
    have sH2 : Same H (upd H1 t0 (.tup [])) := sH1.new' nt0
    refine ⟨_, _, rfl, ?_⟩
    refine ⟨fun m σ H2 => ∃ (i : Nat) (ks : List Str) (ka : Addr), m = its.length - i ∧ i ≤ its.length ∧ σ = [some (.ref x), some (.str (ctext its)), some (.ref sx), some (.ref ka)] ∧ Same H H2 ∧ H2 sx = some (.ins (He.ga K "Scan") sdx (fScan (.ref l) (.int (i : Int)))) ∧
      H2 l = some (.lst (citems its)) ∧ SqT K H2 ka (ks.map V.str) ∧ ks.length ≤ 20 ∧ kindsRun ks (its.drop i) = some truth1, ⟨_, 0, [], t0, rfl, Nat.zero_le _, rfl, sH2, ?_, ?_, SqT.of upd_same, Nat.zero_le _, hc.run⟩, ?_⟩
    · exact Same.new nt0 _ _ hs1
    · exact Same.new nt0 _ _ hl1
    rintro m σ H2 ⟨i, ks, ka, rfl, hi, rfl, s2, hsx, hl, hka, hkl, hrun⟩
    refine ⟨_, rfl, sx, sdx, _, rfl, hsx, no_Scan_ahead, sx, sdx, l, _, i, rfl, hsx, hl, rfl, _, rfl, ?_⟩
    by_cases hlt : i < its.length
    · obtain ⟨it, hit⟩ : ∃ it, its[i]? = some it := ⟨_, List.getElem?_eq_getElem hlt⟩
      have hget := citems_get hit
      rw [hget]
      refine iteT ⟨fun σ' H' => ∃ m', m' < its.length - i ∧ ∃ (i : Nat) (ks : List Str) (ka : Addr), m' = its.length - i ∧ i ≤ its.length ∧ σ' = [some (.ref x), some (.str (ctext its)), some (.ref sx), some (.ref ka)] ∧ Same H H' ∧ H' sx = some (.ins (He.ga K "Scan") sdx (fScan (.ref l) (.int (i : Int)))) ∧
        H' l = some (.lst (citems its)) ∧ SqT K H' ka (ks.map V.str) ∧ ks.length ≤ 20 ∧ kindsRun ks (its.drop i) = some truth1, fun _ _ z => z, ?_⟩
      obtain ⟨ks', hk, hrun'⟩ := kindsRun_drop hit hrun
      -- kinds = kinds_behind(kinds, scan.ahead()) if scan.at < MOST_ITEMS else None
      refine ⟨_, rfl, sx, _, sdx, _, _, rfl, hsx, cS, T.na "Scan" "at", lk_Scan_at, _, _, rfl, rfl, _, rfl, ?_⟩
      rw [decide_eq_true (show (i : Int) < 40 by have := hc.len; omega)]
      refine iteT ⟨_, rfl, _, rfl, sx, sdx, _, rfl, hsx, no_Scan_ahead, sx, sdx, l, _, i, rfl, hsx, hl, ?_⟩
      rw [hget]
      refine ⟨ka, ks, ks', it, rfl, hka, hkl, hc.ok it (List.mem_of_getElem? hit), hk, fun H3 kb s3 hkb => ?_⟩
      -- if kinds is None
      refine ⟨_, rfl, rfl, _, rfl, iteF ?_⟩
      -- scan.take()
      have nsx0 : H sx = none := nsx
      refine ⟨_, rfl, sx, sdx, _, rfl, s3 _ _ hsx, no_Scan_take, sx, sdx, l, _, i, _, rfl, s3 _ _ hsx, s3 _ _ hl, hget, (by intro q; cases q), ?_⟩
      refine ⟨_, ?_, i + 1, ks', kb, rfl, hlt, rfl, (s2.trans s3).mut nsx0, upd_same, ?_, ?_, kindsM_len hk hkl, hrun'⟩
      · omega
      · rw [upd_ne (ne_of (s3 _ _ hl) (s3 _ _ hsx) (by intro q; cases q))]
        exact s3 _ _ hl
      · rcases hkb with (h | ⟨o, h⟩) | h
        · refine .inl (.inl ?_)
          rw [upd_ne (ne_of h (s3 _ _ hsx) (by intro q; cases q))]
          exact h
        · refine .inl (.inr ⟨o, ?_⟩)
          rw [upd_ne (ne_of h (s3 _ _ hsx) (by intro q; cases q))]
          exact h
        · exact .inr h
    · have hin : i = its.length := by omega
      subst hin
      rw [List.getElem?_eq_none (by rw [citems_len]; omega)]
      refine iteF ?_
      rw [List.drop_length] at hrun
      have hks : ks = truth1 := Option.some.inj hrun
      subst hks
      -- if kinds != (TRUTH,)
      refine ⟨_, rfl, Nat.le_of_ble_eq_true (by decide), fun t1 nt1 => ?_⟩
      have s3 : Same H2 (upd H2 t1 (.tup [V.str "truth"])) := Same.new nt1
      refine ⟨_, _, dp_one (Same.tup s3 hka), dp_one (SqT.of upd_same), by decide +kernel, by decide +kernel, _, rfl, ?_⟩
      refine iteF ?_
      have hx3 := (s2.trans s3) _ _ hx
      have hs3 := s3 _ _ hsx
      have hl3 := s3 _ _ hl
      -- self.text = text
      refine ⟨_, rfl, _, rfl, x, _, dx, _, rfl, hx3, cP, T.na "Puzzle" "text", by decide, ?_⟩
      -- self.check = tuple(scan.words)
      have hs4 : ∀ o, upd (upd H2 t1 (.tup [V.str "truth"])) x o sx = some (.ins (He.ga K "Scan") sdx (fScan (.ref l) (.int ((its.length : Nat) : Int)))) := fun o => by
        rw [upd_ne (Ne.symm nxs)]
        exact hs3
      have nlx : l ≠ x := ne_of hl3 hx3 (by intro q; cases q)
      have hl4 : ∀ o, upd (upd H2 t1 (.tup [V.str "truth"])) x o l = some (.lst (citems its)) := fun o => by
        rw [upd_ne nlx]
        exact hl3
      refine ⟨_, rfl, sx, _, sdx, _, _, rfl, hs4 _, cS, T.na "Scan" "words", lk_Scan_words, l, _, rfl, .inl ⟨SqL.of (hl4 _), fun t2 nt2 => ?_⟩⟩
      have nxt : x ≠ t2 := fun q => by
        rw [← q, upd_same] at nt2
        cases nt2
      have nst : sx ≠ t2 := fun q => by
        rw [← q, hs4] at nt2
        cases nt2
      have nlt : l ≠ t2 := fun q => by
        rw [← q, hl4] at nt2
        cases nt2
      refine ⟨_, rfl, x, _, dx, _, rfl, (by rw [upd_ne nxt, upd_same]), cP, T.na "Puzzle" "check", nf_Puzzle_1, ?_⟩
      -- self.cost = len(scan.words)
      refine ⟨_, rfl, sx, _, sdx, _, _, rfl, (by rw [upd_ne (Ne.symm nxs), upd_ne nst]; exact hs4 _), cS, T.na "Scan" "words", lk_Scan_words, l, _, rfl, .inl (SqL.of (by rw [upd_ne nlx, upd_ne nlt]; exact hl4 _)), ?_⟩
      refine ⟨_, rfl, x, _, dx, _, rfl, upd_same, cP, T.na "Puzzle" "cost", nf_Puzzle_2, ?_⟩
      rw [citems_len]
      have nt20 : H t2 = none := by
        rw [upd_ne (Ne.symm nxt)] at nt2
        exact (s2.trans s3).free nt2
      refine k _ t2 ((Same.x (s2.trans s3)).put.trans (SameX.new nt2) |>.put.put) nt20 ?_ ?_
      · rw [upd_ne (Ne.symm nxt), upd_ne (Ne.symm nxt), upd_same]
      · rw [upd_same, nw_Puzzle]
end
end K53
end TK53J

section TK53K
set_option maxHeartbeats 4000000

namespace K53
open PySem PySem.Spec PyProof.Rows L2 SX
theorem dec_int (x y : Int) : decide (V.int x = V.int y) = decide (x = y) := by
  by_cases h : x = y
  · rw [decide_eq_true h, decide_eq_true (congrArg V.int h)]
  · rw [decide_eq_false h, decide_eq_false fun z => h (V.int.inj z)]
theorem dec_str (x y : Str) : decide (V.str x = V.str y) = decide (x = y) := by
  by_cases h : x = y
  · rw [decide_eq_true h, decide_eq_true (congrArg V.str h)]
  · rw [decide_eq_false h, decide_eq_false fun z => h (V.str.inj z)]
/-! ### what lies on a pile -/
inductive PV where
  | num (i : Int) | tru (b : Bool)
def PV.v : PV → V
  | .num i => .int i | .tru b => .bl b
def PV.k : PV → Str
  | .num _ => "number" | .tru _ => "truth"
def PV.Bd : PV → Nat → Prop
  | .num i, e => 1 ≤ e ∧ i.natAbs < 2 ^ e
  | .tru _, e => 1 ≤ e
theorem nt : ¬ (("number" : Str) = "truth") := by decide +kernel
theorem PV.num_of {u : PV} (h : u.k = ("number" : Str)) : ∃ i, u = .num i := by
  cases u with
  | num i => exact ⟨i, rfl⟩
  | tru b => exact absurd h.symm nt
theorem PV.tru_of {u : PV} (h : u.k = ("truth" : Str)) : ∃ b, u = .tru b := by
  cases u with
  | num i => exact absurd h nt
  | tru b => exact ⟨b, rfl⟩
def restM (x y : Int) : Int := if y = 0 then x else x % (if y < 0 then -y else y)
def opM : Op → PV → PV → PV
  | .add, .num x, .num y => .num (x + y)
  | .sub, .num x, .num y => .num (x - y)
  | .mul, .num x, .num y => .num (x * y)
  | .rem, .num x, .num y => .num (restM x y)
  | .eq, .num x, .num y => .tru (decide (x = y))
  | .lt, .num x, .num y => .tru (decide (x < y))
  | .and, .tru a, .tru b => .tru (a && b)
  | .or, .tru a, .tru b => .tru (a || b)
  | _, u, _ => u
def notM : PV → PV
  | .tru b => .tru (!b)
  | u => u
def itemM (g a : Int) (pile : List PV) : Itm → List PV
  | .op .not => pile.dropLast ++ [notM (pile.getD (pile.length - 1) (.tru false))]
  | .op o => pile.take (pile.length - 2) ++ [opM o (pile.getD (pile.length - 2) (.tru false)) (pile.getD (pile.length - 1) (.tru false))]
  | .ans => pile ++ [.num a]
  | .giv => pile ++ [.num g]
  | .num v => pile ++ [.num v]
/-- the numbers are small enough: their sizes come to B -/
def BdAll (pile : List PV) (B : Nat) : Prop := ∃ es : List Nat, Paired PV.Bd pile es ∧ es.sum ≤ B
theorem pow_two_add {a b e f : Nat} (ha : a < 2 ^ e) (hb : b < 2 ^ f) (he : 1 ≤ e) (hf : 1 ≤ f) : a + b < 2 ^ (e + f) := by
  have h1 : 2 ^ 1 ≤ 2 ^ e := Nat.pow_le_pow_right (by decide) he
  have h2 : 2 ^ 1 ≤ 2 ^ f := Nat.pow_le_pow_right (by decide) hf
  rw [Nat.pow_add]
  generalize 2 ^ e = x at *
  generalize 2 ^ f = y at *
  have h3 : 2 * y ≤ x * y := Nat.mul_le_mul_right y h1
  have h4 : x * 2 ≤ x * y := Nat.mul_le_mul_left x h2
  omega
theorem opM_bd {o : Op} {u v : PV} {e f : Nat} (hu : u.Bd e) (hv : v.Bd f) : (opM o u v).Bd (e + f) := by
  have ge : ∀ {w : PV} {n : Nat}, w.Bd n → 1 ≤ n := fun {w n} h => by
    cases w with
    | num i => exact h.1
    | tru b => exact h
  have he := ge hu
  have hf := ge hv
  have up : ∀ {w : PV} {n m : Nat}, w.Bd n → n ≤ m → w.Bd m := fun {w n m} h hl => by
    cases w with
    | num i => exact ⟨Nat.le_trans h.1 hl, Nat.lt_of_lt_of_le h.2 (Nat.pow_le_pow_right (by decide) hl)⟩
    | tru b => exact Nat.le_trans h hl
  have t : ∀ b, (PV.tru b).Bd (e + f) := fun b => by show 1 ≤ e + f; omega
  cases u with
  | tru a =>
    cases v with
    | tru b => cases o <;> exact t _
    | num y => cases o <;> exact t _
  | num x =>
    cases v with
    | tru b => cases o <;> exact up (w := .num x) hu (by omega)
    | num y =>
      obtain ⟨_, hx⟩ := hu
      obtain ⟨_, hy⟩ := hv
      have hadd := pow_two_add hx hy he hf
      cases o with
      | add => exact ⟨by omega, by show (x + y).natAbs < _; omega⟩
      | sub => exact ⟨by omega, by show (x - y).natAbs < _; omega⟩
      | mul =>
        refine ⟨by omega, ?_⟩
        show (x * y).natAbs < _
        rw [Int.natAbs_mul, Nat.pow_add]
        exact Nat.mul_lt_mul'' hx hy
      | rem =>
        refine ⟨by omega, ?_⟩
        show (restM x y).natAbs < _
        unfold restM
        by_cases h0 : y = 0
        · rw [if_pos h0]
          omega
        · rw [if_neg h0]
          have h1 : (0 : Int) < (if y < 0 then -y else y) := by split <;> omega
          have h2 := Int.emod_lt_of_pos x h1
          have h3 := Int.emod_nonneg x (Int.ne_of_gt h1)
          have h4 : (if y < 0 then -y else y) = (y.natAbs : Int) := by split <;> omega
          rw [h4] at h2 h3 ⊢
          omega
      | eq => exact t _
      | lt => exact t _
      | and => exact up (w := .num x) ⟨he, hx⟩ (by omega)
      | or => exact up (w := .num x) ⟨he, hx⟩ (by omega)
      | not => exact up (w := .num x) ⟨he, hx⟩ (by omega)
theorem two_inj {a b c d : Str} (h : [a, b] = [c, d]) : a = c ∧ b = d := by
  injection h with h1 h2
  injection h2 with h2 _
  exact ⟨h1, h2⟩
theorem opM_k {o : Op} {u v : PV} (hn : o ≠ .not) (h : [u.k, v.k] = o.tk) : (opM o u v).k = o.mk := by
  cases o with
  | not => exact absurd rfl hn
  | and => obtain ⟨h1, h2⟩ := two_inj h; obtain ⟨_, rfl⟩ := PV.tru_of h1; obtain ⟨_, rfl⟩ := PV.tru_of h2; rfl
  | or => obtain ⟨h1, h2⟩ := two_inj h; obtain ⟨_, rfl⟩ := PV.tru_of h1; obtain ⟨_, rfl⟩ := PV.tru_of h2; rfl
  | add => obtain ⟨h1, h2⟩ := two_inj h; obtain ⟨_, rfl⟩ := PV.num_of h1; obtain ⟨_, rfl⟩ := PV.num_of h2; rfl
  | sub => obtain ⟨h1, h2⟩ := two_inj h; obtain ⟨_, rfl⟩ := PV.num_of h1; obtain ⟨_, rfl⟩ := PV.num_of h2; rfl
  | mul => obtain ⟨h1, h2⟩ := two_inj h; obtain ⟨_, rfl⟩ := PV.num_of h1; obtain ⟨_, rfl⟩ := PV.num_of h2; rfl
  | rem => obtain ⟨h1, h2⟩ := two_inj h; obtain ⟨_, rfl⟩ := PV.num_of h1; obtain ⟨_, rfl⟩ := PV.num_of h2; rfl
  | eq => obtain ⟨h1, h2⟩ := two_inj h; obtain ⟨_, rfl⟩ := PV.num_of h1; obtain ⟨_, rfl⟩ := PV.num_of h2; rfl
  | lt => obtain ⟨h1, h2⟩ := two_inj h; obtain ⟨_, rfl⟩ := PV.num_of h1; obtain ⟨_, rfl⟩ := PV.num_of h2; rfl
/-- what lies on top, by the kinds -/
theorem kinds_op {pile : List PV} {o : Op} {ks' : List Str} (h : kindsM (pile.map PV.k) (.op o) = some ks') : ∃ pre top, pile = pre ++ top ∧ top.map PV.k = o.tk ∧ ks' = pre.map PV.k ++ [o.mk] := by
  unfold kindsM at h
  dsimp only at h
  by_cases hc : o.tk.length ≤ (pile.map PV.k).length ∧ (pile.map PV.k).drop ((pile.map PV.k).length - o.tk.length) = o.tk
  · rw [if_pos hc] at h
    refine ⟨pile.take ((pile.map PV.k).length - o.tk.length), pile.drop ((pile.map PV.k).length - o.tk.length), (List.take_append_drop _ _).symm, ?_, ?_⟩
    · rw [List.map_drop]
      exact hc.2
    · rw [List.map_take]
      exact (Option.some.inj h).symm
  · rw [if_neg hc] at h
    cases h
theorem kinds_push {pile : List PV} {it : Itm} {ks' : List Str} (hn : ∀ o, it ≠ .op o) (h : kindsM (pile.map PV.k) it = some ks') : pile.length < 20 ∧ ks' = pile.map PV.k ++ [("number" : Str)] := by
  have h0 : (if (pile.map PV.k).length < 20 then some (pile.map PV.k ++ [("number" : Str)]) else none) = some ks' := by
    cases it with
    | op o => exact absurd rfl (hn o)
    | ans => exact h
    | giv => exact h
    | num v => exact h
  by_cases h20 : (pile.map PV.k).length < 20
  · rw [if_pos h20] at h0
    rw [List.length_map] at h20
    exact ⟨h20, (Option.some.inj h0).symm⟩
  · rw [if_neg h20] at h0
    cases h0
theorem top1 {top : List PV} (h : top.map PV.k = Op.tk .not) : ∃ b, top = [.tru b] := by
  cases top with
  | nil => cases h
  | cons u r =>
    cases r with
    | nil =>
      injection h with h1
      obtain ⟨b, rfl⟩ := PV.tru_of h1
      exact ⟨b, rfl⟩
    | cons w r => injection h with _ h2; cases h2
theorem top2 {o : Op} {top : List PV} (hn : o ≠ .not) (h : top.map PV.k = o.tk) : ∃ u v, top = [u, v] ∧ [u.k, v.k] = o.tk := by
  have hl : top.length = 2 := by
    have := congrArg List.length h
    rw [List.length_map] at this
    rw [this]
    cases o <;> first | rfl | exact absurd rfl hn
  match top, hl with
  | [u, v], _ => exact ⟨u, v, rfl, h⟩
theorem itemM_not {g a : Int} {pre : List PV} {b : Bool} : itemM g a (pre ++ [.tru b]) (.op .not) = pre ++ [.tru (!b)] := by
  show (pre ++ [PV.tru b]).dropLast ++ [notM ((pre ++ [PV.tru b]).getD ((pre ++ [PV.tru b]).length - 1) (.tru false))] = _
  rw [List.dropLast_concat, List.length_append, List.getD_eq_getElem?_getD]
  simp [notM]
theorem itemM_op {g a : Int} {pre : List PV} {u v : PV} {o : Op} (hn : o ≠ .not) : itemM g a (pre ++ [u, v]) (.op o) = pre ++ [opM o u v] := by
  have e : itemM g a (pre ++ [u, v]) (.op o) = (pre ++ [u, v]).take ((pre ++ [u, v]).length - 2) ++ [opM o ((pre ++ [u, v]).getD ((pre ++ [u, v]).length - 2) (.tru false)) ((pre ++ [u, v]).getD ((pre ++ [u, v]).length - 1) (.tru false))] := by
    cases o <;> first | rfl | exact absurd rfl hn
  rw [e]
  have h1 : (pre ++ [u, v]).length - 2 = pre.length := by simp
  have h2 : (pre ++ [u, v]).length - 1 = pre.length + 1 := by simp
  rw [h1, h2, List.getD_eq_getElem?_getD, List.getD_eq_getElem?_getD]
  simp
theorem itemM_k {g a : Int} {pile : List PV} {it : Itm} {ks' : List Str} (h : kindsM (pile.map PV.k) it = some ks') : (itemM g a pile it).map PV.k = ks' := by
  cases it with
  | op o =>
    obtain ⟨pre, top, rfl, ht, rfl⟩ := kinds_op h
    by_cases hn : o = .not
    · subst hn
      obtain ⟨b, rfl⟩ := top1 ht
      rw [itemM_not, List.map_append]
      rfl
    · obtain ⟨u, v, rfl, hk⟩ := top2 hn ht
      rw [itemM_op hn, List.map_append]
      show _ ++ [(opM o u v).k] = _
      rw [opM_k hn hk]
  | ans => obtain ⟨_, rfl⟩ := kinds_push (fun o q => by cases q) h; show (pile ++ [PV.num a]).map PV.k = _; rw [List.map_append]; rfl
  | giv => obtain ⟨_, rfl⟩ := kinds_push (fun o q => by cases q) h; show (pile ++ [PV.num g]).map PV.k = _; rw [List.map_append]; rfl
  | num v => obtain ⟨_, rfl⟩ := kinds_push (fun o q => by cases q) h; show (pile ++ [PV.num v]).map PV.k = _; rw [List.map_append]; rfl
theorem bd_app {p q : List PV} {B : Nat} (h : BdAll (p ++ q) B) : ∃ b c, BdAll p b ∧ BdAll q c ∧ b + c ≤ B := by
  induction p generalizing B with
  | nil => exact ⟨0, B, ⟨[], .nil, Nat.le_refl _⟩, h, by omega⟩
  | cons u p ih =>
    obtain ⟨es, hp, hs⟩ := h
    cases hp with
    | @cons _ e _ r h1 h2 =>
      obtain ⟨b, c, h3, h4, h5⟩ := ih (B := r.sum) ⟨r, h2, Nat.le_refl _⟩
      obtain ⟨fs, h6, h7⟩ := h3
      rw [List.sum_cons] at hs
      exact ⟨e + b, c, ⟨e :: fs, .cons h1 h6, by rw [List.sum_cons]; omega⟩, h4, by omega⟩
theorem bd_join {p q : List PV} {b c : Nat} (h1 : BdAll p b) (h2 : BdAll q c) : BdAll (p ++ q) (b + c) := by
  obtain ⟨es, hp, hs⟩ := h1
  obtain ⟨fs, hq, ht⟩ := h2
  refine ⟨es ++ fs, ?_, by rw [List.sum_append]; omega⟩
  clear hs ht
  induction hp with
  | nil => exact hq
  | cons a b ih => exact .cons a ih
theorem bd_mono {p : List PV} {b c : Nat} (h : BdAll p b) (hl : b ≤ c) : BdAll p c := by
  obtain ⟨es, hp, hs⟩ := h
  exact ⟨es, hp, Nat.le_trans hs hl⟩
theorem bd_two {u v : PV} {B : Nat} (h : BdAll [u, v] B) : ∃ e f, u.Bd e ∧ v.Bd f ∧ e + f ≤ B := by
  obtain ⟨es, hp, hs⟩ := h
  cases hp with
  | @cons _ e _ r h1 h2 =>
    cases h2 with
    | @cons _ f _ r h3 h4 =>
      rw [List.sum_cons, List.sum_cons] at hs
      exact ⟨e, f, h1, h3, by omega⟩
theorem small_bd {i : Int} (h : inBox i = true) : BdAll [.num i] 64 := by
  have hb := inBox_iff.mp h
  exact ⟨[64], .cons ⟨by decide, Nat.lt_of_le_of_lt (show i.natAbs ≤ 10 ^ 18 by omega) (by decide)⟩ .nil, by decide⟩
theorem itemM_bd {g a : Int} {pile : List PV} {it : Itm} {ks' : List Str} {B : Nat} (h : kindsM (pile.map PV.k) it = some ks') (hok : it.Ok) (hg : inBox g = true) (ha : inBox a = true) (hb : BdAll pile B) : BdAll (itemM g a pile it) (B + 64) := by
  cases it with
  | op o =>
    obtain ⟨pre, top, rfl, ht, rfl⟩ := kinds_op h
    obtain ⟨b, c, h1, h2, h3⟩ := bd_app hb
    by_cases hn : o = .not
    · subst hn
      obtain ⟨x, rfl⟩ := top1 ht
      rw [itemM_not]
      refine bd_mono (bd_join h1 (q := [.tru (!x)]) (c := c) ?_) (by omega)
      obtain ⟨es, hp, hs⟩ := h2
      cases hp with
      | cons r t =>
        cases t
        exact ⟨_, .cons r .nil, hs⟩
    · obtain ⟨u, v, rfl, hk⟩ := top2 hn ht
      rw [itemM_op hn]
      obtain ⟨e, f, h4, h5, h6⟩ := bd_two h2
      exact bd_mono (bd_join h1 (q := [opM o u v]) (c := e + f) ⟨[e + f], .cons (opM_bd h4 h5) .nil, by simp⟩) (by omega)
  | ans => exact bd_join hb (small_bd ha)
  | giv => exact bd_join hb (small_bd hg)
  | num v => exact bd_join hb (small_bd (inBox_iff.mpr hok))
def pilesM (g a : Int) (its : List Itm) : List PV := its.foldl (itemM g a) []
/-- whether an answer is right -/
def rightM (its : List Itm) (g a : Int) : Bool := match pilesM g a its with
  | [.tru b] => b
  | _ => false
theorem foldl_k {g a : Int} : ∀ {its : List Itm} {pile : List PV} {ks' : List Str}, kindsRun (pile.map PV.k) its = some ks' → (its.foldl (itemM g a) pile).map PV.k = ks'
  | [], _, _, h => Option.some.inj h
  | it :: r, pile, ks', h => by
    cases e : kindsM (pile.map PV.k) it with
    | none =>
      have h2 : (kindsM (pile.map PV.k) it).bind (fun ks' => kindsRun ks' r) = some ks' := h
      rw [e] at h2
      cases h2
    | some k1 =>
      have h2 : (kindsM (pile.map PV.k) it).bind (fun ks' => kindsRun ks' r) = some ks' := h
      rw [e] at h2
      have h3 : kindsRun k1 r = some ks' := h2
      rw [← itemM_k (g := g) (a := a) e] at h3
      exact foldl_k (its := r) h3
theorem pilesM_end {g a : Int} {its : List Itm} (h : Chk its) : pilesM g a its = [.tru (rightM its g a)] := by
  have e := foldl_k (g := g) (a := a) (pile := []) h.run
  have e2 : (pilesM g a its).map PV.k = Op.tk .not := e
  obtain ⟨b, hb⟩ := top1 e2
  unfold rightM
  rw [hb]
theorem atI_two {α : Type} (pre : List α) (u v : α) : atI (pre ++ [u, v]) (-2) = some u := by
  have hl : (pre ++ [u, v]).length = pre.length + 2 := by simp
  unfold atI ixN
  rw [hl, if_neg (by omega), if_pos (by omega)]
  show (pre ++ [u, v])[((-2 : Int) + ((pre.length + 2 : Nat) : Int)).toNat]? = _
  rw [show ((-2 : Int) + ((pre.length + 2 : Nat) : Int)).toNat = pre.length by omega]
  simp
theorem atI_two' {α : Type} (pre : List α) (u v : α) : atI (pre ++ [u, v]) (-1) = some v := by
  have := atI_last (pre ++ [u]) v
  rwa [List.append_assoc] at this
section
variable {P : Program} {w : World} {K : PySem.W.Frag} {mg : Str → Option Value} {base : Heap}
abbrev N_rest_of : List Str := ["one", "other"]
theorem sc_rest_of : FnScope N_rest_of ["one", "other"] (defScope s_rest_of) := ⟨rfl, rfl, rfl, by decide +kernel, rfl, by decide +kernel, by decide +kernel⟩
def sp_rest_of : Sp := fun vs H Q _ => ∃ x y : Int, vs = [.int x, .int y] ∧ Q (.int (restM x y)) H
theorem ok_rest_of (T : TX w K mg) : FnX P w K mg base 1 ("rest_of", none) ["one", "other"] [] sp_rest_of := by
  refine FnX.of T.qd_rest_of rfl sc_rest_of (fun vs H Q E h => ?_) (fun _ _ _ _ _ _ us hl => match us, hl with | [_, _], _ => rfl) (fun cdv A outer s H vs Q E hr h => ?_)
  · obtain ⟨x, y, rfl, _⟩ := h
    rfl
  · obtain ⟨x, y, rfl, k⟩ := h
    refine ⟨_, (pss_one (ps_ret (pe_ifExp (pt_cmpR op_eq (pv 1) pe_int (nomark _)) (pv 0) (pe_op op_mod (pv 0) (pe_callB call_abs (by rfl) (T.f "abs") bt_abs (pa_cons (pv 1) pa_nil)))))), ?_⟩
    refine ⟨_, rfl, rfl, _, rfl, ?_⟩
    unfold restM at k
    refine ite2 (fun h1 => ?_) (fun h1 => ?_)
    · rw [if_pos (V.int.inj (of_decide_eq_true h1))] at k
      exact ⟨_, rfl, k⟩
    · have h2 : ¬ y = 0 := fun q => h1 (decide_eq_true (congrArg V.int q))
      rw [if_neg h2] at k
      exact ⟨_, rfl, _, rfl, y, rfl, _, _, rfl, rfl, (by split <;> omega), k⟩
abbrev N_made_of : List Str := ["item", "below", "top"]
theorem sc_made_of : FnScope N_made_of ["item", "below", "top"] (defScope s_made_of) := ⟨rfl, rfl, rfl, by decide +kernel, rfl, by decide +kernel, by decide +kernel⟩
def sp_made_of : Sp := fun vs H Q _ => ∃ (o : Op) (u v : PV) (e f : Nat), vs = [.str (S o.l), u.v, v.v] ∧ o ≠ .not ∧ [u.k, v.k] = o.tk ∧ u.Bd e ∧ v.Bd f ∧ e + f ≤ 100000 ∧ Q (opM o u v).v H
theorem ok_made_of (T : TX w K mg) : FnX P w K mg base 2 ("made_of", none) ["item", "below", "top"] [] sp_made_of := by
  refine FnX.of T.qd_made_of rfl sc_made_of (fun vs H Q E h => ?_) (fun _ _ _ _ _ _ us hl => match us, hl with | [_, _, _], _ => rfl) (fun cdv A outer s H vs Q E hr h => ?_)
  · obtain ⟨o, u, v, e, f, rfl, _⟩ := h
    rfl
  · obtain ⟨o, u, v, e, f, rfl, hn, hk, hu, hv, hef, k⟩ := h
    refine ⟨_, (pss_cons (ps_if (pt_cmpR op_eq (pv 0) pe_str (nomark _)) (pss_one (ps_ret (pe_op op_add (pv 1) (pv 2)))) pss_nil)
  (pss_cons (ps_if (pt_cmpR op_eq (pv 0) pe_str (nomark _)) (pss_one (ps_ret (pe_op op_sub (pv 1) (pv 2)))) pss_nil)
  (pss_cons (ps_if (pt_cmpR op_eq (pv 0) pe_str (nomark _)) (pss_one (ps_ret (pe_op op_mulW (pv 1) (pv 2)))) pss_nil)
  (pss_cons (ps_if (pt_cmpR op_eq (pv 0) pe_str (nomark _)) (pss_one (ps_ret (pe_fx (ok_rest_of T) (hr.mono (by decide)) (by rfl) (T.g "rest_of") (pa_cons (pv 1) (pa_cons (pv 2) pa_nil))))) pss_nil)
  (pss_cons (ps_if (pt_cmpR op_eq (pv 0) pe_str (nomark _)) (pss_one (ps_ret (pe_cmpR op_eq (pv 1) (pv 2) (nomark _)))) pss_nil)
  (pss_cons (ps_if (pt_cmpR op_eq (pv 0) pe_str (nomark _)) (pss_one (ps_ret (pe_cmpR op_lt (pv 1) (pv 2) (nomark _)))) pss_nil)
  (pss_one (ps_ret (pe_ifExp (pt_cmpR op_eq (pv 0) pe_str (nomark _)) (pe_and (pv 1) (pe_one (pv 2))) (pe_or (pv 1) (pe_one (pv 2)))))))))))), ?_⟩
    have d : ∀ {o' : Op} {z : Str}, z = S o'.l → o.l ≠ o'.l → ∀ q : V.str (S o.l) = V.str z, False := fun {o' z} hz hne q => by
      rw [hz] at q
      exact hne (S_inj (V.str.inj q))
    have ea : ("+" : Str) = S (Op.l .add) := by decide +kernel
    have es : ("-" : Str) = S (Op.l .sub) := by decide +kernel
    have em : ("*" : Str) = S (Op.l .mul) := by decide +kernel
    have er : ("rem" : Str) = S (Op.l .rem) := by decide +kernel
    have ee : ("=" : Str) = S (Op.l .eq) := by decide +kernel
    have el : ("<" : Str) = S (Op.l .lt) := by decide +kernel
    have en : ("and" : Str) = S (Op.l .and) := by decide +kernel
    cases o with
    | not => exact absurd rfl hn
    | add =>
      obtain ⟨hk1, hk2⟩ := two_inj hk; obtain ⟨x, rfl⟩ := PV.num_of hk1; obtain ⟨y, rfl⟩ := PV.num_of hk2
      refine ⟨_, rfl, rfl, _, rfl, ?_⟩
      rw [decide_eq_true (congrArg V.str ea.symm)]
      exact iteT ⟨_, rfl, _, rfl, _, _, rfl, rfl, k⟩
    | sub =>
      obtain ⟨hk1, hk2⟩ := two_inj hk; obtain ⟨x, rfl⟩ := PV.num_of hk1; obtain ⟨y, rfl⟩ := PV.num_of hk2
      refine ⟨_, rfl, rfl, _, rfl, ?_⟩
      rw [decide_eq_false (d ea (by decide))]
      refine iteF ⟨_, rfl, rfl, _, rfl, ?_⟩
      rw [decide_eq_true (congrArg V.str es.symm)]
      exact iteT ⟨_, rfl, _, rfl, _, _, rfl, rfl, k⟩
    | mul =>
      obtain ⟨hk1, hk2⟩ := two_inj hk; obtain ⟨x, rfl⟩ := PV.num_of hk1; obtain ⟨y, rfl⟩ := PV.num_of hk2
      refine ⟨_, rfl, rfl, _, rfl, ?_⟩
      rw [decide_eq_false (d ea (by decide))]
      refine iteF ⟨_, rfl, rfl, _, rfl, ?_⟩
      rw [decide_eq_false (d es (by decide))]
      refine iteF ⟨_, rfl, rfl, _, rfl, ?_⟩
      rw [decide_eq_true (congrArg V.str em.symm)]
      exact iteT ⟨_, rfl, _, rfl, _, _, rfl, rfl, wide_mul hu.2 hv.2 hu.1 hv.1 (by omega), k⟩
    | rem =>
      obtain ⟨hk1, hk2⟩ := two_inj hk; obtain ⟨x, rfl⟩ := PV.num_of hk1; obtain ⟨y, rfl⟩ := PV.num_of hk2
      refine ⟨_, rfl, rfl, _, rfl, ?_⟩
      rw [decide_eq_false (d ea (by decide))]
      refine iteF ⟨_, rfl, rfl, _, rfl, ?_⟩
      rw [decide_eq_false (d es (by decide))]
      refine iteF ⟨_, rfl, rfl, _, rfl, ?_⟩
      rw [decide_eq_false (d em (by decide))]
      refine iteF ⟨_, rfl, rfl, _, rfl, ?_⟩
      rw [decide_eq_true (congrArg V.str er.symm)]
      exact iteT ⟨_, rfl, _, rfl, _, _, rfl, k⟩
    | eq =>
      obtain ⟨hk1, hk2⟩ := two_inj hk; obtain ⟨x, rfl⟩ := PV.num_of hk1; obtain ⟨y, rfl⟩ := PV.num_of hk2
      refine ⟨_, rfl, rfl, _, rfl, ?_⟩
      rw [decide_eq_false (d ea (by decide))]
      refine iteF ⟨_, rfl, rfl, _, rfl, ?_⟩
      rw [decide_eq_false (d es (by decide))]
      refine iteF ⟨_, rfl, rfl, _, rfl, ?_⟩
      rw [decide_eq_false (d em (by decide))]
      refine iteF ⟨_, rfl, rfl, _, rfl, ?_⟩
      rw [decide_eq_false (d er (by decide))]
      refine iteF ⟨_, rfl, rfl, _, rfl, ?_⟩
      rw [decide_eq_true (congrArg V.str ee.symm)]
      refine iteT ⟨_, rfl, _, rfl, rfl, ?_⟩
      have e1 := dec_int x y
      show Q (.bl (decide (V.int x = V.int y))) H
      rw [e1]
      exact k
    | lt =>
      obtain ⟨hk1, hk2⟩ := two_inj hk; obtain ⟨x, rfl⟩ := PV.num_of hk1; obtain ⟨y, rfl⟩ := PV.num_of hk2
      refine ⟨_, rfl, rfl, _, rfl, ?_⟩
      rw [decide_eq_false (d ea (by decide))]
      refine iteF ⟨_, rfl, rfl, _, rfl, ?_⟩
      rw [decide_eq_false (d es (by decide))]
      refine iteF ⟨_, rfl, rfl, _, rfl, ?_⟩
      rw [decide_eq_false (d em (by decide))]
      refine iteF ⟨_, rfl, rfl, _, rfl, ?_⟩
      rw [decide_eq_false (d er (by decide))]
      refine iteF ⟨_, rfl, rfl, _, rfl, ?_⟩
      rw [decide_eq_false (d ee (by decide))]
      refine iteF ⟨_, rfl, rfl, _, rfl, ?_⟩
      rw [decide_eq_true (congrArg V.str el.symm)]
      exact iteT ⟨_, rfl, _, rfl, _, _, rfl, rfl, k⟩
    | and =>
      obtain ⟨hk1, hk2⟩ := two_inj hk; obtain ⟨x, rfl⟩ := PV.tru_of hk1; obtain ⟨y, rfl⟩ := PV.tru_of hk2
      refine ⟨_, rfl, rfl, _, rfl, ?_⟩
      rw [decide_eq_false (d ea (by decide))]
      refine iteF ⟨_, rfl, rfl, _, rfl, ?_⟩
      rw [decide_eq_false (d es (by decide))]
      refine iteF ⟨_, rfl, rfl, _, rfl, ?_⟩
      rw [decide_eq_false (d em (by decide))]
      refine iteF ⟨_, rfl, rfl, _, rfl, ?_⟩
      rw [decide_eq_false (d er (by decide))]
      refine iteF ⟨_, rfl, rfl, _, rfl, ?_⟩
      rw [decide_eq_false (d ee (by decide))]
      refine iteF ⟨_, rfl, rfl, _, rfl, ?_⟩
      rw [decide_eq_false (d el (by decide))]
      refine iteF ⟨_, rfl, rfl, _, rfl, ?_⟩
      rw [decide_eq_true (congrArg V.str en.symm)]
      refine iteT ⟨_, rfl, x, rfl, ?_⟩
      cases x with
      | true => exact iteT ⟨_, rfl, k⟩
      | false => exact iteF k
    | or =>
      obtain ⟨hk1, hk2⟩ := two_inj hk; obtain ⟨x, rfl⟩ := PV.tru_of hk1; obtain ⟨y, rfl⟩ := PV.tru_of hk2
      refine ⟨_, rfl, rfl, _, rfl, ?_⟩
      rw [decide_eq_false (d ea (by decide))]
      refine iteF ⟨_, rfl, rfl, _, rfl, ?_⟩
      rw [decide_eq_false (d es (by decide))]
      refine iteF ⟨_, rfl, rfl, _, rfl, ?_⟩
      rw [decide_eq_false (d em (by decide))]
      refine iteF ⟨_, rfl, rfl, _, rfl, ?_⟩
      rw [decide_eq_false (d er (by decide))]
      refine iteF ⟨_, rfl, rfl, _, rfl, ?_⟩
      rw [decide_eq_false (d ee (by decide))]
      refine iteF ⟨_, rfl, rfl, _, rfl, ?_⟩
      rw [decide_eq_false (d el (by decide))]
      refine iteF ⟨_, rfl, rfl, _, rfl, ?_⟩
      rw [decide_eq_false (d en (by decide))]
      refine iteF ⟨_, rfl, x, rfl, ?_⟩
      cases x with
      | true => exact iteT k
      | false => exact iteF ⟨_, rfl, k⟩
end
end K53
end TK53K

section TK53L
set_option maxHeartbeats 4000000

namespace K53
open PySem PySem.Spec PyProof.Rows L2 SX
section
variable {P : Program} {w : World} {K : PySem.W.Frag} {mg : Str → Option Value} {base : Heap}
abbrev N_pile_behind : List Str := ["pile", "item", "given", "answer"]
theorem sc_pile_behind : FnScope N_pile_behind ["pile", "item", "given", "answer"] (defScope s_pile_behind) := ⟨rfl, rfl, rfl, by decide +kernel, rfl, by decide +kernel, by decide +kernel⟩
def sp_pile_behind (K : PySem.W.Frag) : Sp := fun vs H Q _ => ∃ (a : Addr) (pile : List PV) (it : Itm) (g an : Int) (ks' : List Str) (B : Nat), vs = [.ref a, .str (S it.l), .int g, .int an] ∧ SqT K H a (pile.map PV.v) ∧ pile.length ≤ 20 ∧ it.Ok ∧ kindsM (pile.map PV.k) it = some ks' ∧
  BdAll pile B ∧ B ≤ 100000 ∧ ∀ H' b, Same H H' → SqT K H' b ((itemM g an pile it).map PV.v) → Q (.ref b) H'
theorem ok_pile_behind (T : TX w K mg) : FnX P w K mg base 3 ("pile_behind", none) ["pile", "item", "given", "answer"] [] (sp_pile_behind K) := by
  refine FnX.of T.qd_pile_behind rfl sc_pile_behind (fun vs H Q E h => ?_) (fun _ _ _ _ _ _ us hl => match us, hl with | [_, _, _, _], _ => rfl) (fun cdv A outer s H vs Q E hr h => ?_)
  · obtain ⟨a, pile, it, g, an, ks', B, rfl, _⟩ := h
    rfl
  · obtain ⟨a, pile, it, g, an, ks', B, rfl, ha, hl, hok, hk, hB, hB2, k⟩ := h
    obtain ⟨es, n, Dd⟩ := T.deeds
    refine ⟨_, (pss_cons (ps_if (pt_cmpR op_eq (pv 1) pe_str (nomark _)) (pss_one (ps_ret (pe_tup (StX.pa_star (pe_slice sl_tupA (pv 0) po_none (po_some (pe_un un_neg pe_int))) (pa_cons (pe_not (pe_ix ix_tup (pv 0) (pe_un un_neg pe_int) (fun _ _ => rfl))) pa_nil))))) pss_nil)
  (pss_cons (ps_if (pt_cmpR (op_in_kd Dd) (pv 1) (pe_gr (by rfl) (T.g "DEEDS")) rfl) (pss_one (ps_ret (pe_tup (StX.pa_star (pe_slice sl_tupA (pv 0) po_none (po_some (pe_un un_neg pe_int))) (pa_cons (pe_fx (ok_made_of T) (hr.mono (by decide)) (by rfl) (T.g "made_of") (pa_cons (pv 1) (pa_cons (pe_ix ix_tup (pv 0) (pe_un un_neg pe_int) (fun _ _ => rfl)) (pa_cons (pe_ix ix_tup (pv 0) (pe_un un_neg pe_int) (fun _ _ => rfl)) pa_nil)))) pa_nil))))) pss_nil)
  (pss_cons (ps_if (pt_cmpR op_eq (pv 1) (pe_gs (by rfl) (T.s "ANSWER" "a")) (nomark _)) (pss_one (ps_ret (pe_tup (StX.pa_star (pv 0) (pa_cons (pv 3) pa_nil))))) pss_nil)
  (pss_one (ps_ret (pe_tup (StX.pa_star (pv 0) (pa_cons (pe_ifExp (pt_cmpR op_eq (pv 1) (pe_gs (by rfl) (T.s "GIVEN" "n")) (nomark _)) (pv 2) (pe_fx (ok_written T) (hr.mono (by decide)) (by rfl) (T.g "written") (pa_cons (pv 1) pa_nil))) pa_nil)))))))), ?_⟩
    refine ⟨_, rfl, rfl, _, rfl, ?_⟩
    have en : ("not" : Str) = S (Op.l .not) := by decide +kernel
    by_cases hop : ∃ o, it = .op o
    · obtain ⟨o, rfl⟩ := hop
      obtain ⟨pre, top, rfl, ht, rfl⟩ := kinds_op hk
      by_cases hn : o = .not
      · subst hn
        obtain ⟨b, rfl⟩ := top1 ht
        rw [itemM_not] at k
        rw [decide_eq_true (show V.str (S (Itm.op Op.not).l) = V.str "not" from congrArg V.str en.symm)]
        have hla : ((pre ++ [PV.tru b]).map PV.v).length = pre.length + 1 := by simp
        refine iteT ⟨_, rfl, _, rfl, _, rfl, ?_⟩
        refine slA ha fun b1 H1 s1 hb1 => ?_
        rw [show (-1 : Int) = -((1 : Nat) : Int) from rfl, cut_back (by decide) (by omega), hla] at hb1
        have e1 : ((pre ++ [PV.tru b]).map PV.v).take (pre.length + 1 - 1) = pre.map PV.v := by
          rw [List.map_append, Nat.add_sub_cancel]
          have : pre.length = (pre.map PV.v).length := by simp
          rw [this, List.take_left]
        rw [e1] at hb1
        refine ⟨b1, _, rfl, .inl hb1, _, rfl, _, rfl, a, _, _, .bl b, rfl, rfl, Same.tup s1 ha, ?_, _, rfl, ?_⟩
        · rw [List.map_append]
          exact atI_last _ _
        · refine ⟨?_, fun p hp => ?_⟩
          · rw [List.length_append, List.length_map]
            rw [List.length_append] at hl
            exact size24 (by show _ + 1 ≤ _; have : ([PV.tru b]).length = 1 := rfl; omega)
          · refine k _ p (s1.new' hp) (SqT.of ?_)
            rw [upd_same, List.map_append]
            rfl
      · obtain ⟨u, v, rfl, hkk⟩ := top2 hn ht
        rw [itemM_op hn] at k
        rw [decide_eq_false (show ¬ V.str (S (Itm.op o).l) = V.str "not" from fun q => by
          rw [en] at q
          have := S_inj (V.str.inj q)
          cases o <;> first | exact hn rfl | exact absurd this (by decide))]
        refine iteF ?_
        obtain ⟨d1, _, _⟩ := T.deed o.deed
        refine ⟨_, rfl, _, _, rfl, rfl, d1, _, rfl, iteT ?_⟩
        have hla : ((pre ++ [u, v]).map PV.v).length = pre.length + 2 := by simp
        obtain ⟨_, c, _, h2, h3⟩ := bd_app hB
        obtain ⟨e, f, h4, h5, h6⟩ := bd_two h2
        refine ⟨_, rfl, _, rfl, _, rfl, ?_⟩
        refine slA ha fun b1 H1 s1 hb1 => ?_
        rw [show (-2 : Int) = -((2 : Nat) : Int) from rfl, cut_back (by decide) (by omega), hla] at hb1
        have e1 : ((pre ++ [u, v]).map PV.v).take (pre.length + 2 - 2) = pre.map PV.v := by
          rw [List.map_append, Nat.add_sub_cancel]
          have : pre.length = (pre.map PV.v).length := by simp
          rw [this, List.take_left]
        rw [e1] at hb1
        refine ⟨b1, _, rfl, .inl hb1, _, rfl, _, rfl, _, rfl, a, _, _, u.v, rfl, rfl, Same.tup s1 ha, ?_, _, rfl, _, rfl, a, _, _, v.v, rfl, rfl, Same.tup s1 ha, ?_, ?_⟩
        · rw [List.map_append]
          exact atI_two _ _ _
        · rw [List.map_append]
          exact atI_two' _ _ _
        refine ⟨o, u, v, e, f, rfl, hn, hkk, h4, h5, by omega, ?_⟩
        refine ⟨?_, fun p hp => ?_⟩
        · rw [List.length_append, List.length_map]
          rw [List.length_append] at hl
          exact size24 (by show _ + 1 ≤ _; have : ([u, v]).length = 2 := rfl; omega)
        · refine k _ p (s1.new' hp) (SqT.of ?_)
          rw [upd_same, List.map_append]
          rfl
    · have hno : ∀ o, it ≠ .op o := fun o q => hop ⟨o, q⟩
      obtain ⟨hl20, _⟩ := kinds_push hno hk
      rw [decide_eq_false (show ¬ V.str (S it.l) = V.str "not" from fun q => by
        rw [en] at q
        have e2 := S_inj (V.str.inj q)
        refine Itm.noDeed hno ?_
        rw [e2]
        exact Op.key .not)]
      refine iteF ?_
      refine ⟨_, rfl, _, _, rfl, rfl, T.noDeed (Itm.noDeed hno), _, rfl, iteF ?_⟩
      have fin : ∀ (i : Int) (H' : Hp), Same H H' → itemM g an pile it = pile ++ [.num i] → (∀ Q' : VK, Q' (.int i) H' → ∃ p xs, V.ref a = V.ref p ∧ (SqT K H' p xs ∨ SqL K H' p xs) ∧ (xs ++ [V.int i]).length ≤ sizeLine ∧ ∀ q, H' q = none → Q (.ref q) (upd H' q (.tup (xs ++ [V.int i])))) := fun i H' s' e Q' _ => by
        refine ⟨a, _, rfl, .inl (Same.tup s' ha), ?_, fun p hp => ?_⟩
        · rw [List.length_append, List.length_map]
          exact size24 (by show _ + 1 ≤ _; omega)
        · refine k _ p (s'.new' hp) (SqT.of ?_)
          rw [upd_same, e, List.map_append]
          rfl
      have ea : ("a" : Str) = S [97] := by decide +kernel
      have eg : ("n" : Str) = S [110] := by decide +kernel
      cases it with
      | op o => exact absurd rfl (hno o)
      | ans =>
        refine ⟨_, rfl, rfl, _, rfl, ?_⟩
        rw [ea, decide_eq_true (show V.str (S Itm.ans.l) = V.str (S [97]) from rfl)]
        refine iteT ⟨_, rfl, a, _, rfl, .inl ha, _, rfl, ?_⟩
        refine ⟨?_, fun p hp => ?_⟩
        · rw [List.length_append, List.length_map]
          exact size24 (by show _ + 1 ≤ _; omega)
        · refine k _ p (Same.new hp) (SqT.of ?_)
          rw [upd_same]
          show _ = some (HO.tup ((pile ++ [PV.num an]).map PV.v))
          rw [List.map_append]
          rfl
      | giv =>
        refine ⟨_, rfl, rfl, _, rfl, ?_⟩
        rw [ea, decide_eq_false (show ¬ V.str (S Itm.giv.l) = V.str (S [97]) from fun q => absurd (S_inj (V.str.inj q)) (by decide))]
        refine iteF ⟨_, rfl, a, _, rfl, .inl ha, _, rfl, rfl, _, rfl, ?_⟩
        rw [eg, decide_eq_true (show V.str (S Itm.giv.l) = V.str (S [110]) from rfl)]
        refine iteT ⟨_, rfl, ?_⟩
        refine ⟨?_, fun p hp => ?_⟩
        · rw [List.length_append, List.length_map]
          exact size24 (by show _ + 1 ≤ _; omega)
        · refine k _ p (Same.new hp) (SqT.of ?_)
          rw [upd_same]
          show _ = some (HO.tup ((pile ++ [PV.num g]).map PV.v))
          rw [List.map_append]
          rfl
      | num i =>
        have hi : -1000000000000000000 ≤ i ∧ i ≤ 1000000000000000000 := hok
        refine ⟨_, rfl, rfl, _, rfl, ?_⟩
        rw [ea, decide_eq_false (show ¬ V.str (S (Itm.num i).l) = V.str (S [97]) from fun q => numI_not (by intro c hc; simp at hc; omega) (S_inj (V.str.inj q)))]
        refine iteF ⟨_, rfl, a, _, rfl, .inl ha, _, rfl, rfl, _, rfl, ?_⟩
        rw [eg, decide_eq_false (show ¬ V.str (S (Itm.num i).l) = V.str (S [110]) from fun q => numI_not (by intro c hc; simp at hc; omega) (S_inj (V.str.inj q)))]
        refine iteF ⟨_, rfl, i, rfl, Nat.lt_of_le_of_lt (show i.natAbs ≤ 10 ^ 18 by omega) (by decide), fun H1 s1 => ?_⟩
        refine ⟨?_, fun p hp => ?_⟩
        · rw [List.length_append, List.length_map]
          exact size24 (by show _ + 1 ≤ _; omega)
        · refine k _ p (s1.new' hp) (SqT.of ?_)
          rw [upd_same]
          show _ = some (HO.tup ((pile ++ [PV.num i]).map PV.v))
          rw [List.map_append]
          rfl
/-- a puzzle as it stands -/
def PzAt (K : PySem.W.Frag) (H : Hp) (pz : Addr) (its : List Itm) : Prop := ∃ dx t, H pz = some (.ins (He.ga K "Puzzle") dx (fPuzzle (.str (ctext its)) (.ref t) (.int (its.length : Int)))) ∧ H t = some (.tup (citems its))
theorem PzAt.same {H H' : Hp} {pz : Addr} {its : List Itm} (s : Same H H') (h : PzAt K H pz its) : PzAt K H' pz its := by
  obtain ⟨dx, t, h1, h2⟩ := h
  exact ⟨dx, t, s _ _ h1, s _ _ h2⟩
abbrev N_piles_along : List Str := ["puzzle", "given", "answer", "found", "pile", "item"]
theorem sc_piles_along : FnScope N_piles_along ["puzzle", "given", "answer"] (defScope s_piles_along) := ⟨rfl, rfl, rfl, by decide +kernel, rfl, by decide +kernel, by decide +kernel⟩
def sp_piles_along (K : PySem.W.Frag) : Sp := fun vs H Q _ => ∃ (pz : Addr) (its : List Itm) (g an : Int), vs = [.ref pz, .int g, .int an] ∧ PzAt K H pz its ∧ Chk its ∧ inBox g = true ∧ inBox an = true ∧
  ∀ H' b xs l, Same H H' → H' b = some (.tup (xs ++ [V.ref l])) → SqT K H' l ((pilesM g an its).map PV.v) → Q (.ref b) H'
theorem ok_piles_along (T : TX w K mg) : FnX P w K mg base 4 ("piles_along", none) ["puzzle", "given", "answer"] [] (sp_piles_along K) := by
  refine FnX.of T.qd_piles_along rfl sc_piles_along (fun vs H Q E h => ?_) (fun _ _ _ _ _ _ us hl => match us, hl with | [_, _, _], _ => rfl) (fun cdv A outer s H vs Q E hr h => ?_)
  · obtain ⟨pz, its, g, an, rfl, _⟩ := h
    rfl
  · obtain ⟨pz, its, g, an, rfl, hpz, hc, hg, han, k⟩ := h
    obtain ⟨dx, t, h1, h2⟩ := id hpz
    refine ⟨_, (pss_cons (ps_par (i := 3) (j := 4) (by rfl) sc_piles_along.nd rfl rfl (by decide) rfl rfl (pa_cons (pe_lst pa_nil) (pa_cons (pe_tup pa_nil) pa_nil)) (by rfl))
  (pss_cons (ps_for PassesOwn.never rfl (pi_tup (pe_fld (pv 0) rfl)) (pg_name (i := 5) sc_piles_along.nd rfl (by first | exact .inl rfl | exact .inr rfl))
  (pss_cons (ps_set (i := 4) sc_piles_along.nd rfl (by first | exact .inl rfl | exact .inr rfl) (pe_fx (ok_pile_behind T) (hr.mono (by decide)) (by rfl) (T.g "pile_behind") (pa_cons (pv 4) (pa_cons (pv 5) (pa_cons (pv 1) (pa_cons (pv 2) pa_nil))))))
  (pss_one (ps_expr (pe_bm PySem.F.plainAttrs_list PySem.F.slot_list_append PySem.F.type_list_append mt_append (pv 3) (pa_cons (pv 4) pa_nil))))))
  (pss_one (ps_ret (pe_callTy call_tuple_of (by rfl) (T.f "tuple") bt_tuple (pa_cons (pv 3) pa_nil)))))), ?_⟩
    refine ⟨Nat.zero_le _, fun f nf => ⟨Nat.zero_le _, fun p0 np0 => ⟨_, _, rfl, ?_⟩⟩⟩
    have nfp : f ≠ p0 := fun q => by
      rw [← q, upd_same] at np0
      cases np0
    have s0 : Same H (upd (upd H f (.lst [])) p0 (.tup [])) := (Same.new nf).new' np0
    refine ⟨_, rfl, pz, _, dx, _, _, rfl, s0 _ _ h1, T.cls "Puzzle", T.na "Puzzle" "check", lk_Puzzle_check, t, rfl, ⟨_, SqT.of (s0 _ _ h2)⟩, ?_⟩
    refine for_tup (K := K) (xs := citems its) (fun i σ H' => ∃ (pile : List PV) (ka : Addr) (acc : List V) (z : Option V), σ = [some (.ref pz), some (.int g), some (.int an), some (.ref f), some (.ref ka), z] ∧ Same H H' ∧ H' f = some (.lst acc) ∧ acc.length = i ∧
      (i = 0 ∨ acc.getLast? = some (V.ref ka)) ∧ SqT K H' ka (pile.map PV.v) ∧ pile = (its.take i).foldl (itemM g an) [] ∧ kindsRun (pile.map PV.k) (its.drop i) = some truth1 ∧ pile.length ≤ 20 ∧ BdAll pile (64 * i)) ?_ ?_ ?_ ?_
    · refine ⟨[], p0, [], none, rfl, s0, ?_, rfl, .inl rfl, SqT.of upd_same, rfl, hc.run, Nat.zero_le _, ⟨[], .nil, Nat.le_refl _⟩⟩
      rw [upd_ne nfp, upd_same]
    · rintro i σ H' hi ⟨pile, ka, acc, z, rfl, s1, _⟩
      exact SqT.of (s1 _ _ h2)
    · rintro i x σ H' hx ⟨pile, ka, acc, z, rfl, s1, hf, hacc, hlast, hka, hpile, hrun, hpl, hbd⟩
      have hi : i < its.length := by
        have := (List.getElem?_eq_some_iff.mp hx).1
        rw [citems_len] at this
        exact this
      obtain ⟨it, hit⟩ : ∃ it, its[i]? = some it := ⟨_, List.getElem?_eq_getElem hi⟩
      have ex : x = V.str (S it.l) := by
        rw [citems_get hit] at hx
        exact (Option.some.inj hx).symm
      subst ex
      obtain ⟨ks', hk, hrun'⟩ := kindsRun_drop hit hrun
      have hl40 := hc.len
      refine ⟨_, rfl, _, rfl, _, rfl, _, rfl, ka, pile, it, g, an, ks', _, rfl, hka, hpl, hc.ok it (List.mem_of_getElem? hit), hk, hbd, by omega, fun H2 kb s2 hkb => ?_⟩
      refine ⟨_, rfl, .inl ⟨rfl, _, SqL.of (s2 _ _ hf)⟩, _, rfl, f, _, _, rfl, rfl, s2 _ _ hf, size24' (by omega), ?_⟩
      have hpk : (itemM g an pile it).map PV.k = ks' := itemM_k hk
      refine ⟨itemM g an pile it, kb, acc ++ [V.ref kb], _, rfl, (s1.trans s2).mut nf, upd_same, by rw [List.length_append, hacc]; rfl, .inr (by simp), ?_, ?_, ?_, ?_, ?_⟩
      · rcases hkb with (h | ⟨o, h⟩) | h
        · refine .inl (.inl ?_)
          rw [upd_ne (ne_of h (s2 _ _ hf) (by intro q; cases q))]
          exact h
        · refine .inl (.inr ⟨o, ?_⟩)
          rw [upd_ne (ne_of h (s2 _ _ hf) (by intro q; cases q))]
          exact h
        · exact .inr h
      · rw [hpile, List.take_add_one, hit, List.foldl_append]
        rfl
      · rw [hpk]
        exact hrun'
      · have := kindsM_len hk (by rw [List.length_map]; exact hpl)
        rw [← hpk, List.length_map] at this
        exact this
      · have := itemM_bd (g := g) (a := an) hk (hc.ok it (List.mem_of_getElem? hit)) hg han hbd
        rw [show 64 * (i + 1) = 64 * i + 64 by omega]
        exact this
    · rintro σ H' ⟨pile, ka, acc, z, rfl, s1, hf, hacc, hlast, hka, hpile, hrun, hpl, hbd⟩
      rw [citems_len] at hacc hpile hlast
      refine ⟨_, rfl, f, _, rfl, .inl ⟨SqL.of hf, fun b nb => ?_⟩⟩
      have hne : acc ≠ [] := fun q => by
        rw [q] at hacc
        have := hc.ne
        exact this (List.length_eq_zero_iff.mp hacc.symm)
      have hl2 : acc.getLast? = some (V.ref ka) := by
        rcases hlast with h | h
        · exact absurd (List.length_eq_zero_iff.mp h) hc.ne
        · exact h
      obtain ⟨xs, rfl⟩ := List.getLast?_eq_some_iff.mp hl2
      refine k _ b xs ka (s1.new' nb) upd_same (Same.tup (Same.new nb) ?_)
      rw [List.take_length] at hpile
      unfold pilesM
      rw [← hpile]
      exact hka
abbrev N_right_for : List Str := ["puzzle", "given", "answer"]
theorem sc_right_for : FnScope N_right_for ["puzzle", "given", "answer"] (defScope s_right_for) := ⟨rfl, rfl, rfl, by decide +kernel, rfl, by decide +kernel, by decide +kernel⟩
def sp_right_for (K : PySem.W.Frag) : Sp := fun vs H Q _ => ∃ (pz : Addr) (its : List Itm) (g an : Int), vs = [.ref pz, .int g, .int an] ∧ PzAt K H pz its ∧ Chk its ∧ inBox g = true ∧ inBox an = true ∧ ∀ H', Same H H' → Q (.bl (rightM its g an)) H'
theorem ok_right_for (T : TX w K mg) : FnX P w K mg base 5 ("right_for", none) ["puzzle", "given", "answer"] [] (sp_right_for K) := by
  refine FnX.of T.qd_right_for rfl sc_right_for (fun vs H Q E h => ?_) (fun _ _ _ _ _ _ us hl => match us, hl with | [_, _, _], _ => rfl) (fun cdv A outer s H vs Q E hr h => ?_)
  · obtain ⟨pz, its, g, an, rfl, _⟩ := h
    rfl
  · obtain ⟨pz, its, g, an, rfl, hpz, hc, hg, han, k⟩ := h
    refine ⟨_, (pss_one (ps_ret (pe_ix ix_tup (pe_ix ix_tup (pe_fx (ok_piles_along T) (hr.mono (by decide)) (by rfl) (T.g "piles_along") (pa_cons (pv 0) (pa_cons (pv 1) (pa_cons (pv 2) pa_nil)))) (pe_un un_neg pe_int) (fun _ _ => rfl)) pe_int (fun _ _ => rfl)))), ?_⟩
    refine ⟨_, rfl, _, rfl, _, rfl, pz, its, g, an, rfl, hpz, hc, hg, han, fun H1 b xs l s1 hb hl => ?_⟩
    rw [pilesM_end hc] at hl
    refine ⟨_, rfl, b, _, _, _, rfl, rfl, SqT.of hb, atI_last _ _, ?_⟩
    exact ⟨l, _, _, _, rfl, rfl, hl, atI_nat (j := 0) rfl, k _ s1⟩
end
end K53
end TK53L

section TK53U
set_option maxHeartbeats 4000000

namespace K53
open PySem PySem.Spec PyProof.Rows L2
/-! ### trials, in plain words -/
structure TS where
  run : RS
  waits : Nat
  ans : Option Int
def stepT (p : List Str) (its : List Itm) (g : Int) (t : TS) : TS × Bool :=
  if t.waits = 0 then (⟨(stepR p t.run).1, if (stepR p t.run).2.isNone then 0 else its.length, (stepR p t.run).2⟩, false)
  else (⟨t.run, t.waits - 1, t.ans⟩, decide (t.waits - 1 = 0) && rightM its g (t.ans.getD 0))
def runT (p : List Str) (its : List Itm) (g : Int) : Nat → TS
  | 0 => ⟨⟨0, g, 0, 0, false⟩, 0, none⟩
  | n + 1 => (stepT p its g (runT p its g n)).1
/-- the answer is found with the n-th step -/
def fnd (p : List Str) (its : List Itm) (g : Int) (n : Nat) : Bool := (stepT p its g (runT p its g (n - 1))).2
structure TS.Ok (p : List Str) (t : TS) : Prop where
  run : t.run.Ok p
  ans : t.waits ≠ 0 → ∃ a, t.ans = some a ∧ inBox a = true
theorem stepT_ok {p : List Str} {its : List Itm} {g : Int} {t : TS} (h : t.Ok p) : (stepT p its g t).1.Ok p := by
  unfold stepT
  by_cases hw : t.waits = 0
  · rw [if_pos hw]
    refine ⟨stepR_ok h.run, fun hn => ?_⟩
    have hn2 : (if (stepR p t.run).2.isNone then 0 else its.length) ≠ 0 := hn
    show ∃ a, (stepR p t.run).2 = some a ∧ _
    cases e : (stepR p t.run).2 with
    | none =>
      rw [e] at hn2
      exact absurd rfl hn2
    | some a => exact ⟨a, rfl, stepR_say h.run e⟩
  · rw [if_neg hw]
    exact ⟨h.run, fun _ => h.ans hw⟩
theorem runT_ok {p : List Str} {its : List Itm} {g : Int} (hg : inBox g = true) : ∀ n, (runT p its g n).Ok p
  | 0 => ⟨⟨hg, fun _ => by show inBox 0 = true; decide, Nat.zero_le _⟩, fun h => absurd rfl h⟩
  | n + 1 => stepT_ok (runT_ok hg n)
/-- a trial laid: n steps are made -/
def TrialAt (K : PySem.W.Frag) (H : Hp) (pz : Addr) (its : List Itm) (g : Int) (x ru tp : Addr) (p : List Str) (n : Nat) : Prop :=
  ∃ dx dr, H x = some (.ins (He.ga K "Trial") dx (fTrial (.ref tp) (.ref pz) (.ref ru) (.int (n : Int)) (.int ((runT p its g n).waits : Int)) (sayV (runT p its g n).ans))) ∧ H ru = some (.ins (He.ga K "Run") dr (runF tp g (runT p its g n).run)) ∧ H tp = some (.tup (p.map V.str))
theorem TrialAt.keep {K : PySem.W.Frag} {H H' : Hp} {pz : Addr} {its : List Itm} {g : Int} {x ru tp : Addr} {p : List Str} {n : Nat} (h : TrialAt K H pz its g x ru tp p n) (k : ∀ b o, b = x ∨ b = ru ∨ b = tp → H b = some o → H' b = some o) : TrialAt K H' pz its g x ru tp p n := by
  obtain ⟨dx, dr, h1, h2, h3⟩ := h
  exact ⟨dx, dr, k _ _ (.inl rfl) h1, k _ _ (.inr (.inl rfl)) h2, k _ _ (.inr (.inr rfl)) h3⟩
section
variable {P : Program} {w : World} {K : PySem.W.Frag} {mg : Str → Option Value} {base : Heap}
abbrev N_Trial_init : List Str := ["self", "program", "puzzle", "given"]
theorem sc_Trial_init : FnScope N_Trial_init ["self", "program", "puzzle", "given"] (defScope s_Trial_init) := ⟨rfl, rfl, rfl, by decide +kernel, rfl, by decide +kernel, by decide +kernel⟩
def sp_Trial_init (K : PySem.W.Frag) : Sp := fun vs H Q _ => ∃ (x dx tp pz : Addr) (p : List Str) (its : List Itm) (g : Int), vs = [.ref x, .ref tp, .ref pz, .int g] ∧ H x = some (.ins (He.ga K "Trial") dx []) ∧ H tp = some (.tup (p.map V.str)) ∧ Pg p ∧ inBox g = true ∧
  ∀ H' ru, SameX x H H' → H ru = none → TrialAt K H' pz its g x ru tp p 0 → Q .non H'
theorem ok_Trial_init (T : TX w K mg) : FnX P w K mg base 6 ("Trial", some "__init__") ["self", "program", "puzzle", "given"] [] (sp_Trial_init K) := by
  refine FnX.of T.qd_Trial_init rfl sc_Trial_init (fun vs H Q E h => ?_) (fun _ _ _ _ _ _ us hl => match us, hl with | [_, _, _, _], _ => rfl) (fun cdv A outer s H vs Q E hr h => ?_)
  · obtain ⟨x, dx, tp, pz, p, its, g, rfl, _⟩ := h
    rfl
  · obtain ⟨x, dx, tp, pz, p, its, g, rfl, hx, ht, hp, hg, k⟩ := h
    have cT := T.cls "Trial"
    refine ⟨_, (pss_cons (ps_fld (pv 0) (pv 1) rfl)
  (pss_cons (ps_fld (pv 0) (pv 2) rfl)
  (pss_cons (ps_fld (pv 0) (pe_kx (T.mkr "Run") (ok_Run_init T) (hr.mono (by decide)) (by rfl) (T.g "Run") (pa_cons (pv 1) (pa_cons (pv 3) pa_nil))) rfl)
  (pss_cons (ps_fld (pv 0) pe_int rfl)
  (pss_cons (ps_fld (pv 0) pe_int rfl)
  (pss_one (ps_fld (pv 0) pe_non rfl))))))), ?_⟩
    refine ⟨_, rfl, _, rfl, x, _, dx, _, rfl, hx, cT, T.na "Trial" "program", by decide, ?_⟩
    refine ⟨_, rfl, _, rfl, x, _, dx, _, rfl, upd_same, cT, T.na "Trial" "puzzle", nf_Trial_1, ?_⟩
    have s1 : SameX x H (upd (upd H x (.ins (He.ga K "Trial") dx (putF "program" (.ref tp) []))) x (.ins (He.ga K "Trial") dx (putF "puzzle" (.ref pz) (putF "program" (.ref tp) [])))) := (SameX.refl x H).put.put
    have ntx : tp ≠ x := ne_of ht hx (by intro q; cases q)
    refine ⟨_, rfl, _, rfl, fun ru dr nru ndr ne => ?_⟩
    have nrx : ru ≠ x := fun q => by
      rw [q, upd_same] at nru
      cases nru
    have ndx : dr ≠ x := fun q => by
      rw [q, upd_same] at ndr
      cases ndr
    refine ⟨ru, dr, tp, p, g, rfl, upd_same, ?_, hp, hg, fun H1 s2 hru => ⟨rfl, ?_⟩⟩
    · exact Same.new' (Same.new ndr) (by rw [upd_ne (Ne.symm ne)]; exact nru) _ _ (s1 _ _ ntx ht)
    have hx1 := s2 x _ (Ne.symm nrx) (by rw [upd_ne (Ne.symm nrx), upd_ne (Ne.symm ndx), upd_same])
    have hnru : H ru = none := by
      rw [upd_ne nrx, upd_ne nrx] at nru
      exact nru
    have hndr : H dr = none := by
      rw [upd_ne ndx, upd_ne ndx] at ndr
      exact ndr
    have sx1 : SameX x H H1 := fun b o nb e => s2 b o (ne_of_none e hnru) (by
      rw [upd_ne (ne_of_none e hnru), upd_ne (ne_of_none e hndr), upd_ne nb, upd_ne nb]
      exact e)
    refine ⟨_, rfl, x, _, dx, _, rfl, hx1, cT, T.na "Trial" "running", nf_Trial_2, ?_⟩
    refine ⟨_, rfl, x, _, dx, _, rfl, upd_same, cT, T.na "Trial" "steps", nf_Trial_3, ?_⟩
    refine ⟨_, rfl, x, _, dx, _, rfl, upd_same, cT, T.na "Trial" "waits", nf_Trial_4, ?_⟩
    refine ⟨_, rfl, x, _, dx, _, rfl, upd_same, cT, T.na "Trial" "answer", nf_Trial_5, ?_⟩
    refine k _ ru (sx1.put.put.put.put) hnru ⟨dx, dr, ?_, ?_, ?_⟩
    · rw [upd_same, nw_Trial]
      rfl
    · rw [upd_ne nrx, upd_ne nrx, upd_ne nrx, upd_ne nrx, hru]
      rfl
    · rw [upd_ne ntx, upd_ne ntx, upd_ne ntx, upd_ne ntx]
      exact sx1 _ _ ntx ht
abbrev N_Trial_tried : List Str := ["self"]
theorem sc_Trial_tried : FnScope N_Trial_tried ["self"] (defScope s_Trial_tried) := ⟨rfl, rfl, rfl, by decide +kernel, rfl, by decide +kernel, by decide +kernel⟩
theorem trial_run {x y C D dx dy : Addr} {H : Hp} {v0 v1 v2 v3 v4 v5 u0 u1 u2 u3 u4 u5 u6 : V} (h1 : H x = some (.ins C dx (fTrial v0 v1 v2 v3 v4 v5))) (h2 : H y = some (.ins D dy (fRun u0 u1 u2 u3 u4 u5 u6))) : x ≠ y := by
  rintro rfl
  rw [h1] at h2
  injection h2 with h2
  injection h2 with _ _ h3
  have h4 := congrArg (fun l : List (Str × V) => l.length) h3
  exact absurd h4 (by show ¬ (6 = 7); decide)
theorem trial_pz {x y C D dx dy : Addr} {H : Hp} {v0 v1 v2 v3 v4 v5 u0 u1 u2 : V} (h1 : H x = some (.ins C dx (fTrial v0 v1 v2 v3 v4 v5))) (h2 : H y = some (.ins D dy (fPuzzle u0 u1 u2))) : y ≠ x := by
  rintro rfl
  rw [h1] at h2
  injection h2 with h2
  injection h2 with _ _ h3
  have h4 := congrArg (fun l : List (Str × V) => l.length) h3
  exact absurd h4 (by show ¬ (6 = 3); decide)
theorem run_pz {x y C D dx dy : Addr} {H : Hp} {u0 u1 u2 u3 u4 u5 u6 w0 w1 w2 : V} (h1 : H x = some (.ins C dx (fRun u0 u1 u2 u3 u4 u5 u6))) (h2 : H y = some (.ins D dy (fPuzzle w0 w1 w2))) : y ≠ x := by
  rintro rfl
  rw [h1] at h2
  injection h2 with h2
  injection h2 with _ _ h3
  have h4 := congrArg (fun l : List (Str × V) => l.length) h3
  exact absurd h4 (by show ¬ (7 = 3); decide)
def sp_Trial_tried (K : PySem.W.Frag) : Sp := fun vs H Q _ => ∃ (x ru tp pz : Addr) (p : List Str) (its : List Itm) (g : Int) (n : Nat), vs = [.ref x] ∧ TrialAt K H pz its g x ru tp p n ∧ PzAt K H pz its ∧ Chk its ∧ Pg p ∧ inBox g = true ∧
  ∀ H', (∀ b o, b ≠ x → b ≠ ru → H b = some o → H' b = some o) → TrialAt K H' pz its g x ru tp p (n + 1) → Q (.bl (fnd p its g (n + 1))) H'
theorem ok_Trial_tried (T : TX w K mg) : FnX P w K mg base 6 ("Trial", some "tried") ["self"] [] (sp_Trial_tried K) := by
  refine FnX.of T.qd_Trial_tried rfl sc_Trial_tried (fun vs H Q E h => ?_) (fun _ _ _ _ _ _ us hl => match us, hl with | [_], _ => rfl) (fun cdv A outer s H vs Q E hr h => ?_)
  · obtain ⟨x, ru, tp, pz, p, its, g, n, rfl, _⟩ := h
    rfl
  · obtain ⟨x, ru, tp, pz, p, its, g, n, rfl, ⟨dx, dr, hx, hru, ht⟩, hpz, hc, hp, hg, k⟩ := h
    have cT := T.cls "Trial"
    have hok := runT_ok (p := p) (its := its) hg n
    have nxr : x ≠ ru := trial_run hx hru
    have ntx : tp ≠ x := ne_of ht hx (by intro q; cases q)
    have ntr : tp ≠ ru := ne_of ht hru (by intro q; cases q)
    have hpz' : ∀ H', (∀ b o, b ≠ x → b ≠ ru → H b = some o → H' b = some o) → PzAt K H' pz its := fun H' s' => by
      obtain ⟨d1, t1, h1, h2⟩ := hpz
      exact ⟨d1, t1, s' _ _ (trial_pz hx h1) (run_pz hru h1) h1, s' _ _ (ne_of h2 hx (by intro q; cases q)) (ne_of h2 hru (by intro q; cases q)) h2⟩
    have hrun : runT p its g (n + 1) = (stepT p its g (runT p its g n)).1 := rfl
    have hfnd : fnd p its g (n + 1) = (stepT p its g (runT p its g n)).2 := rfl
    unfold TrialAt at k
    rw [hfnd] at k
    simp only [hrun] at k
    generalize runT p its g n = ts at hx hru hok k
    refine ⟨_, (pss_cons (ps_fld (pv 0) (pe_op op_add (pe_fld (pv 0) rfl) pe_int) rfl)
  (pss_cons (ps_if (pt_cmpR op_eq (pe_fld (pv 0) rfl) pe_int (nomark _)) (pss_cons (ps_fld (pv 0) (pe_mx0 (pe_fld (pv 0) rfl) (T.cls "Run") (T.meth "Run" "advance") (ok_Run_advance T) (hr.mono (by decide))) rfl)
  (pss_cons (ps_fld (pv 0) (pe_ifExp (pt_cmpR op_isN (pe_fld (pv 0) rfl) pe_non (nomark _)) pe_int (pe_fld (pe_fld (pv 0) rfl) rfl)) rfl)
  (pss_one (ps_ret pe_bl)))) pss_nil)
  (pss_cons (ps_fld (pv 0) (pe_op op_sub (pe_fld (pv 0) rfl) pe_int) rfl)
  (pss_one (ps_ret (pe_and (pe_cmpR op_eq (pe_fld (pv 0) rfl) pe_int (nomark _)) (pe_one (pe_fx (ok_right_for T) (hr.mono (by decide)) (by rfl) (T.g "right_for") (pa_cons (pe_fld (pv 0) rfl) (pa_cons (pe_fld (pe_fld (pv 0) rfl) rfl) (pa_cons (pe_fld (pv 0) rfl) pa_nil))))))))))), ?_⟩
    refine ⟨_, rfl, x, _, dx, _, _, rfl, hx, cT, T.na "Trial" "steps", lk_Trial_steps, _, _, rfl, rfl, _, rfl, x, _, dx, _, rfl, hx, cT, T.na "Trial" "steps", fw_Trial, ?_⟩
    rw [pt_Trial_steps]
    refine ⟨_, rfl, x, _, dx, _, _, rfl, upd_same, cT, T.na "Trial" "waits", lk_Trial_waits, rfl, _, rfl, ?_⟩
    have hru0 : ∀ o, upd H x o ru = some (.ins (He.ga K "Run") dr (runF tp g ts.run)) := fun o => by
      rw [upd_ne (Ne.symm nxr)]
      exact hru
    have ht0 : ∀ o, upd H x o tp = some (.tup (p.map V.str)) := fun o => by
      rw [upd_ne ntx]
      exact ht
    unfold stepT at k
    by_cases hw : ts.waits = 0
    · rw [if_pos hw] at k
      rw [decide_eq_true (show V.int (ts.waits : Int) = V.int 0 by rw [hw]; rfl)]
      refine iteT ⟨_, rfl, x, _, dx, _, _, rfl, upd_same, cT, T.na "Trial" "running", lk_Trial_running, ru, dr, _, rfl, hru0 _, no_Run_advance, ru, dr, tp, p, g, ts.run, rfl, hru0 _, ht0 _, hp.2, hok.run, fun H1 s1 hru1 => ?_⟩
      have hx1 := s1 _ _ nxr upd_same
      refine ⟨_, rfl, x, _, dx, _, rfl, hx1, cT, T.na "Trial" "answer", fw_Trial, ?_⟩
      rw [pt_Trial_answer]
      refine ⟨_, rfl, x, _, dx, _, _, rfl, upd_same, cT, T.na "Trial" "answer", lk_Trial_answer, rfl, _, rfl, ?_⟩
      have s2 : ∀ b o, b ≠ x → b ≠ ru → H b = some o → H1 b = some o := fun b o n1 n2 e => s1 b o n2 (by rw [upd_ne n1]; exact e)
      cases hs : (stepR p ts.run).2 with
      | none =>
        rw [hs] at k
        refine iteT ⟨_, rfl, x, _, dx, _, rfl, upd_same, cT, T.na "Trial" "waits", fw_Trial, ?_⟩
        rw [pt_Trial_waits]
        refine k _ (fun b o n1 n2 e => ?_) ⟨dx, dr, ?_, ?_, ?_⟩
        · rw [upd_ne n1, upd_ne n1]
          exact s2 b o n1 n2 e
        · rw [upd_same]
          rfl
        · rw [upd_ne (Ne.symm nxr), upd_ne (Ne.symm nxr)]
          exact hru1
        · rw [upd_ne ntx, upd_ne ntx]
          exact s2 _ _ ntx ntr ht
      | some a =>
        rw [hs] at k
        obtain ⟨d1, t1, hz1, hz2⟩ := hpz' H1 s2
        have nzx : pz ≠ x := trial_pz hx1 hz1
        have hzz := fun o : HO => (upd_ne (o := o) nzx).trans hz1
        refine iteF ⟨_, rfl, x, _, dx, _, _, rfl, upd_same, cT, T.na "Trial" "puzzle", lk_Trial_puzzle, pz, _, d1, _, _, rfl, hzz _, T.cls "Puzzle", T.na "Puzzle" "cost", lk_Puzzle_cost, ?_⟩
        refine ⟨_, rfl, x, _, dx, _, rfl, upd_same, cT, T.na "Trial" "waits", fw_Trial, ?_⟩
        rw [pt_Trial_waits]
        refine k _ (fun b o n1 n2 e => ?_) ⟨dx, dr, ?_, ?_, ?_⟩
        · rw [upd_ne n1, upd_ne n1]
          exact s2 b o n1 n2 e
        · rw [upd_same]
          rfl
        · rw [upd_ne (Ne.symm nxr), upd_ne (Ne.symm nxr)]
          exact hru1
        · rw [upd_ne ntx, upd_ne ntx]
          exact s2 _ _ ntx ntr ht
    · rw [if_neg hw] at k
      obtain ⟨a, ha, hab⟩ := hok.ans hw
      rw [decide_eq_false (show ¬ V.int (ts.waits : Int) = V.int 0 from fun q => hw (by have := V.int.inj q; omega))]
      refine iteF ⟨_, rfl, x, _, dx, _, _, rfl, upd_same, cT, T.na "Trial" "waits", lk_Trial_waits, _, _, rfl, rfl, _, rfl, x, _, dx, _, rfl, upd_same, cT, T.na "Trial" "waits", fw_Trial, ?_⟩
      rw [pt_Trial_waits]
      dsimp only
      rw [show (ts.waits : Int) - 1 = ((ts.waits - 1 : Nat) : Int) by omega]
      refine ⟨_, rfl, x, _, dx, _, _, rfl, upd_same, cT, T.na "Trial" "waits", lk_Trial_waits, rfl, ?_⟩
      rw [ha, Option.getD_some] at k
      have kk : ∀ H', (∀ b o, b ≠ x → b ≠ ru → H b = some o → H' b = some o) → H' x = some (.ins (He.ga K "Trial") dx (fTrial (.ref tp) (.ref pz) (.ref ru) (.int ((n + 1 : Nat) : Int)) (.int ((ts.waits - 1 : Nat) : Int)) (sayV (some a)))) → H' ru = some (.ins (He.ga K "Run") dr (runF tp g ts.run)) → H' tp = some (.tup (p.map V.str)) → Q (.bl (decide (ts.waits - 1 = 0) && rightM its g a)) H' :=
        fun H' h1 h2 h3 h4 => k H' h1 ⟨dx, dr, h2, h3, h4⟩
      rw [ha]
      have sA : ∀ (o : HO) b o', b ≠ x → b ≠ ru → H b = some o' → upd (upd H x (.ins (He.ga K "Trial") dx (fTrial (.ref tp) (.ref pz) (.ref ru) (.int ((n : Int) + 1)) (.int (ts.waits : Int)) (sayV (some a))))) x o b = some o' := fun o b o' n1 n2 e => by
        rw [upd_ne n1, upd_ne n1]
        exact e
      have hruA : ∀ (o o' : HO), upd (upd H x o) x o' ru = some (.ins (He.ga K "Run") dr (runF tp g ts.run)) := fun o o' => by
        rw [upd_ne (Ne.symm nxr), upd_ne (Ne.symm nxr)]
        exact hru
      by_cases h2 : ts.waits - 1 = 0
      · rw [decide_eq_true (show V.int ((ts.waits - 1 : Nat) : Int) = V.int 0 by rw [h2]; rfl)]
        rw [decide_eq_true h2, Bool.true_and] at kk
        refine ⟨_, rfl, iteT ⟨_, rfl, x, _, dx, _, _, rfl, upd_same, cT, T.na "Trial" "puzzle", lk_Trial_puzzle, _, rfl, x, _, dx, _, _, rfl, upd_same, cT, T.na "Trial" "running", lk_Trial_running, ru, _, dr, _, _, rfl, hruA _ _, T.cls "Run", T.na "Run" "given", lk_Run_given, _, rfl, x, _, dx, _, _, rfl, upd_same, cT, T.na "Trial" "answer", lk_Trial_answer, pz, its, g, a, rfl, hpz' _ (sA _), hc, hg, hab, fun H' s' => ?_⟩⟩
        refine kk _ (fun b o n1 n2 e => s' _ _ (sA _ b o n1 n2 e)) (s' _ _ (by rw [upd_same]; rfl)) (s' _ _ (hruA _ _)) (s' _ _ ?_)
        rw [upd_ne ntx, upd_ne ntx]
        exact ht
      · rw [decide_eq_false (show ¬ V.int ((ts.waits - 1 : Nat) : Int) = V.int 0 from fun q => h2 (by have := V.int.inj q; omega))]
        rw [decide_eq_false h2, Bool.false_and] at kk
        refine ⟨_, rfl, iteF (kk _ (sA _) (by rw [upd_same]; rfl) (hruA _ _) ?_)⟩
        rw [upd_ne ntx, upd_ne ntx]
        exact ht
end
end K53
end TK53U

section TK53V
set_option maxHeartbeats 4000000
namespace K53
open PySem PySem.Spec PyProof.Rows L2
/-! ### the order of dues, in plain numbers -/
structure RowsTo (ln : Str → Nat) (M : Nat) (r : List (List Str)) : Prop where
  nodup : r.Nodup
  mem : ∀ p, p ∈ r ↔ IsProg p ∧ plen ln p ≤ M
/-- the steps that are made of a program: all due up to D but one if it is pending -/
def stOf (ln : Str → Nat) (D : Nat) (pend : List (List Str)) (p : List Str) : Nat := D / 2 ^ plen ln p - (if p ∈ pend then 1 else 0)
def TickIs (ln : Str → Nat) (D : Nat) (pend : List (List Str)) (t : Nat) : Prop := ∀ M r, RowsTo ln M r → D < 2 ^ (M + 1) → t = (r.map (stOf ln D pend)).sum
/-- the steps due up to D -/
def dueSum (ln : Str → Nat) (D : Nat) (r : List (List Str)) : Nat := (r.map fun p => D / 2 ^ plen ln p).sum
structure MI (ln : Str → Nat) (F : List Str → Nat → Bool) (D : Nat) (pend : List (List Str)) (t : Nat) : Prop where
  dvd : 2 ^ ln endW ∣ D
  nd : pend.Nodup
  pp : ∀ p ∈ pend, IsProg p ∧ 2 ^ plen ln p ∣ D ∧ 0 < D
  tick : TickIs ln D pend t
  nof : ∀ p, IsProg p → ∀ n, 1 ≤ n → n ≤ stOf ln D pend p → F p n = false
  cnt : D / 2 ^ ln endW ≤ t + (if pend = [] then 0 else 1)
theorem sum_lt {α : Type} (f g : α → Nat) : ∀ (l : List α), (∀ x ∈ l, f x ≤ g x) → (∃ x ∈ l, f x < g x) → (l.map f).sum < (l.map g).sum
  | [], _, ⟨_, h, _⟩ => (List.not_mem_nil h).elim
  | x :: l, h, ⟨y, hy, hlt⟩ => by
    have h1 := sum_le_sum f g l fun y hy => h y (List.mem_cons_of_mem _ hy)
    have h2 := h x List.mem_cons_self
    simp only [List.map_cons, List.sum_cons]
    rcases List.mem_cons.mp hy with rfl | hy
    · omega
    · have := sum_lt f g l (fun y hy => h y (List.mem_cons_of_mem _ hy)) ⟨y, hy, hlt⟩
      omega
theorem sum_eq {α : Type} (f g : α → Nat) (l : List α) (h : ∀ x ∈ l, f x = g x) : (l.map f).sum = (l.map g).sum := by rw [List.map_congr_left h]
theorem sum_one {α : Type} [DecidableEq α] (q : α) (f : α → Nat) : ∀ (l : List α), l.Nodup → q ∈ l → (l.map fun p => f p + if p = q then 1 else 0).sum = (l.map f).sum + 1
  | [], _, h => (List.not_mem_nil h).elim
  | x :: l, nd, h => by
    rw [List.nodup_cons] at nd
    simp only [List.map_cons, List.sum_cons]
    by_cases e : x = q
    · subst e
      rw [if_pos rfl, sum_eq _ f l fun y hy => by rw [if_neg (fun z => nd.1 (by rw [← z]; exact hy)), Nat.add_zero]]
      omega
    · rw [if_neg e, sum_one q f l nd.2 ((List.mem_cons.mp h).resolve_left fun z => e z.symm)]
      omega
theorem succ_div (a b : Nat) (hb : 0 < b) : (a + 1) / b = a / b + if b ∣ a + 1 then 1 else 0 := by
  have e := Nat.div_add_mod a b
  have hlt := Nat.mod_lt a hb
  by_cases h : a % b + 1 = b
  · have e2 : a + 1 = b * (a / b + 1) := by rw [Nat.mul_add]; omega
    rw [if_pos ⟨_, e2⟩, e2, Nat.mul_div_cancel_left _ hb]
  · have e2 : a + 1 = b * (a / b) + (a % b + 1) := by omega
    have hn : ¬ b ∣ a + 1 := by
      intro hd
      rw [e2] at hd
      have hd2 := (Nat.dvd_add_right ⟨a / b, rfl⟩).mp hd
      have := Nat.le_of_dvd (by omega) hd2
      omega
    rw [if_neg hn]
    conv => lhs; rw [e2]
    rw [Nat.mul_add_div hb, Nat.div_eq_of_lt (a := a % b + 1) (by omega)]
theorem step_div {D l k : Nat} (h : 2 ^ l ∣ D) (hk : l ≤ k) : (D + 2 ^ l) / 2 ^ k = D / 2 ^ k + if 2 ^ k ∣ D + 2 ^ l then 1 else 0 := by
  obtain ⟨d, rfl⟩ := h
  obtain ⟨c, rfl⟩ : ∃ c, k = l + c := ⟨k - l, by omega⟩
  have hl : 0 < 2 ^ l := Nat.two_pow_pos l
  have e1 : 2 ^ l * d + 2 ^ l = 2 ^ l * (d + 1) := by rw [Nat.mul_add, Nat.mul_one]
  rw [e1, Nat.pow_add, Nat.mul_div_mul_left _ _ hl, Nat.mul_div_mul_left _ _ hl, succ_div _ _ (Nat.two_pow_pos c)]
  have e2 : (2 ^ l * 2 ^ c ∣ 2 ^ l * (d + 1)) ↔ 2 ^ c ∣ d + 1 := Nat.mul_dvd_mul_iff_left hl
  by_cases h : 2 ^ c ∣ d + 1
  · rw [if_pos h, if_pos (e2.mpr h)]
  · rw [if_neg h, if_neg fun z => h (e2.mp z)]
variable {ln : Str → Nat} {F : List Str → Nat → Bool} {D t : Nat} {pend : List (List Str)}
theorem plen_end (ln : Str → Nat) (p : List Str) : ln endW ≤ plen ln p := by unfold plen; omega
theorem MI.zero : MI ln F 0 [] 0 := by
  refine ⟨Nat.dvd_zero _, List.nodup_nil, fun p h => (List.not_mem_nil h).elim, fun M r h _ => ?_, fun p _ n h1 h2 => ?_, by rw [Nat.zero_div]; exact Nat.zero_le _⟩
  · rw [sum_eq _ (fun _ => 0) r fun p _ => by show 0 / _ - _ = 0; rw [Nat.zero_div, Nat.zero_sub]]
    clear h
    induction r with
    | nil => rfl
    | cons x r ih => rw [List.map_cons, List.sum_cons, ← ih]
  · have e : stOf ln 0 [] p = 0 := by show 0 / _ - _ = 0; rw [Nat.zero_div, Nat.zero_sub]
    omega
theorem stOf_fill {pend' : List (List Str)} (hd : 2 ^ ln endW ∣ D) (hp : ∀ p, p ∈ pend' ↔ IsProg p ∧ 2 ^ plen ln p ∣ D + 2 ^ ln endW) {p : List Str} (h : IsProg p) : stOf ln (D + 2 ^ ln endW) pend' p = D / 2 ^ plen ln p := by
  unfold stOf
  rw [step_div hd (plen_end ln p)]
  by_cases e : 2 ^ plen ln p ∣ D + 2 ^ ln endW
  · rw [if_pos e, if_pos ((hp p).mpr ⟨h, e⟩)]
    exact Nat.add_sub_cancel ..
  · rw [if_neg e, if_neg fun z => e ((hp p).mp z).2]
    exact Nat.sub_zero _
theorem stOf_nil (p : List Str) : stOf ln D [] p = D / 2 ^ plen ln p := by
  unfold stOf
  rw [if_neg List.not_mem_nil]
  exact Nat.sub_zero _
theorem MI.fill {pend' : List (List Str)} (h : MI ln F D [] t) (nd : pend'.Nodup) (hp : ∀ p, p ∈ pend' ↔ IsProg p ∧ 2 ^ plen ln p ∣ D + 2 ^ ln endW) : MI ln F (D + 2 ^ ln endW) pend' t := by
  have hpos : 0 < 2 ^ ln endW := Nat.two_pow_pos _
  refine ⟨?_, nd, fun p m => ⟨((hp p).mp m).1, ((hp p).mp m).2, by omega⟩, fun M r hr hD => ?_, fun p h1 n h2 h3 => ?_, ?_⟩
  · obtain ⟨d, hd⟩ := h.dvd
    exact ⟨d + 1, by rw [Nat.mul_add, ← hd, Nat.mul_one]⟩
  · rw [h.tick M r hr (by omega)]
    refine sum_eq _ _ r fun p m => ?_
    rw [stOf_fill h.dvd hp ((hr.mem p).mp m).1, stOf_nil]
  · rw [stOf_fill h.dvd hp h1] at h3
    exact h.nof p h1 n h2 (by rw [stOf_nil]; exact h3)
  · have hne : pend' ≠ [] := by
      have : ([] : List Str) ∈ pend' := by
        rw [hp]
        refine ⟨fun x hx => (List.not_mem_nil hx).elim, ?_⟩
        have e : plen ln [] = ln endW := by simp [plen]
        rw [e]
        obtain ⟨d, hd⟩ := h.dvd
        exact ⟨d + 1, by rw [Nat.mul_add, ← hd, Nat.mul_one]⟩
      intro q
      rw [q] at this
      exact List.not_mem_nil this
    have := h.cnt
    rw [if_pos rfl] at this
    rw [if_neg hne, Nat.add_div_right _ hpos]
    omega
theorem pred_div {D k : Nat} (hD : 0 < D) (p : List Str) : (D - 1) / 2 ^ k ≤ D / 2 ^ k - (if 2 ^ k ∣ D then 1 else 0) := by
  have e := succ_div (D - 1) (2 ^ k) (Nat.two_pow_pos k)
  rw [show D - 1 + 1 = D by omega] at e
  rw [e]
  omega
/-- what is made is at least what is due before D -/
theorem MI.low (h : MI ln F D pend t) (p : List Str) : (D - 1) / 2 ^ plen ln p ≤ stOf ln D pend p := by
  by_cases hD : 0 < D
  · refine Nat.le_trans (pred_div hD p) ?_
    unfold stOf
    by_cases m : p ∈ pend
    · rw [if_pos m, if_pos (h.pp p m).2.1]
      exact Nat.le_refl _
    · rw [if_neg m]
      omega
  · have : D = 0 := by omega
    subst this
    rw [Nat.zero_sub, Nat.zero_div]
    exact Nat.zero_le _
theorem MI.last {pend : List (List Str)} {q : List Str} (h : MI ln F D (pend ++ [q]) t) : IsProg q ∧ q ∉ pend ∧ 0 < D ∧ 1 ≤ D / 2 ^ plen ln q ∧ D / 2 ^ plen ln q * 2 ^ plen ln q = D ∧ stOf ln D (pend ++ [q]) q + 1 = D / 2 ^ plen ln q := by
  obtain ⟨h1, h2, h3⟩ := h.pp q (by simp)
  have hn : q ∉ pend := by
    have := h.nd
    rw [List.nodup_append] at this
    exact fun m => this.2.2 q m q (by simp) rfl
  have h4 : 1 ≤ D / 2 ^ plen ln q := Nat.div_pos (Nat.le_of_dvd h3 h2) (Nat.two_pow_pos _)
  refine ⟨h1, hn, h3, h4, Nat.div_mul_cancel h2, ?_⟩
  unfold stOf
  rw [if_pos (by simp)]
  omega
theorem stOf_pop {pend : List (List Str)} {q : List Str} (h : MI ln F D (pend ++ [q]) t) (p : List Str) : stOf ln D pend p = stOf ln D (pend ++ [q]) p + if p = q then 1 else 0 := by
  obtain ⟨h1, h2, h3, h4, h5, h6⟩ := h.last
  by_cases e : p = q
  · subst e
    rw [if_pos rfl, h6]
    unfold stOf
    rw [if_neg h2]
    omega
  · rw [if_neg e]
    unfold stOf
    have : p ∈ pend ++ [q] ↔ p ∈ pend := by simp [e]
    by_cases m : p ∈ pend
    · rw [if_pos m, if_pos (this.mpr m)]
      omega
    · rw [if_neg m, if_neg fun z => m (this.mp z)]
      omega
theorem MI.pop {pend : List (List Str)} {q : List Str} (h : MI ln F D (pend ++ [q]) t) (hf : F q (D / 2 ^ plen ln q) = false) : MI ln F D pend (t + 1) := by
  obtain ⟨h1, h2, h3, h4, h5, h6⟩ := h.last
  refine ⟨h.dvd, (List.nodup_append.mp h.nd).1, fun p m => h.pp p (by simp [m]), fun M r hr hD => ?_, fun p k1 n k2 k3 => ?_, ?_⟩
  · rw [h.tick M r hr hD, sum_eq _ _ r fun p _ => stOf_pop h p]
    refine (sum_one q _ r hr.nodup ?_).symm
    rw [hr.mem]
    refine ⟨h1, ?_⟩
    have : 2 ^ plen ln q ≤ D := Nat.le_of_dvd h3 (h.pp q (by simp)).2.1
    have := (Nat.pow_lt_pow_iff_right (a := 2) (by decide)).mp (Nat.lt_of_le_of_lt this hD)
    omega
  · rw [stOf_pop h p] at k3
    by_cases e : p = q
    · subst e
      rw [if_pos rfl, h6] at k3
      by_cases e2 : n = D / 2 ^ plen ln p
      · rw [e2]; exact hf
      · exact h.nof p k1 n k2 (by omega)
    · rw [if_neg e] at k3
      exact h.nof p k1 n k2 k3
  · have := h.cnt
    rw [if_neg (by simp)] at this
    omega
/-- the bounds of the tick of the last pending step -/
theorem MI.found {pend : List (List Str)} {q : List Str} (h : MI ln F D (pend ++ [q]) t) {M : Nat} {r : List (List Str)} (hr : RowsTo ln M r) (hD : D < 2 ^ (M + 1)) : dueSum ln (D - 1) r < t + 1 ∧ t + 1 ≤ dueSum ln D r := by
  obtain ⟨h1, h2, h3, h4, h5, h6⟩ := h.last
  have hq : q ∈ r := by
    rw [hr.mem]
    refine ⟨h1, ?_⟩
    have : 2 ^ plen ln q ≤ D := Nat.le_of_dvd h3 (h.pp q (by simp)).2.1
    have := (Nat.pow_lt_pow_iff_right (a := 2) (by decide)).mp (Nat.lt_of_le_of_lt this hD)
    omega
  have e := h.tick M r hr hD
  constructor
  · have := sum_le_sum (fun p => (D - 1) / 2 ^ plen ln p) (stOf ln D (pend ++ [q])) r fun p _ => h.low p
    unfold dueSum
    omega
  · have := sum_lt (stOf ln D (pend ++ [q])) (fun p => D / 2 ^ plen ln p) r (fun p _ => Nat.sub_le _ _) ⟨q, hq, by omega⟩
    unfold dueSum
    omega
theorem MI.least (h : MI ln F D pend t) {p : List Str} {n : Nat} (hp : IsProg p) (hn : 1 ≤ n) (hf : F p n = true) : D ≤ n * 2 ^ plen ln p := by
  by_cases hlt : D ≤ n * 2 ^ plen ln p
  · exact hlt
  · have h1 : n ≤ (D - 1) / 2 ^ plen ln p := by
      rw [Nat.le_div_iff_mul_le (Nat.two_pow_pos _)]
      omega
    have := h.nof p hp n hn (Nat.le_trans h1 (h.low p))
    rw [this] at hf
    cases hf
theorem MI.end (h : MI ln F D pend t) {p : List Str} {n : Nat} (hp : IsProg p) (hn : 1 ≤ n) (hf : F p n = true) {M : Nat} {r : List (List Str)} (hr : RowsTo ln M r) (hD : n * 2 ^ plen ln p < 2 ^ (M + 1)) : t < dueSum ln (n * 2 ^ plen ln p) r := by
  have hle := h.least hp hn hf
  rw [h.tick M r hr (by omega)]
  refine sum_lt _ _ r (fun q _ => Nat.le_trans (Nat.sub_le _ _) (Nat.div_le_div_right hle)) ⟨p, ?_, ?_⟩
  · rw [hr.mem]
    refine ⟨hp, ?_⟩
    have : 2 ^ plen ln p ≤ n * 2 ^ plen ln p := Nat.le_mul_of_pos_left _ hn
    have := (Nat.pow_lt_pow_iff_right (a := 2) (by decide)).mp (Nat.lt_of_le_of_lt this hD)
    omega
  · rw [Nat.mul_div_cancel _ (Nat.two_pow_pos _)]
    by_cases hc : stOf ln D pend p < n
    · exact hc
    · have := h.nof p hp n hn (by omega)
      rw [this] at hf
      cases hf
end K53
end TK53V

section TK53W
set_option maxHeartbeats 4000000

namespace K53
open PySem PySem.Spec PyProof.Rows L2
/-! ### the throng -/
structure TR where
  a : Addr
  ru : Addr
  tp : Addr
  p : List Str
structure Lot where
  t : Addr
  l : Addr
  trs : List TR
def allT (lots : List Lot) : List TR := lots.flatMap (·.trs)
def rT (t : TR) : V := .ref t.a
def selL (D : Nat) : Nat → List Lot → List Lot
  | _, [] => []
  | k, o :: r => if 2 ^ k ∣ D then o :: selL D (k + 1) r else selL D (k + 1) r
theorem selL_app (D : Nat) : ∀ (k : Nat) (u v : List Lot), selL D k (u ++ v) = selL D k u ++ selL D (k + u.length) v
  | _, [], _ => rfl
  | k, o :: r, v => by
    show (if 2 ^ k ∣ D then o :: selL D (k + 1) (r ++ v) else selL D (k + 1) (r ++ v)) = (if 2 ^ k ∣ D then o :: selL D (k + 1) r else selL D (k + 1) r) ++ _
    rw [selL_app D (k + 1) r v, show k + 1 + r.length = k + (o :: r).length by rw [List.length_cons]; omega]
    by_cases h : 2 ^ k ∣ D
    · rw [if_pos h, if_pos h]; rfl
    · rw [if_neg h, if_neg h]
theorem selL_step {D k i : Nat} {lots : List Lot} {o : Lot} (h : lots[i]? = some o) : selL D k (lots.take (i + 1)) = selL D k (lots.take i) ++ if 2 ^ (k + i) ∣ D then [o] else [] := by
  obtain ⟨hi, rfl⟩ := List.getElem?_eq_some_iff.mp h
  rw [List.take_succ_eq_append_getElem hi, selL_app, List.length_take, Nat.min_eq_left (by omega)]
  show _ ++ (if 2 ^ (k + i) ∣ D then lots[i] :: [] else []) = _
  rfl
theorem selL_sub {D : Nat} {t : TR} : ∀ {k : Nat} {lots : List Lot}, t ∈ (selL D k lots).flatMap (·.trs) → t ∈ allT lots
  | _, [], h => h
  | k, o :: r, h => by
    unfold allT
    rw [List.flatMap_cons, List.mem_append]
    have h' : t ∈ (if 2 ^ k ∣ D then o :: selL D (k + 1) r else selL D (k + 1) r).flatMap (·.trs) := h
    by_cases e : 2 ^ k ∣ D
    · rw [if_pos e, List.flatMap_cons, List.mem_append] at h'
      exact h'.imp id fun z => selL_sub z
    · rw [if_neg e] at h'
      exact .inr (selL_sub h')
def Rows (ln : Str → Nat) (k : Nat) (lots : List Lot) : Prop := ∀ (i : Nat) (o : Lot), lots[i]? = some o → RowIs ln (k + i) (o.trs.map (·.p))
theorem Rows.tail {ln : Str → Nat} {k : Nat} {o : Lot} {r : List Lot} (h : Rows ln k (o :: r)) : Rows ln (k + 1) r := fun i q hq => by
  have := h (i + 1) q (by simpa using hq)
  rwa [show k + (i + 1) = k + 1 + i by omega] at this
theorem Rows.head {ln : Str → Nat} {k : Nat} {o : Lot} {r : List Lot} (h : Rows ln k (o :: r)) : RowIs ln k (o.trs.map (·.p)) := h 0 o rfl
theorem selL_mem {ln : Str → Nat} {D : Nat} {p : List Str} : ∀ {k : Nat} {lots : List Lot}, Rows ln k lots → (p ∈ ((selL D k lots).flatMap (·.trs)).map (·.p) ↔ IsProg p ∧ k ≤ plen ln p ∧ plen ln p < k + lots.length ∧ 2 ^ plen ln p ∣ D)
  | k, [], _ => by
    show p ∈ [] ↔ _
    simp only [List.not_mem_nil, List.length_nil, false_iff]
    rintro ⟨_, h1, h2, _⟩
    omega
  | k, o :: r, h => by
    have ih := selL_mem (D := D) (p := p) h.tail
    have hm := h.head.mem p
    show p ∈ ((if 2 ^ k ∣ D then o :: selL D (k + 1) r else selL D (k + 1) r).flatMap (·.trs)).map (·.p) ↔ _
    by_cases e : 2 ^ k ∣ D
    · rw [if_pos e, List.flatMap_cons, List.map_append, List.mem_append, hm, ih, List.length_cons]
      constructor
      · rintro (⟨h1, h2⟩ | ⟨h1, h2, h3, h4⟩)
        · exact ⟨h1, by omega, by omega, by rw [h2]; exact e⟩
        · exact ⟨h1, by omega, by omega, h4⟩
      · rintro ⟨h1, h2, h3, h4⟩
        by_cases e2 : plen ln p = k
        · exact .inl ⟨h1, e2⟩
        · exact .inr ⟨h1, by omega, by omega, h4⟩
    · rw [if_neg e, ih, List.length_cons]
      constructor
      · rintro ⟨h1, h2, h3, h4⟩
        exact ⟨h1, by omega, by omega, h4⟩
      · rintro ⟨h1, h2, h3, h4⟩
        refine ⟨h1, ?_, by omega, h4⟩
        rcases Nat.eq_or_lt_of_le h2 with h5 | h5
        · rw [← h5] at h4
          exact absurd h4 e
        · exact h5
theorem selL_nodup {ln : Str → Nat} {D : Nat} : ∀ {k : Nat} {lots : List Lot}, Rows ln k lots → (((selL D k lots).flatMap (·.trs)).map (·.p)).Nodup
  | k, [], _ => List.nodup_nil
  | k, o :: r, h => by
    have ih := selL_nodup (D := D) h.tail
    show (((if 2 ^ k ∣ D then o :: selL D (k + 1) r else selL D (k + 1) r).flatMap (·.trs)).map (·.p)).Nodup
    by_cases e : 2 ^ k ∣ D
    · rw [if_pos e, List.flatMap_cons, List.map_append, List.nodup_append]
      refine ⟨h.head.nodup, ih, fun p hp q hq e2 => ?_⟩
      subst e2
      have h1 := (h.head.mem p).mp hp
      have h2 := (selL_mem h.tail).mp hq
      omega
    · rw [if_neg e]
      exact ih
structure Thr (K : PySem.W.Frag) (H0 H : Hp) (x tg pz dx b w : Addr) (ns : List Str) (its : List Itm) (g : Int) (D : Nat) (lots : List Lot) (pend : List TR) : Prop where
  same : Same H0 H
  nx : H0 x = none
  nb : H0 b = none
  nw : H0 w = none
  bw : b ≠ w
  hx : H x = some (.ins (He.ga K "Throng") dx (fThrong (.ref tg) (.ref pz) (.int g) (.int (lnOf ns endW : Nat)) (.int (D : Nat)) (.ref b) (.ref w)))
  hb : H b = some (.lst (lots.map fun o => V.ref o.t))
  hw : H w = some (.lst (pend.map rT))
  lot : ∀ (i : Nat) (o : Lot), lots[i]? = some o → H o.t = some (.tup [.int (2 ^ (lnOf ns endW + i) : Nat), .ref o.l]) ∧ H o.l = some (.lst (o.trs.map rT)) ∧ o.l ≠ b ∧ o.l ≠ w
  rows : Rows (lnOf ns) (lnOf ns endW) lots
  tr : ∀ t ∈ allT lots, TrialAt K H pz its g t.a t.ru t.tp t.p (stOf (lnOf ns) D (pend.map (·.p)) t.p) ∧ H0 t.a = none ∧ H0 t.ru = none
  apart : (allT lots).Pairwise fun s t => s.a ≠ t.a ∧ s.ru ≠ t.ru
  pin : ∀ t ∈ pend, t ∈ allT lots
  hi : D < 2 ^ (lnOf ns endW + lots.length)
  lo : (D = 0 ∧ lots = []) ∨ 2 ^ (lnOf ns endW + lots.length) ≤ 2 * D
  bd : D < 2 ^ 23
section
variable {P : Program} {w : World} {K : PySem.W.Frag} {mg : Str → Option Value} {base : Heap}
abbrev N_Throng_init : List Str := ["self", "tongue", "puzzle", "given"]
theorem sc_Throng_init : FnScope N_Throng_init ["self", "tongue", "puzzle", "given"] (defScope s_Throng_init) := ⟨rfl, rfl, rfl, by decide +kernel, rfl, by decide +kernel, by decide +kernel⟩
def sp_Throng_init (K : PySem.W.Frag) : Sp := fun vs H Q _ => ∃ (x dx tg pz : Addr) (ns : List Str) (its : List Itm) (g : Int), vs = [.ref x, .ref tg, .ref pz, .int g] ∧ H x = some (.ins (He.ga K "Throng") dx []) ∧ TongueAt K H tg ns ∧ TgOk ns ∧
  ∀ H' b w, SameX x H H' → H' x = some (.ins (He.ga K "Throng") dx (fThrong (.ref tg) (.ref pz) (.int g) (.int (lnOf ns endW : Nat)) (.int (0 : Nat)) (.ref b) (.ref w))) → H' b = some (.lst []) → H' w = some (.lst []) → b ≠ w → H b = none → H w = none → Q .non H'
theorem ok_Throng_init (T : TX w K mg) : FnX P w K mg base 1 ("Throng", some "__init__") ["self", "tongue", "puzzle", "given"] [] (sp_Throng_init K) := by
  refine FnX.of T.qd_Throng_init rfl sc_Throng_init (fun vs H Q E h => ?_) (fun _ _ _ _ _ _ us hl => match us, hl with | [_, _, _, _], _ => rfl) (fun cdv A outer s H vs Q E hr h => ?_)
  · obtain ⟨x, dx, tg, pz, ns, its, g, rfl, _⟩ := h
    rfl
  · obtain ⟨x, dx, tg, pz, ns, its, g, rfl, hx, htg, hok, k⟩ := h
    have cT := T.cls "Throng"
    refine ⟨_, (pss_cons (ps_fld (pv 0) (pv 1) rfl)
  (pss_cons (ps_fld (pv 0) (pv 2) rfl)
  (pss_cons (ps_fld (pv 0) (pv 3) rfl)
  (pss_cons (ps_fld (pv 0) (pe_callB call_len_str (by rfl) (T.f "len") PySem.boot_len (pa_cons (pe_ix ix_tup (pe_fld (pv 1) rfl) (pe_un un_neg pe_int) (fun _ _ => rfl)) pa_nil)) rfl)
  (pss_cons (ps_fld (pv 0) pe_int rfl)
  (pss_cons (ps_fld (pv 0) (pe_lst pa_nil) rfl)
  (pss_one (ps_fld (pv 0) (pe_lst pa_nil) rfl)))))))), ?_⟩
    refine ⟨_, rfl, _, rfl, x, _, dx, _, rfl, hx, cT, T.na "Throng" "tongue", by decide, ?_⟩
    refine ⟨_, rfl, _, rfl, x, _, dx, _, rfl, upd_same, cT, T.na "Throng" "puzzle", nf_Throng_1, ?_⟩
    refine ⟨_, rfl, _, rfl, x, _, dx, _, rfl, upd_same, cT, T.na "Throng" "given", nf_Throng_2, ?_⟩
    obtain ⟨dt, t, h1, h2⟩ := htg
    have n1 : tg ≠ x := by
      rintro rfl
      rw [hx] at h1
      injection h1 with h1
      injection h1 with _ _ h3
      cases h3
    have n2 : t ≠ x := ne_of h2 hx (by intro q; cases q)
    have h7 : ns[7]? = some (ns[7]'(by rw [hok.len]; decide)) := List.getElem?_eq_getElem _
    have hln := lnOf_at (w := endW) h7 (by decide +kernel)
    have hsz : (ns[7]'(by rw [hok.len]; decide)).length ≤ sizeLine := size24 (by have := (hok.nm _ (List.mem_of_getElem? h7)).2.2; omega)
    have hat : atI (ns.map V.str) (-(1 : Int)) = some (V.str (ns[7]'(by rw [hok.len]; decide))) := by
      have e : ns.map V.str = (ns.take 7).map V.str ++ [V.str (ns[7]'(by rw [hok.len]; decide))] := by
        have e2 : ns = ns.take 7 ++ [ns[7]'(by rw [hok.len]; decide)] := by
          conv => lhs; rw [← List.take_of_length_le (i := 8) (Nat.le_of_eq hok.len)]
          exact List.take_succ_eq_append_getElem (by rw [hok.len]; decide)
        conv => lhs; rw [e2]
        rw [List.map_append]
        rfl
      rw [e]
      exact atI_last _ _
    generalize ns[7]'(by rw [hok.len]; decide) = e7 at hln hsz hat
    have up3 : ∀ (a : Addr) (o o1 o2 o3 : HO), a ≠ x → H a = some o → upd (upd (upd H x o1) x o2) x o3 a = some o := fun a o o1 o2 o3 n e => by
      rw [upd_ne n, upd_ne n, upd_ne n]
      exact e
    refine ⟨_, rfl, _, _, dt, _, _, rfl, up3 _ _ _ _ _ n1 h1, T.cls "Tongue", T.na "Tongue" "names", lk_Tongue_names, 1, rfl, t, _, _, _, rfl, rfl, SqT.of (up3 _ _ _ _ _ n2 h2), hat, e7, rfl, hsz, ?_⟩
    rw [← hln]
    refine ⟨_, rfl, x, _, dx, _, rfl, upd_same, cT, T.na "Throng" "least", nf_Throng_3, ?_⟩
    refine ⟨_, rfl, x, _, dx, _, rfl, upd_same, cT, T.na "Throng" "due", nf_Throng_4, ?_⟩
    refine ⟨Nat.zero_le _, fun b nb => ?_⟩
    have nbx : b ≠ x := fun q => by
      rw [q, upd_same] at nb
      cases nb
    refine ⟨_, rfl, x, _, dx, _, rfl, (by rw [upd_ne (Ne.symm nbx), upd_same]), cT, T.na "Throng" "begun", nf_Throng_5, ?_⟩
    refine ⟨Nat.zero_le _, fun w nw => ?_⟩
    have nwx : w ≠ x := fun q => by
      rw [q, upd_same] at nw
      cases nw
    have nbw : b ≠ w := fun q => by
      rw [← q, upd_ne nbx, upd_same] at nw
      cases nw
    refine ⟨_, rfl, x, _, dx, _, rfl, (by rw [upd_ne (Ne.symm nwx), upd_same]), cT, T.na "Throng" "waiting", nf_Throng_6, ?_⟩
    have hbn : H b = none := by
      rw [upd_ne nbx, upd_ne nbx, upd_ne nbx, upd_ne nbx, upd_ne nbx] at nb
      exact nb
    have hwn : H w = none := by
      rw [upd_ne nwx, upd_ne (Ne.symm nbw), upd_ne nwx, upd_ne nwx, upd_ne nwx, upd_ne nwx, upd_ne nwx] at nw
      exact nw
    refine k _ b w (((((SameX.refl x H).put.put.put.put.put.trans (SameX.new nb)).put).trans (SameX.new nw)).put) ?_ ?_ ?_ nbw hbn hwn
    · rw [upd_same, nw_Throng]
      rfl
    · rw [upd_ne nbx, upd_ne nbw, upd_ne nbx, upd_same]
    · rw [upd_ne nwx, upd_same]
end
end K53
end TK53W

section TK53X
set_option maxHeartbeats 4000000

namespace K53
open PySem PySem.Spec PyProof.Rows L2
structure Mid (K : PySem.W.Frag) (H0 H : Hp) (x tg pz dx b wl : Addr) (ns : List Str) (its : List Itm) (g : Int) (D D' : Nat) (lots : List Lot) : Prop where
  same : Same H0 H
  nx : H0 x = none
  nb : H0 b = none
  hx : H x = some (.ins (He.ga K "Throng") dx (fThrong (.ref tg) (.ref pz) (.int g) (.int (lnOf ns endW : Nat)) (.int (D' : Nat)) (.ref b) (.ref wl)))
  hb : H b = some (.lst (lots.map fun o => V.ref o.t))
  lot : ∀ (i : Nat) (o : Lot), lots[i]? = some o → H o.t = some (.tup [.int (2 ^ (lnOf ns endW + i) : Nat), .ref o.l]) ∧ H o.l = some (.lst (o.trs.map rT)) ∧ o.l ≠ b
  rows : Rows (lnOf ns) (lnOf ns endW) lots
  tr : ∀ t ∈ allT lots, TrialAt K H pz its g t.a t.ru t.tp t.p (D / 2 ^ plen (lnOf ns) t.p) ∧ H0 t.a = none ∧ H0 t.ru = none
  apart : (allT lots).Pairwise fun s t => s.a ≠ t.a ∧ s.ru ≠ t.ru
  hi : D' < 2 ^ (lnOf ns endW + lots.length)
  lo : 2 ^ (lnOf ns endW + lots.length) ≤ 2 * D'
theorem TrialAt.same {K : PySem.W.Frag} {H H' : Hp} {pz : Addr} {its : List Itm} {g : Int} {x ru tp : Addr} {p : List Str} {n : Nat} (h : TrialAt K H pz its g x ru tp p n) (s : Same H H') : TrialAt K H' pz its g x ru tp p n := h.keep fun b o _ e => s b o e
/-- a list or another kind of object is changed, no trial is -/
theorem TrialAt.putL {K : PySem.W.Frag} {H : Hp} {pz : Addr} {its : List Itm} {g : Int} {x ru tp b : Addr} {p : List Str} {n : Nat} {xs ys : List V} (h : TrialAt K H pz its g x ru tp p n) (hb : H b = some (.lst xs)) : TrialAt K (upd H b (.lst ys)) pz its g x ru tp p n := by
  obtain ⟨dx, dr, h1, h2, h3⟩ := h
  refine ⟨dx, dr, ?_, ?_, ?_⟩
  · rw [upd_ne (ne_of h1 hb (by intro q; cases q))]; exact h1
  · rw [upd_ne (ne_of h2 hb (by intro q; cases q))]; exact h2
  · rw [upd_ne (ne_of h3 hb (by intro q; cases q))]; exact h3
theorem throng_ne {x y C D dx dy : Addr} {H : Hp} {v0 v1 v2 v3 v4 v5 v6 : V} {fs : List (Str × V)} (h1 : H x = some (.ins C dx (fThrong v0 v1 v2 v3 v4 v5 v6))) (h2 : H y = some (.ins D dy fs)) (hn : fs.length ≠ 7 ∨ fs.lookup ("tongue" : Str) = none) : y ≠ x := by
  rintro rfl
  rw [h1] at h2
  injection h2 with h2
  injection h2 with _ _ h3
  rcases hn with h | h
  · exact h (by rw [← h3]; rfl)
  · rw [← h3, lk_Throng_tongue] at h
    cases h
/-- the throng itself is changed, no trial is -/
theorem TrialAt.putX {K : PySem.W.Frag} {H : Hp} {pz : Addr} {its : List Itm} {g : Int} {x ru tp y C dy : Addr} {p : List Str} {n : Nat} {v0 v1 v2 v3 v4 v5 v6 : V} {o : HO} (h : TrialAt K H pz its g x ru tp p n) (hy : H y = some (.ins C dy (fThrong v0 v1 v2 v3 v4 v5 v6))) : TrialAt K (upd H y o) pz its g x ru tp p n := by
  obtain ⟨dx, dr, h1, h2, h3⟩ := h
  refine ⟨dx, dr, ?_, ?_, ?_⟩
  · rw [upd_ne (throng_ne hy h1 (.inl (by show 6 ≠ 7; decide)))]; exact h1
  · rw [upd_ne (throng_ne hy h2 (.inr (by unfold runF; kernel_rfl)))]; exact h2
  · rw [upd_ne (ne_of h3 hy (by intro q; cases q))]; exact h3
theorem Mid.same' {K : PySem.W.Frag} {H0 H H' : Hp} {x tg pz dx b wl : Addr} {ns : List Str} {its : List Itm} {g : Int} {D D' : Nat} {lots : List Lot} (h : Mid K H0 H x tg pz dx b wl ns its g D D' lots) (s : Same H H') : Mid K H0 H' x tg pz dx b wl ns its g D D' lots :=
  ⟨h.same.trans s, h.nx, h.nb, s _ _ h.hx, s _ _ h.hb, fun i o e => ⟨s _ _ (h.lot i o e).1, s _ _ (h.lot i o e).2.1, (h.lot i o e).2.2⟩, h.rows, fun t m => ⟨(h.tr t m).1.same s, (h.tr t m).2⟩, h.apart, h.hi, h.lo⟩
theorem Thr.same' {K : PySem.W.Frag} {H0 H H' : Hp} {x tg pz dx b wl : Addr} {ns : List Str} {its : List Itm} {g : Int} {D : Nat} {lots : List Lot} {pend : List TR} (h : Thr K H0 H x tg pz dx b wl ns its g D lots pend) (s : Same H H') : Thr K H0 H' x tg pz dx b wl ns its g D lots pend :=
  ⟨h.same.trans s, h.nx, h.nb, h.nw, h.bw, s _ _ h.hx, s _ _ h.hb, s _ _ h.hw, fun i o e => ⟨s _ _ (h.lot i o e).1, s _ _ (h.lot i o e).2.1, (h.lot i o e).2.2⟩, h.rows, fun t m => ⟨(h.tr t m).1.same s, (h.tr t m).2⟩, h.apart, h.pin, h.hi, h.lo, h.bd⟩
/-- the numbers of a fill -/
theorem fill_nums {l D t m : Nat} (hl : 1 ≤ l ∧ l ≤ 8) (hd : 2 ^ l ∣ D) (hc : D / 2 ^ l ≤ t) (ht : t < 20000) (hi : D < 2 ^ (l + m)) : D + 2 ^ l < 2 ^ 23 ∧ D + 2 ^ l ≤ 2 ^ (l + m) := by
  obtain ⟨q, rfl⟩ := hd
  have hp : 0 < 2 ^ l := Nat.two_pow_pos l
  rw [Nat.mul_div_cancel_left _ hp] at hc
  have h256 : 2 ^ l ≤ 2 ^ 8 := Nat.pow_le_pow_right (by decide) hl.2
  have e : 2 ^ l * q + 2 ^ l = 2 ^ l * (q + 1) := by rw [Nat.mul_add, Nat.mul_one]
  rw [e]
  constructor
  · have h1 : 2 ^ l * (q + 1) ≤ 2 ^ 8 * 20000 := Nat.mul_le_mul h256 (by omega)
    have h2 : 2 ^ 8 * 20000 < 2 ^ 23 := by decide
    omega
  · rw [Nat.pow_add] at hi ⊢
    have := Nat.lt_of_mul_lt_mul_left hi
    exact Nat.mul_le_mul_left _ this
theorem exp_lt {a b : Nat} (h : 2 ^ a < 2 ^ b) : a < b := (Nat.pow_lt_pow_iff_right (a := 2) (by decide)).mp h
theorem allT_app (u v : List Lot) : allT (u ++ v) = allT u ++ allT v := List.flatMap_append
/-- a lot is added -/
theorem Mid.add {K : PySem.W.Frag} {H0 H : Hp} {x tg pz dx b wl p l : Addr} {ns : List Str} {its : List Itm} {g : Int} {D : Nat} {lots : List Lot} {trs : List TR} {D' : Nat}
    (same : Same H0 H) (nx : H0 x = none) (nb : H0 b = none) (hx : H x = some (.ins (He.ga K "Throng") dx (fThrong (.ref tg) (.ref pz) (.int g) (.int (lnOf ns endW : Nat)) (.int (D' : Nat)) (.ref b) (.ref wl))))
    (hb : H b = some (.lst (lots.map fun o => V.ref o.t))) (lot : ∀ (i : Nat) (o : Lot), lots[i]? = some o → H o.t = some (.tup [.int (2 ^ (lnOf ns endW + i) : Nat), .ref o.l]) ∧ H o.l = some (.lst (o.trs.map rT)) ∧ o.l ≠ b)
    (rows : Rows (lnOf ns) (lnOf ns endW) lots) (tr : ∀ t ∈ allT lots, TrialAt K H pz its g t.a t.ru t.tp t.p (D / 2 ^ plen (lnOf ns) t.p) ∧ H0 t.a = none ∧ H0 t.ru = none)
    (apart : (allT lots).Pairwise fun s t => s.a ≠ t.a ∧ s.ru ≠ t.ru) (hD : D < 2 ^ (lnOf ns endW + lots.length)) (hD' : D' = 2 ^ (lnOf ns endW + lots.length))
    (hp : H p = some (.tup [.int (2 ^ (lnOf ns endW + lots.length) : Nat), .ref l])) (hl : H l = some (.lst (trs.map rT))) (hlb : l ≠ b) (hr : RowIs (lnOf ns) (lnOf ns endW + lots.length) (trs.map (·.p)))
    (htr : ∀ t ∈ trs, TrialAt K H pz its g t.a t.ru t.tp t.p 0 ∧ H0 t.a = none ∧ H0 t.ru = none ∧ ∀ s ∈ allT lots, s.a ≠ t.a ∧ s.ru ≠ t.ru) (hap : trs.Pairwise fun s t => s.a ≠ t.a ∧ s.ru ≠ t.ru) :
    Mid K H0 (upd H b (.lst ((lots ++ [Lot.mk p l trs]).map fun o => V.ref o.t))) x tg pz dx b wl ns its g D D' (lots ++ [Lot.mk p l trs]) := by
  have nxb : x ≠ b := ne_of hx hb (by intro q; cases q)
  have e1 : allT (lots ++ [Lot.mk p l trs]) = allT lots ++ trs := by rw [allT_app]; show _ ++ (trs ++ []) = _; rw [List.append_nil]
  have hg : ∀ (i : Nat) (o : Lot), (lots ++ [Lot.mk p l trs])[i]? = some o → lots[i]? = some o ∨ (i = lots.length ∧ o = Lot.mk p l trs) := fun i o h => by
    rcases Nat.lt_trichotomy i lots.length with h1 | h1 | h1
    · rw [List.getElem?_append_left h1] at h
      exact .inl h
    · subst h1
      refine .inr ⟨rfl, ?_⟩
      have : (some (Lot.mk p l trs)) = some o := by simpa using h
      exact (Option.some.inj this).symm
    · rw [List.getElem?_eq_none (by rw [List.length_append]; show lots.length + 1 ≤ i; omega)] at h
      cases h
  refine ⟨same.mut nb, nx, nb, ?_, upd_same, fun i o h => ?_, fun i o h => ?_, fun t m => ?_, ?_, ?_, ?_⟩
  · rw [upd_ne nxb]; exact hx
  · rcases hg i o h with h | ⟨rfl, rfl⟩
    · obtain ⟨l1, l2, l3⟩ := lot i o h
      refine ⟨?_, ?_, l3⟩
      · rw [upd_ne (ne_of l1 hb (by intro q; cases q))]; exact l1
      · rw [upd_ne l3]; exact l2
    · refine ⟨?_, ?_, hlb⟩
      · rw [upd_ne (ne_of hp hb (by intro q; cases q))]; exact hp
      · rw [upd_ne hlb]; exact hl
  · rcases hg i o h with h | ⟨rfl, rfl⟩
    · exact rows i o h
    · exact hr
  · rw [e1, List.mem_append] at m
    rcases m with m | m
    · exact ⟨(tr t m).1.putL hb, (tr t m).2⟩
    · have q := htr t m
      have hpl : plen (lnOf ns) t.p = lnOf ns endW + lots.length := ((hr.mem t.p).mp (List.mem_map.mpr ⟨t, m, rfl⟩)).2
      rw [hpl, Nat.div_eq_of_lt hD]
      exact ⟨q.1.putL hb, q.2.1, q.2.2.1⟩
  · rw [e1, List.pairwise_append]
    exact ⟨apart, hap, fun s hs t ht => (htr t ht).2.2.2 s hs⟩
  · rw [hD', List.length_append]
    exact Nat.pow_lt_pow_right (by decide) (by show _ < _ + (_ + 1); omega)
  · rw [hD', List.length_append]
    show 2 ^ (lnOf ns endW + (lots.length + 1)) ≤ _
    rw [show lnOf ns endW + (lots.length + 1) = lnOf ns endW + lots.length + 1 by omega, Nat.pow_succ]
    omega
/-- the last two statements of a fill -/
theorem fill_rest {K : PySem.W.Frag} {mg : Str → Option Value} {wd : World} (T : TX wd K mg) {E : Ends} {H0 H : Hp} {x tg pz dx b wl : Addr} {ns : List Str} {its : List Itm} {g : Int} {D t : Nat} {lots : List Lot} {z1 zt z3 : Option V} (hok : TgOk ns)
    (mid : Mid K H0 H x tg pz dx b wl ns its g D (D + 2 ^ lnOf ns endW) lots) (mi : MI (lnOf ns) (fun p n => fnd p its g n) D [] t) (n1 : D + 2 ^ lnOf ns endW < 2 ^ 23)
    (next : ∀ z3 H' w' pend, Thr K H0 H' x tg pz dx b w' ns its g (D + 2 ^ lnOf ns endW) lots pend → MI (lnOf ns) (fun p n => fnd p its g n) (D + 2 ^ lnOf ns endW) (pend.map (·.p)) t → pend ≠ [] → E.nx [some (.ref x), z1, zt, z3, none, none, none] H') :
    tSeq (tAsg (tLc (iList K (tFld K (tVar 0) "begun")) (gTup K 2 (gCons (gName 4) (gCons (gName 2) gNil)))
        (tTest (tOp rEq (tOp (rI (fun _ j => 0 < j) fun i j => V.int (i % j)) (tFld K (tVar 0) "due") (tVar 4)) (tC (V.int 0)))) (tVar 2) (List.map (fun x => x.snd) [(("factor" : Str), 4), (("trials" : Str), 2)])) (gName 3))
      (sFld K (tVar 0) (tRevL K (tLc2 (iList K (tVar 3)) (gName 2) tYes (iList K (tVar 2)) (gName 6) tYes (tVar 6) (List.map (fun x => x.snd) [(("trials" : Str), 2), (("trial" : Str), 6)]) [6])) "waiting") E [some (.ref x), z1, zt, z3, none, none, none] H := by
  have cT := T.cls "Throng"
  have hlen := mid.lo
  have hlm : lnOf ns endW + lots.length ≤ 23 := by
    have := exp_lt (a := lnOf ns endW + lots.length) (b := 24) (by omega)
    omega
  have hpos := Nat.two_pow_pos (lnOf ns endW)
  have hln := hok.ln
  refine ⟨_, rfl, x, _, dx, _, _, rfl, mid.hx, cT, T.na "Throng" "begun", lk_Throng_begun, b, rfl, ⟨_, SqL.of mid.hb⟩, fun D4 hD4 => ?_⟩
  refine lc_sm (walk_list (K := K) (a := b) (xs := lots.map fun o => V.ref o.t)) hD4 (fun i acc _ => acc = (selL (D + 2 ^ lnOf ns endW) (lnOf ns endW) (lots.take i)).map fun o => V.ref o.l) rfl (fun _ s => SqL.of (s _ _ mid.hb)) (fun _ _ _ _ _ h => h) (by rw [List.length_map]; omega) ?_ ?_
  · rintro i v acc H2 H3 R R0 hi s2 hacc hla rfl ⟨rfl, hv⟩ hR hR0
    rw [List.getElem?_map] at hv
    obtain ⟨o, ho, rfl⟩ := Option.map_eq_some_iff.mp hv
    obtain ⟨l1, l2, l3⟩ := mid.lot i o ho
    refine ⟨o.t, _, rfl, SqT.of (s2 _ _ l1), rfl, _, _, rfl, _, _, rfl, rfl, rfl, ?_⟩
    refine ⟨_, rfl, x, _, dx, _, _, rfl, s2 _ _ mid.hx, cT, T.na "Throng" "due", lk_Throng_due, _, rfl, _, _, rfl, rfl, ?_, rfl, _, rfl, ?_⟩
    · exact Int.ofNat_lt.mpr (Nat.two_pow_pos _)
    have hst := selL_step (D := D + 2 ^ lnOf ns endW) (k := lnOf ns endW) ho
    by_cases hd : 2 ^ (lnOf ns endW + i) ∣ D + 2 ^ lnOf ns endW
    · rw [decide_eq_true (show V.int (((D + 2 ^ lnOf ns endW : Nat) : Int) % ((2 ^ (lnOf ns endW + i) : Nat) : Int)) = V.int 0 by rw [← Int.natCast_emod, Nat.mod_eq_zero_of_dvd hd]; rfl)]
      rw [if_pos hd] at hst
      refine iteT ⟨_, rfl, hR _ _ (Same.refl _) ?_⟩
      show _ = (selL _ _ (lots.take (i + 1))).map _
      rw [hst, List.map_append]
      rfl
    · rw [decide_eq_false (show ¬ V.int (((D + 2 ^ lnOf ns endW : Nat) : Int) % ((2 ^ (lnOf ns endW + i) : Nat) : Int)) = V.int 0 from fun q => hd (by
        have := V.int.inj q
        rw [← Int.natCast_emod] at this
        exact Nat.dvd_of_mod_eq_zero (by omega)))]
      rw [if_neg hd, List.append_nil] at hst
      refine iteF (hR0 _ (Same.refl _) ?_)
      show _ = (selL _ _ (lots.take (i + 1))).map _
      rw [hst]
  · rintro acc H4 s4 hacc _ rfl
    rw [List.length_map, List.take_length] at hacc
    have mid := mid.same' s4
    have hsub : ∀ t ∈ (selL (D + 2 ^ lnOf ns endW) (lnOf ns endW) lots).flatMap (·.trs), t ∈ allT lots := fun t h => selL_sub h
    have hmem : ∀ p, p ∈ ((selL (D + 2 ^ lnOf ns endW) (lnOf ns endW) lots).flatMap (·.trs)).map (·.p) ↔ IsProg p ∧ 2 ^ plen (lnOf ns) p ∣ D + 2 ^ lnOf ns endW := fun p => by
      rw [selL_mem mid.rows]
      constructor
      · rintro ⟨h1, _, _, h4⟩
        exact ⟨h1, h4⟩
      · rintro ⟨h1, h4⟩
        have h5 : 2 ^ plen (lnOf ns) p ≤ D + 2 ^ lnOf ns endW := Nat.le_of_dvd (by omega) h4
        exact ⟨h1, plen_end _ _, exp_lt (Nat.lt_of_le_of_lt h5 mid.hi), h4⟩
    have hnd := selL_nodup (D := D + 2 ^ lnOf ns endW) mid.rows
    have hcount : ((selL (D + 2 ^ lnOf ns endW) (lnOf ns endW) lots).flatMap (·.trs)).length ≤ 2 ^ 22 := by
      have := kraft_sum hok.kraft hln 22 _ hnd fun p hp => by
        obtain ⟨h1, h2⟩ := (hmem p).mp hp
        have h5 : 2 ^ plen (lnOf ns) p ≤ D + 2 ^ lnOf ns endW := Nat.le_of_dvd (by omega) h2
        have := exp_lt (Nat.lt_of_le_of_lt h5 n1)
        exact ⟨h1, by omega⟩
      refine Nat.le_trans ?_ this
      rw [← List.length_map (f := fun t : TR => t.p)]
      generalize ((selL (D + 2 ^ lnOf ns endW) (lnOf ns endW) lots).flatMap (·.trs)).map (·.p) = l
      clear this
      induction l with
      | nil => exact Nat.zero_le _
      | cons a l ih =>
        have := Nat.two_pow_pos (22 - plen (lnOf ns) a)
        rw [List.length_cons, List.map_cons, List.sum_cons]
        omega
    have hlots : ∀ o ∈ selL (D + 2 ^ lnOf ns endW) (lnOf ns endW) lots, H4 o.l = some (.lst (o.trs.map rT)) := by
      have key : ∀ (k : Nat) (r : List Lot), (∀ o ∈ r, H4 o.l = some (.lst (o.trs.map rT))) → ∀ o ∈ selL (D + 2 ^ lnOf ns endW) k r, H4 o.l = some (.lst (o.trs.map rT)) := by
        intro k r
        induction r generalizing k with
        | nil => intro h o ho; cases ho
        | cons a r ih =>
          intro h o ho
          have ho' : o ∈ (if 2 ^ k ∣ D + 2 ^ lnOf ns endW then a :: selL (D + 2 ^ lnOf ns endW) (k + 1) r else selL (D + 2 ^ lnOf ns endW) (k + 1) r) := ho
          by_cases e : 2 ^ k ∣ D + 2 ^ lnOf ns endW
          · rw [if_pos e] at ho'
            rcases List.mem_cons.mp ho' with rfl | ho'
            · exact h _ List.mem_cons_self
            · exact ih (k + 1) (fun o hm => h o (List.mem_cons_of_mem _ hm)) o ho'
          · rw [if_neg e] at ho'
            exact ih (k + 1) (fun o hm => h o (List.mem_cons_of_mem _ hm)) o ho'
      refine key _ lots fun o hm => ?_
      obtain ⟨i, hi⟩ := List.mem_iff_getElem?.mp hm
      exact (mid.lot i o hi).2.1
    generalize selL (D + 2 ^ lnOf ns endW) (lnOf ns endW) lots = os at hacc hsub hmem hnd hcount hlots
    -- the trials of those lots
    refine ⟨_, rfl, D4, rfl, ⟨_, SqL.of hacc⟩, fun D5 hD5 => ?_⟩
    have hD54 : D4 ≠ D5 := ne_of_none hacc hD5
    have ht2 : 2 ^ 22 < sizeLine := by decide
    refine ⟨fun i m H' => m = os.length - i ∧ i ≤ os.length ∧ H' = upd H4 D5 (.lst (((os.take i).flatMap (·.trs)).map rT)), ⟨_, rfl, Nat.zero_le _, rfl⟩, ?_⟩
    rintro i m H' ⟨rfl, hi, rfl⟩
    have hacc5 : ∀ o, upd H4 D5 o D4 = some (.lst (os.map fun o => V.ref o.l)) := fun o => by
      rw [upd_ne hD54]
      exact hacc
    by_cases hlt : i < os.length
    · have hget : os[i]? = some os[i] := List.getElem?_eq_getElem hlt
      generalize os[i] = o at hget
      have ho := hlots o (List.mem_of_getElem? hget)
      have hoD : o.l ≠ D5 := ne_of_none ho hD5
      have hv : (os.map fun o => V.ref o.l)[i]? = some (V.ref o.l) := by rw [List.getElem?_map, hget]; rfl
      have htk : os.take (i + 1) = os.take i ++ [o] := by
        obtain ⟨h1, h2⟩ := List.getElem?_eq_some_iff.mp hget
        rw [List.take_succ_eq_append_getElem h1, h2]
      have hle : ((os.take (i + 1)).flatMap (·.trs)).length ≤ 2 ^ 22 := by
        refine Nat.le_trans ?_ hcount
        conv => rhs; rw [← List.take_append_drop (i + 1) os, List.flatMap_append, List.length_append]
        omega
      rw [htk, List.flatMap_append, List.length_append] at hle
      have e1 : ([o] : List Lot).flatMap (·.trs) = o.trs := by simp
      rw [e1] at hle
      refine .inr ⟨⟨_, _, SqL.of (hacc5 _), hv⟩, fun H' => H' = upd H4 D5 (.lst (((os.take (i + 1)).flatMap (·.trs)).map rT)), fun H' e => ⟨os.length - (i + 1), by omega, rfl, hlt, e⟩, fun v H'' y => ?_⟩
      obtain ⟨rfl, y⟩ := y
      have ev := y _ (SqL.of (hacc5 _))
      rw [hv] at ev
      cases ev
      refine ⟨rfl, ?_⟩
      unfold tYes
      dsimp only
      rw [if_pos rfl]
      refine ⟨_, rfl, o.l, rfl, ⟨_, SqL.of ((upd_ne hoD).trans ho)⟩, ?_⟩
      refine ⟨fun j k H' => k = o.trs.length - j ∧ j ≤ o.trs.length ∧ H' = upd H4 D5 (.lst (((os.take i).flatMap (·.trs) ++ o.trs.take j).map rT)), ⟨_, rfl, Nat.zero_le _, by rw [List.take_zero, List.append_nil]⟩, ?_⟩
      rintro j k H' ⟨rfl, hj, rfl⟩
      by_cases hjt : j < o.trs.length
      · have hg2 : o.trs[j]? = some o.trs[j] := List.getElem?_eq_getElem hjt
        have hv2 : (o.trs.map rT)[j]? = some (rT o.trs[j]) := by rw [List.getElem?_map, hg2]; rfl
        refine .inr ⟨⟨_, _, SqL.of ((upd_ne hoD).trans ho), hv2⟩, fun H' => H' = upd H4 D5 (.lst (((os.take i).flatMap (·.trs) ++ o.trs.take (j + 1)).map rT)), fun H' e => ⟨o.trs.length - (j + 1), by omega, rfl, hjt, e⟩, fun v H'' y => ?_⟩
        obtain ⟨rfl, y⟩ := y
        have ev := y _ (SqL.of ((upd_ne hoD).trans ho))
        rw [hv2] at ev
        cases ev
        refine ⟨rfl, iteT ⟨_, rfl, _, upd_same, ?_, ?_⟩⟩
        · rw [List.length_map, List.length_append, List.length_take]
          omega
        · rw [upd_upd, List.take_succ_eq_append_getElem hjt, ← List.append_assoc, List.map_append]
          rfl
      · have : j = o.trs.length := by omega
        subst this
        refine .inl ⟨⟨_, SqL.of ((upd_ne hoD).trans ho), by rw [List.length_map]; exact Nat.le_refl _⟩, ?_⟩
        rw [List.take_length, htk, List.flatMap_append, e1]
    · have : i = os.length := by omega
      subst this
      rw [List.take_length]
      refine .inl ⟨⟨_, SqL.of (hacc5 _), by rw [List.length_map]; exact Nat.le_refl _⟩, D5, _, rfl, SqL.of upd_same, fun w' nw' => ?_⟩
      have s5 : Same H4 (upd H4 D5 (.lst ((os.flatMap (·.trs)).map rT))) := Same.new hD5
      have s6 : Same H4 (upd (upd H4 D5 (.lst ((os.flatMap (·.trs)).map rT))) w' (.lst ((os.flatMap (·.trs)).map rT).reverse)) := s5.new' nw'
      have hw6 : upd (upd H4 D5 (.lst ((os.flatMap (·.trs)).map rT))) w' (.lst ((os.flatMap (·.trs)).map rT).reverse) w' = some (.lst ((os.flatMap (·.trs)).map rT).reverse) := upd_same
      have nw0 : H4 w' = none := s5.free nw'
      have mid6 := mid.same' s6
      have nwb : b ≠ w' := ne_of_none mid.hb nw0
      have nwl : ∀ (i : Nat) (o : Lot), lots[i]? = some o → o.l ≠ w' := fun i o h => ne_of_none (mid.lot i o h).2.1 nw0
      have hw0 : H0 w' = none := mid.same.free nw0
      generalize upd (upd H4 D5 (.lst ((os.flatMap (·.trs)).map rT))) w' (.lst ((os.flatMap (·.trs)).map rT).reverse) = H6 at mid6 hw6
      refine ⟨_, rfl, x, _, dx, _, rfl, mid6.hx, cT, T.na "Throng" "waiting", fw_Throng, ?_⟩
      rw [pt_Throng_waiting]
      have hpm : ∀ p, p ∈ ((os.flatMap (·.trs)).reverse.map (·.p)) ↔ IsProg p ∧ 2 ^ plen (lnOf ns) p ∣ D + 2 ^ lnOf ns endW := fun p => by
        rw [List.map_reverse, List.mem_reverse]
        exact hmem p
      have hpn : ((os.flatMap (·.trs)).reverse.map (·.p)).Nodup := by
        rw [List.map_reverse]
        exact (List.reverse_perm _).nodup_iff.mpr hnd
      refine next _ _ w' (os.flatMap (·.trs)).reverse ⟨mid6.same.mut mid6.nx, mid6.nx, mid6.nb, hw0, nwb, upd_same, ?_, ?_, fun i o h => ?_, mid6.rows, fun t m => ?_, mid6.apart, fun t m => hsub t (List.mem_reverse.mp m), mid6.hi, .inr mid6.lo, n1⟩ (mi.fill hpn hpm) ?_
      · rw [upd_ne (ne_of mid6.hb mid6.hx (by intro q; cases q))]
        exact mid6.hb
      · rw [upd_ne (ne_of hw6 mid6.hx (by intro q; cases q)), hw6, List.map_reverse]
      · obtain ⟨l1, l2, l3⟩ := mid6.lot i o h
        refine ⟨?_, ?_, l3, nwl i o h⟩
        · rw [upd_ne (ne_of l1 mid6.hx (by intro q; cases q))]; exact l1
        · rw [upd_ne (ne_of l2 mid6.hx (by intro q; cases q))]; exact l2
      · obtain ⟨q1, q2⟩ := mid6.tr t m
        have hpr : IsProg t.p := by
          obtain ⟨o, ho, hto⟩ := List.mem_flatMap.mp m
          obtain ⟨i, hi⟩ := List.mem_iff_getElem?.mp ho
          exact ((mid6.rows i o hi).mem t.p |>.mp (List.mem_map.mpr ⟨t, hto, rfl⟩)).1
        rw [stOf_fill mi.dvd hpm hpr]
        exact ⟨q1.putX mid6.hx, q2⟩
      · intro q
        have : ([] : List Str) ∈ ((os.flatMap (·.trs)).reverse.map (·.p)) := by
          rw [hpm]
          refine ⟨fun x hx => (List.not_mem_nil hx).elim, ?_⟩
          have e : plen (lnOf ns) [] = lnOf ns endW := by simp [plen]
          rw [e]
          obtain ⟨d, hd⟩ := mi.dvd
          exact ⟨d + 1, by rw [Nat.mul_add, ← hd, Nat.mul_one]⟩
        rw [q] at this
        cases this
section
variable {P : Program} {w : World} {K : PySem.W.Frag} {mg : Str → Option Value} {base : Heap}
abbrev N_Throng_fill : List Str := ["self", "length", "trials", "lots", "factor", "each", "trial"]
theorem sc_Throng_fill : FnScope N_Throng_fill ["self"] (defScope s_Throng_fill) := ⟨rfl, rfl, rfl, by decide +kernel, rfl, by decide +kernel, by decide +kernel⟩
def sp_Throng_fill (K : PySem.W.Frag) : Sp := fun vs H Q _ => ∃ (H0 : Hp) (x tg pz dx b w : Addr) (ns : List Str) (its : List Itm) (g : Int) (D t : Nat) (lots : List Lot) (pend : List TR), vs = [.ref x] ∧ Thr K H0 H x tg pz dx b w ns its g D lots pend ∧ TongueAt K H0 tg ns ∧ TgOk ns ∧ PzAt K H0 pz its ∧ inBox g = true ∧
  MI (lnOf ns) (fun p n => fnd p its g n) D (pend.map (·.p)) t ∧ t < 20000 ∧
  ∀ H' w' D' lots' pend', Thr K H0 H' x tg pz dx b w' ns its g D' lots' pend' → MI (lnOf ns) (fun p n => fnd p its g n) D' (pend'.map (·.p)) t → pend' ≠ [] → Q .non H'
theorem ok_Throng_fill (T : TX w K mg) : FnX P w K mg base 8 ("Throng", some "fill") ["self"] [] (sp_Throng_fill K) := by
  refine FnX.of T.qd_Throng_fill rfl sc_Throng_fill (fun vs H Q E h => ?_) (fun _ _ _ _ _ _ us hl => match us, hl with | [_], _ => rfl) (fun cdv A outer s H vs Q E hr h => ?_)
  · obtain ⟨H0, x, tg, pz, dx, b, w, ns, its, g, D, t, lots, pend, rfl, _⟩ := h
    rfl
  · obtain ⟨H0, x, tg, pz, dx, b, w, ns, its, g, D, t, lots, pend, rfl, th, htg, hok, hpz, hg, mi, ht, k⟩ := h
    have cT := T.cls "Throng"
    refine ⟨_, (pss_one (ps_while PassesOwn.never (pt_cmpR (op_eq0 hr.units0) (pe_fld (pv 0) rfl) (pe_lst pa_nil) (nomark _))
  (pss_cons (ps_fld (pv 0) (pe_op op_add (pe_fld (pv 0) rfl) (pe_op op_oneShl pe_int (pe_fld (pv 0) rfl))) rfl)
  (pss_cons (ps_set (i := 1) sc_Throng_fill.nd rfl (by first | exact .inl rfl | exact .inr rfl) (pe_op op_add (pe_fld (pv 0) rfl) (pe_callB call_len_seq (by rfl) (T.f "len") PySem.boot_len (pa_cons (pe_fld (pv 0) rfl) pa_nil))))
  (pss_cons (ps_if (pt_cmpR op_eq (pe_fld (pv 0) rfl) (pe_op op_oneShl pe_int (pv 1)) (nomark _)) (pss_cons (ps_setLc (i := 2) (own := [("each", 5)]) rfl sc_Throng_fill.nd rfl rfl (sw_true rfl rfl rfl (by decide +kernel)) (pi_list (pe_fx (ok_all_of T) (hr.mono (by decide)) (by rfl) (T.g "all_of") (pa_cons (pe_fld (pv 0) rfl) (pa_cons (pv 1) pa_nil)))) (blkOk_by (N := N_Throng_fill) (sc := defScope s_Throng_fill) (by decide +kernel)) (fun _ _ _ _ _ => (pg_name (i := 5) sc_Throng_fill.nd rfl (by first | exact .inl rfl | exact .inr rfl))) (fun _ _ _ _ _ => pts_nil) (fun _ _ _ _ _ => (pe_kxK (K := K) (T.mkr "Trial") (ok_Trial_init T) (hr.mono (by decide)) (by rfl) (T.g "Trial") (pa_cons (pv 5) (pa_cons (pe_fldK (K := K) (pv 0) rfl) (pa_cons (pe_fldK (K := K) (pv 0) rfl) pa_nil))))))
  (pss_one (ps_expr (pe_bm PySem.F.plainAttrs_list PySem.F.slot_list_append PySem.F.type_list_append mt_append (pe_fld (pv 0) rfl) (pa_cons (pe_tup (pa_cons (pe_op op_oneShl pe_int (pv 1)) (pa_cons (pv 2) pa_nil))) pa_nil))))) pss_nil)
  (pss_cons (ps_setLc (i := 3) (own := [("factor", 4), ("trials", 2)]) rfl sc_Throng_fill.nd rfl rfl (sw_true rfl rfl rfl (by decide +kernel)) (pi_list (pe_fld (pv 0) rfl)) (blkOk_by (N := N_Throng_fill) (sc := defScope s_Throng_fill) (by decide +kernel)) (fun _ _ _ _ _ => (pg_tupK (K := K) (n := 2) rfl (pgs_cons (pg_name (i := 4) sc_Throng_fill.nd rfl (by first | exact .inl rfl | exact .inr rfl)) (pgs_cons (pg_name (i := 2) sc_Throng_fill.nd rfl (by first | exact .inl rfl | exact .inr rfl)) pgs_nil)))) (fun _ _ _ _ _ => (pts_one (pt_cmpR op_eq (pe_op op_mod (pe_fldK (K := K) (pv 0) rfl) (pv 4)) pe_int (nomark _)))) (fun _ _ _ _ _ => (pv 2)))
  (pss_one (ps_fld (pv 0) (pe_revL (pe_lc2 (own := [("trials", 2), ("trial", 6)]) rfl sc_Throng_fill.nd (pi_list (pv 3)) (blkOk_by (N := N_Throng_fill) (sc := defScope s_Throng_fill) (by decide +kernel)) (vs1 := [6]) (by decide) (fun _ _ _ _ _ => (pg_name (i := 2) sc_Throng_fill.nd rfl (by first | exact .inl rfl | exact .inr rfl))) (fun _ _ _ _ _ => pts_nil) (fun _ _ _ _ _ => (pi_listK (K := K) (pv 2))) (fun _ _ _ _ _ => (pg_name (i := 6) sc_Throng_fill.nd rfl (by first | exact .inl rfl | exact .inr rfl))) (fun _ _ _ _ _ => pts_nil) (fun _ _ _ _ _ => (pv 6)))) rfl)))))))), ?_⟩
    have hln := hok.ln endW (mem8.mpr (.inr rfl))
    refine ⟨fun m σ' H' => ∃ (z1 z2 z3 : Option V) (wl : Addr) (D : Nat) (lots : List Lot) (pend : List TR), σ' = [some (.ref x), z1, z2, z3, none, none, none] ∧ Thr K H0 H' x tg pz dx b wl ns its g D lots pend ∧ MI (lnOf ns) (fun p n => fnd p its g n) D (pend.map (·.p)) t ∧ m = (if pend = [] then 1 else 0), ⟨_, none, none, none, w, D, lots, pend, rfl, th, mi, rfl⟩, ?_⟩
    clear th mi w D lots pend
    rintro m σ' H1 ⟨z1, z2, z3, wl, D, lots, pend, rfl, th, mi, rfl⟩
    refine ⟨_, rfl, x, _, dx, _, _, rfl, th.hx, cT, T.na "Throng" "waiting", lk_Throng_waiting, Nat.zero_le _, fun e ne => ⟨wl, e, _, rfl, rfl, SqL.of (Same.new ne _ _ th.hw), upd_same, _, rfl, ?_⟩⟩
    have th := th.same' (Same.new (o := .lst []) ne)
    generalize upd H1 e (.lst []) = H1 at th ⊢
    cases hpe : pend with
    | cons q r =>
      rw [hpe] at th mi
      exact iteF (k _ wl D lots _ th mi (by simp))
    | nil =>
    rw [hpe] at th mi
    clear hpe ne e
    rw [if_pos rfl]
    have hD0 : D / 2 ^ lnOf ns endW ≤ t := by
      have q := mi.cnt
      rw [List.map_nil, if_pos rfl, Nat.add_zero] at q
      exact q
    obtain ⟨n1, n2⟩ := fill_nums hln mi.dvd hD0 ht th.hi
    refine iteT ⟨fun σ' H' => ∃ m', m' < 1 ∧ ∃ (z1 z2 z3 : Option V) (wl : Addr) (D : Nat) (lots : List Lot) (pend : List TR), σ' = [some (.ref x), z1, z2, z3, none, none, none] ∧ Thr K H0 H' x tg pz dx b wl ns its g D lots pend ∧ MI (lnOf ns) (fun p n => fnd p its g n) D (pend.map (·.p)) t ∧ m' = (if pend = [] then 1 else 0), fun _ _ z => z, ?_⟩
    -- self.due = self.due + (1 << self.least)
    refine ⟨_, rfl, x, _, dx, _, _, rfl, th.hx, cT, T.na "Throng" "due", lk_Throng_due, _, rfl, x, _, dx, _, _, rfl, th.hx, cT, T.na "Throng" "least", lk_Throng_least, lnOf ns endW, rfl, rfl, by omega, _, _, rfl, rfl, _, rfl, x, _, dx, _, rfl, th.hx, cT, T.na "Throng" "due", fw_Throng, ?_⟩
    rw [pt_Throng_due]
    dsimp only
    rw [show ((D : Nat) : Int) + 2 ^ lnOf ns endW = ((D + 2 ^ lnOf ns endW : Nat) : Int) by rw [Int.natCast_add, Int.natCast_pow]; rfl]
    have hlo : lots = [] ∧ D = 0 ∨ 2 ^ (lnOf ns endW + lots.length) ≤ 2 * D := by
      rcases th.lo with h | h
      · exact .inl ⟨h.2, h.1⟩
      · exact .inr h
    have htr : ∀ t ∈ allT lots, TrialAt K (upd H1 x (.ins (He.ga K "Throng") dx (fThrong (.ref tg) (.ref pz) (.int g) (.int (lnOf ns endW : Nat)) (.int (D + 2 ^ lnOf ns endW : Nat)) (.ref b) (.ref wl)))) pz its g t.a t.ru t.tp t.p (D / 2 ^ plen (lnOf ns) t.p) ∧ H0 t.a = none ∧ H0 t.ru = none := fun t m => by
      obtain ⟨q1, q2⟩ := th.tr t m
      rw [List.map_nil, stOf_nil] at q1
      exact ⟨q1.putX th.hx, q2⟩
    have hb1 : upd H1 x (.ins (He.ga K "Throng") dx (fThrong (.ref tg) (.ref pz) (.int g) (.int (lnOf ns endW : Nat)) (.int (D + 2 ^ lnOf ns endW : Nat)) (.ref b) (.ref wl))) b = some (.lst (lots.map fun o => V.ref o.t)) := by
      rw [upd_ne (ne_of th.hb th.hx (by intro q; cases q))]
      exact th.hb
    have hlot : ∀ (i : Nat) (o : Lot), lots[i]? = some o → upd H1 x (.ins (He.ga K "Throng") dx (fThrong (.ref tg) (.ref pz) (.int g) (.int (lnOf ns endW : Nat)) (.int (D + 2 ^ lnOf ns endW : Nat)) (.ref b) (.ref wl))) o.t = some (.tup [.int (2 ^ (lnOf ns endW + i) : Nat), .ref o.l]) ∧ upd H1 x (.ins (He.ga K "Throng") dx (fThrong (.ref tg) (.ref pz) (.int g) (.int (lnOf ns endW : Nat)) (.int (D + 2 ^ lnOf ns endW : Nat)) (.ref b) (.ref wl))) o.l = some (.lst (o.trs.map rT)) ∧ o.l ≠ b := fun i o h => by
      obtain ⟨l1, l2, l3, _⟩ := th.lot i o h
      refine ⟨?_, ?_, l3⟩
      · rw [upd_ne (ne_of l1 th.hx (by intro q; cases q))]; exact l1
      · rw [upd_ne (ne_of l2 th.hx (by intro q; cases q))]; exact l2
    have hx1 : upd H1 x (.ins (He.ga K "Throng") dx (fThrong (.ref tg) (.ref pz) (.int g) (.int (lnOf ns endW : Nat)) (.int (D + 2 ^ lnOf ns endW : Nat)) (.ref b) (.ref wl))) x = some (.ins (He.ga K "Throng") dx (fThrong (.ref tg) (.ref pz) (.int g) (.int (lnOf ns endW : Nat)) (.int (D + 2 ^ lnOf ns endW : Nat)) (.ref b) (.ref wl))) := upd_same
    have sH := th.same.mut (o := .ins (He.ga K "Throng") dx (fThrong (.ref tg) (.ref pz) (.int g) (.int (lnOf ns endW : Nat)) (.int (D + 2 ^ lnOf ns endW : Nat)) (.ref b) (.ref wl))) th.nx
    generalize upd H1 x (.ins (He.ga K "Throng") dx (fThrong (.ref tg) (.ref pz) (.int g) (.int (lnOf ns endW : Nat)) (.int (D + 2 ^ lnOf ns endW : Nat)) (.ref b) (.ref wl))) = H2 at htr hb1 hlot hx1 sH ⊢
    have nx := th.nx
    have nb := th.nb
    have rows := th.rows
    have apart := th.apart
    have hiD := th.hi
    clear th H1
    -- length = self.least + len(self.begun)
    refine ⟨_, rfl, x, _, dx, _, _, rfl, hx1, cT, T.na "Throng" "least", lk_Throng_least, _, rfl, x, _, dx, _, _, rfl, hx1, cT, T.na "Throng" "begun", lk_Throng_begun, b, _, rfl, .inl (SqL.of hb1), _, _, rfl, rfl, ?_⟩
    dsimp only
    rw [List.length_map, ← Int.natCast_add]
    have hlm : lnOf ns endW + lots.length ≤ 23 := by
      rcases hlo with h | h
      · rw [h.1]
        show lnOf ns endW + 0 ≤ 23
        omega
      · have := Nat.two_pow_pos (lnOf ns endW)
        have := exp_lt (a := lnOf ns endW + lots.length) (b := 24) (by omega)
        omega
    -- if self.due == 1 << length
    refine ⟨_, rfl, x, _, dx, _, _, rfl, hx1, cT, T.na "Throng" "due", lk_Throng_due, _, rfl, lnOf ns endW + lots.length, rfl, rfl, by omega, rfl, _, rfl, ?_⟩
    have hpos := Nat.two_pow_pos (lnOf ns endW)
    have nextE : ∀ (zt z3 : Option V) (H' : Hp) (w' : Addr) (lotsN : List Lot) (pend : List TR), Thr K H0 H' x tg pz dx b w' ns its g (D + 2 ^ lnOf ns endW) lotsN pend → MI (lnOf ns) (fun p n => fnd p its g n) (D + 2 ^ lnOf ns endW) (pend.map (·.p)) t → pend ≠ [] →
        ∃ m', m' < 1 ∧ ∃ (z1 z2 z3' : Option V) (wl : Addr) (D : Nat) (lots : List Lot) (pend : List TR), [some (.ref x), some (.int ((lnOf ns endW + lots.length : Nat) : Int)), zt, z3, none, none, none] = [some (.ref x), z1, z2, z3', none, none, none] ∧ Thr K H0 H' x tg pz dx b wl ns its g D lots pend ∧ MI (lnOf ns) (fun p n => fnd p its g n) D (pend.map (·.p)) t ∧ m' = (if pend = [] then 1 else 0) := fun zt z3 H' w' lotsN pend h1 h2 h3 =>
      ⟨0, by decide, _, _, _, w', _, lotsN, pend, rfl, h1, h2, by rw [if_neg h3]⟩
    by_cases hD : D + 2 ^ lnOf ns endW = 2 ^ (lnOf ns endW + lots.length)
    · rw [decide_eq_true (show V.int ((D + 2 ^ lnOf ns endW : Nat) : Int) = V.int (2 ^ (lnOf ns endW + lots.length)) by rw [hD, Int.natCast_pow]; rfl)]
      have hL22 : lnOf ns endW + lots.length ≤ 22 := by
        have := exp_lt (a := lnOf ns endW + lots.length) (b := 23) (by omega)
        omega
      -- trials = [..]
      refine iteT ⟨_, rfl, x, _, dx, _, _, rfl, hx1, cT, T.na "Throng" "tongue", lk_Throng_tongue, _, rfl, tg, lnOf ns endW + lots.length, ns, rfl, htg.same sH, hok, hL22, fun H3 ra r s3 hra hr => ?_⟩
      obtain ⟨rs, hrs, hrl, hrt⟩ := hra
      refine ⟨ra, rfl, ⟨_, SqL.of hrl⟩, fun Dd hDd => ?_⟩
      have hrn : rs.length ≤ 2 ^ 22 := by
        have := row_len hok.kraft hok.ln hr
        rw [← hrs, List.length_map] at this
        exact Nat.le_trans this (Nat.pow_le_pow_right (by decide) hL22)
      have sH3 := sH.trans s3
      refine lc_sm (walk_list (K := K) (a := ra) (xs := rs.map fun z => V.ref z.1)) hDd (fun i acc H2 => ∃ trs : List TR, acc = trs.map rT ∧ trs.map (·.p) = (rs.take i).map (·.2) ∧ (∀ t ∈ trs, TrialAt K H2 pz its g t.a t.ru t.tp t.p 0 ∧ H3 t.a = none ∧ H3 t.ru = none ∧ t.a ≠ Dd ∧ t.ru ≠ Dd ∧ t.tp ≠ Dd) ∧ trs.Pairwise fun (s t : TR) => s.a ≠ t.a ∧ s.ru ≠ t.ru)
        ⟨[], rfl, rfl, (fun t h => (List.not_mem_nil h).elim), List.Pairwise.nil⟩ (fun _ s => SqL.of (s _ _ hrl)) (fun i acc H4 H5 hk ⟨trs, h1, h2, h3, h4⟩ => ⟨trs, h1, h2, fun t m => ⟨(h3 t m).1.keep fun b o hb e => hk b o (by
          obtain ⟨_, _, _, q1, q2, q3⟩ := h3 t m
          rcases hb with rfl | rfl | rfl
          · exact q1
          · exact q2
          · exact q3) e, (h3 t m).2⟩, h4⟩) (by rw [List.length_map]; exact Nat.le_trans hrn (by decide)) ?_ ?_
      · rintro i v acc H4 H5 R R0 hi s4 hacc hla ⟨trs, rfl, ht1, ht2, ht3⟩ ⟨rfl, hv⟩ hR hR0
        rw [List.getElem?_map] at hv
        obtain ⟨⟨ta, tp⟩, hz, rfl⟩ := Option.map_eq_some_iff.mp hv
        have hzm := List.mem_of_getElem? hz
        have hta := s4 _ _ (hrt _ hzm)
        have hta3 := hrt _ hzm
        dsimp only at hta hta3
        obtain ⟨g1, g2⟩ := (hr.mem tp).mp (by rw [← hrs]; exact List.mem_map.mpr ⟨_, hzm, rfl⟩)
        have hPg : Pg tp := ⟨g1, by have := plen_ge hok.ln g1; omega⟩
        have hx4 := s4 _ _ (s3 _ _ hx1)
        refine ⟨rfl, tY ⟨_, rfl, _, rfl, x, _, dx, _, _, rfl, hx4, cT, T.na "Throng" "puzzle", lk_Throng_puzzle, _, rfl, x, _, dx, _, _, rfl, hx4, cT, T.na "Throng" "given", lk_Throng_given, fun sx sdx nsx nsdx nne => ?_⟩⟩
        have sA : Same H5 (upd (upd H5 sdx (.own sx)) sx (.ins (He.ga K "Trial") sdx [])) := (Same.new nsdx).new' (by rw [upd_ne (Ne.symm nne)]; exact nsx)
        refine ⟨sx, sdx, ta, pz, tp, its, g, rfl, upd_same, sA _ _ hta, hPg, hg, fun H6 ru s6 nru htr => ⟨rfl, ?_⟩⟩
        have nru5 : H5 ru = none := sA.free nru
        have sB : Same H5 H6 := fun b o e => s6 b o (ne_of_none e nsx) (sA b o e)
        have nsx3 : H3 sx = none := s4.free nsx
        have nru3 : H3 ru = none := s4.free nru5
        refine hR _ _ sB ⟨trs ++ [⟨sx, ru, ta, tp⟩], by rw [List.map_append]; rfl, ?_, fun t m => ?_, ?_⟩
        · obtain ⟨hil, hie⟩ := List.getElem?_eq_some_iff.mp hz
          rw [List.map_append, ht1, List.take_succ_eq_append_getElem hil, List.map_append, hie]
          rfl
        · rcases List.mem_append.mp m with m | m
          · exact ⟨(ht2 t m).1.same sB, (ht2 t m).2⟩
          · rw [List.mem_singleton.mp m]
            exact ⟨htr, nsx3, nru3, (ne_of_none hacc nsx).symm, (ne_of_none hacc nru5).symm, ne_of_none hta3 hDd⟩
        · rw [List.pairwise_append]
          refine ⟨ht3, List.pairwise_singleton _ _, fun s hs t ht => ?_⟩
          rw [List.mem_singleton.mp ht]
          obtain ⟨⟨_, _, q1, q2, _⟩, _⟩ := ht2 s hs
          exact ⟨ne_of_none q1 nsx, ne_of_none q2 nru5⟩
      · rintro acc H4 s4 hacc _ ⟨trs, rfl, ht1, ht2, ht3⟩
        rw [List.length_map, List.take_length, hrs] at ht1
        have s34 := s3.trans s4
        have hb4 := s34 _ _ hb1
        -- self.begun.append((1 << length, trials))
        refine ⟨_, rfl, x, _, dx, _, _, rfl, s34 _ _ hx1, cT, T.na "Throng" "begun", lk_Throng_begun, .inl ⟨rfl, _, SqL.of hb4⟩, _, rfl, lnOf ns endW + lots.length, rfl, rfl, by omega, _, rfl, two_le, fun p np => ⟨b, _, _, rfl, rfl, Same.new np _ _ hb4, ?_, ?_⟩⟩
        · rw [List.length_map]
          exact size24' (by omega)
        have s5 : Same H2 (upd H4 p (.tup [.int (2 ^ (lnOf ns endW + lots.length)), .ref Dd])) := s34.new' np
        have nDb : Dd ≠ b := ne_of_none (s3 _ _ hb1) hDd |>.symm
        have mid := Mid.add (K := K) (x := x) (tg := tg) (pz := pz) (dx := dx) (wl := wl) (p := p) (l := Dd) (its := its) (g := g) (trs := trs) (D := D) (D' := D + 2 ^ lnOf ns endW) (lots := lots) (H := upd H4 p (.tup [.int (2 ^ (lnOf ns endW + lots.length)), .ref Dd]))
          (sH.trans s5) nx nb (s5 _ _ hx1) (s5 _ _ hb1) (fun i o h => ⟨s5 _ _ (hlot i o h).1, s5 _ _ (hlot i o h).2.1, (hlot i o h).2.2⟩) rows (fun t m => ⟨(htr t m).1.same s5, (htr t m).2⟩) apart hiD hD
          (by rw [upd_same, Int.natCast_pow]; rfl) (Same.new np _ _ hacc) nDb (by rw [ht1]; exact hr)
          (fun t m => by
            obtain ⟨q1, q2, q3, _⟩ := ht2 t m
            refine ⟨q1.same (Same.new np), sH3.free q2, sH3.free q3, fun s hs => ?_⟩
            obtain ⟨⟨_, _, w1, w2, _⟩, _⟩ := htr s hs
            exact ⟨ne_of_none (s3 _ _ w1) q2, ne_of_none (s3 _ _ w2) q3⟩) ht3
        rw [List.map_append] at mid
        exact fill_rest T hok mid mi n1 fun z3 H' w' pend h1 h2 h3 => ⟨0, by decide, _, _, _, w', _, _, pend, rfl, h1, h2, by rw [if_neg h3]⟩
    · rw [decide_eq_false (show ¬ V.int ((D + 2 ^ lnOf ns endW : Nat) : Int) = V.int (2 ^ (lnOf ns endW + lots.length)) from fun q => hD (by
        have q2 := V.int.inj q
        rw [show (2 : Int) ^ (lnOf ns endW + lots.length) = ((2 ^ (lnOf ns endW + lots.length) : Nat) : Int) by rw [Int.natCast_pow]; rfl] at q2
        exact Int.ofNat.inj q2))]
      have hlo2 : 2 ^ (lnOf ns endW + lots.length) ≤ 2 * (D + 2 ^ lnOf ns endW) := by
        rcases hlo with h | h
        · refine absurd ?_ hD
          rw [h.1, h.2]
          show 0 + 2 ^ lnOf ns endW = 2 ^ (lnOf ns endW + 0)
          rw [Nat.zero_add, Nat.add_zero]
        · omega
      refine iteF (fill_rest T hok (lots := lots) ⟨sH, nx, nb, hx1, hb1, hlot, rows, htr, apart, by omega, hlo2⟩ mi n1 fun z3 H' w' pend h1 h2 h3 => ⟨0, by decide, _, _, _, w', _, _, pend, rfl, h1, h2, by rw [if_neg h3]⟩)
end
end K53
end TK53X

section TK53AB
set_option maxHeartbeats 4000000

namespace K53
open PySem PySem.Spec PyProof.Rows L2
theorem pw_any {α : Type} {R : α → α → Prop} {l : List α} (h : l.Pairwise R) {x y : α} (hx : x ∈ l) (hy : y ∈ l) (hn : x ≠ y) : R x y ∨ R y x := by
  obtain ⟨i, hi⟩ := List.mem_iff_getElem?.mp hx
  obtain ⟨j, hj⟩ := List.mem_iff_getElem?.mp hy
  obtain ⟨hi1, rfl⟩ := List.getElem?_eq_some_iff.mp hi
  obtain ⟨hj1, rfl⟩ := List.getElem?_eq_some_iff.mp hj
  rw [List.pairwise_iff_getElem] at h
  rcases Nat.lt_trichotomy i j with z | z | z
  · exact .inl (h i j hi1 hj1 z)
  · subst z
    exact absurd rfl hn
  · exact .inr (h j i hj1 hi1 z)
theorem selL_zero : ∀ (k : Nat) (lots : List Lot), selL 0 k lots = lots
  | _, [] => rfl
  | k, o :: r => by
    show (if 2 ^ k ∣ 0 then o :: selL 0 (k + 1) r else selL 0 (k + 1) r) = _
    rw [if_pos (Nat.dvd_zero _), selL_zero (k + 1) r]
theorem allT_nodup {ln : Str → Nat} {k : Nat} {lots : List Lot} (h : Rows ln k lots) : ((allT lots).map (·.p)).Nodup := by
  have := selL_nodup (D := 0) h
  rwa [selL_zero] at this
theorem map_inj_of_nodup {α β : Type} {f : α → β} {l : List α} (h : (l.map f).Nodup) {x y : α} (hx : x ∈ l) (hy : y ∈ l) (e : f x = f y) : x = y := by
  obtain ⟨i, hi⟩ := List.mem_iff_getElem?.mp hx
  obtain ⟨j, hj⟩ := List.mem_iff_getElem?.mp hy
  have h1 : (l.map f)[i]? = some (f x) := by rw [List.getElem?_map, hi]; rfl
  have h2 : (l.map f)[j]? = some (f y) := by rw [List.getElem?_map, hj]; rfl
  have : i = j := (List.getElem?_inj (List.getElem?_eq_some_iff.mp h1).1 h).mp (by rw [h1, h2, e])
  subst this
  exact Option.some.inj (hi.symm.trans hj)
section
variable {P : Program} {w : World} {K : PySem.W.Frag} {mg : Str → Option Value} {base : Heap}
abbrev N_Throng_tried : List Str := ["self", "trial"]
theorem sc_Throng_tried : FnScope N_Throng_tried ["self"] (defScope s_Throng_tried) := ⟨rfl, rfl, rfl, by decide +kernel, rfl, by decide +kernel, by decide +kernel⟩
def sp_Throng_tried (K : PySem.W.Frag) : Sp := fun vs H Q _ => ∃ (H0 : Hp) (x tg pz dx b w : Addr) (ns : List Str) (its : List Itm) (g : Int) (D t : Nat) (lots : List Lot) (pend : List TR), vs = [.ref x] ∧ Thr K H0 H x tg pz dx b w ns its g D lots pend ∧ TongueAt K H0 tg ns ∧ TgOk ns ∧ PzAt K H0 pz its ∧ Chk its ∧ inBox g = true ∧
  MI (lnOf ns) (fun p n => fnd p its g n) D (pend.map (·.p)) t ∧ t < 20000 ∧
  (∀ H' D' (pp : List (List Str)) (q : TR), Same H0 H' → TrialAt K H' pz its g q.a q.ru q.tp q.p (D' / 2 ^ plen (lnOf ns) q.p) → MI (lnOf ns) (fun p n => fnd p its g n) D' (pp ++ [q.p]) t → fnd q.p its g (D' / 2 ^ plen (lnOf ns) q.p) = true → D' < 2 ^ 23 → Q (.ref q.a) H') ∧
  ∀ H' w' D' lots' pend', Thr K H0 H' x tg pz dx b w' ns its g D' lots' pend' → MI (lnOf ns) (fun p n => fnd p its g n) D' (pend'.map (·.p)) (t + 1) → Q .non H'
theorem ok_Throng_tried (T : TX w K mg) : FnX P w K mg base 9 ("Throng", some "tried") ["self"] [] (sp_Throng_tried K) := by
  refine FnX.of T.qd_Throng_tried rfl sc_Throng_tried (fun vs H Q E h => ?_) (fun _ _ _ _ _ _ us hl => match us, hl with | [_], _ => rfl) (fun cdv A outer s H vs Q E hr h => ?_)
  · obtain ⟨H0, x, tg, pz, dx, b, wl, ns, its, g, D, t, lots, pend, rfl, _⟩ := h
    rfl
  · obtain ⟨H0, x, tg, pz, dx, b, wl, ns, its, g, D, t, lots, pend, rfl, th, htg, hok, hpz, hc, hg, mi, ht, k1, k2⟩ := h
    have cT := T.cls "Throng"
    refine ⟨_, (pss_cons (ps_expr (pe_mx0 (pv 0) (T.cls "Throng") (T.meth "Throng" "fill") (ok_Throng_fill T) (hr.mono (by decide))))
  (pss_cons (ps_set (i := 1) sc_Throng_tried.nd rfl (by first | exact .inl rfl | exact .inr rfl) (pe_bm0 PySem.F.plainAttrs_list PySem.F.slot_list_pop PySem.F.type_list_pop mt_pop (pe_fld (pv 0) rfl)))
  (pss_one (ps_ret (pe_ifExp (pt_val (pe_mx0 (pv 1) (T.cls "Trial") (T.meth "Trial" "tried") (ok_Trial_tried T) (hr.mono (by decide)))) (pv 1) pe_non))))), ?_⟩
    refine ⟨_, rfl, x, dx, _, rfl, th.hx, no_Throng_fill, H0, x, tg, pz, dx, b, wl, ns, its, g, D, t, lots, pend, rfl, th, htg, hok, hpz, hg, mi, ht, fun H1 w1 D1 lots1 pend1 th1 mi1 hne => ?_⟩
    obtain ⟨pend2, q, rfl⟩ : ∃ r q, pend1 = r ++ [q] := by
      rcases List.eq_nil_or_concat pend1 with h | ⟨r, q, h⟩
      · exact absurd h hne
      · exact ⟨r, q, by rw [h, List.concat_eq_append]⟩
    have hqm := th1.pin q (by simp)
    rw [List.map_append] at mi1
    obtain ⟨m1, m2, m3, m4, m5, m6⟩ := mi1.last
    -- trial = self.waiting.pop()
    refine ⟨_, rfl, x, _, dx, _, _, rfl, th1.hx, cT, T.na "Throng" "waiting", lk_Throng_waiting, .inl ⟨rfl, _, SqL.of th1.hw⟩, w1, _, rT q, rfl, rfl, th1.hw, ?_, ?_⟩
    · rw [List.map_append, List.length_append, List.length_map]
      show (pend2.map rT ++ [rT q])[pend2.length + 1 - 1]? = _
      rw [List.getElem?_append_right (by rw [List.length_map]; omega), List.length_map]
      simp
    rw [show ((pend2 ++ [q]).map rT).dropLast = pend2.map rT by rw [List.map_append]; exact List.dropLast_concat]
    obtain ⟨hqt, hq1, hq2⟩ := th1.tr q hqm
    rw [List.map_append] at hqt
    obtain ⟨dq, drq, hqx, hqr, hqp⟩ := id hqt
    have hpg : Pg q.p := by
      refine ⟨m1, ?_⟩
      have h2 : q.p.length ≤ plen (lnOf ns) q.p := plen_ge hok.ln m1
      have h3 : 2 ^ plen (lnOf ns) q.p ≤ D1 := Nat.le_of_dvd m3 (mi1.pp q.p (by simp)).2.1
      have h4 := exp_lt (Nat.lt_of_le_of_lt h3 th1.bd)
      omega
    have hqt' := hqt.putL (ys := pend2.map rT) th1.hw
    have hqx' : upd H1 w1 (.lst (pend2.map rT)) q.a = some _ := (upd_ne (ne_of hqx th1.hw (by intro q; cases q))).trans hqx
    have hz : PzAt K (upd H1 w1 (.lst (pend2.map rT))) pz its := hpz.same (th1.same.mut th1.nw)
    refine ⟨_, rfl, q.a, dq, _, rfl, hqx', no_Trial_tried, q.a, q.ru, q.tp, pz, q.p, its, g, _, rfl, hqt', hz, hc, hpg, hg, fun H2 s2 ht2 => ⟨_, rfl, ?_⟩⟩
    rw [show List.map (fun x : TR => x.p) [q] = [q.p] from rfl, m6] at ht2
    rw [show stOf (lnOf ns) D1 (List.map (fun x => x.p) pend2 ++ List.map (fun x => x.p) [q]) q.p + 1 = D1 / 2 ^ plen (lnOf ns) q.p from m6]
    have same2 : Same H0 H2 := fun c o e => s2 c o (fun h => by rw [h, hq1] at e; cases e) (fun h => by rw [h, hq2] at e; cases e) (th1.same.mut th1.nw _ _ e)
    cases hf : fnd q.p its g (D1 / 2 ^ plen (lnOf ns) q.p) with
    | true => exact iteT ⟨_, rfl, k1 H2 D1 _ q same2 ht2 mi1 hf th1.bd⟩
    | false =>
      refine iteF (k2 H2 w1 D1 lots1 pend2 ?_ (mi1.pop hf))
      have nxa : q.a ≠ x := throng_ne th1.hx hqx (.inl (by show 6 ≠ 7; decide))
      have nxr : q.ru ≠ x := throng_ne th1.hx hqr (.inr (by unfold runF; kernel_rfl))
      have keep : ∀ c o, c ≠ w1 → c ≠ q.a → c ≠ q.ru → H1 c = some o → H2 c = some o := fun c o n0 n1 n2 e => s2 c o n1 n2 (by rw [upd_ne n0]; exact e)
      have hxw : x ≠ w1 := ne_of th1.hx th1.hw (by intro q; cases q)
      refine ⟨same2, th1.nx, th1.nb, th1.nw, th1.bw, keep _ _ hxw (Ne.symm nxa) (Ne.symm nxr) th1.hx, keep _ _ th1.bw (ne_of th1.hb hqx (by intro q; cases q)) (ne_of th1.hb hqr (by intro q; cases q)) th1.hb,
        s2 _ _ (ne_of th1.hw hqx (by intro q; cases q)) (ne_of th1.hw hqr (by intro q; cases q)) upd_same, fun i o h => ?_, th1.rows, fun u hu => ?_, th1.apart, fun u hu => th1.pin u (by simp [hu]), th1.hi, th1.lo, th1.bd⟩
      · obtain ⟨l1, l2, l3, l4⟩ := th1.lot i o h
        exact ⟨keep _ _ (ne_of l1 th1.hw (by intro q; cases q)) (ne_of l1 hqx (by intro q; cases q)) (ne_of l1 hqr (by intro q; cases q)) l1, keep _ _ l4 (ne_of l2 hqx (by intro q; cases q)) (ne_of l2 hqr (by intro q; cases q)) l2, l3, l4⟩
      · obtain ⟨ut, u1, u2⟩ := th1.tr u hu
        have hpop := stOf_pop mi1 u.p
        by_cases e : u = q
        · subst e
          refine ⟨?_, u1, u2⟩
          rw [hpop, if_pos rfl, m6]
          exact ht2
        · have hp : u.p ≠ q.p := fun z => e (map_inj_of_nodup (allT_nodup th1.rows) hu hqm z)
          rw [hpop, if_neg hp, Nat.add_zero]
          rw [List.map_append] at ut
          obtain ⟨du, dru, ux, ur, up⟩ := ut
          have nn : u.a ≠ q.a ∧ u.ru ≠ q.ru := by
            rcases pw_any th1.apart hu hqm e with z | z
            · exact z
            · exact ⟨Ne.symm z.1, Ne.symm z.2⟩
          refine ⟨⟨du, dru, keep _ _ (ne_of ux th1.hw (by intro q; cases q)) nn.1 (trial_run ux hqr) ux, keep _ _ (ne_of ur th1.hw (by intro q; cases q)) (Ne.symm (trial_run hqx ur)) nn.2 ur, keep _ _ (ne_of up th1.hw (by intro q; cases q)) (ne_of up hqx (by intro q; cases q)) (ne_of up hqr (by intro q; cases q)) up⟩, u1, u2⟩
end
end K53
end TK53AB

section TK53AC
set_option maxHeartbeats 4000000

namespace K53
open PySem PySem.Spec PyProof.Rows L2
theorem pe_nv {X : Cx} {e : Expr} : PE X e (fun _ _ _ => False) := ⟨fun _ _ _ _ _ _ h => h.elim⟩
/-- a part of a paper -/
inductive Pt where
  | i (n : Int)
  | p (l : List Str)
def PtAt (H : Hp) : Pt → V → Prop
  | .i n, v => v = .int n
  | .p l, v => ∃ a, v = .ref a ∧ H a = some (.tup (l.map V.str)) ∧ l.length ≤ 1000
theorem PtAt.same {H H' : Hp} {d : Pt} {v : V} (h : PtAt H d v) (s : Same H H') : PtAt H' d v := by
  cases d with
  | i n => exact h
  | p l =>
    obtain ⟨a, h1, h2, h3⟩ := h
    exact ⟨a, h1, s _ _ h2, h3⟩
section
variable {P : Program} {w : World} {K : PySem.W.Frag} {mg : Str → Option Value} {base : Heap}
abbrev N_fixed : List Str := ["value", "each"]
theorem sc_fixed : FnScope N_fixed ["value"] (defScope s_fixed) := ⟨rfl, rfl, rfl, by decide +kernel, rfl, by decide +kernel, by decide +kernel⟩
def sp_fixed0 : Sp := fun vs H Q _ => ∃ z : Str, vs = [.str z] ∧ ∀ H', Same H H' → Q (.str z) H'
theorem ok_fixed0 (T : TX w K mg) : FnX P w K mg base 1 ("fixed", none) ["value"] [] sp_fixed0 := by
  refine FnX.of T.qd_fixed rfl sc_fixed (fun vs H Q E h => ?_) (fun _ _ _ _ _ _ us hl => match us, hl with | [_], _ => rfl) (fun cdv A outer s H vs Q E hr h => ?_)
  · obtain ⟨z, rfl, _⟩ := h
    rfl
  · obtain ⟨z, rfl, k⟩ := h
    refine ⟨_, pss_one (ps_ret (pe_ifExp (pt_val (pe_callB call_isiT (by rfl) (T.f "isinstance") bt_isinstance (pa_cons (pv 0) (pa_cons (pe_tup (pa_cons (pe_bltn (v := .ty "list") (by rfl) (T.f "list") bt_list rfl) (pa_cons (pe_bltn (v := .ty "tuple") (by rfl) (T.f "tuple") bt_tuple rfl) pa_nil))) pa_nil)))) pe_nv (pv 0))), ?_⟩
    refine ⟨_, rfl, two_le, fun t ht => ?_⟩
    exact ⟨_, _, _, _, _, _, rfl, upd_same, lt_cls, .base (.str z), kit_lt_str, false, rfl, iteF ⟨_, rfl, k _ (Same.new ht)⟩⟩
def sp_fixed1 : Sp := fun vs H Q _ => ∃ v d, vs = [v] ∧ PtAt H d v ∧ ∀ H' v', Same H H' → PtAt H' d v' → Q v' H'
theorem ok_fixed1 (T : TX w K mg) : FnX P w K mg base 2 ("fixed", none) ["value"] [] sp_fixed1 := by
  refine FnX.of T.qd_fixed rfl sc_fixed (fun vs H Q E h => ?_) (fun _ _ _ _ _ _ us hl => match us, hl with | [_], _ => rfl) (fun cdv A outer s H vs Q E hr h => ?_)
  · obtain ⟨v, d, rfl, _⟩ := h
    rfl
  · obtain ⟨v, d, rfl, hd, k⟩ := h
    refine ⟨_, (pss_one (ps_ret (pe_ifExp (pt_val (pe_callB call_isiT (by rfl) (T.f "isinstance") bt_isinstance (pa_cons (pv 0) (pa_cons (pe_tup (pa_cons (pe_bltn (v := .ty "list") (by rfl) (T.f "list") bt_list rfl) (pa_cons (pe_bltn (v := .ty "tuple") (by rfl) (T.f "tuple") bt_tuple rfl) pa_nil))) pa_nil)))) (pe_callTy call_tuple_of (by rfl) (T.f "tuple") bt_tuple (pa_cons (pe_lc (own := [("each", 1)]) rfl sc_fixed.nd (pi_tup (pv 0)) (blkOk_by (N := N_fixed) (sc := defScope s_fixed) (by decide +kernel)) (fun _ _ _ _ _ => (pg_name (i := 1) sc_fixed.nd rfl (by first | exact .inl rfl | exact .inr rfl))) (fun _ _ _ _ _ => pts_nil) (fun _ _ _ _ _ => (pe_fx (ok_fixed0 T) (hr.mono (by decide)) (by rfl) (T.g "fixed") (pa_cons (pv 1) pa_nil)))) pa_nil)) (pv 0)))), ?_⟩
    refine ⟨_, rfl, two_le, fun t ht => ?_⟩
    cases d with
    | i n =>
      obtain rfl : v = .int n := hd
      exact ⟨_, _, _, _, _, _, rfl, upd_same, lt_cls, .base (.int n), kit_lt_int, false, rfl, iteF ⟨_, rfl, k _ _ (Same.new ht) rfl⟩⟩
    | p l =>
      obtain ⟨a, rfl, ha, hl⟩ := hd
      have s1 := Same.new (o := .tup [V.ty "list", V.ty "tuple"]) ht
      have ha1 := s1 _ _ ha
      refine ⟨_, _, _, _, _, _, rfl, upd_same, lt_cls, .base (.tup ha1), kit_lt_tup, true, rfl, iteT ?_⟩
      refine ⟨_, rfl, a, rfl, ⟨_, SqT.of ha1⟩, fun D hD => ?_⟩
      refine lc_sm (walk_tup (K := K) (a := a) (xs := l.map V.str)) hD (fun i acc _ => acc = (l.take i).map V.str) rfl (fun _ s => SqT.of (s _ _ ha1)) (fun _ _ _ _ _ h => h) (by rw [List.length_map]; omega) ?_ ?_
      · rintro i x acc H2 H3 R R0 hi s2 hacc hla rfl ⟨rfl, hx⟩ hR hR0
        rw [List.getElem?_map] at hx
        obtain ⟨z, hz, rfl⟩ := Option.map_eq_some_iff.mp hx
        refine ⟨rfl, tY ⟨_, rfl, z, rfl, fun H4 s4 => hR _ _ s4 ?_⟩⟩
        obtain ⟨hil, hie⟩ := List.getElem?_eq_some_iff.mp hz
        rw [List.take_succ_eq_append_getElem hil, List.map_append, hie]
        rfl
      · rintro acc H2 s2 hacc _ rfl
        rw [List.length_map, List.take_length] at hacc
        refine ⟨D, _, rfl, .inl ⟨SqL.of hacc, fun b nb => ?_⟩⟩
        exact k _ _ ((s1.trans s2).new' nb) ⟨b, rfl, upd_same, hl⟩
def sp_fixed2 : Sp := fun vs H Q _ => ∃ (a : Addr) (xs : List V) (ds : List Pt), vs = [.ref a] ∧ H a = some (.tup xs) ∧ Paired (fun x d => PtAt H d x) xs ds ∧ xs.length ≤ 100 ∧ ∀ H' b ys, Same H H' → H' b = some (.tup ys) → Paired (fun y d => PtAt H' d y) ys ds → Q (.ref b) H'
theorem paired_same {H H' : Hp} (s : Same H H') : ∀ {ys : List V} {ds : List Pt}, Paired (fun y d => PtAt H d y) ys ds → Paired (fun y d => PtAt H' d y) ys ds
  | _, _, .nil => .nil
  | _, _, .cons h t => .cons (h.same s) (paired_same s t)
theorem paired_get {α β : Type} {R : α → β → Prop} : ∀ {xs : List α} {ys : List β} {i : Nat} {x : α}, Paired R xs ys → xs[i]? = some x → ∃ y, ys[i]? = some y ∧ R x y
  | _, _, i, x, .nil, h => by simp at h
  | _, _, 0, x, .cons (b := b) r _, h => ⟨b, rfl, by rw [← Option.some.inj h]; exact r⟩
  | _, _, i + 1, x, .cons _ t, h => by
    obtain ⟨y, h1, h2⟩ := paired_get (i := i) t (by simpa using h)
    exact ⟨y, by simpa using h1, h2⟩
theorem paired_snoc {α β : Type} {R : α → β → Prop} {x : α} {y : β} : ∀ {xs : List α} {ys : List β}, Paired R xs ys → R x y → Paired R (xs ++ [x]) (ys ++ [y])
  | _, _, .nil, h => .cons h .nil
  | _, _, .cons r t, h => .cons r (paired_snoc t h)
theorem ok_fixed2 (T : TX w K mg) : FnX P w K mg base 3 ("fixed", none) ["value"] [] sp_fixed2 := by
  refine FnX.of T.qd_fixed rfl sc_fixed (fun vs H Q E h => ?_) (fun _ _ _ _ _ _ us hl => match us, hl with | [_], _ => rfl) (fun cdv A outer s H vs Q E hr h => ?_)
  · obtain ⟨a, xs, ds, rfl, _⟩ := h
    rfl
  · obtain ⟨a, xs, ds, rfl, ha, hp, hl, k⟩ := h
    refine ⟨_, (pss_one (ps_ret (pe_ifExp (pt_val (pe_callB call_isiT (by rfl) (T.f "isinstance") bt_isinstance (pa_cons (pv 0) (pa_cons (pe_tup (pa_cons (pe_bltn (v := .ty "list") (by rfl) (T.f "list") bt_list rfl) (pa_cons (pe_bltn (v := .ty "tuple") (by rfl) (T.f "tuple") bt_tuple rfl) pa_nil))) pa_nil)))) (pe_callTy call_tuple_of (by rfl) (T.f "tuple") bt_tuple (pa_cons (pe_lc (own := [("each", 1)]) rfl sc_fixed.nd (pi_tup (pv 0)) (blkOk_by (N := N_fixed) (sc := defScope s_fixed) (by decide +kernel)) (fun _ _ _ _ _ => (pg_name (i := 1) sc_fixed.nd rfl (by first | exact .inl rfl | exact .inr rfl))) (fun _ _ _ _ _ => pts_nil) (fun _ _ _ _ _ => (pe_fx (ok_fixed1 T) (hr.mono (by decide)) (by rfl) (T.g "fixed") (pa_cons (pv 1) pa_nil)))) pa_nil)) (pv 0)))), ?_⟩
    refine ⟨_, rfl, two_le, fun t ht => ?_⟩
    have s1 := Same.new (o := .tup [V.ty "list", V.ty "tuple"]) ht
    have ha1 := s1 _ _ ha
    refine ⟨_, _, _, _, _, _, rfl, upd_same, lt_cls, .base (.tup ha1), kit_lt_tup, true, rfl, iteT ?_⟩
    refine ⟨_, rfl, a, rfl, ⟨_, SqT.of ha1⟩, fun D hD => ?_⟩
    have hp1 := paired_same s1 hp
    refine lc_sm (walk_tup (K := K) (a := a) (xs := xs)) hD (fun i acc H2 => ∃ H3 : Hp, Same H3 H2 ∧ H3 D = none ∧ Paired (fun y d => PtAt H3 d y) acc (ds.take i)) ⟨upd H t (.tup [V.ty "list", V.ty "tuple"]), Same.new hD, hD, .nil⟩ (fun _ s => SqT.of (s _ _ ha1)) (fun i acc H2 H3 hk ⟨H4, h1, h2, h3⟩ => ⟨H4, fun b o e => hk b o (ne_of_none e h2) (h1 b o e), h2, h3⟩) (by omega) ?_ ?_
    · rintro i x acc H2 H3 R R0 hi s2 hacc hla ⟨H4, g1, g2, g3⟩ ⟨rfl, hx⟩ hR hR0
      obtain ⟨d, hd, hdx⟩ := paired_get hp1 hx
      refine ⟨rfl, tY ⟨_, rfl, x, d, rfl, hdx.same s2, fun H5 v' s5 hv' => hR _ _ s5 ?_⟩⟩
      obtain ⟨hil, hie⟩ := List.getElem?_eq_some_iff.mp hd
      refine ⟨fun b => if b = D then none else H5 b, fun b o e => ?_, if_pos rfl, ?_⟩
      · dsimp only at e
        by_cases hb : b = D
        · rw [if_pos hb] at e
          cases e
        · rw [if_neg hb] at e
          exact e
      · rw [List.take_succ_eq_append_getElem hil, hie]
        have sub : ∀ {y : V} {d : Pt} {Hz : Hp}, (∀ b o, b ≠ D → Hz b = some o → H5 b = some o) → (∀ xs, Hz D ≠ some (.tup xs)) → PtAt Hz d y → PtAt (fun b => if b = D then none else H5 b) d y := by
          intro y d Hz hz1 hz2 h
          cases d with
          | i n => exact h
          | p l =>
            obtain ⟨a, h1, h2, h3⟩ := h
            have hne : a ≠ D := fun q => hz2 _ (q ▸ h2)
            exact ⟨a, h1, (if_neg hne).trans (hz1 _ _ hne h2), h3⟩
        refine paired_snoc ?_ (sub (Hz := H5) (fun b o _ e => e) (fun xs q => ?_) hv')
        · clear hR hR0 hla hacc
          generalize ds.take i = es at g3
          induction g3 with
          | nil => exact .nil
          | cons r _ ih => exact .cons (sub (Hz := H4) (fun b o hb e => s5 _ _ (g1 _ _ e)) (fun xs q => by rw [g2] at q; cases q) r) ih
        · rw [s5 _ _ hacc] at q
          cases q
    · rintro acc H2 s2 hacc _ ⟨H4, g1, g2, g3⟩
      have hlen : ds.take xs.length = ds := List.take_of_length_le (Nat.le_of_eq (Paired.length hp).symm)
      rw [hlen] at g3
      refine ⟨D, _, rfl, .inl ⟨SqL.of hacc, fun b nb => ?_⟩⟩
      exact k _ _ _ ((s1.trans s2).new' nb) upd_same (paired_same (g1.new' nb) g3)
end
end K53
end TK53AC

section TK53AD
set_option maxHeartbeats 4000000
namespace K53
open PySem PySem.Spec PyProof.Rows L2 NdefX
/-! ### a method that begins with super().__init__(..) -/
section
variable {P : Program} {w : World} {K : PySem.W.Frag} {mg : Str → Option Value} {base : Heap} {k : Nat} {f f2 C cc cda : Addr} {N ps : List Str} {sp sp2 : Sp} {e : Expr} {es : List Expr} {p0 p1 apos cpos epos : Pos} {rest : List Stmt} {ar : Arg} {name qual file : Str} {tf : Tok}
  {params : Arguments} {scope : Scope} {dV kV doc pm ct oc ccl cl : Value} {an od cdd cld : Option Addr} {osl ccs csl : Array (Option Value)} {vs0 : Array Value} {pl : Sem Bool}
abbrev supBody (e : Expr) (es : List Expr) (p0 p1 apos cpos epos : Pos) (rest : List Stmt) : List Stmt := .Expr (.Call (.Attribute (.Call (.Name "super" p0) [] [] p1) "__init__" apos) (e :: es) [] cpos) epos :: rest
abbrev supNF (name qual : Str) (params : Arguments) (body : List Stmt) (scope : Scope) (cc cda : Addr) : NF := ⟨name, qual, params, body, scope, [("__class__", cc)], cda⟩
theorem fn_super (lk : K.lookup f = some ⟨oc, od, .func (PySem.W.fnX name qual params (supBody e es p0 p1 apos cpos epos rest) scope [("__class__", cc)] dV kV doc pm an (.ref cda) ct), osl⟩) (hcd : PySem.W.codeIn K (.ref cda) qual = true)
    (S : NScope N ps ["__class__"] scope) (par : (params.posonlyargs ++ params.args).head? = some ar) (har : ps[0]? = some ar.arg)
    (hcode : K.lookup cda = some ⟨ccl, cdd, .fields vs0, ccs⟩) (hvs : vs0[2]? = some (.str file tf)) (hfile : ((P.main.file : Str) == file) = true) (hcell : K.lookup cc = some ⟨cl, cld, .cell (some (.ref C)), csl⟩) (hC : (PySem.W.clsIn K C).isSome = true)
    (hsub : PySem.W.mroIn K C (.ref C) = some true) (hsuper : mg "super" = none) (hks : scope.names.lookup ("super" : Str) = some .globalImplicit) (htop : (P.main.scope.names.lookup ("super" : Str)).isSome = false)
    (hm : PySem.W.ks_superIn K C C "__init__" = some (some (.ref f2))) (hno : PySem.W.nsIn K cStatics "thirdparty.any" = some none) (hfi : PySem.W.fnIn K f2 = true) (hft : PySem.W.typeIn K (.ref f2) = some (.type "function")) {j : Nat} (F2 : FnR P w K mg base CX0 j f2 sp2) (hj : j ≤ k)
    (len : ∀ vs H Q E, sp vs H Q E → vs.length = ps.length)
    (hst : ∀ env : Env, starEach (e :: es) env = (false, eval e env) :: starEach es env) (hpl : ∀ env : Env, (backTo cpos (starEach es env)).any (·.1) = false)
    (hx1 : ∀ env : Env, eval (.Call (.Attribute (.Call (.Name "super" p0) [] [] p1) "__init__" apos) (e :: es) [] cpos) env = (do
      let ov ← attributeBase (.Call (.Name "super" p0) [] [] p1) "__init__" env (eval (.Call (.Name "super" p0) [] [] p1) env)
      standAt apos.atName
      let (f, first) ← holding [ov] (getMethod ov "__init__" pl)
      callWith cpos f first (backTo cpos (starEach (e :: es) env)) []))
    (hx2 : ∀ L, interactive (envF (supNF name qual params (supBody e es p0 p1 apos cpos epos rest) scope cc cda) f L) = false)
    (hx3 : ∀ L, swapsWith (.Call (.Attribute (.Call (.Name "super" p0) [] [] p1) "__init__" apos) (e :: es) [] cpos) none epos.line (envF (supNF name qual params (supBody e es p0 p1 apos cpos epos rest) scope cc cda) f L) = pure false)
    (hbody : ∀ (A : Around) (outer : List Env) (s : Shared) (H : Hp) (vs : List V) (Q : VK) (E : XK), Room k (A.deeper (envF (supNF name qual params (supBody e es p0 p1 apos cpos epos rest) scope cc cda) f s.heap.objs.size)) → sp vs H Q E →
      ∃ x us dx fs ta t, vs = V.ref x :: us ∧ H x = some (.ins C dx fs) ∧ PA (ncx CX0 P w K mg base N (supNF name qual params (supBody e es p0 p1 apos cpos epos rest) scope cc cda) f A outer s H E) (e :: es) ta ∧
        PSs (ncx CX0 P w K mg base N (supNF name qual params (supBody e es p0 p1 apos cpos epos rest) scope cc cda) f A outer s H E) rest t ∧
        ta (startF N vs [some (.ref C)]) H fun ws H1 => sp2 (V.ref x :: ws) H1 (fun _ H2 => t { nx := fun _ H' => Q .non H', rt := Q } (startF N vs [some (.ref C)]) H2) E0) :
    FnOk P w K mg base CX0 (k + 1) f (PySem.W.fnX name qual params (supBody e es p0 p1 apos cpos epos rest) scope [("__class__", cc)] dV kV doc pm an (.ref cda) ct) ps sp := by
  refine ⟨len, fun A outer s H args us vs Q E hr e0 hb r hsp => ?_⟩
  have hl := len _ _ _ _ hsp
  have KX : K.In s.heap := e0.mod.kin.keeps fun b o e => (e0.bs b o e).1
  have lim : s.heap.NoLimit := e0.mod.nolimit.keeps fun b o e => (e0.bs b o e).1
  refine ks_codeAny_call_defAt (fd := PySem.W.fnX name qual params (supBody e es p0 p1 apos cpos epos rest) scope [("__class__", cc)] dV kV doc pm an (.ref cda) ct) (body := supBody e es p0 p1 apos cpos epos rest) (binds := ps.zip us) hr.depth (KX _ _ lk) rfl lim (PySem.W.codeRec_of KX hcd) rfl hb
    S.nocell (fun ⟨n, _⟩ hy => S.par n (List.of_mem_zip hy).1) (fun h₁ hns kp => ?_) S.co S.gen S.kind
  obtain ⟨x, us', dx, fs, ta, t, rfl, hx, hta, hpt, hq⟩ := hbody A outer s H vs Q E (hr.deeper _) hsp
  have hbc : base.get? cc = some ⟨cl, cld, .cell (some (.ref C)), csl⟩ := e0.mod.kin _ _ hcell
  have C0 : CellsAt (supNF name qual params (supBody e es p0 p1 apos cpos epos rest) scope cc cda).cl ["__class__"] [some (.ref C)] s.heap H := by
    refine ⟨rfl, fun y c hy => ?_, fun a b c h1 h2 => ?_, fun i y hy => ?_⟩
    · have : y = "__class__" ∧ c = cc := by
        simp only [List.lookup] at hy
        split at hy
        · rename_i h
          exact ⟨by simpa using h, (Option.some.inj hy).symm⟩
        · cases hy
      obtain ⟨rfl, rfl⟩ := this
      exact ⟨(e0.bs _ _ hbc).2, _, _, (e0.bs _ _ hbc).1, rfl⟩
    · have key : ∀ z, List.lookup z [(("__class__" : Str), cc)] = some c → z = "__class__" := fun z hz => by
        simp only [List.lookup] at hz
        split at hz
        · rename_i h
          simpa using h
        · cases hz
      rw [key a h1, key b h2]
    · cases i with
      | zero =>
        obtain rfl := Option.some.inj hy
        refine ⟨cc, by simp [List.lookup], fun v hv => ?_⟩
        obtain rfl : V.ref C = v := Option.some.inj (Option.some.inj hv)
        exact ⟨.ref C, rfl, _, (e0.bs _ _ hbc).1, rfl⟩
      | succ i => simp at hy
  have I : Inv (ncx CX0 P w K mg base N (supNF name qual params (supBody e es p0 p1 apos cpos epos rest) scope cc cda) f A outer s H E) [] (startF N (V.ref x :: us') [some (.ref C)]) H { s with heap := h₁, toks := s.toks + (ps.zip us).length } := inv_startN S hr.hd e0 hl r C0 hns kp
  have X1 : K.In h₁ := KX.keeps kp
  obtain ⟨cdD, hcd2⟩ := Option.isSome_iff_exists.mp hC
  obtain ⟨oD, hD1, hD2⟩ : ∃ oD, h₁.get? C = some oD ∧ oD.data = .cls cdD := by
    unfold PySem.W.clsIn at hcd2
    split at hcd2
    · rename_i c d cd' sl ho
      cases hcd2
      exact ⟨_, X1 _ _ ho, rfl⟩
    · cases hcd2
  have hkfree : scope.names.lookup ("__class__" : Str) = some .free := S.frk _ (by simp)
  obtain ⟨mb, hmb, hboot⟩ := e0.mod.blt
  have kb : ∀ b o, base.get? b = some o → h₁.get? b = some o := fun b o e => kp _ _ (e0.bs b o e).1
  have hxl : (ps.zip us).reverse.lookup ar.arg = some (.ref x) := by
    have ndP : ps.Nodup := by
      have q := S.nd.sublist (List.take_sublist (ps.length + 1) N)
      have p := S.pre
      rw [show ps.length + (["__class__"] : List Str).length = ps.length + 1 from rfl] at p
      rw [p] at q
      exact (List.nodup_append.mp q).1
    refine zip_look (i := 0) ndP har ?_
    cases r with
    | cons r1 r2 =>
      cases r1
      rfl
  obtain ⟨ox, odx, J, hpd⟩ := StX.insC_at I (.inr ⟨dx, fs, hx⟩)
  refine ks_wpAt_execs_cons (ks_wpAt_Expr_any (ks_wpAt_MethodCall (pl := pl) ?_ (hx1 _)) (hx2 _) (hx3 _))
  refine ks_wpAt_super_base (env := envF (supNF name qual params (supBody e es p0 p1 apos cpos epos rest) scope cc cda) f s.heap.objs.size) hks hkfree (by decide) rfl (X1 _ _ lk) rfl par rfl (X1 _ _ hcode) rfl hvs hfile htop ?_
  refine PySem.W.ks_loadName_global S.kind hks (PySem.Calls.loadGlobal_builtin (env := envF (supNF name qual params (supBody e es p0 p1 apos cpos epos rest) scope cc cda) f s.heap.objs.size) (e0.mod.glob.keeps kb) hsuper (hmb.keeps kb) ((hboot "super" (by decide)).trans (by decide +kernel : bootBuiltins "super" = some (.type "super"))) ⟨rfl, ?_⟩)
  refine wpAny_loadName_free S.kind hkfree (by simp [List.lookup, envF]) ⟨_, X1 _ _ hcell, rfl⟩ ?_
  refine wpAny_loadName_local S.kind (S.par _ (List.mem_of_getElem? har)) hns hxl ?_
  refine ks_wpAny_isType_cls hD1 hD2 ⟨rfl, ?_⟩
  refine ks_wpAny_call_super hD1 hD2 J.at_ J.cls (fun c e => by rw [hpd] at e; cases e) (PySem.W.looks_mroIn X1 hsub) (fun h2 e2 k2 => ?_)
  have I2 := ClX.pin_new (t' := s.toks + (ps.zip us).length) I k2 (Nat.le_refl _) e2 (fun v z => nomatch z)
  have X2 : K.In h2 := X1.keeps k2
  obtain ⟨of, hof, hofc⟩ : ∃ of, h2.get? f2 = some of ∧ of.cls = .type "function" := by
    have ht' : (K.lookup f2).map (·.cls) = some (.type "function") := hft
    cases z : K.lookup f2 with
    | none => rw [z] at ht'; cases ht'
    | some of => rw [z] at ht'; exact ⟨of, X2 _ _ z, Option.some.inj ht'⟩
  have hm2 : PySem.W.alongIn K "__init__" ((cdD.mro.dropWhile (· != .ref C)).drop 1) = some (some (.ref f2)) := by
    unfold PySem.W.ks_superIn at hm
    rw [hcd2] at hm
    exact hm
  refine ks_wpAny_getMethod_super e2 (PySem.W.looks_opaque X2 hno) (l₀ := cdD.mro) (fun A Q E s k q => wpAny_bind ((PySem.W.looks_clsIn X2 hcd2) A _ E s k (wpAny_pure q))) rfl X2 hm2 hof hofc (PySem.W.ks_ne X1 J hcd2) (by decide) ?_
  have I3 := ClX.pin_new (s := { s with heap := h2, toks := s.toks + (ps.zip us).length }) (o := PySem.W.methodObj (.ref f2) (.ref x)) (h' := h2.push (PySem.W.methodObj (.ref f2) (.ref x))) (a := h2.objs.size) (t' := s.toks + (ps.zip us).length + 1) I2 (fun b u e => Heap.get?_push_of_some _ e) (Nat.le_refl _) (Heap.get?_push_size _ rfl) (fun v z => nomatch z)
  have hq0 := ClX.pin_at I3
  have hqL : h2.objs.size ≠ s.heap.objs.size := (I3.pin (h2.objs.size, PySem.W.methodObj (.ref f2) (.ref x)) (List.mem_append_right _ List.mem_cons_self)).2.2.1
  have hqb : base.get? h2.objs.size = none := by
    cases z : base.get? h2.objs.size with
    | none => rfl
    | some o => exact absurd (Heap.lt_size (k2 _ _ (kb _ _ z))) (Nat.lt_irrefl _)
  refine PySem.W.callWith_M (K := K) (h₀ := base) (L := s.heap.objs.size) (g := f2) (self := .ref x) (first := []) e0.mod.kin (news_at hqL hqb hq0) List.mem_cons_self hfi (thn (hta.run cpos _ _ _ H _ I3 hq) fun us4 s4 ⟨ws, H2, I4, rv, q2⟩ => ⟨⟨ClX.pin_at I4, I4.kIn⟩, ?_⟩) (hst _) (hpl _)
  refine thn (wpAny_call (PySem.W.method_call (ClX.pin_at I4) (run_fnR (us := .ref x :: us4) (vs := .ref x :: ws) (FnR.mono F2 hj) (hr.deeper _) pass0 I4 (.cons rfl rv) q2))) fun v s5 ⟨v', H3, I5, rv5, q3⟩ => ?_
  refine wpAt_of_wpAny (wpAny_mono (hpt.run _ s5 _ H3 _ (ClX.unpin (ClX.unpin I5)) q3) (fun fl s' hs => ?_) fun e s' hs => hs)
  have fin : ∀ {σ' : L2.St} {H' : Hp} {v : V} {u : Value}, Inv (ncx CX0 P w K mg base N (supNF name qual params (supBody e es p0 p1 apos cpos epos rest) scope cc cda) f A outer s H E) [] σ' H' s' → L2.RelV v u → Q v H' → CE outer P w H s Q u s' :=
    fun {σ' H' v u} J rv q => ⟨v, H', J.os, J.bare, J.base, J.hok, rv, q⟩
  cases fl with
  | ret u =>
    obtain ⟨v, σ', H', J, rv, q⟩ := hs
    exact fin J rv q
  | next =>
    obtain ⟨σ', H', J, q⟩ := hs
    exact fin (v := V.non) (u := Value.none) J rfl q
  | brk =>
    obtain ⟨_, _, _, q⟩ := hs
    exact False.elim q
  | cont =>
    obtain ⟨_, _, _, q⟩ := hs
    exact False.elim q
end
end K53
end TK53AD

section TK53AE
set_option maxHeartbeats 4000000

namespace K53
open PySem PySem.Spec PyProof.Rows L2 NdefX
section
variable {P : Program} {w : World} {K : PySem.W.Frag} {mg : Str → Option Value} {base : Heap}
theorem paired_upd {H : Hp} {x C dx : Addr} {fs : List (Str × V)} {o : HO} (hx : H x = some (.ins C dx fs)) : ∀ {ys : List V} {ds : List Pt}, Paired (fun y d => PtAt H d y) ys ds → Paired (fun y d => PtAt (upd H x o) d y) ys ds
  | _, _, .nil => .nil
  | _, _, .cons (b := d) h t => by
    refine .cons ?_ (paired_upd hx t)
    cases d with
    | i n => exact h
    | p l =>
      obtain ⟨a, h1, h2, h3⟩ := h
      exact ⟨a, h1, (upd_ne (ne_of h2 hx (by intro q; cases q))).trans h2, h3⟩
abbrev ok_fixed (T : TX w K mg) : FnX P w K mg base 3 ("fixed", none) ["value"] [] sp_fixed2 := ok_fixed2 T
abbrev N_Paper_init : List Str := ["self", "word", "parts"]
theorem sc_Paper_init : FnScope N_Paper_init ["self", "word", "parts"] (defScope s_Paper_init) := ⟨rfl, rfl, rfl, by decide +kernel, rfl, by decide +kernel, by decide +kernel⟩
def fPaper (a b : V) : List (Str × V) := [("word", a), ("parts", b)]
theorem lk_Paper_parts {a b : V} : (fPaper a b).lookup ("parts" : Str) = some b := by kernel_rfl
theorem few_P0 {a b : V} : (fPaper a b).length < 1000 := few (by kernel_rfl)
theorem few_P1 {a b u : V} : (putF "answer" u (fPaper a b)).length < 1000 := few (by kernel_rfl)
theorem few_P2 {a b u v : V} : (putF "program" v (putF "answer" u (fPaper a b))).length < 1000 := few (by kernel_rfl)
theorem few_P3 {a b u v x : V} : (putF "step" x (putF "program" v (putF "answer" u (fPaper a b)))).length < 1000 := few (by kernel_rfl)
theorem nw_P4 {a b u v x y : V} : putF "tick" y (putF "step" x (putF "program" v (putF "answer" u (fPaper a b)))) = fFound a b u v x y := by kernel_rfl
theorem nw_P1 {a b y : V} : putF "tick" y (fPaper a b) = fNotYet a b y := by kernel_rfl
theorem nw_Paper {a b : V} : putF "parts" b (putF "word" a []) = fPaper a b := by kernel_rfl
def sp_Paper (K : PySem.W.Frag) : Sp := fun vs H Q _ => ∃ (x C dx pa : Addr) (wd : Str) (xs : List V) (ds : List Pt), vs = [.ref x, .str wd, .ref pa] ∧ H x = some (.ins C dx []) ∧ Cls K C ∧ NoAttr K C "word" ∧ NoAttr K C "parts" ∧ H pa = some (.tup xs) ∧ Paired (fun v d => PtAt H d v) xs ds ∧ xs.length ≤ 100 ∧
  ∀ H' b ys, SameX x H H' → H' x = some (.ins C dx (fPaper (.str wd) (.ref b))) → H' b = some (.tup ys) → Paired (fun y d => PtAt H' d y) ys ds → Q .non H'
theorem ok_Paper (T : TX w K mg) : FnR P w K mg base CX0 4 (He.fAd K ("Paper", some "__init__")) (fun vs H Q E => ∃ ws rest, vs = ws ++ rest ∧ ws.length = 2 ∧ rest.length ≤ sizeLine ∧ ∀ p, H p = none → sp_Paper K (ws ++ [V.ref p]) (upd H p (.tup rest)) Q E) := by
  obtain ⟨fd, F⟩ := T.qd_Paper_init
  obtain ⟨oc, od, dV, kV, doc, pm, an, cdv, ct, osl, rfl, lk, hcd, hdv, _⟩ := F.ex
  have hdv' : dV = .none := by
    rcases hdv with ⟨_, h⟩ | ⟨h, _⟩
    · exact h
    · exact absurd rfl h
  subst hdv'
  refine StX.fn_star (ps := ["self", "word"]) (pv := "parts") lk hcd sc_Paper_init StX.cxUp_none (fun us rest hl => match us, hl with | [_, _], _ => by cases rest <;> rfl) (fun A outer s H vs Q E hr h => ?_)
  obtain ⟨x, C, dx, pa, wd, xs, ds, rfl, hx, cC, n1, n2, hpa, hds, hl, k⟩ := h
  have nxp : pa ≠ x := ne_of hpa hx (by intro q; cases q)
  refine ⟨_, (pss_cons (ps_fld (pv 0) (pv 1) rfl)
  (pss_one (ps_fld (pv 0) (pe_fx (ok_fixed T) (hr.mono (by decide)) (by rfl) (T.g "fixed") (pa_cons (pv 2) pa_nil)) rfl))), ?_⟩
  refine ⟨_, rfl, _, rfl, x, _, dx, _, rfl, hx, cC, n1, by decide, ?_⟩
  have s1 : ∀ b o o', b ≠ x → H b = some o' → upd H x o b = some o' := fun b o o' n e => (upd_ne n).trans e
  refine ⟨_, rfl, pa, xs, ds, rfl, s1 _ _ _ nxp hpa, ?_, hl, fun H1 b ys s2 hb hys => ?_⟩
  · exact paired_upd hx hds
  · have hx1 := s2 _ _ upd_same
    refine ⟨_, rfl, x, _, dx, _, rfl, hx1, cC, n2, few (by kernel_rfl), ?_⟩
    rw [nw_Paper]
    refine k _ b ys (fun c o n e => (upd_ne n).trans (s2 _ _ (s1 _ _ _ n e))) upd_same ((upd_ne (ne_of hb hx1 (by intro q; cases q))).trans hb) ?_
    exact paired_upd hx1 hys
/-- the text is the law's own -/
class PM (P : Program) : Prop where
  file : P.main.file = PySem.Challenge.pw_duetickers_k53_whole_names_of_the_same_l.main.file
  top : (P.main.scope.names.lookup ("super" : Str)).isSome = false
/-- what is seen of a method that says super().__init__(..) -/
structure SupF (K : PySem.W.Frag) (C f f2 : Addr) (d : He.DefD) : Prop where
  ex : ∃ (oc ccl cl : Value) (od an cdd cld : Option Addr) (kV doc pm ct : Value) (osl ccs csl : Array (Option Value)) (cc cda : Addr) (vs : Array Value) (file : Str) (tf : Tok),
    K.lookup f = some ⟨oc, od, .func (PySem.W.fnX d.name d.qual d.params d.body d.scope [("__class__", cc)] .none kV doc pm an (.ref cda) ct), osl⟩ ∧ PySem.W.codeIn K (.ref cda) d.qual = true ∧ K.lookup cda = some ⟨ccl, cdd, .fields vs, ccs⟩ ∧ vs[2]? = some (.str file tf) ∧
      file = PySem.Challenge.pw_duetickers_k53_whole_names_of_the_same_l.main.file ∧ K.lookup cc = some ⟨cl, cld, .cell (some (.ref C)), csl⟩
  cls : (PySem.W.clsIn K C).isSome = true
  sub : PySem.W.mroIn K C (.ref C) = some true
  sup : PySem.W.ks_superIn K C C "__init__" = some (some (.ref f2))
  kp : PySem.W.keepIn K (.ref f) = true
theorem sup_of {x q : Str} {d : He.DefD} (hd : d.at_ = (x, some ("__init__" : Str))) (hq : d.qual = q) (h : fnC K d.at_ = valC d) (b : superB K x q = true) : SupF K (He.ga K x) (He.fAd K (x, some "__init__")) (He.fAd K ("Paper", some "__init__")) d := by
  subst hq
  rw [hd] at h
  unfold superB at b
  obtain ⟨b1, b2⟩ := He.ba b
  obtain ⟨b3, b4⟩ := He.ba b2
  obtain ⟨b5, b6⟩ := He.ba b4
  obtain ⟨b7, b8⟩ := He.ba b6
  obtain ⟨b9, b10⟩ := He.ba b8
  obtain ⟨b11, b12⟩ := He.ba b10
  refine ⟨?_, b11, of_decide_eq_true b7, He.eqO_ok b9, b12⟩
  unfold fnC at h
  split at b1
  · rename_i oc od fd osl hl
    rw [hl] at h
    obtain ⟨c1, c2⟩ := He.ba b1
    obtain ⟨c3, c4⟩ := He.ba c2
    obtain ⟨c5, c6⟩ := He.ba c4
    obtain ⟨c7, c8⟩ := He.ba c6
    have d1 := of_decide_eq_true c1
    have d5 := of_decide_eq_true c5
    have d7 := of_decide_eq_true c7
    obtain ⟨n, q, ps, bd, sc, gl, cl0, df, kd, doc, pm, an, cd, ct, bl⟩ := fd
    have h2 : (n, q, ps, bd, sc, gl, bl) = (d.name, d.qual, d.params, FuncBody.stmts d.body, d.scope, mainGlobals, builtinsNs) := Option.some.inj h
    dsimp only at d1 d5 d7 c3
    simp only [Prod.mk.injEq] at h2
    obtain ⟨rfl, e2, rfl, rfl, rfl, rfl, rfl⟩ := h2
    subst d1 d5 d7
    unfold fileB at b5
    split at b5
    · rename_i ccl cdd vs ccs hcode
      split at b5
      · rename_i file tf hvs
        unfold cellB at b3
        split at b3
        · rename_i cl cld a csl hcell
          have ea := of_decide_eq_true b3
          subst ea
          subst e2
          exact ⟨_, _, _, _, _, _, _, _, _, _, _, _, _, _, _, _, _, _, tf, hl, c3, hcode, hvs, of_decide_eq_true b5, hcell⟩
        · cases b3
      · cases b5
    · cases b5
  · cases b1
theorem TX.supFound (T : TX w K mg) : SupF K (He.ga K "Found") (He.fAd K ("Found", some "__init__")) (He.fAd K ("Paper", some "__init__")) d_Found_init :=
  sup_of rfl rfl (by have := T.c; exact (List.cons.inj this).1) T.superF
theorem TX.supNotYet (T : TX w K mg) : SupF K (He.ga K "NotYet") (He.fAd K ("NotYet", some "__init__")) (He.fAd K ("Paper", some "__init__")) d_NotYet_init :=
  sup_of rfl rfl (by have := T.c; exact (List.cons.inj (List.cons.inj this).2).1) T.superN
abbrev N_Found_init : List Str := ["self", "answer", "program", "step", "tick", "__class__"]
theorem sc_Found_init : NScope N_Found_init ["self", "answer", "program", "step", "tick"] ["__class__"] (defScope s_Found_init) := nscope_by (by decide +kernel)
def sp_Found_init (K : PySem.W.Frag) : Sp := fun vs H Q _ => ∃ (x dx tp : Addr) (a n t : Int) (p : List Str), vs = [.ref x, .int a, .ref tp, .int n, .int t] ∧ H x = some (.ins (He.ga K "Found") dx []) ∧ H tp = some (.tup (p.map V.str)) ∧ p.length ≤ 1000 ∧
  ∀ H' b tp', SameX x H H' → H' x = some (.ins (He.ga K "Found") dx (fFound (.str "found") (.ref b) (.int a) (.ref tp') (.int n) (.int t))) → H' tp' = some (.tup (p.map V.str)) → Q .non H'
theorem ok_Found_init (T : TX w K mg) [PM P] : FnX P w K mg base 5 ("Found", some "__init__") ["self", "answer", "program", "step", "tick"] [] (sp_Found_init K) := by
  obtain ⟨⟨oc, ccl, cl, od, an, cdd, cld, kV, doc, pm, ct, osl, ccs, csl, cc, cda, vs0, file, tf, lk, hcd, hcode, hvs, hfile, hcell⟩, h1, h2, h3, h4⟩ := T.supFound
  have hM : PySem.W.isFn K (.ref (He.fAd K ("Paper", some "__init__"))) = true := (T.meth "Paper" "__init__").fn
  refine ⟨_, [], fn_super (pl := _) lk hcd sc_Found_init rfl rfl hcode hvs (by rw [hfile, PM.file (P := P)]; decide +kernel) hcell h1 h2 (T.f "super") (by decide +kernel) PM.top h3 T.noThird ?_ (by simpa [PySem.W.isFn] using hM) (ok_Paper T) (Nat.le_refl 4) (fun vs H Q E h => ?_) (fun _ => rfl) (fun _ => rfl) (fun _ => rfl) (fun _ => rfl) (fun _ => rfl) (fun A outer s H vs Q E hr h => ?_), h4, .nil, fun s us X hl0 => BindsTo.of_eq ?_⟩
  · obtain ⟨fd, F⟩ := T.qd_Paper_init
    obtain ⟨_, _, _, _, _, _, _, _, _, _, rfl, lk2, _⟩ := F.ex
    unfold PySem.W.fnIn
    rw [show K.lookup (He.fAd K ("Paper", some "__init__")) = _ from lk2]
  · obtain ⟨x, dx, tp, a, n, t, p, rfl, _⟩ := h
    rfl
  · obtain ⟨x, dx, tp, a, n, t, p, rfl, hx, htp, hl, k⟩ := h
    have cF := T.cls "Found"
    refine ⟨x, _, dx, [], _, _, rfl, hx, pa_cons pe_str (pa_cons (pv 1) (pa_cons (pv 2) (pa_cons (pv 3) (pa_cons (pv 4) pa_nil)))), pss_one (ps_asg (pe_fld (pv 0) rfl) (pg_tup (n := 4) rfl (pgs_cons (pg_fld (pv 0)) (pgs_cons (pg_fld (pv 0)) (pgs_cons (pg_fld (pv 0)) (pgs_cons (pg_fld (pv 0)) pgs_nil)))))), ?_⟩
    refine ⟨_, rfl, _, rfl, _, rfl, _, rfl, [V.ref x, V.str "found"], [.int a, .ref tp, .int n, .int t], rfl, rfl, (show 4 ≤ sizeLine by decide), fun q nq => ⟨x, _, dx, q, "found", _, [.i a, .p p, .i n, .i t], rfl, Same.new nq _ _ hx, cF, T.na "Found" "word", T.na "Found" "parts", upd_same,
      .cons rfl (.cons ⟨tp, rfl, Same.new nq _ _ htp, hl⟩ (.cons rfl (.cons rfl .nil))), (show 4 ≤ 100 by decide), fun H' b ys s' hx' hb hys => ?_⟩⟩
    cases hys with
    | cons y1 hys =>
    cases hys with
    | cons y2 hys =>
    cases hys with
    | cons y3 hys =>
    cases hys with
    | cons y4 hys =>
    cases hys
    obtain rfl := y1
    obtain rfl := y3
    obtain rfl := y4
    obtain ⟨tp', rfl, htp', _⟩ := y2
    have nx : tp' ≠ x := ne_of htp' hx' (by intro q; cases q)
    refine ⟨_, rfl, x, _, dx, _, _, rfl, hx', cF, T.na "Found" "parts", lk_Paper_parts, b, _, rfl, SqT.of hb, rfl, _, _, rfl, ?_⟩
    refine ⟨_, rfl, x, _, dx, _, rfl, hx', cF, T.na "Found" "answer", few_P0, _, _, rfl, ?_⟩
    refine ⟨_, rfl, x, _, dx, _, rfl, upd_same, cF, T.na "Found" "program", few_P1, _, _, rfl, ?_⟩
    refine ⟨_, rfl, x, _, dx, _, rfl, upd_same, cF, T.na "Found" "step", few_P2, _, _, rfl, ?_⟩
    refine ⟨_, rfl, x, _, dx, _, rfl, upd_same, cF, T.na "Found" "tick", few_P3, rfl, ?_⟩
    rw [nw_P4, upd_upd, upd_upd, upd_upd]
    refine k _ b tp' (fun c o n e => (upd_ne n).trans (s' _ _ n (Same.new nq _ _ e))) upd_same ((upd_ne nx).trans htp')
  · have X' : us.length = 5 := by
      rw [List.append_nil] at hl0
      exact hl0
    rw [List.append_nil]
    exact match us, X' with | [_, _, _, _, _], _ => rfl
abbrev N_NotYet_init : List Str := ["self", "tick", "__class__"]
theorem sc_NotYet_init : NScope N_NotYet_init ["self", "tick"] ["__class__"] (defScope s_NotYet_init) := nscope_by (by decide +kernel)
def sp_NotYet_init (K : PySem.W.Frag) : Sp := fun vs H Q _ => ∃ (x dx : Addr) (t : Int), vs = [.ref x, .int t] ∧ H x = some (.ins (He.ga K "NotYet") dx []) ∧
  ∀ H' b, SameX x H H' → H' x = some (.ins (He.ga K "NotYet") dx (fNotYet (.str "notyet") (.ref b) (.int t))) → Q .non H'
theorem ok_NotYet_init (T : TX w K mg) [PM P] : FnX P w K mg base 5 ("NotYet", some "__init__") ["self", "tick"] [] (sp_NotYet_init K) := by
  obtain ⟨⟨oc, ccl, cl, od, an, cdd, cld, kV, doc, pm, ct, osl, ccs, csl, cc, cda, vs0, file, tf, lk, hcd, hcode, hvs, hfile, hcell⟩, h1, h2, h3, h4⟩ := T.supNotYet
  have hM : PySem.W.isFn K (.ref (He.fAd K ("Paper", some "__init__"))) = true := (T.meth "Paper" "__init__").fn
  refine ⟨_, [], fn_super (pl := _) lk hcd sc_NotYet_init rfl rfl hcode hvs (by rw [hfile, PM.file (P := P)]; decide +kernel) hcell h1 h2 (T.f "super") (by decide +kernel) PM.top h3 T.noThird ?_ (by simpa [PySem.W.isFn] using hM) (ok_Paper T) (Nat.le_refl 4) (fun vs H Q E h => ?_) (fun _ => rfl) (fun _ => rfl) (fun _ => rfl) (fun _ => rfl) (fun _ => rfl) (fun A outer s H vs Q E hr h => ?_), h4, .nil, fun s us X hl0 => BindsTo.of_eq ?_⟩
  · obtain ⟨fd, F⟩ := T.qd_Paper_init
    obtain ⟨_, _, _, _, _, _, _, _, _, _, rfl, lk2, _⟩ := F.ex
    unfold PySem.W.fnIn
    rw [show K.lookup (He.fAd K ("Paper", some "__init__")) = _ from lk2]
  · obtain ⟨x, dx, t, rfl, _⟩ := h
    rfl
  · obtain ⟨x, dx, t, rfl, hx, k⟩ := h
    have cF := T.cls "NotYet"
    refine ⟨x, _, dx, [], _, _, rfl, hx, pa_cons pe_str (pa_cons (pv 1) pa_nil), pss_one (ps_fld (pv 0) (pe_ix ix_tup (pe_fld (pv 0) rfl) pe_int (fun _ _ => rfl)) rfl), ?_⟩
    refine ⟨_, rfl, [V.ref x, V.str "notyet"], [.int t], rfl, rfl, (show 1 ≤ sizeLine by decide), fun q nq => ⟨x, _, dx, q, "notyet", _, [.i t], rfl, Same.new nq _ _ hx, cF, T.na "NotYet" "word", T.na "NotYet" "parts", upd_same, .cons rfl .nil, (show 1 ≤ 100 by decide), fun H' b ys s' hx' hb hys => ?_⟩⟩
    cases hys with
    | cons y1 hys =>
    cases hys
    obtain rfl := y1
    refine ⟨_, rfl, x, _, dx, _, _, rfl, hx', cF, T.na "NotYet" "parts", lk_Paper_parts, b, _, _, _, rfl, rfl, SqT.of hb, atI_nat (j := 0) rfl, ?_⟩
    refine ⟨_, rfl, x, _, dx, _, rfl, hx', cF, T.na "NotYet" "tick", few_P0, ?_⟩
    rw [nw_P1]
    exact k _ b (fun c o n e => (upd_ne n).trans (s' _ _ n (Same.new nq _ _ e))) upd_same
  · have X' : us.length = 2 := by
      rw [List.append_nil] at hl0
      exact hl0
    rw [List.append_nil]
    exact match us, X' with | [_, _], _ => rfl
end
end K53
end TK53AE

section TK53AF
set_option maxHeartbeats 4000000

namespace K53
open PySem PySem.Spec PyProof.Rows L2
/-! ### what the finder finds -/
structure FoundIs (ln : Str → Nat) (F : List Str → Nat → Bool) (q : List Str) (n t most : Nat) : Prop where
  ex : ∃ D pp t0, MI ln F D (pp ++ [q]) t0 ∧ t = t0 + 1 ∧ n = D / 2 ^ plen ln q ∧ F q n = true
  le : t ≤ most
structure NotIs (ln : Str → Nat) (F : List Str → Nat → Bool) (most : Nat) : Prop where
  ex : ∃ D pend, MI ln F D pend most
def fndF (its : List Itm) (g : Int) : List Str → Nat → Bool := fun p n => fnd p its g n
/-- the paper at v -/
def FAt (K : PySem.W.Frag) (H : Hp) (v : V) (q : List Str) (n t : Nat) : Prop := ∃ x dx b tp a, v = .ref x ∧ H x = some (.ins (He.ga K "Found") dx (fFound (.str "found") (.ref b) (.int a) (.ref tp) (.int (n : Int)) (.int (t : Int)))) ∧ H tp = some (.tup (q.map V.str))
def NAt (K : PySem.W.Frag) (H : Hp) (v : V) : Prop := ∃ x dx fs, v = .ref x ∧ H x = some (.ins (He.ga K "NotYet") dx fs)
def Res (K : PySem.W.Frag) (H : Hp) (v : V) (ln : Str → Nat) (its : List Itm) (g : Int) (most : Nat) : Prop :=
  (∃ q n t, FAt K H v q n t ∧ FoundIs ln (fndF its g) q n t most) ∨ (NAt K H v ∧ NotIs ln (fndF its g) most)
theorem fnd_ans {p : List Str} {its : List Itm} {g : Int} (hg : inBox g = true) {n : Nat} (hn : 1 ≤ n) (h : fnd p its g n = true) : ∃ a, (runT p its g n).ans = some a := by
  obtain ⟨m, rfl⟩ : ∃ m, n = m + 1 := ⟨n - 1, by omega⟩
  have h' : (stepT p its g (runT p its g m)).2 = true := h
  show ∃ a, (stepT p its g (runT p its g m)).1.ans = some a
  have ok := runT_ok (p := p) (its := its) hg m
  unfold stepT at h' ⊢
  by_cases hw : (runT p its g m).waits = 0
  · rw [if_pos hw] at h'
    cases h'
  · rw [if_neg hw]
    obtain ⟨a, ha, _⟩ := ok.ans hw
    exact ⟨a, ha⟩
section
variable {P : Program} {w : World} {K : PySem.W.Frag} {mg : Str → Option Value} {base : Heap} [PM P]
abbrev N_found_in : List Str := ["lot", "most", "tick", "trial"]
theorem sc_found_in : FnScope N_found_in ["lot", "most"] (defScope s_found_in) := ⟨rfl, rfl, rfl, by decide +kernel, rfl, by decide +kernel, by decide +kernel⟩
def sp_found_in (K : PySem.W.Frag) : Sp := fun vs H Q _ => ∃ (H0 : Hp) (x tg pz dx b w : Addr) (ns : List Str) (its : List Itm) (g : Int) (most : Nat), vs = [.ref x, .int (most : Int)] ∧ Thr K H0 H x tg pz dx b w ns its g 0 [] [] ∧ TongueAt K H0 tg ns ∧ TgOk ns ∧ PzAt K H0 pz its ∧ Chk its ∧ inBox g = true ∧ most ≤ 20000 ∧
  ∀ H' v, Same H0 H' → Res K H' v (lnOf ns) its g most → Q v H'
theorem ok_found_in (T : TX w K mg) : FnX P w K mg base 10 ("found_in", none) ["lot", "most"] [] (sp_found_in K) := by
  refine FnX.of T.qd_found_in rfl sc_found_in (fun vs H Q E h => ?_) (fun _ _ _ _ _ _ us hl => match us, hl with | [_, _], _ => rfl) (fun cdv A outer s H vs Q E hr h => ?_)
  · obtain ⟨H0, x, tg, pz, dx, b, wl, ns, its, g, most, rfl, _⟩ := h
    rfl
  · obtain ⟨H0, x, tg, pz, dx, b, wl, ns, its, g, most, rfl, th, htg, hok, hpz, hc, hg, hm, k⟩ := h
    refine ⟨_, (pss_cons (ps_for PassesOwn.never rfl (pi_range2 (by rfl) (T.f "range") (pa_cons pe_int (pa_cons (pe_op op_add (pv 1) pe_int) pa_nil))) (pg_name (i := 2) sc_found_in.nd rfl (by first | exact .inl rfl | exact .inr rfl))
  (pss_cons (ps_set (i := 3) sc_found_in.nd rfl (by first | exact .inl rfl | exact .inr rfl) (pe_mx0 (pv 0) (T.cls "Throng") (T.meth "Throng" "tried") (ok_Throng_tried T) (hr.mono (by decide))))
  (pss_one (ps_if (pt_cmpR op_notN (pv 3) pe_non (nomark _)) (pss_one (ps_ret (pe_kx (T.mkr "Found") (ok_Found_init (P := P) T) (hr.mono (by decide)) (by rfl) (T.g "Found") (pa_cons (pe_fld (pv 3) rfl) (pa_cons (pe_fld (pv 3) rfl) (pa_cons (pe_fld (pv 3) rfl) (pa_cons (pv 2) pa_nil))))))) pss_nil))))
  (pss_one (ps_ret (pe_kx (T.mkr "NotYet") (ok_NotYet_init (P := P) T) (hr.mono (by decide)) (by rfl) (T.g "NotYet") (pa_cons (pv 1) pa_nil))))), ?_⟩
    refine ⟨_, rfl, _, _, rfl, rfl, 1, _, rfl, ⟨by omega, by omega, by omega, by omega⟩, ?_⟩
    rw [show ((most : Int) + 1 - 1).toNat = most by omega]
    refine for_range (fun i σ H' => ∃ (z1 z2 : Option V) (wl : Addr) (D : Nat) (lots : List Lot) (pend : List TR), σ = [some (.ref x), some (.int (most : Int)), z1, z2] ∧ Thr K H0 H' x tg pz dx b wl ns its g D lots pend ∧ MI (lnOf ns) (fndF its g) D (pend.map (·.p)) i) ?_ ?_ ?_
    · exact ⟨none, none, wl, 0, [], [], rfl, th, MI.zero⟩
    · rintro i σ H1 hi ⟨z1, z2, wl, D, lots, pend, rfl, th1, mi⟩
      refine ⟨_, rfl, x, dx, _, rfl, th1.hx, no_Throng_tried, H0, x, tg, pz, dx, b, wl, ns, its, g, D, i, lots, pend, rfl, th1, htg, hok, hpz, hc, hg, mi, by omega, fun H2 D' pp q same ht mi2 hf hbd => ?_, fun H2 w2 D2 lots2 pend2 th2 mi2 => ?_⟩
      · obtain ⟨m1, m2, m3, m4, m5, m6⟩ := mi2.last
        obtain ⟨dt, dr, h1, h2, h3⟩ := ht
        obtain ⟨a, ha⟩ := fnd_ans hg m4 hf
        rw [ha] at h1
        have cT := T.cls "Trial"
        refine ⟨_, rfl, rfl, _, rfl, iteT ?_⟩
        refine ⟨_, rfl, q.a, _, dt, _, _, rfl, h1, cT, T.na "Trial" "answer", lk_Trial_answer, _, rfl, q.a, _, dt, _, _, rfl, h1, cT, T.na "Trial" "program", lk_Trial_program, _, rfl, q.a, _, dt, _, _, rfl, h1, cT, T.na "Trial" "steps", lk_Trial_steps, _, rfl, fun sx sdx nsx nsdx nne => ?_⟩
        have hpl : q.p.length ≤ 1000 := by
          have h5 : q.p.length ≤ plen (lnOf ns) q.p := plen_ge hok.ln m1
          have h6 : 2 ^ plen (lnOf ns) q.p ≤ D' := Nat.le_of_dvd m3 (mi2.pp q.p (by simp)).2.1
          have h7 := exp_lt (Nat.lt_of_le_of_lt h6 hbd)
          omega
        have sA : Same H2 (upd (upd H2 sdx (.own sx)) sx (.ins (He.ga K "Found") sdx [])) := (Same.new nsdx).new' (by rw [upd_ne (Ne.symm nne)]; exact nsx)
        refine ⟨sx, sdx, q.tp, a, _, 1 + (i : Int), q.p, rfl, upd_same, sA _ _ h3, hpl, fun H3 b3 tp3 s3 hx3 ht3 => ⟨rfl, ?_⟩⟩
        have sB : Same H0 H3 := fun c o e => s3 _ _ (ne_of_none (same _ _ e) nsx) (sA _ _ (same _ _ e))
        refine k H3 _ sB (.inl ⟨q.p, D' / 2 ^ plen (lnOf ns) q.p, i + 1, ⟨sx, sdx, b3, tp3, a, rfl, ?_, ht3⟩, ⟨⟨D', pp, i, mi2, rfl, rfl, hf⟩, by omega⟩⟩)
        rw [hx3, show (1 : Int) + (i : Int) = ((i + 1 : Nat) : Int) by omega]
        rfl
      · refine ⟨_, rfl, rfl, _, rfl, iteF ?_⟩
        exact ⟨_, _, w2, D2, lots2, pend2, rfl, th2, mi2⟩
    · rintro σ H1 ⟨z1, z2, wl, D, lots, pend, rfl, th1, mi⟩
      refine ⟨_, rfl, fun sx sdx nsx nsdx nne => ?_⟩
      have sA : Same H1 (upd (upd H1 sdx (.own sx)) sx (.ins (He.ga K "NotYet") sdx [])) := (Same.new nsdx).new' (by rw [upd_ne (Ne.symm nne)]; exact nsx)
      refine ⟨sx, sdx, _, rfl, upd_same, fun H3 b3 s3 hx3 => ⟨rfl, ?_⟩⟩
      have same := th1.same
      have sB : Same H0 H3 := fun c o e => s3 _ _ (ne_of_none (same _ _ e) nsx) (sA _ _ (same _ _ e))
      exact k H3 _ sB (.inr ⟨⟨sx, sdx, _, rfl, hx3⟩, ⟨_, _, mi⟩⟩)
abbrev N_need_given : List Str := ["puzzle", "given"]
theorem sc_need_given : FnScope N_need_given ["puzzle", "given"] (defScope s_need_given) := ⟨rfl, rfl, rfl, by decide +kernel, rfl, by decide +kernel, by decide +kernel⟩
def sp_need_given (K : PySem.W.Frag) : Sp := fun vs H Q _ => ∃ (a dx : Addr) (fs : List (Str × V)) (g : Int), vs = [.ref a, .int g] ∧ H a = some (.ins (He.ga K "Puzzle") dx fs) ∧ inBox g = true ∧ Q .non H
theorem ok_need_given (T : TX w K mg) : FnX P w K mg base 4 ("need_given", none) ["puzzle", "given"] [] (sp_need_given K) := by
  refine FnX.of T.qd_need_given rfl sc_need_given (fun vs H Q E h => ?_) (fun _ _ _ _ _ _ us hl => match us, hl with | [_, _], _ => rfl) (fun cdv A outer s H vs Q E hr h => ?_)
  · obtain ⟨a, dx, fs, g, rfl, _⟩ := h
    rfl
  · obtain ⟨a, dx, fs, g, rfl, ha, hg, k⟩ := h
    have hb := inBox_iff.mp hg
    refine ⟨_, (pss_cons (ps_expr (pe_fx (ok_need_puzzle T) (hr.mono (by decide)) (by rfl) (T.g "need_puzzle") (pa_cons (pv 0) (pa_cons pe_str pa_nil))))
  (pss_one (ps_expr (pe_fx (ok_need_number T) (hr.mono (by decide)) (by rfl) (T.g "need_number") (pa_cons (pv 1) (pa_cons pe_str (pa_cons (pe_un un_neg (pe_gi (by rfl) (T.i "MOST_BOX" 1000000000000000000))) (pa_cons (pe_gi (by rfl) (T.i "MOST_BOX" 1000000000000000000)) pa_nil)))))))), ?_⟩
    refine ⟨_, rfl, a, dx, fs, _, rfl, ha, ?_⟩
    exact ⟨_, rfl, _, rfl, g, _, _, _, rfl, hb.1, hb.2, k⟩
abbrev N_find : List Str := ["tongue", "puzzle", "given", "most"]
theorem sc_find : FnScope N_find ["tongue", "puzzle", "given", "most"] (defScope s_find) := ⟨rfl, rfl, rfl, by decide +kernel, rfl, by decide +kernel, by decide +kernel⟩
def sp_find (K : PySem.W.Frag) : Sp := fun vs H Q _ => ∃ (tg pz : Addr) (ns : List Str) (its : List Itm) (g : Int) (most : Nat), vs = [.ref tg, .ref pz, .int g, .int (most : Int)] ∧ TongueAt K H tg ns ∧ TgOk ns ∧ PzAt K H pz its ∧ Chk its ∧ inBox g = true ∧ 1 ≤ most ∧ most ≤ 20000 ∧
  ∀ H' v, Same H H' → Res K H' v (lnOf ns) its g most → Q v H'
theorem ok_find (T : TX w K mg) : FnX P w K mg base 11 ("find", none) ["tongue", "puzzle", "given", "most"] [] (sp_find K) := by
  refine FnX.of T.qd_find rfl sc_find (fun vs H Q E h => ?_) (fun _ _ _ _ _ _ us hl => match us, hl with | [_, _, _, _], _ => rfl) (fun cdv A outer s H vs Q E hr h => ?_)
  · obtain ⟨tg, pz, ns, its, g, most, rfl, _⟩ := h
    rfl
  · obtain ⟨tg, pz, ns, its, g, most, rfl, htg, hok, hpz, hc, hg, h1, h2, k⟩ := h
    obtain ⟨dt, tt, ht1, ht2⟩ := id htg
    obtain ⟨dz, tz, hz1, hz2⟩ := id hpz
    refine ⟨_, (pss_cons (ps_expr (pe_fx (ok_need_tongue T) (hr.mono (by decide)) (by rfl) (T.g "need_tongue") (pa_cons (pv 0) pa_nil)))
  (pss_cons (ps_expr (pe_fx (ok_need_given (P := P) T) (hr.mono (by decide)) (by rfl) (T.g "need_given") (pa_cons (pv 1) (pa_cons (pv 2) pa_nil))))
  (pss_cons (ps_expr (pe_fx (ok_need_number T) (hr.mono (by decide)) (by rfl) (T.g "need_number") (pa_cons (pv 3) (pa_cons pe_str (pa_cons pe_int (pa_cons (pe_gi (by rfl) (T.i "MOST_TICKS" 20000)) pa_nil))))))
  (pss_one (ps_ret (pe_fx (ok_found_in (P := P) T) (hr.mono (by decide)) (by rfl) (T.g "found_in") (pa_cons (pe_kx (T.mkr "Throng") (ok_Throng_init T) (hr.mono (by decide)) (by rfl) (T.g "Throng") (pa_cons (pv 0) (pa_cons (pv 1) (pa_cons (pv 2) pa_nil)))) (pa_cons (pv 3) pa_nil)))))))), ?_⟩
    refine ⟨_, rfl, tg, dt, _, _, rfl, ht1, ?_⟩
    refine ⟨_, rfl, _, rfl, pz, dz, _, g, rfl, hz1, hg, ?_⟩
    refine ⟨_, rfl, (most : Int), _, _, _, rfl, by omega, by omega, ?_⟩
    refine ⟨_, rfl, _, rfl, _, rfl, fun x dx nx ndx nne => ?_⟩
    have sA : Same H (upd (upd H dx (.own x)) x (.ins (He.ga K "Throng") dx [])) := (Same.new ndx).new' (by rw [upd_ne (Ne.symm nne)]; exact nx)
    refine ⟨x, dx, tg, pz, ns, its, g, rfl, upd_same, htg.same sA, hok, fun H1 b wl s1 hx1 hb1 hw1 hbw hbn hwn => ⟨rfl, ?_⟩⟩
    have hnx : H x = none := nx
    have sB : Same H H1 := fun c o e => s1 _ _ (ne_of_none e nx) (sA _ _ e)
    refine ⟨_, rfl, H, x, tg, pz, dx, b, wl, ns, its, g, most, rfl, ⟨sB, nx, sA.free hbn, sA.free hwn, hbw, hx1, hb1, hw1, fun i o h => by simp at h, fun i o h => by simp at h, fun t h => (List.not_mem_nil h).elim, List.Pairwise.nil, fun t h => (List.not_mem_nil h).elim, Nat.two_pow_pos _, .inl ⟨rfl, rfl⟩, by decide⟩, htg, hok, hpz, hc, hg, h2, fun H2 v s2 hv => k H2 v s2 hv⟩
end
end K53
end TK53AF

section TK53AG
set_option maxHeartbeats 4000000

namespace K53
open PySem PySem.Spec PyProof.Rows L2
/-- a comprehension in which the object at p may change -/
theorem lc_sx {J : It} {n : Nat} {G : Hp → Prop} {Y : Nat → Hp → V → Hp → Prop} (w : Walk J n G Y) {g : TG} {tt : TT} {te : TE} {vs : List Nat} {σ : L2.St} {H1 : Hp} {D : Addr} {Qd : Hp → Prop} (p : Addr) (hp : D ≠ p) (hD : H1 D = none) (I : Nat → List V → Hp → Prop)
    (h0 : I 0 [] (upd H1 D (.lst []))) (hG : ∀ H, SameX p H1 H → G H) (hI : ∀ i acc H H', (∀ b o, b ≠ D → H b = some o → H' b = some o) → I i acc H → I i acc H') (hn : n ≤ 16777216)
    (hs : ∀ (i : Nat) (x : V) (acc : List V) (H H' : Hp) (R : VK) (R0 : Hp → Prop), i < n → SameX p H1 H → H D = some (.lst acc) → acc.length ≤ i → I i acc H → Y i H x H' → (∀ y H4, SameX p H H4 → I (i + 1) (acc ++ [y]) H4 → R y H4) → (∀ H3, SameX p H H3 → I (i + 1) acc H3 → R0 H3) →
      g x (wipe σ vs) H' fun σ2 H2 => wipe σ2 vs = wipe σ vs ∧ tt σ2 H2 fun b H3 => if b = true then te σ2 H3 R else R0 H3)
    (hd : ∀ acc H, SameX p H1 H → H D = some (.lst acc) → acc.length ≤ n → I n acc H → Qd H) :
    ∃ W : Nat → Nat → Hp → Prop, (∃ m, W 0 m (upd H1 D (.lst []))) ∧ ∀ i m H, W i m H →
      (J.stop i H ∧ Qd H) ∨ (J.go i H ∧ ∃ Nx : Hp → Prop, (∀ H', Nx H' → ∃ m', m' < m ∧ W (i + 1) m' H') ∧ ∀ x H', J.yld i H x H' → g x (wipe σ vs) H' fun σ2 H2 => wipe σ2 vs = wipe σ vs ∧ tt σ2 H2 fun b H3 =>
        if b = true then te σ2 H3 fun y H4 => ∃ acc, H4 D = some (.lst acc) ∧ acc.length < sizeLine ∧ Nx (upd H4 D (.lst (acc ++ [y]))) else Nx H3) := by
  refine lc_it w (fun i H => SameX p H1 H ∧ ∃ acc, H D = some (.lst acc) ∧ acc.length ≤ i ∧ I i acc H) ⟨(Same.new hD).x, [], upd_same, Nat.le_refl _, h0⟩ (fun i H _ q => hG H q.1) ?_ ?_
  · rintro i x H H' hi ⟨s1, acc, hacc, hl, hI1⟩ y
    refine hs i x acc H H' _ _ hi s1 hacc hl hI1 y (fun z H4 s4 i4 => ?_) fun H3 s3 i3 => ?_
    · refine ⟨acc, s4 _ _ hp hacc, size24' (by omega), fun b o nb e => ?_, _, upd_same, by rw [List.length_append, List.length_singleton]; omega, hI _ _ _ _ (fun b o nb e => ?_) i4⟩
      · rw [upd_ne (ne_of_none e hD)]
        exact s4 _ _ nb (s1 _ _ nb e)
      · rw [upd_ne nb]
        exact e
    · exact ⟨s1.trans s3, acc, s3 _ _ hp hacc, by omega, i3⟩
  · rintro H ⟨s1, acc, hacc, hl, hI1⟩
    exact hd acc H s1 hacc hl hI1
theorem mix_bd {m a : Int} (h0 : 0 ≤ m) (h1 : m < 2147483587) (h2 : 0 ≤ a) (h3 : a ≤ 1000000) : (m * (2 * a + 2557) + 71237 * a * a + 31177).natAbs < 2 ^ 64 := by
  have e1 : m * (2 * a + 2557) ≤ 2147483587 * 2002557 := Int.mul_le_mul (by omega) (by omega) (by omega) (by omega)
  have e0 : 0 ≤ m * (2 * a + 2557) := Int.mul_nonneg h0 (by omega)
  have e2 : 71237 * a * a ≤ 71237000000 * 1000000 := Int.mul_le_mul (by omega) h3 h2 (by omega)
  have e3 : 0 ≤ 71237 * a * a := Int.mul_nonneg (by omega) h2
  omega
theorem mix_bd1 {c a : Int} (h2 : 0 ≤ a) (h3 : a ≤ 1000000) : (c % 2147483549 + 31177 * a + 5167).natAbs < 2 ^ 64 := by
  have q1 := Int.emod_nonneg c (by decide : (2147483549 : Int) ≠ 0)
  have q2 := Int.emod_lt_of_pos c (by decide : (0 : Int) < 2147483549)
  omega
theorem cut_to' {xs : List V} {k : Nat} : cutV xs none (some (k : Int)) = xs.take k := by
  by_cases h : k ≤ xs.length
  · exact cut_to h
  · unfold cutV
    rw [HT.sIx_none, HT.sIx_nat, List.drop_zero, Nat.sub_zero, Nat.min_eq_right (by omega), List.take_length, List.take_of_length_le (by omega)]
section
variable {P : Program} {w : World} {K : PySem.W.Frag} {mg : Str → Option Value} {base : Heap} [PM P]
abbrev N_l_choir : List Str := ["_law_script", "_law_cell"]
theorem sc_l_choir : FnScope N_l_choir ["_law_script"] (defScope s_l_choir) := ⟨rfl, rfl, rfl, by decide +kernel, rfl, by decide +kernel, by decide +kernel⟩
/-- the choir: cells, the place, the rest -/
def CH (H : Hp) (c cl : Addr) (n : Nat) : Prop := ∃ (ns : List Int) (at_ : Nat) (r : Int), H c = some (.lst [.ref cl, .int (at_ : Int), .int r]) ∧ H cl = some (.lst (ns.map V.int)) ∧ at_ ≤ n ∧ 0 ≤ r ∧ ns.length ≤ 63 ∧ c ≠ cl
def sp_l_choir (K : PySem.W.Frag) : Sp := fun vs H Q _ => ∃ (a : Addr) (ns : List Int), vs = [.ref a] ∧ SqL K H a (ns.map V.int) ∧ ∀ H' c cl, Same H H' → H c = none → CH H' c cl 0 → Q (.ref c) H'
theorem ok_l_choir (T : TX w K mg) : FnX P w K mg base 1 ("_law_choir", none) ["_law_script"] [] (sp_l_choir K) := by
  refine FnX.of T.qd_l_choir rfl sc_l_choir (fun vs H Q E h => ?_) (fun _ _ _ _ _ _ us hl => match us, hl with | [_], _ => rfl) (fun cdv A outer s H vs Q E hr h => ?_)
  · obtain ⟨a, ns, rfl, _⟩ := h
    rfl
  · obtain ⟨a, ns, rfl, ha, k⟩ := h
    refine ⟨_, (pss_one (ps_ret (pe_lst (pa_cons (pe_lc (own := [("_law_cell", 1)]) rfl sc_l_choir.nd (pi_list (pe_slice sl_list (pv 0) po_none (po_some pe_int))) (blkOk_by (N := N_l_choir) (sc := defScope s_l_choir) (by decide +kernel)) (fun _ _ _ _ _ => (pg_name (i := 1) sc_l_choir.nd rfl (by first | exact .inl rfl | exact .inr rfl))) (fun _ _ _ _ _ => pts_nil) (fun _ _ _ _ _ => (pe_callTy call_int1 (by rfl) (T.f "int") bt_int (pa_cons (pv 1) pa_nil)))) (pa_cons pe_int (pa_cons pe_int pa_nil)))))), ?_⟩
    refine ⟨_, rfl, 63, rfl, a, _, rfl, ha, fun a2 na2 => ?_⟩
    have hcut : cutV (ns.map V.int) none (some ((63 : Nat) : Int)) = (ns.take 63).map V.int := by
      rw [cut_to', List.map_take]
    rw [show cutV (ns.map V.int) none (some 63) = (ns.take 63).map V.int from hcut]
    have s1 : Same H (upd H a2 (.lst ((ns.take 63).map V.int))) := Same.new na2
    refine ⟨a2, rfl, ⟨_, SqL.of upd_same⟩, fun D hD => ?_⟩
    have hl63 : (ns.take 63).length ≤ 63 := by rw [List.length_take]; omega
    refine lc_sm (walk_list (K := K) (a := a2) (xs := (ns.take 63).map V.int)) hD (fun i acc _ => acc = ((ns.take 63).take i).map V.int) rfl (fun _ s => SqL.of (s _ _ upd_same)) (fun _ _ _ _ _ h => h) (by rw [List.length_map]; omega) ?_ ?_
    · rintro i x acc H2 H3 R R0 hi s2 hacc hla rfl ⟨rfl, hx⟩ hR hR0
      rw [List.getElem?_map] at hx
      obtain ⟨z, hz, rfl⟩ := Option.map_eq_some_iff.mp hx
      refine ⟨rfl, tY ⟨_, rfl, .inl ⟨z, rfl, hR _ _ (Same.refl _) ?_⟩⟩⟩
      obtain ⟨hil, hie⟩ := List.getElem?_eq_some_iff.mp hz
      rw [List.take_succ_eq_append_getElem hil, List.map_append, hie]
      rfl
    · rintro acc H2 s2 hacc _ rfl
      rw [List.length_map, List.take_length] at hacc
      refine ⟨(show 3 ≤ sizeLine by decide), fun c nc => ?_⟩
      exact k _ c D ((s1.trans s2).new' nc) ((s1.trans s2).free nc) ⟨_, 0, 0, upd_same, Same.new nc _ _ hacc, Nat.le_refl _, Int.le_refl _, hl63, (ne_of_none hacc nc).symm⟩
abbrev N_l_chant : List Str := ["_law_choir_here", "_law_many", "_law_rest", "_law_at", "_law_cell", "_law_mixed"]
theorem sc_l_chant : FnScope N_l_chant ["_law_choir_here", "_law_many"] (defScope s_l_chant) := ⟨rfl, rfl, rfl, by decide +kernel, rfl, by decide +kernel, by decide +kernel⟩
def sp_l_chant : Sp := fun vs H Q _ => ∃ (c cl : Addr) (many n : Nat), vs = [.ref c, .int (many : Int)] ∧ CH H c cl n ∧ 1 ≤ many ∧ many ≤ 16777216 ∧ n ≤ 1000000 ∧ ∀ H' (r : Nat), SameX c H H' → CH H' c cl (n + 1) → r < many → Q (.int (r : Int)) H'
theorem ok_l_chant (T : TX w K mg) : FnX P w K mg base 1 ("_law_chant", none) ["_law_choir_here", "_law_many"] [] sp_l_chant := by
  refine FnX.of T.qd_l_chant rfl sc_l_chant (fun vs H Q E h => ?_) (fun _ _ _ _ _ _ us hl => match us, hl with | [_, _], _ => rfl) (fun cdv A outer s H vs Q E hr h => ?_)
  · obtain ⟨c, cl, many, n, rfl, _⟩ := h
    rfl
  · obtain ⟨c, cl, many, n, rfl, hch, h1, hM, h2, k⟩ := h
    refine ⟨_, (pss_cons (ps_if (pt_cmpR op_gt (pe_ix ix_list (pv 0) pe_int (fun _ _ => rfl)) pe_int (nomark _)) (pss_cons (ps_set (i := 2) sc_l_chant.nd rfl (by first | exact .inl rfl | exact .inr rfl) (pe_callTy call_int1 (by rfl) (T.f "int") bt_int (pa_cons (pe_ix ix_list (pv 0) pe_int (fun _ _ => rfl)) pa_nil)))
  (pss_cons (ps_asg (pe_op op_fdiv (pv 2) (pv 1)) (pg_sub (pv 0) pe_int set_list))
  (pss_one (ps_ret (pe_op op_mod (pe_callTy call_int1 (by rfl) (T.f "int") bt_int (pa_cons (pv 2) pa_nil)) (pv 1)))))) pss_nil)
  (pss_cons (ps_set (i := 3) sc_l_chant.nd rfl (by first | exact .inl rfl | exact .inr rfl) (pe_ix ix_list (pv 0) pe_int (fun _ _ => rfl)))
  (pss_cons (ps_asg (pe_op op_add (pv 3) pe_int) (pg_sub (pv 0) pe_int set_list))
  (pss_cons (ps_set (i := 4) sc_l_chant.nd rfl (by first | exact .inl rfl | exact .inr rfl) (pe_op op_add (pe_op op_mul pe_int (pv 3)) pe_int))
  (pss_cons (ps_if (pt_cmpR (op_ne0 hr.units0) (pe_ix ix_list (pv 0) pe_int (fun _ _ => rfl)) (pe_lst pa_nil) (nomark _)) (pss_one (ps_set (i := 4) sc_l_chant.nd rfl (by first | exact .inl rfl | exact .inr rfl) (pe_ix ix_list (pe_ix ix_list (pv 0) pe_int (fun _ _ => rfl)) (pe_op op_mod (pe_callTy call_int1 (by rfl) (T.f "int") bt_int (pa_cons (pv 3) pa_nil)) (pe_callB call_len_seq (by rfl) (T.f "len") PySem.boot_len (pa_cons (pe_ix ix_list (pv 0) pe_int (fun _ _ => rfl)) pa_nil))) (fun _ _ => rfl)))) pss_nil)
  (pss_cons (ps_if (PW.pt (pw_and (pt_cmpR op_lt (pv 3) (pe_callB call_len_seq (by rfl) (T.f "len") PySem.boot_len (pa_cons (pe_ix ix_list (pv 0) pe_int (fun _ _ => rfl)) pa_nil)) (nomark _)) (pw_and1 (pt_cmpR op_ge (pe_callB call_abs (by rfl) (T.f "abs") bt_abs (pa_cons (pv 4) pa_nil)) (pe_op op_pow pe_int pe_int) (nomark _))))) (pss_cons (ps_set (i := 2) sc_l_chant.nd rfl (by first | exact .inl rfl | exact .inr rfl) (pe_op op_add (pe_op op_mul pe_int (pe_op op_sub (pe_callB call_abs (by rfl) (T.f "abs") bt_abs (pa_cons (pv 4) pa_nil)) (pe_op op_pow pe_int pe_int))) (pe_callTy call_int1 (by rfl) (T.f "int") bt_int (pa_cons (pe_cmpR op_lt (pv 4) pe_int (nomark _)) pa_nil))))
  (pss_cons (ps_asg (pe_op op_fdiv (pe_callTy call_int1 (by rfl) (T.f "int") bt_int (pa_cons (pv 2) pa_nil)) (pv 1)) (pg_sub (pv 0) pe_int set_list))
  (pss_one (ps_ret (pe_op op_mod (pe_callTy call_int1 (by rfl) (T.f "int") bt_int (pa_cons (pv 2) pa_nil)) (pv 1)))))) pss_nil)
  (pss_cons (ps_set (i := 5) sc_l_chant.nd rfl (by first | exact .inl rfl | exact .inr rfl) (pe_op op_mod (pe_callTy call_int1 (by rfl) (T.f "int") bt_int (pa_cons (pe_op op_pow (pe_op op_add (pe_op op_add (pe_op op_mod (pe_callTy call_int1 (by rfl) (T.f "int") bt_int (pa_cons (pv 4) pa_nil)) pe_int) (pe_op op_mul pe_int (pv 3))) pe_int) pe_int) pa_nil)) pe_int))
  (pss_cons (ps_set (i := 5) sc_l_chant.nd rfl (by first | exact .inl rfl | exact .inr rfl) (pe_op op_mod (pe_callTy call_int1 (by rfl) (T.f "int") bt_int (pa_cons (pe_op op_pow (pe_op op_add (pe_op op_add (pe_op op_mul (pv 5) (pe_op op_add (pe_op op_mul pe_int (pv 3)) pe_int)) (pe_op op_mul (pe_op op_mul pe_int (pv 3)) (pv 3))) pe_int) pe_int) pa_nil)) pe_int))
  (pss_one (ps_ret (pe_op op_mod (pe_callTy call_int1 (by rfl) (T.f "int") bt_int (pa_cons (pe_op op_fdiv (pv 5) pe_int) pa_nil)) (pv 1)))))))))))), ?_⟩
    obtain ⟨ns, at_, r, hc, hcl, hat, hr0, hnl, hne⟩ := hch
    have g0 : atI [V.ref cl, V.int (at_ : Int), V.int r] 0 = some (V.ref cl) := rfl
    have g1 : atI [V.ref cl, V.int (at_ : Int), V.int r] 1 = some (V.int (at_ : Int)) := rfl
    have g2 : atI [V.ref cl, V.int (at_ : Int), V.int r] 2 = some (V.int r) := rfl
    have fin : ∀ (H' : Hp) (at' : Nat) (r' q : Int), SameX c H H' → H' c = some (.lst [.ref cl, .int (at' : Int), .int r']) → at' ≤ n + 1 → 0 ≤ r' → 0 ≤ q → q < (many : Int) → Q (.int q) H' := fun H' at' r' q s1 e1 e2 e3 e4 e5 => by
      have := k H' q.toNat s1 ⟨ns, at', r', e1, s1 _ _ (Ne.symm hne) hcl, e2, e3, hnl, hne⟩ (by omega)
      rwa [Int.toNat_of_nonneg e4] at this
    have hmp : (0 : Int) < (many : Int) := by omega
    refine ⟨_, rfl, c, _, _, _, rfl, rfl, SqL.of hc, g2, _, _, rfl, rfl, _, rfl, ?_⟩
    by_cases hr : (0 : Int) < r
    · rw [decide_eq_true hr]
      refine iteT ⟨_, rfl, c, _, _, _, rfl, rfl, SqL.of hc, g2, .inl ⟨r, rfl, ?_⟩⟩
      refine ⟨_, rfl, _, rfl, _, _, rfl, rfl, ⟨hmp, by omega⟩, _, rfl, c, _, 2, 2, rfl, rfl, hc, (show ixN 3 2 = some 2 by decide), ?_⟩
      refine ⟨_, rfl, .inl ⟨r, rfl, _, rfl, _, _, rfl, rfl, hmp, ?_⟩⟩
      exact fin _ at_ _ _ (SameX.refl c H).put upd_same (by omega) (Int.ediv_nonneg hr0 (by omega)) (Int.emod_nonneg _ (by omega)) (Int.emod_lt_of_pos _ hmp)
    · rw [decide_eq_false hr]
      refine iteF ⟨_, rfl, c, _, _, _, rfl, rfl, SqL.of hc, g1, ?_⟩
      refine ⟨_, rfl, _, _, rfl, rfl, _, rfl, c, _, 1, 1, rfl, rfl, hc, (show ixN 3 1 = some 1 by decide), ?_⟩
      have hc1 : upd H c (([V.ref cl, V.int (at_ : Int), V.int r]).set 1 (V.int ((at_ : Int) + 1)) |> HO.lst) c = some (.lst [.ref cl, .int (((at_ + 1 : Nat) : Int)), .int r]) := upd_same
      have s1 : SameX c H (upd H c (.lst (([V.ref cl, V.int (at_ : Int), V.int r]).set 1 (V.int ((at_ : Int) + 1))))) := (SameX.refl c H).put
      have hcl1 := s1 _ _ (Ne.symm hne) hcl
      dsimp only
      generalize upd H c (.lst (([V.ref cl, V.int (at_ : Int), V.int r]).set 1 (V.int ((at_ : Int) + 1)))) = H1 at hc1 s1 hcl1
      have fin1 : ∀ (H' : Hp) (r' q : Int), SameX c H1 H' → H' c = some (.lst [.ref cl, .int (((at_ + 1 : Nat) : Int)), .int r']) → 0 ≤ r' → 0 ≤ q → q < (many : Int) → Q (.int q) H' := fun H' r' q s2 e1 e3 e4 e5 => fin H' (at_ + 1) r' q (s1.trans s2) e1 (by omega) e3 e4 e5
      have h0 : atI [V.ref cl, V.int (((at_ + 1 : Nat) : Int)), V.int r] 0 = some (V.ref cl) := rfl
      have h2' : atI [V.ref cl, V.int (((at_ + 1 : Nat) : Int)), V.int r] 2 = some (V.int r) := rfl
      -- cell = ..
      refine ⟨_, rfl, _, _, rfl, rfl, .inl ⟨by decide, by decide⟩, _, _, rfl, rfl, ?_⟩
      -- if choir[0] != []
      refine ⟨_, rfl, c, _, _, _, rfl, rfl, SqL.of hc1, h0, Nat.zero_le _, fun e ne => ⟨cl, e, _, rfl, rfl, SqL.of (Same.new ne _ _ hcl1), upd_same, _, rfl, ?_⟩⟩
      have sE : Same H1 (upd H1 e (.lst [])) := Same.new ne
      have hcE := sE _ _ hc1
      have hclE := sE _ _ hcl1
      generalize upd H1 e (.lst []) = H2 at sE hcE hclE ⊢
      have s2x : SameX c H1 H2 := sE.x
      have fin2 : ∀ (H' : Hp) (r' q : Int), SameX c H2 H' → H' c = some (.lst [.ref cl, .int (((at_ + 1 : Nat) : Int)), .int r']) → 0 ≤ r' → 0 ≤ q → q < (many : Int) → Q (.int q) H' := fun H' r' q s2 => fin1 H' r' q (s2x.trans s2)
      clear fin1 fin s1 sE s2x ne hcl1 hc1 hcl hc
      have hrz : r = 0 := by omega
      have key : ∃ cell : Int, ns ≠ [] → atI (ns.map V.int) ((at_ : Int) % ((ns.map V.int).length : Int)) = some (V.int cell) := by
        by_cases hn : ns = []
        · exact ⟨0, fun h => absurd hn h⟩
        · have hlen : 0 < ns.length := List.length_pos_iff.mpr hn
          have hm : at_ % ns.length < ns.length := Nat.mod_lt _ hlen
          refine ⟨ns[at_ % ns.length], fun _ => ?_⟩
          rw [List.length_map, ← Int.natCast_emod]
          refine atI_nat ?_
          rw [List.getElem?_map, List.getElem?_eq_getElem hm]
          rfl
      obtain ⟨cell0, hcell⟩ := key
      cases hns : ns with
      | nil =>
        rw [hns] at hclE hnl
        refine iteF ?_
        dsimp only
        generalize (71237 : Int) * (at_ : Int) + 5167 = cell
        refine ⟨_, rfl, _, rfl, c, _, _, _, rfl, rfl, SqL.of hcE, h0, cl, _, rfl, .inl (SqL.of hclE), _, _, rfl, rfl, _, rfl, ?_⟩
        generalize decide ((at_ : Int) < _) = bA
        cases bA with
        | false =>
          refine iteF (iteF ?_)
          refine ⟨_, rfl, .inl ⟨cell, rfl, _, _, rfl, rfl, (by decide : (0 : Int) < 2147483549), _, rfl, _, _, rfl, rfl, .inl ⟨by decide, by decide⟩, _, _, rfl, rfl, _, _, rfl, rfl, _, _, rfl, rfl, ⟨by decide, by decide, mix_bd1 (by omega) (by omega)⟩, .inl ⟨_, rfl, _, _, rfl, rfl, (by decide : (0 : Int) < 2147483587), ?_⟩⟩⟩
          have q1 := Int.emod_nonneg ((cell % 2147483549 + 31177 * (at_ : Int) + 5167) ^ (5 : Int).toNat) (by decide : (2147483587 : Int) ≠ 0)
          have q2 := Int.emod_lt_of_pos ((cell % 2147483549 + 31177 * (at_ : Int) + 5167) ^ (5 : Int).toNat) (by decide : (0 : Int) < 2147483587)
          dsimp only at q1 q2 ⊢
          generalize (cell % 2147483549 + 31177 * (at_ : Int) + 5167) ^ (5 : Int).toNat % 2147483587 = m1 at q1 q2 ⊢
          refine ⟨_, rfl, _, rfl, _, _, rfl, rfl, .inl ⟨by decide, by decide⟩, _, _, rfl, rfl, _, _, rfl, rfl, .inl ⟨by omega, by omega⟩, _, rfl, _, _, rfl, rfl, .inl ⟨by decide, by decide⟩, _, rfl, _, _, rfl, rfl, .inr ⟨by omega, by omega⟩, _, _, rfl, rfl, _, _, rfl, rfl, _, _, rfl, rfl, ⟨by decide, by decide, mix_bd q1 q2 (by omega) (by omega)⟩, .inl ⟨_, rfl, _, _, rfl, rfl, (by decide : (0 : Int) < 2147483629), ?_⟩⟩
          refine ⟨_, rfl, _, _, rfl, rfl, ⟨by decide, by decide⟩, .inl ⟨_, rfl, _, rfl, _, _, rfl, rfl, hmp, ?_⟩⟩
          exact fin2 _ r _ (SameX.refl c H2) hcE hr0 (Int.emod_nonneg _ (by omega)) (Int.emod_lt_of_pos _ hmp)
        | true =>
        refine iteT ⟨_, rfl, cell, rfl, _, _, rfl, rfl, ⟨by decide, by decide, by decide⟩, _, _, rfl, rfl, _, rfl, ?_⟩
        dsimp only
        by_cases hB : (10 : Int) ^ (18 : Int).toNat ≤ (if cell < 0 then -cell else cell)
        · rw [decide_eq_true hB]
          refine iteT ⟨_, rfl, cell, rfl, _, _, rfl, rfl, ⟨by decide, by decide, by decide⟩, _, _, rfl, rfl, _, _, rfl, rfl, .inl ⟨by decide, by decide⟩, _, rfl, _, _, rfl, rfl, .inr ⟨_, rfl, _, _, rfl, rfl, ?_⟩⟩
          dsimp only
          have hq : (0 : Int) ≤ 2 * ((if cell < 0 then -cell else cell) - 10 ^ (18 : Int).toNat) + (if decide (cell < 0) = true then 1 else 0) := by
            have : (0 : Int) ≤ if decide (cell < 0) = true then 1 else 0 := by split <;> decide
            omega
          generalize 2 * ((if cell < 0 then -cell else cell) - (10 : Int) ^ (18 : Int).toNat) + (if decide (cell < 0) = true then (1 : Int) else 0) = q0 at hq ⊢
          refine ⟨_, rfl, .inl ⟨_, rfl, _, rfl, _, _, rfl, rfl, ⟨hmp, by omega⟩, _, rfl, c, _, 2, 2, rfl, rfl, hcE, (show ixN 3 2 = some 2 by decide), ?_⟩⟩
          refine ⟨_, rfl, .inl ⟨_, rfl, _, rfl, _, _, rfl, rfl, hmp, ?_⟩⟩
          exact fin2 _ _ _ (SameX.refl c H2).put upd_same (Int.ediv_nonneg hq (by omega)) (Int.emod_nonneg _ (by omega)) (Int.emod_lt_of_pos _ hmp)
        · rw [decide_eq_false hB]
          refine iteF ?_
          refine ⟨_, rfl, .inl ⟨cell, rfl, _, _, rfl, rfl, (by decide : (0 : Int) < 2147483549), _, rfl, _, _, rfl, rfl, .inl ⟨by decide, by decide⟩, _, _, rfl, rfl, _, _, rfl, rfl, _, _, rfl, rfl, ⟨by decide, by decide, mix_bd1 (by omega) (by omega)⟩, .inl ⟨_, rfl, _, _, rfl, rfl, (by decide : (0 : Int) < 2147483587), ?_⟩⟩⟩
          have q1 := Int.emod_nonneg ((cell % 2147483549 + 31177 * (at_ : Int) + 5167) ^ (5 : Int).toNat) (by decide : (2147483587 : Int) ≠ 0)
          have q2 := Int.emod_lt_of_pos ((cell % 2147483549 + 31177 * (at_ : Int) + 5167) ^ (5 : Int).toNat) (by decide : (0 : Int) < 2147483587)
          dsimp only at q1 q2 ⊢
          generalize (cell % 2147483549 + 31177 * (at_ : Int) + 5167) ^ (5 : Int).toNat % 2147483587 = m1 at q1 q2 ⊢
          refine ⟨_, rfl, _, rfl, _, _, rfl, rfl, .inl ⟨by decide, by decide⟩, _, _, rfl, rfl, _, _, rfl, rfl, .inl ⟨by omega, by omega⟩, _, rfl, _, _, rfl, rfl, .inl ⟨by decide, by decide⟩, _, rfl, _, _, rfl, rfl, .inr ⟨by omega, by omega⟩, _, _, rfl, rfl, _, _, rfl, rfl, _, _, rfl, rfl, ⟨by decide, by decide, mix_bd q1 q2 (by omega) (by omega)⟩, .inl ⟨_, rfl, _, _, rfl, rfl, (by decide : (0 : Int) < 2147483629), ?_⟩⟩
          refine ⟨_, rfl, _, _, rfl, rfl, ⟨by decide, by decide⟩, .inl ⟨_, rfl, _, rfl, _, _, rfl, rfl, hmp, ?_⟩⟩
          exact fin2 _ r _ (SameX.refl c H2) hcE hr0 (Int.emod_nonneg _ (by omega)) (Int.emod_lt_of_pos _ hmp)
      | cons z zs =>
        rw [hns] at hclE hnl hcell
        have hcell := hcell (by simp)
        refine iteT ⟨_, rfl, c, _, _, _, rfl, rfl, SqL.of hcE, h0, _, rfl, .inl ⟨(at_ : Int), rfl, _, rfl, c, _, _, _, rfl, rfl, SqL.of hcE, h0, cl, _, rfl, .inl (SqL.of hclE), _, _, rfl, rfl, ?_, cl, _, _, _, rfl, rfl, SqL.of hclE, hcell, ?_⟩⟩
        · rw [List.length_map, List.length_cons]
          omega
        generalize cell0 = cell
        refine ⟨_, rfl, _, rfl, c, _, _, _, rfl, rfl, SqL.of hcE, h0, cl, _, rfl, .inl (SqL.of hclE), _, _, rfl, rfl, _, rfl, ?_⟩
        generalize decide ((at_ : Int) < _) = bA
        cases bA with
        | false =>
          refine iteF (iteF ?_)
          refine ⟨_, rfl, .inl ⟨cell, rfl, _, _, rfl, rfl, (by decide : (0 : Int) < 2147483549), _, rfl, _, _, rfl, rfl, .inl ⟨by decide, by decide⟩, _, _, rfl, rfl, _, _, rfl, rfl, _, _, rfl, rfl, ⟨by decide, by decide, mix_bd1 (by omega) (by omega)⟩, .inl ⟨_, rfl, _, _, rfl, rfl, (by decide : (0 : Int) < 2147483587), ?_⟩⟩⟩
          have q1 := Int.emod_nonneg ((cell % 2147483549 + 31177 * (at_ : Int) + 5167) ^ (5 : Int).toNat) (by decide : (2147483587 : Int) ≠ 0)
          have q2 := Int.emod_lt_of_pos ((cell % 2147483549 + 31177 * (at_ : Int) + 5167) ^ (5 : Int).toNat) (by decide : (0 : Int) < 2147483587)
          dsimp only at q1 q2 ⊢
          generalize (cell % 2147483549 + 31177 * (at_ : Int) + 5167) ^ (5 : Int).toNat % 2147483587 = m1 at q1 q2 ⊢
          refine ⟨_, rfl, _, rfl, _, _, rfl, rfl, .inl ⟨by decide, by decide⟩, _, _, rfl, rfl, _, _, rfl, rfl, .inl ⟨by omega, by omega⟩, _, rfl, _, _, rfl, rfl, .inl ⟨by decide, by decide⟩, _, rfl, _, _, rfl, rfl, .inr ⟨by omega, by omega⟩, _, _, rfl, rfl, _, _, rfl, rfl, _, _, rfl, rfl, ⟨by decide, by decide, mix_bd q1 q2 (by omega) (by omega)⟩, .inl ⟨_, rfl, _, _, rfl, rfl, (by decide : (0 : Int) < 2147483629), ?_⟩⟩
          refine ⟨_, rfl, _, _, rfl, rfl, ⟨by decide, by decide⟩, .inl ⟨_, rfl, _, rfl, _, _, rfl, rfl, hmp, ?_⟩⟩
          exact fin2 _ r _ (SameX.refl c H2) hcE hr0 (Int.emod_nonneg _ (by omega)) (Int.emod_lt_of_pos _ hmp)
        | true =>
        refine iteT ⟨_, rfl, cell, rfl, _, _, rfl, rfl, ⟨by decide, by decide, by decide⟩, _, _, rfl, rfl, _, rfl, ?_⟩
        dsimp only
        by_cases hB : (10 : Int) ^ (18 : Int).toNat ≤ (if cell < 0 then -cell else cell)
        · rw [decide_eq_true hB]
          refine iteT ⟨_, rfl, cell, rfl, _, _, rfl, rfl, ⟨by decide, by decide, by decide⟩, _, _, rfl, rfl, _, _, rfl, rfl, .inl ⟨by decide, by decide⟩, _, rfl, _, _, rfl, rfl, .inr ⟨_, rfl, _, _, rfl, rfl, ?_⟩⟩
          dsimp only
          have hq : (0 : Int) ≤ 2 * ((if cell < 0 then -cell else cell) - 10 ^ (18 : Int).toNat) + (if decide (cell < 0) = true then 1 else 0) := by
            have : (0 : Int) ≤ if decide (cell < 0) = true then 1 else 0 := by split <;> decide
            omega
          generalize 2 * ((if cell < 0 then -cell else cell) - (10 : Int) ^ (18 : Int).toNat) + (if decide (cell < 0) = true then (1 : Int) else 0) = q0 at hq ⊢
          refine ⟨_, rfl, .inl ⟨_, rfl, _, rfl, _, _, rfl, rfl, ⟨hmp, by omega⟩, _, rfl, c, _, 2, 2, rfl, rfl, hcE, (show ixN 3 2 = some 2 by decide), ?_⟩⟩
          refine ⟨_, rfl, .inl ⟨_, rfl, _, rfl, _, _, rfl, rfl, hmp, ?_⟩⟩
          exact fin2 _ _ _ (SameX.refl c H2).put upd_same (Int.ediv_nonneg hq (by omega)) (Int.emod_nonneg _ (by omega)) (Int.emod_lt_of_pos _ hmp)
        · rw [decide_eq_false hB]
          refine iteF ?_
          refine ⟨_, rfl, .inl ⟨cell, rfl, _, _, rfl, rfl, (by decide : (0 : Int) < 2147483549), _, rfl, _, _, rfl, rfl, .inl ⟨by decide, by decide⟩, _, _, rfl, rfl, _, _, rfl, rfl, _, _, rfl, rfl, ⟨by decide, by decide, mix_bd1 (by omega) (by omega)⟩, .inl ⟨_, rfl, _, _, rfl, rfl, (by decide : (0 : Int) < 2147483587), ?_⟩⟩⟩
          have q1 := Int.emod_nonneg ((cell % 2147483549 + 31177 * (at_ : Int) + 5167) ^ (5 : Int).toNat) (by decide : (2147483587 : Int) ≠ 0)
          have q2 := Int.emod_lt_of_pos ((cell % 2147483549 + 31177 * (at_ : Int) + 5167) ^ (5 : Int).toNat) (by decide : (0 : Int) < 2147483587)
          dsimp only at q1 q2 ⊢
          generalize (cell % 2147483549 + 31177 * (at_ : Int) + 5167) ^ (5 : Int).toNat % 2147483587 = m1 at q1 q2 ⊢
          refine ⟨_, rfl, _, rfl, _, _, rfl, rfl, .inl ⟨by decide, by decide⟩, _, _, rfl, rfl, _, _, rfl, rfl, .inl ⟨by omega, by omega⟩, _, rfl, _, _, rfl, rfl, .inl ⟨by decide, by decide⟩, _, rfl, _, _, rfl, rfl, .inr ⟨by omega, by omega⟩, _, _, rfl, rfl, _, _, rfl, rfl, _, _, rfl, rfl, ⟨by decide, by decide, mix_bd q1 q2 (by omega) (by omega)⟩, .inl ⟨_, rfl, _, _, rfl, rfl, (by decide : (0 : Int) < 2147483629), ?_⟩⟩
          refine ⟨_, rfl, _, _, rfl, rfl, ⟨by decide, by decide⟩, .inl ⟨_, rfl, _, rfl, _, _, rfl, rfl, hmp, ?_⟩⟩
          exact fin2 _ r _ (SameX.refl c H2) hcE hr0 (Int.emod_nonneg _ (by omega)) (Int.emod_lt_of_pos _ hmp)
theorem CH.mono {H : Hp} {c cl : Addr} {n m : Nat} (h : CH H c cl n) (l : n ≤ m) : CH H c cl m := by
  obtain ⟨ns, a, r, h1, h2, h3, h4⟩ := h
  exact ⟨ns, a, r, h1, h2, Nat.le_trans h3 l, h4⟩
theorem CH.keep {H H' : Hp} {c cl : Addr} {n : Nat} (h : CH H c cl n) (s : ∀ b o, b = c ∨ b = cl → H b = some o → H' b = some o) : CH H' c cl n := by
  obtain ⟨ns, a, r, h1, h2, h3⟩ := h
  exact ⟨ns, a, r, s _ _ (.inl rfl) h1, s _ _ (.inr rfl) h2, h3⟩
theorem CH.same {H H' : Hp} {c cl : Addr} {n : Nat} (h : CH H c cl n) (s : Same H H') : CH H' c cl n := h.keep fun b o _ e => s b o e
theorem CH.ref {H : Hp} {c cl : Addr} {n : Nat} (h : CH H c cl n) : (∃ xs, H c = some (.lst xs)) ∧ ∃ xs, H cl = some (.lst xs) := by
  obtain ⟨ns, a, r, h1, h2, _⟩ := h
  exact ⟨⟨_, h1⟩, ⟨_, h2⟩⟩
theorem CH.new {H : Hp} {c cl p : Addr} {n : Nat} (h : CH H c cl n) (hp : H p = none) : c ≠ p ∧ cl ≠ p := by
  obtain ⟨⟨_, h1⟩, ⟨_, h2⟩⟩ := h.ref
  exact ⟨ne_of_none h1 hp, ne_of_none h2 hp⟩
theorem SqL.x {H H' : Hp} {a p : Addr} {xs : List V} (s : SameX p H H') (n : a ≠ p) (h : SqL K H a xs) : SqL K H' a xs := by
  rcases h with (h | ⟨o, h⟩) | h
  · exact .inl (.inl (s _ _ n h))
  · exact .inl (.inr ⟨o, s _ _ n h⟩)
  · exact .inr h
abbrev N_l_one : List Str := ["_law_choir_here", "_law_some"]
theorem sc_l_one : FnScope N_l_one ["_law_choir_here", "_law_some"] (defScope s_l_one) := ⟨rfl, rfl, rfl, by decide +kernel, rfl, by decide +kernel, by decide +kernel⟩
def sp_l_one (K : PySem.W.Frag) : Sp := fun vs H Q _ => ∃ (c cl s : Addr) (xs : List V) (n : Nat), vs = [.ref c, .ref s] ∧ CH H c cl n ∧ SqL K H s xs ∧ s ≠ c ∧ xs ≠ [] ∧ xs.length ≤ 16777216 ∧ n ≤ 1000000 ∧ ∀ H' v, SameX c H H' → CH H' c cl (n + 1) → v ∈ xs → Q v H'
theorem ok_l_one (T : TX w K mg) : FnX P w K mg base 2 ("_law_one", none) ["_law_choir_here", "_law_some"] [] (sp_l_one K) := by
  refine FnX.of T.qd_l_one rfl sc_l_one (fun vs H Q E h => ?_) (fun _ _ _ _ _ _ us hl => match us, hl with | [_, _], _ => rfl) (fun cdv A outer s H vs Q E hr h => ?_)
  · obtain ⟨c, cl, s, xs, n, rfl, _⟩ := h
    rfl
  · obtain ⟨c, cl, sl, xs, n, rfl, hch, hs, hne, hx, hl, hn, k⟩ := h
    have hpos : 0 < xs.length := List.length_pos_iff.mpr hx
    refine ⟨_, (pss_one (ps_ret (pe_ix ix_list (pv 1) (pe_fx (ok_l_chant (P := P) T) (hr.mono (by decide)) (by rfl) (T.g "_law_chant") (pa_cons (pv 0) (pa_cons (pe_callB call_len_seq (by rfl) (T.f "len") PySem.boot_len (pa_cons (pv 1) pa_nil)) pa_nil))) (fun _ _ => rfl)))), ?_⟩
    refine ⟨_, rfl, _, rfl, _, rfl, sl, _, rfl, .inl hs, c, cl, xs.length, n, rfl, hch, hpos, hl, hn, fun H1 r s1 hch1 hr => ?_⟩
    refine ⟨sl, _, _, _, rfl, rfl, SqL.x s1 hne hs, atI_nat (v := xs[r]) (List.getElem?_eq_getElem hr), ?_⟩
    exact k _ _ s1 hch1 (List.getElem_mem hr)
end
end K53
end TK53AG

section TK53AH
set_option maxHeartbeats 4000000
namespace K53
open PySem PySem.Spec PyProof.Rows L2
theorem starts_iff {x y : Str} : Txt.startswith x y = true ↔ y.cps.toList <+: x.cps.toList := by
  unfold Txt.startswith
  rw [Bool.and_eq_true, StrLaws.subAt_eq, List.drop_zero, beq_iff_eq, decide_eq_true_iff, List.prefix_iff_eq_take]
  have e : y.length = y.cps.toList.length := by rw [Array.length_toList]; rfl
  have e2 : x.length = x.cps.toList.length := by rw [Array.length_toList]; rfl
  rw [← e]
  constructor
  · rintro ⟨_, h⟩
    exact h.symm
  · intro h
    refine ⟨?_, h.symm⟩
    have := congrArg List.length h
    rw [List.length_take, ← e, ← e2] at this
    omega
theorem starts_self (x : Str) : Txt.startswith x x = true := starts_iff.mpr (List.prefix_refl _)
theorem str_app (x y : Str) : (x ++ y).cps.toList = x.cps.toList ++ y.cps.toList := by
  show (x.cps ++ y.cps).toList = _
  rw [Array.toList_append]
theorem len_toList (x : Str) : x.cps.toList.length = x.length := by rw [Array.length_toList]; rfl
theorem str_ext {x y : Str} (h : x.cps.toList = y.cps.toList) : x = y := by
  cases x
  cases y
  exact congrArg Str.mk (Array.toList_inj.mp h)
theorem AllApart.nodup {l : List Str} (h : AllApart l) : l.Nodup := by
  rw [List.nodup_iff_pairwise_ne, List.pairwise_iff_getElem]
  intro i j hi hj hij e
  have := h i j _ _ (by omega) (List.getElem?_eq_getElem hi) (List.getElem?_eq_getElem hj)
  rw [e, starts_self] at this
  cases this
theorem AllApart.mem {l : List Str} (h : AllApart l) {x y : Str} (hx : x ∈ l) (hy : y ∈ l) (n : x ≠ y) : Txt.startswith x y = false := by
  obtain ⟨i, hi⟩ := List.mem_iff_getElem?.mp hx
  obtain ⟨j, hj⟩ := List.mem_iff_getElem?.mp hy
  exact h i j x y (fun e => n (by subst e; exact Option.some.inj (hi.symm.trans hj))) hi hj
theorem AllApart.of_mem {l : List Str} (nd : l.Nodup) (h : ∀ x ∈ l, ∀ y ∈ l, x ≠ y → Txt.startswith x y = false) : AllApart l := by
  intro i j x y hij hx hy
  refine h x (List.mem_of_getElem? hx) y (List.mem_of_getElem? hy) fun e => hij ?_
  subst e
  exact (List.getElem?_inj (List.getElem?_eq_some_iff.mp hx).1 nd).mp (hx.trans hy.symm)
theorem starts_false {x y : Str} : Txt.startswith x y = false ↔ ¬ y.cps.toList <+: x.cps.toList := by
  rw [← starts_iff, Bool.not_eq_true]
/-- the leaves of a full tree of signs -/
structure Lv (L : List Str) : Prop where
  sg : ∀ z ∈ L, ∀ c ∈ z.cps.toList, Sign c
  nd : L.Nodup
  ap : ∀ x ∈ L, ∀ y ∈ L, x ≠ y → ¬ y.cps.toList <+: x.cps.toList
  kr : (L.map fun z => 2 ^ (8 - z.length)).sum = 256
  le : ∀ z ∈ L, z.length ≤ 8
def splitL (L : List Str) (z : Str) : List Str := L.filter (fun x => decide (x ≠ z)) ++ [z ++ "0", z ++ "1"]
theorem len_app (x y : Str) : (x ++ y).length = x.length + y.length := by rw [← len_toList, str_app, List.length_append, len_toList, len_toList]
theorem sum_filter {f : Str → Nat} {z : Str} : ∀ {L : List Str}, L.Nodup → z ∈ L → ((L.filter fun x => decide (x ≠ z)).map f).sum + f z = (L.map f).sum ∧ (L.filter fun x => decide (x ≠ z)).length + 1 = L.length
  | [], _, h => (List.not_mem_nil h).elim
  | x :: L, nd, h => by
    rw [List.nodup_cons] at nd
    by_cases e : x = z
    · subst e
      have h1 : L.filter (fun y => decide (y ≠ x)) = L := List.filter_eq_self.mpr fun y hy => decide_eq_true fun q => nd.1 (q ▸ hy)
      rw [List.filter_cons_of_neg (by simp), h1, List.map_cons, List.sum_cons, List.length_cons]
      exact ⟨Nat.add_comm _ _, rfl⟩
    · obtain ⟨i1, i2⟩ := sum_filter (f := f) nd.2 ((List.mem_cons.mp h).resolve_left fun q => e q.symm)
      rw [List.filter_cons_of_pos (by simpa using e), List.map_cons, List.sum_cons, List.map_cons, List.sum_cons, List.length_cons, List.length_cons]
      exact ⟨by omega, by omega⟩
theorem prefix_snoc {a b : List Nat} {c : Nat} (h : a <+: b ++ [c]) : a <+: b ∨ a = b ++ [c] := by
  obtain ⟨t, ht⟩ := h
  rcases List.eq_nil_or_concat t with rfl | ⟨t', x, rfl⟩
  · exact .inr (by simpa using ht)
  · rw [List.concat_eq_append, ← List.append_assoc] at ht
    obtain ⟨h1, _⟩ := List.append_inj' ht rfl
    exact .inl ⟨t', h1⟩
theorem Lv.split {L : List Str} (h : Lv L) {z : Str} (hz : z ∈ L) (hl : z.length < 8) : Lv (splitL L z) ∧ (splitL L z).length = L.length + 1 := by
  have e0 : (z ++ ("0" : Str)).cps.toList = z.cps.toList ++ [48] := str_app _ _
  have e1 : (z ++ ("1" : Str)).cps.toList = z.cps.toList ++ [49] := str_app _ _
  have l0 : (z ++ ("0" : Str)).length = z.length + 1 := len_app _ _
  have l1 : (z ++ ("1" : Str)).length = z.length + 1 := len_app _ _
  have hm : ∀ x, x ∈ splitL L z ↔ (x ∈ L ∧ x ≠ z) ∨ x = z ++ "0" ∨ x = z ++ "1" := fun x => by
    unfold splitL
    simp only [List.mem_append, List.mem_filter, decide_eq_true_eq, List.mem_cons, List.not_mem_nil, or_false]
  obtain ⟨s1, s2⟩ := sum_filter (f := fun z => 2 ^ (8 - z.length)) h.nd hz
  have z01 : (z ++ ("0" : Str)) ≠ z ++ "1" := fun q => by
    have : (z ++ ("0" : Str)).cps.toList = (z ++ ("1" : Str)).cps.toList := by rw [q]
    rw [e0, e1] at this
    have := List.append_cancel_left this
    simp at this
  have old : ∀ x, x ∈ L → x ≠ z → ∀ c, ¬ x.cps.toList <+: z.cps.toList ++ [c] ∧ ¬ z.cps.toList ++ [c] <+: x.cps.toList := fun x hx hn c => by
    refine ⟨fun q => ?_, fun q => ?_⟩
    · rcases prefix_snoc q with q | q
      · exact h.ap z hz x hx (Ne.symm hn) q
      · refine h.ap x hx z hz hn ?_
        rw [q]
        exact List.prefix_append _ _
    · exact h.ap x hx z hz hn ((List.prefix_append _ _).trans q)
  refine ⟨⟨fun x hx => ?_, ?_, fun x hx y hy hn => ?_, ?_, fun x hx => ?_⟩, ?_⟩
  · rcases (hm x).mp hx with ⟨h1, _⟩ | rfl | rfl
    · exact h.sg x h1
    · intro c hc
      rw [e0, List.mem_append, List.mem_singleton] at hc
      rcases hc with hc | rfl
      · exact h.sg z hz c hc
      · exact .inl rfl
    · intro c hc
      rw [e1, List.mem_append, List.mem_singleton] at hc
      rcases hc with hc | rfl
      · exact h.sg z hz c hc
      · exact .inr rfl
  · unfold splitL
    rw [List.nodup_append]
    refine ⟨h.nd.filter _, by simp [z01], fun a ha b hb e => ?_⟩
    subst e
    rw [List.mem_filter] at ha
    have hn : a ≠ z := of_decide_eq_true ha.2
    rcases List.mem_cons.mp hb with rfl | hb
    · refine (old _ ha.1 hn 48).1 ?_
      rw [e0]
      exact List.prefix_refl _
    · rw [List.mem_singleton] at hb
      subst hb
      refine (old _ ha.1 hn 49).1 ?_
      rw [e1]
      exact List.prefix_refl _
  · have neq : ∀ c d : Nat, c ≠ d → ¬ z.cps.toList ++ [c] <+: z.cps.toList ++ [d] := fun c d hcd q => by
      rw [List.prefix_append_right_inj] at q
      obtain ⟨t, ht⟩ := q
      injection ht with h1 _
      exact hcd h1
    rcases (hm x).mp hx with ⟨h1, h1n⟩ | rfl | rfl
    · rcases (hm y).mp hy with ⟨h2, _⟩ | rfl | rfl
      · exact h.ap x h1 y h2 hn
      · rw [e0]; exact (old x h1 h1n 48).2
      · rw [e1]; exact (old x h1 h1n 49).2
    · rcases (hm y).mp hy with ⟨h2, h2n⟩ | rfl | rfl
      · rw [e0]; exact (old y h2 h2n 48).1
      · exact absurd rfl hn
      · rw [e0, e1]; exact neq 49 48 (by decide)
    · rcases (hm y).mp hy with ⟨h2, h2n⟩ | rfl | rfl
      · rw [e1]; exact (old y h2 h2n 49).1
      · rw [e0, e1]; exact neq 48 49 (by decide)
      · exact absurd rfl hn
  · unfold splitL
    rw [List.map_append, List.sum_append]
    show _ + (2 ^ (8 - (z ++ ("0" : Str)).length) + (2 ^ (8 - (z ++ ("1" : Str)).length) + 0)) = 256
    rw [l0, l1]
    have e : 2 ^ (8 - z.length) = 2 * 2 ^ (8 - (z.length + 1)) := by
      rw [show 8 - z.length = 8 - (z.length + 1) + 1 by omega, Nat.pow_succ, Nat.mul_comm]
    have := h.kr
    omega
  · rcases (hm x).mp hx with ⟨h1, _⟩ | rfl | rfl
    · exact h.le x h1
    · omega
    · omega
  · unfold splitL
    rw [List.length_append]
    show _ + 2 = _
    omega
theorem Lv.start : Lv [("" : Str)] := by
  refine ⟨fun z hz c hc => ?_, by simp, fun x hx y hy hn => ?_, by decide +kernel, fun z hz => ?_⟩
  · rw [List.mem_singleton.mp hz] at hc
    have e : ("" : Str).cps.toList = [] := by decide +kernel
    rw [e] at hc
    cases hc
  · rw [List.mem_singleton.mp hx, List.mem_singleton.mp hy] at hn
    exact absurd rfl hn
  · rw [List.mem_singleton.mp hz]
    decide +kernel
/-- few leaves: one of them is short -/
theorem Lv.short {L : List Str} (h : Lv L) (hl : L.length ≤ 255) : ∃ z ∈ L, z.length < 8 := by
  by_cases hh : ∃ z ∈ L, z.length < 8
  · exact hh
  · refine absurd h.kr ?_
    have : ∀ z ∈ L, 2 ^ (8 - z.length) = 1 := fun z hz => by
      have h1 := h.le z hz
      have h2 : ¬ z.length < 8 := fun q => hh ⟨z, hz, q⟩
      rw [show 8 - z.length = 0 by omega, Nat.pow_zero]
    rw [List.map_congr_left this]
    have e : ∀ l : List Str, (l.map fun _ => 1).sum = l.length := fun l => by
      induction l with
      | nil => rfl
      | cons a l ih => simp only [List.map_cons, List.sum_cons, ih, List.length_cons]; omega
    rw [e]
    omega
/-- two leaves at least: none is empty -/
theorem Lv.pos {L : List Str} (h : Lv L) (h2 : 2 ≤ L.length) {z : Str} (hz : z ∈ L) : 1 ≤ z.length := by
  by_cases h0 : 1 ≤ z.length
  · exact h0
  · have hz0 : z.length = 0 := by omega
    have e : z.cps.toList = [] := List.length_eq_zero_iff.mp (by rw [len_toList]; exact hz0)
    have : ∃ x ∈ L, x ≠ z := by
      match L, h2, h.nd, hz with
      | a :: b :: l, _, nd, _ =>
        by_cases q : a = z
        · refine ⟨b, by simp, fun q2 => ?_⟩
          rw [List.nodup_cons] at nd
          exact nd.1 (by rw [q, ← q2]; simp)
        · exact ⟨a, by simp, q⟩
    obtain ⟨x, hx, hn⟩ := this
    exact absurd (by rw [e]; exact List.nil_prefix) (h.ap x hx z hz hn)
/-- eight of the leaves, in any order, are names -/
theorem Lv.names {L ns rest : List Str} (h : Lv L) (p : (ns ++ rest).Perm L) (h8 : ns.length = 8) : TgOk ns ∧ AllApart ns := by
  have hs : ∀ z ∈ ns, z ∈ L := fun z hz => p.mem_iff.mp (List.mem_append_left _ hz)
  have hL : 2 ≤ L.length := by
    have := p.length_eq
    rw [List.length_append] at this
    omega
  have nd : ns.Nodup := by
    have := p.nodup_iff.mpr h.nd
    exact (List.nodup_append.mp this).1
  refine ⟨⟨h8, fun z hz => ⟨h.sg z (hs z hz), h.pos hL (hs z hz), h.le z (hs z hz)⟩, ?_⟩, AllApart.of_mem nd fun x hx y hy hn => starts_false.mpr (h.ap x (hs x hx) y (hs y hy) hn)⟩
  unfold Kraft
  have e : words8.map (fun w => 2 ^ (8 - lnOf ns w)) = ns.map fun z => 2 ^ (8 - z.length) := by
    refine List.ext_getElem? fun i => ?_
    rw [List.getElem?_map, List.getElem?_map]
    by_cases hi : i < 8
    · have h1 : words8[i]? = some (words8[i]'(by rw [words8_len]; exact hi)) := List.getElem?_eq_getElem _
      have h2 : ns[i]? = some (ns[i]'(by rw [h8]; exact hi)) := List.getElem?_eq_getElem _
      rw [h1, h2, Option.map_some, Option.map_some, lnOf_at h2 h1]
    · rw [List.getElem?_eq_none (by rw [words8_len]; omega), List.getElem?_eq_none (by rw [h8]; omega)]
      rfl
  rw [e]
  have hp : ((ns ++ rest).map fun z => 2 ^ (8 - z.length)).sum = (L.map fun z => 2 ^ (8 - z.length)).sum := (p.map _).sum_nat
  rw [List.map_append, List.sum_append, h.kr] at hp
  omega
end K53
end TK53AH

section TK53AI
set_option maxHeartbeats 4000000

namespace K53
open PySem PySem.Spec PyProof.Rows L2
/-- a chosen leaf is split -/
theorem names_rest {K : PySem.W.Frag} {E : Ends} {H : Hp} {c cl l a2 : Addr} {n : Nat} {L ss : List Str} {z3 : Option V} (hch : CH H c cl n) (hn : n ≤ 999999) (hl : H l = some (.lst (L.map V.str))) (ha : H a2 = some (.lst (ss.map V.str))) (hlc : l ≠ c) (hac : a2 ≠ c) (hss : ss ≠ []) (hsl : ss.length ≤ 9) (hLl : L.length ≤ 9)
    (hin : ∀ z ∈ ss, z ∈ L ∧ z.length < 8) (next : ∀ H' l' z v2, SameX c H H' → H l' = none → H' l' = some (.lst ((splitL L z).map V.str)) → CH H' c cl (n + 1) → z ∈ L → z.length < 8 → E.nx [some (.ref c), some (.ref l'), v2, some (.str z), none, none, none, none, none] H') :
    tSeq (tAsg (tCall (sp_l_one K) [] E0 (tCons (tVar 0) (tCons (tVar 2) tNil))) (gName 3))
      (tAsg (tOp rCat (tLc (iList K (tVar 1)) (gName 8) (tTest (tOp rNe (tVar 8) (tVar 3))) (tVar 8) (List.map (fun x => x.snd) [(("_law_each" : Str), 8)]))
        (tLst (tCons (tOp (fun x y H Q => ∃ i j, x = V.str i ∧ y = V.str j ∧ i.length + j.length ≤ sizeLine ∧ Q (V.str (i ++ j)) H) (tVar 3) (tC (V.str "0"))) (tCons (tOp (fun x y H Q => ∃ i j, x = V.str i ∧ y = V.str j ∧ i.length + j.length ≤ sizeLine ∧ Q (V.str (i ++ j)) H) (tVar 3) (tC (V.str "1"))) tNil)))) (gName 1))
      E [some (.ref c), some (.ref l), some (.ref a2), z3, none, none, none, none, none] H := by
  refine ⟨_, rfl, _, rfl, c, cl, a2, _, n, rfl, hch, SqL.of ha, hac, (fun q => hss (List.map_eq_nil_iff.mp q)), by rw [List.length_map]; omega, by omega, fun H1 v s1 hch1 hv => ?_⟩
  obtain ⟨z, hz, rfl⟩ := List.mem_map.mp hv
  obtain ⟨hzL, hz8⟩ := hin z hz
  have hl1 := s1 _ _ hlc hl
  refine ⟨_, rfl, l, rfl, ⟨_, SqL.of hl1⟩, fun D hD => ?_⟩
  refine lc_sm (walk_list (K := K) (a := l) (xs := L.map V.str)) hD (fun i acc _ => acc = ((L.take i).filter fun x => decide (x ≠ z)).map V.str) rfl (fun _ s => SqL.of (s _ _ hl1)) (fun _ _ _ _ _ h => h) (by rw [List.length_map]; omega) ?_ ?_
  · rintro i x acc H2 H3 R R0 hi s2 hacc hla rfl ⟨rfl, hx⟩ hR hR0
    rw [List.getElem?_map] at hx
    obtain ⟨y, hy, rfl⟩ := Option.map_eq_some_iff.mp hx
    obtain ⟨hil, hie⟩ := List.getElem?_eq_some_iff.mp hy
    refine ⟨rfl, _, rfl, _, rfl, rfl, _, rfl, ?_⟩
    by_cases e : y = z
    · rw [decide_eq_true (congrArg V.str e)]
      refine iteF (hR0 _ (Same.refl _) ?_)
      rw [List.take_succ_eq_append_getElem hil, List.filter_append, hie, List.filter_cons_of_neg (by simp [e]), List.filter_nil, List.append_nil]
    · rw [decide_eq_false fun q => e (V.str.inj q)]
      refine iteT ⟨_, rfl, hR _ _ (Same.refl _) ?_⟩
      rw [List.take_succ_eq_append_getElem hil, List.filter_append, hie, List.filter_cons_of_pos (by simp [e]), List.filter_nil, List.map_append]
      rfl
  · rintro acc H2 s2 hacc _ rfl
    rw [List.length_map, List.take_length] at hacc
    have hs0 : z.length + ("0" : Str).length ≤ sizeLine := size24 (by rw [show ("0" : Str).length = 1 by decide +kernel]; omega)
    have hs1 : z.length + ("1" : Str).length ≤ sizeLine := size24 (by rw [show ("1" : Str).length = 1 by decide +kernel]; omega)
    refine ⟨_, rfl, z, _, rfl, rfl, hs0, _, rfl, z, _, rfl, rfl, hs1, two_le, fun b nb => ?_⟩
    have sx := s1.trans s2.x
    refine ⟨D, b, _, _, rfl, rfl, Same.new nb _ _ hacc, upd_same, ?_, fun p np => ?_⟩
    · have := List.length_filter_le (fun x => decide (x ≠ z)) L
      rw [List.length_map]
      exact size24 (by show _ + 2 ≤ _; omega)
    · have s5 : Same H2 (upd (upd H2 b (.lst [V.str (z ++ "0"), V.str (z ++ "1")])) p (.lst ((L.filter fun x => decide (x ≠ z)).map V.str ++ [V.str (z ++ "0"), V.str (z ++ "1")]))) := (Same.new nb).new' np
      have np2 : H2 p = none := (Same.new nb).free np
      refine next _ p z (some (.ref a2)) (sx.trans s5.x) ?_ ?_ ((hch1.same s2).same s5) hzL hz8
      · cases e : H p with
        | none => rfl
        | some o =>
          by_cases hp : p = c
          · subst hp
            obtain ⟨⟨xs, q⟩, _⟩ := (hch1.same s2).ref
            rw [q] at np2
            cases np2
          · rw [sx _ _ hp e] at np2
            cases np2
      · rw [upd_same]
        unfold splitL
        rw [List.map_append]
        rfl
def orderL : List Nat := [0, 1, 7, 3, 2, 4, 5, 6]
def pick (fs : List Str) (js : List Nat) : List Str := js.map fun j => fs.getD j Str.empty
theorem eight {fs : List Str} (h : fs.length = 8) : ∃ a b c d e f g i, fs = [a, b, c, d, e, f, g, i] := by
  match fs, h with
  | [a, b, c, d, e, f, g, i], _ => exact ⟨a, b, c, d, e, f, g, i, rfl⟩
theorem pick_set {fs : List Str} {y : Str} (h : fs.length = 8) : ∀ {i j : Nat}, orderL[i]? = some j → pick (fs.set j y) (orderL.take (i + 1)) = pick fs (orderL.take i) ++ [y] ∧ j < 8 := by
  obtain ⟨a, b, c, d, e, f, g, k, rfl⟩ := eight h
  intro i j hj
  match i, hj with
  | 0, hj => cases hj; exact ⟨rfl, by decide⟩
  | 1, hj => cases hj; exact ⟨rfl, by decide⟩
  | 2, hj => cases hj; exact ⟨rfl, by decide⟩
  | 3, hj => cases hj; exact ⟨rfl, by decide⟩
  | 4, hj => cases hj; exact ⟨rfl, by decide⟩
  | 5, hj => cases hj; exact ⟨rfl, by decide⟩
  | 6, hj => cases hj; exact ⟨rfl, by decide⟩
  | 7, hj => cases hj; exact ⟨rfl, by decide⟩
  | i + 8, hj => simp [orderL] at hj
theorem pick_all {fs : List Str} (h : fs.length = 8) : (pick fs orderL).Perm fs := by
  have hp : orderL.Perm (List.range 8) := by decide
  have h2 : pick fs (List.range 8) = fs := by
    obtain ⟨a, b, c, d, e, f, g, k, rfl⟩ := eight h
    rfl
  have := hp.map fun j => fs.getD j Str.empty
  rw [show (List.range 8).map (fun j => fs.getD j Str.empty) = fs from h2] at this
  exact this
theorem ixN_at {n j : Nat} (hj : j < n) : ixN n (j : Int) = some j := by
  unfold ixN
  rw [if_pos (by omega), if_pos (by omega)]
  simp
theorem erase_perm : ∀ {l : List Str} {k : Nat} (hk : k < l.length), (l[k] :: l.eraseIdx k).Perm l
  | a :: l, 0, _ => List.Perm.refl _
  | a :: l, k + 1, hk => by
    have hk' : k < l.length := by simpa using hk
    have ih := erase_perm (l := l) (k := k) hk'
    show (l[k] :: a :: l.eraseIdx k).Perm (a :: l)
    exact (List.Perm.swap _ _ _).trans (ih.cons a)
theorem dp_pairs {K : PySem.W.Frag} {H : Hp} : ∀ (qs : List (Addr × Str)), (∀ q ∈ qs, H q.1 = some (.tup [.int (q.2.length : Nat), .str q.2])) → DpAll K H (qs.map fun q => V.ref q.1) (qs.map fun q => PyData.tuple [.int (q.2.length : Nat), .str q.2])
  | [], _ => .nil
  | q :: qs, h => .cons (.tup (SqT.of (h q List.mem_cons_self)) (.cons (.int _) (.cons (.str _) .nil))) (dp_pairs qs fun r hr => h r (List.mem_cons_of_mem _ hr))
/-- the words' names are drawn from the leaves -/
theorem names_tail {K : PySem.W.Frag} {E : Ends} {H : Hp} {c cl l f o : Addr} {n : Nat} {M fs0 : List Str} {z2 z3 z6 z7 : Option V} (hch : CH H c cl n) (hn : n ≤ 999980) (hl : H l = some (.lst (M.map V.str))) (hf : H f = some (.lst (fs0.map V.str))) (ho : H o = some (.lst (orderL.map fun j => V.int (j : Nat)))) (hlc : l ≠ c) (hfc : f ≠ c) (hoc : o ≠ c) (hlf : l ≠ f) (hlo : l ≠ o) (hfo : f ≠ o)
    (hlcl : cl ≠ l) (hfcl : cl ≠ f) (hM : 8 ≤ M.length) (hM9 : M.length ≤ 9) (h8 : fs0.length = 8)
    (next : ∀ H' (ns rest : List Str), (∀ b u, b ≠ c → b ≠ l → b ≠ f → H b = some u → H' b = some u) → H' f = some (.lst (ns.map V.str)) → CH H' c cl (n + 8) → (ns ++ rest).Perm M → ns.length = 8 → E.rt (.ref f) H') :
    tSeq (tFor (iList K (tVar 5)) (gName 6) (tAsg (tBM K "list" rPopAt (tVar 1) (tCons (tIf (tTest (tOp (rI0 fun i j => V.bl (decide (j < i)))
        (tCB (fun xs H Q => ∃ p ys, xs = [V.ref p] ∧ (SqL K H p ys ∨ SqT K H p ys) ∧ Q (V.int ys.length) H) (tCons (tVar 1) tNil)) (tC (V.int 5)))) (tC (V.int 0))
        (tCall sp_l_chant [] E0 (tCons (tVar 0) (tCons (tCB (fun xs H Q => ∃ p ys, xs = [V.ref p] ∧ (SqL K H p ys ∨ SqT K H p ys) ∧ Q (V.int ys.length) H) (tCons (tVar 1) tNil)) tNil)))) tNil)) (gSub (tVar 4) (tVar 6) rSetL))) (tRet (tVar 4))
      E [some (.ref c), some (.ref l), z2, z3, some (.ref f), some (.ref o), z6, z7, none] H := by
  refine ⟨_, rfl, o, rfl, ⟨_, SqL.of ho⟩, ?_⟩
  refine for_list (K := K) (xs := orderL.map fun j => V.int (j : Nat)) (fun i σ H' => ∃ (z6 : Option V) (fs M' : List Str), σ = [some (.ref c), some (.ref l), z2, z3, some (.ref f), some (.ref o), z6, z7, none] ∧ (∀ b u, b ≠ c → b ≠ l → b ≠ f → H b = some u → H' b = some u) ∧ H' f = some (.lst (fs.map V.str)) ∧ H' l = some (.lst (M'.map V.str)) ∧
    CH H' c cl (n + i) ∧ fs.length = 8 ∧ (pick fs (orderL.take i) ++ M').Perm M) ?_ ?_ ?_ ?_
  · exact ⟨z6, fs0, M, rfl, fun b u _ _ _ e => e, hf, hl, hch, h8, List.Perm.refl _⟩
  · rintro i σ H' _ ⟨z6, fs, M', rfl, s1, _⟩
    exact SqL.of (s1 _ _ hoc (Ne.symm hlo) (Ne.symm hfo) ho)
  · rintro i x σ H' hx ⟨z6, fs, M', rfl, s1, hf1, hl1, hch1, hf8, hp⟩
    rw [List.getElem?_map] at hx
    obtain ⟨j, hj, rfl⟩ := Option.map_eq_some_iff.mp hx
    obtain ⟨hps, hj8⟩ := pick_set (y := Str.empty) hf8 hj
    have hi8 : i < 8 := (List.getElem?_eq_some_iff.mp hj).1
    have hlen : M'.length + i = M.length := by
      have := hp.length_eq
      rw [List.length_append] at this
      have e : (pick fs (orderL.take i)).length = i := by
        unfold pick
        rw [List.length_map, List.length_take]
        exact Nat.min_eq_left (Nat.le_of_lt hi8)
      omega
    -- the pop
    have pop : ∀ (H2 : Hp) (k : Nat), (∀ b u, b ≠ c → H' b = some u → H2 b = some u) → CH H2 c cl (n + i + 1) → k < M'.length →
        rPopAt (.ref l) [.int (k : Int)] H2 fun v H3 => gSub (tVar 4) (tVar 6) rSetL v [some (.ref c), some (.ref l), z2, z3, some (.ref f), some (.ref o), some (.int (j : Nat)), z7, none] H3 fun σ' H4 =>
          ∃ (z6 : Option V) (fs M' : List Str), σ' = [some (.ref c), some (.ref l), z2, z3, some (.ref f), some (.ref o), z6, z7, none] ∧ (∀ b u, b ≠ c → b ≠ l → b ≠ f → H b = some u → H4 b = some u) ∧ H4 f = some (.lst (fs.map V.str)) ∧ H4 l = some (.lst (M'.map V.str)) ∧
            CH H4 c cl (n + (i + 1)) ∧ fs.length = 8 ∧ (pick fs (orderL.take (i + 1)) ++ M').Perm M := by
      intro H2 k s2 hch2 hk
      have hl2 := s2 _ _ hlc hl1
      have hf2 := s2 _ _ hfc hf1
      have hidx : PySem.seqIndex? (k : Int) (M'.map V.str).length = some k := (ixN_seq (ixN_at (by rw [List.length_map]; exact hk))).1
      refine ⟨l, _, _, k, V.str M'[k], rfl, rfl, hl2, by omega, by omega, hidx, by rw [List.getElem?_map, List.getElem?_eq_getElem hk]; rfl, ?_⟩
      refine ⟨_, rfl, _, rfl, f, _, _, j, rfl, rfl, (upd_ne (Ne.symm hlf)).trans hf2, ?_, ?_⟩
      · exact ixN_at (by rw [List.length_map, hf8]; exact hj8)
      · refine ⟨_, fs.set j M'[k], M'.eraseIdx k, rfl, fun b u n1 n2 n3 e => ?_, ?_, ?_, ?_, ?_, ?_⟩
        · rw [upd_ne n3, upd_ne n2]
          exact s2 _ _ n1 (s1 _ _ n1 n2 n3 e)
        · rw [upd_same, List.map_set]
        · rw [upd_ne hlf, upd_same, DT.map_erase]
        · exact hch2.keep fun b u hb e => by
            have n1 : b ≠ l := by rcases hb with rfl | rfl; exact Ne.symm hlc; exact hlcl
            have n2 : b ≠ f := by rcases hb with rfl | rfl; exact Ne.symm hfc; exact hfcl
            rw [upd_ne n2, upd_ne n1]
            exact e
        · rw [List.length_set]; exact hf8
        · rw [(pick_set hf8 hj).1, List.append_assoc]
          refine (List.Perm.append_left _ ?_).trans hp
          exact erase_perm hk
    refine ⟨_, rfl, .inl ⟨rfl, _, SqL.of hl1⟩, ?_⟩
    refine ⟨_, rfl, l, _, rfl, .inl (SqL.of hl1), _, _, rfl, rfl, _, rfl, ?_⟩
    rw [List.length_map]
    by_cases h5 : (5 : Int) < (M'.length : Int)
    · rw [decide_eq_true h5]
      refine iteT ?_
      exact pop H' 0 (fun b u _ e => e) (hch1.mono (by omega)) (by omega)
    · rw [decide_eq_false h5]
      refine iteF ⟨_, rfl, _, rfl, l, _, rfl, .inl (SqL.of hl1), c, cl, M'.length, n + i, by rw [List.length_map]; rfl, hch1, by omega, by omega, by omega, fun H2 r s2 hch2 hr => ?_⟩
      exact pop H2 r s2 hch2 hr
  · rintro σ H' ⟨z6, fs, M', rfl, s1, hf1, hl1, hch1, hf8, hp⟩
    exact ⟨_, rfl, next H' fs M' s1 hf1 hch1 ((List.Perm.append_right _ (pick_all hf8).symm).trans hp) hf8⟩
section
variable {P : Program} {w : World} {K : PySem.W.Frag} {mg : Str → Option Value} {base : Heap} [PM P]
abbrev N_l_names : List Str := ["_law_choir_here", "_law_leaves", "_law_some", "_law_leaf", "_law_found", "_law_order", "_law_word_here", "_law_size", "_law_each"]
theorem sc_l_names : FnScope N_l_names ["_law_choir_here"] (defScope s_l_names) := ⟨rfl, rfl, rfl, by decide +kernel, rfl, by decide +kernel, by decide +kernel⟩
def sp_l_names (K : PySem.W.Frag) : Sp := fun vs H Q _ => ∃ (c cl : Addr) (n : Nat), vs = [.ref c] ∧ CH H c cl n ∧ n ≤ 900000 ∧ ∀ H' f ns, SameX c H H' → H f = none → CH H' c cl (n + 400) → H' f = some (.lst (ns.map V.str)) → TgOk ns → AllApart ns → Q (.ref f) H'
theorem ok_l_names (T : TX w K mg) : FnX P w K mg base 3 ("_law_names", none) ["_law_choir_here"] [] (sp_l_names K) := by
  refine FnX.of T.qd_l_names rfl sc_l_names (fun vs H Q E h => ?_) (fun _ _ _ _ _ _ us hl => match us, hl with | [_], _ => rfl) (fun cdv A outer s H vs Q E hr h => ?_)
  · obtain ⟨c, cl, n, rfl, _⟩ := h
    rfl
  · obtain ⟨c, cl, n, rfl, hch, hn, k⟩ := h
    refine ⟨_, (pss_cons (ps_set (i := 1) sc_l_names.nd rfl (by first | exact .inl rfl | exact .inr rfl) (pe_lst (pa_cons pe_str pa_nil)))
  (pss_cons (ps_while PassesOwn.never (pt_cmpR op_lt (pe_callB call_len_seq (by rfl) (T.f "len") PySem.boot_len (pa_cons (pv 1) pa_nil)) (pe_op op_add pe_int (pe_fx (ok_l_one (P := P) T) (hr.mono (by decide)) (by rfl) (T.g "_law_one") (pa_cons (pv 0) (pa_cons (pe_lst (pa_cons pe_int (pa_cons pe_int (pa_cons pe_int (pa_cons pe_int pa_nil))))) pa_nil)))) (nomark _))
  (pss_cons (ps_setLc (i := 2) (own := [("_law_leaf", 3)]) rfl sc_l_names.nd rfl rfl (sw_true rfl rfl rfl (by decide +kernel)) (pi_list (pv 1)) (blkOk_by (N := N_l_names) (sc := defScope s_l_names) (by decide +kernel)) (fun _ _ _ _ _ => (pg_name (i := 3) sc_l_names.nd rfl (by first | exact .inl rfl | exact .inr rfl))) (fun _ _ _ _ _ => (pts_one (pt_cmpR op_lt (pe_callB call_len_str (by rfl) (T.f "len") PySem.boot_len (pa_cons (pv 3) pa_nil)) (pe_fx (ok_l_one (P := P) T) (hr.mono (by decide)) (by rfl) (T.g "_law_one") (pa_cons (pv 0) (pa_cons (pe_lst (pa_cons pe_int (pa_cons pe_int (pa_cons pe_int (pa_cons pe_int pa_nil))))) pa_nil))) (nomark _)))) (fun _ _ _ _ _ => (pv 3)))
  (pss_cons (ps_set (i := 2) sc_l_names.nd rfl (by first | exact .inl rfl | exact .inr rfl) (pe_ifExp (pt_cmpR (op_ne0 hr.units0) (pv 2) (pe_lst pa_nil) (nomark _)) (pv 2) (pe_lc (own := [("_law_leaf", 3)]) rfl sc_l_names.nd (pi_list (pv 1)) (blkOk_by (N := N_l_names) (sc := defScope s_l_names) (by decide +kernel)) (fun _ _ _ _ _ => (pg_name (i := 3) sc_l_names.nd rfl (by first | exact .inl rfl | exact .inr rfl))) (fun _ _ _ _ _ => (pts_one (pt_cmpR op_lt (pe_callB call_len_str (by rfl) (T.f "len") PySem.boot_len (pa_cons (pv 3) pa_nil)) pe_int (nomark _)))) (fun _ _ _ _ _ => (pv 3)))))
  (pss_cons (ps_set (i := 3) sc_l_names.nd rfl (by first | exact .inl rfl | exact .inr rfl) (pe_fx (ok_l_one (P := P) T) (hr.mono (by decide)) (by rfl) (T.g "_law_one") (pa_cons (pv 0) (pa_cons (pv 2) pa_nil))))
  (pss_one (ps_set (i := 1) sc_l_names.nd rfl (by first | exact .inl rfl | exact .inr rfl) (pe_op op_cat (pe_lc (own := [("_law_each", 8)]) rfl sc_l_names.nd (pi_list (pv 1)) (blkOk_by (N := N_l_names) (sc := defScope s_l_names) (by decide +kernel)) (fun _ _ _ _ _ => (pg_name (i := 8) sc_l_names.nd rfl (by first | exact .inl rfl | exact .inr rfl))) (fun _ _ _ _ _ => (pts_one (pt_cmpR op_ne (pv 8) (pv 3) (nomark _)))) (fun _ _ _ _ _ => (pv 8))) (pe_lst (pa_cons (pe_op op_add_str (pv 3) pe_str) (pa_cons (pe_op op_add_str (pv 3) pe_str) pa_nil))))))))))
  (pss_cons (ps_par (i := 4) (j := 5) (by rfl) sc_l_names.nd rfl rfl (by decide) rfl rfl (pa_cons (pe_op op_rep (pe_lst (pa_cons pe_str pa_nil)) pe_int) (pa_cons (pe_lst (pa_cons pe_int (pa_cons pe_int (pa_cons pe_int (pa_cons pe_int (pa_cons pe_int (pa_cons pe_int (pa_cons pe_int (pa_cons pe_int pa_nil))))))))) pa_nil)) (by rfl))
  (pss_cons (ps_if (pt_cmpR op_gt (pe_fx (ok_l_chant (P := P) T) (hr.mono (by decide)) (by rfl) (T.g "_law_chant") (pa_cons (pv 0) (pa_cons pe_int pa_nil))) pe_int (nomark _)) (pss_one (ps_setLc (i := 1) (own := [("_law_size", 7), ("_law_leaf", 3)]) rfl sc_l_names.nd rfl rfl (sw_true rfl rfl rfl (by decide +kernel)) (pi_list (pe_callB (cr_sortedD hr.units) (by rfl) (T.f "sorted") bt_sorted (pa_cons (pe_lc (own := [("_law_leaf", 3)]) rfl sc_l_names.nd (pi_list (pv 1)) (blkOk_by (N := N_l_names) (sc := defScope s_l_names) (by decide +kernel)) (fun _ _ _ _ _ => (pg_name (i := 3) sc_l_names.nd rfl (by first | exact .inl rfl | exact .inr rfl))) (fun _ _ _ _ _ => pts_nil) (fun _ _ _ _ _ => (pe_tup (pa_cons (pe_callB call_len_str (by rfl) (T.f "len") PySem.boot_len (pa_cons (pv 3) pa_nil)) (pa_cons (pv 3) pa_nil))))) pa_nil))) (blkOk_by (N := N_l_names) (sc := defScope s_l_names) (by decide +kernel)) (fun _ _ _ _ _ => (pg_tupK (K := K) (n := 2) rfl (pgs_cons (pg_name (i := 7) sc_l_names.nd rfl (by first | exact .inl rfl | exact .inr rfl)) (pgs_cons (pg_name (i := 3) sc_l_names.nd rfl (by first | exact .inl rfl | exact .inr rfl)) pgs_nil)))) (fun _ _ _ _ _ => pts_nil) (fun _ _ _ _ _ => (pv 3)))) pss_nil)
  (pss_cons (ps_for PassesOwn.never rfl (pi_list (pv 5)) (pg_name (i := 6) sc_l_names.nd rfl (by first | exact .inl rfl | exact .inr rfl))
  (pss_one (ps_asg (pe_bm PySem.F.plainAttrs_list PySem.F.slot_list_pop PySem.F.type_list_pop mt_popAt (pv 1) (pa_cons (pe_ifExp (pt_cmpR op_gt (pe_callB call_len_seq (by rfl) (T.f "len") PySem.boot_len (pa_cons (pv 1) pa_nil)) pe_int (nomark _)) pe_int (pe_fx (ok_l_chant (P := P) T) (hr.mono (by decide)) (by rfl) (T.g "_law_chant") (pa_cons (pv 0) (pa_cons (pe_callB call_len_seq (by rfl) (T.f "len") PySem.boot_len (pa_cons (pv 1) pa_nil)) pa_nil)))) pa_nil)) (pg_sub (pv 4) (pv 6) set_list))))
  (pss_one (ps_ret (pv 4)))))))), ?_⟩
    obtain ⟨⟨xc, hc0⟩, ⟨xcl, hcl0⟩⟩ := hch.ref
    refine ⟨(show 1 ≤ sizeLine by decide), fun l0 nl0 => ?_⟩
    have free : ∀ {H' : Hp} {p : Addr}, SameX c H H' → CH H' c cl 1000000 → H' p = none → H p = none := fun {H' p} s1 h1 hp => by
      cases e : H p with
      | none => rfl
      | some o =>
        by_cases hq : p = c
        · subst hq
          obtain ⟨⟨xs, q⟩, _⟩ := h1.ref
          rw [q] at hp
          cases hp
        · rw [s1 _ _ hq e] at hp
          cases hp
    refine ⟨fun m σ H' => ∃ (z2 z3 : Option V) (l : Addr) (L : List Str), σ = [some (.ref c), some (.ref l), z2, z3, none, none, none, none, none] ∧ SameX c H H' ∧ H l = none ∧ H' l = some (.lst (L.map V.str)) ∧ CH H' c cl (n + 12 * L.length) ∧ Lv L ∧ 1 ≤ L.length ∧ L.length ≤ 9 ∧ m = 9 - L.length, ⟨8, none, none, l0, [("" : Str)], rfl, (Same.new nl0).x, nl0, upd_same, (hch.same (Same.new nl0)).mono (by omega), Lv.start, Nat.le_refl _, by decide, rfl⟩, ?_⟩
    rintro m σ H1 ⟨z2, z3, l, L, rfl, s1, nl, hl, hch1, hL, hL1, hL9, rfl⟩
    have hlc : l ≠ c := fun q => by rw [q, hc0] at nl; cases nl
    refine ⟨_, rfl, l, _, rfl, .inl (SqL.of hl), _, rfl, (show 4 ≤ sizeLine by decide), fun a na => ?_⟩
    have ca := hch1.new na
    refine ⟨c, cl, a, _, _, rfl, hch1.same (Same.new na), SqL.of upd_same, Ne.symm ca.1, (by intro q; cases q), (show 4 ≤ 16777216 by decide), by omega, fun H2 v s2 hch2 hv => ?_⟩
    obtain ⟨j, rfl, hj⟩ : ∃ j : Int, v = .int j ∧ 0 ≤ j ∧ j ≤ 1 := by
      simp only [List.mem_cons, List.not_mem_nil, or_false] at hv
      rcases hv with rfl | rfl | rfl | rfl
      · exact ⟨0, rfl, by decide, by decide⟩
      · exact ⟨0, rfl, by decide, by decide⟩
      · exact ⟨0, rfl, by decide, by decide⟩
      · exact ⟨1, rfl, by decide, by decide⟩
    have sx2 : SameX c H1 H2 := (Same.new na).x.trans s2
    have hl2 := sx2 _ _ hlc hl
    refine ⟨_, _, rfl, rfl, _, _, rfl, rfl, _, rfl, ?_⟩
    rw [List.length_map]
    by_cases hcond : (L.length : Int) < 8 + j
    · rw [decide_eq_true hcond]
      have hL8 : L.length ≤ 8 := by omega
      refine iteT ⟨fun σ' H' => ∃ m', m' < 9 - L.length ∧ ∃ (z2 z3 : Option V) (l : Addr) (L : List Str), σ' = [some (.ref c), some (.ref l), z2, z3, none, none, none, none, none] ∧ SameX c H H' ∧ H l = none ∧ H' l = some (.lst (L.map V.str)) ∧ CH H' c cl (n + 12 * L.length) ∧ Lv L ∧ 1 ≤ L.length ∧ L.length ≤ 9 ∧ m' = 9 - L.length, fun _ _ z => z, ?_⟩
      refine ⟨_, rfl, l, rfl, ⟨_, SqL.of hl2⟩, fun D hD => ?_⟩
      have cD := hch2.new hD
      refine lc_sx (walk_list (K := K) (a := l) (xs := L.map V.str)) c (Ne.symm cD.1) hD (fun i acc H3 => (∃ ss : List Str, acc = ss.map V.str ∧ ∀ z ∈ ss, z ∈ L ∧ z.length < 8) ∧ CH H3 c cl (n + 12 * L.length + 1 + i)) ⟨⟨[], rfl, fun z h => (List.not_mem_nil h).elim⟩, hch2.same (Same.new hD)⟩ (fun _ s => SqL.x s hlc (SqL.of hl2)) (fun i acc H3 H4 hk ⟨h1, h2⟩ => ⟨h1, h2.keep fun b o hb e => hk b o (by rcases hb with rfl | rfl; exact cD.1; exact cD.2) e⟩) (by rw [List.length_map]; omega) ?_ ?_
      · rintro i x acc H3 H4 R R0 hi s3 hacc hla ⟨⟨ss, rfl, hss⟩, hch3⟩ ⟨rfl, hx⟩ hR hR0
        rw [List.length_map] at hi
        rw [List.getElem?_map] at hx
        obtain ⟨z, hz, rfl⟩ := Option.map_eq_some_iff.mp hx
        have hzL := List.mem_of_getElem? hz
        have hz8 := hL.le z hzL
        refine ⟨rfl, _, rfl, z, rfl, size24 (by omega), _, rfl, (show 4 ≤ sizeLine by decide), fun a3 na3 => ?_⟩
        have ca3 := hch3.new na3
        refine ⟨c, cl, a3, _, _, rfl, hch3.same (Same.new na3), SqL.of upd_same, Ne.symm ca3.1, (by intro q; cases q), (show 4 ≤ 16777216 by decide), by omega, fun H5 v s5 hch5 hv => ?_⟩
        obtain ⟨j, rfl, hj⟩ : ∃ j : Int, v = .int j ∧ j ≤ 4 := by
          simp only [List.mem_cons, List.not_mem_nil, or_false] at hv
          rcases hv with rfl | rfl | rfl | rfl
          · exact ⟨2, rfl, by decide⟩
          · exact ⟨3, rfl, by decide⟩
          · exact ⟨3, rfl, by decide⟩
          · exact ⟨4, rfl, by decide⟩
        have sx5 : SameX c H4 H5 := (Same.new na3).x.trans s5
        refine ⟨_, _, rfl, rfl, _, rfl, ?_⟩
        by_cases hlt : (z.length : Int) < j
        · rw [decide_eq_true hlt]
          refine iteT ⟨_, rfl, hR _ _ sx5 ⟨⟨ss ++ [z], by rw [List.map_append]; rfl, fun y hy => ?_⟩, hch5⟩⟩
          rcases List.mem_append.mp hy with hy | hy
          · exact hss y hy
          · rw [List.mem_singleton.mp hy]
            exact ⟨hzL, by omega⟩
        · rw [decide_eq_false hlt]
          exact iteF (hR0 _ sx5 ⟨⟨ss, rfl, hss⟩, hch5⟩)
      · rintro acc H3 s3 hacc hlen ⟨⟨ss, rfl, hss⟩, hch3⟩
        rw [List.length_map] at hlen hch3
        have hl3 := s3 _ _ hlc hl2
        have sx3 : SameX c H H3 := (s1.trans sx2).trans s3
        have fin : ∀ (Hx : Hp) (a2 : Addr) (ss : List Str), Same H3 Hx → H3 a2 = none → Hx a2 = some (.lst (ss.map V.str)) → ss ≠ [] → ss.length ≤ 9 → (∀ z ∈ ss, z ∈ L ∧ z.length < 8) → ∀ (z3 : Option V),
            CH Hx c cl (n + 12 * L.length + 1 + L.length) ∧ Hx l = some (.lst (L.map V.str)) ∧ a2 ≠ c ∧ SameX c H Hx := fun Hx a2 ss sh ha hb _ _ _ _ => by
          refine ⟨hch3.same sh, sh _ _ hl3, ?_, sx3.trans sh.x⟩
          rintro rfl
          obtain ⟨⟨xs, q⟩, _⟩ := hch3.ref
          rw [q] at ha
          cases ha
        have nextK : ∀ (Hx : Hp), SameX c H Hx → CH Hx c cl 1000000 → ∀ H' l' z v2, SameX c Hx H' → Hx l' = none → H' l' = some (.lst ((splitL L z).map V.str)) → CH H' c cl (n + 12 * L.length + 1 + L.length + 1) → z ∈ L → z.length < 8 →
            ∃ m', m' < 9 - L.length ∧ ∃ (z2 z3 : Option V) (l : Addr) (L : List Str), [some (.ref c), some (.ref l'), v2, some (.str z), none, none, none, none, none] = [some (.ref c), some (.ref l), z2, z3, none, none, none, none, none] ∧ SameX c H H' ∧ H l = none ∧ H' l = some (.lst (L.map V.str)) ∧ CH H' c cl (n + 12 * L.length) ∧ Lv L ∧ 1 ≤ L.length ∧ L.length ≤ 9 ∧ m' = 9 - L.length :=
          fun Hx hsx hchx H' l' z v2 h1 h2 h3 h4 h5 h6 => by
            obtain ⟨g1, g2⟩ := hL.split h5 h6
            exact ⟨9 - (splitL L z).length, by omega, v2, some (.str z), l', splitL L z, rfl, hsx.trans h1, free hsx hchx h2, h3, h4.mono (by omega), g1, by omega, by omega, rfl⟩
        -- some = some if some != [] else ..
        refine ⟨_, rfl, Nat.zero_le _, fun e ne => ⟨D, e, _, rfl, rfl, SqL.of (Same.new ne _ _ hacc), upd_same, _, rfl, ?_⟩⟩
        have sE : Same H3 (upd H3 e (.lst [])) := Same.new ne
        cases ss with
        | cons y ys =>
          have hlen2 : (y :: ys).length ≤ 9 := by rw [List.length_map] at hlen; omega
          obtain ⟨f1, f2, f3, f4⟩ := fin _ e [] sE ne upd_same |> fun _ => (⟨hch3.same sE, sE _ _ hl3, cD.1.symm, sx3.trans sE.x⟩ : CH (upd H3 e (.lst [])) c cl (n + 12 * L.length + 1 + L.length) ∧ _ ∧ D ≠ c ∧ SameX c H (upd H3 e (.lst [])))
          refine iteT ⟨_, rfl, ?_⟩
          exact names_rest f1 (by omega) f2 (sE _ _ hacc) hlc f3 (by simp) hlen2 (by omega) hss (fun H' l' z v2 h1 h2 h3 h4 h5 h6 => nextK _ f4 (f1.mono (by omega)) H' l' z v2 h1 h2 h3 h4 h5 h6)
        | nil =>
          have hlE := sE _ _ hl3
          refine iteF ⟨_, rfl, l, rfl, ⟨_, SqL.of hlE⟩, fun D2 hD2 => ?_⟩
          refine lc_sm (walk_list (K := K) (a := l) (xs := L.map V.str)) hD2 (fun i acc _ => acc = ((L.take i).filter fun x => decide (x.length < 8)).map V.str) rfl (fun _ s => SqL.of (s _ _ hlE)) (fun _ _ _ _ _ h => h) (by rw [List.length_map]; omega) ?_ ?_
          · rintro i x acc H4 H5 R R0 hi s4 hacc4 hla rfl ⟨rfl, hx⟩ hR hR0
            rw [List.getElem?_map] at hx
            obtain ⟨y, hy, rfl⟩ := Option.map_eq_some_iff.mp hx
            obtain ⟨hil, hie⟩ := List.getElem?_eq_some_iff.mp hy
            have hy8 := hL.le y (List.mem_of_getElem? hy)
            refine ⟨rfl, _, rfl, y, rfl, size24 (by omega), _, _, rfl, rfl, _, rfl, ?_⟩
            by_cases e : y.length < 8
            · rw [decide_eq_true (show (y.length : Int) < 8 by omega)]
              refine iteT ⟨_, rfl, hR _ _ (Same.refl _) ?_⟩
              rw [List.take_succ_eq_append_getElem hil, List.filter_append, hie, List.filter_cons_of_pos (by simpa using e), List.filter_nil, List.map_append]
              rfl
            · rw [decide_eq_false (show ¬ (y.length : Int) < 8 by omega)]
              refine iteF (hR0 _ (Same.refl _) ?_)
              rw [List.take_succ_eq_append_getElem hil, List.filter_append, hie, List.filter_cons_of_neg (by simpa using e), List.filter_nil, List.append_nil]
          · rintro acc H4 s4 hacc4 _ rfl
            rw [List.length_map, List.take_length] at hacc4
            have sF := sE.trans s4
            obtain ⟨y, hy, hy8⟩ := hL.short (by omega)
            have hcF := hch3.same sF
            have cD2 := (hch3.same sE).new hD2
            have hne2 : L.filter (fun x => decide (x.length < 8)) ≠ [] := fun q => by
              have : y ∈ L.filter fun x => decide (x.length < 8) := List.mem_filter.mpr ⟨hy, decide_eq_true hy8⟩
              rw [q] at this
              cases this
            have hl9 := List.length_filter_le (fun x => decide (x.length < 8)) L
            exact names_rest hcF (by omega) (sF _ _ hl3) hacc4 hlc cD2.1.symm hne2 (by omega) (by omega) (fun z hz => by rw [List.mem_filter] at hz; exact ⟨hz.1, of_decide_eq_true hz.2⟩) (fun H' l' z v2 h1 h2 h3 h4 h5 h6 => nextK _ (sx3.trans sF.x) (hcF.mono (by omega)) H' l' z v2 h1 h2 h3 h4 h5 h6)
    · rw [decide_eq_false hcond]
      have hL8 : 8 ≤ L.length := by omega
      refine iteF ?_
      -- found, order = [''] * 8, [0, 1, ..]
      have hch2' : CH H2 c cl (n + 12 * L.length + 1) := hch2
      refine ⟨(show 1 ≤ sizeLine by decide), fun a1 na1 => ⟨a1, 8, _, rfl, rfl, upd_same, by decide, by decide, (show 1 * 8 ≤ sizeLine by decide), fun f nf => ⟨(show 8 ≤ sizeLine by decide), fun o no => ⟨_, _, rfl, ?_⟩⟩⟩⟩
      have sA : Same H2 (upd H2 a1 (.lst [V.str ""])) := Same.new na1
      have sB : Same H2 (upd (upd H2 a1 (.lst [V.str ""])) f (.lst (List.replicate (8 : Int).toNat [V.str ""]).flatten)) := sA.new' nf
      have hfo : f ≠ o := fun q => by
        rw [← q, upd_same] at no
        cases no
      have nf2 : H2 f = none := sA.free nf
      have no2 : H2 o = none := sB.free no
      have sC := sB.new' (o := .lst [V.int 0, V.int 1, V.int 7, V.int 3, V.int 2, V.int 4, V.int 5, V.int 6]) no
      have hfC : upd (upd (upd H2 a1 (.lst [V.str ""])) f (.lst (List.replicate (8 : Int).toNat [V.str ""]).flatten)) o (.lst [V.int 0, V.int 1, V.int 7, V.int 3, V.int 2, V.int 4, V.int 5, V.int 6]) f = some (.lst ((List.replicate 8 ("" : Str)).map V.str)) := by
        rw [upd_ne hfo, upd_same]
        rfl
      have hoC : upd (upd (upd H2 a1 (.lst [V.str ""])) f (.lst (List.replicate (8 : Int).toNat [V.str ""]).flatten)) o (.lst [V.int 0, V.int 1, V.int 7, V.int 3, V.int 2, V.int 4, V.int 5, V.int 6]) o = some (.lst (orderL.map fun j => V.int (j : Nat))) := upd_same
      generalize upd (upd (upd H2 a1 (.lst [V.str ""])) f (.lst (List.replicate (8 : Int).toNat [V.str ""]).flatten)) o (.lst [V.int 0, V.int 1, V.int 7, V.int 3, V.int 2, V.int 4, V.int 5, V.int 6]) = H3 at sC hfC hoC
      have hch3 := hch2'.same sC
      have cf := hch2'.new nf2
      have co := hch2'.new no2
      have hl3 := sC _ _ hl2
      have hlf : l ≠ f := ne_of_none hl2 nf2
      have hlo : l ≠ o := ne_of_none hl2 no2
      have sx3 : SameX c H H3 := (s1.trans sx2).trans sC.x
      have hfn : H f = none := free (s1.trans sx2) (hch2'.mono (by omega)) nf2
      have hlcl : cl ≠ l := fun q => by rw [← q, hcl0] at nl; cases nl
      -- if chant > 0
      refine ⟨_, rfl, c, cl, 4, n + 12 * L.length + 1, rfl, hch3, by decide, by decide, by omega, fun H4 r s4 hch4 hr4 => ⟨_, _, rfl, rfl, _, rfl, ?_⟩⟩
      have hl4 := s4 _ _ hlc hl3
      have hf4 := s4 _ _ cf.1.symm hfC
      have ho4 := s4 _ _ co.1.symm hoC
      have sx4 := sx3.trans s4
      have last : ∀ (Hz : Hp) (lz : Addr) (M : List Str), SameX c H4 Hz → (lz = l ∨ H4 lz = none) → H lz = none → M.Perm L → CH Hz c cl (n + 12 * L.length + 2) → ∀ H' (ns rest : List Str), (∀ b u, b ≠ c → b ≠ lz → b ≠ f → Hz b = some u → H' b = some u) → H' f = some (.lst (ns.map V.str)) → CH H' c cl (n + 12 * L.length + 2 + 8) → (ns ++ rest).Perm M → ns.length = 8 → Q (.ref f) H' := by
        intro Hz lz M sz _ hz2 hp hcz H' ns rest s' hf' hch' hp' h8
        obtain ⟨g1, g2⟩ := hL.names (hp'.trans hp) h8
        refine k H' f ns (fun b u n1 e => s' b u n1 (ne_of_none e hz2) (ne_of_none e hfn) (sz _ _ n1 (sx4 _ _ n1 e))) hfn (hch'.mono (by omega)) hf' g1 g2
      by_cases hr0 : (0 : Int) < (r : Int)
      · rw [decide_eq_true hr0]
        refine iteT ?_
        refine ⟨_, rfl, l, rfl, ⟨_, SqL.of hl4⟩, fun D hD => ?_⟩
        refine lc_sm (walk_list (K := K) (a := l) (xs := L.map V.str)) hD (fun i acc H' => ∃ qs : List (Addr × Str), acc = qs.map (fun q => V.ref q.1) ∧ qs.map (·.2) = L.take i ∧ ∀ q ∈ qs, q.1 ≠ D ∧ H' q.1 = some (.tup [.int (q.2.length : Nat), .str q.2])) ⟨[], rfl, rfl, fun q h => (List.not_mem_nil h).elim⟩
          (fun _ s => SqL.of (s _ _ hl4)) (fun i acc H5 H6 hk ⟨qs, h1, h2, h3⟩ => ⟨qs, h1, h2, fun q hq => ⟨(h3 q hq).1, hk _ _ (h3 q hq).1 (h3 q hq).2⟩⟩) (by rw [List.length_map]; omega) ?_ ?_
        · rintro i x acc H5 H6 R R0 hi s5 hacc hla ⟨qs, rfl, hq2, hq3⟩ ⟨rfl, hx⟩ hR hR0
          rw [List.getElem?_map] at hx
          obtain ⟨z, hz, rfl⟩ := Option.map_eq_some_iff.mp hx
          have hz8 := hL.le z (List.mem_of_getElem? hz)
          refine ⟨rfl, tY ⟨_, rfl, z, rfl, size24 (by omega), _, rfl, two_le, fun p np => hR _ _ (Same.new np) ⟨qs ++ [(p, z)], by rw [List.map_append]; rfl, ?_, fun q hq => ?_⟩⟩⟩
          · obtain ⟨hil, hie⟩ := List.getElem?_eq_some_iff.mp hz
            rw [List.map_append, hq2, List.take_succ_eq_append_getElem hil, hie]
            rfl
          · rcases List.mem_append.mp hq with hq | hq
            · exact ⟨(hq3 q hq).1, Same.new np _ _ (hq3 q hq).2⟩
            · rw [List.mem_singleton.mp hq]
              exact ⟨(ne_of_none hacc np).symm, upd_same⟩
        · rintro acc H5 s5 hacc _ ⟨qs, rfl, hq2, hq3⟩
          rw [List.length_map, List.take_length] at hq2
          have hql : qs.length = L.length := by rw [← hq2, List.length_map]
          refine ⟨D, _, qs.map (fun q => PyData.tuple [.int (q.2.length : Nat), .str q.2]), rfl, SqL.of hacc, ?_, ?_, ?_, ?_, fun ys p hperm np => ?_⟩
          · exact dp_pairs qs fun q hq => (hq3 q hq).2
          · exact PySem.W.AllAlike.of fun b b' => by simp [PySem.W.alike, PySem.W.alikeAll]
          · exact PySem.W.Sortable.tuples fun b => ⟨_, _, rfl⟩
          · intro d hd
            obtain ⟨q, _, rfl⟩ := List.mem_map.mp hd
            simp [PyData.depth, PyData.depthAll]
          · obtain ⟨zs, hz1, rfl⟩ := perm_lift (fun q : Addr × Str => V.ref q.1) hperm qs rfl
            have s6 : Same H4 (upd H5 p (.lst (zs.map fun q => V.ref q.1))) := s5.new' np
            refine ⟨p, rfl, ⟨_, SqL.of upd_same⟩, fun D2 hD2 => ?_⟩
            refine lc_sm (walk_list (K := K) (a := p) (xs := zs.map fun q => V.ref q.1)) hD2 (fun i acc _ => acc = (zs.take i).map fun q => V.str q.2) rfl (fun _ s => SqL.of (s _ _ upd_same)) (fun _ _ _ _ _ h => h) (by rw [List.length_map, hz1.length_eq]; omega) ?_ ?_
            · rintro i x acc H6 H7 R R0 hi s7 hacc7 hla rfl ⟨rfl, hx⟩ hR hR0
              rw [List.getElem?_map] at hx
              obtain ⟨q, hq, rfl⟩ := Option.map_eq_some_iff.mp hx
              obtain ⟨hil, hie⟩ := List.getElem?_eq_some_iff.mp hq
              have hqm := (hq3 q (hz1.mem_iff.mp (List.mem_of_getElem? hq))).2
              refine ⟨q.1, _, rfl, SqT.of (s7 _ _ (Same.new np _ _ hqm)), rfl, _, _, rfl, _, _, rfl, rfl, rfl, tY ⟨_, rfl, hR _ _ (Same.refl _) ?_⟩⟩
              rw [List.take_succ_eq_append_getElem hil, List.map_append, hie]
              rfl
            · rintro acc H6 s7 hacc6 _ rfl
              rw [List.length_map, List.take_length] at hacc6
              have s8 := s6.trans s7
              have hD24 : H4 D2 = none := s6.free hD2
              have c2 := hch4.new hD24
              have hMp : (zs.map (·.2)).Perm L := by
                have := hz1.map (·.2)
                rwa [hq2] at this
              have hML := hMp.length_eq
              have hch6 := hch4.same s8
              refine names_tail (M := zs.map (·.2)) hch6 (by omega) (by rw [hacc6, List.map_map]; rfl) (s8 _ _ hf4) (s8 _ _ ho4) c2.1.symm cf.1.symm co.1.symm (ne_of_none hf4 hD24).symm (ne_of_none ho4 hD24).symm hfo c2.2 cf.2 (by omega) (by omega) (by decide) (last H6 D2 (zs.map (·.2)) s8.x (.inr hD24) (free sx4 (hch4.mono (by omega)) hD24) hMp hch6)
      · rw [decide_eq_false hr0]
        refine iteF ?_
        exact names_tail hch4 (by omega) hl4 hf4 ho4 hlc cf.1.symm co.1.symm hlf hlo hfo hlcl cf.2 hL8 hL9 (by decide) (last H4 l L (SameX.refl c H4) (.inl rfl) nl (List.Perm.refl _) hch4)
end
end K53
end TK53AI

section TK53AJ
set_option maxHeartbeats 4000000

namespace K53
open PySem PySem.Spec PyProof.Rows L2
theorem idx8 {y : Str} (h : y ∈ words8) : ∃ j : Nat, words8[j]? = some y ∧ (words8.map V.str)[j]? = some (V.str y) ∧ eqV (V.str y) (V.str y) = true ∧ ∀ (m : Nat) (z' : V), m < j → (words8.map V.str)[m]? = some z' → eqV z' (V.str y) = false := by
  obtain ⟨j, hj⟩ := List.mem_iff_getElem?.mp h
  refine ⟨j, hj, by rw [List.getElem?_map, hj]; rfl, beq_self_eq_true y, fun m z' hm hz => ?_⟩
  rw [List.getElem?_map] at hz
  obtain ⟨u, hu, rfl⟩ := Option.map_eq_some_iff.mp hz
  show (u == y) = false
  refine beq_eq_false_iff_ne.mpr fun e => ?_
  subst e
  have := (List.getElem?_inj (List.getElem?_eq_some_iff.mp hu).1 words8_nodup).mp (hu.trans hj.symm)
  omega
theorem flat8 : (words8.map V.str).all flatV = true := by decide +kernel
theorem sum_cast {α : Type} (f : α → Nat) : ∀ l : List α, (l.map fun x => ((f x : Nat) : Int)).sum = (((l.map f).sum : Nat) : Int)
  | [] => rfl
  | x :: l => by simp only [List.map_cons, List.sum_cons, sum_cast f l, Int.natCast_add]
section
variable {P : Program} {w : World} {K : PySem.W.Frag} {mg : Str → Option Value} {base : Heap} [PM P]
abbrev N_l_due : List Str := ["_law_names_here", "_law_told", "_law_words", "_law_word_here"]
theorem sc_l_due : FnScope N_l_due ["_law_names_here", "_law_told"] (defScope s_l_due) := ⟨rfl, rfl, rfl, by decide +kernel, rfl, by decide +kernel, by decide +kernel⟩
def sp_l_due (K : PySem.W.Frag) : Sp := fun vs H Q _ => ∃ (l : Addr) (ns : List Str) (v : V) (q : List Str) (n t : Nat), vs = [.ref l, v] ∧ H l = some (.lst (ns.map V.str)) ∧ FAt K H v q n t ∧ TgOk ns ∧ IsProg q ∧ q.length ≤ 1000 ∧ n < 2 ^ 40 ∧ plen (lnOf ns) q ≤ 10000 ∧ ∀ H', Same H H' → Q (.int ((n * 2 ^ plen (lnOf ns) q : Nat) : Int)) H'
theorem ok_l_due (T : TX w K mg) : FnX P w K mg base 1 ("_law_due", none) ["_law_names_here", "_law_told"] [] (sp_l_due K) := by
  refine FnX.of T.qd_l_due rfl sc_l_due (fun vs H Q E h => ?_) (fun _ _ _ _ _ _ us hl => match us, hl with | [_, _], _ => rfl) (fun cdv A outer s H vs Q E hr h => ?_)
  · obtain ⟨l, ns, v, q, n, t, rfl, _⟩ := h
    rfl
  · obtain ⟨l, ns, v, q, n, t, rfl, hl, ⟨x, dx, b, tp, a, rfl, hx, htp⟩, hok, hq, hql, hn, hpl, k⟩ := h
    refine ⟨_, (pss_cons (ps_set (i := 2) sc_l_due.nd rfl (by first | exact .inl rfl | exact .inr rfl) (pe_lst (pa_cons pe_str (pa_cons pe_str (pa_cons pe_str (pa_cons pe_str (pa_cons pe_str (pa_cons pe_str (pa_cons pe_str (pa_cons pe_str pa_nil))))))))))
  (pss_one (ps_ret (pe_op op_shl (pe_fld (pv 1) rfl) (pe_callB (cr_sum rfl) (by rfl) (T.f "sum") bt_sum (pa_cons (pe_lc (own := [("_law_word_here", 3)]) rfl sc_l_due.nd (pi_list (pe_op op_cat (pe_callTy call_list_of (by rfl) (T.f "list") bt_list (pa_cons (pe_fld (pv 1) rfl) pa_nil)) (pe_lst (pa_cons pe_str pa_nil)))) (blkOk_by (N := N_l_due) (sc := defScope s_l_due) (by decide +kernel)) (fun _ _ _ _ _ => (pg_name (i := 3) sc_l_due.nd rfl (by first | exact .inl rfl | exact .inr rfl))) (fun _ _ _ _ _ => pts_nil) (fun _ _ _ _ _ => (pe_callB call_len_str (by rfl) (T.f "len") PySem.boot_len (pa_cons (pe_ix (ix_listK (K := K)) (pv 0) (pe_bmK (K := K) PySem.F.plainAttrs_list PySem.F.slot_list_index PySem.F.type_list_index (mt_indexK (K := K)) (pv 2) (pa_cons (pv 3) pa_nil)) (fun _ _ => rfl)) pa_nil)))) pa_nil)))))), ?_⟩
    have cF := T.cls "Found"
    refine ⟨(show 8 ≤ sizeLine by decide), fun w0 nw0 => ?_⟩
    have s1 : Same H (upd H w0 (.lst (words8.map V.str))) := Same.new nw0
    have hw1 : upd H w0 (.lst (words8.map V.str)) w0 = some (.lst (words8.map V.str)) := upd_same
    have hx1 := s1 _ _ hx
    have htp1 := s1 _ _ htp
    have hl1 := s1 _ _ hl
    show gName 2 (V.ref w0) _ (upd H w0 (.lst (words8.map V.str))) _
    generalize upd H w0 (.lst (words8.map V.str)) = H1 at s1 hw1 hx1 htp1 hl1 ⊢
    refine ⟨_, rfl, x, _, dx, _, _, rfl, hx1, cF, T.na "Found" "step", lk_Found_step, _, rfl, x, _, dx, _, _, rfl, hx1, cF, T.na "Found" "program", lk_Found_program, tp, _, rfl, .inr (SqT.of htp1), fun p np => ⟨(show 1 ≤ sizeLine by decide), fun e ne => ?_⟩⟩
    have s2 : Same H1 (upd (upd H1 p (.lst (q.map V.str))) e (.lst [V.str "end"])) := (Same.new np).new' ne
    refine ⟨p, e, _, _, rfl, rfl, Same.new ne _ _ upd_same, upd_same, ?_, fun r nr => ⟨r, rfl, ⟨_, SqL.of upd_same⟩, fun D hD => ?_⟩⟩
    · rw [List.length_map]
      exact size24 (by show _ + 1 ≤ _; omega)
    have s3 := s2.new' (o := .lst (q.map V.str ++ [V.str "end"])) nr
    have hr3 : upd (upd (upd H1 p (.lst (q.map V.str))) e (.lst [V.str "end"])) r (.lst (q.map V.str ++ [V.str "end"])) r = some (.lst ((q ++ [endW]).map V.str)) := by
      rw [upd_same, List.map_append]
      rfl
    generalize upd (upd (upd H1 p (.lst (q.map V.str))) e (.lst [V.str "end"])) r (.lst (q.map V.str ++ [V.str "end"])) = H3 at s3 hr3 hD ⊢
    have hin : ∀ y ∈ q ++ [endW], y ∈ words8 := fun y hy => by
      rcases List.mem_append.mp hy with hy | hy
      · exact mem8.mpr (.inl (hq y hy))
      · exact mem8.mpr (.inr (List.mem_singleton.mp hy))
    refine lc_sm (walk_list (K := K) (a := r) (xs := (q ++ [endW]).map V.str)) hD (fun i acc _ => acc = ((q ++ [endW]).take i).map fun y => V.int ((lnOf ns y : Nat) : Int)) rfl (fun _ s => SqL.of (s _ _ hr3)) (fun _ _ _ _ _ h => h) (by rw [List.length_map, List.length_append]; show _ + 1 ≤ _; omega) ?_ ?_
    · rintro i z acc H4 H5 R R0 hi s4 hacc hla rfl ⟨rfl, hz⟩ hR hR0
      rw [List.getElem?_map] at hz
      obtain ⟨y, hy, rfl⟩ := Option.map_eq_some_iff.mp hz
      obtain ⟨hil, hie⟩ := List.getElem?_eq_some_iff.mp hy
      obtain ⟨j, hj, j2, j3, j4⟩ := idx8 (hin y (List.mem_of_getElem? hy))
      have hj8 := (List.getElem?_eq_some_iff.mp hj).1
      rw [words8_len, ← hok.len] at hj8
      have hns : ns[j]? = some ns[j] := List.getElem?_eq_getElem hj8
      have hln := lnOf_at hns hj
      have hn8 := (hok.nm _ (List.mem_of_getElem? hns)).2.2
      refine ⟨rfl, tY ⟨_, rfl, _, rfl, .inl ⟨rfl, _, SqL.of (s4 _ _ (s3 _ _ hw1))⟩, _, rfl, w0, _, _, j, _, rfl, rfl, SqL.of (s4 _ _ (s3 _ _ hw1)), rfl, flat8, j2, j3, j4, l, _, _, _, rfl, rfl, SqL.of (s4 _ _ (s3 _ _ hl1)), atI_nat (by rw [List.getElem?_map, hns]; rfl), ns[j], rfl, size24 (by omega), hR _ _ (Same.refl _) ?_⟩⟩
      rw [List.take_succ_eq_append_getElem hil, List.map_append, hie, ← hln]
      rfl
    · rintro acc H4 s4 hacc _ rfl
      rw [List.length_map, List.take_length] at hacc
      have esum : ((q ++ [endW]).map (lnOf ns)).sum = plen (lnOf ns) q := by
        unfold plen
        rw [List.map_append, List.sum_append]
        show _ + (_ + 0) = _
        rw [Nat.add_zero]
      refine ⟨D, (q ++ [endW]).map (fun y => ((lnOf ns y : Nat) : Int)), rfl, SqL.of (by rw [hacc, List.map_map]; rfl), _, _, rfl, rfl, ?_, ?_⟩
      · rw [sum_cast, esum]
        exact ⟨by omega, by omega, by omega⟩
      · rw [sum_cast, esum]
        dsimp only
        rw [Int.toNat_natCast]
        have := k H4 ((s1.trans s3).trans s4)
        rw [Int.natCast_mul, Int.natCast_pow] at this
        exact this
abbrev N_l_tick : List Str := ["_law_rows", "_law_due_here", "_law_number", "_law_its", "_law_length", "_law_text", "_law_told"]
theorem sc_l_tick : FnScope N_l_tick ["_law_rows", "_law_due_here", "_law_number"] (defScope s_l_tick) := ⟨rfl, rfl, rfl, by decide +kernel, rfl, by decide +kernel, by decide +kernel⟩
/-- the rows of the law: (length, text, told) -/
def RowsAt (H : Hp) (a : Addr) (ln : Str → Nat) (r : List (List Str)) : Prop := ∃ ps : List (Addr × Str × Addr × List Str), ps.map (·.2.2.2) = r ∧ H a = some (.lst (ps.map fun z => V.ref z.1)) ∧ ∀ z ∈ ps, H z.1 = some (.tup [.int (plen ln z.2.2.2 : Nat), .str z.2.1, .ref z.2.2.1]) ∧ H z.2.2.1 = some (.tup (z.2.2.2.map V.str))
def sp_l_tick (K : PySem.W.Frag) : Sp := fun vs H Q _ => ∃ (a : Addr) (ln : Str → Nat) (r : List (List Str)) (D : Nat), vs = [.ref a, .int (D : Nat), .int (r.length : Nat)] ∧ RowsAt H a ln r ∧ r.length ≤ 16777216 ∧ ∀ H', Same H H' → Q (.int (dueSum ln D r : Nat)) H'
theorem ok_l_tick (T : TX w K mg) : FnX P w K mg base 1 ("_law_tick", none) ["_law_rows", "_law_due_here", "_law_number"] [] (sp_l_tick K) := by
  refine FnX.of T.qd_l_tick rfl sc_l_tick (fun vs H Q E h => ?_) (fun _ _ _ _ _ _ us hl => match us, hl with | [_, _, _], _ => rfl) (fun cdv A outer s H vs Q E hr h => ?_)
  · obtain ⟨a, ln, r, D, rfl, _⟩ := h
    rfl
  · obtain ⟨a, ln, r, D, rfl, ⟨ps, hps, ha, hz⟩, hr, k⟩ := h
    refine ⟨_, (pss_one (ps_ret (pe_callB (cr_sum rfl) (by rfl) (T.f "sum") bt_sum (pa_cons (pe_lc (own := [("_law_its", 3), ("_law_length", 4), ("_law_text", 5), ("_law_told", 6)]) rfl sc_l_tick.nd (pi_enum (by rfl) (T.f "enumerate") (pa_cons (pv 0) pa_nil)) (blkOk_by (N := N_l_tick) (sc := defScope s_l_tick) (by decide +kernel)) (fun _ _ _ _ _ => (pg_tupK (K := K) (n := 2) rfl (pgs_cons (pg_name (i := 3) sc_l_tick.nd rfl (by first | exact .inl rfl | exact .inr rfl)) (pgs_cons (pg_tupK (K := K) (n := 3) rfl (pgs_cons (pg_name (i := 4) sc_l_tick.nd rfl (by first | exact .inl rfl | exact .inr rfl)) (pgs_cons (pg_name (i := 5) sc_l_tick.nd rfl (by first | exact .inl rfl | exact .inr rfl)) (pgs_cons (pg_name (i := 6) sc_l_tick.nd rfl (by first | exact .inl rfl | exact .inr rfl)) pgs_nil)))) pgs_nil)))) (fun _ _ _ _ _ => pts_nil) (fun _ _ _ _ _ => (pe_op op_shr (pe_ifExp (pt_cmpR op_le (pv 3) (pv 2) (nomark _)) (pv 1) (pe_op op_sub (pv 1) pe_int)) (pv 4)))) pa_nil)))), ?_⟩
    refine ⟨_, rfl, a, _, rfl, SqL.of ha, fun D1 hD => ?_⟩
    have hlen : ps.length = r.length := by rw [← hps, List.length_map]
    refine lc_sm (walk_enum (K := K) (a := a) (xs := ps.map fun z => V.ref z.1)) hD (fun i acc _ => acc = (ps.take i).map fun z => V.int ((D / 2 ^ plen ln z.2.2.2 : Nat) : Int)) rfl (fun _ s => SqL.of (s _ _ ha)) (fun _ _ _ _ _ h => h) (by rw [List.length_map]; omega) ?_ ?_
    · rintro i v acc H2 H3 R R0 hi s2 hacc hla rfl ⟨W, x, y, rfl, nW, rfl, hx, hy⟩ hR hR0
      obtain rfl := Option.some.inj hx
      dsimp only at hy
      rw [List.getElem?_map] at hy
      obtain ⟨z, hzi, rfl⟩ := Option.map_eq_some_iff.mp hy
      obtain ⟨hil, hie⟩ := List.getElem?_eq_some_iff.mp hzi
      have hz1 := (hz z (List.mem_of_getElem? hzi)).1
      refine ⟨W, _, rfl, SqT.of upd_same, rfl, _, _, rfl, _, _, rfl, ⟨z.1, _, rfl, SqT.of (Same.new nW _ _ (s2 _ _ hz1)), rfl, _, _, rfl, _, _, rfl, _, _, rfl, rfl, rfl, rfl, tY ?_⟩⟩
      refine ⟨_, rfl, _, rfl, _, _, rfl, rfl, _, rfl, ?_⟩
      rw [List.length_map] at hi
      rw [decide_eq_true (show ((i : Nat) : Int) ≤ ((r.length : Nat) : Int) by omega)]
      refine iteT ⟨_, rfl, _, rfl, _, _, rfl, rfl, Int.natCast_nonneg _, hR _ _ (Same.new nW) ?_⟩
      rw [List.take_succ_eq_append_getElem hil, List.map_append, hie]
      show _ ++ [V.int (((D : Nat) : Int) / 2 ^ ((plen ln z.2.2.2 : Nat) : Int).toNat)] = _ ++ [V.int ((D / 2 ^ plen ln z.2.2.2 : Nat) : Int)]
      rw [Int.toNat_natCast, Int.natCast_ediv, Int.natCast_pow]
      rfl
    · rintro acc H2 s2 hacc _ rfl
      rw [List.length_map, List.take_length] at hacc
      refine ⟨D1, ps.map (fun z => ((D / 2 ^ plen ln z.2.2.2 : Nat) : Int)), rfl, SqL.of (by rw [hacc, List.map_map]; rfl), ?_⟩
      have e : (ps.map fun z => ((D / 2 ^ plen ln z.2.2.2 : Nat) : Int)).sum = ((dueSum ln D r : Nat) : Int) := by
        rw [sum_cast (fun z : Addr × Str × Addr × List Str => D / 2 ^ plen ln z.2.2.2) ps, ← hps]
        unfold dueSum
        rw [List.map_map]
        rfl
      rw [e]
      exact k _ s2
end
end K53
end TK53AJ

section TK53AK
set_option maxHeartbeats 4000000

namespace K53
open PySem PySem.Spec PyProof.Rows L2
theorem word_ret {E : Ends} {Hx : Hp} {wd : Str} {l lt : Int} {σ : L2.St} (h4 : σ[4]? = some (some (.str wd))) (h5 : σ[5]? = some (some (.int lt))) (h6 : σ[6]? = some (some (.int l))) (next : ∀ t v, Hx t = none → (v = .non ∨ ∃ i, v = .int i) → E.rt (.ref t) (upd Hx t (.tup [v, .int lt]))) :
    tRet (tTup (tCons (tIf (tTest (tOp rEq (tVar 4) (tC (V.str "say")))) (tVar 6) (tC V.non)) (tCons (tVar 5) tNil))) E σ Hx := by
  refine ⟨_, h4, rfl, _, rfl, ?_⟩
  by_cases e : wd = ("say" : Str)
  · rw [decide_eq_true (congrArg V.str e)]
    exact iteT ⟨_, h6, _, h5, two_le, fun t nt => next t _ nt (.inr ⟨l, rfl⟩)⟩
  · rw [decide_eq_false fun q => e (V.str.inj q)]
    exact iteF ⟨_, h5, two_le, fun t nt => next t _ nt (.inl rfl)⟩
section
variable {P : Program} {w : World} {K : PySem.W.Frag} {mg : Str → Option Value} {base : Heap} [PM P]
abbrev N_l_word : List Str := ["_law_told", "_law_boxes", "_law_spot", "_law_words", "_law_word_here", "_law_later", "_law_left", "_law_right"]
theorem sc_l_word : FnScope N_l_word ["_law_told", "_law_boxes", "_law_spot"] (defScope s_l_word) := ⟨rfl, rfl, rfl, by decide +kernel, rfl, by decide +kernel, by decide +kernel⟩
def Bx (i : Int) : Prop := -1000000000000000000 ≤ i ∧ i ≤ 1000000000000000000
def sp_l_word (K : PySem.W.Frag) : Sp := fun vs H Q _ => ∃ (tp b : Addr) (p : List Str) (l r : Int) (s : Nat), vs = [.ref tp, .ref b, .int (s : Nat)] ∧ H tp = some (.tup (p.map V.str)) ∧ H b = some (.lst [.int l, .int r]) ∧ Bx l ∧ Bx r ∧ s ≤ p.length ∧ p.length ≤ 1000 ∧
  ∀ H' t v l' r' s', SameX b H H' → H t = none → H' t = some (.tup [v, .int ((s' : Nat) : Int)]) → (v = .non ∨ ∃ i, v = .int i) → H' b = some (.lst [.int l', .int r']) → Bx r' → s' ≤ p.length → Q (.ref t) H'
theorem ok_l_word (T : TX w K mg) : FnX P w K mg base 1 ("_law_word", none) ["_law_told", "_law_boxes", "_law_spot"] [] (sp_l_word K) := by
  refine FnX.of T.qd_l_word rfl sc_l_word (fun vs H Q E h => ?_) (fun _ _ _ _ _ _ us hl => match us, hl with | [_, _, _], _ => rfl) (fun cdv A outer s H vs Q E hr h => ?_)
  · obtain ⟨tp, b, p, l, r, s, rfl, _⟩ := h
    rfl
  · obtain ⟨tp, b, p, l, r, sp, rfl, htp, hb, hl, hr2, hs, hp, k⟩ := h
    refine ⟨_, (pss_cons (ps_set (i := 3) sc_l_word.nd rfl (by first | exact .inl rfl | exact .inr rfl) (pe_op op_cat (pe_callTy call_list_of (by rfl) (T.f "list") bt_list (pa_cons (pv 0) pa_nil)) (pe_lst (pa_cons pe_str pa_nil))))
  (pss_cons (ps_par (i := 4) (j := 5) (by rfl) sc_l_word.nd rfl rfl (by decide) rfl rfl (pa_cons (pe_ix ix_list (pv 3) (pv 2) (fun _ _ => rfl)) (pa_cons (pe_op op_mod (pe_callTy call_int1 (by rfl) (T.f "int") bt_int (pa_cons (pe_op op_add (pv 2) pe_int) pa_nil)) (pe_callB call_len_seq (by rfl) (T.f "len") PySem.boot_len (pa_cons (pv 3) pa_nil))) pa_nil)) (by rfl))
  (pss_cons (ps_asg (pv 1) (pg_unl rfl (pgs_cons (pg_name (i := 6) sc_l_word.nd rfl (by first | exact .inl rfl | exact .inr rfl)) (pgs_cons (pg_name (i := 7) sc_l_word.nd rfl (by first | exact .inl rfl | exact .inr rfl)) pgs_nil))))
  (pss_cons (ps_if (pt_cmpR op_eq (pv 4) pe_str (nomark _)) (pss_one (ps_asg (pe_tup (pa_cons (pv 7) (pa_cons (pv 6) pa_nil))) (pg_tup (n := 2) rfl (pgs_cons (pg_sub (pv 1) pe_int set_list) (pgs_cons (pg_sub (pv 1) pe_int set_list) pgs_nil))))) (pss_one (ps_if (PW.pt (pw_or (pt_cmpR op_eq (pv 4) pe_str (nomark _)) (pw_or1 (pt_cmpR op_eq (pv 4) pe_str (nomark _))))) (pss_one (ps_asg (pe_op op_add (pv 6) (pe_ifExp (pt_cmpR op_eq (pv 4) pe_str (nomark _)) pe_int (pe_un un_neg pe_int))) (pg_sub (pv 1) pe_int set_list))) (pss_one (ps_if (PW.pt (pw_or (pt_cmpR op_eq (pv 4) pe_str (nomark _)) (pw_or1 (pt_cmpR op_eq (pv 4) pe_str (nomark _))))) (pss_one (ps_asg (pe_ifExp (pt_cmpR op_eq (pv 4) pe_str (nomark _)) (pe_op op_add (pv 6) (pv 7)) (pe_op op_mul (pv 6) (pv 7))) (pg_sub (pv 1) pe_int set_list))) (pss_one (ps_if (PW.pt (pw_and (pt_cmpR op_eq (pv 4) pe_str (nomark _)) (pw_and1 (pt_cmpR op_ne (pv 6) pe_int (nomark _))))) (pss_one (ps_set (i := 5) sc_l_word.nd rfl (by first | exact .inl rfl | exact .inr rfl) (pe_op op_mod (pe_callTy call_int1 (by rfl) (T.f "int") bt_int (pa_cons (pe_op op_add (pv 2) pe_int) pa_nil)) (pe_callB call_len_seq (by rfl) (T.f "len") PySem.boot_len (pa_cons (pv 3) pa_nil))))) pss_nil)))))))
  (pss_one (ps_ret (pe_tup (pa_cons (pe_ifExp (pt_cmpR op_eq (pv 4) pe_str (nomark _)) (pv 6) pe_non) (pa_cons (pv 5) pa_nil))))))))), ?_⟩
    refine ⟨_, rfl, tp, _, rfl, .inr (SqT.of htp), fun a1 na1 => ⟨(show 1 ≤ sizeLine by decide), fun a2 na2 => ?_⟩⟩
    have s2 : Same H (upd (upd H a1 (.lst (p.map V.str))) a2 (.lst [V.str "end"])) := (Same.new na1).new' na2
    refine ⟨a1, a2, _, _, rfl, rfl, Same.new na2 _ _ upd_same, upd_same, ?_, fun ws nws => ?_⟩
    · rw [List.length_map]
      exact size24 (by show _ + 1 ≤ _; omega)
    have s3 := s2.new' (o := .lst (p.map V.str ++ [V.str "end"])) nws
    have hw3 : upd (upd (upd H a1 (.lst (p.map V.str))) a2 (.lst [V.str "end"])) ws (.lst (p.map V.str ++ [V.str "end"])) ws = some (.lst ((p ++ [endW]).map V.str)) := by
      rw [upd_same, List.map_append]
      rfl
    show gName 3 (V.ref ws) _ (upd (upd (upd H a1 (.lst (p.map V.str))) a2 (.lst [V.str "end"])) ws (.lst (p.map V.str ++ [V.str "end"]))) _
    generalize upd (upd (upd H a1 (.lst (p.map V.str))) a2 (.lst [V.str "end"])) ws (.lst (p.map V.str ++ [V.str "end"])) = H3 at s3 hw3 ⊢
    have hb3 := s3 _ _ hb
    have hlen : ((p ++ [endW]).map V.str).length = p.length + 1 := by simp
    obtain ⟨wd, hwd⟩ : ∃ wd, ((p ++ [endW]).map V.str)[sp]? = some (V.str wd) := by
      have h1 : sp < (p ++ [endW]).length := by rw [List.length_append]; show sp < _ + 1; omega
      exact ⟨(p ++ [endW])[sp], by rw [List.getElem?_map, List.getElem?_eq_getElem h1]; rfl⟩
    have hmod : ∀ x : Nat, ((x : Int)) % (((p ++ [endW]).map V.str).length : Int) = ((x % (p.length + 1) : Nat) : Int) := fun x => by rw [hlen, Int.natCast_emod]
    have hml : ∀ x : Nat, x % (p.length + 1) ≤ p.length := fun x => Nat.le_of_lt_succ (Nat.mod_lt _ (by omega))
    refine ⟨_, rfl, _, rfl, ws, _, _, _, rfl, rfl, SqL.of hw3, atI_nat hwd, _, rfl, _, _, rfl, rfl, .inl ⟨_, rfl, _, rfl, ws, _, rfl, .inl (SqL.of hw3), _, _, rfl, rfl, by rw [hlen]; omega, _, _, rfl, ?_⟩⟩
    refine ⟨_, rfl, b, _, rfl, SqL.of hb3, rfl, _, _, rfl, _, _, rfl, rfl, ?_⟩
    have fin : ∀ (Hx : Hp) (l' r' : Int) (lt : Int) (s' : Nat), lt = (s' : Int) → s' ≤ p.length → SameX b H Hx → Hx b = some (.lst [.int l', .int r']) → Bx r' → ∀ t v, Hx t = none → (v = .non ∨ ∃ i, v = .int i) → Q (.ref t) (upd Hx t (.tup [v, .int lt])) := by
      rintro Hx l' r' lt s' rfl h1 h2 h3 h4 t v nt hv
      refine k _ t v l' r' s' (h2.trans (SameX.new nt)) ?_ upd_same hv (Same.new nt _ _ h3) h4 h1
      cases e : H t with
      | none => rfl
      | some o =>
        by_cases q : t = b
        · rw [q, h3] at nt
          cases nt
        · rw [h2 _ _ q e] at nt
          cases nt
    have hlt1 : ((sp : Int) + 1) % (((p ++ [endW]).map V.str).length : Int) = (((sp + 1) % (p.length + 1) : Nat) : Int) := by
      rw [← hmod (sp + 1)]
      rfl
    have hlt2 : ((sp : Int) + 2) % (((p ++ [endW]).map V.str).length : Int) = (((sp + 2) % (p.length + 1) : Nat) : Int) := by
      rw [← hmod (sp + 2)]
      rfl
    refine ⟨_, rfl, rfl, _, rfl, ?_⟩
    by_cases e1 : wd = ("swap" : Str)
    · rw [decide_eq_true (congrArg V.str e1)]
      refine iteT ⟨_, rfl, _, rfl, two_le, fun t nt => ?_⟩
      have hbt := (Same.new (o := .tup [V.int r, V.int l]) nt) _ _ hb3
      refine ⟨t, _, rfl, SqT.of upd_same, rfl, _, _, rfl, ⟨_, rfl, b, _, 0, 0, rfl, rfl, hbt, rfl, _, _, rfl, ⟨_, rfl, b, _, 1, 1, rfl, rfl, upd_same, rfl, rfl, ?_⟩⟩⟩
      exact word_ret rfl rfl rfl (fin _ r l _ _ hlt1 (hml _) ((s3.x.trans (SameX.new nt)).put.put) upd_same hl)
    rw [decide_eq_false fun q => e1 (V.str.inj q)]
    refine iteF ⟨_, rfl, rfl, _, rfl, ?_⟩
    by_cases e2 : wd = ("up" : Str)
    · rw [decide_eq_true (congrArg V.str e2)]
      refine iteT (iteT ⟨_, rfl, _, rfl, rfl, _, rfl, ?_⟩)
      rw [decide_eq_true (congrArg V.str e2)]
      refine iteT ⟨_, _, rfl, rfl, _, rfl, b, _, 0, 0, rfl, rfl, hb3, rfl, ?_⟩
      exact word_ret rfl rfl rfl (fin _ _ r _ _ hlt1 (hml _) s3.x.put upd_same hr2)
    rw [decide_eq_false fun q => e2 (V.str.inj q)]
    refine iteF ⟨_, rfl, rfl, _, rfl, ?_⟩
    by_cases e3 : wd = ("down" : Str)
    · rw [decide_eq_true (congrArg V.str e3)]
      refine iteT ⟨_, rfl, _, rfl, rfl, _, rfl, ?_⟩
      rw [decide_eq_false fun q => e2 (V.str.inj q)]
      refine iteF ⟨_, rfl, _, _, rfl, rfl, _, rfl, b, _, 0, 0, rfl, rfl, hb3, rfl, ?_⟩
      exact word_ret rfl rfl rfl (fin _ _ r _ _ hlt1 (hml _) s3.x.put upd_same hr2)
    rw [decide_eq_false fun q => e3 (V.str.inj q)]
    refine iteF ⟨_, rfl, rfl, _, rfl, ?_⟩
    by_cases e4 : wd = ("add" : Str)
    · rw [decide_eq_true (congrArg V.str e4)]
      refine iteT (iteT ⟨_, rfl, rfl, _, rfl, ?_⟩)
      rw [decide_eq_true (congrArg V.str e4)]
      refine iteT ⟨_, rfl, _, rfl, _, _, rfl, rfl, _, rfl, b, _, 0, 0, rfl, rfl, hb3, rfl, ?_⟩
      exact word_ret rfl rfl rfl (fin _ _ r _ _ hlt1 (hml _) s3.x.put upd_same hr2)
    rw [decide_eq_false fun q => e4 (V.str.inj q)]
    refine iteF ⟨_, rfl, rfl, _, rfl, ?_⟩
    by_cases e5 : wd = ("times" : Str)
    · rw [decide_eq_true (congrArg V.str e5)]
      refine iteT ⟨_, rfl, rfl, _, rfl, ?_⟩
      rw [decide_eq_false fun q => e4 (V.str.inj q)]
      refine iteF ⟨_, rfl, _, rfl, _, _, rfl, rfl, .inl ⟨by have := hl.1; omega, by have := hl.2; omega⟩, _, rfl, b, _, 0, 0, rfl, rfl, hb3, rfl, ?_⟩
      exact word_ret rfl rfl rfl (fin _ _ r _ _ hlt1 (hml _) s3.x.put upd_same hr2)
    rw [decide_eq_false fun q => e5 (V.str.inj q)]
    refine iteF ⟨_, rfl, rfl, _, rfl, ?_⟩
    by_cases e6 : wd = ("skip" : Str)
    · rw [decide_eq_true (congrArg V.str e6)]
      refine iteT ⟨_, rfl, rfl, _, rfl, ?_⟩
      by_cases e7 : l = 0
      · rw [decide_eq_true (show V.int l = V.int 0 by rw [e7])]
        exact iteF (word_ret rfl rfl rfl (fin _ l r _ _ hlt1 (hml _) s3.x hb3 hr2))
      · rw [decide_eq_false (show ¬ V.int l = V.int 0 from fun q => e7 (V.int.inj q))]
        refine iteT ⟨_, rfl, _, _, rfl, rfl, .inl ⟨_, rfl, _, rfl, ws, _, rfl, .inl (SqL.of hw3), _, _, rfl, rfl, by rw [hlen]; omega, ?_⟩⟩
        exact word_ret rfl rfl rfl (fin _ l r _ _ hlt2 (hml _) s3.x hb3 hr2)
    rw [decide_eq_false fun q => e6 (V.str.inj q)]
    exact iteF (iteF (word_ret rfl rfl rfl (fin _ l r _ _ hlt1 (hml _) s3.x hb3 hr2)))
end
end K53
end TK53AK

section TK53AL
set_option maxHeartbeats 4000000

namespace K53
open PySem PySem.Spec PyProof.Rows L2
section
variable {P : Program} {w : World} {K : PySem.W.Frag} {mg : Str → Option Value} {base : Heap} [PM P]
abbrev N_l_sayings : List Str := ["_law_told", "_law_given", "_law_many", "_law_boxes", "_law_spot", "_law_found", "_law_step", "_law_value"]
theorem sc_l_sayings : FnScope N_l_sayings ["_law_told", "_law_given", "_law_many"] (defScope s_l_sayings) := ⟨rfl, rfl, rfl, by decide +kernel, rfl, by decide +kernel, by decide +kernel⟩
def sp_l_sayings (K : PySem.W.Frag) : Sp := fun vs H Q _ => ∃ (tp : Addr) (p : List Str) (g : Int) (many : Nat), vs = [.ref tp, .int g, .int (many : Nat)] ∧ H tp = some (.tup (p.map V.str)) ∧ Bx g ∧ p.length ≤ 1000 ∧ many ≤ 1000 ∧
  ∀ H' a (ps : List (Addr × Int × Int)), Same H H' → H a = none → H' a = some (.lst (ps.map fun z => V.ref z.1)) → (∀ z ∈ ps, H' z.1 = some (.tup [.int z.2.1, .int z.2.2])) → ps.length ≤ many → Q (.ref a) H'
theorem ok_l_sayings (T : TX w K mg) : FnX P w K mg base 2 ("_law_sayings", none) ["_law_told", "_law_given", "_law_many"] [] (sp_l_sayings K) := by
  refine FnX.of T.qd_l_sayings rfl sc_l_sayings (fun vs H Q E h => ?_) (fun _ _ _ _ _ _ us hl => match us, hl with | [_, _, _], _ => rfl) (fun cdv A outer s H vs Q E hr h => ?_)
  · obtain ⟨tp, p, g, many, rfl, _⟩ := h
    rfl
  · obtain ⟨tp, p, g, many, rfl, htp, hg, hp, hm, k⟩ := h
    refine ⟨_, (pss_cons (ps_par3 (i := 3) (j := 4) (l := 5) (by rfl) sc_l_sayings.nd rfl rfl rfl (by decide) (by decide) (by decide) rfl rfl rfl (pa_cons (pe_lst (pa_cons pe_int (pa_cons (pv 1) pa_nil))) (pa_cons pe_int (pa_cons (pe_lst pa_nil) pa_nil))) (by rfl))
  (pss_cons (ps_for PassesOwn.never rfl (pi_range2 (by rfl) (T.f "range") (pa_cons pe_int (pa_cons (pe_op op_add (pv 2) pe_int) pa_nil))) (pg_name (i := 6) sc_l_sayings.nd rfl (by first | exact .inl rfl | exact .inr rfl))
  (pss_cons (ps_asg (pe_fx (ok_l_word (P := P) T) (hr.mono (by decide)) (by rfl) (T.g "_law_word") (pa_cons (pv 0) (pa_cons (pv 3) (pa_cons (pv 4) pa_nil)))) (pg_tup (n := 2) rfl (pgs_cons (pg_name (i := 7) sc_l_sayings.nd rfl (by first | exact .inl rfl | exact .inr rfl)) (pgs_cons (pg_name (i := 4) sc_l_sayings.nd rfl (by first | exact .inl rfl | exact .inr rfl)) pgs_nil))))
  (pss_cons (ps_if (pt_cmpR op_notN (pv 7) pe_non (nomark _)) (pss_one (ps_expr (pe_bm PySem.F.plainAttrs_list PySem.F.slot_list_append PySem.F.type_list_append mt_append (pv 5) (pa_cons (pe_tup (pa_cons (pv 6) (pa_cons (pv 7) pa_nil))) pa_nil)))) pss_nil)
  (pss_one (ps_if (pt_cmpR op_gt (pe_callB call_abs (by rfl) (T.f "abs") bt_abs (pa_cons (pe_ix ix_list (pv 3) pe_int (fun _ _ => rfl)) pa_nil)) (pe_op op_pow pe_int pe_int) (nomark _)) (pss_one (ps_ret (pv 5))) pss_nil)))))
  (pss_one (ps_ret (pv 5))))), ?_⟩
    refine ⟨_, rfl, two_le, fun b nb => ⟨Nat.zero_le _, fun f nf => ⟨_, _, _, rfl, ?_⟩⟩⟩
    have nbf : b ≠ f := fun q => by
      rw [← q, upd_same] at nf
      cases nf
    have nf0 : H f = none := (Same.new nb).free nf
    have s0 : Same H (upd (upd H b (.lst [V.int 0, V.int g])) f (.lst [])) := (Same.new nb).new' nf
    refine ⟨_, rfl, _, _, rfl, rfl, 1, _, rfl, ⟨by omega, by omega, by omega, by omega⟩, ?_⟩
    rw [show ((many : Int) + 1 - 1).toNat = many by omega]
    have htpb : tp ≠ b := ne_of_none htp nb
    refine for_range (fun i σ H' => ∃ (z6 z7 : Option V) (l r : Int) (s : Nat) (ps : List (Addr × Int × Int)), σ = [some (.ref tp), some (.int g), some (.int (many : Nat)), some (.ref b), some (.int ((s : Nat) : Int)), some (.ref f), z6, z7] ∧ Same H H' ∧ H' b = some (.lst [.int l, .int r]) ∧ Bx l ∧ Bx r ∧ s ≤ p.length ∧ H' f = some (.lst (ps.map fun z => V.ref z.1)) ∧
      (∀ z ∈ ps, H' z.1 = some (.tup [.int z.2.1, .int z.2.2])) ∧ ps.length ≤ i) ?_ ?_ ?_
    · exact ⟨none, none, 0, g, 0, [], rfl, s0, by rw [upd_ne nbf, upd_same], ⟨by decide, by decide⟩, hg, Nat.zero_le _, upd_same, fun z h => (List.not_mem_nil h).elim, Nat.le_refl _⟩
    · rintro i σ H1 hi ⟨z6, z7, l, r, s, ps, rfl, s1, hb, hl, hr, hs, hf, hz, hpl⟩
      refine ⟨_, rfl, _, rfl, _, rfl, tp, b, p, l, r, s, rfl, s1 _ _ htp, hb, hl, hr, hs, hp, fun H2 t v l' r' s' s2 nt ht hv hb2 hr2 hs2 => ?_⟩
      have hf2 := s2 _ _ (Ne.symm nbf) hf
      have sH2 : Same H H2 := fun c o e => s2 _ _ (ne_of_none e nb) (s1 _ _ e)
      have hz2 : ∀ z ∈ ps, H2 z.1 = some (.tup [.int z.2.1, .int z.2.2]) := fun z hm => s2 _ _ (ne_of (hz z hm) hb (by intro q; cases q)) (hz z hm)
      refine ⟨t, _, rfl, SqT.of ht, rfl, _, _, rfl, _, _, rfl, rfl, ?_⟩
      refine ⟨_, rfl, rfl, _, rfl, ?_⟩
      rcases hv with rfl | ⟨u, rfl⟩
      · refine iteF ?_
        have hbx : H2 b = some (.lst [.int l', .int r']) := hb2
        refine ⟨_, rfl, b, _, _, _, rfl, rfl, SqL.of hbx, rfl, l', rfl, _, _, rfl, rfl, ⟨by decide, by decide, by decide⟩, _, _, rfl, rfl, _, rfl, ?_⟩
        dsimp only
        by_cases hq : (10 : Int) ^ (18 : Int).toNat < (if l' < 0 then -l' else l')
        · rw [decide_eq_true hq]
          exact iteT ⟨_, rfl, k _ f ps sH2 nf0 hf2 hz2 (by omega)⟩
        · rw [decide_eq_false hq]
          have hq2 : ¬ (1000000000000000000 : Int) < (if l' < 0 then -l' else l') := hq
          have hbl : Bx l' := by
            unfold Bx
            by_cases h0 : l' < 0
            · rw [if_pos h0] at hq2; omega
            · rw [if_neg h0] at hq2; omega
          exact iteF ⟨_, _, l', r', s', ps, rfl, sH2, hbx, hbl, hr2, hs2, hf2, hz2, by omega⟩
      · refine iteT ⟨_, rfl, .inl ⟨rfl, _, SqL.of hf2⟩, _, rfl, _, rfl, two_le, fun q nq => ⟨f, _, _, rfl, rfl, Same.new nq _ _ hf2, size24' (by rw [List.length_map]; omega), ?_⟩⟩
        have hbq := Same.new (o := .tup [.int (1 + (i : Int)), .int u]) nq _ _ hb2
        have hfq := Same.new (o := .tup [.int (1 + (i : Int)), .int u]) nq _ _ hf2
        have sX : Same H (upd (upd H2 q (.tup [.int (1 + (i : Int)), .int u])) f (.lst (ps.map (fun z => V.ref z.1) ++ [V.ref q]))) := (sH2.new' nq).mut nf0
        have hzX : ∀ z ∈ ps ++ [(q, 1 + (i : Int), u)], upd (upd H2 q (.tup [.int (1 + (i : Int)), .int u])) f (.lst (ps.map (fun z => V.ref z.1) ++ [V.ref q])) z.1 = some (.tup [.int z.2.1, .int z.2.2]) := fun z hm => by
          rcases List.mem_append.mp hm with hm | hm
          · have h1 := Same.new (o := .tup [.int (1 + (i : Int)), .int u]) nq _ _ (hz2 z hm)
            exact (upd_ne (ne_of h1 hfq (by intro q; cases q))).trans h1
          · rw [List.mem_singleton.mp hm]
            exact (upd_ne (ne_of_none hf2 nq).symm).trans upd_same
        have hfX : upd (upd H2 q (.tup [.int (1 + (i : Int)), .int u])) f (.lst (ps.map (fun z => V.ref z.1) ++ [V.ref q])) f = some (.lst ((ps ++ [(q, 1 + (i : Int), u)]).map fun z => V.ref z.1)) := by rw [upd_same, List.map_append]; rfl
        have hbx : (upd (upd H2 q (.tup [.int (1 + (i : Int)), .int u])) f (.lst (ps.map (fun z => V.ref z.1) ++ [V.ref q]))) b = some (.lst [.int l', .int r']) := (upd_ne nbf).trans hbq
        refine ⟨_, rfl, b, _, _, _, rfl, rfl, SqL.of hbx, rfl, l', rfl, _, _, rfl, rfl, ⟨by decide, by decide, by decide⟩, _, _, rfl, rfl, _, rfl, ?_⟩
        dsimp only
        by_cases hq : (10 : Int) ^ (18 : Int).toNat < (if l' < 0 then -l' else l')
        · rw [decide_eq_true hq]
          exact iteT ⟨_, rfl, k _ f (ps ++ [(q, 1 + (i : Int), u)]) sX nf0 hfX hzX (by rw [List.length_append]; show _ + 1 ≤ _; omega)⟩
        · rw [decide_eq_false hq]
          have hq2 : ¬ (1000000000000000000 : Int) < (if l' < 0 then -l' else l') := hq
          have hbl : Bx l' := by
            unfold Bx
            by_cases h0 : l' < 0
            · rw [if_pos h0] at hq2; omega
            · rw [if_neg h0] at hq2; omega
          exact iteF ⟨_, _, l', r', s', ps ++ [(q, 1 + (i : Int), u)], rfl, sX, hbx, hbl, hr2, hs2, hfX, hzX, by (rw [List.length_append]; show _ + 1 ≤ _; omega)⟩
    · rintro σ H1 ⟨z6, z7, l, r, s, ps, rfl, s1, hb, hl, hr, hs, hf, hz, hpl⟩
      exact ⟨_, rfl, k _ f ps s1 nf0 hf hz hpl⟩
end
end K53
end TK53AL

section TK53AM
set_option maxHeartbeats 4000000

namespace K53
open PySem PySem.Spec PyProof.Rows L2 SX
def tm (N : Str) : List Str := ["a " ++ N ++ " =", "a n =", "n a <", "a n + " ++ N ++ " =", "a n - 1 =", "a a * n =", "a n n + =", "0 a < a " ++ N ++ " = not and",
  "1 a < a n < and n a rem 0 = and", "a 2 rem 1 = a 2 < not and", "a n n * =", N ++ " a < n a < or", "a a ="]
open Itm Op in
def tmI (v : Int) : List (List Itm) := [[ans, num v, .op eq], [ans, giv, .op eq], [giv, ans, .op lt], [ans, giv, .op add, num v, .op eq], [ans, giv, .op sub, num 1, .op eq], [ans, ans, .op mul, giv, .op eq], [ans, giv, giv, .op add, .op eq],
  [num 0, ans, .op lt, ans, num v, .op eq, .op not, .op and], [num 1, ans, .op lt, ans, giv, .op lt, .op and, giv, ans, .op rem, num 0, .op eq, .op and], [ans, num 2, .op rem, num 1, .op eq, ans, num 2, .op lt, .op not, .op and],
  [ans, giv, giv, .op mul, .op eq], [num v, ans, .op lt, giv, ans, .op lt, .op or], [ans, ans, .op eq]]
def numT (v : Int) : Str := Str.ofString (toString v)
theorem tm_eq : ∀ r : Fin 9, tm (numT ((r.val : Int) - 3)) = (tmI ((r.val : Int) - 3)).map ctext := by decide +kernel
def chkB (its : List Itm) : Bool := decide (its.length ≠ 0) && decide (its.length ≤ 40) && decide (kindsRun [] its = some truth1)
theorem tm_chk : ∀ r : Fin 9, (tmI ((r.val : Int) - 3)).all chkB = true := by decide +kernel
theorem tm_ok {r : Nat} (hr : r < 9) {z : Str} (hz : z ∈ tm (numT ((r : Int) - 3))) : ∃ its, Chk its ∧ z = ctext its := by
  rw [tm_eq ⟨r, hr⟩] at hz
  obtain ⟨its, hi, rfl⟩ := List.mem_map.mp hz
  refine ⟨its, ?_, rfl⟩
  have h := List.all_eq_true.mp (tm_chk ⟨r, hr⟩) its hi
  obtain ⟨h12, h3⟩ := He.ba (show (decide (its.length ≠ 0) && decide (its.length ≤ 40) && decide (kindsRun [] its = some truth1)) = true from h)
  obtain ⟨h1, h2⟩ := He.ba h12
  refine ⟨fun q => of_decide_eq_true h1 (by rw [q]; rfl), of_decide_eq_true h2, fun it hit => ?_, of_decide_eq_true h3⟩
  cases it with
  | num v =>
    have key : v = 0 ∨ v = 1 ∨ v = 2 ∨ v = (r : Int) - 3 := by
      simp only [tmI, List.mem_cons, List.not_mem_nil, or_false] at hi
      rcases hi with rfl | rfl | rfl | rfl | rfl | rfl | rfl | rfl | rfl | rfl | rfl | rfl | rfl <;> simp at hit <;> omega
    show _ ≤ v ∧ v ≤ _
    omega
  | op o => trivial
  | ans => trivial
  | giv => trivial
theorem split_ctext {its : List Itm} (h : its ≠ []) : Txt.split (ctext its) (" " : Str) = (its.map Itm.l).map S := by
  have e2 : ((" " : Str)) = S [32] := by decide +kernel
  unfold ctext
  rw [e2, split_S (by decide) (by decide), spl_join (fun q => h (List.map_eq_nil_iff.mp q)) (fun p hp => by
    obtain ⟨it, _, rfl⟩ := List.mem_map.mp hp
    exact it.noBlank)]
theorem ctext_len {its : List Itm} (hc : Chk its) : (ctext its).length ≤ 5000 := by
  have := joinL_len (its.map Itm.l) 101 fun p hp => by
    obtain ⟨it, m, rfl⟩ := List.mem_map.mp hp
    exact Itm.len (hc.ok it m)
  rw [List.length_map] at this
  have := hc.len
  unfold ctext
  rw [S_len]
  omega
theorem CH.free {H H' : Hp} {c cl p : Addr} {n : Nat} (h : CH H' c cl n) (s : SameX c H H') (hp : H' p = none) : H p = none := by
  cases e : H p with
  | none => rfl
  | some o =>
    by_cases hq : p = c
    · subst hq
      obtain ⟨⟨xs, q⟩, _⟩ := h.ref
      rw [q] at hp
      cases hp
    · rw [s _ _ hq e] at hp
      cases hp
theorem numT_len {r : Nat} (hr : r < 9) : (numT ((r : Int) - 3)).length ≤ 2 := by
  have : ∀ r : Fin 9, (numT ((r.val : Int) - 3)).length ≤ 2 := by decide +kernel
  exact this ⟨r, hr⟩
theorem cat_le {a b : Str} {n m k : Nat} (h1 : a.length ≤ n) (h2 : b.length ≤ m) (h : n + m ≤ k) : (a ++ b).length ≤ k := by
  rw [Str.length_append]
  omega
theorem cat_sz {a b : Str} (h1 : a.length ≤ 100) (h2 : b.length ≤ 100) : a.length + b.length ≤ sizeLine := size24 (by omega)
section
variable {P : Program} {w : World} {K : PySem.W.Frag} {mg : Str → Option Value} {base : Heap} [PM P]
abbrev N_l_items : List Str := ["_law_choir_here", "_law_number", "_law_some"]
theorem sc_l_items : FnScope N_l_items ["_law_choir_here"] (defScope s_l_items) := ⟨rfl, rfl, rfl, by decide +kernel, rfl, by decide +kernel, by decide +kernel⟩
def sp_l_items (K : PySem.W.Frag) : Sp := fun vs H Q _ => ∃ (c cl : Addr) (n : Nat), vs = [.ref c] ∧ CH H c cl n ∧ n ≤ 900000 ∧ ∀ H' f its, SameX c H H' → H f = none → CH H' c cl (n + 2) → H' f = some (.lst (citems its)) → Chk its → Q (.ref f) H'
theorem ok_l_items (T : TX w K mg) : FnX P w K mg base 3 ("_law_items", none) ["_law_choir_here"] [] (sp_l_items K) := by
  refine FnX.of T.qd_l_items rfl sc_l_items (fun vs H Q E h => ?_) (fun _ _ _ _ _ _ us hl => match us, hl with | [_], _ => rfl) (fun cdv A outer s H vs Q E hr h => ?_)
  · obtain ⟨c, cl, n, rfl, _⟩ := h
    rfl
  · obtain ⟨c, cl, n, rfl, hch, hn, k⟩ := h
    refine ⟨_, (pss_cons (ps_set (i := 1) sc_l_items.nd rfl (by first | exact .inl rfl | exact .inr rfl) (pe_callTy call_str_int (by rfl) (T.f "str") bt_str (pa_cons (pe_op op_sub (pe_fx (ok_l_chant (P := P) T) (hr.mono (by decide)) (by rfl) (T.g "_law_chant") (pa_cons (pv 0) (pa_cons pe_int pa_nil))) pe_int) pa_nil)))
  (pss_cons (ps_set (i := 2) sc_l_items.nd rfl (by first | exact .inl rfl | exact .inr rfl) (pe_lst (pa_cons (pe_op op_add_str (pe_op op_add_str pe_str (pv 1)) pe_str) (pa_cons pe_str (pa_cons pe_str (pa_cons (pe_op op_add_str (pe_op op_add_str pe_str (pv 1)) pe_str) (pa_cons pe_str (pa_cons pe_str (pa_cons pe_str (pa_cons (pe_op op_add_str (pe_op op_add_str pe_str (pv 1)) pe_str) pa_nil))))))))))
  (pss_cons (ps_set (i := 2) sc_l_items.nd rfl (by first | exact .inl rfl | exact .inr rfl) (pe_op op_cat (pv 2) (pe_lst (pa_cons pe_str (pa_cons pe_str (pa_cons pe_str (pa_cons (pe_op op_add_str (pv 1) pe_str) (pa_cons pe_str pa_nil))))))))
  (pss_one (ps_ret (pe_split (pe_fx (ok_l_one (P := P) T) (hr.mono (by decide)) (by rfl) (T.g "_law_one") (pa_cons (pv 0) (pa_cons (pv 2) pa_nil))) pe_str)))))), ?_⟩
    refine ⟨_, rfl, c, cl, 9, n, rfl, hch, by decide, by decide, by omega, fun H1 r s1 hch1 hr => ?_⟩
    have hN := numT_len hr
    have hN' : ((r : Int) - 3).natAbs.log2 < 1920 := by
      have : ∀ r : Fin 9, ((r.val : Int) - 3).natAbs.log2 < 1920 := by decide
      exact this ⟨r, hr⟩
    refine ⟨_, _, rfl, rfl, _, rfl, hN', ?_⟩
    have hz := @tm_ok r hr
    rw [show Str.ofString (toString ((r : Int) - 3)) = numT ((r : Int) - 3) from rfl]
    generalize numT ((r : Int) - 3) = N at hN hz ⊢
    have l1 : ("a " ++ N : Str).length ≤ 100 := cat_le (n := 2) (m := 2) (by decide +kernel) hN (by decide)
    have l2 : ("a n + " ++ N : Str).length ≤ 100 := cat_le (n := 6) (m := 2) (by decide +kernel) hN (by decide)
    have l3 : ("0 a < a " ++ N : Str).length ≤ 100 := cat_le (n := 8) (m := 2) (by decide +kernel) hN (by decide)
    have hN100 : N.length ≤ 100 := by omega
    refine ⟨_, rfl, _, _, rfl, rfl, cat_sz (by decide +kernel) hN100, _, _, rfl, rfl, cat_sz l1 (by decide +kernel), ?_⟩
    refine ⟨_, rfl, _, _, rfl, rfl, cat_sz (by decide +kernel) hN100, _, _, rfl, rfl, cat_sz l2 (by decide +kernel), ?_⟩
    refine ⟨_, rfl, _, _, rfl, rfl, cat_sz (by decide +kernel) hN100, _, _, rfl, rfl, cat_sz l3 (by decide +kernel), ?_⟩
    refine ⟨(show 8 ≤ sizeLine by decide), fun a na => ?_⟩
    refine ⟨_, rfl, _, rfl, _, _, rfl, rfl, cat_sz hN100 (by decide +kernel), (show 5 ≤ sizeLine by decide), fun b nb => ?_⟩
    refine ⟨a, b, _, _, rfl, rfl, Same.new nb _ _ upd_same, upd_same, (show 8 + 5 ≤ sizeLine by decide), fun p np => ?_⟩
    have s2 := ((Same.new (o := .lst [V.str ("a " ++ N ++ " ="), V.str "a n =", V.str "n a <", V.str ("a n + " ++ N ++ " ="), V.str "a n - 1 =", V.str "a a * n =", V.str "a n n + =", V.str ("0 a < a " ++ N ++ " = not and")]) na).new' (o := .lst [V.str "1 a < a n < and n a rem 0 = and", V.str "a 2 rem 1 = a 2 < not and", V.str "a n n * =", V.str (N ++ " a < n a < or"), V.str "a a ="]) nb).new' (o := .lst ((tm N).map V.str)) np
    have np1 : H1 p = none := ((Same.new na).new' nb).free np
    have cp := hch1.new np1
    refine ⟨_, rfl, _, rfl, c, cl, p, (tm N).map V.str, n + 1, rfl, hch1.same s2, SqL.of upd_same, cp.1.symm, (by intro q; cases q), (show 13 ≤ 16777216 by decide), by omega, fun H2 v s3 hch2 hv => ?_⟩
    obtain ⟨z, hzm, rfl⟩ := List.mem_map.mp hv
    obtain ⟨its, hc, rfl⟩ := hz hzm
    refine ⟨⟨_, rfl⟩, _, _, rfl, rfl, by decide +kernel, ?_, fun f nf => ?_⟩
    · have := ctext_len hc
      exact size24 (by omega)
    · have sx : SameX c H H2 := s1.trans (s2.x.trans s3)
      rw [split_ctext hc.ne]
      exact k _ f its (sx.trans (Same.new nf).x) (hch2.free sx nf) (hch2.same (Same.new nf)) upd_same hc
end
end K53
end TK53AM

section TK53AN
set_option maxHeartbeats 4000000

namespace K53
open PySem PySem.Spec PyProof.Rows L2 SX
open Itm Op in
def soI (v : Int) : List (List Itm) := [[ans, num v, .op eq], [num v, ans, .op lt, num v, ans, .op eq, .op or], [ans, ans, .op mul, num v, ans, .op mul, .op eq]]
theorem so_run (v : Int) : ∀ its ∈ soI v, kindsRun [] its = some truth1 := by
  intro its h
  simp only [soI, List.mem_cons, List.not_mem_nil, or_false] at h
  rcases h with rfl | rfl | rfl <;> rfl
theorem so_chk {v : Int} (hv : v.natAbs < 1000000000) {its : List Itm} (h : its ∈ soI v) : Chk its := by
  refine ⟨?_, ?_, ?_, so_run v its h⟩ <;> simp only [soI, List.mem_cons, List.not_mem_nil, or_false] at h
  · rcases h with rfl | rfl | rfl <;> simp
  · rcases h with rfl | rfl | rfl <;> simp
  · intro it hit
    cases it with
    | num u =>
      have : u = v := by rcases h with rfl | rfl | rfl <;> simp at hit <;> exact hit
      show _ ≤ u ∧ u ≤ _
      omega
    | op o => trivial
    | ans => trivial
    | giv => trivial
theorem RowsAt.ne {H : Hp} {c cl a : Addr} {n : Nat} {ln : Str → Nat} {r : List (List Str)} (h : CH H c cl n) (hr : RowsAt H a ln r) : a ≠ c := fun q => by
  obtain ⟨ns, t, u, h1, _⟩ := h
  obtain ⟨ps, _, h2, _⟩ := hr
  rw [q, h1] at h2
  match ps, h2 with
  | [], h2 => cases h2
  | [_], h2 => cases h2
  | _ :: _ :: _, h2 => cases h2
section
variable {P : Program} {w : World} {K : PySem.W.Frag} {mg : Str → Option Value} {base : Heap} [PM P]
theorem sought_rest {E : Ends} {H : Hp} {c cl l : Addr} {n : Nat} {xs : List Int} {z1 z2 z3 z5 z6 z7 z8 z9 z10 : Option V} (hch : CH H c cl n) (hn : n ≤ 900000) (hl : H l = some (.lst (xs.map V.int))) (hlc : l ≠ c) (hx : ∀ x ∈ xs, x.natAbs < 1000000000) (hxl : xs.length ≤ 1000)
    (next : ∀ H' f its, SameX c H H' → H f = none → CH H' c cl (n + 2) → H' f = some (.lst (citems its)) → Chk its → E.rt (.ref f) H') :
    tSeq (tIfS (tTest (tOp (rEq0 K false) (tVar 4) (tLst tNil))) (tRet (tCall (sp_l_items K) [] E0 (tCons (tVar 0) tNil))) tNext)
      (tSeq (tAsg (tCB (fun xs H Q => ∃ i, xs = [V.int i] ∧ i.natAbs.log2 < 1920 ∧ Q (V.str (Str.ofString (toString i))) H) (tCons (tCall (sp_l_one K) [] E0 (tCons (tVar 0) (tCons (tVar 4) tNil))) tNil)) (gName 9))
        (tRet (tCall (sp_l_one K) [] E0 (tCons (tVar 0) (tCons (tLst
          (tCons (tLst (tCons (tC (V.str (Str.ofString "a"))) (tCons (tVar 9) (tCons (tC (V.str (Str.ofString "="))) tNil))))
          (tCons (tLst (tCons (tC (V.str (Str.ofString "a"))) (tCons (tVar 9) (tCons (tC (V.str (Str.ofString "="))) tNil))))
          (tCons (tLst (tCons (tVar 9) (tCons (tC (V.str (Str.ofString "a"))) (tCons (tC (V.str (Str.ofString "<"))) (tCons (tVar 9) (tCons (tC (V.str (Str.ofString "a"))) (tCons (tC (V.str (Str.ofString "="))) (tCons (tC (V.str (Str.ofString "or"))) tNil))))))))
          (tCons (tLst (tCons (tC (V.str (Str.ofString "a"))) (tCons (tC (V.str (Str.ofString "a"))) (tCons (tC (V.str (Str.ofString "*"))) (tCons (tVar 9) (tCons (tC (V.str (Str.ofString "a"))) (tCons (tC (V.str (Str.ofString "*"))) (tCons (tC (V.str (Str.ofString "="))) tNil))))))))
          tNil))))) tNil)))))
      E [some (.ref c), z1, z2, z3, some (.ref l), z5, z6, z7, z8, z9, z10] H := by
  refine ⟨_, rfl, Nat.zero_le _, fun e ne => ⟨l, e, _, rfl, rfl, SqL.of (Same.new ne _ _ hl), upd_same, _, rfl, ?_⟩⟩
  have s1 : Same H (upd H e (.lst [])) := Same.new ne
  have hl1 := s1 _ _ hl
  have hch1 := hch.same s1
  cases hxs : xs with
  | nil =>
    refine iteT ⟨_, rfl, c, cl, n, rfl, hch1, by omega, fun H2 f its s2 nf hch2 hf hc => ?_⟩
    exact next H2 f its (s1.x.trans s2) (s1.free nf) hch2 hf hc
  | cons x0 xr =>
    refine iteF ?_
    refine ⟨_, rfl, _, rfl, c, cl, l, xs.map V.int, n, rfl, hch1, SqL.of hl1, hlc, (by rw [hxs]; intro q; cases q), by rw [List.length_map]; omega, by omega, fun H2 v s2 hch2 hv => ?_⟩
    obtain ⟨z, hz, rfl⟩ := List.mem_map.mp hv
    have hz9 := hx z hz
    have hlog : z.natAbs.log2 < 1920 := by
      have : z.natAbs.log2 < 30 := by
        by_cases h0 : z.natAbs = 0
        · rw [h0]; decide
        · exact (Nat.log2_lt h0).mpr (by omega)
      omega
    refine ⟨z, rfl, hlog, ?_⟩
    rw [numI_S]
    refine ⟨_, rfl, _, rfl, (show 3 ≤ sizeLine by decide), fun a na => ?_⟩
    refine ⟨_, rfl, (show 3 ≤ sizeLine by decide), fun b nb => ?_⟩
    refine ⟨_, rfl, _, rfl, (show 7 ≤ sizeLine by decide), fun d nd => ?_⟩
    refine ⟨_, rfl, (show 7 ≤ sizeLine by decide), fun g ng => ?_⟩
    refine ⟨(show 4 ≤ sizeLine by decide), fun p np => ?_⟩
    have n2 := hch2.new na
    have key : ∀ (H3 : Hp) (vs : List V), Same H2 H3 → H2 p = none → H3 p = some (.lst vs) → vs ≠ [] → vs.length ≤ 1000 → (∀ v ∈ vs, ∃ (q : Addr) (its : List Itm), v = .ref q ∧ its ∈ soI z ∧ H2 q = none ∧ H3 q = some (.lst (citems its))) →
        sp_l_one K [.ref c, .ref p] H3 E.rt E0 := by
      intro H3 vs s3 np2 hp hne hvl hv
      have cp := hch2.new np2
      refine ⟨c, cl, p, vs, n + 1, rfl, hch2.same s3, SqL.of hp, cp.1.symm, hne, by omega, by omega, fun H4 v s4 hch4 hm => ?_⟩
      obtain ⟨q, its, rfl, hi, hq2, hq⟩ := hv v hm
      have cq := hch2.new hq2
      have sx : SameX c H H4 := s1.x.trans (s2.trans (s3.x.trans s4))
      have hq0 : H q = none := s1.free (hch2.free s2 hq2)
      exact next H4 q its sx hq0 hch4 (s4 _ _ cq.1.symm hq) (so_chk hz9 hi)
    have sa : Same H2 _ := Same.new (o := .lst [V.str "a", V.str (S (numI z)), V.str "="]) na
    have sb := sa.new' (o := .lst [V.str "a", V.str (S (numI z)), V.str "="]) nb
    have sd := sb.new' (o := .lst [V.str (S (numI z)), V.str "a", V.str "<", V.str (S (numI z)), V.str "a", V.str "=", V.str "or"]) nd
    have sg := sd.new' (o := .lst [V.str "a", V.str "a", V.str "*", V.str (S (numI z)), V.str "a", V.str "*", V.str "="]) ng
    have sp := sg.new' (o := .lst [V.ref a, V.ref b, V.ref d, V.ref g]) np
    have w0 : (S (Itm.l .ans) : Str) = "a" := by decide +kernel
    have w1 : (S (Itm.l (.op .eq)) : Str) = "=" := by decide +kernel
    have w2 : (S (Itm.l (.op .lt)) : Str) = "<" := by decide +kernel
    have w3 : (S (Itm.l (.op .or)) : Str) = "or" := by decide +kernel
    have w4 : (S (Itm.l (.op .mul)) : Str) = "*" := by decide +kernel
    have w5 : (S (Itm.l (.num z)) : Str) = S (numI z) := rfl
    refine key _ [V.ref a, V.ref b, V.ref d, V.ref g] sp (sg.free np) upd_same (by intro q; cases q) (show 4 ≤ 1000 by decide) fun v hv => ?_
    simp only [List.mem_cons, List.not_mem_nil, or_false] at hv
    rcases hv with rfl | rfl | rfl | rfl
    · refine ⟨a, _, rfl, List.mem_cons_self, na, ?_⟩
      have : citems [.ans, .num z, .op .eq] = [V.str "a", V.str (S (numI z)), V.str "="] := by
        unfold citems
        simp only [List.map_cons, List.map_nil, w0, w1, w5]
      rw [this]
      exact Same.new np _ _ (Same.new ng _ _ (Same.new nd _ _ (Same.new nb _ _ upd_same)))
    · refine ⟨b, _, rfl, List.mem_cons_self, sa.free nb, ?_⟩
      have : citems [.ans, .num z, .op .eq] = [V.str "a", V.str (S (numI z)), V.str "="] := by
        unfold citems
        simp only [List.map_cons, List.map_nil, w0, w1, w5]
      rw [this]
      exact Same.new np _ _ (Same.new ng _ _ (Same.new nd _ _ upd_same))
    · refine ⟨d, _, rfl, List.mem_cons_of_mem _ List.mem_cons_self, sb.free nd, ?_⟩
      have : citems [.num z, .ans, .op .lt, .num z, .ans, .op .eq, .op .or] = [V.str (S (numI z)), V.str "a", V.str "<", V.str (S (numI z)), V.str "a", V.str "=", V.str "or"] := by
        unfold citems
        simp only [List.map_cons, List.map_nil, w0, w1, w2, w3, w5]
      rw [this]
      exact Same.new np _ _ (Same.new ng _ _ upd_same)
    · refine ⟨g, _, rfl, List.mem_cons_of_mem _ (List.mem_cons_of_mem _ List.mem_cons_self), sd.free ng, ?_⟩
      have : citems [.ans, .ans, .op .mul, .num z, .ans, .op .mul, .op .eq] = [V.str "a", V.str "a", V.str "*", V.str (S (numI z)), V.str "a", V.str "*", V.str "="] := by
        unfold citems
        simp only [List.map_cons, List.map_nil, w0, w1, w4, w5]
      rw [this]
      exact Same.new np _ _ upd_same
abbrev N_l_sought : List Str := ["_law_choir_here", "_law_rows", "_law_given", "_law_due_here", "_law_told", "_law_turn", "_law_length", "_law_text", "_law_mine", "_law_value", "_law_step"]
theorem sc_l_sought : FnScope N_l_sought ["_law_choir_here", "_law_rows", "_law_given", "_law_due_here"] (defScope s_l_sought) := ⟨rfl, rfl, rfl, by decide +kernel, rfl, by decide +kernel, by decide +kernel⟩
def sp_l_sought (K : PySem.W.Frag) : Sp := fun vs H Q _ => ∃ (c cl ra : Addr) (g : Int) (D n : Nat) (ln : Str → Nat) (r : List (List Str)), vs = [.ref c, .ref ra, .int g, .int (D : Nat)] ∧ CH H c cl n ∧ n ≤ 800000 ∧ RowsAt H ra ln r ∧ r ≠ [] ∧ r.length ≤ 16777216 ∧ (∀ q ∈ r, IsProg q ∧ q.length ≤ 1000) ∧ Bx g ∧ D < 2 ^ 40 ∧
  ∀ H' f its, SameX c H H' → H f = none → CH H' c cl (n + 20) → H' f = some (.lst (citems its)) → Chk its → Q (.ref f) H'
theorem ok_l_sought (T : TX w K mg) : FnX P w K mg base 4 ("_law_sought", none) ["_law_choir_here", "_law_rows", "_law_given", "_law_due_here"] [] (sp_l_sought K) := by
  refine FnX.of T.qd_l_sought rfl sc_l_sought (fun vs H Q E h => ?_) (fun _ _ _ _ _ _ us hl => match us, hl with | [_, _, _, _], _ => rfl) (fun cdv A outer s H vs Q E hr h => ?_)
  · obtain ⟨c, cl, ra, g, D, n, ln, r, rfl, _⟩ := h
    rfl
  · obtain ⟨c, cl, ra, g, D, n, ln, r, rfl, hch, hn, hra, hrne, hrl, hprog, hg, hD, k⟩ := h
    refine ⟨_, (pss_cons (ps_set (i := 4) sc_l_sought.nd rfl (by first | exact .inl rfl | exact .inr rfl) (pe_lst pa_nil))
  (pss_cons (ps_for PassesOwn.never rfl (pi_range1 (by rfl) (T.f "range") (pa_cons (pe_ifExp (pt_cmpR op_gt (pe_fx (ok_l_chant (P := P) T) (hr.mono (by decide)) (by rfl) (T.g "_law_chant") (pa_cons (pv 0) (pa_cons pe_int pa_nil))) pe_int (nomark _)) pe_int pe_int) pa_nil)) (pg_name (i := 5) sc_l_sought.nd rfl (by first | exact .inl rfl | exact .inr rfl))
  (pss_cons (ps_asg (pe_fx (ok_l_one (P := P) T) (hr.mono (by decide)) (by rfl) (T.g "_law_one") (pa_cons (pv 0) (pa_cons (pv 1) pa_nil))) (pg_tup (n := 3) rfl (pgs_cons (pg_name (i := 6) sc_l_sought.nd rfl (by first | exact .inl rfl | exact .inr rfl)) (pgs_cons (pg_name (i := 7) sc_l_sought.nd rfl (by first | exact .inl rfl | exact .inr rfl)) (pgs_cons (pg_name (i := 8) sc_l_sought.nd rfl (by first | exact .inl rfl | exact .inr rfl)) pgs_nil)))))
  (pss_one (ps_set (i := 4) sc_l_sought.nd rfl (by first | exact .inl rfl | exact .inr rfl) (pe_op op_cat (pv 4) (pe_lc (own := [("_law_step", 10), ("_law_value", 9)]) rfl sc_l_sought.nd (pi_list (pe_fx (ok_l_sayings (P := P) T) (hr.mono (by decide)) (by rfl) (T.g "_law_sayings") (pa_cons (pv 8) (pa_cons (pv 2) (pa_cons (pe_callB (call_min2 rfl) (by rfl) (T.f "min") bt_min (pa_cons (pe_op op_shr (pv 3) (pv 6)) (pa_cons pe_int pa_nil))) pa_nil))))) (blkOk_by (N := N_l_sought) (sc := defScope s_l_sought) (by decide +kernel)) (fun _ _ _ _ _ => (pg_tupK (K := K) (n := 2) rfl (pgs_cons (pg_name (i := 10) sc_l_sought.nd rfl (by first | exact .inl rfl | exact .inr rfl)) (pgs_cons (pg_name (i := 9) sc_l_sought.nd rfl (by first | exact .inl rfl | exact .inr rfl)) pgs_nil)))) (fun _ _ _ _ _ => (pts_one (pt_cmpR op_lt (pe_callB call_abs (by rfl) (T.f "abs") bt_abs (pa_cons (pv 9) pa_nil)) (pe_op op_pow pe_int pe_int) (nomark _)))) (fun _ _ _ _ _ => (pv 9))))))))
  (pss_cons (ps_if (pt_cmpR (op_eq0 hr.units0) (pv 4) (pe_lst pa_nil) (nomark _)) (pss_one (ps_ret (pe_fx (ok_l_items (P := P) T) (hr.mono (by decide)) (by rfl) (T.g "_law_items") (pa_cons (pv 0) pa_nil)))) pss_nil)
  (pss_cons (ps_set (i := 9) sc_l_sought.nd rfl (by first | exact .inl rfl | exact .inr rfl) (pe_callTy call_str_int (by rfl) (T.f "str") bt_str (pa_cons (pe_fx (ok_l_one (P := P) T) (hr.mono (by decide)) (by rfl) (T.g "_law_one") (pa_cons (pv 0) (pa_cons (pv 4) pa_nil))) pa_nil)))
  (pss_one (ps_ret (pe_fx (ok_l_one (P := P) T) (hr.mono (by decide)) (by rfl) (T.g "_law_one") (pa_cons (pv 0) (pa_cons (pe_lst (pa_cons (pe_lst (pa_cons pe_str (pa_cons (pv 9) (pa_cons pe_str pa_nil)))) (pa_cons (pe_lst (pa_cons pe_str (pa_cons (pv 9) (pa_cons pe_str pa_nil)))) (pa_cons (pe_lst (pa_cons (pv 9) (pa_cons pe_str (pa_cons pe_str (pa_cons (pv 9) (pa_cons pe_str (pa_cons pe_str (pa_cons pe_str pa_nil)))))))) (pa_cons (pe_lst (pa_cons pe_str (pa_cons pe_str (pa_cons pe_str (pa_cons (pv 9) (pa_cons pe_str (pa_cons pe_str (pa_cons pe_str pa_nil)))))))) pa_nil))))) pa_nil))))))))), ?_⟩
    have hrc := hra.ne hch
    refine ⟨Nat.zero_le _, fun f0 nf0 => ?_⟩
    have cf := hch.new nf0
    have s0 : Same H (upd H f0 (.lst [])) := Same.new nf0
    refine ⟨_, rfl, c, cl, 3, n, rfl, hch.same s0, by decide, by decide, by omega, fun H1 r1 s1 hch1 hr1 => ⟨_, _, rfl, rfl, _, rfl, ?_⟩⟩
    have sx1 : SameX c H H1 := s0.x.trans s1
    have hf1 : H1 f0 = some (.lst []) := s1 _ _ cf.1.symm upd_same
    by_cases h0 : (0 : Int) < (r1 : Int)
    · rw [decide_eq_true h0]
      refine iteT ⟨4, rfl, by decide, by decide, for_range (fun i σ H' => ∃ z5 z6 z7 z8 tl xs, σ = [some (.ref c), some (.ref ra), some (.int g), some (.int (D : Nat)), some (.ref tl), z5, z6, z7, z8, none, none] ∧ SameX c H H' ∧ H tl = none ∧ H' tl = some (.lst (xs.map V.int)) ∧ (∀ x ∈ xs, x.natAbs < 1000000000) ∧ xs.length ≤ 30 * i ∧ CH H' c cl (n + 1 + i)) ⟨_, _, _, _, f0, [], rfl, sx1, nf0, hf1, fun x h => (List.not_mem_nil h).elim, Nat.zero_le _, hch1⟩ ?_ ?_⟩
      · rintro i σ H2 hi ⟨z5, z6, z7, z8, tl, xs, rfl, sx2, ntl, htl, hx9, hxl, hch2⟩
        obtain ⟨ps, hps, hpa, hzs⟩ := id hra
        have htlc : tl ≠ c := (hch.new ntl).1.symm
        have hpl : ps.length = r.length := by rw [← hps, List.length_map]
        refine ⟨_, rfl, _, rfl, c, cl, ra, _, n + 1 + i, rfl, hch2, SqL.of (sx2 _ _ hrc hpa), hrc, (fun q => hrne (by rw [← hps, List.map_eq_nil_iff.mp q]; rfl)), by rw [List.length_map]; omega, by omega, fun H3 v s3 hch3 hv => ?_⟩
        obtain ⟨z, hz, rfl⟩ := List.mem_map.mp hv
        have hzr : z.2.2.2 ∈ r := by rw [← hps]; exact List.mem_map.mpr ⟨z, hz, rfl⟩
        have sx3 := sx2.trans s3
        obtain ⟨hz1, hz2⟩ := hzs z hz
        have zc1 : z.1 ≠ c := fun q => by
          obtain ⟨⟨xs, e⟩, _⟩ := hch.ref
          rw [q, e] at hz1
          cases hz1
        have zc2 : z.2.2.1 ≠ c := fun q => by
          obtain ⟨⟨xs, e⟩, _⟩ := hch.ref
          rw [q, e] at hz2
          cases hz2
        have hz1' := sx3 _ _ zc1 hz1
        have hz2' := sx3 _ _ zc2 hz2
        refine ⟨_, _, rfl, SqT.of hz1', rfl, _, _, rfl, _, _, rfl, _, _, rfl, rfl, ?_⟩
        refine ⟨_, rfl, _, rfl, _, rfl, _, rfl, _, rfl, _, _, rfl, rfl, Int.natCast_nonneg _, _, _, rfl, ?_⟩
        obtain ⟨many, hme, hmany⟩ : ∃ many : Nat, (if (30 : Int) < (D : Int) / 2 ^ ((plen ln z.2.2.2 : Nat) : Int).toNat then (30 : Int) else (D : Int) / 2 ^ ((plen ln z.2.2.2 : Nat) : Int).toNat) = (many : Int) ∧ many ≤ 30 := by
          have e : (D : Int) / 2 ^ ((plen ln z.2.2.2 : Nat) : Int).toNat = ((D / 2 ^ plen ln z.2.2.2 : Nat) : Int) := by
            rw [Int.toNat_natCast, Int.natCast_ediv, Int.natCast_pow]
            rfl
          rw [e]
          by_cases h30 : (30 : Int) < ((D / 2 ^ plen ln z.2.2.2 : Nat) : Int)
          · exact ⟨30, by rw [if_pos h30]; rfl, Nat.le_refl _⟩
          · exact ⟨D / 2 ^ plen ln z.2.2.2, by rw [if_neg h30], by omega⟩
        refine ⟨z.2.2.1, z.2.2.2, g, many, (by rw [hme]; rfl), hz2', hg, (hprog _ hzr).2, by omega, fun H4 a qs s4 na ha hq hql => ⟨a, rfl, ⟨_, SqL.of ha⟩, fun D1 hD1 => ?_⟩⟩
        have sx4 : SameX c H2 H4 := s3.trans s4.x
        have htl4 := sx4 _ _ htlc htl
        have hch4 := hch3.same s4
        refine lc_sm (walk_list (K := K) (a := a) (xs := qs.map fun z => V.ref z.1)) hD1 (fun i acc _ => ∃ ys : List Int, acc = ys.map V.int ∧ (∀ y ∈ ys, y.natAbs < 1000000000)) ⟨[], rfl, fun x h => (List.not_mem_nil h).elim⟩ (fun _ s => SqL.of (s _ _ ha)) (fun _ _ _ _ _ h => h) (by rw [List.length_map]; omega) ?_ ?_
        · rintro j v acc H5 H6 R R0 hj s5 hacc hla ⟨ys, rfl, hys⟩ ⟨rfl, hv⟩ hR hR0
          rw [List.getElem?_map] at hv
          obtain ⟨q, hq1, rfl⟩ := Option.map_eq_some_iff.mp hv
          have hq2 := s5 _ _ (hq q (List.mem_of_getElem? hq1))
          refine ⟨q.1, _, rfl, SqT.of hq2, rfl, _, _, rfl, _, _, rfl, rfl, rfl, ?_⟩
          refine ⟨_, rfl, q.2.2, rfl, _, _, rfl, rfl, ⟨by decide, by decide, by decide⟩, _, _, rfl, rfl, _, rfl, ?_⟩
          dsimp only
          by_cases h9 : (if q.2.2 < 0 then -q.2.2 else q.2.2) < (10 : Int) ^ (9 : Int).toNat
          · rw [decide_eq_true h9]
            refine iteT ⟨_, rfl, hR _ _ (Same.refl _) ⟨ys ++ [q.2.2], by rw [List.map_append]; rfl, fun y hy => ?_⟩⟩
            rcases List.mem_append.mp hy with hy | hy
            · exact hys y hy
            · rw [List.mem_singleton.mp hy]
              have h92 : (if q.2.2 < 0 then -q.2.2 else q.2.2) < (1000000000 : Int) := h9
              by_cases h00 : q.2.2 < 0
              · rw [if_pos h00] at h92; omega
              · rw [if_neg h00] at h92; omega
          · rw [decide_eq_false h9]
            exact iteF (hR0 _ (Same.refl _) ⟨ys, rfl, hys⟩)
        · rintro acc H5 s5 hacc hl5 ⟨ys, rfl, hys⟩
          rw [List.length_map, List.length_map] at hl5
          have htl5 := s5 _ _ htl4
          have hch5 := hch4.same s5
          have hi4 : i < 4 := hi
          refine ⟨tl, D1, _, _, rfl, rfl, htl5, hacc, size24 (by rw [List.length_map, List.length_map]; omega), fun p np => ⟨_, _, _, _, p, xs ++ ys, rfl, ?_, ?_, ?_, ?_, ?_, ?_⟩⟩
          · exact ((sx2.trans sx4).trans s5.x).trans (Same.new np).x
          · exact (hch5.free ((sx2.trans sx4).trans s5.x) np)
          · rw [List.map_append]
            exact upd_same
          · intro x hx
            rcases List.mem_append.mp hx with hx | hx
            · exact hx9 x hx
            · exact hys x hx
          · rw [List.length_append]
            omega
          · exact (hch5.same (Same.new np)).mono (by omega)
      · rintro σ H2 ⟨z5, z6, z7, z8, tl, xs, rfl, sx2, ntl, htl, hx9, hxl, hch2⟩
        refine sought_rest (K := K) hch2 (by omega) htl (hch.new ntl).1.symm hx9 (by omega) fun H3 f its s3 nf3 hch3 hf hc => ?_
        exact k H3 f its (sx2.trans s3) (hch2.free sx2 nf3) (hch3.mono (by omega)) hf hc
    · rw [decide_eq_false h0]
      refine iteF ⟨0, rfl, by decide, by decide, for_range (fun i σ H' => i = 0 ∧ σ = [some (.ref c), some (.ref ra), some (.int g), some (.int (D : Nat)), some (.ref f0), none, none, none, none, none, none] ∧ H' = H1) ⟨rfl, rfl, rfl⟩ (fun i _ _ hi _ => absurd hi (Nat.not_lt_zero _)) ?_⟩
      rintro σ H2 ⟨_, rfl, rfl⟩
      refine sought_rest (K := K) (xs := []) hch1 (by omega) hf1 cf.1.symm (fun x h => (List.not_mem_nil h).elim) (by decide) fun H3 f its s3 nf3 hch3 hf hc => ?_
      exact k H3 f its (sx1.trans s3) (hch1.free sx1 nf3) (hch3.mono (by omega)) hf hc
end
end K53
end TK53AN

section TK53AR
set_option maxHeartbeats 4000000
namespace K53
open PySem PySem.Spec PyProof.Rows L2
/-! ### what is found depends on the lengths alone -/
theorem rows_exist {ln : Str → Nat} {cs : List (Str × Str)} (c : Ch ln cs) (o : LnOk ln) : ∀ L : Nat, ∃ r, RowIs ln L r := by
  intro L
  induction L using Nat.strongRecOn with
  | _ L ih =>
  refine ⟨rowM cs (fun m => if h : m < L then (ih m h).choose else []) L, rowM_is c fun w hw hl => ?_⟩
  have h1 := o w (mem8.mpr (.inl hw))
  have hlt : L - ln w < L := by omega
  rw [dif_pos hlt]
  exact (ih _ hlt).choose_spec
theorem rowsTo_exist {ln : Str → Nat} {cs : List (Str × Str)} (c : Ch ln cs) (o : LnOk ln) : ∀ M : Nat, ∃ r, RowsTo ln M r
  | 0 => by
    obtain ⟨r, hr⟩ := rows_exist c o 0
    exact ⟨r, hr.nodup, fun p => by rw [hr.mem, Nat.le_zero]⟩
  | M + 1 => by
    obtain ⟨r, hr⟩ := rowsTo_exist c o M
    obtain ⟨s, hs⟩ := rows_exist c o (M + 1)
    refine ⟨r ++ s, ?_, fun p => ?_⟩
    · rw [List.nodup_append]
      refine ⟨hr.nodup, hs.nodup, fun a ha b hb e => ?_⟩
      have h1 := ((hr.mem a).mp ha).2
      have h2 := ((hs.mem b).mp hb).2
      rw [e] at h1
      omega
    · rw [List.mem_append, hr.mem, hs.mem]
      constructor
      · rintro (⟨h1, h2⟩ | ⟨h1, h2⟩)
        · exact ⟨h1, by omega⟩
        · exact ⟨h1, by omega⟩
      · rintro ⟨h1, h2⟩
        by_cases h : plen ln p ≤ M
        · exact .inl ⟨h1, h⟩
        · exact .inr ⟨h1, by omega⟩
theorem sub_sum {α : Type} (f : α → Nat) : ∀ (r s : List α), r.Nodup → (∀ p ∈ r, p ∈ s) → (r.map f).sum ≤ (s.map f).sum
  | [], _, _, _ => Nat.zero_le _
  | x :: l, s, nd, h => by
    rw [List.nodup_cons] at nd
    obtain ⟨a, b, rfl⟩ := List.append_of_mem (h x List.mem_cons_self)
    have := sub_sum f l (a ++ b) nd.2 fun p hp => by
      have h1 := h p (List.mem_cons_of_mem _ hp)
      simp only [List.mem_append, List.mem_cons] at h1 ⊢
      rcases h1 with h1 | h1 | h1
      · exact .inl h1
      · exact absurd (h1 ▸ hp) nd.1
      · exact .inr h1
    simp only [List.map_append, List.map_cons, List.sum_append, List.sum_cons] at this ⊢
    omega
theorem dueSum_mono {ln : Str → Nat} {D E : Nat} (h : D ≤ E) (r : List (List Str)) : dueSum ln D r ≤ dueSum ln E r := sum_le_sum _ _ r fun p _ => Nat.div_le_div_right h
variable {ln : Str → Nat} {F : List Str → Nat → Bool}
theorem MI.due_le {D t e : Nat} {pend : List (List Str)} {q : List Str} {r : List (List Str)} (h : MI ln F D (pend ++ [q]) t) (hex : ∀ M, ∃ r, RowsTo ln M r) (hr : RowsTo ln e r) (ht : t + 1 ≤ dueSum ln (2 ^ e) r) : D ≤ 2 ^ e := by
  by_cases hle : D ≤ 2 ^ e
  · exact hle
  · obtain ⟨s, hs⟩ := hex D
    have hD : D < 2 ^ (D + 1) := Nat.lt_trans Nat.lt_two_pow_self (Nat.pow_lt_pow_right (by decide) (Nat.lt_succ_self _))
    have h1 := (h.found hs hD).1
    have h2 := dueSum_mono (ln := ln) (show 2 ^ e ≤ D - 1 by omega) r
    have h3 : dueSum ln (D - 1) r ≤ dueSum ln (D - 1) s := sub_sum _ r s hr.nodup fun p hp => by
      have h4 := (hr.mem p).mp hp
      have h5 : e < 2 ^ e := Nat.lt_two_pow_self
      exact (hs.mem p).mpr ⟨h4.1, by omega⟩
    omega
theorem FoundIs.bd {q : List Str} {n t most : Nat} (o : LnOk ln) (h : FoundIs ln F q n t most) (hm : most ≤ 20000) : IsProg q ∧ 1 ≤ n ∧ n < 2 ^ 40 ∧ plen ln q ≤ 1000 ∧ q.length ≤ 1000 ∧ F q n = true := by
  obtain ⟨⟨D, pp, t0, mi, rfl, rfl, hf⟩, hle⟩ := h
  obtain ⟨h1, h2, h3, h4, h5, h6⟩ := mi.last
  have hc := mi.cnt
  rw [if_neg (by simp)] at hc
  have h8 := (o endW (mem8.mpr (.inr rfl))).2
  have h9 : 2 ^ ln endW ≤ 2 ^ 8 := Nat.pow_le_pow_right (by decide) h8
  have hD : D < 2 ^ 23 := by
    have e := Nat.div_add_mod D (2 ^ ln endW)
    have hlt := Nat.mod_lt D (Nat.two_pow_pos (ln endW))
    have h10 : 2 ^ ln endW * (D / 2 ^ ln endW) ≤ 2 ^ 8 * 20001 := Nat.mul_le_mul h9 (by omega)
    have : (2 : Nat) ^ 8 = 256 := rfl
    have : (2 : Nat) ^ 23 = 8388608 := rfl
    omega
  have hp : 2 ^ plen ln q ≤ D := Nat.le_of_dvd h3 (mi.pp q (by simp)).2.1
  have hpl : plen ln q < 23 := (Nat.pow_lt_pow_iff_right (a := 2) (by decide)).mp (Nat.lt_of_le_of_lt hp hD)
  have hln := plen_ge o h1
  refine ⟨h1, h4, ?_, by omega, by omega, hf⟩
  have := Nat.div_le_self D (2 ^ plen ln q)
  have e40 : (2 : Nat) ^ 40 = 1099511627776 := rfl
  have e23 : (2 : Nat) ^ 23 = 8388608 := rfl
  omega
/-- found: the least due, its bounds -/
theorem FoundIs.law {q : List Str} {n t e : Nat} {r : List (List Str)} (hex : ∀ M, ∃ r, RowsTo ln M r) (hr : RowsTo ln e r) (h : FoundIs ln F q n t (dueSum ln (2 ^ e) r)) :
    1 ≤ n * 2 ^ plen ln q ∧ n * 2 ^ plen ln q ≤ 2 ^ e ∧ dueSum ln (n * 2 ^ plen ln q - 1) r < t ∧ t ≤ dueSum ln (n * 2 ^ plen ln q) r ∧ ∀ p m, IsProg p → 1 ≤ m → F p m = true → n * 2 ^ plen ln q ≤ m * 2 ^ plen ln p := by
  obtain ⟨⟨D, pp, t0, mi, rfl, rfl, hf⟩, hle⟩ := h
  obtain ⟨h1, h2, h3, h4, h5, h6⟩ := mi.last
  rw [h5]
  have hD := mi.due_le hex hr hle
  have hb := mi.found hr (show D < 2 ^ (e + 1) by rw [Nat.pow_succ]; have := Nat.two_pow_pos e; omega)
  exact ⟨h3, hD, hb.1, hb.2, fun p m hp hm hf => mi.least hp hm hf⟩
theorem FoundIs.self {q : List Str} {n t most : Nat} (h : FoundIs ln F q n t most) : IsProg q ∧ 1 ≤ n ∧ F q n = true := by
  obtain ⟨⟨D, pp, t0, mi, rfl, rfl, hf⟩, hle⟩ := h
  obtain ⟨h1, h2, h3, h4, h5, h6⟩ := mi.last
  exact ⟨h1, h4, hf⟩
/-- not found: nothing up to the due -/
theorem NotIs.law {e : Nat} {r : List (List Str)} (hr : RowsTo ln e r) (h : NotIs ln F (dueSum ln (2 ^ e) r)) {p : List Str} {m : Nat} (hp : IsProg p) (hm : 1 ≤ m) (hf : F p m = true) : 2 ^ e + 1 ≤ m * 2 ^ plen ln p := by
  obtain ⟨⟨D, pend, mi⟩⟩ := h
  by_cases hle : 2 ^ e + 1 ≤ m * 2 ^ plen ln p
  · exact hle
  · have h1 := mi.end hp hm hf hr (by rw [Nat.pow_succ]; have := Nat.two_pow_pos e; omega)
    have h2 := dueSum_mono (ln := ln) (show m * 2 ^ plen ln p ≤ 2 ^ e by omega) r
    omega
/-- all the steps up to the due -/
theorem dueSum_le {e : Nat} {r : List (List Str)} (k : Kraft ln) (o : LnOk ln) (hr : RowsTo ln e r) : dueSum ln (2 ^ e) r ≤ 2 ^ e := by
  have h := kraft_sum k o e r hr.nodup fun p hp => (hr.mem p).mp hp
  refine Nat.le_trans (Nat.le_of_eq ?_) h
  unfold dueSum
  congr 1
  refine List.map_congr_left fun p hp => ?_
  exact Nat.pow_div ((hr.mem p).mp hp).2 (by decide)
theorem rows_len {e : Nat} {r : List (List Str)} (k : Kraft ln) (o : LnOk ln) (hr : RowsTo ln e r) : r.length ≤ 2 ^ e := by
  have h := kraft_sum k o e r hr.nodup fun p hp => (hr.mem p).mp hp
  refine Nat.le_trans ?_ h
  have : ∀ l : List (List Str), l.length ≤ (l.map fun p => 2 ^ (e - plen ln p)).sum := by
    intro l
    induction l with
    | nil => exact Nat.zero_le _
    | cons x l ih =>
      have := Nat.two_pow_pos (e - plen ln x)
      simp only [List.length_cons, List.map_cons, List.sum_cons]
      omega
  exact this r
theorem plen_mono {ln ln' : Str → Nat} (h : ∀ w ∈ words8, ln w ≤ ln' w) {p : List Str} (hp : IsProg p) : plen ln p ≤ plen ln' p := by
  have h1 := sum_le_sum ln ln' p fun w hw => h w (mem8.mpr (.inl (hp w hw)))
  have h2 := h endW (mem8.mpr (.inr rfl))
  unfold plen
  omega
theorem lnOf_eq {ns ms : List Str} (h : ns.map (·.length) = ms.map (·.length)) : lnOf ns = lnOf ms := by
  funext w
  unfold lnOf
  have e : ∀ l : List Str, (l.getD (words8.idxOf w) Str.empty).length = (l.map (·.length)).getD (words8.idxOf w) 0 := fun l => by
    rw [List.getD_eq_getElem?_getD, List.getD_eq_getElem?_getD, List.getElem?_map]
    cases l[words8.idxOf w]? <;> rfl
  rw [e, e, h]
theorem TgOk.hex {ns : List Str} (h : TgOk ns) : ∀ M, ∃ r, RowsTo (lnOf ns) M r := rowsTo_exist (ch_of h.len (List.Perm.refl _)) h.ln
theorem lnOf_mono {ns ms : List Str} (hn : ns.length = 8) (hm : ms.length = 8) (h : ∀ (i : Nat) (x y : Str), ns[i]? = some x → ms[i]? = some y → x.length ≤ y.length) : ∀ w ∈ words8, lnOf ns w ≤ lnOf ms w := by
  intro w hw
  obtain ⟨i, hi⟩ := List.mem_iff_getElem?.mp hw
  have hl := (List.getElem?_eq_some_iff.mp hi).1
  rw [words8_len] at hl
  have h1 : ns[i]? = some (ns[i]'(by omega)) := List.getElem?_eq_getElem _
  have h2 : ms[i]? = some (ms[i]'(by omega)) := List.getElem?_eq_getElem _
  rw [lnOf_at h1 hi, lnOf_at h2 hi]
  exact h i _ _ h1 h2
theorem kraft_mono {ln ln' : Str → Nat} (h : ∀ w ∈ words8, ln w ≤ ln' w) (k : Kraft ln) : Kraft ln' := by
  unfold Kraft at k ⊢
  refine Nat.le_trans (sum_le_sum _ _ _ fun w hw => ?_) k
  have := h w hw
  exact Nat.pow_le_pow_right (by decide) (by omega)
/-! ### a name longer by a sign -/
theorem longer_ok {ns : List Str} {j : Nat} {x s : Str} {c : Nat} (h : TgOk ns) (ha : AllApart ns) (hx : ns[j]? = some x) (hs : s.cps.toList = [c]) (hc : Sign c) (hl : (x ++ s).length < 9) :
    TgOk (ns.set j (x ++ s)) ∧ AllApart (ns.set j (x ++ s)) ∧ ∀ w ∈ words8, lnOf ns w ≤ lnOf (ns.set j (x ++ s)) w := by
  have hj := (List.getElem?_eq_some_iff.mp hx).1
  have hxs : (x ++ s).cps.toList = x.cps.toList ++ [c] := by rw [str_app, hs]
  have e8 : (ns.set j (x ++ s)).length = 8 := by rw [List.length_set, h.len]
  have hmono : ∀ w ∈ words8, lnOf ns w ≤ lnOf (ns.set j (x ++ s)) w := lnOf_mono h.len e8 fun i a b h1 h2 => by
    rw [List.getElem?_set] at h2
    by_cases e : j = i
    · subst e
      rw [if_pos rfl, if_pos hj] at h2
      obtain rfl := Option.some.inj h2
      obtain rfl := Option.some.inj (hx.symm.trans h1)
      rw [len_app]
      omega
    · rw [if_neg e] at h2
      obtain rfl := Option.some.inj (h1.symm.trans h2)
      exact Nat.le_refl _
  have hnx := h.nm x (List.mem_of_getElem? hx)
  refine ⟨⟨e8, fun n hn => ?_, kraft_mono hmono h.kraft⟩, ?_, hmono⟩
  · rcases List.mem_or_eq_of_mem_set hn with hn | rfl
    · exact h.nm n hn
    · refine ⟨fun d hd => ?_, ?_, by omega⟩
      · rw [hxs] at hd
        rcases List.mem_append.mp hd with hd | hd
        · exact hnx.1 d hd
        · rw [List.mem_singleton.mp hd]
          exact hc
      · have := hnx.2.1
        rw [len_app]
        omega
  · intro i k a b hik h1 h2
    rw [List.getElem?_set] at h1 h2
    rw [starts_false]
    by_cases e1 : j = i
    · subst e1
      rw [if_pos rfl, if_pos hj] at h1
      obtain rfl := Option.some.inj h1
      rw [if_neg hik] at h2
      have n1 := starts_false.mp (ha j k x b hik hx h2)
      have n2 := starts_false.mp (ha k j b x (Ne.symm hik) h2 hx)
      rw [hxs]
      intro q
      rcases prefix_snoc q with q | q
      · exact n1 q
      · exact n2 (by rw [q]; exact List.prefix_append _ _)
    · rw [if_neg e1] at h1
      by_cases e2 : j = k
      · subst e2
        rw [if_pos rfl, if_pos hj] at h2
        obtain rfl := Option.some.inj h2
        have n1 := starts_false.mp (ha i j a x hik h1 hx)
        rw [hxs]
        intro q
        exact n1 ((List.prefix_append _ _).trans q)
      · rw [if_neg e2] at h2
        exact starts_false.mp (ha i k a b hik h1 h2)
end K53
end TK53AR

section TK53AS
set_option maxHeartbeats 4000000
namespace K53
open PySem PySem.Spec PyProof.Rows L2 SX
/-! ### all the programs, one branch after the other -/
theorem plen_snoc (ln : Str → Nat) (f : List Str) (w : Str) : plen ln (f ++ [w]) = plen ln f + ln w := by
  unfold plen
  rw [List.map_append, List.sum_append]
  simp only [List.map_cons, List.map_nil, List.sum_cons, List.sum_nil]
  omega
theorem plen_pre {ln : Str → Nat} {a b : List Str} (h : a <+: b) : plen ln a ≤ plen ln b := by
  obtain ⟨t, rfl⟩ := h
  unfold plen
  rw [List.map_append, List.sum_append]
  omega
theorem prog_len {ln : Str → Nat} {e : Nat} {r : List (List Str)} (k : Kraft ln) (o : LnOk ln) (nd : r.Nodup) (h : ∀ p ∈ r, IsProg p ∧ plen ln p ≤ e) : r.length ≤ 2 ^ e := by
  have h := kraft_sum k o e r nd h
  refine Nat.le_trans ?_ h
  have : ∀ l : List (List Str), l.length ≤ (l.map fun p => 2 ^ (e - plen ln p)).sum := by
    intro l
    induction l with
    | nil => exact Nat.zero_le _
    | cons x l ih =>
      have := Nat.two_pow_pos (e - plen ln x)
      simp only [List.length_cons, List.map_cons, List.sum_cons]
      omega
  exact this r
structure DfsI (ln : Str → Nat) (m : Nat) (rows fresh : List (List Str)) : Prop where
  rn : rows.Nodup
  rm : ∀ p ∈ rows, IsProg p ∧ plen ln p ≤ m
  fm : ∀ f ∈ fresh, IsProg f ∧ (plen ln f ≤ m ∨ f = [])
  fa : fresh.Pairwise fun a b => ¬ a <+: b ∧ ¬ b <+: a
  fr : ∀ f ∈ fresh, ∀ p ∈ rows, ¬ f <+: p
  al : ∀ p, IsProg p → plen ln p ≤ m → p ∈ rows ∨ ∃ f ∈ fresh, f <+: p
def kidsOf (ln : Str → Nat) (m : Nat) (f : List Str) : List (List Str) := (words7.filter fun w => decide (plen ln (f ++ [w]) ≤ m)).map fun w => f ++ [w]
theorem kids_mem {ln : Str → Nat} {m : Nat} {f g : List Str} : g ∈ kidsOf ln m f ↔ ∃ w ∈ words7, plen ln (f ++ [w]) ≤ m ∧ g = f ++ [w] := by
  unfold kidsOf
  rw [List.mem_map]
  constructor
  · rintro ⟨w, hw, rfl⟩
    rw [List.mem_filter] at hw
    exact ⟨w, hw.1, of_decide_eq_true hw.2, rfl⟩
  · rintro ⟨w, h1, h2, rfl⟩
    exact ⟨w, List.mem_filter.mpr ⟨h1, decide_eq_true h2⟩, rfl⟩
theorem words7_nodup : words7.Nodup := by
  have := words8_nodup
  rw [words8_cons] at this
  exact (List.nodup_append.mp this).1
theorem pre_snoc {α : Type} {a b : List α} {c : α} (h : a <+: b ++ [c]) : a <+: b ∨ a = b ++ [c] := by
  obtain ⟨t, ht⟩ := h
  rcases List.eq_nil_or_concat t with rfl | ⟨t', x, rfl⟩
  · exact .inr (by simpa using ht)
  · rw [List.concat_eq_append, ← List.append_assoc] at ht
    obtain ⟨h1, _⟩ := List.append_inj' ht rfl
    exact .inl ⟨t', h1⟩
theorem DfsI.start (ln : Str → Nat) (m : Nat) : DfsI ln m [] [[]] := by
  refine ⟨List.nodup_nil, fun p h => (List.not_mem_nil h).elim, fun f h => ?_, by simp, fun _ _ p h => (List.not_mem_nil h).elim, fun p _ _ => .inr ⟨[], by simp, List.nil_prefix⟩⟩
  rw [List.mem_singleton.mp h]
  exact ⟨fun x hx => (List.not_mem_nil hx).elim, .inr rfl⟩
theorem DfsI.step {ln : Str → Nat} {m : Nat} {rows fs : List (List Str)} {f : List Str} (h : DfsI ln m rows (fs ++ [f])) : DfsI ln m (if plen ln f ≤ m then rows ++ [f] else rows) (fs ++ kidsOf ln m f) := by
  have hf := h.fm f (by simp)
  obtain ⟨p1, _, p3⟩ := List.pairwise_append.mp h.fa
  have ff : ∀ g ∈ fs, ¬ g <+: f ∧ ¬ f <+: g := fun g hg => p3 g hg f (by simp)
  have rmem : ∀ p, p ∈ (if plen ln f ≤ m then rows ++ [f] else rows) ↔ p ∈ rows ∨ (plen ln f ≤ m ∧ p = f) := fun p => by
    by_cases e : plen ln f ≤ m
    · rw [if_pos e, List.mem_append, List.mem_singleton]
      exact ⟨fun z => z.elim .inl fun z => .inr ⟨e, z⟩, fun z => z.elim .inl fun z => .inr z.2⟩
    · rw [if_neg e]
      exact ⟨.inl, fun z => z.elim id fun z => absurd z.1 e⟩
  have fnr : f ∉ rows := fun q => h.fr f (by simp) f q (List.prefix_refl _)
  refine ⟨?_, fun p hp => ?_, fun g hg => ?_, ?_, fun g hg p hp => ?_, fun p hp hl => ?_⟩
  · by_cases e : plen ln f ≤ m
    · rw [if_pos e, List.nodup_append]
      refine ⟨h.rn, by simp, fun a ha b hb q => fnr ?_⟩
      rw [← List.mem_singleton.mp hb, ← q]
      exact ha
    · rw [if_neg e]
      exact h.rn
  · rcases (rmem p).mp hp with hp | ⟨h1, rfl⟩
    · exact h.rm p hp
    · exact ⟨hf.1, h1⟩
  · rcases List.mem_append.mp hg with hg | hg
    · exact h.fm g (List.mem_append_left _ hg)
    · obtain ⟨w, hw, hl, rfl⟩ := kids_mem.mp hg
      refine ⟨fun x hx => ?_, .inl hl⟩
      rcases List.mem_append.mp hx with hx | hx
      · exact hf.1 x hx
      · rw [List.mem_singleton.mp hx]
        exact hw
  · rw [List.pairwise_append]
    refine ⟨p1, ?_, fun a ha b hb => ?_⟩
    · unfold kidsOf
      rw [List.pairwise_map]
      refine ((List.nodup_iff_pairwise_ne.mp words7_nodup).filter _).imp fun {x y} hne => ⟨fun q => ?_, fun q => ?_⟩
      · have := q.eq_of_length (by simp)
        exact hne (by simpa using this)
      · have := q.eq_of_length (by simp)
        exact hne (by simpa using this.symm)
    · obtain ⟨w, hw, hl, rfl⟩ := kids_mem.mp hb
      refine ⟨fun q => ?_, fun q => ?_⟩
      · rcases pre_snoc q with q | q
        · exact (ff a ha).1 q
        · exact (ff a ha).2 (by rw [q]; exact List.prefix_append _ _)
      · exact (ff a ha).2 ((List.prefix_append _ _).trans q)
  · rcases List.mem_append.mp hg with hg1 | hg1
    · rcases (rmem p).mp hp with hp | ⟨_, e⟩
      · exact h.fr g (List.mem_append_left _ hg1) p hp
      · rw [e]
        exact (ff g hg1).1
    · obtain ⟨w, hw, hl, rfl⟩ := kids_mem.mp hg1
      intro q
      rcases (rmem p).mp hp with hp | ⟨_, rfl⟩
      · exact h.fr f (by simp) p hp ((List.prefix_append _ _).trans q)
      · have := q.length_le
        rw [List.length_append, List.length_singleton] at this
        omega
  · rcases h.al p hp hl with h1 | ⟨g, hg, hpre⟩
    · exact .inl ((rmem p).mpr (.inl h1))
    · rcases List.mem_append.mp hg with hg | hg
      · exact .inr ⟨g, List.mem_append_left _ hg, hpre⟩
      · obtain rfl := List.mem_singleton.mp hg
        obtain ⟨t, rfl⟩ := hpre
        cases t with
        | nil =>
          rw [List.append_nil] at hl ⊢
          exact .inl ((rmem g).mpr (.inr ⟨hl, rfl⟩))
        | cons w t =>
          have e : g ++ w :: t = (g ++ [w]) ++ t := by simp
          have hpre : g ++ [w] <+: g ++ w :: t := by rw [e]; exact List.prefix_append _ _
          refine .inr ⟨g ++ [w], List.mem_append_right _ (kids_mem.mpr ⟨w, hp w (by simp), Nat.le_trans (plen_pre hpre) hl, rfl⟩), hpre⟩
theorem DfsI.nd {ln : Str → Nat} {m : Nat} {rows fresh : List (List Str)} (h : DfsI ln m rows fresh) : fresh.Nodup := by
  rw [List.nodup_iff_pairwise_ne]
  exact h.fa.imp fun {a b} q e => q.1 (by rw [e]; exact List.prefix_refl _)
theorem DfsI.len {ln : Str → Nat} {m : Nat} {rows fresh : List (List Str)} (k : Kraft ln) (o : LnOk ln) (h : DfsI ln m rows fresh) : rows.length ≤ 2 ^ m ∧ fresh.length ≤ 2 ^ m := by
  refine ⟨prog_len k o h.rn h.rm, ?_⟩
  by_cases he : ([] : List Str) ∈ fresh
  · obtain ⟨a, b, rfl⟩ := List.append_of_mem he
    obtain ⟨_, p2, p3⟩ := List.pairwise_append.mp h.fa
    have ea : a = [] := by
      cases a with
      | nil => rfl
      | cons x a => exact absurd List.nil_prefix (p3 x List.mem_cons_self [] List.mem_cons_self).2
    have eb : b = [] := by
      cases b with
      | nil => rfl
      | cons x b => exact absurd List.nil_prefix ((List.pairwise_cons.mp p2).1 x List.mem_cons_self).1
    subst ea eb
    have := Nat.two_pow_pos m
    show 1 ≤ _
    omega
  · exact prog_len k o h.nd fun p hp => ⟨(h.fm p hp).1, (h.fm p hp).2.resolve_right fun q => he (q ▸ hp)⟩
theorem DfsI.done {ln : Str → Nat} {m : Nat} {rows : List (List Str)} (h : DfsI ln m rows []) : RowsTo ln m rows := by
  refine ⟨h.rn, fun p => ⟨h.rm p, fun q => ?_⟩⟩
  rcases h.al p q.1 q.2 with z | ⟨f, hf, _⟩
  · exact z
  · exact (List.not_mem_nil hf).elim
/-- what is left to be opened, weighed -/
def dfsW (ln : Str → Nat) (m : Nat) (fresh : List (List Str)) : Nat := (fresh.map fun f => 8 ^ (m + 1 - (f.map ln).sum)).sum
theorem dfs_less {ln : Str → Nat} {m : Nat} {rows fs : List (List Str)} {f : List Str} (o : LnOk ln) (h : DfsI ln m rows (fs ++ [f])) : dfsW ln m (fs ++ kidsOf ln m f) < dfsW ln m (fs ++ [f]) := by
  unfold dfsW
  rw [List.map_append, List.sum_append, List.map_append, List.sum_append]
  simp only [List.map_cons, List.map_nil, List.sum_cons, List.sum_nil, Nat.add_zero]
  have hs : (f.map ln).sum ≤ m := by
    rcases (h.fm f (by simp)).2 with q | q
    · unfold plen at q
      omega
    · rw [q]
      exact Nat.zero_le _
  have he : 8 ^ (m + 1 - (f.map ln).sum) = 8 * 8 ^ (m - (f.map ln).sum) := by
    rw [show m + 1 - (f.map ln).sum = (m - (f.map ln).sum) + 1 by omega, Nat.pow_succ, Nat.mul_comm]
  have hk : ((kidsOf ln m f).map fun f => 8 ^ (m + 1 - (f.map ln).sum)).sum ≤ (kidsOf ln m f).length * 8 ^ (m - (f.map ln).sum) := by
    have : ∀ l : List (List Str), (∀ g ∈ l, 8 ^ (m + 1 - (g.map ln).sum) ≤ 8 ^ (m - (f.map ln).sum)) → (l.map fun f => 8 ^ (m + 1 - (f.map ln).sum)).sum ≤ l.length * 8 ^ (m - (f.map ln).sum) := by
      intro l hl
      induction l with
      | nil => exact Nat.zero_le _
      | cons x l ih =>
        have h1 := hl x List.mem_cons_self
        have h2 := ih fun g hg => hl g (List.mem_cons_of_mem _ hg)
        simp only [List.map_cons, List.sum_cons, List.length_cons, Nat.add_mul, Nat.one_mul]
        omega
    refine this _ fun g hg => ?_
    obtain ⟨w, hw, hl, rfl⟩ := kids_mem.mp hg
    have h1 := (o w (mem8.mpr (.inl hw))).1
    refine Nat.pow_le_pow_right (by decide) ?_
    rw [List.map_append, List.sum_append]
    simp only [List.map_cons, List.map_nil, List.sum_cons, List.sum_nil]
    omega
  have hl7 : (kidsOf ln m f).length ≤ 7 := by
    unfold kidsOf
    rw [List.length_map]
    exact Nat.le_trans (List.length_filter_le _ _) (by decide)
  have h8 : 0 < 8 ^ (m - (f.map ln).sum) := Nat.pow_pos (by decide)
  have h9 : (kidsOf ln m f).length * 8 ^ (m - (f.map ln).sum) ≤ 7 * 8 ^ (m - (f.map ln).sum) := Nat.mul_le_mul_right _ hl7
  omega
theorem RowsTo.perm {ln : Str → Nat} {m : Nat} {r s : List (List Str)} (h : RowsTo ln m r) (p : s.Perm r) : RowsTo ln m s := ⟨p.nodup_iff.mpr h.nodup, fun q => by rw [p.mem_iff, h.mem]⟩
/-! ### signs exchanged -/
def flipC (c : Nat) : Nat := if c = 48 then 49 else 48
def flipS (z : Str) : Str := S (z.cps.toList.map flipC)
theorem S_list (l : List Nat) : (S l).cps.toList = l := List.toList_toArray
theorem flip_list (z : Str) : (flipS z).cps.toList = z.cps.toList.map flipC := S_list _
theorem flip_len (z : Str) : (flipS z).length = z.length := by rw [← len_toList, flip_list, List.length_map, len_toList]
theorem flip_sign (c : Nat) : Sign (flipC c) := by
  unfold flipC Sign
  by_cases h : c = 48
  · rw [if_pos h]; exact .inr rfl
  · rw [if_neg h]; exact .inl rfl
theorem flip_flip {c : Nat} (h : Sign c) : flipC (flipC c) = c := by
  rcases h with rfl | rfl <;> rfl
theorem flip_back {l : List Nat} (h : ∀ c ∈ l, Sign c) : (l.map flipC).map flipC = l := by
  rw [List.map_map]
  conv => rhs; rw [← List.map_id l]
  exact List.map_congr_left fun c hc => flip_flip (h c hc)
theorem flip_pre {x y : Str} (hx : ∀ c ∈ x.cps.toList, Sign c) (hy : ∀ c ∈ y.cps.toList, Sign c) (h : (flipS x).cps.toList <+: (flipS y).cps.toList) : x.cps.toList <+: y.cps.toList := by
  rw [flip_list, flip_list] at h
  have := h.map flipC
  rwa [flip_back hx, flip_back hy] at this
theorem joinL_nil : ∀ l : List (List Nat), TL.joinL [] l = l.flatten
  | [] => rfl
  | [p] => by simp [TL.joinL]
  | p :: q :: r => by
    show p ++ ([] ++ TL.joinL [] (q :: r)) = _
    rw [joinL_nil (q :: r)]
    rfl
theorem join_flip (z : Str) : Txt.join Str.empty (z.cps.toList.map fun c => S [flipC c]) = flipS z := by
  have e : Txt.join (S []) ((z.cps.toList.map fun c => [flipC c]).map S) = S (TL.joinL [] (z.cps.toList.map fun c => [flipC c])) := join_S _ _
  rw [List.map_map, joinL_nil] at e
  refine e.trans ?_
  unfold flipS
  congr 1
  induction z.cps.toList with
  | nil => rfl
  | cons c l ih => rw [List.map_cons, List.flatten_cons, ih]; rfl
theorem flip_ok {ns : List Str} (h : TgOk ns) (ha : AllApart ns) : TgOk (ns.map flipS) ∧ AllApart (ns.map flipS) ∧ (ns.map flipS).map (·.length) = ns.map (·.length) := by
  have el : (ns.map flipS).map (·.length) = ns.map (·.length) := by
    rw [List.map_map]
    exact List.map_congr_left fun z _ => flip_len z
  refine ⟨⟨by rw [List.length_map, h.len], fun n hn => ?_, by rw [lnOf_eq el]; exact h.kraft⟩, fun i j x y hij hx hy => ?_, el⟩
  · obtain ⟨z, hz, rfl⟩ := List.mem_map.mp hn
    have := h.nm z hz
    refine ⟨fun c hc => ?_, by rw [flip_len]; exact this.2.1, by rw [flip_len]; exact this.2.2⟩
    rw [flip_list] at hc
    obtain ⟨d, _, rfl⟩ := List.mem_map.mp hc
    exact flip_sign d
  · rw [List.getElem?_map] at hx hy
    obtain ⟨x, hx', rfl⟩ := Option.map_eq_some_iff.mp hx
    obtain ⟨y, hy', rfl⟩ := Option.map_eq_some_iff.mp hy
    rw [starts_false]
    intro q
    exact starts_false.mp (ha i j x y hij hx' hy') (flip_pre (h.nm y (List.mem_of_getElem? hy')).1 (h.nm x (List.mem_of_getElem? hx')).1 q)
/-! ### names dealt anew -/
theorem one_sum {α : Type} : ∀ l : List α, (l.map fun _ => 1).sum = l.length
  | [] => rfl
  | _ :: l => by rw [List.map_cons, List.sum_cons, one_sum l, List.length_cons, Nat.add_comm]
theorem pick_ex {T F : List Str} {i : Nat} {x : Str} (hT : T.Nodup) (hi : T[i]? = some x) (hF : F.map (·.length) = (T.take i).map (·.length)) : ∃ y ∈ T, y.length = x.length ∧ y ∉ F := by
  refine Classical.byContradiction fun hn => ?_
  have hall : ∀ y ∈ T, y.length = x.length → y ∈ F := fun y hy hl => Classical.byContradiction fun h => hn ⟨y, hy, hl, h⟩
  have h1 := sub_sum (fun _ => 1) (T.filter fun y => decide (y.length = x.length)) (F.filter fun y => decide (y.length = x.length)) (hT.filter _) fun p hp => by
    rw [List.mem_filter] at hp ⊢
    exact ⟨hall p hp.1 (of_decide_eq_true hp.2), hp.2⟩
  rw [one_sum, one_sum] at h1
  have cnt : ∀ l : List Str, (l.filter fun y => decide (y.length = x.length)).length = ((l.map (·.length)).filter fun n => decide (n = x.length)).length := fun l => by
    rw [List.filter_map, List.length_map]
    rfl
  rw [cnt F, hF, ← cnt] at h1
  obtain ⟨hl, rfl⟩ := List.getElem?_eq_some_iff.mp hi
  have e : T = T.take i ++ T[i] :: T.drop (i + 1) := by
    rw [← List.drop_eq_getElem_cons hl, List.take_append_drop]
  have e2 : (T.filter fun y => decide (y.length = T[i].length)).length = ((T.take i).filter fun y => decide (y.length = T[i].length)).length + ((T[i] :: T.drop (i + 1)).filter fun y => decide (y.length = T[i].length)).length := by
    rw [← List.length_append, ← List.filter_append, ← e]
  rw [List.filter_cons_of_pos (by simp), List.length_cons] at e2
  omega
theorem dealt_ok {T F : List Str} (hT : TgOk T) (ha : AllApart T) (hF : F.map (·.length) = T.map (·.length)) (hn : F.Nodup) (hm : ∀ y ∈ F, y ∈ T) : TgOk F ∧ AllApart F := by
  refine ⟨⟨?_, fun n h => hT.nm n (hm n h), by rw [lnOf_eq hF]; exact hT.kraft⟩, AllApart.of_mem hn fun x hx y hy n => ha.mem (hm x hx) (hm y hy) n⟩
  have := congrArg List.length hF
  rw [List.length_map, List.length_map, hT.len] at this
  exact this
end K53
end TK53AS

section TK53AO
set_option maxHeartbeats 4000000

namespace K53
open PySem PySem.Spec PyProof.Rows L2 SX
/-! ### the rows of the law -/
/-- tuples stay -/
def TK (H H' : Hp) : Prop := ∀ b xs, H b = some (.tup xs) → H' b = some (.tup xs)
theorem TK.same {H H' : Hp} (s : Same H H') : TK H H' := fun b xs h => s b _ h
theorem TK.put {H : Hp} {a : Addr} {xs ys : List V} (h : H a = some (.lst xs)) : TK H (upd H a (.lst ys)) := fun b zs e => by
  rw [upd_ne (ne_of e h (by intro q; cases q))]
  exact e
theorem TK.trans {H H1 H2 : Hp} (a : TK H H1) (b : TK H1 H2) : TK H H2 := fun c xs h => b c xs (a c xs h)
abbrev PE4 := Addr × Str × Addr × List Str
def RowF (ln : Str → Nat) (H : Hp) (z : PE4) : Prop := H z.1 = some (.tup [.int (plen ln z.2.2.2 : Nat), .str z.2.1, .ref z.2.2.1]) ∧ H z.2.2.1 = some (.tup (z.2.2.2.map V.str))
def FreF (ln : Str → Nat) (H : Hp) (z : PE4) : Prop := H z.1 = some (.tup [.str z.2.1, .ref z.2.2.1]) ∧ H z.2.2.1 = some (.tup (z.2.2.2.map V.str)) ∧ z.2.1.length = (z.2.2.2.map ln).sum
theorem RowF.keep {ln : Str → Nat} {H H' : Hp} {z : PE4} (k : TK H H') (h : RowF ln H z) : RowF ln H' z := ⟨k _ _ h.1, k _ _ h.2⟩
theorem FreF.keep {ln : Str → Nat} {H H' : Hp} {z : PE4} (k : TK H H') (h : FreF ln H z) : FreF ln H' z := ⟨k _ _ h.1, k _ _ h.2.1, h.2.2⟩
theorem alike_strs : ∀ p q : List Str, PySem.W.alikeAll (p.map PyData.str) (q.map PyData.str) = true
  | [], _ => by cases ‹List Str› <;> rfl
  | _ :: _, [] => rfl
  | x :: p, y :: q => by
    show (true && PySem.W.alikeAll (p.map PyData.str) (q.map PyData.str)) = true
    rw [alike_strs p q]
    rfl
def rowD (ln : Str → Nat) (z : PE4) : PyData := .tuple [.int (plen ln z.2.2.2 : Nat), .str z.2.1, .tuple (z.2.2.2.map PyData.str)]
theorem dp_texts {K : PySem.W.Frag} {H : Hp} : ∀ p : List Str, DpAll K H (p.map V.str) (p.map PyData.str)
  | [] => .nil
  | x :: p => .cons (.str x) (dp_texts p)
theorem dp_rows {K : PySem.W.Frag} {H : Hp} {ln : Str → Nat} : ∀ (zs : List PE4), (∀ z ∈ zs, RowF ln H z) → DpAll K H (zs.map fun z => V.ref z.1) (zs.map (rowD ln))
  | [], _ => .nil
  | z :: zs, h => .cons (.tup (SqT.of (h z List.mem_cons_self).1) (.cons (.int _) (.cons (.str _) (.cons (.tup (SqT.of (h z List.mem_cons_self).2) (dp_texts _)) .nil)))) (dp_rows zs fun y hy => h y (List.mem_cons_of_mem _ hy))
theorem depth_texts : ∀ p : List Str, PyData.depthAll (p.map PyData.str) ≤ 1
  | [] => by simp [PyData.depthAll]
  | x :: p => by
    have := depth_texts p
    simp only [List.map_cons, PyData.depthAll, PyData.depth]
    omega
theorem ifs_to {b : Bool} {t : L2.TS} {D : Ends} {σ : L2.St} {H : Hp} (R : L2.St → Hp → Prop) (hD : ∀ σ H, R σ H → D.nx σ H) (h1 : b = true → ∀ N : L2.St → Hp → Prop, (∀ σ H, R σ H → N σ H) → t { D with nx := N } σ H) (h2 : b = false → R σ H) : if b = true then t D σ H else tNext D σ H := by
  cases b with
  | true => exact h1 rfl D.nx hD
  | false => exact hD _ _ (h2 rfl)
/-- the loop's state -/
def DSt (ns : List Str) (m : Nat) (H : Hp) (l w0 r0 f0 : Addr) : Nat → L2.St → Hp → Prop := fun mm σ H' => ∃ (z5 z6 : Option V) (rp fp : List PE4), σ = [some (.ref l), some (.int (m : Nat)), some (.ref w0), some (.ref r0), some (.ref f0), z5, z6, none, none] ∧ Same H H' ∧ H' w0 = some (.lst (words7.map V.str)) ∧ H' r0 = some (.lst (rp.map fun z => V.ref z.1)) ∧ H' f0 = some (.lst (fp.map fun z => V.ref z.1)) ∧ (∀ z ∈ rp, RowF (lnOf ns) H' z) ∧ (∀ z ∈ fp, FreF (lnOf ns) H' z) ∧ DfsI (lnOf ns) m (rp.map (·.2.2.2)) (fp.map (·.2.2.2)) ∧ mm = dfsW (lnOf ns) m (fp.map (·.2.2.2))
section
variable {P : Program} {w : World} {K : PySem.W.Frag} {mg : Str → Option Value} {base : Heap} [PM P]
abbrev N_l_programs : List Str := ["_law_names_here", "_law_most", "_law_words", "_law_rows", "_law_fresh", "_law_text", "_law_told", "_law_word_here", "_law_name"]
theorem sc_l_programs : FnScope N_l_programs ["_law_names_here", "_law_most"] (defScope s_l_programs) := ⟨rfl, rfl, rfl, by decide +kernel, rfl, by decide +kernel, by decide +kernel⟩
def sp_l_programs (K : PySem.W.Frag) : Sp := fun vs H Q _ => ∃ (l : Addr) (ns : List Str) (m : Nat), vs = [.ref l, .int (m : Nat)] ∧ H l = some (.lst (ns.map V.str)) ∧ TgOk ns ∧ m ≤ 20 ∧
  ∀ H' a r, Same H H' → H a = none → RowsAt H' a (lnOf ns) r → RowsTo (lnOf ns) m r → Q (.ref a) H'
theorem ok_l_programs (T : TX w K mg) : FnX P w K mg base 1 ("_law_programs", none) ["_law_names_here", "_law_most"] [] (sp_l_programs K) := by
  refine FnX.of T.qd_l_programs rfl sc_l_programs (fun vs H Q E h => ?_) (fun _ _ _ _ _ _ us hl => match us, hl with | [_, _], _ => rfl) (fun cdv A outer s H vs Q E hr h => ?_)
  · obtain ⟨l, ns, m, rfl, _⟩ := h
    rfl
  · obtain ⟨l, ns, m, rfl, hl, hok, hm, k⟩ := h
    refine ⟨_, (pss_cons (ps_set (i := 2) sc_l_programs.nd rfl (by first | exact .inl rfl | exact .inr rfl) (pe_lst (pa_cons pe_str (pa_cons pe_str (pa_cons pe_str (pa_cons pe_str (pa_cons pe_str (pa_cons pe_str (pa_cons pe_str pa_nil)))))))))
  (pss_cons (ps_par (i := 3) (j := 4) (by rfl) sc_l_programs.nd rfl rfl (by decide) rfl rfl (pa_cons (pe_lst pa_nil) (pa_cons (pe_lst (pa_cons (pe_tup (pa_cons pe_str (pa_cons (pe_tup pa_nil) pa_nil))) pa_nil)) pa_nil)) (by rfl))
  (pss_cons (ps_while PassesOwn.never (pt_cmpR (op_ne0 hr.units0) (pv 4) (pe_lst pa_nil) (nomark _))
  (pss_cons (ps_asg (pe_bm0 PySem.F.plainAttrs_list PySem.F.slot_list_pop PySem.F.type_list_pop mt_pop (pv 4)) (pg_tup (n := 2) rfl (pgs_cons (pg_name (i := 5) sc_l_programs.nd rfl (by first | exact .inl rfl | exact .inr rfl)) (pgs_cons (pg_name (i := 6) sc_l_programs.nd rfl (by first | exact .inl rfl | exact .inr rfl)) pgs_nil))))
  (pss_cons (ps_if (pt_cmpR op_le (pe_op op_add (pe_callB call_len_str (by rfl) (T.f "len") PySem.boot_len (pa_cons (pv 5) pa_nil)) (pe_callB call_len_str (by rfl) (T.f "len") PySem.boot_len (pa_cons (pe_ix ix_list (pv 0) pe_int (fun _ _ => rfl)) pa_nil))) (pv 1) (nomark _)) (pss_one (ps_expr (pe_bm PySem.F.plainAttrs_list PySem.F.slot_list_append PySem.F.type_list_append mt_append (pv 3) (pa_cons (pe_tup (pa_cons (pe_op op_add (pe_callB call_len_str (by rfl) (T.f "len") PySem.boot_len (pa_cons (pv 5) pa_nil)) (pe_callB call_len_str (by rfl) (T.f "len") PySem.boot_len (pa_cons (pe_ix ix_list (pv 0) pe_int (fun _ _ => rfl)) pa_nil))) (pa_cons (pe_op op_add_str (pv 5) (pe_ix ix_list (pv 0) pe_int (fun _ _ => rfl))) (pa_cons (pv 6) pa_nil)))) pa_nil)))) pss_nil)
  (pss_one (ps_expr (pe_bm PySem.F.plainAttrs_list PySem.F.slot_list_extend PySem.F.type_list_extend mt_extend (pv 4) (pa_cons (pe_lc (own := [("_law_word_here", 7), ("_law_name", 8)]) rfl sc_l_programs.nd (pi_zip (by rfl) (T.f "zip") (pa_cons (pv 2) (pa_cons (pv 0) pa_nil))) (blkOk_by (N := N_l_programs) (sc := defScope s_l_programs) (by decide +kernel)) (fun _ _ _ _ _ => (pg_tupK (K := K) (n := 2) rfl (pgs_cons (pg_name (i := 7) sc_l_programs.nd rfl (by first | exact .inl rfl | exact .inr rfl)) (pgs_cons (pg_name (i := 8) sc_l_programs.nd rfl (by first | exact .inl rfl | exact .inr rfl)) pgs_nil)))) (fun _ _ _ _ _ => (pts_one (pt_cmpR op_le (pe_op op_add (pe_op op_add (pe_callB call_len_str (by rfl) (T.f "len") PySem.boot_len (pa_cons (pv 5) pa_nil)) (pe_callB call_len_str (by rfl) (T.f "len") PySem.boot_len (pa_cons (pv 8) pa_nil))) (pe_callB call_len_str (by rfl) (T.f "len") PySem.boot_len (pa_cons (pe_ix (ix_listK (K := K)) (pv 0) pe_int (fun _ _ => rfl)) pa_nil))) (pv 1) (nomark _)))) (fun _ _ _ _ _ => (pe_tup (pa_cons (pe_op op_add_str (pv 5) (pv 8)) (pa_cons (pe_op (op_catAK (K := K)) (pv 6) (pe_tup (pa_cons (pv 7) pa_nil))) pa_nil))))) pa_nil)))))))
  (pss_one (ps_ret (pe_callB (cr_sortedD hr.units) (by rfl) (T.f "sorted") bt_sorted (pa_cons (pv 3) pa_nil))))))), ?_⟩
    refine ⟨(show 7 ≤ sizeLine by decide), fun w0 nw0 => ?_⟩
    refine ⟨Nat.zero_le _, fun r0 nr0 => ?_⟩
    refine ⟨Nat.zero_le _, fun e0 ne0 => ?_⟩
    refine ⟨(show 2 ≤ sizeLine by decide), fun t0 nt0 => ?_⟩
    refine ⟨(show 1 ≤ sizeLine by decide), fun f0 nf0 => ⟨_, _, rfl, ?_⟩⟩
    have h7l : 7 < ns.length := by rw [hok.len]; decide
    obtain ⟨x7, hx7⟩ : ∃ x, ns[7]? = some x := ⟨_, List.getElem?_eq_getElem h7l⟩
    have hx7l : x7.length = lnOf ns endW := (lnOf_at hx7 (show words8[7]? = some endW by decide +kernel)).symm
    have hx78 := (hok.nm _ (List.mem_of_getElem? hx7)).2.2
    have hr0w : w0 ≠ r0 := ne_of_none upd_same nr0
    have hr0H : H r0 = none := (Same.new nw0).free nr0
    have s2 : Same H _ := (Same.new (o := .lst (words7.map V.str)) nw0).new' (o := .lst []) nr0
    have s4 := (s2.new' (o := .tup []) ne0).new' (o := .tup [V.str "", V.ref e0]) nt0
    have hf0H : H f0 = none := s4.free nf0
    have s5 := s4.new' (o := .lst [V.ref t0]) nf0
    have hw0f : w0 ≠ f0 := ne_of_none (Same.new nt0 _ _ (Same.new ne0 _ _ (Same.new nr0 _ _ upd_same))) nf0
    have hr0f : r0 ≠ f0 := ne_of_none (Same.new nt0 _ _ (Same.new ne0 _ _ upd_same)) nf0
    refine ⟨DSt ns m H l w0 r0 f0, ⟨_, none, none, [], [(t0, "", e0, [])], rfl, s5, ?_, ?_, upd_same, fun z h => (List.not_mem_nil h).elim, fun z h => ?_, DfsI.start _ _, rfl⟩, ?_⟩
    · exact Same.new nf0 _ _ (Same.new nt0 _ _ (Same.new ne0 _ _ (Same.new nr0 _ _ upd_same)))
    · exact Same.new nf0 _ _ (Same.new nt0 _ _ (Same.new ne0 _ _ upd_same))
    · rw [List.mem_singleton.mp h]
      exact ⟨Same.new nf0 _ _ upd_same, Same.new nf0 _ _ (Same.new nt0 _ _ upd_same), rfl⟩
    rintro mm σ H1 ⟨z5, z6, rp, fp, rfl, s1, hw1, hr1, hf1, hrp, hfp, dfs, rfl⟩
    obtain ⟨hlr, hlf⟩ := dfs.len hok.kraft hok.ln
    have h2m : 2 ^ m ≤ 2 ^ 20 := Nat.pow_le_pow_right (by decide) hm
    rw [List.length_map] at hlr hlf
    refine ⟨_, rfl, Nat.zero_le _, fun e ne => ⟨f0, e, _, rfl, rfl, SqL.of (Same.new ne _ _ hf1), upd_same, _, rfl, ?_⟩⟩
    have sE : Same H1 (upd H1 e (.lst [])) := Same.new ne
    have s1' := s1.trans sE
    have hw1' := sE _ _ hw1
    have hr1' := sE _ _ hr1
    have hf1' := sE _ _ hf1
    have hrp' := fun z h => (hrp z h).keep (TK.same sE)
    have hfp' := fun z h => (hfp z h).keep (TK.same sE)
    generalize upd H1 e (.lst []) = H2 at sE s1' hw1' hr1' hf1' hrp' hfp' ⊢
    rcases List.eq_nil_or_concat fp with rfl | ⟨fs, z, rfl⟩
    · refine iteF ?_
      refine ⟨_, rfl, r0, _, rp.map (rowD (lnOf ns)), rfl, SqL.of hr1', dp_rows rp hrp', ?_, ?_, fun d hd => ?_, fun ys p hperm np => ?_⟩
      · exact PySem.W.AllAlike.of fun b b' => by simp [rowD, PySem.W.alike, PySem.W.alikeAll, alike_strs]
      · exact PySem.W.Sortable.tuples fun b => ⟨_, _, rfl⟩
      · obtain ⟨z, _, rfl⟩ := List.mem_map.mp hd
        have := depth_texts z.2.2.2
        simp only [rowD, PyData.depth, PyData.depthAll]
        omega
      · obtain ⟨zs, hz1, rfl⟩ := perm_lift (fun q : PE4 => V.ref q.1) hperm rp rfl
        have sp := Same.new (o := .lst (zs.map fun q => V.ref q.1)) np
        refine k _ p (zs.map (·.2.2.2)) (s1'.trans sp) (s1'.free np) ⟨zs, rfl, upd_same, fun z hz => (hrp' z (hz1.mem_iff.mp hz)).keep (TK.same sp)⟩ (dfs.done.perm (hz1.map _))
    · rw [List.concat_eq_append] at *
      rw [show (List.map (fun z : PE4 => V.ref z.1) (fs ++ [z])).isEmpty = false by simp]
      refine iteT ⟨fun σ' H' => ∃ m', m' < dfsW (lnOf ns) m ((fs ++ [z]).map (·.2.2.2)) ∧ DSt ns m H l w0 r0 f0 m' σ' H', fun _ _ z => z, ?_⟩
      have hzf := hfp' z (by simp)
      have hzm := dfs.fm z.2.2.2 (by simp)
      rw [List.map_append, List.map_cons, List.map_nil] at dfs
      have hdl : ((fs ++ [z]).map fun z => V.ref z.1).dropLast = fs.map fun z => V.ref z.1 := by simp
      refine ⟨_, rfl, .inl ⟨rfl, _, SqL.of hf1'⟩, f0, _, V.ref z.1, rfl, rfl, hf1', by simp, ?_⟩
      rw [hdl]
      have k2 : TK H2 (upd H2 f0 (.lst (fs.map fun z => V.ref z.1))) := TK.put hf1'
      have s2 : Same H (upd H2 f0 (.lst (fs.map fun z => V.ref z.1))) := s1'.mut hf0H
      have hwA : upd H2 f0 (.lst (fs.map fun z => V.ref z.1)) w0 = some (.lst (words7.map V.str)) := (upd_ne hw0f).trans hw1'
      have hrA : upd H2 f0 (.lst (fs.map fun z => V.ref z.1)) r0 = some (.lst (rp.map fun z => V.ref z.1)) := (upd_ne hr0f).trans hr1'
      have hfA : upd H2 f0 (.lst (fs.map fun z => V.ref z.1)) f0 = some (.lst (fs.map fun z => V.ref z.1)) := upd_same
      have hrpA := fun y h => (hrp' y h).keep k2
      have hfpA := fun y h => (hfp' y (List.mem_append_left _ h)).keep k2
      have hzA := hzf.keep k2
      have hlA := s2 _ _ hl
      generalize upd H2 f0 (.lst (fs.map fun z => V.ref z.1)) = H3 at s2 hwA hrA hfA hrpA hfpA hzA hlA ⊢
      obtain ⟨zA, zT, zl⟩ := hzA
      have hpl : plen (lnOf ns) z.2.2.2 = z.2.1.length + x7.length := by
        rw [zl, hx7l]
        rfl
      have hzl : z.2.1.length ≤ 20 := by
        rcases hzm.2 with q | q
        · omega
        · rw [zl, q]
          exact Nat.zero_le _
      have hrl : rp.length ≤ 1048576 := by omega
      have hzn : z.2.2.2.length ≤ 20 := by
        rcases hzm.2 with q | q
        · have := plen_ge hok.ln hzm.1
          omega
        · rw [q]
          exact Nat.zero_le _
      refine ⟨z.1, _, rfl, SqT.of zA, rfl, _, _, rfl, _, _, rfl, rfl, ?_⟩
      refine ⟨_, rfl, z.2.1, rfl, size24 (by omega), _, rfl, l, _, _, _, rfl, rfl, SqL.of hlA, atI_nat (j := 7) (by rw [List.getElem?_map, hx7]; rfl), x7, rfl, size24 (by omega), _, _, rfl, rfl, _, rfl, _, _, rfl, rfl, _, rfl, ?_⟩
      refine ifs_to (fun σ H4 => ∃ rp' : List PE4, σ = [some (.ref l), some (.int (m : Nat)), some (.ref w0), some (.ref r0), some (.ref f0), some (.str z.2.1), some (.ref z.2.2.1), none, none] ∧ Same H H4 ∧ TK H3 H4 ∧ H4 w0 = some (.lst (words7.map V.str)) ∧ H4 r0 = some (.lst (rp'.map fun z => V.ref z.1)) ∧ H4 f0 = some (.lst (fs.map fun z => V.ref z.1)) ∧ (∀ z ∈ rp', RowF (lnOf ns) H4 z) ∧ rp'.map (·.2.2.2) = if plen (lnOf ns) z.2.2.2 ≤ m then rp.map (·.2.2.2) ++ [z.2.2.2] else rp.map (·.2.2.2)) ?_ ?_ ?_
      · rintro σ H4 ⟨rp', rfl, s4, k4, hw4, hr4, hf4, hrp4, hrpe⟩
        have hl4 := s4 _ _ hl
        have zA4 := k4 _ _ zA
        have zT4 := k4 _ _ zT
        have hw78 : words7.length = 7 := by decide +kernel
        refine ⟨_, rfl, .inl ⟨rfl, _, SqL.of hf4⟩, _, rfl, _, rfl, w0, l, _, _, rfl, SqL.of hw4, SqL.of hl4, fun D hD => ?_⟩
        refine lc_sm (walk_zip (K := K) (a := w0) (b := l) (xs := words7.map V.str) (ys := ns.map V.str) (n := 7) (by rw [List.length_map, List.length_map, hw78, hok.len]; rfl)) hD (fun i acc H' => ∃ ks : List PE4, acc = ks.map (fun z => V.ref z.1) ∧ (∀ y ∈ ks, FreF (lnOf ns) H' y ∧ y.1 ≠ D ∧ y.2.2.1 ≠ D) ∧ ks.map (·.2.2.2) = ((words7.take i).filter fun w => decide (plen (lnOf ns) (z.2.2.2 ++ [w]) ≤ m)).map fun w => z.2.2.2 ++ [w])
          ⟨[], rfl, fun y h => (List.not_mem_nil h).elim, rfl⟩ (fun H' s' => ⟨SqL.of (s' _ _ hw4), SqL.of (s' _ _ hl4)⟩) (fun i acc Ha Hb hk ⟨ks, e1, e2, e3⟩ => ⟨ks, e1, fun y hy => ⟨⟨hk _ _ (e2 y hy).2.1 (e2 y hy).1.1, hk _ _ (e2 y hy).2.2 (e2 y hy).1.2.1, (e2 y hy).1.2.2⟩, (e2 y hy).2⟩, e3⟩) (by decide) ?_ ?_
        · rintro i v acc H5 H6 R R0 hi s5 hacc hla ⟨ks, rfl, hks, hke⟩ ⟨W, x, y, rfl, nW, rfl, hx, hy⟩ hR hR0
          dsimp only at hx hy
          rw [List.getElem?_map] at hx hy
          obtain ⟨wd, hwd, rfl⟩ := Option.map_eq_some_iff.mp hx
          obtain ⟨nm, hnm, rfl⟩ := Option.map_eq_some_iff.mp hy
          refine ⟨W, _, rfl, SqT.of upd_same, rfl, _, _, rfl, _, _, rfl, rfl, rfl, ?_⟩
          have sW : Same H5 (upd H5 W (.tup [V.str wd, V.str nm])) := Same.new nW
          have s6 := s5.trans sW
          have hl6 := s6 _ _ hl4
          have zT6 := s6 _ _ zT4
          generalize upd H5 W (.tup [V.str wd, V.str nm]) = H6 at sW s6 hl6 zT6 ⊢
          have hw8 : words8[i]? = some wd := by
            rw [words8_cons, List.getElem?_append_left (by rw [hw78]; exact hi)]
            exact hwd
          have hln := lnOf_at hnm hw8
          have hnm8 := (hok.nm _ (List.mem_of_getElem? hnm)).2.2
          have hps : plen (lnOf ns) (z.2.2.2 ++ [wd]) = z.2.1.length + x7.length + nm.length := by rw [plen_snoc, hpl, hln]
          obtain ⟨hil, hie⟩ := List.getElem?_eq_some_iff.mp hwd
          have htk : words7.take (i + 1) = words7.take i ++ [wd] := by rw [List.take_succ_eq_append_getElem hil, hie]
          refine ⟨_, rfl, z.2.1, rfl, size24 (by omega), _, rfl, nm, rfl, size24 (by omega), _, _, rfl, rfl, _, rfl, l, _, _, _, rfl, rfl, SqL.of hl6, atI_nat (j := 7) (by rw [List.getElem?_map, hx7]; rfl), x7, rfl, size24 (by omega), _, _, rfl, rfl, _, rfl, _, _, rfl, rfl, _, rfl, ?_⟩
          by_cases hle : plen (lnOf ns) (z.2.2.2 ++ [wd]) ≤ m
          · rw [decide_eq_true (show ((z.2.1.length : Nat) : Int) + (nm.length : Int) + (x7.length : Int) ≤ (m : Int) by omega)]
            have fin : ∀ (H7 : Hp) (p : Addr), Same H6 H7 → H6 p = none → H7 p = some (.tup ((z.2.2.2 ++ [wd]).map V.str)) → 2 ≤ sizeLine ∧ ∀ t, H7 t = none → R (.ref t) (upd H7 t (.tup [V.str (z.2.1 ++ nm), V.ref p])) := by
              intro H7 p s7 hp6 hp
              refine ⟨by decide, fun t nt => ?_⟩
              have st := s7.new' (o := .tup [V.str (z.2.1 ++ nm), V.ref p]) nt
              have ht6 : H6 t = none := s7.free nt
              have hD6 : H6 D = some _ := sW _ _ hacc
              refine hR _ _ (sW.trans st) ⟨ks ++ [(t, z.2.1 ++ nm, p, z.2.2.2 ++ [wd])], by rw [List.map_append]; rfl, fun y hy => ?_, ?_⟩
              · rcases List.mem_append.mp hy with hy | hy
                · exact ⟨(hks y hy).1.keep (TK.same (sW.trans st)), (hks y hy).2⟩
                · rw [List.mem_singleton.mp hy]
                  refine ⟨⟨upd_same, ?_, ?_⟩, (ne_of_none hD6 ht6).symm, (ne_of_none hD6 hp6).symm⟩
                  · exact Same.new nt _ _ hp
                  · show (z.2.1 ++ nm).length = ((z.2.2.2 ++ [wd]).map (lnOf ns)).sum
                    rw [Str.length_append, List.map_append, List.sum_append, zl, List.map_cons, List.map_nil, List.sum_cons, List.sum_nil, hln]
                    rfl
              · rw [List.map_append, hke, htk, List.filter_append, List.map_append, List.filter_cons_of_pos (by rw [decide_eq_true hle]), List.filter_nil]
                rfl
            refine iteT ⟨_, rfl, _, rfl, _, _, rfl, rfl, size24 (by omega), _, rfl, _, rfl, (show 1 ≤ sizeLine by decide), fun q nq => ⟨z.2.2.1, q, _, _, rfl, rfl, SqT.of (Same.new nq _ _ zT6), SqT.of upd_same, size24 (by rw [List.length_map]; show _ + 1 ≤ _; omega), fun e0 => ?_, fun _ e1 => (by cases e1), fun _ _ p np => ?_⟩⟩
            · exact fin _ q (Same.new nq) nq (by rw [upd_same, List.map_append, e0]; rfl)
            · exact fin _ p ((Same.new nq).new' np) ((Same.new nq).free np) (by rw [upd_same, List.map_append]; rfl)
          · rw [decide_eq_false (show ¬ ((z.2.1.length : Nat) : Int) + (nm.length : Int) + (x7.length : Int) ≤ (m : Int) by omega)]
            refine iteF (hR0 _ sW ⟨ks, rfl, fun y hy => ⟨(hks y hy).1.keep (TK.same sW), (hks y hy).2⟩, ?_⟩)
            rw [hke, htk, List.filter_append, List.filter_cons_of_neg (by rw [decide_eq_false hle]; decide), List.filter_nil, List.append_nil]
        · rintro acc H5 s5 hacc hl5 ⟨ks, rfl, hks, hke⟩
          rw [List.length_map] at hl5
          have hf5 := s5 _ _ hf4
          rw [List.take_of_length_le (by rw [hw78]; exact Nat.le_refl _)] at hke
          have hke2 : ks.map (·.2.2.2) = kidsOf (lnOf ns) m z.2.2.2 := hke
          have hfsl : fs.length ≤ 1048576 := by
            rw [List.length_append] at hlf
            omega
          have k5 := (TK.same s5).trans (TK.put (ys := (fs.map fun z => V.ref z.1) ++ ks.map fun z => V.ref z.1) hf5)
          refine ⟨f0, D, _, _, rfl, rfl, hf5, hacc, size24 (by rw [List.length_map, List.length_map]; omega), dfsW (lnOf ns) m ((fs ++ ks).map (·.2.2.2)), ?_, _, _, rp', fs ++ ks, rfl, (s4.trans s5).mut hf0H, (upd_ne hw0f).trans (s5 _ _ hw4), (upd_ne hr0f).trans (s5 _ _ hr4), upd_same.trans (by rw [List.map_append]), fun y hy => (hrp4 y hy).keep k5, fun y hy => ?_, ?_, rfl⟩
          · rw [List.map_append, hke2, List.map_append]
            exact dfs_less hok.ln dfs
          · rcases List.mem_append.mp hy with hy | hy
            · exact ((hfpA y hy).keep k4).keep k5
            · exact (hks y hy).1.keep (TK.put hf5)
          · rw [hrpe, List.map_append, hke2]
            exact dfs.step
      · intro hb N hN
        have hle : plen (lnOf ns) z.2.2.2 ≤ m := by
          have := of_decide_eq_true hb
          omega
        refine ⟨_, rfl, .inl ⟨rfl, _, SqL.of hrA⟩, ?_⟩
        refine ⟨_, rfl, z.2.1, rfl, size24 (by omega), _, rfl, l, _, _, _, rfl, rfl, SqL.of hlA, atI_nat (j := 7) (by rw [List.getElem?_map, hx7]; rfl), x7, rfl, size24 (by omega), _, _, rfl, rfl, ?_⟩
        refine ⟨_, rfl, _, rfl, l, _, _, _, rfl, rfl, SqL.of hlA, atI_nat (j := 7) (by rw [List.getElem?_map, hx7]; rfl), _, _, rfl, rfl, size24 (by omega), _, rfl, (show 3 ≤ sizeLine by decide), fun q nq => ?_⟩
        have sq : Same H3 _ := Same.new (o := .tup [.int ((z.2.1.length : Int) + (x7.length : Int)), .str (z.2.1 ++ x7), .ref z.2.2.1]) nq
        refine ⟨r0, _, _, rfl, rfl, sq _ _ hrA, size24' (by rw [List.length_map]; omega), hN _ _ ?_⟩
        have kq := (TK.same sq).trans (TK.put (ys := (rp.map fun z => V.ref z.1) ++ [V.ref q]) (sq _ _ hrA))
        refine ⟨rp ++ [(q, z.2.1 ++ x7, z.2.2.1, z.2.2.2)], rfl, (s2.new' nq).mut hr0H, kq, (upd_ne hr0w).trans (sq _ _ hwA), upd_same.trans (by rw [List.map_append]; rfl), (upd_ne (Ne.symm hr0f)).trans (sq _ _ hfA), fun y hy => ?_, ?_⟩
        · rcases List.mem_append.mp hy with hy | hy
          · exact (hrpA y hy).keep kq
          · rw [List.mem_singleton.mp hy]
            refine ⟨?_, kq _ _ zT⟩
            refine (upd_ne (ne_of_none hrA nq).symm).trans (upd_same.trans ?_)
            show _ = some (HO.tup [V.int ((plen (lnOf ns) z.2.2.2 : Nat) : Int), _, _])
            rw [hpl]
            rfl
        · rw [if_pos hle, List.map_append]
          rfl
      · intro hb
        have hle : ¬ plen (lnOf ns) z.2.2.2 ≤ m := by
          have := of_decide_eq_false hb
          omega
        exact ⟨rp, rfl, s2, TK.same (Same.refl _), hwA, hrA, hfA, hrpA, by rw [if_neg hle]⟩
end
end K53
end TK53AO

section TK53AP
set_option maxHeartbeats 4000000

namespace K53
open PySem PySem.Spec PyProof.Rows L2 SX
theorem tif_to {b : Bool} {ta tb : TE} {σ : L2.St} {H : Hp} {Q : VK} (R : V → Hp → Prop) (hQ : ∀ x H, R x H → Q x H) (h1 : b = true → ∀ N : VK, (∀ x H, R x H → N x H) → ta σ H N) (h2 : b = false → ∀ N : VK, (∀ x H, R x H → N x H) → tb σ H N) : if b = true then ta σ H Q else tb σ H Q := by
  cases b with
  | true => exact h1 rfl Q hQ
  | false => exact h2 rfl Q hQ
theorem inV_str (y : Str) (F : List Str) : inV (V.str y) (F.map V.str) = decide (y ∈ F) := by
  unfold inV
  rw [List.any_map]
  by_cases h : y ∈ F
  · rw [decide_eq_true h]
    exact List.any_eq_true.mpr ⟨y, h, beq_self_eq_true y⟩
  · rw [decide_eq_false h]
    refine List.any_eq_false.mpr fun z hz e => h ?_
    have : z = y := eq_of_beq e
    exact this ▸ hz
theorem flat_strs (F : List Str) : (F.map V.str).all flatV = true := by
  rw [List.all_map]
  exact List.all_eq_true.mpr fun _ _ => rfl
section
variable {P : Program} {w : World} {K : PySem.W.Frag} {mg : Str → Option Value} {base : Heap} [PM P]
abbrev N_l_alike : List Str := ["_law_choir_here", "_law_names_here", "_law_turned", "_law_found", "_law_name", "_law_some", "_law_other", "_law_sign"]
theorem sc_l_alike : FnScope N_l_alike ["_law_choir_here", "_law_names_here"] (defScope s_l_alike) := ⟨rfl, rfl, rfl, by decide +kernel, rfl, by decide +kernel, by decide +kernel⟩
def sp_l_alike (K : PySem.W.Frag) : Sp := fun vs H Q _ => ∃ (c cl l : Addr) (n : Nat) (ns : List Str), vs = [.ref c, .ref l] ∧ CH H c cl n ∧ n ≤ 900000 ∧ H l = some (.lst (ns.map V.str)) ∧ l ≠ c ∧ TgOk ns ∧ AllApart ns ∧
  ∀ H' f ms, SameX c H H' → H f = none → CH H' c cl (n + 9) → H' f = some (.lst (ms.map V.str)) → TgOk ms → AllApart ms → lnOf ms = lnOf ns → Q (.ref f) H'
theorem ok_l_alike (T : TX w K mg) : FnX P w K mg base 3 ("_law_alike", none) ["_law_choir_here", "_law_names_here"] [] (sp_l_alike K) := by
  refine FnX.of T.qd_l_alike rfl sc_l_alike (fun vs H Q E h => ?_) (fun _ _ _ _ _ _ us hl => match us, hl with | [_, _], _ => rfl) (fun cdv A outer s H vs Q E hr h => ?_)
  · obtain ⟨c, cl, l, n, ns, rfl, _⟩ := h
    rfl
  · obtain ⟨c, cl, l, n, ns, rfl, hch, hn, hl, hlc, hok, hap, k⟩ := h
    refine ⟨_, (pss_cons (ps_set (i := 2) sc_l_alike.nd rfl (by first | exact .inl rfl | exact .inr rfl) (pe_ifExp (pt_cmpR op_eq (pe_fx (ok_l_chant (P := P) T) (hr.mono (by decide)) (by rfl) (T.g "_law_chant") (pa_cons (pv 0) (pa_cons pe_int pa_nil))) pe_int (nomark _)) (pe_lc (own := [("_law_name", 4)]) rfl sc_l_alike.nd (pi_list (pv 1)) (blkOk_by (N := N_l_alike) (sc := defScope s_l_alike) (by decide +kernel)) (fun _ _ _ _ _ => (pg_name (i := 4) sc_l_alike.nd rfl (by first | exact .inl rfl | exact .inr rfl))) (fun _ _ _ _ _ => pts_nil) (fun _ _ _ _ _ => (pe_joinK (K := K) pe_str (pe_lc (own := [("_law_sign", 7)]) rfl sc_l_alike.nd (pi_str (pv 4)) (blkOk_by (N := N_l_alike) (sc := ({ kind := ScopeKind.function, names := [(Str.ofString ".0", NameKind.local), (Str.ofString "_law_name", NameKind.local)], isGenerator := false, isCoroutine := false } : Scope)) (by decide +kernel)) (fun _ _ _ _ _ => (pg_name (i := 7) sc_l_alike.nd rfl (by first | exact .inl rfl | exact .inr rfl))) (fun _ _ _ _ _ => pts_nil) (fun _ _ _ _ _ => (pe_ifExp (pt_cmpR op_eq (pv 7) pe_str (nomark _)) pe_str pe_str)))))) (pe_callTy call_list_of (by rfl) (T.f "list") bt_list (pa_cons (pv 1) pa_nil))))
  (pss_cons (ps_set (i := 3) sc_l_alike.nd rfl (by first | exact .inl rfl | exact .inr rfl) (pe_lst pa_nil))
  (pss_cons (ps_for PassesOwn.never rfl (pi_list (pv 2)) (pg_name (i := 4) sc_l_alike.nd rfl (by first | exact .inl rfl | exact .inr rfl))
  (pss_cons (ps_setLc (i := 5) (own := [("_law_other", 6)]) rfl sc_l_alike.nd rfl rfl (sw_true rfl rfl rfl (by decide +kernel)) (pi_list (pv 2)) (blkOk_by (N := N_l_alike) (sc := defScope s_l_alike) (by decide +kernel)) (fun _ _ _ _ _ => (pg_name (i := 6) sc_l_alike.nd rfl (by first | exact .inl rfl | exact .inr rfl))) (fun _ _ _ _ _ => (pts_one (PW.pt (pw_and (pt_cmpR op_eq (pe_callB call_len_str (by rfl) (T.f "len") PySem.boot_len (pa_cons (pv 6) pa_nil)) (pe_callB call_len_str (by rfl) (T.f "len") PySem.boot_len (pa_cons (pv 4) pa_nil)) (nomark _)) (pw_and1 (pt_cmpR (op_notIn_seqK (K := K)) (pv 6) (pv 3) rfl)))))) (fun _ _ _ _ _ => (pv 6)))
  (pss_one (ps_expr (pe_bm PySem.F.plainAttrs_list PySem.F.slot_list_append PySem.F.type_list_append mt_append (pv 3) (pa_cons (pe_fx (ok_l_one (P := P) T) (hr.mono (by decide)) (by rfl) (T.g "_law_one") (pa_cons (pv 0) (pa_cons (pv 5) pa_nil))) pa_nil))))))
  (pss_one (ps_ret (pv 3)))))), ?_⟩
    refine ⟨_, rfl, c, cl, 2, n, rfl, hch, by decide, by decide, by omega, fun H1 r1 s1 hch1 hr1 => ?_⟩
    refine ⟨rfl, _, rfl, ?_⟩
    have cl1 := hch.ref
    have hl1 := s1 _ _ hlc hl
    refine tif_to (fun x H' => ∃ t T, x = .ref t ∧ SameX c H1 H' ∧ H1 t = none ∧ H' t = some (.lst (T.map V.str)) ∧ CH H' c cl (n + 1) ∧ TgOk T ∧ AllApart T ∧ T.map (·.length) = ns.map (·.length)) ?_ ?_ ?_
    · rintro x H2 ⟨t, T, rfl, s2, nt, ht, hch2, hT, hTa, hTl⟩
      have htc : t ≠ c := (hch1.new nt).1.symm
      refine ⟨Nat.zero_le _, fun f0 nf0 => ?_⟩
      have cf := hch2.new nf0
      have tf : t ≠ f0 := ne_of_none ht nf0
      have sx2 := s1.trans s2
      have hf0 : H f0 = none := hch2.free sx2 nf0
      have sxf : SameX c H (upd H2 f0 (.lst [])) := sx2.trans (Same.new nf0).x
      refine ⟨_, rfl, t, rfl, ⟨_, SqL.of (Same.new nf0 _ _ ht)⟩, for_list (K := K) (xs := T.map V.str) (fun i σ H' => ∃ (z4 z5 : Option V) (F : List Str), σ = [some (.ref c), some (.ref l), some (.ref t), some (.ref f0), z4, z5, none, none] ∧ SameX c H H' ∧ H' t = some (.lst (T.map V.str)) ∧ H' f0 = some (.lst (F.map V.str)) ∧ CH H' c cl (n + 1 + i) ∧ F.map (·.length) = (T.take i).map (·.length) ∧ F.Nodup ∧ ∀ y ∈ F, y ∈ T)
        ⟨_, _, [], rfl, sxf, Same.new nf0 _ _ ht, upd_same, hch2.same (Same.new nf0), rfl, List.nodup_nil, fun y h => (List.not_mem_nil h).elim⟩ (fun i σ H' _ ⟨z4, z5, F, _, _, e, _⟩ => SqL.of e) ?_ ?_⟩
      · rintro i x σ H3 hx ⟨z4, z5, F, rfl, s3, ht3, hf3, hch3, hFl, hFn, hFm⟩
        rw [List.getElem?_map] at hx
        obtain ⟨z, hz, rfl⟩ := Option.map_eq_some_iff.mp hx
        have hzm := hT.nm z (List.mem_of_getElem? hz)
        obtain ⟨hil, hie⟩ := List.getElem?_eq_some_iff.mp hz
        refine ⟨_, rfl, t, rfl, ⟨_, SqL.of ht3⟩, fun D hD => ?_⟩
        refine lc_sm (walk_list (K := K) (a := t) (xs := T.map V.str)) hD (fun j acc _ => acc = ((T.take j).filter fun y => decide (y.length = z.length) && decide (y ∉ F)).map V.str) rfl (fun _ s => SqL.of (s _ _ ht3)) (fun _ _ _ _ _ h => h) (by rw [List.length_map, hT.len]; decide) ?_ ?_
        · rintro j v acc H4 H5 R R0 hj s4 hacc hla rfl ⟨rfl, hv⟩ hR hR0
          rw [List.getElem?_map] at hv
          obtain ⟨y, hy, rfl⟩ := Option.map_eq_some_iff.mp hv
          have hym := hT.nm y (List.mem_of_getElem? hy)
          obtain ⟨hjl, hje⟩ := List.getElem?_eq_some_iff.mp hy
          have htk : ((T.take (j + 1)).filter fun y => decide (y.length = z.length) && decide (y ∉ F)).map V.str = ((T.take j).filter fun y => decide (y.length = z.length) && decide (y ∉ F)).map V.str ++ (if (decide (y.length = z.length) && decide (y ∉ F)) = true then [V.str y] else []) := by
            rw [List.take_succ_eq_append_getElem hjl, hje, List.filter_append, List.map_append]
            congr 1
            rw [List.filter_cons]
            by_cases hc : (decide (y.length = z.length) && decide (y ∉ F)) = true
            · rw [if_pos hc, if_pos hc]; rfl
            · rw [if_neg hc, if_neg hc]; rfl
          have hy8 := hym.2.2
          have hz8 := hzm.2.2
          refine ⟨rfl, _, rfl, y, rfl, size24 (by omega), _, rfl, z, rfl, size24 (by omega), rfl, _, rfl, ?_⟩
          by_cases hlen : y.length = z.length
          · rw [decide_eq_true (show V.int ((y.length : Nat) : Int) = V.int ((z.length : Nat) : Int) by rw [hlen])]
            refine iteT ⟨_, rfl, _, rfl, f0, _, rfl, .inl (SqL.of (s4 _ _ hf3)), rfl, flat_strs F, _, rfl, ?_⟩
            rw [if_pos rfl, inV_str]
            by_cases hin : y ∈ F
            · rw [decide_eq_true hin]
              refine iteF (hR0 _ (Same.refl _) ?_)
              rw [htk, if_neg (by rw [decide_eq_false (show ¬ y ∉ F from fun q => q hin)]; simp), List.append_nil]
            · rw [decide_eq_false hin]
              refine iteT ⟨_, rfl, hR _ _ (Same.refl _) ?_⟩
              rw [htk, if_pos (by rw [decide_eq_true hlen, decide_eq_true hin]; rfl)]
          · rw [decide_eq_false (show ¬ V.int ((y.length : Nat) : Int) = V.int ((z.length : Nat) : Int) from fun q => hlen (by injection q with q; omega))]
            refine iteF ?_
            refine iteF (hR0 _ (Same.refl _) ?_)
            rw [htk, if_neg (by rw [decide_eq_false hlen]; simp), List.append_nil]
        · rintro acc H4 s4 hacc _ rfl
          rw [List.length_map, List.take_length] at hacc
          have sx4 : SameX c H H4 := s3.trans s4.x
          have hch4 := hch3.same s4
          have htc4 := s4 _ _ ht3
          have hf4 := s4 _ _ hf3
          have hDc := (hch3.new hD).1.symm
          have hfc := (hch.new hf0).1.symm
          obtain ⟨y0, hy0, hy1, hy2⟩ := pick_ex hTa.nodup hz hFl
          have hF8 : F.length ≤ 8 := by
            have := congrArg List.length hFl
            rw [List.length_map, List.length_map] at this
            rw [this]
            exact Nat.le_trans (List.length_take_le _ _) (by have := hT.len; omega)
          refine ⟨_, rfl, .inl ⟨rfl, _, SqL.of hf4⟩, _, rfl, _, rfl, c, cl, D, _, n + 1 + i, rfl, hch4, SqL.of hacc, hDc, ?_, ?_, ?_, fun H5 v s5 hch5 hv => ?_⟩
          · intro q
            have : y0 ∈ T.filter fun y => decide (y.length = z.length) && decide (y ∉ F) := List.mem_filter.mpr ⟨hy0, by rw [decide_eq_true hy1, decide_eq_true hy2]; rfl⟩
            rw [List.map_eq_nil_iff.mp q] at this
            exact (List.not_mem_nil this).elim
          · rw [List.length_map]
            exact Nat.le_trans (List.length_filter_le _ _) (by rw [hT.len]; decide)
          · have := hT.len
            omega
          · obtain ⟨y, hy, rfl⟩ := List.mem_map.mp hv
            obtain ⟨hyT, hyc⟩ := List.mem_filter.mp hy
            rw [Bool.and_eq_true] at hyc
            have hyl := of_decide_eq_true hyc.1
            have hyF := of_decide_eq_true hyc.2
            have hf5 := s5 _ _ hfc hf4
            refine ⟨f0, _, _, rfl, rfl, hf5, size24' (by rw [List.length_map]; omega), _, _, F ++ [y], rfl, ?_, (upd_ne tf).trans (s5 _ _ htc htc4), upd_same.trans (by rw [List.map_append]; rfl), hch5.keep fun b o hb e => ?_, ?_, ?_, fun u hu => ?_⟩
            · exact fun b o hb e => (upd_ne (ne_of_none e hf0)).trans ((sx4.trans s5) b o hb e)
            · rcases hb with rfl | rfl
              · exact (upd_ne cf.1).trans e
              · exact (upd_ne cf.2).trans e
            · rw [List.map_append, hFl, List.take_succ_eq_append_getElem hil, List.map_append, hie]
              show _ ++ [y.length] = _ ++ [z.length]
              rw [hyl]
            · rw [List.nodup_append]
              refine ⟨hFn, by simp, fun a ha b hb e => hyF ?_⟩
              rw [← List.mem_singleton.mp hb, ← e]
              exact ha
            · rcases List.mem_append.mp hu with hu | hu
              · exact hFm u hu
              · rw [List.mem_singleton.mp hu]
                exact hyT
      · rintro σ H3 ⟨z4, z5, F, rfl, s3, ht3, hf3, hch3, hFl, hFn, hFm⟩
        rw [List.length_map] at hch3 hFl
        rw [List.take_length] at hFl
        obtain ⟨g1, g2⟩ := dealt_ok hT hTa hFl hFn hFm
        exact ⟨_, rfl, k H3 f0 F s3 hf0 (hch3.mono (by rw [hT.len]; omega)) hf3 g1 g2 (lnOf_eq (hFl.trans hTl))⟩
    · intro hb N hN
      refine ⟨_, rfl, l, rfl, ⟨_, SqL.of hl1⟩, fun D hD => ?_⟩
      refine lc_sm (walk_list (K := K) (a := l) (xs := ns.map V.str)) hD (fun i acc _ => acc = ((ns.take i).map flipS).map V.str) rfl (fun _ s => SqL.of (s _ _ hl1)) (fun _ _ _ _ _ h => h) (by rw [List.length_map, hok.len]; decide) ?_ ?_
      · rintro i x acc H2 H3 R R0 hi s2 hacc hla rfl ⟨rfl, hx⟩ hR hR0
        rw [List.getElem?_map] at hx
        obtain ⟨z, hz, rfl⟩ := Option.map_eq_some_iff.mp hx
        have hzm := hok.nm z (List.mem_of_getElem? hz)
        obtain ⟨hil, hie⟩ := List.getElem?_eq_some_iff.mp hz
        refine ⟨rfl, tY ⟨⟨_, rfl⟩, _, rfl, z, rfl, fun D2 hD2 => ?_⟩⟩
        refine lc_sm (walk_str (z := z)) hD2 (fun j acc _ => acc = ((z.cps.toList.take j).map fun d => S [flipC d]).map V.str) rfl (fun _ _ => trivial) (fun _ _ _ _ _ h => h) (Nat.le_trans hzm.2.2 (by decide)) ?_ ?_
        · rintro j y acc H4 H5 R1 R2 hj s4 hacc4 hla4 rfl ⟨rfl, d, hd, rfl⟩ hR1 hR2
          have hd' : z.cps.toList[j]? = some d := by rw [Array.getElem?_toList]; exact hd
          obtain ⟨hjl, hje⟩ := List.getElem?_eq_some_iff.mp hd'
          have hs : Sign d := hzm.1 d (List.mem_of_getElem? hd')
          have htk : ((z.cps.toList.take (j + 1)).map fun d => S [flipC d]).map V.str = ((z.cps.toList.take j).map fun d => S [flipC d]).map V.str ++ [V.str (S [flipC d])] := by
            rw [List.take_succ_eq_append_getElem hjl, hje, List.map_append, List.map_append]
            rfl
          refine ⟨rfl, tY ⟨_, rfl, rfl, _, rfl, ?_⟩⟩
          rcases hs with rfl | rfl
          · rw [show decide (V.str (⟨#[48]⟩ : Str) = V.str (Str.ofString "0")) = true by decide +kernel]
            refine iteT (hR1 _ _ (Same.refl _) ?_)
            rw [htk]
            rfl
          · rw [show decide (V.str (⟨#[49]⟩ : Str) = V.str (Str.ofString "0")) = false by decide +kernel]
            refine iteF (hR1 _ _ (Same.refl _) ?_)
            rw [htk]
            rfl
        · rintro acc H4 s4 hacc4 _ rfl
          have htl : z.cps.toList.take z.cps.size = z.cps.toList := List.take_of_length_le (by rw [Array.length_toList]; exact Nat.le_refl _)
          rw [htl] at hacc4
          refine ⟨_, D2, _, rfl, rfl, .inl (SqL.of hacc4), ?_, ?_⟩
          · rw [List.length_map, len_toList, show (Str.ofString "").length = 0 by decide +kernel, Nat.mul_zero, List.map_map]
            have : ((z.cps.toList.map ((·.length) ∘ fun d => S [flipC d]))).sum = z.cps.toList.length := by
              rw [← one_sum]
              rfl
            rw [this, len_toList]
            have := hzm.2.2
            omega
          · have e : Txt.join (Str.ofString "") (z.cps.toList.map fun d => S [flipC d]) = flipS z := join_flip z
            rw [e]
            refine hR _ _ s4 ?_
            rw [List.take_succ_eq_append_getElem hil, hie, List.map_append, List.map_append]
            rfl
      · rintro acc H2 s2 hacc _ rfl
        rw [List.length_map, List.take_length] at hacc
        obtain ⟨g1, g2, g3⟩ := flip_ok hok hap
        exact hN _ _ ⟨D, _, rfl, s2.x, hD, hacc, hch1.same s2, g1, g2, g3⟩
    · intro hb N hN
      refine ⟨_, rfl, l, _, rfl, .inl (SqL.of hl1), fun p np => hN _ _ ⟨p, ns, rfl, (Same.new np).x, np, upd_same, hch1.same (Same.new np), hok, hap, rfl⟩⟩
end
end K53
end TK53AP

section TK53AQ
set_option maxHeartbeats 4000000

namespace K53
open PySem PySem.Spec PyProof.Rows L2 SX
theorem bits_of {e : Nat} (h8 : 8 ≤ e) (h11 : e ≤ 11) : ((Builtin.Int.intBits ((2 ^ e : Nat) : Int) : Nat) : Int) - 1 = (e : Int) := by
  have : e = 8 ∨ e = 9 ∨ e = 10 ∨ e = 11 := by omega
  rcases this with rfl | rfl | rfl | rfl <;> decide +kernel
theorem join_items (its : List Itm) : Txt.join (Str.ofString " ") ((its.map Itm.l).map S) = ctext its := by
  have e : (Str.ofString " ") = S [32] := by decide +kernel
  rw [e]
  exact join_S _ _
theorem sum_le_mul {α : Type} (f : α → Nat) (b : Nat) : ∀ l : List α, (∀ x ∈ l, f x ≤ b) → (l.map f).sum ≤ l.length * b
  | [], _ => Nat.zero_le _
  | x :: l, h => by
    have h1 := h x List.mem_cons_self
    have h2 := sum_le_mul f b l fun y hy => h y (List.mem_cons_of_mem _ hy)
    simp only [List.map_cons, List.sum_cons, List.length_cons, Nat.add_mul, Nat.one_mul]
    omega
theorem RowsAt.x {H H' : Hp} {c cl ra : Addr} {n : Nat} {ln : Str → Nat} {r : List (List Str)} (h : RowsAt H ra ln r) (hc : CH H c cl n) (s : SameX c H H') : RowsAt H' ra ln r := by
  obtain ⟨ps, h1, h2, h3⟩ := h
  have key : ∀ (b : Addr) (xs : List V), H b = some (.tup xs) → H' b = some (.tup xs) := fun b xs e => s b _ (fun q => by
    obtain ⟨⟨ys, e2⟩, _⟩ := hc.ref
    rw [q, e2] at e
    cases e) e
  exact ⟨ps, h1, s _ _ (RowsAt.ne hc ⟨ps, h1, h2, h3⟩) h2, fun z hz => ⟨key _ _ (h3 z hz).1, key _ _ (h3 z hz).2⟩⟩
theorem RowsAt.len {H : Hp} {ra : Addr} {ln : Str → Nat} {r : List (List Str)} (h : RowsAt H ra ln r) : ∃ vs : List V, H ra = some (.lst vs) ∧ vs.length = r.length := by
  obtain ⟨ps, h1, h2, _⟩ := h
  exact ⟨_, h2, by rw [List.length_map, ← h1, List.length_map]⟩
theorem PzAt.x {K : PySem.W.Frag} {H H' : Hp} {c cl pz : Addr} {n : Nat} {its : List Itm} (h : PzAt K H pz its) (hc : CH H c cl n) (s : SameX c H H') : PzAt K H' pz its := by
  obtain ⟨dx, t, h1, h2⟩ := h
  obtain ⟨⟨ys, e⟩, _⟩ := hc.ref
  exact ⟨dx, t, s _ _ (fun q => by rw [q, e] at h1; cases h1) h1, s _ _ (fun q => by rw [q, e] at h2; cases h2) h2⟩
theorem FAt.x {K : PySem.W.Frag} {H H' : Hp} {c cl : Addr} {m n t : Nat} {v : V} {q : List Str} (h : FAt K H v q n t) (hc : CH H c cl m) (s : SameX c H H') : FAt K H' v q n t := by
  obtain ⟨x, dx, b, tp, a, h0, h1, h2⟩ := h
  obtain ⟨⟨ys, e⟩, _⟩ := hc.ref
  exact ⟨x, dx, b, tp, a, h0, s _ _ (fun q => by rw [q, e] at h1; cases h1) h1, s _ _ (fun q => by rw [q, e] at h2; cases h2) h2⟩
theorem NAt.x {K : PySem.W.Frag} {H H' : Hp} {c cl : Addr} {m : Nat} {v : V} (h : NAt K H v) (hc : CH H c cl m) (s : SameX c H H') : NAt K H' v := by
  obtain ⟨x, dx, fs, h0, h1⟩ := h
  obtain ⟨⟨ys, e⟩, _⟩ := hc.ref
  exact ⟨x, dx, fs, h0, s _ _ (fun q => by rw [q, e] at h1; cases h1) h1⟩
/-- what isinstance says of the paper -/
def IsF (K : PySem.W.Frag) (H : Hp) (v : V) (b : Bool) : Prop := ∃ t, TyX K H v t ∧ PySem.W.kitOne K t (.ref (He.ga K "Found")) = some b
theorem FAt.isF {w : World} {K : PySem.W.Frag} {mg : Str → Option Value} (T : TX w K mg) {H : Hp} {v : V} {q : List Str} {n t : Nat} (h : FAt K H v q n t) : IsF K H v true := by
  obtain ⟨x, dx, b, tp, a, rfl, h1, h2⟩ := h
  exact ⟨_, T.ins "Found" (by decide +kernel) h1, T.kit "Found" (by decide +kernel)⟩
theorem NAt.isF {w : World} {K : PySem.W.Frag} {mg : Str → Option Value} (T : TX w K mg) {H : Hp} {v : V} (h : NAt K H v) : IsF K H v false := by
  obtain ⟨x, dx, fs, rfl, h1⟩ := h
  exact ⟨_, T.ins "NotYet" (by decide +kernel) h1, T.kitN⟩
/-- both found, with the least due, or both not yet -/
def Both (K : PySem.W.Frag) (H : Hp) (ln : Str → Nat) (F : List Str → Nat → Bool) (e : Nat) (r : List (List Str)) (v1 v2 : V) (b : Bool) (D : Nat) : Prop :=
  (b = true → ∃ q1 n1 t1 q2 n2 t2, FAt K H v1 q1 n1 t1 ∧ FAt K H v2 q2 n2 t2 ∧ n1 * 2 ^ plen ln q1 = D ∧ n2 * 2 ^ plen ln q2 = D ∧ 1 ≤ D ∧ D ≤ 2 ^ e ∧ (dueSum ln (D - 1) r < t1 ∧ t1 ≤ dueSum ln D r) ∧ (dueSum ln (D - 1) r < t2 ∧ t2 ≤ dueSum ln D r) ∧ (IsProg q1 ∧ q1.length ≤ 1000 ∧ n1 < 2 ^ 40 ∧ plen ln q1 ≤ 1000) ∧ (IsProg q2 ∧ q2.length ≤ 1000 ∧ n2 < 2 ^ 40 ∧ plen ln q2 ≤ 1000)) ∧
  (b = false → NAt K H v1 ∧ NAt K H v2 ∧ D = 2 ^ e + 1) ∧ ∀ p m, IsProg p → 1 ≤ m → F p m = true → D ≤ m * 2 ^ plen ln p
theorem Both.x {K : PySem.W.Frag} {H H' : Hp} {ln : Str → Nat} {F : List Str → Nat → Bool} {e : Nat} {r : List (List Str)} {v1 v2 : V} {b : Bool} {D : Nat} {c cl : Addr} {m : Nat} (h : Both K H ln F e r v1 v2 b D) (hc : CH H c cl m) (s : SameX c H H') : Both K H' ln F e r v1 v2 b D :=
  ⟨fun q => by
    obtain ⟨q1, n1, t1, q2, n2, t2, f1, f2, k⟩ := h.1 q
    exact ⟨q1, n1, t1, q2, n2, t2, f1.x hc s, f2.x hc s, k⟩, fun q => ⟨(h.2.1 q).1.x hc s, (h.2.1 q).2.1.x hc s, (h.2.1 q).2.2⟩, h.2.2⟩
theorem Both.isF {w : World} {K : PySem.W.Frag} {mg : Str → Option Value} (T : TX w K mg) {H : Hp} {ln : Str → Nat} {F : List Str → Nat → Bool} {e : Nat} {r : List (List Str)} {v1 v2 : V} {b : Bool} {D : Nat} (h : Both K H ln F e r v1 v2 b D) : IsF K H v1 b ∧ IsF K H v2 b := by
  cases b with
  | true =>
    obtain ⟨q1, n1, t1, q2, n2, t2, f1, f2, _⟩ := h.1 rfl
    exact ⟨f1.isF T, f2.isF T⟩
  | false =>
    obtain ⟨f1, f2, _⟩ := h.2.1 rfl
    exact ⟨f1.isF T, f2.isF T⟩
theorem both_of {K : PySem.W.Frag} {H1 H2 : Hp} {ln : Str → Nat} {its : List Itm} {g : Int} {e : Nat} {r : List (List Str)} {v1 v2 : V} {c cl : Addr} {m : Nat} (o : LnOk ln) (hex : ∀ M, ∃ r, RowsTo ln M r) (hr : RowsTo ln e r) (hm : dueSum ln (2 ^ e) r ≤ 20000)
    (r1 : Res K H1 v1 ln its g (dueSum ln (2 ^ e) r)) (r2 : Res K H2 v2 ln its g (dueSum ln (2 ^ e) r)) (hc : CH H1 c cl m) (s : SameX c H1 H2) : ∃ b D, Both K H2 ln (fndF its g) e r v1 v2 b D := by
  rcases r1 with ⟨q1, n1, t1, f1, i1⟩ | ⟨f1, i1⟩
  · have l1 := i1.law hex hr
    have d1 := i1.bd o hm
    rcases r2 with ⟨q2, n2, t2, f2, i2⟩ | ⟨f2, i2⟩
    · have l2 := i2.law hex hr
      have d2 := i2.bd o hm
      have e1 := l1.2.2.2.2 q2 n2 d2.1 d2.2.1 d2.2.2.2.2.2
      have e2 := l2.2.2.2.2 q1 n1 d1.1 d1.2.1 d1.2.2.2.2.2
      have ee : n2 * 2 ^ plen ln q2 = n1 * 2 ^ plen ln q1 := Nat.le_antisymm e2 e1
      rw [ee] at l2
      exact ⟨true, n1 * 2 ^ plen ln q1, fun _ => ⟨q1, n1, t1, q2, n2, t2, f1.x hc s, f2, rfl, ee, l1.1, l1.2.1, ⟨l1.2.2.1, l1.2.2.2.1⟩, ⟨l2.2.2.1, l2.2.2.2.1⟩, ⟨d1.1, d1.2.2.2.2.1, d1.2.2.1, d1.2.2.2.1⟩, ⟨d2.1, d2.2.2.2.2.1, d2.2.2.1, d2.2.2.2.1⟩⟩, (fun q => (by cases q)), l1.2.2.2.2⟩
    · exfalso
      have := i2.law hr d1.1 d1.2.1 d1.2.2.2.2.2
      have := l1.2.1
      omega
  · rcases r2 with ⟨q2, n2, t2, f2, i2⟩ | ⟨f2, i2⟩
    · exfalso
      have l2 := i2.law hex hr
      have d2 := i2.bd o hm
      have := i1.law hr d2.1 d2.2.1 d2.2.2.2.2.2
      have := l2.2.1
      omega
    · exact ⟨false, 2 ^ e + 1, (fun q => (by cases q)), fun _ => ⟨f1.x hc s, f2, rfl⟩, fun p m hp hm hf => i1.law hr hp hm hf⟩
section
variable {P : Program} {w : World} {K : PySem.W.Frag} {mg : Str → Option Value} {base : Heap} [PM P]
abbrev N_law : List Str := ["_law_script", "_law_choir_here", "_law_turn", "_law_names_here", "_law_given", "_law_due_here", "_law_rows", "_law_items_here", "_law_puzzle", "_law_others", "_law_all_ticks", "_law_one_here", "_law_other", "_law_its", "_law_least", "_law_most", "_law_place", "_law_longer", "_law_later"]
theorem sc_law : FnScope N_law ["_law_script"] (defScope s_law) := ⟨rfl, rfl, rfl, by decide +kernel, rfl, by decide +kernel, by decide +kernel⟩
def sp_law (K : PySem.W.Frag) : Sp := fun vs H Q _ => ∃ (a : Addr) (ns : List Int), vs = [.ref a] ∧ SqL K H a (ns.map V.int) ∧ ∀ H', Q (.bl true) H'
theorem fnOk_of {d : He.DefD} {N ps : List Str} {k : Nat} {sp : Sp} {fd : FuncData} (F : FunD K d.name d.qual d.params d.body d.scope (d.dvs K) (d.kws K) (He.fAd K d.at_) fd) (hd : d.dfl = []) (S : FnScope N ps d.scope) (len : ∀ vs H Q E, sp vs H Q E → vs.length = ps.length)
    (hbody : ∀ (cdv : Value) (A : Around) (outer : List Env) (s : Shared) (H : Hp) (vs : List V) (Q : VK) (E : XK), Room k (A.deeper (envOfC d.qual d.scope s.heap.objs.size (He.fAd K d.at_) cdv)) → sp vs H Q E →
      ∃ t, PSs (cxOf CX0 P w K mg base N d.qual d.scope (He.fAd K d.at_) cdv A outer s H E).nox d.body t ∧ t { nx := fun _ H' => Q .non H', rt := Q } (start N vs) H) : FnOk P w K mg base CX0 (k + 1) (He.fAd K d.at_) fd ps sp := by
  have e : d.dvs K = [] := by unfold He.DefD.dvs; rw [hd]; rfl
  rw [e] at F
  refine F.ok S len fun cdv A outer s H vs Q E hr hsp => ?_
  obtain ⟨t, h, q⟩ := hbody cdv A outer s H vs Q E hr hsp
  exact ⟨t, h.nox, q⟩
theorem ok_law (T : TX w K mg) {fd : FuncData} (F : FunD K d_law.name d_law.qual d_law.params d_law.body d_law.scope (d_law.dvs K) (d_law.kws K) (He.fAd K d_law.at_) fd) : FnOk P w K mg base CX0 12 (He.fAd K ("law", none)) fd ["_law_script"] (sp_law K) := by
  refine fnOk_of F rfl sc_law (fun vs H Q E h => ?_) (fun cdv A outer s H vs Q E hr h => ?_)
  · obtain ⟨a, ns, rfl, _⟩ := h
    rfl
  · obtain ⟨a, sc, rfl, ha, k⟩ := h
    refine ⟨_, (pss_cons (ps_set (i := 1) sc_law.nd rfl (by first | exact .inl rfl | exact .inr rfl) (pe_fx (ok_l_choir (P := P) T) (hr.mono (by decide)) (by rfl) (T.g "_law_choir") (pa_cons (pv 0) pa_nil)))
  (pss_cons (ps_for PassesOwn.never rfl (pi_range1 (by rfl) (T.f "range") (pa_cons pe_int pa_nil)) (pg_name (i := 2) sc_law.nd rfl (by first | exact .inl rfl | exact .inr rfl))
  (pss_cons (ps_par3 (i := 3) (j := 4) (l := 5) (by rfl) sc_law.nd rfl rfl rfl (by decide) (by decide) (by decide) rfl rfl rfl (pa_cons (pe_fx (ok_l_names (P := P) T) (hr.mono (by decide)) (by rfl) (T.g "_law_names") (pa_cons (pv 1) pa_nil)) (pa_cons (pe_fx (ok_l_chant (P := P) T) (hr.mono (by decide)) (by rfl) (T.g "_law_chant") (pa_cons (pv 1) (pa_cons pe_int pa_nil))) (pa_cons (pe_op op_shl pe_int (pe_fx (ok_l_one (P := P) T) (hr.mono (by decide)) (by rfl) (T.g "_law_one") (pa_cons (pv 1) (pa_cons (pe_lst (pa_cons pe_int (pa_cons pe_int (pa_cons pe_int (pa_cons pe_int pa_nil))))) pa_nil)))) pa_nil))) (by rfl))
  (pss_cons (ps_set (i := 6) sc_law.nd rfl (by first | exact .inl rfl | exact .inr rfl) (pe_fx (ok_l_programs (P := P) T) (hr.mono (by decide)) (by rfl) (T.g "_law_programs") (pa_cons (pv 3) (pa_cons (pe_op op_sub (pe_bits (pv 5)) pe_int) pa_nil))))
  (pss_cons (ps_set (i := 7) sc_law.nd rfl (by first | exact .inl rfl | exact .inr rfl) (pe_ifExp (pt_cmpR (op_ne0 hr.units0) (pv 6) (pe_lst pa_nil) (nomark _)) (pe_fx (ok_l_sought (P := P) T) (hr.mono (by decide)) (by rfl) (T.g "_law_sought") (pa_cons (pv 1) (pa_cons (pv 6) (pa_cons (pv 4) (pa_cons (pv 5) pa_nil))))) (pe_fx (ok_l_items (P := P) T) (hr.mono (by decide)) (by rfl) (T.g "_law_items") (pa_cons (pv 1) pa_nil))))
  (pss_cons (ps_par (i := 8) (j := 9) (by rfl) sc_law.nd rfl rfl (by decide) rfl rfl (pa_cons (pe_kx (T.mkr "Puzzle") (ok_Puzzle_init T) (hr.mono (by decide)) (by rfl) (T.g "Puzzle") (pa_cons (pe_join pe_str (pv 7)) pa_nil)) (pa_cons (pe_fx (ok_l_alike (P := P) T) (hr.mono (by decide)) (by rfl) (T.g "_law_alike") (pa_cons (pv 1) (pa_cons (pv 3) pa_nil))) pa_nil)) (by rfl))
  (pss_cons (ps_set (i := 10) sc_law.nd rfl (by first | exact .inl rfl | exact .inr rfl) (pe_fx (ok_l_tick (P := P) T) (hr.mono (by decide)) (by rfl) (T.g "_law_tick") (pa_cons (pv 6) (pa_cons (pv 5) (pa_cons (pe_callB call_len_seq (by rfl) (T.f "len") PySem.boot_len (pa_cons (pv 6) pa_nil)) pa_nil)))))
  (pss_cons (ps_if (pt_cmpR op_eq (pv 10) pe_int (nomark _)) (pss_one ps_continue) pss_nil)
  (pss_cons (ps_par (i := 11) (j := 12) (by rfl) sc_law.nd rfl rfl (by decide) rfl rfl (pa_cons (pe_fx (ok_find (P := P) T) (hr.mono (by decide)) (by rfl) (T.g "find") (pa_cons (pe_kx (T.mkr "Tongue") (ok_Tongue_init T) (hr.mono (by decide)) (by rfl) (T.g "Tongue") (pa_cons (pv 3) pa_nil)) (pa_cons (pv 8) (pa_cons (pv 4) (pa_cons (pv 10) pa_nil))))) (pa_cons (pe_fx (ok_find (P := P) T) (hr.mono (by decide)) (by rfl) (T.g "find") (pa_cons (pe_kx (T.mkr "Tongue") (ok_Tongue_init T) (hr.mono (by decide)) (by rfl) (T.g "Tongue") (pa_cons (pv 9) pa_nil)) (pa_cons (pv 8) (pa_cons (pv 4) (pa_cons (pv 10) pa_nil))))) pa_nil)) (by rfl))
  (pss_cons (ps_if (pt_cmpR op_ne (pe_callB call_isi (by rfl) (T.f "isinstance") bt_isinstance (pa_cons (pv 11) (pa_cons (pe_gr (by rfl) (T.g "Found")) pa_nil))) (pe_callB call_isi (by rfl) (T.f "isinstance") bt_isinstance (pa_cons (pv 12) (pa_cons (pe_gr (by rfl) (T.g "Found")) pa_nil))) (nomark _)) (pss_one (ps_ret pe_bl)) pss_nil)
  (pss_cons (ps_if (pt_val (pe_callB call_isi (by rfl) (T.f "isinstance") bt_isinstance (pa_cons (pv 11) (pa_cons (pe_gr (by rfl) (T.g "Found")) pa_nil)))) (pss_cons (ps_set (i := 13) sc_law.nd rfl (by first | exact .inl rfl | exact .inr rfl) (pe_fx (ok_l_due (P := P) T) (hr.mono (by decide)) (by rfl) (T.g "_law_due") (pa_cons (pv 3) (pa_cons (pv 11) pa_nil))))
  (pss_cons (ps_if (PW.pt (pw_or (pt_cmpR op_ne (pv 13) (pe_fx (ok_l_due (P := P) T) (hr.mono (by decide)) (by rfl) (T.g "_law_due") (pa_cons (pv 9) (pa_cons (pv 12) pa_nil))) (nomark _)) (pw_or1 (pt_cmpR op_gt (pv 13) (pv 5) (nomark _))))) (pss_one (ps_ret pe_bl)) pss_nil)
  (pss_cons (ps_par (i := 14) (j := 15) (by rfl) sc_law.nd rfl rfl (by decide) rfl rfl (pa_cons (pe_op op_add (pe_fx (ok_l_tick (P := P) T) (hr.mono (by decide)) (by rfl) (T.g "_law_tick") (pa_cons (pv 6) (pa_cons (pe_op op_sub (pv 13) pe_int) (pa_cons (pe_callB call_len_seq (by rfl) (T.f "len") PySem.boot_len (pa_cons (pv 6) pa_nil)) pa_nil)))) pe_int) (pa_cons (pe_fx (ok_l_tick (P := P) T) (hr.mono (by decide)) (by rfl) (T.g "_law_tick") (pa_cons (pv 6) (pa_cons (pv 13) (pa_cons (pe_callB call_len_seq (by rfl) (T.f "len") PySem.boot_len (pa_cons (pv 6) pa_nil)) pa_nil)))) pa_nil)) (by rfl))
  (pss_one (ps_if (PW.pt (pw_or (pt_not (pt_chain op_le op_le (pv 14) (pe_fld (pv 11) rfl) (pv 15))) (pw_or1 (pt_not (pt_chain op_le op_le (pv 14) (pe_fld (pv 12) rfl) (pv 15)))))) (pss_one (ps_ret pe_bl)) pss_nil))))) pss_nil)
  (pss_cons (ps_set (i := 16) sc_law.nd rfl (by first | exact .inl rfl | exact .inr rfl) (pe_fx (ok_l_chant (P := P) T) (hr.mono (by decide)) (by rfl) (T.g "_law_chant") (pa_cons (pv 1) (pa_cons pe_int pa_nil))))
  (pss_cons (ps_set (i := 17) sc_law.nd rfl (by first | exact .inl rfl | exact .inr rfl) (pe_op op_cat (pe_op op_cat (pe_slice sl_list (pv 3) po_none (po_some (pv 16))) (pe_lst (pa_cons (pe_op op_add_str (pe_ix ix_list (pv 3) (pv 16) (fun _ _ => rfl)) (pe_ix ix_str pe_str (pe_fx (ok_l_chant (P := P) T) (hr.mono (by decide)) (by rfl) (T.g "_law_chant") (pa_cons (pv 1) (pa_cons pe_int pa_nil))) (fun _ _ => rfl))) pa_nil))) (pe_slice sl_list (pv 3) (po_some (pe_op op_add (pv 16) pe_int)) po_none)))
  (pss_one (ps_if (pt_cmpR op_lt (pe_callB call_len_str (by rfl) (T.f "len") PySem.boot_len (pa_cons (pe_ix ix_list (pv 17) (pv 16) (fun _ _ => rfl)) pa_nil)) pe_int (nomark _)) (pss_cons (ps_set (i := 18) sc_law.nd rfl (by first | exact .inl rfl | exact .inr rfl) (pe_fx (ok_find (P := P) T) (hr.mono (by decide)) (by rfl) (T.g "find") (pa_cons (pe_kx (T.mkr "Tongue") (ok_Tongue_init T) (hr.mono (by decide)) (by rfl) (T.g "Tongue") (pa_cons (pv 17) pa_nil)) (pa_cons (pv 8) (pa_cons (pv 4) (pa_cons pe_int pa_nil))))))
  (pss_cons (ps_set (i := 15) sc_law.nd rfl (by first | exact .inl rfl | exact .inr rfl) (pe_ifExp (pt_val (pe_callB call_isi (by rfl) (T.f "isinstance") bt_isinstance (pa_cons (pv 11) (pa_cons (pe_gr (by rfl) (T.g "Found")) pa_nil)))) (pe_fx (ok_l_due (P := P) T) (hr.mono (by decide)) (by rfl) (T.g "_law_due") (pa_cons (pv 3) (pa_cons (pv 11) pa_nil))) (pe_op op_add (pv 5) pe_int)))
  (pss_one (ps_if (PW.pt (pw_and (pt_val (pe_callB call_isi (by rfl) (T.f "isinstance") bt_isinstance (pa_cons (pv 18) (pa_cons (pe_gr (by rfl) (T.g "Found")) pa_nil)))) (pw_and1 (pt_cmpR op_lt (pe_fx (ok_l_due (P := P) T) (hr.mono (by decide)) (by rfl) (T.g "_law_due") (pa_cons (pv 17) (pa_cons (pv 18) pa_nil))) (pv 15) (nomark _))))) (pss_one (ps_ret pe_bl)) pss_nil)))) pss_nil))))))))))))))
  (pss_one (ps_ret pe_bl)))), ?_⟩
    refine ⟨_, rfl, a, sc, rfl, ha, fun H0 c cl s0 nc hch0 => ?_⟩
    refine ⟨2, rfl, by decide, by decide, for_range (fun i σ H' => (∃ tl : List (Option V), tl.length = 17 ∧ σ = some (.ref a) :: some (.ref c) :: tl) ∧ CH H' c cl (1000 * i)) ⟨⟨_, rfl, rfl⟩, hch0⟩ ?_ ?_⟩
    · rintro i σ H1 hi ⟨⟨tl, htl, rfl⟩, hch1⟩
      match tl, htl with
      | [z2, z3, z4, z5, z6, z7, z8, z9, z10, z11, z12, z13, z14, z15, z16, z17, z18], _ =>
      have hi2 : i < 2 := hi
      generalize hn : 1000 * i = n at hch1
      have hn1 : n ≤ 1000 := by omega
      refine ⟨_, rfl, c, cl, n, rfl, hch1, by omega, fun H2 l ns s2 nl hch2 hl hok hap => ?_⟩
      refine ⟨_, rfl, c, cl, 21, _, rfl, hch2, by decide, by decide, by omega, fun H3 g s3 hch3 hg => ?_⟩
      refine ⟨_, rfl, (show 4 ≤ sizeLine by decide), fun q nq => ?_⟩
      have hch3' := hch3.same (Same.new (o := .lst [V.int 8, V.int 9, V.int 10, V.int 11]) nq)
      refine ⟨c, cl, q, _, _, rfl, hch3', SqL.of upd_same, (hch3.new nq).1.symm, (by intro q; cases q), (show 4 ≤ 16777216 by decide), by omega, fun H4 v s4 hch4 hv => ?_⟩
      obtain ⟨e, rfl, he8, he11⟩ : ∃ e : Nat, v = .int (e : Int) ∧ 8 ≤ e ∧ e ≤ 11 := by
        simp only [List.mem_cons, List.not_mem_nil, or_false] at hv
        rcases hv with rfl | rfl | rfl | rfl
        · exact ⟨8, rfl, by decide, by decide⟩
        · exact ⟨9, rfl, by decide, by decide⟩
        · exact ⟨10, rfl, by decide, by decide⟩
        · exact ⟨11, rfl, by decide, by decide⟩
      have hlc : l ≠ c := (hch1.new nl).1.symm
      have hl4 := s4 _ _ hlc (Same.new nq _ _ (s3 _ _ hlc hl))
      have he2 : (1 : Int) * 2 ^ ((e : Nat) : Int).toNat = ((2 ^ e : Nat) : Int) := by
        rw [Int.one_mul, Int.toNat_natCast, Int.natCast_pow]
        rfl
      have h2e : 2 ^ e ≤ 2 ^ 11 := Nat.pow_le_pow_right (by decide) he11
      have h211 : (2 : Nat) ^ 11 = 2048 := rfl
      refine ⟨_, _, rfl, rfl, ⟨Int.natCast_nonneg _, by omega, by decide⟩, _, _, _, rfl, ?_⟩
      dsimp only
      rw [he2]
      refine ⟨_, rfl, _, rfl, _, rfl, _, _, rfl, rfl, l, ns, e, (by dsimp only; rw [bits_of he8 he11]; rfl), hl4, hok, by omega, fun H5 ra r s5 nra hra hrows => ?_⟩
      have hch5 := hch4.same s5
      have hl5 := s5 _ _ hl4
      have hrl := rows_len hok.kraft hok.ln hrows
      have hprog : ∀ q ∈ r, IsProg q ∧ q.length ≤ 1000 := fun q hq => by
        obtain ⟨p1, p2⟩ := (hrows.mem q).mp hq
        have := plen_ge hok.ln p1
        exact ⟨p1, by omega⟩
      have hgB : Bx ((g : Nat) : Int) := by
        unfold Bx
        omega
      have hrc := hra.ne hch5
      obtain ⟨ps, hps, hpa, hpz⟩ := id hra
      clear hl4 hch4 hch3 hch3' hch2 s4 s3 s2 hch1 nl nq hl hv nra s5
      refine ⟨_, rfl, Nat.zero_le _, fun x nx => ⟨ra, x, _, rfl, rfl, SqL.of (Same.new nx _ _ hpa), upd_same, _, rfl, ?_⟩⟩
      have sx := Same.new (o := .lst []) nx
      have hl6 := sx _ _ hl5
      have hpa6 := sx _ _ hpa
      have hra6 : RowsAt (upd H5 x (.lst [])) ra (lnOf ns) r := ⟨ps, hps, hpa6, fun z hz => ⟨sx _ _ (hpz z hz).1, sx _ _ (hpz z hz).2⟩⟩
      have hch6 := hch5.same sx
      generalize upd H5 x (.lst []) = H6 at hl6 hpa6 hra6 hch6 ⊢
      refine tif_to (fun v H' => ∃ f its, v = .ref f ∧ SameX c H6 H' ∧ f ≠ c ∧ CH H' c cl (n + 425) ∧ H' f = some (.lst (citems its)) ∧ Chk its) ?_ ?_ ?_
      · rintro v H7 ⟨f, its, rfl, s7, hfc, hch7, hf7, hits⟩
        have hl7 := s7 _ _ hlc hl6
        have hra7 := hra6.x hch6 s7
        clear hpa6 hra6 hch6 hl6 s7
        refine ⟨⟨_, rfl⟩, _, rfl, _, f, _, rfl, rfl, .inl (SqL.of hf7), ?_, ?_⟩
        · rw [List.map_map, List.map_map, show (Str.ofString " ").length = 1 by decide +kernel, List.length_map, List.length_map]
          have h1 := sum_le_mul (((fun x : Str => x.length) ∘ S) ∘ Itm.l) 101 its fun it hit => by
            show (S it.l).length ≤ 101
            rw [S_len]
            exact Itm.len (hits.ok it hit)
          have h2 := hits.len
          omega
        rw [join_items]
        refine fun pz dz npz ndz nez => ⟨pz, dz, its, rfl, upd_same, hits, fun H8 t8 s8 nt8 ht8 hp8 => ⟨rfl, ?_⟩⟩
        have sz : Same H7 (upd (upd H7 dz (.own pz)) pz (.ins (He.ga K "Puzzle") dz [])) := (Same.new ndz).new' (by rw [upd_ne (Ne.symm nez)]; exact npz)
        have s78 : Same H7 H8 := s8.same sz npz
        have hpz8 : PzAt K H8 pz its := ⟨dz, t8, hp8, ht8⟩
        have hl8 := s78 _ _ hl7
        have hra8 := hra7.x hch7 s78.x
        have hch8 := hch7.same s78
        clear hra7 hch7 hl7 hf7 s78 sz s8 ht8 hp8 nt8 nez
        refine ⟨_, rfl, _, rfl, c, cl, l, _, ns, rfl, hch8, by omega, hl8, hlc, hok, hap, fun H9 o ms s9 no hch9 ho hok2 hap2 hlne => ⟨_, _, rfl, ?_⟩⟩
        have hoc : o ≠ c := (hch8.new no).1.symm
        have hl9 := s9 _ _ hlc hl8
        have hra9 := hra8.x hch8 s9
        have hpz9 := hpz8.x hch8 s9
        clear hra8 hl8 hch8 hpz8 s9 no
        obtain ⟨ps9, hps9, hpa9, _⟩ := id hra9
        have hpsl : (ps9.map fun z => V.ref z.1).length = r.length := by rw [List.length_map, ← hps9, List.length_map]
        refine ⟨_, rfl, _, rfl, _, rfl, ra, _, rfl, .inl (SqL.of hpa9), ra, lnOf ns, r, 2 ^ e, by rw [hpsl]; rfl, hra9, by omega, fun H10 s10 => ?_⟩
        have hl10 := s10 _ _ hl9
        have hra10 := hra9.x hch9 s10.x
        have hpz10 := hpz9.same s10
        have ho10 := s10 _ _ ho
        have hch10 := hch9.same s10
        clear hra9 hpz9 ho hch9 hl9 hpa9 hps9 hpsl s10
        refine ⟨_, rfl, rfl, _, rfl, ?_⟩
        have hall := dueSum_le hok.kraft hok.ln hrows
        have hn2 : 1000 * (i + 1) = n + 1000 := by omega
        clear hpa hps hpz hn
        by_cases h0 : dueSum (lnOf ns) (2 ^ e) r = 0
        · rw [decide_eq_true (show V.int ((dueSum (lnOf ns) (2 ^ e) r : Nat) : Int) = V.int 0 by rw [h0]; rfl)]
          exact iteT ⟨⟨_, rfl, rfl⟩, hch10.mono (by omega)⟩
        · rw [decide_eq_false (show ¬ V.int ((dueSum (lnOf ns) (2 ^ e) r : Nat) : Int) = V.int 0 from fun q => h0 (by injection q with q; omega))]
          refine iteF ?_
          have hgX : inBox ((g : Nat) : Int) = true := inBox_iff.mpr ⟨by omega, by omega⟩
          refine ⟨_, rfl, fun tg dt ntg ndt net => ⟨tg, dt, l, ns, rfl, upd_same, ?_, hok.len, hok.nm, hap, fun H11 t11 s11 nt11 ht11 hx11 => ⟨rfl, ?_⟩⟩⟩
          · exact ((Same.new ndt).new' (by rw [upd_ne (Ne.symm net)]; exact ntg)) _ _ hl10
          have sA : Same H10 (upd (upd H10 dt (.own tg)) tg (.ins (He.ga K "Tongue") dt [])) := (Same.new ndt).new' (by rw [upd_ne (Ne.symm net)]; exact ntg)
          have s11' : Same H10 H11 := s11.same sA ntg
          have htg : TongueAt K H11 tg ns := ⟨dt, t11, hx11, ht11⟩
          refine ⟨_, rfl, _, rfl, _, rfl, tg, pz, ns, its, _, dueSum (lnOf ns) (2 ^ e) r, rfl, htg, hok, hpz10.same s11', hits, hgX, by omega, by omega, fun H12 v1 s12 res1 => ?_⟩
          have s12' := s11'.trans s12
          have hl12 := s12' _ _ hl10
          have ho12 := s12' _ _ ho10
          have hra12 := hra10.x hch10 s12'.x
          have hpz12 := hpz10.same s12'
          have hch12 := hch10.same s12'
          clear hl10 ho10 hra10 hpz10 hch10 s12' s12 htg s11' sA s11 hx11 ht11 nt11 net ntg ndt
          refine ⟨_, rfl, fun tg dt ntg ndt net => ⟨tg, dt, o, ms, rfl, upd_same, ?_, hok2.len, hok2.nm, hap2, fun H13 t11 s11 nt11 ht11 hx11 => ⟨rfl, ?_⟩⟩⟩
          · exact ((Same.new ndt).new' (by rw [upd_ne (Ne.symm net)]; exact ntg)) _ _ ho12
          have sA : Same H12 (upd (upd H12 dt (.own tg)) tg (.ins (He.ga K "Tongue") dt [])) := (Same.new ndt).new' (by rw [upd_ne (Ne.symm net)]; exact ntg)
          have s11' : Same H12 H13 := s11.same sA ntg
          have htg : TongueAt K H13 tg ms := ⟨dt, t11, hx11, ht11⟩
          refine ⟨_, rfl, _, rfl, _, rfl, tg, pz, ms, its, _, dueSum (lnOf ns) (2 ^ e) r, rfl, htg, hok2, hpz12.same s11', hits, hgX, by omega, by omega, fun H14 v2 s14 res2 => ⟨_, _, rfl, ?_⟩⟩
          have s14' := s11'.trans s14
          have hl14 := s14' _ _ hl12
          have ho14 := s14' _ _ ho12
          have hra14 := hra12.x hch12 s14'.x
          have hpz14 := hpz12.same s14'
          have hch14 := hch12.same s14'
          rw [hlne] at res2
          obtain ⟨b, D, hB⟩ := both_of hok.ln hok.hex hrows (by omega) res1 res2 hch12 s14'.x
          clear hl12 ho12 hra12 hpz12 hch12 s14' s14 htg s11' sA s11 hx11 ht11 nt11 net ntg ndt res1 res2 tg dt t11
          obtain ⟨hBt, hBf, hleast⟩ := id hB
          obtain ⟨⟨ty1, hty1, hk1⟩, ⟨ty2, hty2, hk2⟩⟩ := hB.isF T
          refine ⟨_, rfl, v1, _, ty1, _, b, rfl, .own _, hty1, hk1, _, rfl, v2, _, ty2, _, b, rfl, .own _, hty2, hk2, rfl, _, rfl, ?_⟩
          rw [decide_eq_true rfl]
          refine iteF ?_
          refine ⟨_, rfl, v1, _, ty1, _, b, rfl, .own _, hty1, hk1, _, rfl, ?_⟩
          refine ifs_to (fun σ H' => ∃ y13 y14 y15, σ = [some (.ref a), some (.ref c), some (.int (0 + (i : Int))), some (.ref l), some (.int (g : Int)), some (.int ((2 ^ e : Nat) : Int)), some (.ref ra), some (.ref f), some (.ref pz), some (.ref o), some (.int ((dueSum (lnOf ns) (2 ^ e) r : Nat) : Int)), some v1, some v2, y13, y14, y15, z16, z17, z18] ∧ Same H14 H') ?_ ?_ ?_
          · rintro σ H15 ⟨y13, y14, y15, rfl, s15⟩
            have hl15 := s15 _ _ hl14
            have hpz15 := hpz14.same s15
            have hch15 := hch14.same s15
            refine ⟨_, rfl, c, cl, 8, _, rfl, hch15, by decide, by decide, by omega, fun H16 j s16 hch16 hj => ?_⟩
            have hl16 := s16 _ _ hlc hl15
            have hpz16 := hpz15.x hch15 s16
            have hns8 := hok.len
            obtain ⟨x, hx⟩ : ∃ x, ns[j]? = some x := ⟨_, List.getElem?_eq_getElem (by omega)⟩
            have hx8 := (hok.nm x (List.mem_of_getElem? hx)).2.2
            have hmapl : (ns.map V.str).length = 8 := by rw [List.length_map, hns8]
            have hj8 : j < 8 := hj
            refine ⟨_, rfl, _, rfl, _, rfl, l, _, rfl, SqL.of hl16, fun a2 na2 => ?_⟩
            rw [cut_to (show j ≤ (ns.map V.str).length by omega)]
            have sa2 := Same.new (o := .lst ((ns.map V.str).take j)) na2
            have hch17 := hch16.same sa2
            have hl17 := sa2 _ _ hl16
            have ha17 : upd H16 a2 (.lst ((ns.map V.str).take j)) a2 = some (.lst ((ns.map V.str).take j)) := upd_same
            have ha2c := (hch16.new na2).1.symm
            have hpz17 := hpz16.same sa2
            generalize upd H16 a2 (.lst ((ns.map V.str).take j)) = H17 at sa2 hch17 hl17 ha17 hpz17 ⊢
            refine ⟨_, rfl, _, rfl, l, _, _, _, rfl, rfl, SqL.of hl17, atI_nat (j := j) (by rw [List.getElem?_map, hx]; rfl), _, rfl, c, cl, 2, _, rfl, hch17, by decide, by decide, by omega, fun H18 d s18 hch18 hd => ?_⟩
            obtain ⟨sg, hsg, hsC⟩ : ∃ sg : Nat, atI (Str.ofString "01").cps.toList (d : Int) = some sg ∧ Sign sg := by
              have : d = 0 ∨ d = 1 := by omega
              rcases this with rfl | rfl
              · exact ⟨48, by decide +kernel, .inl rfl⟩
              · exact ⟨49, by decide +kernel, .inr rfl⟩
            refine ⟨_, _, sg, rfl, rfl, by decide +kernel, hsg, _, _, rfl, rfl, ?_, ?_⟩
            · show _ + 1 ≤ _
              exact size24 (by omega)
            have hl18 := s18 _ _ hlc hl17
            have ha18 := s18 _ _ ha2c ha17
            have hpz18 := hpz17.x hch17 s18
            refine ⟨(show 1 ≤ sizeLine by decide), fun a3 na3 => ⟨a2, a3, _, _, rfl, rfl, Same.new na3 _ _ ha18, upd_same, size24 (by rw [List.length_take]; show _ + 1 ≤ _; omega), fun a4 na4 => ?_⟩⟩
            have sa4 := (Same.new (o := .lst [V.str (x ++ ⟨#[sg]⟩)]) na3).new' (o := .lst ((ns.map V.str).take j ++ [V.str (x ++ ⟨#[sg]⟩)])) na4
            have hl19 := sa4 _ _ hl18
            refine ⟨_, rfl, _, rfl, _, _, rfl, rfl, _, rfl, l, _, rfl, SqL.of hl19, fun a5 na5 => ?_⟩
            dsimp only
            rw [show cutV (ns.map V.str) (some ((j : Int) + 1)) none = (ns.map V.str).drop (j + 1) from cut_from (k := j + 1) (by omega)]
            have sa5 := sa4.new' (o := .lst ((ns.map V.str).drop (j + 1))) na5
            refine ⟨a4, a5, _, _, rfl, rfl, Same.new na5 _ _ upd_same, upd_same, size24 (by rw [List.length_append, List.length_take, List.length_drop]; show _ + 1 + _ ≤ _; omega), fun p np => ?_⟩
            have sp := sa5.new' (o := .lst ((ns.map V.str).take j ++ [V.str (x ++ ⟨#[sg]⟩)] ++ (ns.map V.str).drop (j + 1))) np
            have hset : (ns.map V.str).take j ++ [V.str (x ++ ⟨#[sg]⟩)] ++ (ns.map V.str).drop (j + 1) = (ns.set j (x ++ ⟨#[sg]⟩)).map V.str := by
              rw [List.set_eq_take_append_cons_drop, if_pos (by omega), List.map_append, List.map_cons, List.map_take, List.map_drop, List.append_assoc]
              rfl
            have hp19 : upd (upd (upd (upd H18 a3 (.lst [V.str (x ++ ⟨#[sg]⟩)])) a4 (.lst ((ns.map V.str).take j ++ [V.str (x ++ ⟨#[sg]⟩)]))) a5 (.lst ((ns.map V.str).drop (j + 1)))) p (.lst ((ns.map V.str).take j ++ [V.str (x ++ ⟨#[sg]⟩)] ++ (ns.map V.str).drop (j + 1))) p = some (.lst ((ns.set j (x ++ ⟨#[sg]⟩)).map V.str)) := by
              rw [upd_same, hset]
            have hch19 := hch18.same sp
            have hl20 := sp _ _ hl18
            have hpz19 := hpz18.same sp
            have hB19 := (((hB.x hch14 s15.x).x hch15 s16).x hch16 sa2.x).x hch17 s18 |>.x hch18 sp.x
            show gName 17 (.ref p) _ (upd (upd (upd (upd H18 a3 (.lst [V.str (x ++ ⟨#[sg]⟩)])) a4 (.lst ((ns.map V.str).take j ++ [V.str (x ++ ⟨#[sg]⟩)]))) a5 (.lst ((ns.map V.str).drop (j + 1)))) p (.lst ((ns.map V.str).take j ++ [V.str (x ++ ⟨#[sg]⟩)] ++ (ns.map V.str).drop (j + 1)))) _
            generalize upd (upd (upd (upd H18 a3 (.lst [V.str (x ++ ⟨#[sg]⟩)])) a4 (.lst ((ns.map V.str).take j ++ [V.str (x ++ ⟨#[sg]⟩)]))) a5 (.lst ((ns.map V.str).drop (j + 1)))) p (.lst ((ns.map V.str).take j ++ [V.str (x ++ ⟨#[sg]⟩)] ++ (ns.map V.str).drop (j + 1))) = H19 at hp19 hch19 hl20 hpz19 hB19 ⊢
            clear sp sa5 sa4 np na5 na4 na3 hl19 hl18 hl17 hl16 hl15 hl14 hpz18 hpz17 hpz16 hpz15 hpz14 ha18 ha17 s18 sa2 s16 s15 hset hch18 hch17 hch16 hch15 hch14 hB hBt hBf hty1 hty2 ho14 hra14
            have hxs : (x ++ (⟨#[sg]⟩ : Str)).length = x.length + 1 := by rw [len_app]; rfl
            refine ⟨_, rfl, _, rfl, p, _, _, _, rfl, rfl, SqL.of hp19, atI_nat (j := j) (by rw [List.getElem?_map, List.getElem?_set_self (by omega)]; rfl), _, rfl, size24 (by omega), _, _, rfl, rfl, _, rfl, ?_⟩
            by_cases hlt : (x ++ (⟨#[sg]⟩ : Str)).length < 9
            · rw [decide_eq_true (show (((x ++ (⟨#[sg]⟩ : Str)).length : Nat) : Int) < 9 by omega)]
              obtain ⟨g1, g2, g3⟩ := longer_ok hok hap hx rfl hsC hlt
              refine iteT ?_
              generalize ns.set j (x ++ (⟨#[sg]⟩ : Str)) = ls at g1 g2 g3 hp19
              refine ⟨_, rfl, fun tg dt ntg ndt net => ⟨tg, dt, p, ls, rfl, upd_same, ?_, g1.len, g1.nm, g2, fun H20 t11 s11 nt11 ht11 hx11 => ⟨rfl, ?_⟩⟩⟩
              · exact ((Same.new ndt).new' (by rw [upd_ne (Ne.symm net)]; exact ntg)) _ _ hp19
              have sA : Same H19 (upd (upd H19 dt (.own tg)) tg (.ins (He.ga K "Tongue") dt [])) := (Same.new ndt).new' (by rw [upd_ne (Ne.symm net)]; exact ntg)
              have s11' : Same H19 H20 := s11.same sA ntg
              have htg : TongueAt K H20 tg ls := ⟨dt, t11, hx11, ht11⟩
              refine ⟨_, rfl, _, rfl, tg, pz, ls, its, _, 300, rfl, htg, g1, hpz19.same s11', hits, hgX, by decide, by decide, fun H21 v3 s21 res3 => ?_⟩
              have s21' := s11'.trans s21
              have hl21 := s21' _ _ hl20
              have hp21 := s21' _ _ hp19
              have hch21 := hch19.same s21'
              have hB21 := hB19.x hch19 s21'.x
              clear s21' s21 htg s11' sA s11 hx11 ht11 nt11 net ntg ndt hl20 hp19 hch19 hB19 hpz19 tg dt t11
              obtain ⟨ty3, hty3, hk3⟩ := (hB21.isF T).1
              refine ⟨_, rfl, v1, _, ty3, _, b, rfl, .own _, hty3, hk3, _, rfl, ?_⟩
              obtain ⟨hBt, hBf, hleast⟩ := id hB21
              refine tif_to (fun v H' => v = .int ((D : Nat) : Int) ∧ Same H21 H') ?_ ?_ ?_
              · rintro v H22 ⟨rfl, s22⟩
                have hp22 := s22 _ _ hp21
                have hch22 := hch21.same s22
                rcases res3 with ⟨q3, n3, t3, f3, i3⟩ | ⟨f3, i3⟩
                · have f32 := f3.x hch21 s22.x
                  have d3 := i3.bd g1.ln (by decide)
                  obtain ⟨ty4, hty4, hk4⟩ := f32.isF T
                  refine ⟨_, rfl, v3, _, ty4, _, true, rfl, .own _, hty4, hk4, _, rfl, ?_⟩
                  refine iteT ?_
                  refine ⟨_, rfl, _, rfl, p, ls, v3, q3, n3, t3, rfl, hp22, f32, g1, d3.1, d3.2.2.2.2.1, d3.2.2.1, by have := d3.2.2.2.1; omega, fun H23 s23 => ?_⟩
                  have hle := hleast q3 n3 d3.1 d3.2.1 d3.2.2.2.2.2
                  have hmo : n3 * 2 ^ plen (lnOf ns) q3 ≤ n3 * 2 ^ plen (lnOf ls) q3 := Nat.mul_le_mul_left _ (Nat.pow_le_pow_right (by decide) (plen_mono g3 d3.1))
                  refine ⟨_, rfl, _, _, rfl, rfl, _, rfl, ?_⟩
                  rw [decide_eq_false (show ¬ ((n3 * 2 ^ plen (lnOf ls) q3 : Nat) : Int) < ((D : Nat) : Int) by omega)]
                  exact iteF ⟨⟨_, rfl, rfl⟩, (hch22.same s23).mono (by omega)⟩
                · obtain ⟨ty4, hty4, hk4⟩ := (f3.x hch21 s22.x).isF T
                  refine ⟨_, rfl, v3, _, ty4, _, false, rfl, .own _, hty4, hk4, _, rfl, ?_⟩
                  refine iteF ?_
                  exact iteF ⟨⟨_, rfl, rfl⟩, hch22.mono (by omega)⟩
              · intro hb N hN
                obtain ⟨q1, n1, t1, q2, n2, t2, f1, f2, e1, e2, hD1, hDe, hT1, hT2, k1, k2⟩ := hBt hb
                refine ⟨_, rfl, _, rfl, l, ns, v1, q1, n1, t1, rfl, hl21, f1, hok, k1.1, k1.2.1, k1.2.2.1, by omega, fun H22 s22 => ?_⟩
                rw [e1]
                exact hN _ _ ⟨rfl, s22⟩
              · intro hb N hN
                have hD := (hBf hb).2.2
                refine ⟨_, rfl, _, _, rfl, rfl, hN _ _ ⟨?_, Same.refl _⟩⟩
                rw [hD]
                rfl
            · rw [decide_eq_false (show ¬ (((x ++ (⟨#[sg]⟩ : Str)).length : Nat) : Int) < 9 by omega)]
              exact iteF ⟨⟨_, rfl, rfl⟩, hch19.mono (by omega)⟩
          · intro hb N hN
            subst hb
            obtain ⟨q1, n1, t1, q2, n2, t2, f1, f2, e1, e2, hD1, hDe, hT1, hT2, k1, k2⟩ := hBt rfl
            refine ⟨_, rfl, _, rfl, l, ns, v1, q1, n1, t1, rfl, hl14, f1, hok, k1.1, k1.2.1, k1.2.2.1, by omega, fun H15 s15 => ?_⟩
            rw [e1]
            have f25 := f2.x hch14 s15.x
            have ho15 := s15 _ _ ho14
            rw [← hlne] at e2 k2
            refine ⟨_, rfl, _, rfl, _, rfl, o, ms, v2, q2, n2, t2, rfl, ho15, f25, hok2, k2.1, k2.2.1, k2.2.2.1, by omega, fun H16 s16 => ?_⟩
            rw [e2]
            have s16' := s15.trans s16
            have hra16 := hra14.x hch14 s16'.x
            refine ⟨rfl, _, rfl, ?_⟩
            rw [decide_eq_true rfl]
            refine iteF ⟨_, rfl, _, rfl, _, _, rfl, rfl, _, rfl, ?_⟩
            rw [decide_eq_false (show ¬ ((2 ^ e : Nat) : Int) < ((D : Nat) : Int) by omega)]
            refine iteF ?_
            have f16 := f1.x hch14 s16'.x
            have f26 := f2.x hch14 s16'.x
            clear f1 f2 f25 ho15 s15 s16
            obtain ⟨vs16, hv16, hl16⟩ := hra16.len
            refine ⟨_, rfl, _, rfl, _, _, rfl, rfl, _, rfl, ra, _, rfl, .inl (SqL.of hv16), ra, lnOf ns, r, D - 1, ?_, hra16, by omega, fun H17 s17 => ?_⟩
            · rw [hl16]
              show [V.ref ra, V.int ((D : Int) - 1), _] = _
              rw [show ((D : Nat) : Int) - 1 = ((D - 1 : Nat) : Int) by omega]
            have hra17 := hra16.x (hch14.same s16') s17.x
            refine ⟨_, _, rfl, rfl, _, rfl, _, rfl, _, rfl, ra, _, rfl, .inl (SqL.of (s17 _ _ hv16)), ra, lnOf ns, r, D, by rw [hl16]; rfl, hra17, by omega, fun H18 s18 => ⟨_, _, rfl, ?_⟩⟩
            have s18' := s16'.trans (s17.trans s18)
            obtain ⟨x1, dx1, b1, tp1, a1, rfl, hx1, _⟩ := f16.x (hch14.same s16') (s17.trans s18).x
            obtain ⟨x2, dx2, b2, tp2, a2, rfl, hx2, _⟩ := f26.x (hch14.same s16') (s17.trans s18).x
            have cF := T.cls "Found"
            have nF := T.na "Found" "tick"
            refine ⟨_, rfl, _, rfl, x1, _, dx1, _, _, rfl, hx1, cF, nF, lk_Found_tick, _, _, rfl, rfl, _, rfl, ?_⟩
            rw [decide_eq_true (show ((dueSum (lnOf ns) (D - 1) r : Nat) : Int) + 1 ≤ (t1 : Int) by omega)]
            refine iteT ⟨_, rfl, _, _, rfl, rfl, _, rfl, ?_⟩
            rw [decide_eq_true (show (t1 : Int) ≤ ((dueSum (lnOf ns) D r : Nat) : Int) by omega)]
            refine iteF ⟨_, rfl, _, rfl, x2, _, dx2, _, _, rfl, hx2, cF, nF, lk_Found_tick, _, _, rfl, rfl, _, rfl, ?_⟩
            rw [decide_eq_true (show ((dueSum (lnOf ns) (D - 1) r : Nat) : Int) + 1 ≤ (t2 : Int) by omega)]
            refine iteT ⟨_, rfl, _, _, rfl, rfl, _, rfl, ?_⟩
            rw [decide_eq_true (show (t2 : Int) ≤ ((dueSum (lnOf ns) D r : Nat) : Int) by omega)]
            refine iteF (hN _ _ ⟨_, _, _, rfl, s18'⟩)
          · intro hb
            exact ⟨_, _, _, rfl, Same.refl _⟩
      · intro hb N hN
        have hrne : r ≠ [] := fun q => by
          have hp0 : ps = [] := by
            rw [q] at hps
            exact List.map_eq_nil_iff.mp hps
          subst hp0
          cases hb
        exact ⟨_, rfl, _, rfl, _, rfl, _, rfl, c, cl, ra, _, 2 ^ e, _, _, r, rfl, hch6, by omega, hra6, hrne, by omega, hprog, hgB, by omega, fun H7 f its s7 nf hch7 hf hc => hN _ _ ⟨f, its, rfl, s7, (hch6.new nf).1.symm, hch7.mono (by omega), hf, hc⟩⟩
      · intro hb N hN
        exact ⟨_, rfl, c, cl, _, rfl, hch6, by omega, fun H7 f its s7 nf hch7 hf hc => hN _ _ ⟨f, its, rfl, s7, (hch6.new nf).1.symm, hch7.mono (by omega), hf, hc⟩⟩
    · rintro σ H1 ⟨⟨tl, htl, rfl⟩, hch1⟩
      exact k _
end
end K53
end TK53AQ

section TK53AZ
set_option maxHeartbeats 0
namespace K53
open PySem PySem.Spec PyProof.Rows L2
instance pmI : PM (PySem.Challenge.rw_duetickers_k53_whole_names_of_the_same_l).prog where
  file := by rfl
  top := by kernel_rfl
theorem facts {w : World} {K : PySem.W.Frag} {h : Heap} {mg : Str → Option Value} {f : Addr} (X : K.In h) (G : h.Ns mainGlobals mg) (hfa : mg ("law" : Str) = some (.ref f)) (c : He.SaysT fa fn ts w K ∧ ex K = true ∧ cs.map (fun d => fnC K d.at_) = cs.map valC) :
    ∃ fd : FuncData, (∀ (s : Shared) (v : Value), BindsTo s fd ⟨[v], []⟩ [("_law_script", v)]) ∧ ∀ base : Heap, K.In base → base.Ns mainGlobals mg → FnOk (PySem.Challenge.rw_duetickers_k53_whole_names_of_the_same_l).prog w K mg base CX0 12 f fd ["_law_script"] (sp_law K) := by
  have T : TX w K mg := ⟨⟨h, X, G⟩, c.1, c.2.1, c.2.2⟩
  obtain ⟨fd, F⟩ := T.qd_law
  have e := hfa.symm.trans (T.g "law")
  cases e
  have b := FunD.bindsA (ps := ["_law_script"]) F fun _ _ _ _ _ _ us hl => match us, hl with | [_], _ => rfl
  exact ⟨fd, fun s v => b s [v] rfl, fun base _ _ => ok_law T F⟩
end K53
open PySem PySem.W PySem.Calls PyProof.Rows
theorem PySem.Challenge.cw_duetickers_k53_whole_names_of_the_same_l_holds : PySem.Challenge.rw_duetickers_k53_whole_names_of_the_same_l.Holds := by
  w_on; o_law
  refine HandSHeadRun.head_any (r := OpenLaw.row PySem.Challenge.rw_duetickers_k53_whole_names_of_the_same_l) (q := view (OpenLaw.row PySem.Challenge.rw_duetickers_k53_whole_names_of_the_same_l).prog [94]) (H := K53H.hk) (ob := K53H.ob) (M := 8000) (loose := K53H.names) (d := HandSHeadRun.topDef (OpenLaw.row PySem.Challenge.rw_duetickers_k53_whole_names_of_the_same_l).prog 94) (kwd := []) K53H.ob_eq
    (by kernel_rfl) (fun s => by kernel_rfl) K53H.run (by kernel_rfl) (by kernel_rfl) (by kernel_rfl) (by rfl) (by first | assumption | decide +kernel) (by decide +kernel) ⟨rfl, rfl, rfl, rfl, rfl, by decide +kernel⟩ ?hw ?hc
  case hw => w_witness2
  case hc =>
    refine L2.walk_ofE (l := PySem.Challenge.rw_duetickers_k53_whole_names_of_the_same_l) (n := 63) (k := 12) (x := "_law_script") (CX := L2.CX0) rfl (by decide) (by kernel_rfl) ⟨rfl, by decide, by decide⟩ ?F (fun _ _ _ _ z => z)
    intro w mg fa h Y G hmg0
    obtain ⟨K, KX, c⟩ := Y
    have hmg : mg ("law" : PySem.Str) = some (.ref fa) := by
      have e : (HandSHeadRun.topDef (OpenLaw.row PySem.Challenge.rw_duetickers_k53_whole_names_of_the_same_l).prog 94).name = ("law" : PySem.Str) := by kernel_rfl
      rw [← e]
      exact hmg0
    obtain ⟨fd, hb, hF⟩ := K53.facts (w := w) KX G hmg c
    exact ⟨K, fd, K53.sp_law K, KX, hb, fun H a ns hl _ hS => ⟨a, ns, rfl, hS, fun _ => rfl⟩, hF⟩
end TK53AZ
